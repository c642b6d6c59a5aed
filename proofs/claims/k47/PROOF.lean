import PyProof.Rows.All
import HandS.ForMost
import HandS.Walk
import HandS.Deep
import HandS.Star
import HandS.Conv
import HandS.Style
import HandS.TupAny
import HandS.Flow
import HandS.More
import HandS.ReCall
import KE.KeyNested
import PyProof.SeqIndex
import KE.DataMinMax
import KE.SortData
import PyProof.ReprRoads
import HandS.TupSets
import KE.KDictKeyed
import HandS.Dict
import KE.KDictPairs
import HandS.Defaults
import PySem.Challenge.RW_hownarrow_k47_whole_rows_above_rows
import Wide.All
import OpenK.AllK
import Wide.FinOn
import HandS.Ends
import HandS.HeadEnd
import KE.KStateDown
import HandS.Head0
import HandS.Head1
import HandS.Head2
import HandS.HeadHook1
import HandS.HeadHook2
set_option Elab.async false
set_option linter.all false
set_option maxRecDepth 100000
set_option maxHeartbeats 2000000
/-! A layer of data above the hand layer: values told as plain data, slots told by data, what an expression gives and what a statement leaves told by predicates on data alone. -/
namespace K47
open PySem PySem.Spec PyProof.Rows L2

/-- a tuple of whose object all is known, and no dict hangs on it -/
def TupN (H : Hp) (a : Addr) (vs : List V) : Prop := ∃ o : Obj, H a = some (.frz o (.tup vs)) ∧ o.dict = none
theorem TupN.sq {K : PySem.W.Frag} {H : Hp} {a : Addr} {vs : List V} (h : TupN H a vs) : SqT K H a vs := let ⟨o, e, _⟩ := h; .inl (.inr ⟨o, e⟩)
theorem TupN.inj {H : Hp} {a : Addr} {vs ws : List V} (h : TupN H a vs) (k : TupN H a ws) : vs = ws := by
  obtain ⟨o, e, _⟩ := h
  obtain ⟨o', e', _⟩ := k
  rw [e] at e'
  have q := Option.some.inj e'
  injection q with _ q
  injection q
mutual
/-- a value that is plain data: None, truths, ints, texts, tuples of such (.list: a pair just yielded) -/
inductive Dt (H : Hp) : V → PyData → Prop
  | non : Dt H .non .none
  | bl (b : Bool) : Dt H (.bl b) (.bool b)
  | int (i : Int) : Dt H (.int i) (.int i)
  | str (x : Str) : Dt H (.str x) (.str x)
  | tup {a : Addr} {vs : List V} {ds : List PyData} : TupN H a vs → Dts H vs ds → Dt H (.ref a) (.tuple ds)
  | lse {a : Addr} {vs : List V} {ds : List PyData} : H a = some (.tup vs) → Dts H vs ds → Dt H (.ref a) (.list ds)
inductive Dts (H : Hp) : List V → List PyData → Prop
  | nil : Dts H [] []
  | cons {v : V} {vs : List V} {d : PyData} {ds : List PyData} : Dt H v d → Dts H vs ds → Dts H (v :: vs) (d :: ds)
end

/-- tuples stay -/
structure KT (H H' : Hp) : Prop where
  t : ∀ a xs, H a = some (.tup xs) → H' a = some (.tup xs)
  f : ∀ a o u, H a = some (.frz o u) → H' a = some (.frz o u)
theorem TupN.keep {H H' : Hp} (k : KT H H') {a : Addr} {vs : List V} (h : TupN H a vs) : TupN H' a vs := let ⟨o, e, d⟩ := h; ⟨o, k.f _ _ _ e, d⟩

mutual
theorem Dt.keep {H H' : Hp} (k : KT H H') : ∀ {d : PyData} {v : V}, Dt H v d → Dt H' v d
  | _, _, .non => .non
  | _, _, .bl b => .bl b
  | _, _, .int i => .int i
  | _, _, .str x => .str x
  | _, _, .tup e t => .tup (e.keep k) (Dts.keep k t)
  | _, _, .lse e t => .lse (k.t _ _ e) (Dts.keep k t)
theorem Dts.keep {H H' : Hp} (k : KT H H') : ∀ {ds : List PyData} {vs : List V}, Dts H vs ds → Dts H' vs ds
  | _, _, .nil => .nil
  | _, _, .cons h t => .cons (Dt.keep k h) (Dts.keep k t)
end
section
variable {H : Hp} {vs ws : List V} {ds es : List PyData}
theorem Dts.len : ∀ {vs : List V} {ds : List PyData}, Dts H vs ds → vs.length = ds.length
  | _, _, .nil => rfl
  | _, _, .cons _ t => by rw [List.length_cons, List.length_cons, Dts.len t]
theorem Dts.app : ∀ {vs ws : List V} {ds es : List PyData}, Dts H vs ds → Dts H ws es → Dts H (vs ++ ws) (ds ++ es)
  | _, _, _, _, .nil, q => q
  | _, _, _, _, .cons h t, q => .cons h (Dts.app t q)
theorem Dts.take : ∀ (n : Nat) {vs : List V} {ds : List PyData}, Dts H vs ds → Dts H (vs.take n) (ds.take n)
  | 0, _, _, _ => by rw [List.take_zero, List.take_zero]; exact .nil
  | _ + 1, _, _, .nil => .nil
  | n + 1, _, _, .cons h t => .cons h (Dts.take n t)
theorem Dts.drop : ∀ (n : Nat) {vs : List V} {ds : List PyData}, Dts H vs ds → Dts H (vs.drop n) (ds.drop n)
  | 0, _, _, q => q
  | _ + 1, _, _, .nil => .nil
  | n + 1, _, _, .cons _ t => Dts.drop n t
theorem Dts.get : ∀ {vs : List V} {ds : List PyData} {i : Nat} {v : V}, Dts H vs ds → vs[i]? = some v → ∃ d, ds[i]? = some d ∧ Dt H v d
  | _, _, _, _, .nil, e => by simp at e
  | _, _, 0, _, .cons h _, e => by
    have e' := Option.some.inj e
    subst e'
    exact ⟨_, rfl, h⟩
  | _, _, i + 1, _, .cons _ t, e => Dts.get (i := i) t (by simpa using e)
theorem Dts.at : ∀ {vs : List V} {ds : List PyData} {i : Nat} {d : PyData}, Dts H vs ds → ds[i]? = some d → ∃ v, vs[i]? = some v ∧ Dt H v d
  | _, _, _, _, .nil, e => by simp at e
  | _, _, 0, _, .cons h _, e => by
    have e' := Option.some.inj e
    subst e'
    exact ⟨_, rfl, h⟩
  | _, _, i + 1, _, .cons _ t, e => Dts.at (i := i) t (by simpa using e)
theorem Dts.set {v : V} {d : PyData} (r : Dt H v d) : ∀ {vs : List V} {ds : List PyData} (i : Nat), Dts H vs ds → Dts H (vs.set i v) (ds.set i d)
  | _, _, _, .nil => .nil
  | _, _, 0, .cons _ t => .cons r t
  | _, _, i + 1, .cons q t => .cons q (Dts.set r i t)
end
mutual
theorem Dt.inj {H : Hp} : ∀ {v : V} {d e : PyData}, Dt H v d → Dt H v e → d = e
  | _, _, _, .non, .non => rfl
  | _, _, _, .bl _, .bl _ => rfl
  | _, _, _, .int _, .int _ => rfl
  | _, _, _, .str _, .str _ => rfl
  | _, _, _, .tup e t, .tup e' t' => by
    have q := e.inj e'
    subst q
    rw [Dts.inj t t']
  | _, _, _, .lse e t, .lse e' t' => by
    rw [e] at e'
    have q : HO.tup _ = HO.tup _ := Option.some.inj e'
    injection q with q
    subst q
    rw [Dts.inj t t']
  | _, _, _, .tup e _, .lse e' _ => by
    obtain ⟨_, e, _⟩ := e
    rw [e] at e'
    cases e'
  | _, _, _, .lse e' _, .tup e _ => by
    obtain ⟨_, e, _⟩ := e
    rw [e] at e'
    cases e'
theorem Dts.inj {H : Hp} : ∀ {vs : List V} {d e : List PyData}, Dts H vs d → Dts H vs e → d = e
  | _, _, _, .nil, .nil => rfl
  | _, _, _, .cons h t, .cons h' t' => by rw [Dt.inj h h', Dts.inj t t']
end

/-! ### the drawing list -/
/-- the list from which the law draws: three ints and a list of ints (at c) -/
def BagAt (H : Hp) (b c : Addr) : Prop := ∃ (n g i : Int) (ns : List Int), H b = some (.lst [.int n, .int g, .int i, .ref c]) ∧ H c = some (.lst (ns.map V.int)) ∧
  c ≠ b ∧ 0 ≤ n ∧ 0 ≤ g ∧ g < 2147483647 ∧ 0 ≤ i ∧ ns.length ≤ 100 ∧ ∀ x ∈ ns, 0 ≤ x
def BagIn (b : Option Addr) (H : Hp) : Prop := ∀ a, b = some a → ∃ c, BagAt H a c
/-- all but the drawing list stands as it stood -/
structure Fr (b : Option Addr) (H H' : Hp) : Prop where
  all : ∀ a o, some a ≠ b → H a = some o → H' a = some o
  bag : ∀ a, b = some a → ∀ c, BagAt H a c → BagAt H' a c
section
variable {b : Option Addr} {H H1 H2 : Hp}
theorem Fr.refl : Fr b H H := ⟨fun _ _ _ h => h, fun _ _ _ h => h⟩
theorem Fr.trans (f : Fr b H H1) (g : Fr b H1 H2) : Fr b H H2 := ⟨fun a o n h => g.all a o n (f.all a o n h), fun a e c h => g.bag a e c (f.bag a e c h)⟩
theorem Fr.bagIn (f : Fr b H H1) (q : BagIn b H) : BagIn b H1 := fun a e => let ⟨c, h⟩ := q a e; ⟨c, f.bag a e c h⟩
theorem BagIn.lst (q : BagIn b H) {a : Addr} (e : some a = b) : ∃ xs, H a = some (.lst xs) := by
  obtain ⟨_, _, _, _, _, e1, _⟩ := q a e.symm
  exact ⟨_, e1⟩
theorem BagIn.ne (q : BagIn b H) {a : Addr} {o : HO} (h : H a = some o) (n : ∀ xs, o ≠ .lst xs) : some a ≠ b := fun e => by
  obtain ⟨_, e1⟩ := q.lst e
  rw [h] at e1
  exact n _ (Option.some.inj e1)
theorem BagIn.ne_none (q : BagIn b H) {a : Addr} (h : H a = none) : some a ≠ b := fun e => by
  obtain ⟨_, e1⟩ := q.lst e
  rw [h] at e1
  cases e1
theorem Fr.kt (f : Fr b H H1) (q : BagIn b H) : KT H H1 := ⟨fun a xs h => f.all a _ (q.ne h fun _ e => nomatch e) h, fun a o u h => f.all a _ (q.ne h fun _ e => nomatch e) h⟩
theorem Fr.free (f : Fr b H H1) (q : BagIn b H) {a : Addr} (h : H1 a = none) : H a = none := by
  cases e : H a with
  | none => rfl
  | some o =>
    by_cases hb : some a = b
    · obtain ⟨_, e1⟩ := (f.bagIn q).lst hb
      rw [h] at e1
      cases e1
    · rw [f.all a o hb e] at h
      cases h
theorem BagAt.same (s : ∀ a o, H a = some o → H1 a = some o) {a c : Addr} (h : BagAt H a c) : BagAt H1 a c := by
  obtain ⟨n, g, i, ns, e1, e2, r⟩ := h
  exact ⟨n, g, i, ns, s _ _ e1, s _ _ e2, r⟩
/-- where all stands as it stood -/
theorem Fr.same (s : ∀ a o, H a = some o → H1 a = some o) : Fr b H H1 := ⟨fun a o _ h => s a o h, fun _ _ _ h => h.same s⟩
theorem Fr.new {p : Addr} {o : HO} (h : H p = none) : Fr b H (upd H p o) := .same fun a u e => by rw [upd_ne (ne_of_none e h)]; exact e
/-- what H knows nothing of may be changed: all else stands as it stood -/
theorem Fr.mut {p : Addr} {o : HO} (f : Fr b H H1) (h : H p = none) (q : BagIn b H) : Fr b H (upd H1 p o) := by
  refine ⟨fun a u n e => ?_, fun a e c k => ?_⟩
  · rw [upd_ne (ne_of_none e h)]; exact f.all a u n e
  · have k1 := f.bag a e c k
    obtain ⟨_, _, _, _, e1, e2, _⟩ := k
    obtain ⟨n, g, i, ns, e3, e4, r⟩ := k1
    exact ⟨n, g, i, ns, by rw [upd_ne (ne_of_none e1 h)]; exact e3, by rw [upd_ne (ne_of_none e2 h)]; exact e4, r⟩
/-- a list that is told to stand may change: the tuples stay -/
theorem KT.mut {p : Addr} {xs : List V} {o : HO} (h : H p = some (.lst xs)) : KT H (upd H p o) := by
  refine ⟨fun a ys e => ?_, fun a ob u e => ?_⟩
  all_goals
    rw [upd_ne]
    · exact e
    · rintro rfl
      rw [h] at e
      cases e
theorem KT.trans (f : KT H H1) (g : KT H1 H2) : KT H H2 := ⟨fun a xs h => g.t a xs (f.t a xs h), fun a o u h => g.f a o u (f.f a o u h)⟩
theorem KT.refl : KT H H := ⟨fun _ _ h => h, fun _ _ _ h => h⟩
theorem KT.same (s : ∀ a o, H a = some o → H1 a = some o) : KT H H1 := ⟨fun a _ h => s a _ h, fun a _ _ h => s a _ h⟩
theorem KT.new {p : Addr} {o : HO} (h : H p = none) : KT H (upd H p o) := .same fun a u e => by rw [upd_ne (ne_of_none e h)]; exact e
end

/-! ### what a slot holds, what an expression gives -/
inductive Sl where
  /-- nothing is known -/
  | un
  /-- data -/
  | d (x : PyData)
  /-- a list (at a) that is only read -/
  | br (a : Addr) (xs : List PyData)
  /-- a list of one's own -/
  | ow (xs : List PyData)
  /-- the drawing list -/
  | bag
inductive Rs where
  /-- data -/
  | d (x : PyData)
  /-- a list just made -/
  | fr (xs : List PyData)
  /-- a list of the def's own -/
  | ow (xs : List PyData)
  /-- a list that may be read -/
  | ls (xs : List PyData)
  | bag
/-- what a slot's value is to be; Hb: the heap at the def's entry (with what a loop locks) -/
def SlOk (K : PySem.W.Frag) (b : Option Addr) (Hb H : Hp) (o : Option V) : Sl → Prop
  | .un => True
  | .d x => ∃ v, o = some v ∧ Dt H v x
  | .br a xs => o = some (.ref a) ∧ some a ≠ b ∧ ∃ vs, SqL K Hb a vs ∧ Dts Hb vs xs
  | .ow xs => ∃ a vs, o = some (.ref a) ∧ Hb a = none ∧ H a = some (.lst vs) ∧ Dts H vs xs
  | .bag => ∃ a, o = some (.ref a) ∧ b = some a
def RsOk (K : PySem.W.Frag) (b : Option Addr) (Hb H H' : Hp) (v : V) : Rs → Prop
  | .d x => Dt H' v x
  | .fr xs => ∃ a vs, v = .ref a ∧ H a = none ∧ H' a = some (.lst vs) ∧ Dts H' vs xs
  | .ow xs => ∃ a vs, v = .ref a ∧ Hb a = none ∧ H' a = some (.lst vs) ∧ Dts H' vs xs
  | .ls xs => ∃ a vs, v = .ref a ∧ some a ≠ b ∧ SqL K H' a vs ∧ Dts H' vs xs
  | .bag => ∃ a, v = .ref a ∧ b = some a
structure En (K : PySem.W.Frag) (b : Option Addr) (Hb : Hp) (Δ : List Sl) (σ : L2.St) (H : Hp) : Prop where
  bag : BagIn b Hb
  fr : Fr b Hb H
  len : σ.length = Δ.length
  at_ : ∀ (i : Nat) (s : Sl), Δ[i]? = some s → ∃ o, σ[i]? = some o ∧ SlOk K b Hb H o s
  sep : ∀ (i j : Nat) (xs ys : List PyData), i ≠ j → Δ[i]? = some (.ow xs) → Δ[j]? = some (.ow ys) → σ[i]? ≠ σ[j]?
section
variable {K : PySem.W.Frag} {b : Option Addr} {Hb H H1 H2 : Hp} {Δ : List Sl} {σ : L2.St} {v : V} {r : Rs} {s : Sl} {o : Option V}
theorem sql_fr {a : Addr} {vs : List V} (f : Fr b H H1) (n : some a ≠ b) (h : SqL K H a vs) : SqL K H1 a vs := by
  rcases h with (h | ⟨o, h⟩) | h
  · exact .inl (.inl (f.all _ _ n h))
  · exact .inl (.inr ⟨o, f.all _ _ n h⟩)
  · exact .inr h
theorem En.bagH (e : En K b Hb Δ σ H) : BagIn b H := e.fr.bagIn e.bag
theorem SlOk.fr (q : BagIn b Hb) (fb : Fr b Hb H) (f : Fr b H H1) (h : SlOk K b Hb H o s) : SlOk K b Hb H1 o s := by
  have q1 := fb.bagIn q
  cases s with
  | un => trivial
  | d x =>
    obtain ⟨v, e, t⟩ := h
    exact ⟨v, e, t.keep (f.kt q1)⟩
  | br a xs => exact h
  | ow xs =>
    obtain ⟨a, vs, e, n, e1, t⟩ := h
    exact ⟨a, vs, e, n, f.all _ _ (q.ne_none n) e1, t.keep (f.kt q1)⟩
  | bag => exact h
/-- an expression has run -/
theorem En.step (e : En K b Hb Δ σ H) (f : Fr b H H1) : En K b Hb Δ σ H1 :=
  ⟨e.bag, e.fr.trans f, e.len, fun i s h => let ⟨o, e1, e2⟩ := e.at_ i s h; ⟨o, e1, e2.fr e.bag e.fr f⟩, e.sep⟩
theorem RsOk.step {H0 : Hp} (q : BagIn b Hb) (fb : Fr b Hb H1) (f : Fr b H1 H2) (q0 : BagIn b H0) (h : RsOk K b Hb H0 H1 v r) : RsOk K b Hb H0 H2 v r := by
  have q1 := fb.bagIn q
  cases r with
  | d x => exact h.keep (f.kt q1)
  | fr xs =>
    obtain ⟨a, vs, e, n, e1, t⟩ := h
    exact ⟨a, vs, e, n, f.all _ _ (q0.ne_none n) e1, t.keep (f.kt q1)⟩
  | ow xs =>
    obtain ⟨a, vs, e, n, e1, t⟩ := h
    exact ⟨a, vs, e, n, f.all _ _ (q.ne_none n) e1, t.keep (f.kt q1)⟩
  | ls xs =>
    obtain ⟨a, vs, e, n, e1, t⟩ := h
    exact ⟨a, vs, e, n, sql_fr f n e1, t.keep (f.kt q1)⟩
  | bag => exact h
/-- made behind an earlier heap: made behind it too -/
theorem RsOk.back {H0 H0' : Hp} (f : Fr b H0 H0') (q : BagIn b H0) (h : RsOk K b Hb H0' H1 v r) : RsOk K b Hb H0 H1 v r := by
  cases r with
  | fr xs =>
    obtain ⟨a, vs, e, n, t⟩ := h
    exact ⟨a, vs, e, f.free q n, t⟩
  | d x => exact h
  | ow xs => exact h
  | ls xs => exact h
  | bag => exact h
end
end K47
set_option Elab.async false
set_option linter.all false
set_option maxRecDepth 100000
set_option maxHeartbeats 2000000
namespace K47
open PySem PySem.Spec PyProof.Rows L2

/-! ### expressions, tests, arguments, iterables: what they give, told by data -/
def tX (K : PySem.W.Frag) (b : Option Addr) (Hb : Hp) (Δ : List Sl) (P : Rs → Prop) : TE := fun σ H Q => En K b Hb Δ σ H ∧ ∀ v H' r, P r → Fr b H H' → RsOk K b Hb H H' v r → Q v H'
def tT (K : PySem.W.Frag) (b : Option Addr) (Hb : Hp) (Δ : List Sl) (P : Bool → Prop) : TT := fun σ H Q => En K b Hb Δ σ H ∧ ∀ c H', P c → Fr b H H' → Q c H'
inductive RsAll (K : PySem.W.Frag) (b : Option Addr) (Hb H H' : Hp) : List V → List Rs → Prop
  | nil : RsAll K b Hb H H' [] []
  | cons {v : V} {vs : List V} {r : Rs} {rs : List Rs} : RsOk K b Hb H H' v r → RsAll K b Hb H H' vs rs → (∀ xs, r = .fr xs → ∀ (i : Nat) (ys : List PyData) (u : V), rs[i]? = some (.fr ys) → vs[i]? = some u → v ≠ u) → RsAll K b Hb H H' (v :: vs) (r :: rs)
def tA (K : PySem.W.Frag) (b : Option Addr) (Hb : Hp) (Δ : List Sl) (P : List Rs → Prop) : TA := fun σ H Q => En K b Hb Δ σ H ∧ ∀ vs H' rs, P rs → Fr b H H' → RsAll K b Hb H H' vs rs → Q vs H'

abbrev EX (X : Cx) (b : Option Addr) (Hb : Hp) (Δ : List Sl) (e : Expr) (P : Rs → Prop) : Prop := PE X e (tX X.K b Hb Δ P)
/-- it gives just this -/
abbrev ED (X : Cx) (b : Option Addr) (Hb : Hp) (Δ : List Sl) (e : Expr) (r : Rs) : Prop := EX X b Hb Δ e (fun z => z = r)
abbrev TX (X : Cx) (b : Option Addr) (Hb : Hp) (Δ : List Sl) (e : Expr) (P : Bool → Prop) : Prop := PT X e (tT X.K b Hb Δ P)
abbrev TD (X : Cx) (b : Option Addr) (Hb : Hp) (Δ : List Sl) (e : Expr) (c : Bool) : Prop := TX X b Hb Δ e (fun z => z = c)
abbrev AX (X : Cx) (b : Option Addr) (Hb : Hp) (Δ : List Sl) (es : List Expr) (P : List Rs → Prop) : Prop := PA X es (tA X.K b Hb Δ P)
abbrev AD (X : Cx) (b : Option Addr) (Hb : Hp) (Δ : List Sl) (es : List Expr) (rs : List Rs) : Prop := AX X b Hb Δ es (fun z => z = rs)

section
variable {X : Cx} {b : Option Addr} {Hb : Hp} {Δ : List Sl} {e f g : Expr} {pos : Pos} {P P' : Rs → Prop}

theorem pe_imp {t t' : TE} (h : PE X e t) (k : ∀ σ H Q, t' σ H Q → t σ H Q) : PE X e t' := ⟨fun pins s σ H Q I q => h.run pins s σ H Q I (k σ H Q q)⟩
theorem pt_imp {t t' : TT} (h : PT X e t) (k : ∀ σ H Q, t' σ H Q → t σ H Q) : PT X e t' := ⟨fun pins s σ H Q I q => h.run pins s σ H Q I (k σ H Q q)⟩
theorem pw_imp {t t' : TT} (h : PW X e t) (k : ∀ σ H Q, t' σ H Q → t σ H Q) : PW X e t' := ⟨fun wh pins s σ H Q I q => h.run wh pins s σ H Q I (k σ H Q q)⟩
theorem pa_imp {es : List Expr} {t t' : TA} (h : PA X es t) (k : ∀ σ H Q, t' σ H Q → t σ H Q) : PA X es t' := ⟨fun p pins s σ H Q I q => h.run p pins s σ H Q I (k σ H Q q)⟩
theorem EX.imp (h : EX X b Hb Δ e P) (k : ∀ r, P r → P' r) : EX X b Hb Δ e P' := pe_imp h fun _ _ _ q => ⟨q.1, fun v H' r p => q.2 v H' r (k r p)⟩
theorem ED.to {r : Rs} (h : ED X b Hb Δ e r) (k : P r) : EX X b Hb Δ e P := EX.imp h fun z e => by rw [e]; exact k
theorem ED.cast {r r' : Rs} (h : ED X b Hb Δ e r) (k : r = r') : ED X b Hb Δ e r' := k ▸ h
theorem TX.imp {P P' : Bool → Prop} (h : TX X b Hb Δ e P) (k : ∀ r, P r → P' r) : TX X b Hb Δ e P' := pt_imp h fun _ _ _ q => ⟨q.1, fun v H' p => q.2 v H' (k v p)⟩
theorem TD.cast {c c' : Bool} (h : TD X b Hb Δ e c) (k : c = c') : TD X b Hb Δ e c' := k ▸ h

/-! names and constants -/
theorem ed_int {i j pos} : ED X b Hb Δ (.Constant (.int i) j pos) (.d (.int i)) := pe_imp pe_int fun _ H Q q => q.2 _ H _ rfl .refl (.int i)
theorem ed_bl {c j pos} : ED X b Hb Δ (.Constant (.bool c) j pos) (.d (.bool c)) := pe_imp pe_bl fun _ H Q q => q.2 _ H _ rfl .refl (.bl c)
theorem ed_non {j pos} : ED X b Hb Δ (.Constant .none j pos) (.d .none) := pe_imp pe_non fun _ H Q q => q.2 _ H _ rfl .refl .non
theorem ed_str {x j pos} : ED X b Hb Δ (.Constant (.str x) j pos) (.d (.str x)) := pe_imp pe_str fun _ H Q q => q.2 _ H _ rfl .refl (.str x)
/-- what a name gives -/
def rsOf : Sl → Option Rs
  | .un => none
  | .d x => some (.d x)
  | .br _ xs => some (.ls xs)
  | .ow xs => some (.ow xs)
  | .bag => some .bag
theorem slot_rs {K : PySem.W.Frag} {H : Hp} {o : Option V} {s : Sl} {r : Rs} (q : BagIn b Hb) (fb : Fr b Hb H) (h : SlOk K b Hb H o s) (e : rsOf s = some r) : ∃ v, o = some v ∧ RsOk K b Hb H H v r := by
  cases s with
  | un => cases e
  | d x =>
    cases e
    exact h
  | br a xs =>
    cases e
    obtain ⟨e1, n, vs, e2, t⟩ := h
    exact ⟨_, e1, a, vs, rfl, n, sql_fr fb n e2, t.keep (fb.kt q)⟩
  | ow xs =>
    cases e
    obtain ⟨a, vs, e1, r⟩ := h
    exact ⟨_, e1, a, vs, rfl, r⟩
  | bag =>
    cases e
    obtain ⟨a, e1, e2⟩ := h
    exact ⟨_, e1, a, rfl, e2⟩
theorem ed_var (i : Nat) {x : Str} {s : Sl} {r : Rs} (hs : Δ[i]? = some s := by rfl) (hr : rsOf s = some r := by rfl) (hN : X.N[i]? = some x := by rfl) (hv : Vis X.env.scope x := by first | exact Or.inl rfl | exact Or.inr (Or.inl rfl) | exact Or.inr (Or.inr rfl))
    (hd : (x == ("__debug__" : Str)) = false := by decide) (hcd : (x == ("__classdict__" : Str)) = false := by decide) : ED X b Hb Δ (.Name x pos) r := pe_imp (pe_var hN hv hd hcd) fun σ H Q q => by
  obtain ⟨o, e1, e2⟩ := q.1.at_ i s hs
  obtain ⟨v, e3, e4⟩ := slot_rs q.1.bag q.1.fr e2 hr
  subst e3
  exact ⟨v, e1, q.2 v H r rfl .refl e4⟩

/-! operators by values -/
/-- an operator on two results gives one of P -/
def OpD (X : Cx) (b : Option Addr) (Hb : Hp) (r2 : R2) (r s : Rs) (P : Rs → Prop) : Prop := ∀ (H0 H : Hp) (x y : V), BagIn b Hb → Fr b Hb H0 → Fr b H0 H → RsOk X.K b Hb H0 H x r → RsOk X.K b Hb H0 H y s →
  ∀ Q : VK, (∀ z H' t, P t → Fr b H H' → RsOk X.K b Hb H H' z t → Q z H') → r2 x y H Q
theorem ex_op2 {op : Operator} {r2 : R2} {Pa Pb : Rs → Prop} (ho : OpR X (binaryOp op) r2) (ha : EX X b Hb Δ e Pa) (hb : EX X b Hb Δ f Pb) (k : ∀ r s, Pa r → Pb s → OpD X b Hb r2 r s P) : EX X b Hb Δ (.BinOp e op f pos) P :=
  pe_imp (pe_op ho ha hb) fun σ H Q q => ⟨q.1, fun x H1 r p1 f1 k1 => ⟨q.1.step f1, fun y H2 s p2 f2 k2 =>
    have f12 := f1.trans f2
    k r s p1 p2 H H2 x y q.1.bag q.1.fr f12 (k1.step q.1.bag (q.1.fr.trans f1) f2 q.1.bagH) (k2.back f1 q.1.bagH) Q fun z H' t pt f3 k3 => q.2 z H' t pt (f12.trans f3) (k3.back f12 q.1.bagH)⟩⟩
theorem ed_op2 {op : Operator} {r2 : R2} {r s : Rs} {t : Rs} (ho : OpR X (binaryOp op) r2) (k : OpD X b Hb r2 r s (fun z => z = t)) (ha : ED X b Hb Δ e r) (hb : ED X b Hb Δ f s) : ED X b Hb Δ (.BinOp e op f pos) t :=
  ex_op2 ho ha hb fun _ _ e1 e2 => by rw [e1, e2]; exact k
theorem ex_cmp2 {op : CmpOp} {r2 : R2} {Pa Pb : Rs → Prop} (ho : OpR X (compareOp op) r2) (hm : behindInMarks op f = false) (ha : EX X b Hb Δ e Pa) (hb : EX X b Hb Δ f Pb) (k : ∀ r s, Pa r → Pb s → OpD X b Hb r2 r s P) : EX X b Hb Δ (.Compare e [op] [f] pos) P :=
  pe_imp (pe_cmpR ho ha hb hm) fun σ H Q q => ⟨q.1, fun x H1 r p1 f1 k1 => ⟨q.1.step f1, fun y H2 s p2 f2 k2 =>
    have f12 := f1.trans f2
    k r s p1 p2 H H2 x y q.1.bag q.1.fr f12 (k1.step q.1.bag (q.1.fr.trans f1) f2 q.1.bagH) (k2.back f1 q.1.bagH) Q fun z H' t pt f3 k3 => q.2 z H' t pt (f12.trans f3) (k3.back f12 q.1.bagH)⟩⟩
/-- a comparison whose answer is c -/
def CmD (X : Cx) (b : Option Addr) (Hb : Hp) (r2 : R2) (r s : Rs) (c : Bool) : Prop := OpD X b Hb r2 r s (fun z => z = .d (.bool c))
theorem ed_cmp2 {op : CmpOp} {r2 : R2} {r s : Rs} {c : Bool} (ho : OpR X (compareOp op) r2) (k : CmD X b Hb r2 r s c) (ha : ED X b Hb Δ e r) (hb : ED X b Hb Δ f s) (hm : behindInMarks op f = false := by first | exact nomark _ | rfl) : ED X b Hb Δ (.Compare e [op] [f] pos) (.d (.bool c)) :=
  ex_cmp2 ho hm ha hb fun _ _ e1 e2 => by rw [e1, e2]; exact k
theorem td_cmp2 {op : CmpOp} {r2 : R2} {r s : Rs} {c : Bool} (ho : OpR X (compareOp op) r2) (k : CmD X b Hb r2 r s c) (ha : ED X b Hb Δ e r) (hb : ED X b Hb Δ f s) (hm : behindInMarks op f = false := by first | exact nomark _ | rfl) : TD X b Hb Δ (.Compare e [op] [f] pos) c :=
  pt_imp (pt_cmpR ho ha hb hm) fun σ H Q q => ⟨q.1, fun x H1 r p1 f1 k1 => ⟨q.1.step f1, fun y H2 s p2 f2 k2 => by
    subst p1 p2
    have f12 := f1.trans f2
    refine k H H2 x y q.1.bag q.1.fr f12 (k1.step q.1.bag (q.1.fr.trans f1) f2 q.1.bagH) (k2.back f1 q.1.bagH) _ fun z H' t pt f3 k3 => ?_
    subst pt
    cases k3
    exact ⟨c, rfl, q.2 c H' rfl (f12.trans f3)⟩⟩⟩

/-! the operators -/
theorem opd_I0 {gg : Int → Int → V} {i j : Int} {d : PyData} (h : ∀ H, Dt H (gg i j) d) : OpD X b Hb (rI0 gg) (.d (.int i)) (.d (.int j)) (fun z => z = .d d) := fun H0 H x y _ _ _ r s Q q => by
  cases r; cases s
  exact ⟨i, j, rfl, rfl, q _ H _ rfl .refl (h H)⟩
theorem opd_I {C : Int → Int → Prop} {gg : Int → Int → V} {i j : Int} {d : PyData} (hc : C i j) (h : ∀ H, Dt H (gg i j) d) : OpD X b Hb (rI C gg) (.d (.int i)) (.d (.int j)) (fun z => z = .d d) := fun H0 H x y _ _ _ r s Q q => by
  cases r; cases s
  exact ⟨i, j, rfl, rfl, hc, q _ H _ rfl .refl (h H)⟩
theorem ed_add {i j : Int} (ha : ED X b Hb Δ e (.d (.int i))) (hb : ED X b Hb Δ f (.d (.int j))) : ED X b Hb Δ (.BinOp e .Add f pos) (.d (.int (i + j))) := ed_op2 op_add (opd_I0 fun _ => .int _) ha hb
theorem ed_sub {i j : Int} (ha : ED X b Hb Δ e (.d (.int i))) (hb : ED X b Hb Δ f (.d (.int j))) : ED X b Hb Δ (.BinOp e .Sub f pos) (.d (.int (i - j))) := ed_op2 op_sub (opd_I0 fun _ => .int _) ha hb
theorem ed_mul {i j : Int} (ha : ED X b Hb Δ e (.d (.int i))) (hb : ED X b Hb Δ f (.d (.int j))) (hc : CMul i j) : ED X b Hb Δ (.BinOp e .Mult f pos) (.d (.int (i * j))) := ed_op2 op_mul (opd_I hc fun _ => .int _) ha hb
theorem ed_fdiv {i j : Int} (ha : ED X b Hb Δ e (.d (.int i))) (hb : ED X b Hb Δ f (.d (.int j))) (hc : CDiv i j) : ED X b Hb Δ (.BinOp e .FloorDiv f pos) (.d (.int (i / j))) := ed_op2 op_fdiv (opd_I hc fun _ => .int _) ha hb
theorem ed_mod {i j : Int} (ha : ED X b Hb Δ e (.d (.int i))) (hb : ED X b Hb Δ f (.d (.int j))) (hc : 0 < j) : ED X b Hb Δ (.BinOp e .Mod f pos) (.d (.int (i % j))) := ed_op2 op_mod (opd_I hc fun _ => .int _) ha hb
theorem ed_addS {x y : Str} (ha : ED X b Hb Δ e (.d (.str x))) (hb : ED X b Hb Δ f (.d (.str y))) (hz : x.length + y.length ≤ sizeLine) : ED X b Hb Δ (.BinOp e .Add f pos) (.d (.str (x ++ y))) :=
  ed_op2 op_add_str (fun H0 H v w _ _ _ r s Q q => by
    cases r; cases s
    exact ⟨x, y, rfl, rfl, hz, q _ H _ rfl .refl (.str _)⟩) ha hb
theorem cmd_I0 {gg : Int → Int → Bool} {i j : Int} : CmD X b Hb (rI0 fun i j => .bl (gg i j)) (.d (.int i)) (.d (.int j)) (gg i j) := opd_I0 fun _ => .bl _
/-- scalars compared -/
def scD : PyData → Option V
  | .none => some .non
  | .bool c => some (.bl c)
  | .int i => some (.int i)
  | .str x => some (.str x)
  | _ => none
theorem scD_of {H : Hp} {v x : V} {d : PyData} (h : Dt H v d) (e : scD d = some x) : v = x := by
  cases h <;> cases e <;> rfl
theorem cmd_eq {d d' : PyData} {x y : V} (e1 : scD d = some x) (e2 : scD d' = some y) (hs : scal x y = true) : CmD X b Hb rEq (.d d) (.d d') (decide (x = y)) := fun H0 H v w _ _ _ r s Q q => by
  have a1 := scD_of r e1
  have a2 := scD_of s e2
  subst a1 a2
  exact ⟨hs, q _ H _ rfl .refl (.bl _)⟩
theorem cmd_ne {d d' : PyData} {x y : V} (e1 : scD d = some x) (e2 : scD d' = some y) (hs : scal x y = true) : CmD X b Hb rNe (.d d) (.d d') (!decide (x = y)) := fun H0 H v w _ _ _ r s Q q => by
  have a1 := scD_of r e1
  have a2 := scD_of s e2
  subst a1 a2
  exact ⟨hs, q _ H _ rfl .refl (.bl _)⟩
theorem td_lt {i j : Int} (ha : ED X b Hb Δ e (.d (.int i))) (hb : ED X b Hb Δ f (.d (.int j))) : TD X b Hb Δ (.Compare e [.Lt] [f] pos) (decide (i < j)) := td_cmp2 op_lt cmd_I0 ha hb (nobehind _ (by decide) (by decide))
theorem td_le {i j : Int} (ha : ED X b Hb Δ e (.d (.int i))) (hb : ED X b Hb Δ f (.d (.int j))) : TD X b Hb Δ (.Compare e [.LtE] [f] pos) (decide (i ≤ j)) := td_cmp2 op_le cmd_I0 ha hb (nobehind _ (by decide) (by decide))
theorem td_gt {i j : Int} (ha : ED X b Hb Δ e (.d (.int i))) (hb : ED X b Hb Δ f (.d (.int j))) : TD X b Hb Δ (.Compare e [.Gt] [f] pos) (decide (j < i)) := td_cmp2 op_gt cmd_I0 ha hb (nobehind _ (by decide) (by decide))
theorem td_ge {i j : Int} (ha : ED X b Hb Δ e (.d (.int i))) (hb : ED X b Hb Δ f (.d (.int j))) : TD X b Hb Δ (.Compare e [.GtE] [f] pos) (decide (j ≤ i)) := td_cmp2 op_ge cmd_I0 ha hb (nobehind _ (by decide) (by decide))
theorem td_eqI {i j : Int} (ha : ED X b Hb Δ e (.d (.int i))) (hb : ED X b Hb Δ f (.d (.int j))) : TD X b Hb Δ (.Compare e [.Eq] [f] pos) (decide (i = j)) :=
  TD.cast (td_cmp2 op_eq (cmd_eq rfl rfl rfl) ha hb (nobehind _ (by decide) (by decide))) (by simp)
theorem td_neI {i j : Int} (ha : ED X b Hb Δ e (.d (.int i))) (hb : ED X b Hb Δ f (.d (.int j))) : TD X b Hb Δ (.Compare e [.NotEq] [f] pos) (!decide (i = j)) :=
  TD.cast (td_cmp2 op_ne (cmd_ne rfl rfl rfl) ha hb (nobehind _ (by decide) (by decide))) (by simp)
theorem td_eqS {x y : Str} (ha : ED X b Hb Δ e (.d (.str x))) (hb : ED X b Hb Δ f (.d (.str y))) : TD X b Hb Δ (.Compare e [.Eq] [f] pos) (decide (x = y)) :=
  TD.cast (td_cmp2 op_eq (cmd_eq rfl rfl rfl) ha hb (nobehind _ (by decide) (by decide))) (by simp)
theorem td_isN {d : PyData} {j pos'} (ha : ED X b Hb Δ e (.d d)) : TD X b Hb Δ (.Compare e [.Is] [.Constant .none j pos'] pos) (match d with | .none => true | _ => false) :=
  td_cmp2 op_isN (fun H0 H v w _ _ _ r s Q q => by
    cases s
    refine ⟨rfl, q _ H _ rfl .refl ?_⟩
    cases r <;> exact .bl _) ha ed_non (nobehind _ (by decide) (by decide))
theorem td_notN {d : PyData} {j pos'} (ha : ED X b Hb Δ e (.d d)) : TD X b Hb Δ (.Compare e [.IsNot] [.Constant .none j pos'] pos) (match d with | .none => false | _ => true) :=
  td_cmp2 op_notN (fun H0 H v w _ _ _ r s Q q => by
    cases s
    refine ⟨rfl, q _ H _ rfl .refl ?_⟩
    cases r <;> exact .bl _) ha ed_non (nobehind _ (by decide) (by decide))
/-- an expression that is a truth, as a test -/
theorem td_val {c : Bool} (ha : ED X b Hb Δ e (.d (.bool c))) (he : ∀ whole, isTrue e X.env whole = (do let v ← whole; standAt e.pos; holding [v] (truthy v)) := by intro _; rfl) : TD X b Hb Δ e c :=
  pt_imp (pt_val ha he) fun σ H Q q => ⟨q.1, fun x H1 r p1 f1 k1 => by
    subst p1
    cases k1
    exact ⟨c, rfl, q.2 c H1 rfl f1⟩⟩
theorem tx_not {Pb : Bool → Prop} (ha : TX X b Hb Δ e Pb) {P : Bool → Prop} (k : ∀ c, Pb c → P (!c)) : TX X b Hb Δ (.UnaryOp .Not e pos) P := pt_imp (pt_not ha) fun σ H Q q => ⟨q.1, fun c H1 p f1 => q.2 _ H1 (k c p) f1⟩
theorem td_not {c : Bool} (ha : TD X b Hb Δ e c) : TD X b Hb Δ (.UnaryOp .Not e pos) (!c) := tx_not ha fun _ e => by rw [e]
/-- and, or: the tests in a row -/
abbrev TWX (X : Cx) (b : Option Addr) (Hb : Hp) (Δ : List Sl) (e : Expr) (P : Bool → Prop) : Prop := PW X e (tT X.K b Hb Δ P)
theorem twx_one {op : BoolOp} {P : Bool → Prop} (ha : TX X b Hb Δ e P) : TWX X b Hb Δ (.BoolOp op [e] pos) P := by
  cases op with
  | And => exact pw_and1 ha
  | Or => exact pw_or1 ha
theorem twx_and {Pa P : Bool → Prop} {rest : List Expr} (ha : TX X b Hb Δ e Pa) (hb : Pa true → TWX X b Hb Δ (.BoolOp .And (f :: rest) pos) P) (k : Pa false → P false) : TWX X b Hb Δ (.BoolOp .And (e :: f :: rest) pos) P := by
  by_cases h : Pa true
  · exact pw_imp (pw_and ha (hb h)) fun σ H Q q => ⟨q.1, fun c H1 p f1 => by
      cases c with
      | true => exact ⟨q.1.step f1, fun c' H2 p' f2 => q.2 c' H2 p' (f1.trans f2)⟩
      | false => exact q.2 false H1 (k p) f1⟩
  · exact pw_imp (pw_and ha (tB' := fun _ _ _ => False) ⟨fun _ _ _ _ _ _ _ z => z.elim⟩) fun σ H Q q => ⟨q.1, fun c H1 p f1 => by
      cases c with
      | true => exact absurd p h
      | false => exact q.2 false H1 (k p) f1⟩
theorem twx_or {Pa P : Bool → Prop} {rest : List Expr} (ha : TX X b Hb Δ e Pa) (hb : Pa false → TWX X b Hb Δ (.BoolOp .Or (f :: rest) pos) P) (k : Pa true → P true) : TWX X b Hb Δ (.BoolOp .Or (e :: f :: rest) pos) P := by
  by_cases h : Pa false
  · exact pw_imp (pw_or ha (hb h)) fun σ H Q q => ⟨q.1, fun c H1 p f1 => by
      cases c with
      | false => exact ⟨q.1.step f1, fun c' H2 p' f2 => q.2 c' H2 p' (f1.trans f2)⟩
      | true => exact q.2 true H1 (k p) f1⟩
  · exact pw_imp (pw_or ha (tB' := fun _ _ _ => False) ⟨fun _ _ _ _ _ _ _ z => z.elim⟩) fun σ H Q q => ⟨q.1, fun c H1 p f1 => by
      cases c with
      | false => exact absurd p h
      | true => exact q.2 true H1 (k p) f1⟩
theorem twd_one {op : BoolOp} {c : Bool} (ha : TD X b Hb Δ e c) : TWX X b Hb Δ (.BoolOp op [e] pos) (fun z => z = c) := twx_one ha
theorem twd_and {c d : Bool} {rest : List Expr} (ha : TD X b Hb Δ e c) (hb : c = true → TWX X b Hb Δ (.BoolOp .And (f :: rest) pos) (fun z => z = d)) : TWX X b Hb Δ (.BoolOp .And (e :: f :: rest) pos) (fun z => z = (c && d)) :=
  twx_and ha (fun h => by
    have h' : c = true := h.symm
    rw [h', Bool.true_and]
    exact hb h') fun h => by
    have h' : c = false := h.symm
    rw [h', Bool.false_and]
theorem twd_or {c d : Bool} {rest : List Expr} (ha : TD X b Hb Δ e c) (hb : c = false → TWX X b Hb Δ (.BoolOp .Or (f :: rest) pos) (fun z => z = d)) : TWX X b Hb Δ (.BoolOp .Or (e :: f :: rest) pos) (fun z => z = (c || d)) :=
  twx_or ha (fun h => by
    have h' : c = false := h.symm
    rw [h', Bool.false_or]
    exact hb h') fun h => by
    have h' : c = true := h.symm
    rw [h', Bool.true_or]
theorem td_and {c d : Bool} (ha : TD X b Hb Δ e c) (hb : c = true → TD X b Hb Δ f d) : TD X b Hb Δ (.BoolOp .And [e, f] pos) (c && d) := (twd_and ha fun h => twd_one (hb h)).pt
theorem td_or {c d : Bool} (ha : TD X b Hb Δ e c) (hb : c = false → TD X b Hb Δ f d) : TD X b Hb Δ (.BoolOp .Or [e, f] pos) (c || d) := (twd_or ha fun h => twd_one (hb h)).pt
/-- a if t else b -/
theorem ex_if {Pc : Bool → Prop} (hc : TX X b Hb Δ e Pc) (ha : Pc true → EX X b Hb Δ f P) (hb : Pc false → EX X b Hb Δ g P) : EX X b Hb Δ (.IfExp e f g pos) P := by
  have go : ∀ {tf tg : TE}, PE X f tf → PE X g tg → (Pc true → ∀ σ H Q, tX X.K b Hb Δ P σ H Q → tf σ H Q) → (Pc false → ∀ σ H Q, tX X.K b Hb Δ P σ H Q → tg σ H Q) → EX X b Hb Δ (.IfExp e f g pos) P := fun {tf tg} h1 h2 k1 k2 =>
    pe_imp (pe_ifExp hc h1 h2) fun σ H Q q => ⟨q.1, fun c H1 p f1 => by
      have q1 : tX X.K b Hb Δ P σ H1 Q := ⟨q.1.step f1, fun v H' r pr f2 k => q.2 v H' r pr (f1.trans f2) (k.back f1 q.1.bagH)⟩
      cases c with
      | true => exact k1 p σ H1 Q q1
      | false => exact k2 p σ H1 Q q1⟩
  have nev : ∀ {x : Expr}, PE X x (fun _ _ _ => False) := ⟨fun _ _ _ _ _ _ z => z.elim⟩
  by_cases h1 : Pc true
  · by_cases h2 : Pc false
    · exact go (ha h1) (hb h2) (fun _ _ _ _ z => z) fun _ _ _ _ z => z
    · exact go (ha h1) nev (fun _ _ _ _ z => z) fun z => absurd z h2
  · by_cases h2 : Pc false
    · exact go nev (hb h2) (fun z => absurd z h1) fun _ _ _ _ z => z
    · exact go nev nev (fun z => absurd z h1) fun z => absurd z h2
theorem ed_if {c : Bool} {r : Rs} (hc : TD X b Hb Δ e c) (ha : c = true → ED X b Hb Δ f r) (hb : c = false → ED X b Hb Δ g r) : ED X b Hb Δ (.IfExp e f g pos) r := ex_if hc (fun h => ha h.symm) fun h => hb h.symm
end
end K47
set_option Elab.async false
set_option linter.all false
set_option maxRecDepth 100000
set_option maxHeartbeats 2000000
namespace K47
open PySem PySem.Spec PyProof.Rows L2

section
variable {X : Cx} {b : Option Addr} {Hb : Hp} {Δ : List Sl} {e f g : Expr} {es : List Expr} {pos : Pos} {P P' : Rs → Prop} {K : PySem.W.Frag} {H H1 H2 H0 : Hp}

/-! ### arguments -/
theorem RsAll.step {vs : List V} {rs : List Rs} (q : BagIn b Hb) (fb : Fr b Hb H1) (f : Fr b H1 H2) (q0 : BagIn b H0) (h : RsAll K b Hb H0 H1 vs rs) : RsAll K b Hb H0 H2 vs rs := by
  induction h with
  | nil => exact .nil
  | cons h _ n ih => exact .cons (h.step q fb f q0) ih n
theorem RsAll.back {H0' : Hp} {vs : List V} {rs : List Rs} (f : Fr b H0 H0') (q : BagIn b H0) (h : RsAll K b Hb H0' H1 vs rs) : RsAll K b Hb H0 H1 vs rs := by
  induction h with
  | nil => exact .nil
  | cons h _ n ih => exact .cons (h.back f q) ih n
theorem RsAll.get {vs : List V} {rs : List Rs} (h : RsAll K b Hb H0 H1 vs rs) : ∀ (i : Nat) (r : Rs), rs[i]? = some r → ∃ v, vs[i]? = some v ∧ RsOk K b Hb H0 H1 v r := by
  induction h with
  | nil => intro i r e; simp at e
  | cons h _ _ ih =>
    intro i r e
    cases i with
    | zero =>
      have e' := Option.some.inj e
      subst e'
      exact ⟨_, rfl, h⟩
    | succ i =>
      obtain ⟨v, e1, e2⟩ := ih i r (by simpa using e)
      exact ⟨v, by simpa using e1, e2⟩
theorem RsAll.len {vs : List V} {rs : List Rs} (h : RsAll K b Hb H0 H1 vs rs) : vs.length = rs.length := by
  induction h with
  | nil => rfl
  | cons _ _ _ ih => rw [List.length_cons, List.length_cons, ih]
theorem ax_nil {P : List Rs → Prop} (k : P []) : AX X b Hb Δ [] P := pa_imp pa_nil fun σ H Q q => q.2 [] H [] k .refl .nil
theorem ax_cons {Pa : Rs → Prop} {Pr P : List Rs → Prop} (ha : EX X b Hb Δ e Pa) (hr : AX X b Hb Δ es Pr) (k : ∀ r rs, Pa r → Pr rs → P (r :: rs)) (hs : starEach (e :: es) X.env = (false, eval e X.env) :: starEach es X.env := by rfl) : AX X b Hb Δ (e :: es) P :=
  pa_imp (pa_cons ha hr hs) fun σ H Q q => ⟨q.1, fun v H1 r p1 f1 k1 => ⟨q.1.step f1, fun vs H2 rs p2 f2 k2 =>
    q.2 (v :: vs) H2 (r :: rs) (k r rs p1 p2) (f1.trans f2) (.cons (k1.step q.1.bag (q.1.fr.trans f1) f2 q.1.bagH) (k2.back f1 q.1.bagH) fun xs er i ys u ei eu z => by
      subst er z
      obtain ⟨a, ws, e1, _, e3, _⟩ := k1
      obtain ⟨u', e4, k4⟩ := k2.get i _ ei
      rw [eu] at e4
      have e5 := Option.some.inj e4
      subst e5
      obtain ⟨a', ws', e6, n6, _⟩ := k4
      rw [e1] at e6
      have e7 := V.ref.inj e6
      subst e7
      rw [e3] at n6
      cases n6)⟩⟩
theorem ad_nil : AD X b Hb Δ [] [] := ax_nil rfl
theorem ad_cons {r : Rs} {rs : List Rs} (ha : ED X b Hb Δ e r) (hr : AD X b Hb Δ es rs) (hs : starEach (e :: es) X.env = (false, eval e X.env) :: starEach es X.env := by rfl) : AD X b Hb Δ (e :: es) (r :: rs) :=
  ax_cons ha hr (fun _ _ e1 e2 => by rw [e1, e2]) hs
theorem rsAll_d {vs : List V} {ds : List PyData} (h : Dts H1 vs ds) : RsAll K b Hb H0 H1 vs (ds.map Rs.d) := by
  induction ds generalizing vs with
  | nil => cases h; exact .nil
  | cons d ds ih =>
    cases h with
    | cons h t => exact .cons h (ih t) fun _ e => nomatch e
theorem rsAll_dts {vs : List V} {ds : List PyData} (h : RsAll K b Hb H0 H1 vs (ds.map Rs.d)) : Dts H1 vs ds := by
  induction ds generalizing vs with
  | nil => cases h; exact .nil
  | cons d ds ih =>
    cases h with
    | cons h t _ => exact .cons h (ih t)
theorem rsAll_app {vs ws : List V} {rs : List Rs} {ds : List PyData} (h : Dts H1 vs ds) (t : RsAll K b Hb H0 H1 ws rs) : RsAll K b Hb H0 H1 (vs ++ ws) (ds.map Rs.d ++ rs) := by
  induction ds generalizing vs with
  | nil => cases h; exact t
  | cons d ds ih =>
    cases h with
    | cons h u => exact .cons h (ih u) fun _ e => nomatch e
theorem ad_star {ds : List PyData} {rs : List Rs} {p : Pos} (ha : ED X b Hb Δ e (.d (.tuple ds))) (hr : AD X b Hb Δ es rs) : AD X b Hb Δ (.Starred e p :: es) (ds.map Rs.d ++ rs) :=
  pa_imp (StX.pa_star ha hr) fun σ H Q q => ⟨q.1, fun v H1 r p1 f1 k1 => by
    subst p1
    cases k1 with
    | tup e1 t1 =>
      refine ⟨_, _, rfl, .inl e1.sq, q.1.step f1, fun vs H2 rs' p2 f2 k2 => ?_⟩
      subst p2
      exact q.2 _ H2 _ rfl (f1.trans f2) (rsAll_app (t1.keep (f2.kt (q.1.step f1).bagH)) (k2.back f1 q.1.bagH))⟩

/-- results that are all data -/
def ddOf : List Rs → Option (List PyData)
  | [] => some []
  | .d x :: r => match ddOf r with
    | some ds => some (x :: ds)
    | none => none
  | _ :: _ => none
theorem ddOf_eq : ∀ {rs : List Rs} {ds : List PyData}, ddOf rs = some ds → rs = ds.map Rs.d
  | [], _, h => by
    have e := Option.some.inj h
    subst e; rfl
  | .d x :: r, ds, h => by
    unfold ddOf at h
    split at h
    · rename_i ds' e
      have e2 := Option.some.inj h
      subst e2
      rw [ddOf_eq e]; rfl
    · cases h
  | .fr _ :: _, _, h => nomatch h
  | .ow _ :: _, _, h => nomatch h
  | .ls _ :: _, _, h => nomatch h
  | .bag :: _, _, h => nomatch h
/-! ### tuples and lists made -/
/-- a tuple's display, the object known -/
def tTupN (t : TA) : TE := fun σ H Q => t σ H fun xs H1 => xs.length ≤ sizeLine ∧ ∀ p o, H1 p = none → o.dict = none → Q (.ref p) (upd H1 p (.frz o (.tup xs)))
theorem pe_tupN {t : TA} {x1} (h : PA X es t) : PE X (.Tuple es x1 pos) (tTupN t) := by
  refine ⟨fun pins s σ H Q I hq => ?_⟩
  refine wpAny_Tuple_spliced (thn (h.run pos pins s σ H _ I hq) fun us s1 ⟨xs, H1, I1, r, z, q⟩ => ⟨by rw [← r.length]; exact z, ?_⟩)
  have new := Heap.get?_push_size s1.heap (o := { cls := .type "tuple", data := .seq us.toArray }) rfl
  exact ⟨.ref s1.heap.objs.size, _, I1.laid (t' := s1.toks) (fun c u e => Heap.get?_push_of_some _ e) (Nat.le_refl _) (show ObjOk X.prog X.w _ _ _ (.frz _ (.tup xs)) from ⟨new, z, us, r, _, new, rfl, _, rfl⟩), rfl, q _ _ (I1.hok.fresh (Nat.le_refl _)) rfl⟩
theorem ed_tup {ds : List PyData} {rs : List Rs} {x1} (ha : AD X b Hb Δ es rs) (hr0 : ddOf rs = some ds := by rfl) (hl : ds.length ≤ 1000 := by exact Nat.le_of_ble_eq_true rfl) : ED X b Hb Δ (.Tuple es x1 pos) (.d (.tuple ds)) :=
  pe_imp (pe_tupN ha) fun σ H Q q => ⟨q.1, fun vs H1 rs' p1 f1 k1 => by
    have hr := ddOf_eq hr0
    subst p1 hr
    have k2 := rsAll_dts k1
    refine ⟨by rw [k2.len]; exact Nat.le_of_lt (small1000 hl), fun p o hp ho => q.2 _ _ _ rfl (f1.trans (.new hp)) (.tup ⟨o, upd_same, ho⟩ (k2.keep (KT.new hp)))⟩⟩
theorem ed_lst {ds : List PyData} {rs : List Rs} (ha : AD X b Hb Δ es rs) (hr0 : ddOf rs = some ds := by rfl) (hl : ds.length ≤ 1000 := by exact Nat.le_of_ble_eq_true rfl) : ED X b Hb Δ (.List es pos) (.fr ds) :=
  pe_imp (pe_lst ha) fun σ H Q q => ⟨q.1, fun vs H1 rs' p1 f1 k1 => by
    have hr := ddOf_eq hr0
    subst p1 hr
    have k2 := rsAll_dts k1
    refine ⟨by rw [k2.len]; exact Nat.le_of_lt (small1000 hl), fun p hp => q.2 _ _ _ rfl (f1.trans (.new hp)) ⟨p, vs, rfl, f1.free q.1.bagH hp, upd_same, k2.keep (KT.new hp)⟩⟩⟩
theorem ex_tup {P : Rs → Prop} {Pa : List Rs → Prop} {x1} (ha : AX X b Hb Δ es Pa) (k : ∀ rs, Pa rs → ∃ ds : List PyData, rs = ds.map Rs.d ∧ ds.length ≤ 1000 ∧ P (.d (.tuple ds))) : EX X b Hb Δ (.Tuple es x1 pos) P :=
  pe_imp (pe_tupN ha) fun σ H Q q => ⟨q.1, fun vs H1 rs' p1 f1 k1 => by
    obtain ⟨ds, er, hl, hp⟩ := k rs' p1
    subst er
    have k2 := rsAll_dts k1
    refine ⟨by rw [k2.len]; exact Nat.le_of_lt (small1000 hl), fun p o hn ho => q.2 _ _ _ hp (f1.trans (.new hn)) (.tup ⟨o, upd_same, ho⟩ (k2.keep (KT.new hn)))⟩⟩

/-! ### lists that may be read -/
def lsOf : Rs → Option (List PyData)
  | .fr xs => some xs
  | .ow xs => some xs
  | .ls xs => some xs
  | _ => none
theorem RsOk.ls {v : V} {r : Rs} {xs : List PyData} (q : BagIn b Hb) (q0 : BagIn b H0) (h : RsOk K b Hb H0 H1 v r) (e : lsOf r = some xs) : ∃ a vs, v = .ref a ∧ some a ≠ b ∧ SqL K H1 a vs ∧ Dts H1 vs xs := by
  cases r with
  | fr ys =>
    cases e
    obtain ⟨a, vs, e1, n, e2, t⟩ := h
    exact ⟨a, vs, e1, q0.ne_none n, SqL.of e2, t⟩
  | ow ys =>
    cases e
    obtain ⟨a, vs, e1, n, e2, t⟩ := h
    exact ⟨a, vs, e1, q.ne_none n, SqL.of e2, t⟩
  | ls ys =>
    cases e
    exact h
  | d x => cases e
  | bag => cases e

/-! ### subscripts, slices -/
theorem atI_dts : ∀ {vs : List V} {ds : List PyData} {i : Int} {d : PyData}, Dts H vs ds → atI ds i = some d → ∃ v, atI vs i = some v ∧ Dt H v d := fun {vs ds i d} h e => by
  unfold atI at e ⊢
  rw [h.len]
  cases q : ixN ds.length i with
  | none => rw [q] at e; cases e
  | some j =>
    rw [q] at e
    exact Dts.at h e
theorem ex_ix2 {r2 : R2} {Pa Pb : Rs → Prop} (ho : IxR X r2) (hs : PlainIx f) (ha : EX X b Hb Δ e Pa) (hb : EX X b Hb Δ f Pb) (k : ∀ r s, Pa r → Pb s → OpD X b Hb r2 r s P) : EX X b Hb Δ (.Subscript e f pos) P :=
  pe_imp (pe_ix ho ha hb hs) fun σ H Q q => ⟨q.1, fun x H1 r p1 f1 k1 => ⟨q.1.step f1, fun y H2 s p2 f2 k2 =>
    have f12 := f1.trans f2
    k r s p1 p2 H H2 x y q.1.bag q.1.fr f12 (k1.step q.1.bag (q.1.fr.trans f1) f2 q.1.bagH) (k2.back f1 q.1.bagH) Q fun z H' t pt f3 k3 => q.2 z H' t pt (f12.trans f3) (k3.back f12 q.1.bagH)⟩⟩
theorem opd_ixT {ds : List PyData} {i : Int} {d : PyData} (h : atI ds i = some d) : OpD X b Hb (rIxT X.K) (.d (.tuple ds)) (.d (.int i)) (fun z => z = .d d) := fun H0 H x y _ _ _ r s Q q => by
  cases s
  cases r with
  | tup e1 t1 =>
    obtain ⟨v, e2, t2⟩ := atI_dts t1 h
    exact ⟨_, _, i, v, rfl, rfl, e1.sq, e2, q v H _ rfl .refl t2⟩
theorem opd_ixL {r : Rs} {ds : List PyData} {i : Int} {d : PyData} (hr : lsOf r = some ds) (h : atI ds i = some d) : OpD X b Hb (rIxL X.K) r (.d (.int i)) (fun z => z = .d d) := fun H0 H x y bb f0 f1 rr s Q q => by
  cases s
  obtain ⟨a, vs, e1, n, e2, t⟩ := rr.ls bb (f0.bagIn bb) hr
  obtain ⟨v, e3, t2⟩ := atI_dts t h
  exact ⟨a, vs, i, v, e1, rfl, e2, e3, q v H _ rfl .refl t2⟩
theorem opd_ixS {x : Str} {i : Int} {c : Nat} (hz : x.length ≤ sizeLine) (h : atI x.cps.toList i = some c) : OpD X b Hb rIxS (.d (.str x)) (.d (.int i)) (fun z => z = .d (.str ⟨#[c]⟩)) := fun H0 H v w _ _ _ r s Q q => by
  cases s; cases r
  exact ⟨x, i, c, rfl, rfl, hz, h, q _ H _ rfl .refl (.str _)⟩
theorem ed_ixT {ds : List PyData} {i : Int} {d : PyData} (ha : ED X b Hb Δ e (.d (.tuple ds))) (hb : ED X b Hb Δ f (.d (.int i))) (h : atI ds i = some d) (hs : PlainIx f := by exact fun _ _ => rfl) : ED X b Hb Δ (.Subscript e f pos) (.d d) :=
  ex_ix2 ix_tup hs ha hb fun _ _ e1 e2 => by rw [e1, e2]; exact opd_ixT h
theorem ed_ixL {r : Rs} {ds : List PyData} {i : Int} {d : PyData} (ha : ED X b Hb Δ e r) (hb : ED X b Hb Δ f (.d (.int i))) (h : atI ds i = some d) (hr : lsOf r = some ds := by rfl) (hs : PlainIx f := by exact fun _ _ => rfl) : ED X b Hb Δ (.Subscript e f pos) (.d d) :=
  ex_ix2 ix_list hs ha hb fun _ _ e1 e2 => by rw [e1, e2]; exact opd_ixL hr h
/-- the optional part of a slice -/
def tP (K : PySem.W.Frag) (b : Option Addr) (Hb : Hp) (Δ : List Sl) (o : Option Int) : L2.St → Hp → (Option Int → Hp → Prop) → Prop := fun σ H Q => En K b Hb Δ σ H ∧ ∀ H', Fr b H H' → Q o H'
theorem po_no : PO X none (tP X.K b Hb Δ none) := ⟨fun pins s σ H Q I q => po_none.run pins s σ H Q I (q.2 H .refl)⟩
theorem po_yes {i : Int} (ha : ED X b Hb Δ e (.d (.int i))) : PO X (some e) (tP X.K b Hb Δ (some i)) := ⟨fun pins s σ H Q I q => (po_some ha).run pins s σ H Q I ⟨q.1, fun v H1 r p1 f1 k1 => by
  subst p1
  cases k1
  exact ⟨i, rfl, q.2 H1 f1⟩⟩⟩
/-- what a slice leaves -/
def cutD {α : Type} (xs : List α) (lo hi : Option Int) : List α := (xs.drop (HT.sIx xs.length 0 lo)).take (HT.sIx xs.length xs.length hi - HT.sIx xs.length 0 lo)
theorem dts_cut {vs : List V} {ds : List PyData} (h : Dts H vs ds) (lo hi : Option Int) : Dts H (cutV vs lo hi) (cutD ds lo hi) := by
  unfold cutV cutD
  rw [h.len]
  exact Dts.take _ (Dts.drop _ h)
/-- t[lo:hi], the new object known -/
def rSlN (K : PySem.W.Frag) : V → Option Int → Option Int → Hp → VK → Prop := fun x lo hi H Q => ∃ a xs, x = .ref a ∧ SqT K H a xs ∧
  (HT.sIx xs.length 0 lo = 0 ∧ HT.sIx xs.length xs.length hi = xs.length → Q (.ref a) H) ∧ (¬ (HT.sIx xs.length 0 lo = 0 ∧ HT.sIx xs.length xs.length hi = xs.length) → ∀ p o, H p = none → o.dict = none → Q (.ref p) (upd H p (.frz o (.tup (cutV xs lo hi)))))
theorem sl_tupN : SlR X (rSlN X.K) := by
  intro pins s σ H x v vl vu lo hi sl Q I rx at_s pl pu told
  obtain ⟨a, xs, rfl, tup, all, part⟩ := told
  cases rx
  obtain ⟨its, r, t, fit⟩ := I.tuple tup
  have len : its.toArray.size = xs.length := List.size_toArray.trans r.length.symm
  have same : ∀ d, HT.sIx its.toArray.size d = HT.sIx xs.length d := fun d => congrArg (HT.sIx · d) len
  refine ⟨_, _, PyProof.Rows.slot_tuple_getitem.lookup, t.typeIs, ?_⟩
  rcases Classical.em (HT.sIx xs.length 0 lo = 0 ∧ HT.sIx xs.length xs.length hi = xs.length) with whole | cut
  · exact getItem_tuple_whole t at_s pl pu (len ▸ whole) ⟨V.ref a, H, I, rfl, all whole⟩
  · let new : Obj := { cls := .type "tuple", data := .seq ((its.drop (HT.sIx xs.length 0 lo)).take (HT.sIx xs.length xs.length hi - HT.sIx xs.length 0 lo)).toArray }
    have at_ : (s.heap.push new).get? s.heap.objs.size = some new := Heap.get?_push_size _ rfl
    have vals : Vals (cutV xs lo hi) _ := (r.drop (HT.sIx xs.length 0 lo)).take (HT.sIx xs.length xs.length hi - HT.sIx xs.length 0 lo)
    have laid := I.laid (t' := s.toks) (o := .frz new (.tup (cutV xs lo hi))) (fun _ _ e => Heap.get?_push_of_some new e) (Nat.le_refl _) ⟨at_, Nat.le_trans (cutV_length ..) fit, _, vals, _, at_, rfl, _, rfl⟩
    exact HT.getItem_tuple_cut t at_s pl pu (len ▸ cut) (len ▸ ⟨V.ref s.heap.objs.size, _, laid, rfl, part cut _ _ (I.hok.fresh (Nat.le_refl _)) rfl⟩) (len ▸ fit)
theorem ed_slT {ds : List PyData} {lo hi : Option Expr} {l h : Option Int} {p2 : Pos} (ha : ED X b Hb Δ e (.d (.tuple ds))) (hl : PO X lo (tP X.K b Hb Δ l)) (hh : PO X hi (tP X.K b Hb Δ h)) : ED X b Hb Δ (.Subscript e (.Slice lo hi none p2) pos) (.d (.tuple (cutD ds l h))) :=
  pe_imp (pe_slice sl_tupN ha hl hh) fun σ H Q q => ⟨q.1, fun v H1 r p1 f1 k1 => by
    subst p1
    cases k1 with
    | tup e1 t1 =>
      refine ⟨q.1.step f1, fun H2 f2 => ⟨(q.1.step f1).step f2, fun H3 f3 => ?_⟩⟩
      have e3 := e1.keep ((f2.trans f3).kt (q.1.step f1).bagH)
      have t3 := t1.keep ((f2.trans f3).kt (q.1.step f1).bagH)
      refine ⟨_, _, rfl, e3.sq, fun hw => ?_, fun _ p o hp ho => ?_⟩
      · refine q.2 _ H3 _ rfl (f1.trans (f2.trans f3)) ?_
        have e4 : cutD ds l h = ds := by
          unfold cutD
          rw [t3.len] at hw
          rw [hw.1, hw.2, List.drop_zero, Nat.sub_zero, List.take_length]
        rw [e4]
        exact .tup e3 t3
      · exact q.2 _ _ _ rfl ((f1.trans (f2.trans f3)).trans (.new hp)) (.tup ⟨o, upd_same, ho⟩ ((dts_cut t3 l h).keep (KT.new hp)))⟩
theorem ed_slL {r : Rs} {ds : List PyData} {lo hi : Option Expr} {l h : Option Int} {p2 : Pos} (ha : ED X b Hb Δ e r) (hl : PO X lo (tP X.K b Hb Δ l)) (hh : PO X hi (tP X.K b Hb Δ h)) (hr : lsOf r = some ds := by rfl) : ED X b Hb Δ (.Subscript e (.Slice lo hi none p2) pos) (.fr (cutD ds l h)) :=
  pe_imp (pe_slice sl_list ha hl hh) fun σ H Q q => ⟨q.1, fun v H1 r' p1 f1 k1 => by
    subst p1
    obtain ⟨a, vs, e1, n, e2, t⟩ := k1.ls q.1.bag q.1.bagH hr
    subst e1
    refine ⟨q.1.step f1, fun H2 f2 => ⟨(q.1.step f1).step f2, fun H3 f3 => ?_⟩⟩
    have t3 := t.keep ((f2.trans f3).kt (q.1.step f1).bagH)
    refine ⟨_, _, rfl, sql_fr (f2.trans f3) n e2, fun p hp => ?_⟩
    exact q.2 _ _ _ rfl ((f1.trans (f2.trans f3)).trans (.new hp)) ⟨p, _, rfl, (f1.trans (f2.trans f3)).free q.1.bagH hp, upd_same, (dts_cut t3 l h).keep (KT.new hp)⟩⟩
theorem ed_slS {x : Str} {lo hi : Option Expr} {l h : Option Int} {p2 : Pos} (ha : ED X b Hb Δ e (.d (.str x))) (hl : PO X lo (tP X.K b Hb Δ l)) (hh : PO X hi (tP X.K b Hb Δ h)) (hz : x.length ≤ sizeLine) : ED X b Hb Δ (.Subscript e (.Slice lo hi none p2) pos) (.d (.str (cutS x l h))) :=
  pe_imp (pe_slice sl_str ha hl hh) fun σ H Q q => ⟨q.1, fun v H1 r' p1 f1 k1 => by
    subst p1
    cases k1
    refine ⟨q.1.step f1, fun H2 f2 => ⟨(q.1.step f1).step f2, fun H3 f3 => ?_⟩⟩
    exact ⟨x, rfl, hz, q.2 _ _ _ rfl (f1.trans (f2.trans f3)) (.str _)⟩⟩

/-! ### calls of built-in functions and types -/
def CalD (X : Cx) (b : Option Addr) (Hb : Hp) (r1 : List V → Hp → VK → Prop) (rs : List Rs) (P : Rs → Prop) : Prop := ∀ (H0 H : Hp) (vs : List V), BagIn b Hb → Fr b Hb H0 → Fr b H0 H → RsAll X.K b Hb H0 H vs rs →
  ∀ Q : VK, (∀ z H' t, P t → Fr b H H' → RsOk X.K b Hb H H' z t → Q z H') → r1 vs H Q
theorem ex_callB {x : Str} {id : String} {r1 : List V → Hp → VK → Prop} {Pa : List Rs → Prop} {p : Pos} (hc : CallR X (.builtin id) r1) (hg : Gl X x) (hm : X.mg x = none) (hv : bootBuiltins x = some (.builtin id)) (ha : AX X b Hb Δ (e :: es) Pa)
    (k : ∀ rs, Pa rs → CalD X b Hb r1 rs P) (hn : x ≠ "__name__" := by decide) (hdb : (x == ("__debug__" : Str)) = false := by decide) (hst : starEach (e :: es) X.env = (false, eval e X.env) :: starEach es X.env := by rfl) (hpl : (backTo pos (starEach es X.env)).any (·.1) = false := by rfl) :
    EX X b Hb Δ (.Call (.Name x p) (e :: es) [] pos) P :=
  pe_imp (pe_callB hc hg hm hv ha hn hdb hst hpl) fun σ H Q q => ⟨q.1, fun vs H1 rs p1 f1 k1 => k rs p1 H H1 vs q.1.bag q.1.fr f1 k1 Q fun z H' t pt f3 k3 => q.2 z H' t pt (f1.trans f3) (k3.back f1 q.1.bagH)⟩
theorem ex_callTy {x : Str} {T : String} {r1 : List V → Hp → VK → Prop} {Pa : List Rs → Prop} {p : Pos} (hc : CallR X (.type T) r1) (hg : Gl X x) (hm : X.mg x = none) (hv : bootBuiltins x = some (.type T)) (ha : AX X b Hb Δ (e :: es) Pa)
    (k : ∀ rs, Pa rs → CalD X b Hb r1 rs P) (hn : x ≠ "__name__" := by decide) (hdb : (x == ("__debug__" : Str)) = false := by decide) (hst : starEach (e :: es) X.env = (false, eval e X.env) :: starEach es X.env := by rfl) (hpl : (backTo pos (starEach es X.env)).any (·.1) = false := by rfl) :
    EX X b Hb Δ (.Call (.Name x p) (e :: es) [] pos) P :=
  pe_imp (pe_callTy hc hg hm hv ha hn hdb hst hpl) fun σ H Q q => ⟨q.1, fun vs H1 rs p1 f1 k1 => k rs p1 H H1 vs q.1.bag q.1.fr f1 k1 Q fun z H' t pt f3 k3 => q.2 z H' t pt (f1.trans f3) (k3.back f1 q.1.bagH)⟩
end
end K47
set_option Elab.async false
set_option linter.all false
set_option maxRecDepth 100000
set_option maxHeartbeats 2000000
namespace K47
open PySem PySem.Spec PyProof.Rows L2

/-! ### statements -/
structure Dn where
  nx : List Sl → Prop
  rt : Rs → Prop
  bk : List Sl → Prop := fun _ => False
  ct : List Sl → Prop := fun _ => False
def tS (K : PySem.W.Frag) (b : Option Addr) (Hb : Hp) (Δ : List Sl) (Dd : Dn) : TS := fun D σ H => En K b Hb Δ σ H ∧
  (∀ Δ' σ' H', Dd.nx Δ' → En K b Hb Δ' σ' H' → D.nx σ' H') ∧ (∀ r v H', Dd.rt r → Fr b Hb H' → RsOk K b Hb Hb H' v r → D.rt v H') ∧
  (∀ Δ' σ' H', Dd.bk Δ' → En K b Hb Δ' σ' H' → D.bk σ' H') ∧ (∀ Δ' σ' H', Dd.ct Δ' → En K b Hb Δ' σ' H' → D.ct σ' H')
abbrev SX (X : Cx) (b : Option Addr) (Hb : Hp) (Δ : List Sl) (st : Stmt) (Dd : Dn) : Prop := PS X st (tS X.K b Hb Δ Dd)
abbrev SSX (X : Cx) (b : Option Addr) (Hb : Hp) (Δ : List Sl) (sts : List Stmt) (Dd : Dn) : Prop := PSs X sts (tS X.K b Hb Δ Dd)

section
variable {X : Cx} {b : Option Addr} {Hb : Hp} {Δ : List Sl} {st : Stmt} {rest : List Stmt} {e f g : Expr} {es : List Expr} {pos : Pos} {P P' : Rs → Prop} {K : PySem.W.Frag} {H H1 H2 H0 : Hp} {σ : L2.St} {D : Dn}
theorem ps_imp {t t' : TS} (h : PS X st t) (k : ∀ D σ H, t' D σ H → t D σ H) : PS X st t' := ⟨fun pins s σ H D I q => h.run pins s σ H D I (k D σ H q)⟩
theorem pss_imp {sts : List Stmt} {t t' : TS} (h : PSs X sts t) (k : ∀ D σ H, t' D σ H → t D σ H) : PSs X sts t' := ⟨fun pins s σ H D I q => h.run pins s σ H D I (k D σ H q)⟩
theorem tS.imp {D' : Dn} (hn : ∀ Δ, D.nx Δ → D'.nx Δ) (hr : ∀ r, D.rt r → D'.rt r) (hb : ∀ Δ, D.bk Δ → D'.bk Δ) (hc : ∀ Δ, D.ct Δ → D'.ct Δ) : ∀ E σ H, tS K b Hb Δ D' E σ H → tS K b Hb Δ D E σ H :=
  fun _ _ _ q => ⟨q.1, fun Δ' σ' H' p => q.2.1 Δ' σ' H' (hn _ p), fun r v H' p => q.2.2.1 r v H' (hr _ p), fun Δ' σ' H' p => q.2.2.2.1 Δ' σ' H' (hb _ p), fun Δ' σ' H' p => q.2.2.2.2 Δ' σ' H' (hc _ p)⟩
theorem ssx_nil (k : D.nx Δ) : SSX X b Hb Δ [] D := pss_imp pss_nil fun _ σ H q => q.2.1 Δ σ H k q.1
theorem ssx_cons (h1 : SX X b Hb Δ st { D with nx := fun Δ' => SSX X b Hb Δ' rest D }) : SSX X b Hb Δ (st :: rest) D := by
  have h2 : PSs X rest (fun E σ H => ∃ Δ', SSX X b Hb Δ' rest D ∧ tS X.K b Hb Δ' D E σ H) := ⟨fun pins s σ H E I ⟨Δ', m, q⟩ => m.run pins s σ H E I q⟩
  exact pss_imp (pss_cons h1 h2) fun E σ H q => ⟨q.1, fun Δ' σ' H' m e => ⟨Δ', m, e, q.2⟩, q.2.2.1, q.2.2.2.1, q.2.2.2.2⟩
theorem ssx_one (h : SX X b Hb Δ st D) : SSX X b Hb Δ [st] D := pss_one h
/-- the same, a word between -/
theorem ssx_cut (M : List Sl → Prop) (h1 : SX X b Hb Δ st { D with nx := M }) (h2 : ∀ Δ', M Δ' → SSX X b Hb Δ' rest D) : SSX X b Hb Δ (st :: rest) D :=
  ssx_cons (ps_imp h1 (tS.imp h2 (fun _ h => h) (fun _ h => h) fun _ h => h))

/-! ### slots stored -/
theorem set_get {α : Type} {l : List α} {i j : Nat} {x y : α} (h : (l.set i x)[j]? = some y) : (i = j ∧ y = x ∧ i < l.length) ∨ (i ≠ j ∧ l[j]? = some y) := by
  by_cases e : i = j
  · subst e
    by_cases hl : i < l.length
    · rw [List.getElem?_set_self hl] at h
      exact .inl ⟨rfl, (Option.some.inj h).symm, hl⟩
    · have h3 : (l.set i x)[i]? = none := List.getElem?_eq_none_iff.mpr (by rw [List.length_set]; omega)
      rw [h3] at h
      cases h
  · rw [List.getElem?_set_ne e] at h
    exact .inr ⟨e, h⟩
theorem En.setD {i : Nat} {v : V} {x : PyData} (q : En K b Hb Δ σ H) (h : Dt H v x) : En K b Hb (Δ.set i (.d x)) (σ.set i (some v)) H := by
  refine ⟨q.bag, q.fr, by rw [List.length_set, List.length_set]; exact q.len, fun j s e => ?_, fun j k xs ys n e1 e2 => ?_⟩
  · rcases set_get e with ⟨e1, e2, hl⟩ | ⟨e1, e2⟩
    · subst e1 e2
      exact ⟨some v, by rw [List.getElem?_set_self (by rw [q.len]; exact hl)], v, rfl, h⟩
    · obtain ⟨o, e3, e4⟩ := q.at_ j s e2
      exact ⟨o, by rw [List.getElem?_set_ne e1]; exact e3, e4⟩
  · rcases set_get e1 with ⟨_, z, _⟩ | ⟨n1, z1⟩
    · cases z
    · rcases set_get e2 with ⟨_, z, _⟩ | ⟨n2, z2⟩
      · cases z
      · rw [List.getElem?_set_ne n1, List.getElem?_set_ne n2]
        exact q.sep j k xs ys n z1 z2
/-- the address is none of one's own lists -/
def NoOw (Δ : List Sl) (σ : L2.St) (a : Addr) (i : Nat) : Prop := ∀ (j : Nat) (ys : List PyData), j ≠ i → Δ[j]? = some (.ow ys) → σ[j]? ≠ some (some (.ref a))
theorem En.noOw {a : Addr} {i : Nat} (q : En K b Hb Δ σ H) (n : H a = none) : NoOw Δ σ a i := fun j ys _ e z => by
  obtain ⟨o, e1, a', vs, e2, _, e3, _⟩ := q.at_ j _ e
  rw [z] at e1
  have e4 := Option.some.inj e1
  rw [e2] at e4
  have e5 := V.ref.inj (Option.some.inj e4)
  subst e5
  rw [n] at e3
  cases e3
theorem En.setOw {i : Nat} {a : Addr} {vs : List V} {xs : List PyData} (q : En K b Hb Δ σ H) (n : Hb a = none) (e : H a = some (.lst vs)) (t : Dts H vs xs) (no : NoOw Δ σ a i) : En K b Hb (Δ.set i (.ow xs)) (σ.set i (some (.ref a))) H := by
  refine ⟨q.bag, q.fr, by rw [List.length_set, List.length_set]; exact q.len, fun j s e' => ?_, fun j k ys zs nn e1 e2 => ?_⟩
  · rcases set_get e' with ⟨e1, e2, hl⟩ | ⟨e1, e2⟩
    · subst e1 e2
      exact ⟨some (.ref a), by rw [List.getElem?_set_self (by rw [q.len]; exact hl)], a, vs, rfl, n, e, t⟩
    · obtain ⟨o, e3, e4⟩ := q.at_ j s e2
      exact ⟨o, by rw [List.getElem?_set_ne e1]; exact e3, e4⟩
  · rcases set_get e1 with ⟨h1, z1, hl⟩ | ⟨h1, z1⟩
    · subst h1
      rcases set_get e2 with ⟨h2, _, _⟩ | ⟨h2, z2⟩
      · exact absurd h2 nn
      · rw [List.getElem?_set_self (by rw [q.len]; exact hl), List.getElem?_set_ne h2]
        exact fun z => no k zs (fun z => h2 z.symm) z2 z.symm
    · rcases set_get e2 with ⟨h2, _, hl⟩ | ⟨h2, z2⟩
      · subst h2
        rw [List.getElem?_set_self (by rw [q.len]; exact hl), List.getElem?_set_ne h1]
        exact no j ys (fun z => h1 z.symm) z1
      · rw [List.getElem?_set_ne h1, List.getElem?_set_ne h2]
        exact q.sep j k ys zs nn z1 z2
/-- one's own list at slot i changes -/
theorem En.mut {i : Nat} {a : Addr} {vs vs' : List V} {xs xs' : List PyData} (q : En K b Hb Δ σ H) (hi : Δ[i]? = some (.ow xs)) (hs : σ[i]? = some (some (.ref a))) (n : Hb a = none) (e : H a = some (.lst vs)) (t : Dts H vs' xs') : En K b Hb (Δ.set i (.ow xs')) σ (upd H a (.lst vs')) := by
  have kt : KT H (upd H a (.lst vs')) := KT.mut e
  have hl : i < Δ.length := (List.getElem?_eq_some_iff.mp hi).1
  refine ⟨q.bag, q.fr.mut n q.bag, by rw [List.length_set]; exact q.len, fun j s e' => ?_, fun j k ys zs nn e1 e2 => ?_⟩
  · rcases set_get e' with ⟨e1, e2, _⟩ | ⟨e1, e2⟩
    · subst e1 e2
      exact ⟨some (.ref a), hs, a, vs', rfl, n, upd_same, t.keep kt⟩
    · obtain ⟨o, e3, e4⟩ := q.at_ j s e2
      refine ⟨o, e3, ?_⟩
      cases s with
      | un => trivial
      | d x =>
        obtain ⟨v, h1, h2⟩ := e4
        exact ⟨v, h1, h2.keep kt⟩
      | br a xs => exact e4
      | ow ys =>
        obtain ⟨a', ws, h1, h2, h3, h4⟩ := e4
        have ne : a' ≠ a := fun z => by
          subst z
          refine q.sep i j xs ys e1 hi e2 ?_
          rw [hs, e3, h1]
        exact ⟨a', ws, h1, h2, by rw [upd_ne ne]; exact h3, h4.keep kt⟩
      | bag => exact e4
  · have back : ∀ {m : Nat} {ws : List PyData}, (Δ.set i (.ow xs'))[m]? = some (.ow ws) → ∃ us, Δ[m]? = some (.ow us) := fun {m ws} z => by
      rcases set_get z with ⟨h1, _, _⟩ | ⟨_, h2⟩
      · subst h1
        exact ⟨xs, hi⟩
      · exact ⟨ws, h2⟩
    obtain ⟨u1, z1⟩ := back e1
    obtain ⟨u2, z2⟩ := back e2
    exact q.sep j k u1 u2 nn z1 z2
/-- forgetting -/
def Lo (Δ Δ' : List Sl) : Prop := Δ.length = Δ'.length ∧ ∀ (i : Nat) (s : Sl), Δ'[i]? = some s → s = .un ∨ Δ[i]? = some s
theorem En.lo {Δ' : List Sl} (q : En K b Hb Δ σ H) (l : Lo Δ Δ') : En K b Hb Δ' σ H := by
  refine ⟨q.bag, q.fr, q.len.trans l.1, fun j s e => ?_, fun j k xs ys n e1 e2 => ?_⟩
  · rcases l.2 j s e with z | z
    · subst z
      have hj : j < σ.length := by
        rw [q.len, l.1]
        exact (List.getElem?_eq_some_iff.mp e).1
      exact ⟨σ[j], List.getElem?_eq_getElem hj, trivial⟩
    · exact q.at_ j s z
  · rcases l.2 j _ e1 with z1 | z1
    · cases z1
    · rcases l.2 k _ e2 with z2 | z2
      · cases z2
      · exact q.sep j k xs ys n z1 z2
/-- the slot for a result -/
def slOf : Rs → Option Sl
  | .d x => some (.d x)
  | .fr xs => some (.ow xs)
  | _ => none
theorem En.setR {i : Nat} {v : V} {r : Rs} {s : Sl} (q0 : En K b Hb Δ σ H0) (f : Fr b H0 H) (k : RsOk K b Hb H0 H v r) (e : slOf r = some s) : En K b Hb (Δ.set i s) (σ.set i (some v)) H := by
  have q := q0.step f
  cases r with
  | d x =>
    cases e
    exact q.setD k
  | fr xs =>
    cases e
    obtain ⟨a, vs, e1, n, e2, t⟩ := k
    subst e1
    refine q.setOw (q0.fr.free q0.bag n) e2 t ?_
    exact q0.noOw n
  | ow xs => cases e
  | ls xs => cases e
  | bag => cases e

/-! ### statements, one by one -/
theorem sx_expr (ha : EX X b Hb Δ e P) (k : D.nx Δ) (hs : swapsWith e none pos.line X.env = pure false := by rfl) : SX X b Hb Δ (.Expr e pos) D :=
  ps_imp (ps_expr ha hs) fun E σ H q => ⟨q.1, fun v H1 r p f1 k1 => q.2.1 Δ σ H1 k (q.1.step f1)⟩
/-- what a def gives out of a result -/
def outOf : Rs → Option Rs
  | .d x => some (.d x)
  | .fr xs => some (.fr xs)
  | .ow xs => some (.fr xs)
  | _ => none
theorem sx_ret (ha : EX X b Hb Δ e P) (k : ∀ r, P r → ∃ r', outOf r = some r' ∧ D.rt r') : SX X b Hb Δ (.Return (some e) pos) D :=
  ps_imp (ps_ret ha) fun E σ H q => ⟨q.1, fun v H1 r p f1 k1 => by
    obtain ⟨r', e1, k2⟩ := k r p
    refine q.2.2.1 r' v H1 k2 (q.1.fr.trans f1) ?_
    cases r with
    | d x => cases e1; exact k1
    | fr xs =>
      cases e1
      exact k1.back q.1.fr q.1.bag
    | ow xs =>
      cases e1
      exact k1
    | ls xs => cases e1
    | bag => cases e1⟩
theorem sx_retD {x : PyData} (ha : ED X b Hb Δ e (.d x)) (k : D.rt (.d x)) : SX X b Hb Δ (.Return (some e) pos) D := sx_ret ha fun _ e => by rw [e]; exact ⟨_, rfl, k⟩
theorem sx_retF {xs : List PyData} (ha : ED X b Hb Δ e (.fr xs)) (k : D.rt (.fr xs)) : SX X b Hb Δ (.Return (some e) pos) D := sx_ret ha fun _ e => by rw [e]; exact ⟨_, rfl, k⟩
theorem sx_retO {xs : List PyData} (ha : ED X b Hb Δ e (.ow xs)) (k : D.rt (.fr xs)) : SX X b Hb Δ (.Return (some e) pos) D := sx_ret ha fun _ e => by rw [e]; exact ⟨_, rfl, k⟩
theorem sx_if {Pc : Bool → Prop} {s1 s2 : List Stmt} (hc : TX X b Hb Δ e Pc) (h1 : Pc true → SSX X b Hb Δ s1 D) (h2 : Pc false → SSX X b Hb Δ s2 D) : SX X b Hb Δ (.If e s1 s2 pos) D := by
  have a1 : PSs X s1 (fun E σ H => Pc true ∧ tS X.K b Hb Δ D E σ H) := ⟨fun pins s σ H E I ⟨m, q⟩ => (h1 m).run pins s σ H E I q⟩
  have a2 : PSs X s2 (fun E σ H => Pc false ∧ tS X.K b Hb Δ D E σ H) := ⟨fun pins s σ H E I ⟨m, q⟩ => (h2 m).run pins s σ H E I q⟩
  exact ps_imp (ps_if hc a1 a2) fun E σ H q => ⟨q.1, fun c H1 p f1 => by
    have q1 : tS X.K b Hb Δ D E σ H1 := ⟨q.1.step f1, q.2⟩
    cases c with
    | true => exact ⟨p, q1⟩
    | false => exact ⟨p, q1⟩⟩
theorem sx_ifD {c : Bool} {s1 s2 : List Stmt} (hc : TD X b Hb Δ e c) (h1 : c = true → SSX X b Hb Δ s1 D) (h2 : c = false → SSX X b Hb Δ s2 D) : SX X b Hb Δ (.If e s1 s2 pos) D :=
  sx_if hc (fun h => h1 h.symm) fun h => h2 h.symm
theorem sx_set (i : Nat) {x : Str} {pos' : Pos} (ha : EX X b Hb Δ e P) (k : ∀ r, P r → ∃ s, slOf r = some s ∧ D.nx (Δ.set i s)) (hN : X.N.Nodup) (hi : X.N[i]? = some x := by rfl) (hx : Loc X.env.scope x := by first | exact Or.inl rfl | exact Or.inr rfl)
    (hs : swapsWith e (some (.Name x pos')) pos.line X.env = pure false := by rfl) (hf : X.fn x = true ∨ X.env.scope.names.lookup x = some .local := by first | exact .inl rfl | exact .inr rfl) : SX X b Hb Δ (.Assign [.Name x pos'] e pos) D :=
  ps_imp (ps_set hN hi hx ha hs hf) fun E σ H q => ⟨q.1, fun v H1 r p f1 k1 => by
    obtain ⟨s, e1, k2⟩ := k r p
    exact q.2.1 _ _ H1 k2 (q.1.setR f1 k1 e1)⟩
theorem sx_setD (i : Nat) {x : Str} {pos' : Pos} {d : PyData} (ha : ED X b Hb Δ e (.d d)) (k : D.nx (Δ.set i (.d d))) (hN : X.N.Nodup) (hi : X.N[i]? = some x := by rfl) (hx : Loc X.env.scope x := by first | exact Or.inl rfl | exact Or.inr rfl)
    (hs : swapsWith e (some (.Name x pos')) pos.line X.env = pure false := by rfl) (hf : X.fn x = true ∨ X.env.scope.names.lookup x = some .local := by first | exact .inl rfl | exact .inr rfl) : SX X b Hb Δ (.Assign [.Name x pos'] e pos) D :=
  sx_set i ha (fun r e => by rw [e]; exact ⟨_, rfl, k⟩) hN hi hx hs hf
theorem sx_setF (i : Nat) {x : Str} {pos' : Pos} {xs : List PyData} (ha : ED X b Hb Δ e (.fr xs)) (k : D.nx (Δ.set i (.ow xs))) (hN : X.N.Nodup) (hi : X.N[i]? = some x := by rfl) (hx : Loc X.env.scope x := by first | exact Or.inl rfl | exact Or.inr rfl)
    (hs : swapsWith e (some (.Name x pos')) pos.line X.env = pure false := by rfl) (hf : X.fn x = true ∨ X.env.scope.names.lookup x = some .local := by first | exact .inl rfl | exact .inr rfl) : SX X b Hb Δ (.Assign [.Name x pos'] e pos) D :=
  sx_set i ha (fun r e => by rw [e]; exact ⟨_, rfl, k⟩) hN hi hx hs hf
/-- a, b = x, y -/
theorem sx_par (i j : Nat) {x y : Str} {px py pt : Pos} {kt k2 pt2} {Pa : List Rs → Prop} (hc : X.calm = true) (ha : AX X b Hb Δ [e, f] Pa) (k : ∀ rs, Pa rs → ∃ r1 r2 s1 s2, rs = [r1, r2] ∧ slOf r1 = some s1 ∧ slOf r2 = some s2 ∧ D.nx ((Δ.set i s1).set j s2)) (hN : X.N.Nodup) (hij : i ≠ j := by decide) (hi : X.N[i]? = some x := by rfl) (hj : X.N[j]? = some y := by rfl)
    (hx : X.env.scope.names.lookup x = some .local := by rfl) (hy : X.env.scope.names.lookup y = some .local := by rfl)
    (hw : swappedStores [.Tuple [.Name x px, .Name y py] kt pt] (.Tuple [e, f] k2 pt2) X.env = pure (some [x, y]) := by rfl)
    (hs : swapsWithSole [.Tuple [.Name x px, .Name y py] kt pt] (.Tuple [e, f] k2 pt2) pos.line X.env = pure false := by rfl) :
    SX X b Hb Δ (.Assign [.Tuple [.Name x px, .Name y py] kt pt] (.Tuple [e, f] k2 pt2) pos) D :=
  ps_imp (ps_par hc hN hi hj hij hx hy ha hw hs) fun E σ H q => ⟨q.1, fun vs H1 rs p f1 k1 => by
    obtain ⟨r1, r2, s1, s2, er, e1, e2, kk⟩ := k rs p
    subst er
    cases k1 with
    | cons h1 t1 n1 =>
      cases t1 with
      | cons h2 t2 n2 =>
        cases t2
        refine ⟨_, _, rfl, q.2.1 _ _ H1 kk ?_⟩
        have qq := q.1.setR f1 h1 (i := i) e1
        cases r2 with
        | d z =>
          cases e2
          exact qq.setD h2
        | fr zs =>
          cases e2
          obtain ⟨a, us, e3, n3, e4, t4⟩ := h2
          subst e3
          refine qq.setOw (q.1.fr.free q.1.bag n3) e4 t4 fun m ys nm em z => ?_
          rcases set_get em with ⟨h5, h6, hl⟩ | ⟨h5, h6⟩
          · subst h5
            rw [List.getElem?_set_self (by rw [q.1.len]; exact hl)] at z
            have z' := Option.some.inj (Option.some.inj z)
            cases r1 with
            | fr ws => exact n1 ws rfl 0 zs (.ref a) rfl rfl z'
            | d w =>
              cases e1
              cases h6
            | ow ws => cases e1
            | ls ws => cases e1
            | bag => cases e1
          · rw [List.getElem?_set_ne h5] at z
            exact q.1.noOw (i := j) n3 m ys nm h6 z
        | ow zs => cases e2
        | ls zs => cases e2
        | bag => cases e2⟩
end
end K47
set_option Elab.async false
set_option linter.all false
set_option maxRecDepth 100000
set_option maxHeartbeats 2000000
namespace K47
open PySem PySem.Spec PyProof.Rows L2

section
variable {X : Cx} {b : Option Addr} {Hb : Hp} {Δ : List Sl} {st : Stmt} {rest : List Stmt} {e f g : Expr} {es : List Expr} {pos : Pos} {P P' : Rs → Prop} {K : PySem.W.Frag} {H H1 H2 H0 : Hp} {σ : L2.St} {D : Dn}

/-- storing the results of arguments into slots, one after another -/
def setAll (Δ : List Sl) : List (Nat × Sl) → List Sl
  | [] => Δ
  | (i, s) :: r => setAll (Δ.set i s) r
/-- two more results -/
theorem En.setR2 {i j : Nat} {v w : V} {r1 r2 : Rs} {s1 s2 : Sl} (q0 : En K b Hb Δ σ H0) (f : Fr b H0 H) (k1 : RsOk K b Hb H0 H v r1) (k2 : RsOk K b Hb H0 H w r2) (n : ∀ xs ys, r1 = .fr xs → r2 = .fr ys → v ≠ w) (e1 : slOf r1 = some s1) (e2 : slOf r2 = some s2) :
    En K b Hb ((Δ.set i s1).set j s2) ((σ.set i (some v)).set j (some w)) H ∧ ∀ (a : Addr), H0 a = none → v ≠ .ref a → w ≠ .ref a → ∀ m, NoOw ((Δ.set i s1).set j s2) ((σ.set i (some v)).set j (some w)) a m := by
  have qq := q0.setR f k1 (i := i) e1
  have no : ∀ (a : Addr), H0 a = none → v ≠ .ref a → ∀ m, NoOw (Δ.set i s1) (σ.set i (some v)) a m := fun a na va m k ys nk em z => by
    rcases set_get em with ⟨h5, h6, hl⟩ | ⟨h5, h6⟩
    · subst h5
      rw [List.getElem?_set_self (by rw [q0.len]; exact hl)] at z
      exact va (Option.some.inj (Option.some.inj z))
    · rw [List.getElem?_set_ne h5] at z
      exact q0.noOw (i := m) na k ys nk h6 z
  refine ⟨?_, fun a na va wa m k ys nk em z => ?_⟩
  · cases r2 with
    | d x =>
      cases e2
      exact qq.setD k2
    | fr xs =>
      cases e2
      obtain ⟨a, us, e3, n3, e4, t4⟩ := k2
      subst e3
      refine qq.setOw (q0.fr.free q0.bag n3) e4 t4 ?_
      by_cases hr : ∃ ys, r1 = .fr ys
      · obtain ⟨ys, hr⟩ := hr
        exact no a n3 (n ys xs hr rfl) j
      · intro m ys nm em z
        rcases set_get em with ⟨h5, h6, hl⟩ | ⟨h5, h6⟩
        · cases r1 with
          | fr ws => exact hr ⟨ws, rfl⟩
          | d w =>
            cases e1
            cases h6
          | ow ws => cases e1
          | ls ws => cases e1
          | bag => cases e1
        · rw [List.getElem?_set_ne h5] at z
          exact q0.noOw (i := j) n3 m ys nm h6 z
    | ow xs => cases e2
    | ls xs => cases e2
    | bag => cases e2
  · rcases set_get em with ⟨h5, h6, hl⟩ | ⟨h5, h6⟩
    · subst h5
      rw [List.getElem?_set_self (by rw [List.length_set, q0.len]; rw [List.length_set] at hl; exact hl)] at z
      exact wa (Option.some.inj (Option.some.inj z))
    · rw [List.getElem?_set_ne h5] at z
      exact no a na va m k ys nk h6 z
theorem sx_par3 (i j l : Nat) {x y z : Str} {px py pz pt : Pos} {kt k2 pt2} {Pa : List Rs → Prop} (hc : X.calm = true) (ha : AX X b Hb Δ [e, f, g] Pa)
    (k : ∀ rs, Pa rs → ∃ r1 r2 r3 s1 s2 s3, rs = [r1, r2, r3] ∧ slOf r1 = some s1 ∧ slOf r2 = some s2 ∧ slOf r3 = some s3 ∧ D.nx (((Δ.set i s1).set j s2).set l s3)) (hN : X.N.Nodup) (hij : i ≠ j := by decide) (hil : i ≠ l := by decide) (hjl : j ≠ l := by decide)
    (hi : X.N[i]? = some x := by rfl) (hj : X.N[j]? = some y := by rfl) (hl : X.N[l]? = some z := by rfl)
    (hx : X.env.scope.names.lookup x = some .local := by rfl) (hy : X.env.scope.names.lookup y = some .local := by rfl) (hz : X.env.scope.names.lookup z = some .local := by rfl)
    (hw : swappedStores [.Tuple [.Name x px, .Name y py, .Name z pz] kt pt] (.Tuple [e, f, g] k2 pt2) X.env = pure (some [x, y, z]) := by rfl)
    (hs : swapsWithSole [.Tuple [.Name x px, .Name y py, .Name z pz] kt pt] (.Tuple [e, f, g] k2 pt2) pos.line X.env = pure false := by rfl) :
    SX X b Hb Δ (.Assign [.Tuple [.Name x px, .Name y py, .Name z pz] kt pt] (.Tuple [e, f, g] k2 pt2) pos) D :=
  ps_imp (ps_par3 hc hN hi hj hl hij hil hjl hx hy hz ha hw hs) fun E σ H q => ⟨q.1, fun vs H1 rs p f1 k1 => by
    obtain ⟨r1, r2, r3, s1, s2, s3, er, e1, e2, e3, kk⟩ := k rs p
    subst er
    cases k1 with
    | @cons v1 _ _ _ h1 t1 n1 =>
      cases t1 with
      | @cons v2 _ _ _ h2 t2 n2 =>
        cases t2 with
        | @cons v3 _ _ _ h3 t3 n3 =>
          cases t3
          refine ⟨_, _, _, rfl, q.2.1 _ _ H1 kk ?_⟩
          obtain ⟨qq, no⟩ := q.1.setR2 (i := i) (j := j) f1 h1 h2 (fun xs ys a1 a2 => by subst a1 a2; exact n1 xs rfl 0 ys v2 rfl rfl) e1 e2
          cases r3 with
          | d x =>
            cases e3
            exact qq.setD h3
          | fr xs =>
            cases e3
            obtain ⟨a, us, e5, n5, e6, t6⟩ := h3
            subst e5
            have hb : Hb a = none := q.1.fr.free q.1.bag n5
            have alt : ∀ {r : Rs} {s : Sl} {v : V}, RsOk X.K b Hb H H1 v r → slOf r = some s → (∀ ys, r = .fr ys → v ≠ .ref a) → v ≠ .ref a := fun {r s v} hk es hh z => by
              subst z
              cases r with
              | fr ws => exact hh ws rfl rfl
              | d w =>
                cases hk with
                | tup e7 _ =>
                  obtain ⟨_, e7, _⟩ := e7
                  rw [e6] at e7
                  cases e7
                | lse e7 _ =>
                  rw [e6] at e7
                  cases e7
              | ow ws => cases es
              | ls ws => cases es
              | bag => cases es
            exact qq.setOw hb e6 t6 (no a n5 (alt h1 e1 fun ys er => by subst er; exact n1 ys rfl 1 xs (.ref a) rfl rfl) (alt h2 e2 fun ys er => by subst er; exact n2 ys rfl 0 xs (.ref a) rfl rfl) l)
          | ow xs => cases e3
          | ls xs => cases e3
          | bag => cases e3⟩

/-! ### targets given data -/
def tG (K : PySem.W.Frag) (b : Option Addr) (Hb : Hp) (Δ : List Sl) (x : PyData) (N : List Sl → Prop) : TG := fun v σ H Q => En K b Hb Δ σ H ∧ Dt H v x ∧ ∀ Δ' σ' H', N Δ' → En K b Hb Δ' σ' H' → KT H H' → Q σ' H'
def tGs (K : PySem.W.Frag) (b : Option Addr) (Hb : Hp) (Δ : List Sl) (xs : List PyData) (N : List Sl → Prop) : TGs := fun vs σ H Q => En K b Hb Δ σ H ∧ Dts H vs xs ∧ ∀ Δ' σ' H', N Δ' → En K b Hb Δ' σ' H' → KT H H' → Q σ' H'
abbrev GX (X : Cx) (b : Option Addr) (Hb : Hp) (Δ : List Sl) (tg : Expr) (x : PyData) (N : List Sl → Prop) : Prop := PG X tg (tG X.K b Hb Δ x N)
abbrev GsX (X : Cx) (b : Option Addr) (Hb : Hp) (Δ : List Sl) (tgs : List Expr) (xs : List PyData) (N : List Sl → Prop) : Prop := PGs X tgs (tGs X.K b Hb Δ xs N)
theorem pg_imp {tg : Expr} {t t' : TG} (h : PG X tg t) (k : ∀ v σ H Q, t' v σ H Q → t v σ H Q) : PG X tg t' := ⟨fun pins s σ H v u Q I r q => h.run pins s σ H v u Q I r (k v σ H Q q)⟩
theorem pgs_imp {tgs : List Expr} {t t' : TGs} (h : PGs X tgs t) (k : ∀ v σ H Q, t' v σ H Q → t v σ H Q) : PGs X tgs t' := ⟨fun pins s σ H v u Q I r q => h.run pins s σ H v u Q I r (k v σ H Q q)⟩
theorem gx_name (i : Nat) {x : Str} {d : PyData} {N : List Sl → Prop} (k : N (Δ.set i (.d d))) (hN : X.N.Nodup) (hi : X.N[i]? = some x := by rfl) (hx : Loc X.env.scope x := by first | exact Or.inl rfl | exact Or.inr rfl)
    (hf : X.fn x = true ∨ X.env.scope.names.lookup x = some .local := by first | exact .inl rfl | exact .inr rfl) : GX X b Hb Δ (.Name x pos) d N :=
  pg_imp (pg_name hN hi hx hf) fun v σ H Q q => q.2.2 _ _ H k (q.1.setD q.2.1) KT.refl
theorem gsx_nil {N : List Sl → Prop} (k : N Δ) : GsX X b Hb Δ [] [] N := pgs_imp pgs_nil fun v σ H Q q => by
  obtain ⟨q1, q2, q3⟩ := q
  cases q2
  exact ⟨rfl, q3 Δ σ H k q1 KT.refl⟩
theorem gsx_cons {tg : Expr} {tgs : List Expr} {x : PyData} {xs : List PyData} {N : List Sl → Prop} (h : GX X b Hb Δ tg x (fun Δ' => GsX X b Hb Δ' tgs xs N)) (hs : (assignEach (tg :: tgs) X.env).map (·.2) = assign tg X.env :: (assignEach tgs X.env).map (·.2) := by rfl) : GsX X b Hb Δ (tg :: tgs) (x :: xs) N := by
  have h2 : PGs X tgs (fun vs σ H Q => ∃ Δ', GsX X b Hb Δ' tgs xs N ∧ tGs X.K b Hb Δ' xs N vs σ H Q) := ⟨fun pins s σ H v u Q I r ⟨Δ', m, q⟩ => m.run pins s σ H v u Q I r q⟩
  exact pgs_imp (pgs_cons h h2 hs) fun vs σ H Q q => by
    obtain ⟨q1, q2, q3⟩ := q
    cases q2 with
    | cons a t => exact ⟨_, _, rfl, q1, a, fun Δ' σ' H' m en kt => ⟨Δ', m, en, t.keep kt, fun Δ2 σ2 H2 n2 e2 k2 => q3 Δ2 σ2 H2 n2 e2 (kt.trans k2)⟩⟩
theorem gx_tup {tgs : List Expr} {kk : Nat} {xs : List PyData} {N : List Sl → Prop} (h : GsX X b Hb Δ tgs xs N) (hc : X.calm = true := by rfl)
    (hn : (assignEach tgs X.env).length = xs.length := by rfl) (hst : (assignEach tgs X.env).findIdx? (·.1) = none := by rfl) : GX X b Hb Δ (.Tuple tgs kk pos) (.tuple xs) N :=
  pg_imp (pg_tup hc h hn hst) fun v σ H Q q => by
    obtain ⟨q1, q2, q3⟩ := q
    cases q2 with
    | tup e t => exact ⟨_, _, rfl, e.sq, t.len, q1, t, q3⟩
/-- the pair that enumerate yields -/
theorem gx_tupL {tgs : List Expr} {kk : Nat} {xs : List PyData} {N : List Sl → Prop} (h : GsX X b Hb Δ tgs xs N) (hc : X.calm = true := by rfl)
    (hn : (assignEach tgs X.env).length = xs.length := by rfl) (hst : (assignEach tgs X.env).findIdx? (·.1) = none := by rfl) : GX X b Hb Δ (.Tuple tgs kk pos) (.list xs) N :=
  pg_imp (pg_tup hc h hn hst) fun v σ H Q q => by
    obtain ⟨q1, q2, q3⟩ := q
    cases q2 with
    | lse e t => exact ⟨_, _, rfl, SqT.of e, t.len, q1, t, q3⟩
/-- target = data -/
theorem sx_asg {tg : Expr} {d : PyData} (ha : ED X b Hb Δ e (.d d)) (hg : GX X b Hb Δ tg d D.nx) (hs : swapsWithSole [tg] e pos.line X.env = pure false := by rfl) (hw : swappedStores [tg] e X.env = pure none := by rfl)
    (h1 : (assignEach [tg] X.env).map (·.2) = [assign tg X.env] := by rfl) : SX X b Hb Δ (.Assign [tg] e pos) D :=
  ps_imp (ps_asg ha hg hs hw h1) fun E σ H q => ⟨q.1, fun v H1 r p f1 k1 => by
    subst p
    exact ⟨q.1.step f1, k1, fun Δ' σ' H' n en _ => q.2.1 Δ' σ' H' n en⟩⟩
/-- the same where the value is one of several -/
theorem sx_asgX {tg : Expr} (ha : EX X b Hb Δ e P) (hg : ∀ r, P r → ∃ d, r = .d d ∧ GX X b Hb Δ tg d D.nx) (hs : swapsWithSole [tg] e pos.line X.env = pure false := by rfl) (hw : swappedStores [tg] e X.env = pure none := by rfl)
    (h1 : (assignEach [tg] X.env).map (·.2) = [assign tg X.env] := by rfl) : SX X b Hb Δ (.Assign [tg] e pos) D := by
  have h2 : PG X tg (fun v σ H Q => ∃ d, GX X b Hb Δ tg d D.nx ∧ tG X.K b Hb Δ d D.nx v σ H Q) := ⟨fun pins s σ H v u Q I r ⟨d, m, q⟩ => m.run pins s σ H v u Q I r q⟩
  exact ps_imp (ps_asg ha h2 hs hw h1) fun E σ H q => ⟨q.1, fun v H1 r p f1 k1 => by
    obtain ⟨d, er, m⟩ := hg r p
    subst er
    exact ⟨d, m, q.1.step f1, k1, fun Δ' σ' H' n en _ => q.2.1 Δ' σ' H' n en⟩⟩

/-! ### one's own list changed -/
theorem slot_ow {i : Nat} {xs : List PyData} (q : En K b Hb Δ σ H) (hi : Δ[i]? = some (.ow xs)) : ∃ a vs, σ[i]? = some (some (.ref a)) ∧ Hb a = none ∧ some a ≠ b ∧ H a = some (.lst vs) ∧ Dts H vs xs := by
  obtain ⟨o, e1, a, vs, e2, n, e3, t⟩ := q.at_ i _ hi
  subst e2
  exact ⟨a, vs, e1, n, q.bag.ne_none n, e3, t⟩
/-- x.append(e) -/
theorem sx_append (i : Nat) {x : Str} {xs : List PyData} {p1 apos cpos : Pos} (ha : EX X b Hb Δ e P) (k : ∀ r, P r → ∃ d, r = .d d ∧ xs.length < sizeLine ∧ D.nx (Δ.set i (.ow (xs ++ [d])))) (hi : Δ[i]? = some (.ow xs) := by rfl)
    (hN : X.N[i]? = some x := by rfl) (hv : Vis X.env.scope x := by first | exact Or.inl rfl | exact Or.inr (Or.inl rfl) | exact Or.inr (Or.inr rfl)) (hd : (x == ("__debug__" : Str)) = false := by decide) (hcd : (x == ("__classdict__" : Str)) = false := by decide)
    (hbase : attributeBase (.Name x p1) "append" X.env (eval (.Name x p1) X.env) = eval (.Name x p1) X.env := by rfl)
    (hfew : ((backTo cpos (starEach [e] X.env)).all (fun x => !x.1) && (backToKw cpos (keywordEach [] X.env)).all (fun x => x.1.isSome)
      && decide ([e].length + ([] : List Keyword).length + (if ([] : List Keyword).isEmpty then 0 else 1) < 30)) = true := by rfl)
    (hline : (apos.endLine == cpos.line) = true := by rfl) (hs : starEach [e] X.env = (false, eval e X.env) :: starEach [] X.env := by rfl)
    (hsw : swapsWith (.Call (.Attribute (.Name x p1) "append" apos) [e] [] cpos) none pos.line X.env = pure false := by rfl) : SX X b Hb Δ (.Expr (.Call (.Attribute (.Name x p1) "append" apos) [e] [] cpos) pos) D :=
  ps_imp (ps_expr (pe_bm PySem.F.plainAttrs_list PySem.F.slot_list_append PySem.F.type_list_append mt_append (pe_var hN hv hd hcd) (pa_cons ha pa_nil hs) hbase hfew hline hs) hsw) fun E σ H q => by
    obtain ⟨a, vs, e1, n, nb, e2, t⟩ := slot_ow q.1 hi
    refine ⟨.ref a, e1, .inl ⟨rfl, vs, SqL.of e2⟩, q.1, fun v H1 r p f1 k1 => ?_⟩
    obtain ⟨d, er, hl, kk⟩ := k r p
    subst er
    have e3 := f1.all _ _ nb e2
    have t3 := t.keep (f1.kt q.1.bagH)
    exact ⟨a, vs, v, rfl, rfl, e3, by rw [t3.len]; exact hl, q.2.1 _ _ _ kk ((q.1.step f1).mut hi e1 n e3 (t3.app (.cons k1 .nil)))⟩
/-- x.insert(i, e) -/
theorem sx_insert (i : Nat) {x : Str} {xs : List PyData} {p1 apos cpos : Pos} {Pa : List Rs → Prop} (ha : AX X b Hb Δ [e, f] Pa) (k : ∀ rs, Pa rs → ∃ (j : Nat) (d : PyData), rs = [.d (.int j), .d d] ∧ xs.length < 1000 ∧ j ≤ 1000 ∧ D.nx (Δ.set i (.ow (xs.take j ++ [d] ++ xs.drop j)))) (hi : Δ[i]? = some (.ow xs) := by rfl)
    (hN : X.N[i]? = some x := by rfl) (hv : Vis X.env.scope x := by first | exact Or.inl rfl | exact Or.inr (Or.inl rfl) | exact Or.inr (Or.inr rfl)) (hd : (x == ("__debug__" : Str)) = false := by decide) (hcd : (x == ("__classdict__" : Str)) = false := by decide)
    (hbase : attributeBase (.Name x p1) "insert" X.env (eval (.Name x p1) X.env) = eval (.Name x p1) X.env := by rfl)
    (hfew : ((backTo cpos (starEach [e, f] X.env)).all (fun x => !x.1) && (backToKw cpos (keywordEach [] X.env)).all (fun x => x.1.isSome)
      && decide ([e, f].length + ([] : List Keyword).length + (if ([] : List Keyword).isEmpty then 0 else 1) < 30)) = true := by rfl)
    (hline : (apos.endLine == cpos.line) = true := by rfl) (hs : starEach [e, f] X.env = (false, eval e X.env) :: starEach [f] X.env := by rfl) (hpl : (backTo cpos (starEach [f] X.env)).any (·.1) = false := by rfl)
    (hsw : swapsWith (.Call (.Attribute (.Name x p1) "insert" apos) [e, f] [] cpos) none pos.line X.env = pure false := by rfl) : SX X b Hb Δ (.Expr (.Call (.Attribute (.Name x p1) "insert" apos) [e, f] [] cpos) pos) D :=
  ps_imp (ps_expr (pe_bm PySem.F.plainAttrs_list PySem.F.slot_list_insert PySem.F.type_list_insert mt_insert (pe_var hN hv hd hcd) ha hbase hfew hline hs hpl) hsw) fun E σ H q => by
    obtain ⟨a, vs, e1, n, nb, e2, t⟩ := slot_ow q.1 hi
    refine ⟨.ref a, e1, .inl ⟨rfl, vs, SqL.of e2⟩, q.1, fun ws H1 rs p f1 k1 => ?_⟩
    obtain ⟨j, d, er, hl, hj, kk⟩ := k rs p
    subst er
    cases k1 with
    | cons h1 t1 _ =>
      cases h1
      cases t1 with
      | cons h2 t2 _ =>
        cases t2
        have e3 := f1.all _ _ nb e2
        have t3 := t.keep (f1.kt q.1.bagH)
        refine ⟨a, vs, j, _, rfl, rfl, e3, by rw [t3.len]; exact small1000 (Nat.le_of_lt hl), Int.natCast_nonneg _, by omega, q.2.1 _ _ _ kk ((q.1.step f1).mut hi e1 n e3 ?_)⟩
        rw [Int.toNat_natCast]
        exact ((Dts.take j t3).app (.cons h2 .nil)).app (Dts.drop j t3)
/-- x.extend(e), e a list just made -/
theorem sx_extend (i : Nat) {x : Str} {xs : List PyData} {p1 apos cpos : Pos} (ha : EX X b Hb Δ e P) (k : ∀ r, P r → ∃ ys, r = .fr ys ∧ xs.length + ys.length ≤ 1000 ∧ D.nx (Δ.set i (.ow (xs ++ ys)))) (hi : Δ[i]? = some (.ow xs) := by rfl)
    (hN : X.N[i]? = some x := by rfl) (hv : Vis X.env.scope x := by first | exact Or.inl rfl | exact Or.inr (Or.inl rfl) | exact Or.inr (Or.inr rfl)) (hd : (x == ("__debug__" : Str)) = false := by decide) (hcd : (x == ("__classdict__" : Str)) = false := by decide)
    (hbase : attributeBase (.Name x p1) "extend" X.env (eval (.Name x p1) X.env) = eval (.Name x p1) X.env := by rfl)
    (hfew : ((backTo cpos (starEach [e] X.env)).all (fun x => !x.1) && (backToKw cpos (keywordEach [] X.env)).all (fun x => x.1.isSome)
      && decide ([e].length + ([] : List Keyword).length + (if ([] : List Keyword).isEmpty then 0 else 1) < 30)) = true := by rfl)
    (hline : (apos.endLine == cpos.line) = true := by rfl) (hs : starEach [e] X.env = (false, eval e X.env) :: starEach [] X.env := by rfl)
    (hsw : swapsWith (.Call (.Attribute (.Name x p1) "extend" apos) [e] [] cpos) none pos.line X.env = pure false := by rfl) : SX X b Hb Δ (.Expr (.Call (.Attribute (.Name x p1) "extend" apos) [e] [] cpos) pos) D :=
  ps_imp (ps_expr (pe_bm PySem.F.plainAttrs_list PySem.F.slot_list_extend PySem.F.type_list_extend mt_extend (pe_var hN hv hd hcd) (pa_cons ha pa_nil hs) hbase hfew hline hs) hsw) fun E σ H q => by
    obtain ⟨a, vs, e1, n, nb, e2, t⟩ := slot_ow q.1 hi
    refine ⟨.ref a, e1, .inl ⟨rfl, vs, SqL.of e2⟩, q.1, fun v H1 r p f1 k1 => ?_⟩
    obtain ⟨ys, er, hl, kk⟩ := k r p
    subst er
    obtain ⟨a2, ws, e4, n4, e5, t5⟩ := k1
    subst e4
    have e3 := f1.all _ _ nb e2
    have t3 := t.keep (f1.kt q.1.bagH)
    exact ⟨a, a2, vs, ws, rfl, rfl, e3, e5, by rw [t3.len, t5.len]; exact Nat.le_of_lt (small1000 hl), q.2.1 _ _ _ kk ((q.1.step f1).mut hi e1 n e3 (t3.app t5))⟩
/-- x.extend(t), t a tuple -/
def rExtT (K : PySem.W.Frag) : V → List V → Hp → VK → Prop := fun x vs H Q => ∃ l c xs zs, x = .ref l ∧ vs = [.ref c] ∧ H l = some (.lst xs) ∧ SqT K H c zs ∧ xs.length + zs.length ≤ sizeLine ∧ Q .non (upd H l (.lst (xs ++ zs)))
theorem mt_extT : MtM X "list.extend" (rExtT X.K) := by
  intro pins s σ H x ps v us Q I rx rp told
  obtain ⟨l, c, xs, zs, ex, ep, old, tup, fit, q⟩ := told
  subst ex ep
  cases rx
  obtain ⟨_, rfl, rc⟩ := rp.one
  cases rc
  obtain ⟨_, its, n, r1, _, at_l⟩ := I.lstM old
  obtain ⟨more, r2, ⟨o, at_c, cls, m, dat⟩, _⟩ := I.tuple tup
  have sizes : its.toArray.size + more.toArray.size ≤ sizeLine := by
    rw [List.size_toArray, List.size_toArray, ← r1.length, ← r2.length]
    exact fit
  have after := I.lset (its' := its ++ more) (f := (· ++ more.toArray)) (t' := s.toks) old at_l (by simp) (r1.append r2) (by rw [List.length_append]; exact fit)
  refine wpAny_call_entry PySem.F.slot_list_extend ⟨_, at_l, rfl⟩ PySem.F.entry_list_extend ?_ (PySem.F.args_list_extend_2 _ _)
  have door := extend_door sizes
  have ty : s.TypeIs (.ref c) "tuple" := ⟨o, at_c, cls⟩
  have grow : ∀ {Q : Unit → Shared → Prop} {E}, Q () { s with heap := s.heap.update l (Obj.mapSeq (· ++ more.toArray)) } → wpAny (model X.prog X.w) X.A.in1 (updateSeq l (· ++ more.toArray)) Q E s := fun q => wpAny_updateSeq at_l rfl q (Nat.le_trans (Nat.le_add_right ..) sizes) (by rw [Array.size_append]; exact Nat.le_succ_of_le sizes)
  have second : ∀ {Q : Option (Array Value) → Shared → Prop} {E}, Q (some more.toArray) s → wpAny (model X.prog X.w) X.A.in1 (seqItems? (.ref c)) Q E s := fun q => wpAny_seqItems at_c dat q
  have first_ : ∀ {Q : Option (Array Value) → Shared → Prop} {E}, Q (some its.toArray) s → wpAny (model X.prog X.w) X.A.in1 (seqItems? (.ref l)) Q E s := fun q => wpAny_seqItems at_l rfl q
  wp_walk using grow, second, first_
  rw [if_neg door]
  wp_walk using grow
  exact ⟨_, rfl, .non, _, after, rfl, q⟩
/-- x.extend(e), e data that is a tuple -/
theorem sx_extendT (i : Nat) {x : Str} {xs : List PyData} {p1 apos cpos : Pos} (ha : EX X b Hb Δ e P) (k : ∀ r, P r → ∃ ys, r = .d (.tuple ys) ∧ xs.length + ys.length ≤ 1000 ∧ D.nx (Δ.set i (.ow (xs ++ ys)))) (hi : Δ[i]? = some (.ow xs) := by rfl)
    (hN : X.N[i]? = some x := by rfl) (hv : Vis X.env.scope x := by first | exact Or.inl rfl | exact Or.inr (Or.inl rfl) | exact Or.inr (Or.inr rfl)) (hd : (x == ("__debug__" : Str)) = false := by decide) (hcd : (x == ("__classdict__" : Str)) = false := by decide)
    (hbase : attributeBase (.Name x p1) "extend" X.env (eval (.Name x p1) X.env) = eval (.Name x p1) X.env := by rfl)
    (hfew : ((backTo cpos (starEach [e] X.env)).all (fun x => !x.1) && (backToKw cpos (keywordEach [] X.env)).all (fun x => x.1.isSome)
      && decide ([e].length + ([] : List Keyword).length + (if ([] : List Keyword).isEmpty then 0 else 1) < 30)) = true := by rfl)
    (hline : (apos.endLine == cpos.line) = true := by rfl) (hs : starEach [e] X.env = (false, eval e X.env) :: starEach [] X.env := by rfl)
    (hsw : swapsWith (.Call (.Attribute (.Name x p1) "extend" apos) [e] [] cpos) none pos.line X.env = pure false := by rfl) : SX X b Hb Δ (.Expr (.Call (.Attribute (.Name x p1) "extend" apos) [e] [] cpos) pos) D :=
  ps_imp (ps_expr (pe_bm PySem.F.plainAttrs_list PySem.F.slot_list_extend PySem.F.type_list_extend mt_extT (pe_var hN hv hd hcd) (pa_cons ha pa_nil hs) hbase hfew hline hs) hsw) fun E σ H q => by
    obtain ⟨a, vs, e1, n, nb, e2, t⟩ := slot_ow q.1 hi
    refine ⟨.ref a, e1, .inl ⟨rfl, vs, SqL.of e2⟩, q.1, fun v H1 r p f1 k1 => ?_⟩
    obtain ⟨ys, er, hl, kk⟩ := k r p
    subst er
    cases k1 with
    | tup e5 t5 =>
      have e3 := f1.all _ _ nb e2
      have t3 := t.keep (f1.kt q.1.bagH)
      exact ⟨a, _, vs, _, rfl, rfl, e3, e5.sq, by rw [t3.len, t5.len]; exact Nat.le_of_lt (small1000 hl), q.2.1 _ _ _ kk ((q.1.step f1).mut hi e1 n e3 (t3.app t5))⟩
/-- a store at o[i] asks o, then i, and stores (i is no slice) -/
abbrev StoresAt (env : Env) (o i : Expr) (p : Pos) : Prop := ∀ v, assign (.Subscript o i p) env v = (holding [v] (eval o env) >>= fun a => holding [v, a] (eval i env) >>= fun j => standAt p >>= fun _ => holding [v, a, j] (setItem a j v) >>= fun _ => release [v, a, j] [])
/-- x[j] = e -/
theorem sx_setItem (i : Nat) {x : Str} {xs : List PyData} {p1 pos' : Pos} (ha : EX X b Hb Δ e P) {j : Int} {m : Nat} (hj : ED X b Hb Δ f (.d (.int j))) (hm : ixN xs.length j = some m) (k : ∀ r, P r → ∃ d, r = .d d ∧ D.nx (Δ.set i (.ow (xs.set m d)))) (hi : Δ[i]? = some (.ow xs) := by rfl)
    (hN : X.N[i]? = some x := by rfl) (hv : Vis X.env.scope x := by first | exact Or.inl rfl | exact Or.inr (Or.inl rfl) | exact Or.inr (Or.inr rfl)) (hd : (x == ("__debug__" : Str)) = false := by decide) (hcd : (x == ("__classdict__" : Str)) = false := by decide)
    (hs : swapsWithSole [.Subscript (.Name x p1) f pos'] e pos.line X.env = pure false := by rfl) (hw : swappedStores [.Subscript (.Name x p1) f pos'] e X.env = pure none := by rfl)
    (h1 : (assignEach [.Subscript (.Name x p1) f pos'] X.env).map (·.2) = [assign (.Subscript (.Name x p1) f pos') X.env] := by rfl)
    (h2 : StoresAt X.env (.Name x p1) f pos' := by intro _; rfl) : SX X b Hb Δ (.Assign [.Subscript (.Name x p1) f pos'] e pos) D :=
  ps_imp (ps_asg ha (pg_sub (pe_var hN hv hd hcd) hj set_list h2) hs hw h1) fun E σ H q => ⟨q.1, fun v H1 r p f1 k1 => by
    obtain ⟨d, er, kk⟩ := k r p
    subst er
    obtain ⟨a, vs, e1, n, nb, e2, t⟩ := slot_ow (q.1.step f1) hi
    refine ⟨.ref a, e1, q.1.step f1, fun w H2 r' p' f2 k2 => ?_⟩
    subst p'
    cases k2
    have e3 := f2.all _ _ nb e2
    have kt := f2.kt (q.1.step f1).bagH
    have t3 := t.keep kt
    exact ⟨a, vs, j, m, rfl, rfl, e3, by rw [t3.len]; exact hm, q.2.1 _ _ _ kk (((q.1.step f1).step f2).mut hi e1 n e3 (Dts.set (Dt.keep kt k1) m t3))⟩⟩
/-- x[j] = y.pop() -/
theorem sx_setPop (i l : Nat) {x y : Str} {xs ys : List PyData} {d : PyData} {p1 p2 pos' apos cpos : Pos} {j : Int} {m : Nat} (hj : ED X b Hb Δ f (.d (.int j))) (hm : ixN xs.length j = some m) (k : D.nx ((Δ.set l (.ow ys)).set i (.ow (xs.set m d)))) (hil : i ≠ l := by decide) (hi : Δ[i]? = some (.ow xs) := by rfl) (hl : Δ[l]? = some (.ow (ys ++ [d])) := by rfl)
    (hjx : ∀ (σ : L2.St) (H : Hp), En X.K b Hb (Δ.set l (.ow ys)) σ H → En X.K b Hb (Δ.set l (.ow ys)) σ H) (hj' : ED X b Hb (Δ.set l (.ow ys)) f (.d (.int j)))
    (hN : X.N[i]? = some x := by rfl) (hv : Vis X.env.scope x := by first | exact Or.inl rfl | exact Or.inr (Or.inl rfl) | exact Or.inr (Or.inr rfl)) (hd : (x == ("__debug__" : Str)) = false := by decide) (hcd : (x == ("__classdict__" : Str)) = false := by decide)
    (hN2 : X.N[l]? = some y := by rfl) (hv2 : Vis X.env.scope y := by first | exact Or.inl rfl | exact Or.inr (Or.inl rfl) | exact Or.inr (Or.inr rfl)) (hd2 : (y == ("__debug__" : Str)) = false := by decide) (hcd2 : (y == ("__classdict__" : Str)) = false := by decide)
    (hbase : attributeBase (.Name y p2) "pop" X.env (eval (.Name y p2) X.env) = eval (.Name y p2) X.env := by rfl) (hline : (apos.endLine == cpos.line) = true := by rfl)
    (hs : swapsWithSole [.Subscript (.Name x p1) f pos'] (.Call (.Attribute (.Name y p2) "pop" apos) [] [] cpos) pos.line X.env = pure false := by rfl) (hw : swappedStores [.Subscript (.Name x p1) f pos'] (.Call (.Attribute (.Name y p2) "pop" apos) [] [] cpos) X.env = pure none := by rfl)
    (h1 : (assignEach [.Subscript (.Name x p1) f pos'] X.env).map (·.2) = [assign (.Subscript (.Name x p1) f pos') X.env] := by rfl)
    (h2 : StoresAt X.env (.Name x p1) f pos' := by intro _; rfl) : SX X b Hb Δ (.Assign [.Subscript (.Name x p1) f pos'] (.Call (.Attribute (.Name y p2) "pop" apos) [] [] cpos) pos) D :=
  ps_imp (ps_asg (pe_bm0 PySem.F.plainAttrs_list PySem.F.slot_list_pop PySem.F.type_list_pop mt_pop (pe_var hN2 hv2 hd2 hcd2) hbase hline) (pg_sub (pe_var hN hv hd hcd) hj' set_list h2) hs hw h1) fun E σ H q => by
    obtain ⟨a, vs, e1, n, nb, e2, t⟩ := slot_ow q.1 hl
    have hlen : vs.length = ys.length + 1 := by rw [t.len, List.length_append]; rfl
    obtain ⟨v, hv3, kd⟩ := Dts.at (i := ys.length) (d := d) t (by rw [List.getElem?_append_right (Nat.le_refl _), Nat.sub_self]; rfl)
    have tdl : Dts H vs.dropLast ys := by
      have z := Dts.take ys.length t
      rw [List.take_left'] at z
      · rw [List.dropLast_eq_take, hlen, Nat.add_sub_cancel]; exact z
      · rfl
    refine ⟨.ref a, e1, .inl ⟨rfl, vs, SqL.of e2⟩, a, vs, v, rfl, rfl, e2, by rw [hlen, Nat.add_sub_cancel]; exact hv3, ?_⟩
    have q1 := q.1.mut hl e1 n e2 tdl
    have kd1 := kd.keep (KT.mut (o := .lst vs.dropLast) e2)
    have hi1 : (Δ.set l (.ow ys))[i]? = some (.ow xs) := by rw [List.getElem?_set_ne (Ne.symm hil)]; exact hi
    obtain ⟨a', vs', e1', n', nb', e2', t'⟩ := slot_ow q1 hi1
    refine ⟨.ref a', e1', q1, fun w H2 r' p' f2 k2 => ?_⟩
    subst p'
    cases k2
    have e3 := f2.all _ _ nb' e2'
    have kt := f2.kt q1.bagH
    have t3 := t'.keep kt
    exact ⟨a', vs', j, m, rfl, rfl, e3, by rw [t3.len]; exact hm, q.2.1 _ _ _ k ((q1.step f2).mut hi1 e1' n' e3 (Dts.set (Dt.keep kt kd1) m t3))⟩
/-- i += e, ints -/
theorem sx_augI (i : Nat) {x : Str} {p1 : Pos} {m n : Int} (ha : ED X b Hb Δ e (.d (.int n))) (k : D.nx (Δ.set i (.d (.int (m + n))))) (hN : X.N.Nodup) (hs : Δ[i]? = some (.d (.int m)) := by rfl) (hi : X.N[i]? = some x := by rfl) (hx : Loc X.env.scope x := by first | exact Or.inl rfl | exact Or.inr rfl)
    (hf : X.fn x = true ∨ X.env.scope.names.lookup x = some .local := by first | exact .inl rfl | exact .inr rfl) : SX X b Hb Δ (.AugAssign (.Name x p1) .Add e pos) D :=
  ps_imp (ps_aug hN hi hx ha ip_add hf) fun E σ H q => by
    obtain ⟨o, e1, v, e2, kv⟩ := q.1.at_ i _ hs
    subst e2
    cases kv
    refine ⟨_, e1, q.1, fun w H1 r p f1 k1 => ?_⟩
    subst p
    cases k1
    exact ⟨m, n, rfl, rfl, q.2.1 _ _ _ k ((q.1.step f1).setD (.int _))⟩
end
end K47
set_option Elab.async false
set_option linter.all false
set_option maxRecDepth 100000
set_option maxHeartbeats 2000000
namespace K47
open PySem PySem.Spec PyProof.Rows L2

/-! ### what is walked -/
/-- a walk over data ds, begun at H1; lk: the list that must stand meanwhile -/
def DW (K : PySem.W.Frag) (b : Option Addr) (J : It) (ds : List PyData) (H1 : Hp) (lk : Option (Addr × List V)) : Prop := ∃ (Gd : Hp → Prop) (Y : Nat → Hp → V → Hp → Prop), Walk J ds.length Gd Y ∧
  (∀ H', Fr b H1 H' ∨ KT H1 H' → (∀ a vs, lk = some (a, vs) → SqL K H' a vs) → KT H1 H' → Gd H') ∧
  (∀ i H' x H'', i < ds.length → KT H1 H' → Gd H' → Y i H' x H'' → (∀ a o, H' a = some o → H'' a = some o) ∧ ∃ d, ds[i]? = some d ∧ Dt H'' x d)
/-- what a walk locks: nothing, a list that is only read (at a), one's own list in a slot, a list just made -/
inductive Lk | no | rd (a : Addr) | slot (k : Nat) | tmp
def LkOk (K : PySem.W.Frag) (b : Option Addr) (Hb : Hp) (σ : L2.St) (H H1 : Hp) (ds : List PyData) (lk : Option (Addr × List V)) (tk : Option (List PyData)) : Lk → Prop
  | .no => lk = none
  | .rd a => ∃ vs, lk = some (a, vs) ∧ some a ≠ b ∧ SqL K Hb a vs
  | .slot k => ∃ a vs xs, lk = some (a, vs) ∧ tk = some xs ∧ σ[k]? = some (some (.ref a)) ∧ Hb a = none ∧ H1 a = some (.lst vs) ∧ Dts H1 vs xs
  | .tmp => ∃ a vs xs, lk = some (a, vs) ∧ tk = some xs ∧ H a = none ∧ H1 a = some (.lst vs) ∧ Dts H1 vs xs
def tI (K : PySem.W.Frag) (b : Option Addr) (Hb : Hp) (Δ : List Sl) (ds : List PyData) (tk : Option (List PyData)) (l : Lk) : TI := fun σ H R => En K b Hb Δ σ H ∧ ∀ J H1 lk, Fr b H H1 → DW K b J ds H1 lk → LkOk K b Hb σ H H1 ds lk tk l → R J H1
/-- ds: what is given; tk: the locked list's own data -/
abbrev IX (X : Cx) (b : Option Addr) (Hb : Hp) (Δ : List Sl) (tg e : Expr) (ds : List PyData) (tk : Option (List PyData)) (l : Lk) : Prop := PI X tg e (tI X.K b Hb Δ ds tk l)

section
variable {X : Cx} {b : Option Addr} {Hb : Hp} {Δ : List Sl} {st : Stmt} {rest : List Stmt} {e f g tg : Expr} {es : List Expr} {pos : Pos} {P P' : Rs → Prop} {K : PySem.W.Frag} {H H1 H2 H0 : Hp} {σ : L2.St} {D : Dn}
theorem pi_imp {t t' : TI} (h : PI X tg e t) (k : ∀ σ H Q, t' σ H Q → t σ H Q) : PI X tg e t' := ⟨fun pins s σ H R I q => h.run pins s σ H R I (k σ H R q)⟩
theorem dw_list {a : Addr} {vs : List V} {ds : List PyData} (t : Dts H1 vs ds) : DW K b (Itl K a) ds H1 (some (a, vs)) := by
  refine ⟨_, _, by rw [← t.len]; exact walk_list (xs := vs), fun H' _ hl _ => hl a vs rfl, fun i H' x H'' hi kt _ y => ?_⟩
  obtain ⟨e1, e2⟩ := y
  subst e1
  obtain ⟨d, h1, h2⟩ := (t.keep kt).get e2
  exact ⟨fun _ _ z => z, d, h1, h2⟩
theorem dw_tup {a : Addr} {vs : List V} {ds : List PyData} (h : TupN H1 a vs) (t : Dts H1 vs ds) : DW K b (Itt K a) ds H1 none := by
  refine ⟨_, _, by rw [← t.len]; exact walk_tup (xs := vs), fun H' _ _ kt => (h.keep kt).sq, fun i H' x H'' hi kt _ y => ?_⟩
  obtain ⟨e1, e2⟩ := y
  subst e1
  obtain ⟨d, h1, h2⟩ := (t.keep kt).get e2
  exact ⟨fun _ _ z => z, d, h1, h2⟩
/-- lo, lo + 1, .. -/
def rgD (lo : Int) (n : Nat) : List PyData := (List.range n).map fun i => .int (lo + (i : Nat))
theorem rgD_len (lo : Int) (n : Nat) : (rgD lo n).length = n := by unfold rgD; rw [List.length_map, List.length_range]
theorem rgD_get {lo : Int} {n i : Nat} (h : i < n) : (rgD lo n)[i]? = some (.int (lo + i)) := by unfold rgD; rw [List.getElem?_map, List.getElem?_range h]; rfl
theorem dw_range {lo : Int} {n : Nat} : DW K b (Itr lo n) (rgD lo n) H1 none := by
  refine ⟨_, _, by rw [rgD_len]; exact walk_range, fun H' _ _ _ => trivial, fun i H' x H'' hi kt _ y => ?_⟩
  obtain ⟨e1, e2⟩ := y
  subst e1 e2
  rw [rgD_len] at hi
  exact ⟨fun _ _ z => z, _, rgD_get hi, .int _⟩
/-- the signs of a text -/
def sgD (x : Str) : List PyData := x.cps.toList.map fun c => .str ⟨#[c]⟩
theorem dw_str {x : Str} : DW K b (Its x) (sgD x) H1 none := by
  have hl : (sgD x).length = x.cps.size := by unfold sgD; rw [List.length_map, Array.length_toList]
  refine ⟨_, _, by rw [hl]; exact walk_str, fun H' _ _ _ => trivial, fun i H' y H'' hi kt _ q => ?_⟩
  obtain ⟨e1, c, e2, e3⟩ := q
  subst e1 e3
  refine ⟨fun _ _ z => z, _, ?_, .str _⟩
  unfold sgD
  rw [List.getElem?_map, Array.getElem?_toList, e2]
  rfl
/-- (0, x), (1, y), .. -/
def enD (ds : List PyData) : List PyData := ds.zipIdx.map fun p => .list [.int (p.2 : Nat), p.1]
theorem dw_enum {a : Addr} {vs : List V} {ds : List PyData} (t : Dts H1 vs ds) : DW K b (Ite K a) (enD ds) H1 (some (a, vs)) := by
  have hl : (enD ds).length = vs.length := by unfold enD; rw [List.length_map, List.length_zipIdx, t.len]
  refine ⟨_, _, by rw [hl]; exact walk_enum (xs := vs), fun H' _ hl _ => hl a vs rfl, fun i H' x H'' hi kt _ y => ?_⟩
  obtain ⟨T, u, w, e1, e2, e3, e4, e5⟩ := y
  subst e1 e3
  cases e4
  obtain ⟨d, h1, h2⟩ := (t.keep kt).get e5
  refine ⟨fun a' o z => by rw [upd_ne (ne_of_none z e2)]; exact z, .list [.int (i : Nat), d], ?_, .lse upd_same (.cons (.int _) (.cons (h2.keep (KT.new e2)) .nil))⟩
  unfold enD
  rw [List.getElem?_map, List.getElem?_zipIdx, h1]
  simp
theorem ix_tup {ds : List PyData} (ha : ED X b Hb Δ e (.d (.tuple ds))) : IX X b Hb Δ tg e ds none .no := pi_imp (pi_tup ha) fun σ H R q => ⟨q.1, fun v H1 r p f1 k1 => by
  subst p
  cases k1 with
  | tup e1 t1 => exact ⟨_, rfl, ⟨_, e1.sq⟩, q.2 _ H1 none f1 (dw_tup e1 t1) rfl⟩⟩
theorem ix_str {x : Str} (ha : ED X b Hb Δ e (.d (.str x))) : IX X b Hb Δ tg e (sgD x) none .no := pi_imp (pi_str ha) fun σ H R q => ⟨q.1, fun v H1 r p f1 k1 => by
  subst p
  cases k1
  exact ⟨x, rfl, q.2 _ H1 none f1 dw_str rfl⟩⟩
theorem ix_tmp {ds : List PyData} (ha : ED X b Hb Δ e (.fr ds)) : IX X b Hb Δ tg e ds (some ds) .tmp := pi_imp (pi_list ha) fun σ H R q => ⟨q.1, fun v H1 r p f1 k1 => by
  subst p
  obtain ⟨a, vs, e1, n, e2, t⟩ := k1
  subst e1
  exact ⟨a, rfl, ⟨_, SqL.of e2⟩, q.2 _ H1 _ f1 (dw_list t) ⟨a, vs, ds, rfl, rfl, n, e2, t⟩⟩⟩
theorem ix_slot (i : Nat) {x : Str} {xs : List PyData} (hs : Δ[i]? = some (.ow xs) := by rfl) (hN : X.N[i]? = some x := by rfl) (hv : Vis X.env.scope x := by first | exact Or.inl rfl | exact Or.inr (Or.inl rfl) | exact Or.inr (Or.inr rfl))
    (hd : (x == ("__debug__" : Str)) = false := by decide) (hcd : (x == ("__classdict__" : Str)) = false := by decide) : IX X b Hb Δ tg (.Name x pos) xs (some xs) (.slot i) := pi_imp (pi_list (pe_var hN hv hd hcd)) fun σ H R q => by
  obtain ⟨a, vs, e1, n, nb, e2, t⟩ := slot_ow q.1 hs
  exact ⟨.ref a, e1, a, rfl, ⟨_, SqL.of e2⟩, q.2 _ H _ .refl (dw_list t) ⟨a, vs, xs, rfl, rfl, e1, n, e2, t⟩⟩
theorem ix_rd (i : Nat) {x : Str} {a : Addr} {xs : List PyData} (hs : Δ[i]? = some (.br a xs) := by rfl) (hN : X.N[i]? = some x := by rfl) (hv : Vis X.env.scope x := by first | exact Or.inl rfl | exact Or.inr (Or.inl rfl) | exact Or.inr (Or.inr rfl))
    (hd : (x == ("__debug__" : Str)) = false := by decide) (hcd : (x == ("__classdict__" : Str)) = false := by decide) : IX X b Hb Δ tg (.Name x pos) xs none (.rd a) := pi_imp (pi_list (pe_var hN hv hd hcd)) fun σ H R q => by
  obtain ⟨o, e1, e2, nb, vs, e3, t⟩ := q.1.at_ i _ hs
  subst e2
  have t1 := t.keep (q.1.fr.kt q.1.bag)
  exact ⟨.ref a, e1, a, rfl, ⟨_, sql_fr q.1.fr nb e3⟩, q.2 _ H _ .refl (dw_list t1) ⟨vs, rfl, nb, e3⟩⟩
theorem ix_enum (i : Nat) {x : Str} {xs : List PyData} {elts : List Expr} {kk : Nat} {tpos p p1 : Pos} (hg : Gl X "enumerate") (hm : X.mg "enumerate" = none) (hs : Δ[i]? = some (.ow xs) := by rfl) (hN : X.N[i]? = some x := by rfl) (hv : Vis X.env.scope x := by first | exact Or.inl rfl | exact Or.inr (Or.inl rfl) | exact Or.inr (Or.inr rfl))
    (hd : (x == ("__debug__" : Str)) = false := by decide) (hcd : (x == ("__classdict__" : Str)) = false := by decide) (hst : starEach [.Name x p1] X.env = [(false, eval (.Name x p1) X.env)] := by rfl) :
    IX X b Hb Δ (.Tuple elts kk tpos) (.Call (.Name "enumerate" p) [.Name x p1] [] pos) (enD xs) (some xs) (.slot i) := pi_imp (pi_enum hg hm (pa_cons (pe_var hN hv hd hcd) pa_nil hst) hst) fun σ H R q => by
  obtain ⟨a, vs, e1, n, nb, e2, t⟩ := slot_ow q.1 hs
  exact ⟨.ref a, e1, a, vs, rfl, SqL.of e2, q.2 _ H _ .refl (dw_enum t) ⟨a, vs, xs, rfl, rfl, e1, n, e2, t⟩⟩
theorem ix_range1 {n : Int} {p : Pos} (hg : Gl X "range") (hm : X.mg "range" = none) (ha : ED X b Hb Δ e (.d (.int n))) (h1 : -(2 ^ 62) ≤ n) (h2 : n < 2 ^ 62) (hs : starEach [e] X.env = [(false, eval e X.env)] := by rfl) : IX X b Hb Δ tg (.Call (.Name "range" p) [e] [] pos) (rgD 0 n.toNat) none .no :=
  pi_imp (pi_range1 hg hm (pa_cons ha pa_nil hs) hs) fun σ H R q => ⟨q.1, fun v H1 r p f1 k1 => by
    subst p
    cases k1
    exact ⟨n, rfl, h1, h2, q.2 _ H1 none f1 dw_range rfl⟩⟩
theorem ix_range2 {m n : Int} {p : Pos} (hg : Gl X "range") (hm : X.mg "range" = none) (ha : ED X b Hb Δ e (.d (.int m))) (hb : ED X b Hb Δ f (.d (.int n))) (h1 : -(2 ^ 62) ≤ m) (h2 : m < 2 ^ 62) (h3 : -(2 ^ 62) ≤ n) (h4 : n < 2 ^ 62) (hs : starEach [e, f] X.env = [(false, eval e X.env), (false, eval f X.env)] := by rfl) (hs2 : starEach [f] X.env = [(false, eval f X.env)] := by rfl) (hs3 : starEach [e, f] X.env = (false, eval e X.env) :: starEach [f] X.env := by rfl) : IX X b Hb Δ tg (.Call (.Name "range" p) [e, f] [] pos) (rgD m (n - m).toNat) none .no :=
  pi_imp (pi_range2 hg hm (pa_cons ha (pa_cons hb pa_nil hs2) hs3) hs hs2) fun σ H R q => ⟨q.1, fun v H1 r p f1 k1 => by
    subst p
    cases k1
    refine ⟨q.1.step f1, fun w H2 r2 p2 f2 k2 => ?_⟩
    subst p2
    cases k2
    exact ⟨m, n, rfl, ⟨h1, h2, h3, h4⟩, q.2 _ H2 none (f1.trans f2) dw_range rfl⟩⟩

/-! ### what stands is locked -/
/-- what is locked: Hb: none of it was there; H1: it is there now -/
def LkIn (Hb H1 : Hp) (lk : Option (Addr × List V)) : Prop := ∀ a vs, lk = some (a, vs) → Hb a = none ∧ H1 a = some (.lst vs)
/-- a tuple, or what is known whole -/
def isT : Option HO → Bool
  | some (.tup _) => true
  | some (.frz _ _) => true
  | _ => false
/-- the entry's heap with all tuples that stand, and the list that is locked -/
def lockH (Hb H1 : Hp) (lk : Option (Addr × List V)) : Hp := fun x => if isT (H1 x) = true then H1 x else match lk with
    | some (a, vs) => if x = a then some (.lst vs) else Hb x
    | none => Hb x
variable {lk : Option (Addr × List V)}
theorem lock_tup {x : Addr} (h : isT (H1 x) = true) : lockH Hb H1 lk x = H1 x := by unfold lockH; rw [if_pos h]
theorem lock_at {a : Addr} {vs : List V} (h : H1 a = some (.lst vs)) (e : lk = some (a, vs)) : lockH Hb H1 lk a = some (.lst vs) := by
  unfold lockH
  rw [if_neg (by rw [h]; exact Bool.false_ne_true), e]
  simp
theorem lock_else {x : Addr} (h : isT (H1 x) ≠ true) (n : ∀ a vs, lk = some (a, vs) → x ≠ a) : lockH Hb H1 lk x = Hb x := by
  unfold lockH
  rw [if_neg h]
  split
  · rename_i a vs
    rw [if_neg (n a vs rfl)]
  · rfl
theorem lock_cases {x : Addr} {o : HO} (li : LkIn Hb H1 lk) (h : lockH Hb H1 lk x = some o) : H1 x = some o ∨ Hb x = some o := by
  by_cases ht : isT (H1 x) = true
  · rw [lock_tup ht] at h
    exact .inl h
  · by_cases hx : ∃ a vs, lk = some (a, vs) ∧ x = a
    · obtain ⟨a, vs, e, rfl⟩ := hx
      obtain ⟨_, h1⟩ := li _ _ e
      rw [lock_at h1 e] at h
      rw [h1]
      exact .inl h
    · rw [lock_else ht fun a vs e z => hx ⟨a, vs, e, z⟩] at h
      exact .inr h
theorem lock_le (li : LkIn Hb H1 lk) (q : BagIn b Hb) (fr : Fr b Hb H1) : ∀ x o, Hb x = some o → lockH Hb H1 lk x = some o := fun x o h => by
  have hx : ∀ a vs, lk = some (a, vs) → x ≠ a := fun a vs e => ne_of_none h (li a vs e).1
  by_cases hb : some x = b
  · have ht : isT (H1 x) ≠ true := by
      obtain ⟨zs, e2⟩ := (fr.bagIn q).lst hb
      rw [e2]
      exact Bool.false_ne_true
    rw [lock_else ht hx]
    exact h
  · have e := fr.all x o hb h
    by_cases ht : isT (H1 x) = true
    · rw [lock_tup ht, e]
    · rw [lock_else ht hx]
      exact h
theorem lock_fr (li : LkIn Hb H1 lk) (q : BagIn b Hb) (fr : Fr b Hb H1) : Fr b (lockH Hb H1 lk) H1 := by
  refine ⟨fun x o nb h => ?_, fun x e c k => ?_⟩
  · rcases lock_cases li h with h | h
    · exact h
    · exact fr.all x o nb h
  · obtain ⟨c', k'⟩ := q x e
    have k2 := k'.same (lock_le li q fr)
    obtain ⟨n1, g1, i1, ns1, a1, _⟩ := k
    obtain ⟨n2, g2, i2, ns2, a2, _⟩ := k2
    rw [a1] at a2
    have a3 := Option.some.inj a2
    injection a3 with a3
    simp only [List.cons.injEq, V.ref.injEq, and_true] at a3
    obtain ⟨_, _, _, e4⟩ := a3
    rw [e4]
    exact fr.bag x e c' k'
theorem sql_le {a : Addr} {vs : List V} (le : ∀ x o, Hb x = some o → H1 x = some o) (h : SqL K Hb a vs) : SqL K H1 a vs := by
  rcases h with (h | ⟨o, h⟩) | h
  · exact .inl (.inl (le _ _ h))
  · exact .inl (.inr ⟨o, le _ _ h⟩)
  · exact .inr h
theorem kt_lock : KT H1 (lockH Hb H1 lk) := ⟨fun _ _ e => by rw [lock_tup (by rw [e]; rfl), e], fun _ _ _ e => by rw [lock_tup (by rw [e]; rfl), e]⟩
theorem En.lock (q : En K b Hb Δ σ H1) (li : LkIn Hb H1 lk) (no : ∀ (j : Nat) (ys : List PyData) (a : Addr) (vs : List V), lk = some (a, vs) → Δ[j]? = some (.ow ys) → σ[j]? ≠ some (some (.ref a))) : En K b (lockH Hb H1 lk) Δ σ H1 := by
  have le := lock_le li q.bag q.fr
  refine ⟨fun x e => let ⟨c, k⟩ := q.bag x e; ⟨c, k.same le⟩, lock_fr li q.bag q.fr, q.len, fun i s e => ?_, q.sep⟩
  obtain ⟨o, e1, e2⟩ := q.at_ i s e
  refine ⟨o, e1, ?_⟩
  cases s with
  | un => trivial
  | d x => exact e2
  | br a' xs =>
    obtain ⟨e3, nb, ws, e4, t⟩ := e2
    exact ⟨e3, nb, ws, sql_le le e4, t.keep (.same le)⟩
  | ow xs =>
    obtain ⟨a', ws, e3, n3, e4, t⟩ := e2
    refine ⟨a', ws, e3, ?_, e4, t⟩
    rw [lock_else (by rw [e4]; exact Bool.false_ne_true) fun a vs ek z => by
      subst z
      exact no i xs _ vs ek e (by rw [e1, e3])]
    exact n3
  | bag => exact e2
/-- the lists that are only read -/
def brs : List Sl → List (Addr × List PyData)
  | [] => []
  | .br a xs :: r => (a, xs) :: brs r
  | _ :: r => brs r
theorem mem_brs {p : Addr × List PyData} : ∀ {Δ : List Sl}, p ∈ brs Δ ↔ ∃ i : Nat, Δ[i]? = some (Sl.br p.1 p.2)
  | [] => ⟨fun h => (nomatch h), fun ⟨i, h⟩ => by simp at h⟩
  | s :: r => by
    have ih := mem_brs (p := p) (Δ := r)
    constructor
    · intro h
      cases s with
      | br a xs =>
        rcases List.mem_cons.mp h with e | h
        · subst e; exact ⟨0, rfl⟩
        · obtain ⟨i, hi⟩ := ih.mp h
          exact ⟨i + 1, by simpa using hi⟩
      | _ =>
        obtain ⟨i, hi⟩ := ih.mp h
        exact ⟨i + 1, by simpa using hi⟩
    · rintro ⟨i, hi⟩
      cases i with
      | zero =>
        have e : s = .br p.1 p.2 := Option.some.inj hi
        subst e
        exact List.mem_cons_self
      | succ i =>
        have h := ih.mpr ⟨i, by simpa using hi⟩
        cases s with
        | br a xs => exact List.mem_cons_of_mem _ h
        | _ => exact h
/-- unlocked: the lists that are only read were so before -/
theorem En.unlock {Hb' : Hp} {Δ' : List Sl} (q : En K b Hb' Δ' σ H) (bi : BagIn b Hb) (le : ∀ x o, Hb x = some o → Hb' x = some o) (br : ∀ (i : Nat) (a : Addr) (xs : List PyData), Δ'[i]? = some (Sl.br a xs) → some a ≠ b ∧ ∃ vs, SqL K Hb a vs ∧ Dts Hb vs xs) : En K b Hb Δ' σ H := by
  refine ⟨bi, ⟨fun a o n h => q.fr.all a o n (le a o h), fun a e c k => q.fr.bag a e c (k.same le)⟩, q.len, fun i s e => ?_, q.sep⟩
  obtain ⟨o, e1, e2⟩ := q.at_ i s e
  refine ⟨o, e1, ?_⟩
  cases s with
  | un => trivial
  | d x => exact e2
  | br a xs =>
    obtain ⟨nb, h⟩ := br i a xs e
    exact ⟨e2.1, nb, h⟩
  | ow xs =>
    obtain ⟨a', ws, e3, n3, e4, t⟩ := e2
    refine ⟨a', ws, e3, ?_, e4, t⟩
    cases z : Hb a' with
    | none => rfl
    | some o =>
      rw [le _ _ z] at n3
      cases n3
  | bag => exact e2
theorem RsOk.unlock {Hb' : Hp} {v : V} {r : Rs} (le : ∀ x o, Hb x = some o → Hb' x = some o) (h : RsOk K b Hb' Hb' H v r) : RsOk K b Hb Hb H v r := by
  have nn : ∀ {a : Addr}, Hb' a = none → Hb a = none := fun {a} n => by
    cases z : Hb a with
    | none => rfl
    | some o =>
      rw [le _ _ z] at n
      cases n
  cases r with
  | d x => exact h
  | fr xs =>
    obtain ⟨a, vs, e1, n, t⟩ := h
    exact ⟨a, vs, e1, nn n, t⟩
  | ow xs =>
    obtain ⟨a, vs, e1, n, t⟩ := h
    exact ⟨a, vs, e1, nn n, t⟩
  | ls xs => exact h
  | bag => exact h

/-! ### for -/
variable {body : List Stmt}
/-- what the ends of a loop's body are to the loop -/
theorem for_core {ds : List PyData} {tk : Option (List PyData)} {l : Lk} (hi : IX X b Hb Δ tg e ds tk l) (Δ0 : Hp → Hp → L2.St → List Sl → Prop) (J : Addr → Nat → List Sl → Prop) (E0 : Addr → Dn)
    (go : ∀ (σ : L2.St) (H H1 : Hp) (lk : Option (Addr × List V)), En X.K b Hb Δ σ H → Fr b H H1 → LkOk X.K b Hb σ H H1 ds lk tk l →
      ∃ (a : Addr) (Hb' : Hp), (∀ x o, Hb x = some o → Hb' x = some o) ∧ KT H1 Hb' ∧ (∀ H', Fr b Hb' H' → ∀ a vs, lk = some (a, vs) → SqL X.K H' a vs) ∧ (∃ Δ1, J a 0 Δ1 ∧ En X.K b Hb' Δ1 σ H1) ∧
        (∀ Δ' σ' H', J a ds.length Δ' → En X.K b Hb' Δ' σ' H' → ∃ Δ2, D.nx Δ2 ∧ En X.K b Hb Δ2 σ' H') ∧ (∀ Δ' σ' H', (E0 a).bk Δ' → En X.K b Hb' Δ' σ' H' → ∃ Δ2, D.nx Δ2 ∧ En X.K b Hb Δ2 σ' H'))
    (hr : ∀ a r, (E0 a).rt r → D.rt r)
    (hs : ∀ (a : Addr) (Hb' : Hp) (i : Nat) (d : PyData) (Δ' : List Sl), ds[i]? = some d → J a i Δ' → GX X b Hb' Δ' tg d (fun Δ'' => SSX X b Hb' Δ'' body { nx := J a (i + 1), ct := J a (i + 1), bk := (E0 a).bk, rt := (E0 a).rt }))
    (hp : PassesOwn (model X.prog X.w) X.A X.env X.xe) (hc : X.calm = true) (hf : ∀ x, foldedSetIterable e X.env x = pure x) : SX X b Hb Δ (.For tg e body [] pos) D := by
  let Di : Addr → Nat → Dn := fun a i => { nx := J a (i + 1), ct := J a (i + 1), bk := (E0 a).bk, rt := (E0 a).rt }
  have hg : PG X tg (fun v σ H Q => ∃ a Hb' i d Δ', ds[i]? = some d ∧ J a i Δ' ∧ tG X.K b Hb' Δ' d (fun Δ'' => SSX X b Hb' Δ'' body (Di a i)) v σ H Q) := ⟨fun pins s σ H v u Q I r ⟨a, Hb', i, d, Δ', h1, h2, q⟩ => (hs a Hb' i d Δ' h1 h2).run pins s σ H v u Q I r q⟩
  have hb : PSs X body (fun E σ H => ∃ a Hb' i Δ', SSX X b Hb' Δ' body (Di a i) ∧ tS X.K b Hb' Δ' (Di a i) E σ H) := ⟨fun pins s σ H E I ⟨a, Hb', i, Δ', m, q⟩ => m.run pins s σ H E I q⟩
  refine ps_imp (ps_for hp hc hi hg hb hf) fun E σ H q => ⟨q.1, fun It H1 lk f1 dw lo => ?_⟩
  obtain ⟨Gd, Y, wk, hG, hY⟩ := dw
  obtain ⟨a, Hb', le, ktb, hsq, ⟨Δ1, j1, en1⟩, hend, hbrk⟩ := go σ H H1 lk q.1 f1 lo
  have ktOf : ∀ {H'}, Fr b Hb' H' → BagIn b Hb' → KT H1 H' := fun {H'} f bi => ktb.trans (f.kt bi)
  have gdOf : ∀ {H'}, Fr b Hb' H' → BagIn b Hb' → Gd H' := fun {H'} f bi => hG H' (.inr (ktOf f bi)) (hsq H' f) (ktOf f bi)
  refine for_it (D := E) (g := fun v σ H Q => ∃ a Hb' i d Δ', ds[i]? = some d ∧ J a i Δ' ∧ tG X.K b Hb' Δ' d (fun Δ'' => SSX X b Hb' Δ'' body (Di a i)) v σ H Q)
    (tb := fun E σ H => ∃ a Hb' i Δ', SSX X b Hb' Δ' body (Di a i) ∧ tS X.K b Hb' Δ' (Di a i) E σ H) wk (fun i σ' H' => ∃ Δ', J a i Δ' ∧ En X.K b Hb' Δ' σ' H') ⟨Δ1, j1, en1⟩ ?_ ?_ ?_
  · rintro i σ' H' hi ⟨Δ', _, en⟩
    exact gdOf en.fr en.bag
  · rintro i x σ' H' H'' hi ⟨Δ', j, en⟩ y
    obtain ⟨ext, d, e1, kd⟩ := hY i H' x H'' hi (ktOf en.fr en.bag) (gdOf en.fr en.bag) y
    refine ⟨a, Hb', i, d, Δ', e1, j, en.step (.same ext), kd, fun Δ2 σ2 H2 n2 e2 k2 => ⟨a, Hb', i, Δ2, n2, e2, ?_, ?_, ?_, ?_⟩⟩
    · exact fun Δ3 σ3 H3 p e3 => ⟨Δ3, p, e3⟩
    · exact fun r v H3 p f k => q.2.2.1 r v H3 (hr a r p) ⟨fun x o n h => f.all x o n (le x o h), fun x e c kk => f.bag x e c (kk.same le)⟩ (k.unlock le)
    · exact fun Δ3 σ3 H3 p e3 => let ⟨Δ4, n4, e4⟩ := hbrk Δ3 σ3 H3 p e3; q.2.1 Δ4 σ3 H3 n4 e4
    · exact fun Δ3 σ3 H3 p e3 => ⟨Δ3, p, e3⟩
  · rintro σ' H' ⟨Δ', j, en⟩
    obtain ⟨Δ4, n4, e4⟩ := hend Δ' σ' H' j en
    exact q.2.1 Δ4 σ' H' n4 e4
theorem br_of {Δ' : List Sl} (q : En K b Hb Δ σ H) (h : ∀ p ∈ brs Δ', p ∈ brs Δ) : ∀ (i : Nat) (a : Addr) (xs : List PyData), Δ'[i]? = some (Sl.br a xs) → some a ≠ b ∧ ∃ vs, SqL K Hb a vs ∧ Dts Hb vs xs := fun i a xs e => by
  obtain ⟨j, ej⟩ := mem_brs.mp (h (a, xs) (mem_brs.mpr ⟨i, e⟩))
  obtain ⟨o, _, _, nb, r⟩ := q.at_ j _ ej
  exact ⟨nb, r⟩
/-- a for over what no slot holds as one's own list -/
theorem sx_for {ds : List PyData} {tk : Option (List PyData)} {l : Lk} (hi : IX X b Hb Δ tg e ds tk l) (J : Nat → List Sl → Prop) (h0 : J 0 Δ)
    (hs : ∀ (Hb' : Hp) (i : Nat) (d : PyData) (Δ' : List Sl), ds[i]? = some d → J i Δ' → GX X b Hb' Δ' tg d (fun Δ'' => SSX X b Hb' Δ'' body { nx := J (i + 1), ct := J (i + 1), bk := fun Δ' => ∃ Δ2, Lo Δ' Δ2 ∧ D.nx Δ2 ∧ ∀ p ∈ brs Δ2, p ∈ brs Δ, rt := D.rt }))
    (hd : ∀ Δ', J ds.length Δ' → ∃ Δ2, Lo Δ' Δ2 ∧ D.nx Δ2 ∧ ∀ p ∈ brs Δ2, p ∈ brs Δ) (hl : (∀ k, l ≠ .slot k) := by exact fun _ => nofun) (hp : PassesOwn (model X.prog X.w) X.A X.env X.xe := by exact PassesOwn.never) (hc : X.calm = true := by rfl) (hf : ∀ x, foldedSetIterable e X.env x = pure x := by intro _; rfl) : SX X b Hb Δ (.For tg e body [] pos) D := by
  refine for_core hi (fun _ _ _ _ => True) (fun _ => J) (fun _ => { nx := D.nx, rt := D.rt, bk := fun Δ' => ∃ Δ2, Lo Δ' Δ2 ∧ D.nx Δ2 ∧ ∀ p ∈ brs Δ2, p ∈ brs Δ }) (fun σ H H1 lk en f1 lo => ?_) (fun _ _ h => h) (fun _ Hb' i d Δ' h1 h2 => hs Hb' i d Δ' h1 h2) hp hc hf
  have en1 := en.step f1
  have main : ∀ lk', LkIn Hb H1 lk' → (∀ (j : Nat) (ys : List PyData) (a : Addr) (vs : List V), lk' = some (a, vs) → Δ[j]? = some (.ow ys) → σ[j]? ≠ some (some (.ref a))) → (∀ H', Fr b (lockH Hb H1 lk') H' → ∀ a vs, lk = some (a, vs) → SqL X.K H' a vs) → ∃ (a : Addr) (Hb' : Hp), (∀ x o, Hb x = some o → Hb' x = some o) ∧ KT H1 Hb' ∧ (∀ H', Fr b Hb' H' → ∀ a vs, lk = some (a, vs) → SqL X.K H' a vs) ∧ (∃ Δ1, J 0 Δ1 ∧ En X.K b Hb' Δ1 σ H1) ∧
        (∀ Δ' σ' H', J ds.length Δ' → En X.K b Hb' Δ' σ' H' → ∃ Δ2, D.nx Δ2 ∧ En X.K b Hb Δ2 σ' H') ∧ (∀ Δ' σ' H', (∃ Δ2, Lo Δ' Δ2 ∧ D.nx Δ2 ∧ ∀ p ∈ brs Δ2, p ∈ brs Δ) → En X.K b Hb' Δ' σ' H' → ∃ Δ2, D.nx Δ2 ∧ En X.K b Hb Δ2 σ' H') := fun lk' li no hsq => by
    have le := lock_le li en.bag en1.fr
    refine ⟨0, lockH Hb H1 lk', le, kt_lock, hsq, ⟨Δ, h0, en1.lock li no⟩, fun Δ' σ' H' j e' => ?_, fun Δ' σ' H' j e' => ?_⟩
    · obtain ⟨Δ2, lo2, n1, n2⟩ := hd Δ' j
      exact ⟨Δ2, n1, (e'.lo lo2).unlock en.bag le (br_of en n2)⟩
    · obtain ⟨Δ2, lo2, n1, n2⟩ := j
      exact ⟨Δ2, n1, (e'.lo lo2).unlock en.bag le (br_of en n2)⟩
  cases l with
  | no =>
    have z : lk = none := lo
    subst z
    exact main none (fun _ _ e => nomatch e) (fun _ _ _ _ e => nomatch e) fun _ _ _ _ e => nomatch e
  | rd a =>
    obtain ⟨vs, e1, nb, e2⟩ := lo
    refine main none (fun _ _ e => nomatch e) (fun _ _ _ _ e => nomatch e) fun H' f a' vs' e3 => ?_
    rw [e1] at e3
    cases e3
    have li : LkIn Hb H1 none := fun _ _ e => nomatch e
    exact sql_fr f nb (sql_le (lock_le li en.bag en1.fr) e2)
  | slot k => exact absurd rfl (hl k)
  | tmp =>
    obtain ⟨a, vs, xs, e1, _, n, e2, t⟩ := lo
    subst e1
    have li : LkIn Hb H1 (some (a, vs)) := fun a' vs' e => by
      cases e
      exact ⟨en.fr.free en.bag n, e2⟩
    refine main (some (a, vs)) li (fun j ys a' vs' e o z => ?_) fun H' f a' vs' e3 => ?_
    · cases e
      exact en.noOw (i := Δ.length) n j ys (fun z => by subst z; simp at o) o z
    · cases e3
      exact SqL.of (f.all _ _ (en.bag.ne_none (en.fr.free en.bag n)) (lock_at e2 rfl))
/-- a for over one's own list in slot k: in the body it is only read -/
theorem sx_forS (k : Nat) {ds xs : List PyData} (hi : IX X b Hb Δ tg e ds (some xs) (.slot k)) (J : Addr → Nat → List Sl → Prop) (h0 : ∀ a, J a 0 (Δ.set k (.br a xs)))
    (hs : ∀ (a : Addr) (Hb' : Hp) (i : Nat) (d : PyData) (Δ' : List Sl), ds[i]? = some d → J a i Δ' → GX X b Hb' Δ' tg d (fun Δ'' => SSX X b Hb' Δ'' body { nx := J a (i + 1), ct := J a (i + 1), bk := fun Δ' => ∃ Δ2, Lo Δ' Δ2 ∧ (Δ2[k]? = some (.br a xs) ∧ D.nx (Δ2.set k (.ow xs))) ∧ ∀ p ∈ brs (Δ2.set k .un), p ∈ brs Δ, rt := D.rt }))
    (hd : ∀ a Δ', J a ds.length Δ' → ∃ Δ2, Lo Δ' Δ2 ∧ (Δ2[k]? = some (.br a xs) ∧ D.nx (Δ2.set k (.ow xs))) ∧ ∀ p ∈ brs (Δ2.set k .un), p ∈ brs Δ) (hk : Δ[k]? = some (.ow xs) := by rfl) (hp : PassesOwn (model X.prog X.w) X.A X.env X.xe := by exact PassesOwn.never) (hc : X.calm = true := by rfl) (hf : ∀ x, foldedSetIterable e X.env x = pure x := by intro _; rfl) : SX X b Hb Δ (.For tg e body [] pos) D := by
  refine for_core hi (fun _ _ _ _ => True) J (fun a => { nx := D.nx, rt := D.rt, bk := fun Δ' => ∃ Δ2, Lo Δ' Δ2 ∧ (Δ2[k]? = some (.br a xs) ∧ D.nx (Δ2.set k (.ow xs))) ∧ ∀ p ∈ brs (Δ2.set k .un), p ∈ brs Δ }) (fun σ H H1 lk en f1 lo => ?_) (fun _ _ h => h) (fun a Hb' i d Δ' h1 h2 => hs a Hb' i d Δ' h1 h2) hp hc hf
  have en1 := en.step f1
  obtain ⟨a, vs, xs', e1, ex, es, n, e2, t⟩ := lo
  cases ex
  subst e1
  have li : LkIn Hb H1 (some (a, vs)) := fun a' vs' e => by
    cases e
    exact ⟨n, e2⟩
  have nb : some a ≠ b := en.bag.ne_none n
  have le := lock_le li en.bag en1.fr
  have hkl : k < Δ.length := (List.getElem?_eq_some_iff.mp hk).1
  -- the slot forgotten, all locked, then the slot told anew
  have enU : En X.K b Hb (Δ.set k .un) σ H1 := by
    refine en1.lo ⟨by rw [List.length_set], fun j s ej => ?_⟩
    rcases set_get ej with ⟨_, z, _⟩ | ⟨_, z⟩
    · exact .inl z
    · exact .inr z
  have enL : En X.K b (lockH Hb H1 (some (a, vs))) (Δ.set k .un) σ H1 := enU.lock li fun j ys a' vs' e o z => by
    cases e
    rcases set_get o with ⟨_, w, _⟩ | ⟨nk, w⟩
    · cases w
    · exact en.sep k j xs ys nk hk w (by rw [es, z])
  have lat : lockH Hb H1 (some (a, vs)) a = some (.lst vs) := lock_at e2 rfl
  have enB : En X.K b (lockH Hb H1 (some (a, vs))) (Δ.set k (.br a xs)) σ H1 := by
    refine ⟨enL.bag, enL.fr, by rw [List.length_set]; exact en.len, fun j s ej => ?_, fun j m ys zs nn a1 a2 => ?_⟩
    · rcases set_get ej with ⟨z1, z2, _⟩ | ⟨z1, z2⟩
      · subst z1 z2
        exact ⟨_, es, rfl, nb, vs, SqL.of lat, t.keep kt_lock⟩
      · exact enL.at_ j s (by rw [List.getElem?_set_ne z1]; exact z2)
    · rcases set_get a1 with ⟨_, z, _⟩ | ⟨_, z1⟩
      · cases z
      · rcases set_get a2 with ⟨_, z, _⟩ | ⟨_, z2⟩
        · cases z
        · exact en.sep j m ys zs nn z1 z2
  have back : ∀ Δ' σ' H', Δ'[k]? = some (.br a xs) → (∀ p ∈ brs (Δ'.set k .un), p ∈ brs Δ) → En X.K b (lockH Hb H1 (some (a, vs))) Δ' σ' H' → En X.K b Hb (Δ'.set k (.ow xs)) σ' H' := fun Δ' σ' H' hk' hbr e' => by
    have hl' : k < Δ'.length := (List.getElem?_eq_some_iff.mp hk').1
    have eU : En X.K b (lockH Hb H1 (some (a, vs))) (Δ'.set k .un) σ' H' := by
      refine e'.lo ⟨by rw [List.length_set], fun j s ej => ?_⟩
      rcases set_get ej with ⟨_, z, _⟩ | ⟨_, z⟩
      · exact .inl z
      · exact .inr z
    have e3 := eU.unlock en.bag le (br_of en hbr)
    obtain ⟨o, o1, o2, _, vs2, o3, o4⟩ := e'.at_ k _ hk'
    subst o2
    have at' : H' a = some (.lst vs) := e'.fr.all _ _ nb lat
    have t' : Dts H' vs xs := t.keep (kt_lock.trans (e'.fr.kt e'.bag))
    have no : NoOw (Δ'.set k .un) σ' a k := fun j ys nj ej z => by
      obtain ⟨o, q1, q2⟩ := eU.at_ j _ ej
      obtain ⟨a2, ws, q3, q4, _⟩ := q2
      rw [z] at q1
      have q5 := Option.some.inj q1
      rw [q3] at q5
      have q6 := V.ref.inj (Option.some.inj q5)
      subst q6
      rw [lat] at q4
      cases q4
    have fin := e3.setOw (i := k) n at' t' no
    rw [List.set_set] at fin
    have hs' : σ'.set k (some (V.ref a)) = σ' := by
      apply List.ext_getElem?
      intro m
      by_cases hm : k = m
      · subst hm
        rw [List.getElem?_set_self (by rw [e'.len]; exact hl'), o1]
      · rw [List.getElem?_set_ne hm]
    rw [hs'] at fin
    exact fin
  refine ⟨a, _, le, kt_lock, fun H' f a' vs' e3 => ?_, ⟨_, h0 a, enB⟩, fun Δ' σ' H' j e' => ?_, fun Δ' σ' H' j e' => ?_⟩
  · cases e3
    exact SqL.of (f.all _ _ nb lat)
  · obtain ⟨Δ2, lo2, ⟨h1, h2⟩, h3⟩ := hd a Δ' j
    exact ⟨_, h2, back Δ2 σ' H' h1 h3 (e'.lo lo2)⟩
  · obtain ⟨Δ2, lo2, ⟨h1, h2⟩, h3⟩ := j
    exact ⟨_, h2, back Δ2 σ' H' h1 h3 (e'.lo lo2)⟩

/-! ### while -/
theorem sx_while (W : Nat → List Sl → Prop) (m0 : Nat) (h0 : W m0 Δ)
    (hs : ∀ m Δ', W m Δ' → ∃ c, TD X b Hb Δ' e c ∧ (c = true → SSX X b Hb Δ' body { nx := fun Δ'' => ∃ m', m' < m ∧ W m' Δ'', ct := fun Δ'' => ∃ m', m' < m ∧ W m' Δ'', bk := D.nx, rt := D.rt }) ∧ (c = false → D.nx Δ'))
    (hp : PassesOwn (model X.prog X.w) X.A X.env X.xe := by exact PassesOwn.never) : SX X b Hb Δ (.While e body [] pos) D := by
  let Di : Nat → Dn := fun m => { nx := fun Δ'' => ∃ m', m' < m ∧ W m' Δ'', ct := fun Δ'' => ∃ m', m' < m ∧ W m' Δ'', bk := D.nx, rt := D.rt }
  have ht : PT X e (fun σ H Q => ∃ Δ' c, TD X b Hb Δ' e c ∧ tT X.K b Hb Δ' (fun z => z = c) σ H Q) := ⟨fun pins s σ H Q I ⟨Δ', c, m, q⟩ => m.run pins s σ H Q I q⟩
  have hb : PSs X body (fun E σ H => ∃ m Δ', SSX X b Hb Δ' body (Di m) ∧ tS X.K b Hb Δ' (Di m) E σ H) := ⟨fun pins s σ H E I ⟨m, Δ', h, q⟩ => h.run pins s σ H E I q⟩
  refine ps_imp (ps_while hp ht hb) fun E σ H q => ⟨fun m σ' H' => ∃ Δ', W m Δ' ∧ En X.K b Hb Δ' σ' H', ⟨m0, Δ, h0, q.1⟩, ?_⟩
  rintro m σ' H' ⟨Δ', w, en⟩
  obtain ⟨c, td, hy, hn⟩ := hs m Δ' w
  refine ⟨Δ', c, td, en, fun c' H2 ec f2 => ?_⟩
  subst ec
  cases c' with
  | true =>
    show ∃ N : L2.St → Hp → Prop, _
    refine ⟨fun σ2 H2 => ∃ m', m' < m ∧ ∃ Δ', W m' Δ' ∧ En X.K b Hb Δ' σ2 H2, fun σ2 H2 h => ?_, m, Δ', hy rfl, en.step f2, ?_, ?_, ?_, ?_⟩
    · obtain ⟨m', h1, h2⟩ := h
      exact ⟨m', h1, h2⟩
    · exact fun Δ3 σ3 H3 ⟨m', h1, h2⟩ e3 => ⟨m', h1, Δ3, h2, e3⟩
    · exact fun r v H3 p f k => q.2.2.1 r v H3 p f k
    · exact fun Δ3 σ3 H3 p e3 => q.2.1 Δ3 σ3 H3 p e3
    · exact fun Δ3 σ3 H3 ⟨m', h1, h2⟩ e3 => ⟨m', h1, Δ3, h2, e3⟩
  | false => exact q.2.1 Δ' σ' H2 (hn rfl) (en.step f2)
end
end K47
set_option Elab.async false
set_option linter.all false
set_option maxRecDepth 100000
set_option maxHeartbeats 2000000
namespace K47
open PySem PySem.Spec PyProof.Rows L2

section
variable {X : Cx} {b : Option Addr} {Hb : Hp} {Δ : List Sl} {e f g tg iter elt : Expr} {es ifs : List Expr} {pos : Pos} {P P' : Rs → Prop} {K : PySem.W.Frag} {H H1 H2 H0 : Hp} {σ : L2.St} {D : Dn}

/-! ### comprehensions: one for, the target a name -/
abbrev TsX (X : Cx) (b : Option Addr) (Hb : Hp) (Δ : List Sl) (ifs : List Expr) (P : Bool → Prop) : Prop := PTs X ifs (tT X.K b Hb Δ P)
theorem tsx_nil {P : Bool → Prop} (k : P true) : TsX X b Hb Δ [] P := ⟨fun pins s σ H Q I q => pts_nil.run pins s σ H Q I (q.2 true H k .refl)⟩
theorem tsx_one {P : Bool → Prop} (h : TX X b Hb Δ e P) : TsX X b Hb Δ [e] P := pts_one h
/-- what a comprehension asks; J: what is made so far -/
structure LcD (X : Cx) (b : Option Addr) (Hb : Hp) (Δ : List Sl) (scope : Scope) (j : Nat) (elt : Expr) (ifs : List Expr) (ds : List PyData) (J : Nat → List PyData → Prop) : Prop where
  turn : ∀ (s : Shared) (H : Hp) (C : Addr) (cl : List (Str × Addr)) (fp : List Addr) (i : Nat) (d : PyData) (ys : List PyData), ds[i]? = some d → J i ys →
    ∃ Pc : Bool → Prop, TsX (X.blk s H scope (compEnvC scope cl C X.env) fp) b Hb (Δ.set j (.d d)) ifs Pc ∧
      (Pc true → ∃ Pe : Rs → Prop, EX (X.blk s H scope (compEnvC scope cl C X.env) fp) b Hb (Δ.set j (.d d)) elt Pe ∧ ∀ r, Pe r → ∃ y, r = .d y ∧ J (i + 1) (ys ++ [y])) ∧ (Pc false → J (i + 1) ys)
  short : ∀ i ys, J i ys → ys.length ≤ 1000
/-- the core: from the walk to the new list -/
theorem lc_run {ds : List PyData} {tk : Option (List PyData)} {l : Lk} {J : Nat → List PyData → Prop} {j : Nat} {scope : Scope} {Q : VK}
    (tt : TT) (te : TE) (et : tt = fun σ H Q => ∃ i d ys Pc, ds[i]? = some d ∧ J i ys ∧ (∀ (s : Shared) (H : Hp) (C : Addr) (cl : List (Str × Addr)) (fp : List Addr), TsX (X.blk s H scope (compEnvC scope cl C X.env) fp) b Hb (Δ.set j (.d d)) ifs Pc) ∧ tT X.K b Hb (Δ.set j (.d d)) Pc σ H Q)
    (ee : te = fun σ H Q => ∃ d Pe, (∀ (s : Shared) (H : Hp) (C : Addr) (cl : List (Str × Addr)) (fp : List Addr), EX (X.blk s H scope (compEnvC scope cl C X.env) fp) b Hb (Δ.set j (.d d)) elt Pe) ∧ tX X.K b Hb (Δ.set j (.d d)) Pe σ H Q)
    (hk : ∀ (i : Nat) (d : PyData) (ys : List PyData), ds[i]? = some d → J i ys → ∃ Pc : Bool → Prop, (∀ (s : Shared) (H : Hp) (C : Addr) (cl : List (Str × Addr)) (fp : List Addr), TsX (X.blk s H scope (compEnvC scope cl C X.env) fp) b Hb (Δ.set j (.d d)) ifs Pc) ∧
      (Pc true → ∃ Pe : Rs → Prop, (∀ (s : Shared) (H : Hp) (C : Addr) (cl : List (Str × Addr)) (fp : List Addr), EX (X.blk s H scope (compEnvC scope cl C X.env) fp) b Hb (Δ.set j (.d d)) elt Pe) ∧ ∀ r, Pe r → ∃ y, r = .d y ∧ J (i + 1) (ys ++ [y])) ∧ (Pc false → J (i + 1) ys))
    (hs : ∀ i ys, J i ys → ys.length ≤ 1000) (h0 : J 0 []) (q : En X.K b Hb Δ σ H) (k : ∀ ys p H', J ds.length ys → Fr b H H' → H p = none → (∃ vs, H' p = some (.lst vs) ∧ Dts H' vs ys) → Q (.ref p) H') :
    tLc (tI X.K b Hb Δ ds tk l) (gName j) tt te [j] σ H Q := by
  refine ⟨q, fun It H1 lk f1 dw lo => fun A hA => ?_⟩
  obtain ⟨Gd, Y, wk, hG, hY⟩ := dw
  have qb : BagIn b H := q.bagH
  have qb1 : BagIn b H1 := f1.bagIn qb
  have hAb : some A ≠ b := qb1.ne_none hA
  have gd : ∀ {H'}, Fr b H1 H' → Gd H' := fun {H'} f => hG H' (.inl f) (fun a vs e1 => by
    cases l with
    | no =>
      have z : lk = none := lo
      rw [z] at e1
      cases e1
    | rd a' =>
      obtain ⟨vs', e2, nb, e3⟩ := lo
      rw [e2] at e1
      cases e1
      exact sql_fr ((q.fr.trans f1).trans f) nb e3
    | slot k =>
      obtain ⟨a', vs', xs, e2, _, _, n, e3, _⟩ := lo
      rw [e2] at e1
      cases e1
      exact SqL.of (f.all _ _ (q.bag.ne_none n) e3)
    | tmp =>
      obtain ⟨a', vs', xs, e2, _, n, e3, _⟩ := lo
      rw [e2] at e1
      cases e1
      exact SqL.of (f.all _ _ (qb.ne_none n) e3)) (f.kt qb1)
  have nA : ∀ {H'}, Fr b H1 H' → Fr b H1 (upd H' A (.lst [])) := fun f => f.mut hA qb1
  refine lc_it wk (fun i H' => ∃ ys vs, J i ys ∧ Fr b H1 H' ∧ H' A = some (.lst vs) ∧ Dts H' vs ys) ⟨[], [], h0, .new hA, upd_same, .nil⟩ (fun i H' _ ⟨ys, vs, _, f, _⟩ => gd f) ?_ ?_
  · rintro i x H' H'' hi ⟨ys, vs, jj, f, eA, t⟩ y
    obtain ⟨ext, d, e1, kd⟩ := hY i H' x H'' hi (f.kt qb1) (gd f) y
    have f2 : Fr b H1 H'' := f.trans (.same ext)
    have en2 : En X.K b Hb Δ σ H'' := (q.step f1).step f2
    obtain ⟨Pc, h1, h2, h3⟩ := hk i d ys e1 jj
    have enJ : En X.K b Hb (Δ.set j (.d d)) ((wipe σ [j]).set j (some x)) H'' := by
      have z := en2.setD (i := j) kd
      have e : (wipe σ [j]).set j (some x) = σ.set j (some x) := by
        show (σ.set j none).set j (some x) = _
        rw [List.set_set]
      rw [e]
      exact z
    refine ⟨?_, ?_⟩
    · show (((σ.set j none).set j (some x)).set j none) = σ.set j none
      rw [List.set_set, List.set_set]
    subst et
    refine ⟨i, d, ys, Pc, e1, jj, h1, enJ, fun c H3 pc f3 => ?_⟩
    have f13 := f2.trans f3
    have eA3 : H3 A = some (.lst vs) := f3.all _ _ hAb (ext _ _ eA)
    have t3 : Dts H3 vs ys := (t.keep (.same ext)).keep (f3.kt (f2.bagIn qb1))
    cases c with
    | true =>
      obtain ⟨Pe, h4, h5⟩ := h2 pc
      subst ee
      refine ⟨d, Pe, h4, enJ.step f3, fun v H4 r pe f4 k4 => ?_⟩
      obtain ⟨y', er, j'⟩ := h5 r pe
      subst er
      have t4 := t3.keep (f4.kt (f13.bagIn qb1))
      have eA4 := f4.all _ _ hAb eA3
      have kt := KT.mut (o := .lst (vs ++ [v])) eA4
      exact ⟨vs, eA4, by rw [t4.len]; exact small1000 (hs i ys jj), ys ++ [y'], vs ++ [v], j', (f13.trans f4).mut hA qb1, upd_same, (t4.app (.cons k4 .nil)).keep kt⟩
    | false => exact ⟨ys, vs, h3 pc, f13, eA3, t3⟩
  · rintro H' ⟨ys, vs, jj, f, eA, t⟩
    exact k ys A H' jj (f1.trans f) (f1.free qb hA) ⟨vs, eA, t⟩
theorem ex_lc (j : Nat) {ds : List PyData} {tk : Option (List PyData)} {l : Lk} {scope : Scope} {x : Str} {xp : Pos} (J : Nat → List PyData → Prop) (hi : IX X b Hb Δ (.Name x xp) iter ds tk l) (h0 : J 0 [])
    (hk : ∀ (i : Nat) (d : PyData) (ys : List PyData), ds[i]? = some d → J i ys → ∃ Pc : Bool → Prop, (∀ (s : Shared) (H : Hp) (C : Addr) (cl : List (Str × Addr)) (fp : List Addr), TsX (X.blk s H scope (compEnvC scope cl C X.env) fp) b Hb (Δ.set j (.d d)) ifs Pc) ∧
      (Pc true → ∃ Pe : Rs → Prop, (∀ (s : Shared) (H : Hp) (C : Addr) (cl : List (Str × Addr)) (fp : List Addr), EX (X.blk s H scope (compEnvC scope cl C X.env) fp) b Hb (Δ.set j (.d d)) elt Pe) ∧ ∀ r, Pe r → ∃ y, r = .d y ∧ J (i + 1) (ys ++ [y])) ∧ (Pc false → J (i + 1) ys))
    (hs : ∀ i ys, J i ys → ys.length ≤ 1000) (k : ∀ ys, J ds.length ys → P (.fr ys)) (ok : BlkOk X.N X.env.scope scope [(x, j)]) (hN : X.N.Nodup)
    (hg : ∀ (s : Shared) (H : Hp) (C : Addr) (cl : List (Str × Addr)) (fp : List Addr), PG (X.blk s H scope (compEnvC scope cl C X.env) fp) (.Name x xp) (gName j)) (hc : X.calm = true := by rfl) (hf : ∀ x, foldedSetIterable iter X.env x = pure x := by intro _; rfl) :
    EX X b Hb Δ (.ListComp elt [⟨.Name x xp, iter, ifs, 0⟩] scope pos) P := by
  refine pe_imp (pe_lc (own := [(x, j)]) (tt := fun σ H Q => ∃ i d ys Pc, ds[i]? = some d ∧ J i ys ∧ (∀ (s : Shared) (H : Hp) (C : Addr) (cl : List (Str × Addr)) (fp : List Addr), TsX (X.blk s H scope (compEnvC scope cl C X.env) fp) b Hb (Δ.set j (.d d)) ifs Pc) ∧ tT X.K b Hb (Δ.set j (.d d)) Pc σ H Q)
    (te := fun σ H Q => ∃ d Pe, (∀ (s : Shared) (H : Hp) (C : Addr) (cl : List (Str × Addr)) (fp : List Addr), EX (X.blk s H scope (compEnvC scope cl C X.env) fp) b Hb (Δ.set j (.d d)) elt Pe) ∧ tX X.K b Hb (Δ.set j (.d d)) Pe σ H Q)
    hc hN hi ok hg (fun s H C cl fp => ⟨fun pins s' σ' H' Q I ⟨i, d, ys, Pc, _, _, h, q⟩ => (h s H C cl fp).run pins s' σ' H' Q I q⟩) (fun s H C cl fp => ⟨fun pins s' σ' H' Q I ⟨d, Pe, h, q⟩ => (h s H C cl fp).run pins s' σ' H' Q I q⟩) hf) fun σ H Q q => ?_
  refine lc_run _ _ rfl rfl hk hs h0 q.1 fun ys p H' jj f n h => ?_
  obtain ⟨vs, e1, t⟩ := h
  exact q.2 _ H' _ (k ys jj) f ⟨p, vs, rfl, n, e1, t⟩
/-- name = [..] on one line -/
theorem sx_setLc (i j : Nat) {ds : List PyData} {tk : Option (List PyData)} {l : Lk} {scope : Scope} {x y : Str} {xp py spos : Pos} (J : Nat → List PyData → Prop) (hi : IX X b Hb Δ (.Name x xp) iter ds tk l) (h0 : J 0 [])
    (hk : ∀ (i : Nat) (d : PyData) (ys : List PyData), ds[i]? = some d → J i ys → ∃ Pc : Bool → Prop, (∀ (s : Shared) (H : Hp) (C : Addr) (cl : List (Str × Addr)) (fp : List Addr), TsX (X.blk s H scope (compEnvC scope cl C X.env) fp) b Hb (Δ.set j (.d d)) ifs Pc) ∧
      (Pc true → ∃ Pe : Rs → Prop, (∀ (s : Shared) (H : Hp) (C : Addr) (cl : List (Str × Addr)) (fp : List Addr), EX (X.blk s H scope (compEnvC scope cl C X.env) fp) b Hb (Δ.set j (.d d)) elt Pe) ∧ ∀ r, Pe r → ∃ y, r = .d y ∧ J (i + 1) (ys ++ [y])) ∧ (Pc false → J (i + 1) ys))
    (hs : ∀ i ys, J i ys → ys.length ≤ 1000) (k : ∀ ys, J ds.length ys → D.nx (Δ.set i (.ow ys))) (ok : BlkOk X.N X.env.scope scope [(x, j)]) (hN : X.N.Nodup)
    (hg : ∀ (s : Shared) (H : Hp) (C : Addr) (cl : List (Str × Addr)) (fp : List Addr), PG (X.blk s H scope (compEnvC scope cl C X.env) fp) (.Name x xp) (gName j)) (hsw : swapsWith (.ListComp elt [⟨.Name x xp, iter, ifs, 0⟩] scope pos) (some (.Name y py)) spos.line X.env = pure true)
    (hy : X.N[i]? = some y := by rfl) (hyl : X.env.scope.names.lookup y = some .local := by rfl) (hc : X.calm = true := by rfl) (hf : ∀ x, foldedSetIterable iter X.env x = pure x := by intro _; rfl) :
    SX X b Hb Δ (.Assign [.Name y py] (.ListComp elt [⟨.Name x xp, iter, ifs, 0⟩] scope pos) spos) D := by
  refine ps_imp (ps_setLc (own := [(x, j)]) (tt := fun σ H Q => ∃ i d ys Pc, ds[i]? = some d ∧ J i ys ∧ (∀ (s : Shared) (H : Hp) (C : Addr) (cl : List (Str × Addr)) (fp : List Addr), TsX (X.blk s H scope (compEnvC scope cl C X.env) fp) b Hb (Δ.set j (.d d)) ifs Pc) ∧ tT X.K b Hb (Δ.set j (.d d)) Pc σ H Q)
    (te := fun σ H Q => ∃ d Pe, (∀ (s : Shared) (H : Hp) (C : Addr) (cl : List (Str × Addr)) (fp : List Addr), EX (X.blk s H scope (compEnvC scope cl C X.env) fp) b Hb (Δ.set j (.d d)) elt Pe) ∧ tX X.K b Hb (Δ.set j (.d d)) Pe σ H Q)
    hc hN hy hyl hsw hi ok hg (fun s H C cl fp => ⟨fun pins s' σ' H' Q I ⟨i, d, ys, Pc, _, _, h, q⟩ => (h s H C cl fp).run pins s' σ' H' Q I q⟩) (fun s H C cl fp => ⟨fun pins s' σ' H' Q I ⟨d, Pe, h, q⟩ => (h s H C cl fp).run pins s' σ' H' Q I q⟩) hf) fun E σ H q => ?_
  refine lc_run _ _ rfl rfl hk hs h0 q.1 fun ys p H' jj f n h => ?_
  obtain ⟨vs, e1, t⟩ := h
  exact q.2.1 _ _ H' (k ys jj) (q.1.setR (r := .fr ys) f ⟨p, vs, rfl, n, e1, t⟩ rfl)
/-- what a filter and a map leave -/
theorem take_fm {α : Type} (p : α → Bool) (gg : α → PyData) {xs : List α} {i : Nat} {x : α} (h : xs[i]? = some x) : ((xs.take (i + 1)).filter p).map gg = ((xs.take i).filter p).map gg ++ (if p x = true then [gg x] else []) := by
  rw [List.take_add_one, h, List.filter_append, List.map_append]
  congr 1
  show List.map gg (List.filter p [x]) = _
  rw [List.filter_cons]
  split <;> rfl
/-- the plain kind: a test and an element told by functions on what the items stand for -/
theorem ed_lc (j : Nat) {α : Type} (xs : List α) (enc : α → PyData) (p : α → Bool) (gg : α → PyData) {tk : Option (List PyData)} {l : Lk} {scope : Scope} {x : Str} {xp : Pos} (hi : IX X b Hb Δ (.Name x xp) iter (xs.map enc) tk l)
    (ht : ∀ (s : Shared) (H : Hp) (C : Addr) (cl : List (Str × Addr)) (fp : List Addr) (a : α), a ∈ xs → TsX (X.blk s H scope (compEnvC scope cl C X.env) fp) b Hb (Δ.set j (.d (enc a))) ifs (fun z => z = p a))
    (he : ∀ (s : Shared) (H : Hp) (C : Addr) (cl : List (Str × Addr)) (fp : List Addr) (a : α), a ∈ xs → p a = true → ED (X.blk s H scope (compEnvC scope cl C X.env) fp) b Hb (Δ.set j (.d (enc a))) elt (.d (gg a)))
    (hl : xs.length ≤ 1000) (ok : BlkOk X.N X.env.scope scope [(x, j)]) (hN : X.N.Nodup)
    (hg : ∀ (s : Shared) (H : Hp) (C : Addr) (cl : List (Str × Addr)) (fp : List Addr), PG (X.blk s H scope (compEnvC scope cl C X.env) fp) (.Name x xp) (gName j)) (hc : X.calm = true := by rfl) (hf : ∀ x, foldedSetIterable iter X.env x = pure x := by intro _; rfl) :
    ED X b Hb Δ (.ListComp elt [⟨.Name x xp, iter, ifs, 0⟩] scope pos) (.fr ((xs.filter p).map gg)) := by
  refine ex_lc j (fun i ys => ys = ((xs.take i).filter p).map gg) hi (by simp) (fun i d ys e1 e2 => ?_) (fun i ys e => ?_) (fun ys e => ?_) ok hN hg hc hf
  · rw [List.getElem?_map] at e1
    cases h : xs[i]? with
    | none => rw [h] at e1; cases e1
    | some a =>
      rw [h] at e1
      have e3 : enc a = d := Option.some.inj e1
      subst e3
      have ha : a ∈ xs := List.mem_of_getElem? h
      refine ⟨fun z => z = p a, fun s H C cl fp => ht s H C cl fp a ha, fun h1 => ⟨fun z => z = .d (gg a), fun s H C cl fp => he s H C cl fp a ha h1.symm, fun r er => ⟨gg a, er, ?_⟩⟩, fun h1 => ?_⟩
      · rw [take_fm p gg h, if_pos h1.symm, e2]
      · rw [take_fm p gg h, ← h1, e2]
        simp
  · subst e
    rw [List.length_map]
    exact Nat.le_trans (List.length_filter_le _ _) (by rw [List.length_take]; omega)
  · rw [List.length_map, List.take_length] at e
    rw [e]
/-- name = the plain kind -/
theorem sx_setLcD (i j : Nat) {α : Type} (xs : List α) (enc : α → PyData) (p : α → Bool) (gg : α → PyData) {tk : Option (List PyData)} {l : Lk} {scope : Scope} {x y : Str} {xp py spos : Pos} (hi : IX X b Hb Δ (.Name x xp) iter (xs.map enc) tk l)
    (ht : ∀ (s : Shared) (H : Hp) (C : Addr) (cl : List (Str × Addr)) (fp : List Addr) (a : α), a ∈ xs → TsX (X.blk s H scope (compEnvC scope cl C X.env) fp) b Hb (Δ.set j (.d (enc a))) ifs (fun z => z = p a))
    (he : ∀ (s : Shared) (H : Hp) (C : Addr) (cl : List (Str × Addr)) (fp : List Addr) (a : α), a ∈ xs → p a = true → ED (X.blk s H scope (compEnvC scope cl C X.env) fp) b Hb (Δ.set j (.d (enc a))) elt (.d (gg a)))
    (hl : xs.length ≤ 1000) (k : D.nx (Δ.set i (.ow ((xs.filter p).map gg)))) (ok : BlkOk X.N X.env.scope scope [(x, j)]) (hN : X.N.Nodup)
    (hg : ∀ (s : Shared) (H : Hp) (C : Addr) (cl : List (Str × Addr)) (fp : List Addr), PG (X.blk s H scope (compEnvC scope cl C X.env) fp) (.Name x xp) (gName j)) (hsw : swapsWith (.ListComp elt [⟨.Name x xp, iter, ifs, 0⟩] scope pos) (some (.Name y py)) spos.line X.env = pure true)
    (hy : X.N[i]? = some y := by rfl) (hyl : X.env.scope.names.lookup y = some .local := by rfl) (hc : X.calm = true := by rfl) (hf : ∀ x, foldedSetIterable iter X.env x = pure x := by intro _; rfl) :
    SX X b Hb Δ (.Assign [.Name y py] (.ListComp elt [⟨.Name x xp, iter, ifs, 0⟩] scope pos) spos) D := by
  refine sx_setLc i j (fun i ys => ys = ((xs.take i).filter p).map gg) hi (by simp) (fun i d ys e1 e2 => ?_) (fun i ys e => ?_) (fun ys e => ?_) ok hN hg hsw hy hyl hc hf
  · rw [List.getElem?_map] at e1
    cases h : xs[i]? with
    | none => rw [h] at e1; cases e1
    | some a =>
      rw [h] at e1
      have e3 : enc a = d := Option.some.inj e1
      subst e3
      have ha : a ∈ xs := List.mem_of_getElem? h
      refine ⟨fun z => z = p a, fun s H C cl fp => ht s H C cl fp a ha, fun h1 => ⟨fun z => z = .d (gg a), fun s H C cl fp => he s H C cl fp a ha h1.symm, fun r er => ⟨gg a, er, ?_⟩⟩, fun h1 => ?_⟩
      · rw [take_fm p gg h, if_pos h1.symm, e2]
      · rw [take_fm p gg h, ← h1, e2]
        simp
  · subst e
    rw [List.length_map]
    exact Nat.le_trans (List.length_filter_le _ _) (by rw [List.length_take]; omega)
  · rw [List.length_map, List.take_length] at e
    rw [e]
    exact k

/-! ### defs: their promises told by data -/
/-- what a def does: to arguments, and what is wanted of its result -/
abbrev Wp := List Rs → (Rs → Prop) → Prop
/-- arguments: data, lists that may be read, the drawing list -/
inductive Ag (K : PySem.W.Frag) (b : Option Addr) (H : Hp) : V → Rs → Prop
  | d {v : V} {x : PyData} : Dt H v x → Ag K b H v (.d x)
  | ls {a : Addr} {vs : List V} {xs : List PyData} : some a ≠ b → SqL K H a vs → Dts H vs xs → Ag K b H (.ref a) (.ls xs)
  | bag {a : Addr} : b = some a → Ag K b H (.ref a) .bag
def spW (K : PySem.W.Frag) (W : Wp) : Sp := fun vs H Q _ => ∃ (b : Option Addr) (rs : List Rs) (P : Rs → Prop), BagIn b H ∧ Paired (Ag K b H) vs rs ∧ W rs P ∧ ∀ v H' r, P r → Fr b H H' → RsOk K b H H H' v r → Q v H'
/-- an argument's result, as the callee sees it -/
def agOf : Rs → Rs
  | .d x => .d x
  | .fr xs => .ls xs
  | .ow xs => .ls xs
  | .ls xs => .ls xs
  | .bag => .bag
theorem RsOk.ag {v : V} {r : Rs} (q : BagIn b Hb) (q0 : BagIn b H0) (h : RsOk K b Hb H0 H1 v r) : Ag K b H1 v (agOf r) := by
  cases r with
  | d x => exact .d h
  | fr xs =>
    obtain ⟨a, vs, e1, n, e2, t⟩ := h
    subst e1
    exact .ls (q0.ne_none n) (SqL.of e2) t
  | ow xs =>
    obtain ⟨a, vs, e1, n, e2, t⟩ := h
    subst e1
    exact .ls (q.ne_none n) (SqL.of e2) t
  | ls xs =>
    obtain ⟨a, vs, e1, n, e2, t⟩ := h
    subst e1
    exact .ls n e2 t
  | bag =>
    obtain ⟨a, e1, e2⟩ := h
    subst e1
    exact .bag e2
theorem RsAll.ags {vs : List V} {rs : List Rs} (q : BagIn b Hb) (q0 : BagIn b H0) (h : RsAll K b Hb H0 H1 vs rs) : Paired (Ag K b H1) vs (rs.map agOf) := by
  induction h with
  | nil => exact .nil
  | cons h _ _ ih => exact .cons (h.ag q q0) ih
/-- a call of a def of the module -/
theorem ex_call {k : Nat} {fa : Addr} {fd : FuncData} {ps : List Str} {W : Wp} {x : Str} {p : Pos} {Pa : List Rs → Prop} (F : FnOk X.prog X.w X.K X.mg X.base CX0 k fa fd ps (spW X.K W)) (hr : Room k X.A) (hm : X.mg x = some (.ref fa)) (hk : PySem.W.keepIn X.K (.ref fa) = true) (hb : Binds X.K fd ps [])
    (ha : AX X b Hb Δ (e :: es) Pa) (k : ∀ rs, Pa rs → W (rs.map agOf) P) (hg : Gl X x := by rfl) (hdb : (x == ("__debug__" : Str)) = false := by decide) (he : starEach (e :: es) X.env = (false, eval e X.env) :: starEach es X.env := by rfl) (hpl : (backTo pos (starEach es X.env)).any (·.1) = false := by rfl) :
    EX X b Hb Δ (.Call (.Name x p) (e :: es) [] pos) P :=
  pe_imp (pe_call F hr hg hm hk hb .nil pass0 ha hdb he hpl) fun σ H Q q => ⟨q.1, fun vs H1 rs p1 f1 k1 => by
    show spW X.K W (vs ++ []) H1 Q E0
    rw [List.append_nil]
    exact ⟨b, rs.map agOf, P, (q.1.step f1).bagH, k1.ags q.1.bag q.1.bagH, k rs p1, fun v H' r pr f k2 => q.2 v H' r pr (f1.trans f) (by
      cases r with
      | d x => exact k2
      | fr xs =>
        obtain ⟨a, us, e1, n, t⟩ := k2
        exact ⟨a, us, e1, f1.free q.1.bagH n, t⟩
      | ow xs =>
        obtain ⟨a, us, e1, n, t⟩ := k2
        exact ⟨a, us, e1, (q.1.fr.trans f1).free q.1.bag n, t⟩
      | ls xs => exact k2
      | bag => exact k2)⟩⟩
/-- the slots at a def's start -/
def iniSl (as : Nat → Addr) : Nat → List Rs → List Sl
  | _, [] => []
  | n, .d x :: rs => .d x :: iniSl as (n + 1) rs
  | n, .ls xs :: rs => .br (as n) xs :: iniSl as (n + 1) rs
  | n, .bag :: rs => .bag :: iniSl as (n + 1) rs
  | n, _ :: rs => .un :: iniSl as (n + 1) rs
def adOf : V → Addr
  | .ref a => a
  | _ => 0
theorem ini_of {vs : List V} {rs : List Rs} (h : Paired (Ag K b H) vs rs) : ∀ (as : Nat → Addr) (n : Nat), (∀ (i : Nat) (v : V), vs[i]? = some v → as (n + i) = adOf v) → (iniSl as n rs).length = vs.length ∧ ∀ (i : Nat) (s : Sl), (iniSl as n rs)[i]? = some s → (∃ v, vs[i]? = some v ∧ SlOk K b H H (some v) s) ∧ ∀ xs, s ≠ .ow xs := by
  induction h with
  | nil => exact fun as n _ => ⟨rfl, fun i s e => by simp [iniSl] at e⟩
  | @cons v r vs rs h t ih =>
    intro as n ha
    obtain ⟨l1, a1⟩ := ih as (n + 1) fun i v e => by
      have z := ha (i + 1) v (by simpa using e)
      rw [← z, Nat.add_assoc, Nat.add_comm 1 i]
    have h0 : as n = adOf v := ha 0 v rfl
    have go : ∀ s, iniSl as n (r :: rs) = s :: iniSl as (n + 1) rs → SlOk K b H H (some v) s → (∀ xs, s ≠ .ow xs) → (iniSl as n (r :: rs)).length = (v :: vs).length ∧ ∀ (i : Nat) (s : Sl), (iniSl as n (r :: rs))[i]? = some s → (∃ u, (v :: vs)[i]? = some u ∧ SlOk K b H H (some u) s) ∧ ∀ xs, s ≠ .ow xs := fun s e2 k2 n2 => by
      rw [e2]
      refine ⟨by rw [List.length_cons, List.length_cons, l1], fun i s' e => ?_⟩
      cases i with
      | zero =>
        have e' := Option.some.inj e
        subst e'
        exact ⟨⟨v, rfl, k2⟩, n2⟩
      | succ i => exact a1 i s' (by simpa using e)
    cases h with
    | @d _ x h => exact go (.d x) rfl ⟨v, rfl, h⟩ fun _ => nofun
    | @ls a ws xs n' q t =>
      have e : as n = a := h0
      exact go (.br a xs) (by show Sl.br (as n) xs :: _ = _; rw [e]) ⟨rfl, n', ws, q, t⟩ fun _ => nofun
    | @bag a e => exact go .bag rfl ⟨a, rfl, e⟩ fun _ => nofun
theorem en_start {N : List Str} {vs : List V} {Δ : List Sl} (q : BagIn b H) (l : Δ.length = vs.length) (hN : vs.length ≤ N.length) (a1 : ∀ (i : Nat) (s : Sl), Δ[i]? = some s → (∃ v, vs[i]? = some v ∧ SlOk K b H H (some v) s) ∧ ∀ xs, s ≠ .ow xs) :
    En K b H (Δ ++ List.replicate (N.length - vs.length) .un) (L2.start N vs) H := by
  have up : ∀ {i : Nat} {s : Sl}, (Δ ++ List.replicate (N.length - vs.length) Sl.un)[i]? = some s → (i < vs.length ∧ Δ[i]? = some s) ∨ (vs.length ≤ i ∧ s = .un ∧ i < N.length) := fun {i s} e => by
    by_cases h : i < Δ.length
    · rw [List.getElem?_append_left h] at e
      exact .inl ⟨by omega, e⟩
    · rw [List.getElem?_append_right (by omega), List.getElem?_replicate] at e
      split at e
      · exact .inr ⟨by omega, (Option.some.inj e).symm, by omega⟩
      · cases e
  refine ⟨q, .refl, ?_, fun i s e => ?_, fun i j xs ys n e1 e2 => ?_⟩
  · unfold L2.start
    rw [List.length_append, List.length_append, List.length_map, List.length_replicate, List.length_replicate, l]
  · unfold L2.start
    rcases up e with ⟨h1, h2⟩ | ⟨h1, h2, h3⟩
    · obtain ⟨⟨v, e3, k⟩, _⟩ := a1 i s h2
      exact ⟨some v, by rw [List.getElem?_append_left (by rw [List.length_map]; exact h1), List.getElem?_map, e3]; rfl, k⟩
    · subst h2
      refine ⟨none, ?_, trivial⟩
      rw [List.getElem?_append_right (by rw [List.length_map]; exact h1), List.length_map, List.getElem?_replicate, if_pos (by omega)]
  · rcases up e1 with ⟨_, h2⟩ | ⟨_, h2, _⟩
    · exact absurd rfl ((a1 i _ h2).2 xs)
    · cases h2
/-- THE RULE for a def, by data -/
theorem fn_data {P : Program} {w : World} {K : PySem.W.Frag} {mg : Str → Option Value} {base : Heap} {x qual : Str} {st : Stmt} {f : Addr} {fd : FuncData} {N ps : List Str} {k : Nat} {W : Wp} (F : Fun K x qual st f fd) (S : FnScope N ps (defScope st)) (hlen : ∀ rs Q, W rs Q → rs.length = ps.length) (hN : ps.length ≤ N.length)
    (hbody : ∀ (cdv : Value) (A : Around) (outer : List Env) (s : Shared) (H : Hp) (E : XK) (b : Option Addr) (rs : List Rs) (Q : Rs → Prop) (as : Nat → Addr), Room k (A.deeper (envOfC qual (defScope st) s.heap.objs.size f cdv)) → W rs Q →
      SSX (cxOf CX0 P w K mg base N qual (defScope st) f cdv A outer s H E).nox b H (iniSl as 0 rs ++ List.replicate (N.length - ps.length) .un) (defBody st) { nx := fun _ => False, rt := Q }) : FnOk P w K mg base CX0 (k + 1) f fd ps (spW K W) := by
  refine F.ok S (fun vs H Q E h => ?_) (fun cdv A outer s H vs Q E hr h => ?_)
  · obtain ⟨b, rs, P, _, p, hw, _⟩ := h
    rw [p.length]
    exact hlen rs P hw
  · obtain ⟨b, rs, P', bi, p, hw, fin⟩ := h
    obtain ⟨l1, a1⟩ := ini_of p (fun i => adOf (vs.getD i .non)) 0 fun i v e => by
      show adOf (vs.getD (0 + i) .non) = _
      rw [Nat.zero_add, List.getD_eq_getElem?_getD, e]; rfl
    have hv : vs.length = ps.length := p.length.trans (hlen rs P' hw)
    refine ⟨_, hbody cdv A outer s H E b rs P' (fun i => adOf (vs.getD i .non)) hr hw, ?_, fun _ _ _ z => z.elim, fun r v H' pr f k => fin v H' r pr f k, fun _ _ _ z => z.elim, fun _ _ _ z => z.elim⟩
    have z := en_start (N := N) bi l1 (by omega) a1
    rw [← hv]
    exact z
end
end K47
set_option Elab.async false
set_option linter.all false
set_option maxRecDepth 100000
set_option maxHeartbeats 2000000
namespace K47
open PySem PySem.Spec PyProof.Rows L2

section
variable {X : Cx} {b : Option Addr} {Hb : Hp} {Δ Δ' : List Sl} {st : Stmt} {sts body : List Stmt} {e f g tg iter elt : Expr} {es ifs : List Expr} {pos : Pos} {P P' : Rs → Prop} {K : PySem.W.Frag} {H H1 H2 H0 : Hp} {σ : L2.St} {D : Dn}

/-! ### forgetting -/
theorem lo_nil : Lo [] [] := ⟨rfl, fun i s e => by simp at e⟩
theorem lo_un {s : Sl} (h : Lo Δ Δ') : Lo (s :: Δ) (.un :: Δ') := ⟨by rw [List.length_cons, List.length_cons, h.1], fun i t e => by
  cases i with
  | zero => exact .inl (Option.some.inj e).symm
  | succ i => exact h.2 i t (by simpa using e)⟩
theorem lo_eq {s s' : Sl} (es : s = s') (h : Lo Δ Δ') : Lo (s :: Δ) (s' :: Δ') := ⟨by rw [List.length_cons, List.length_cons, h.1], fun i t e => by
  subst es
  cases i with
  | zero => exact .inr e
  | succ i => exact h.2 i t (by simpa using e)⟩
theorem lo_same {s : Sl} (h : Lo Δ Δ') : Lo (s :: Δ) (s :: Δ') := lo_eq rfl h
theorem lo_refl : Lo Δ Δ := ⟨rfl, fun _ _ e => .inr e⟩
theorem Lo.trans {Δ2 : List Sl} (h : Lo Δ Δ') (k : Lo Δ' Δ2) : Lo Δ Δ2 := ⟨h.1.trans k.1, fun i s e => (k.2 i s e).elim .inl fun z => h.2 i s z⟩
def upN (N : List Sl → Prop) : List Sl → Prop := fun Δ => ∃ Δ', Lo Δ Δ' ∧ N Δ'
theorem ssx_lo (l : Lo Δ Δ') (h : SSX X b Hb Δ' sts D) : SSX X b Hb Δ sts D := pss_imp h fun _ _ _ q => ⟨q.1.lo l, q.2⟩
theorem sx_lo (l : Lo Δ Δ') (h : SX X b Hb Δ' st D) : SX X b Hb Δ st D := ps_imp h fun _ _ _ q => ⟨q.1.lo l, q.2⟩
theorem gx_lo {d : PyData} {N : List Sl → Prop} (l : Lo Δ Δ') (h : GX X b Hb Δ' tg d N) : GX X b Hb Δ tg d N := pg_imp h fun _ _ _ _ q => ⟨q.1.lo l, q.2⟩
theorem ssx_up (h : SSX X b Hb Δ sts { nx := upN D.nx, rt := D.rt, bk := upN D.bk, ct := upN D.ct }) : SSX X b Hb Δ sts D :=
  pss_imp h fun _ _ _ q => ⟨q.1, fun _ σ' H' ⟨Δ2, l, n⟩ en => q.2.1 Δ2 σ' H' n (en.lo l), q.2.2.1, fun _ σ' H' ⟨Δ2, l, n⟩ en => q.2.2.2.1 Δ2 σ' H' n (en.lo l), fun _ σ' H' ⟨Δ2, l, n⟩ en => q.2.2.2.2 Δ2 σ' H' n (en.lo l)⟩
theorem sx_up (h : SX X b Hb Δ st { nx := upN D.nx, rt := D.rt, bk := upN D.bk, ct := upN D.ct }) : SX X b Hb Δ st D :=
  ps_imp h fun _ _ _ q => ⟨q.1, fun _ σ' H' ⟨Δ2, l, n⟩ en => q.2.1 Δ2 σ' H' n (en.lo l), q.2.2.1, fun _ σ' H' ⟨Δ2, l, n⟩ en => q.2.2.2.1 Δ2 σ' H' n (en.lo l), fun _ σ' H' ⟨Δ2, l, n⟩ en => q.2.2.2.2 Δ2 σ' H' n (en.lo l)⟩
theorem ssx_mono {D' : Dn} (h : SSX X b Hb Δ sts D') (hn : ∀ Δ, D'.nx Δ → D.nx Δ) (hr : ∀ r, D'.rt r → D.rt r) (hb : ∀ Δ, D'.bk Δ → D.bk Δ) (hc : ∀ Δ, D'.ct Δ → D.ct Δ) : SSX X b Hb Δ sts D := pss_imp h (tS.imp hn hr hb hc)

/-! ### loops over what stands for items -/
/-- a for: J the slots by the turn -/
theorem sx_forA {α : Type} (xs : List α) (enc : α → PyData) {tk : Option (List PyData)} {l : Lk} (hi : IX X b Hb Δ tg e (xs.map enc) tk l) (J : Nat → List Sl) (h0 : Lo Δ (J 0))
    (hs : ∀ (Hb' : Hp) (i : Nat) (a : α), xs[i]? = some a → GX X b Hb' (J i) tg (enc a) (fun Δ'' => SSX X b Hb' Δ'' body { nx := fun Δ' => Lo Δ' (J (i + 1)), ct := fun Δ' => Lo Δ' (J (i + 1)), bk := fun Δ' => ∃ Δ2, Lo Δ' Δ2 ∧ D.nx Δ2 ∧ ∀ p ∈ brs Δ2, p ∈ brs Δ, rt := D.rt }))
    (hd : D.nx (J xs.length)) (hbr : ∀ p ∈ brs (J xs.length), p ∈ brs Δ) (hl : (∀ k, l ≠ .slot k) := by exact fun _ => nofun) (hp : PassesOwn (model X.prog X.w) X.A X.env X.xe := by exact PassesOwn.never) (hc : X.calm = true := by rfl) (hf : ∀ x, foldedSetIterable e X.env x = pure x := by intro _; rfl) : SX X b Hb Δ (.For tg e body [] pos) D := by
  exact sx_for hi (fun i Δ' => Lo Δ' (J i)) h0 (fun Hb' i d Δ' e1 e2 => by
    rw [List.getElem?_map] at e1
    cases h : xs[i]? with
    | none => rw [h] at e1; cases e1
    | some a =>
      rw [h] at e1
      have e3 : enc a = d := Option.some.inj e1
      subst e3
      exact gx_lo e2 (hs Hb' i a h)) (fun Δ' lo => by
    rw [List.length_map] at lo
    exact ⟨_, lo, hd, hbr⟩) hl hp hc hf
/-- a for over one's own list in slot k -/
theorem sx_forSA (k : Nat) {α : Type} (xs : List α) (enc : α → PyData) {ys : List PyData} (hi : IX X b Hb Δ tg e (xs.map enc) (some ys) (.slot k)) (J : Addr → Nat → List Sl) (h0 : ∀ a, Lo (Δ.set k (.br a ys)) (J a 0))
    (hs : ∀ (a : Addr) (Hb' : Hp) (i : Nat) (x : α), xs[i]? = some x → GX X b Hb' (J a i) tg (enc x) (fun Δ'' => SSX X b Hb' Δ'' body { nx := fun Δ' => Lo Δ' (J a (i + 1)), ct := fun Δ' => Lo Δ' (J a (i + 1)), bk := fun Δ' => ∃ Δ2, Lo Δ' Δ2 ∧ (Δ2[k]? = some (.br a ys) ∧ D.nx (Δ2.set k (.ow ys))) ∧ ∀ p ∈ brs (Δ2.set k .un), p ∈ brs Δ, rt := D.rt }))
    (hd : ∀ a, (J a xs.length)[k]? = some (.br a ys) ∧ D.nx ((J a xs.length).set k (.ow ys))) (hbr : ∀ a, ∀ p ∈ brs ((J a xs.length).set k .un), p ∈ brs Δ) (hk : Δ[k]? = some (.ow ys) := by rfl) (hp : PassesOwn (model X.prog X.w) X.A X.env X.xe := by exact PassesOwn.never) (hc : X.calm = true := by rfl) (hf : ∀ x, foldedSetIterable e X.env x = pure x := by intro _; rfl) : SX X b Hb Δ (.For tg e body [] pos) D :=
  sx_forS k hi (fun a i Δ' => Lo Δ' (J a i)) h0 (fun a Hb' i d Δ' e1 e2 => by
    rw [List.getElem?_map] at e1
    cases h : xs[i]? with
    | none => rw [h] at e1; cases e1
    | some x =>
      rw [h] at e1
      have e3 : enc x = d := Option.some.inj e1
      subst e3
      exact gx_lo e2 (hs a Hb' i x h)) (fun a Δ' lo => by
    rw [List.length_map] at lo
    exact ⟨_, lo, hd a, hbr a⟩) hk hp hc hf
/-- a for whose state is one of several: I says what holds of it -/
theorem sx_forN {α β : Type} (xs : List α) (enc : α → PyData) {tk : Option (List PyData)} {l : Lk} (hi : IX X b Hb Δ tg e (xs.map enc) tk l) (J : β → List Sl) (I : Nat → β → Prop) (h0 : ∃ s, I 0 s ∧ Lo Δ (J s))
    (hs : ∀ (Hb' : Hp) (i : Nat) (a : α) (s : β), xs[i]? = some a → I i s → GX X b Hb' (J s) tg (enc a) (fun Δ'' => SSX X b Hb' Δ'' body { nx := fun Δ' => ∃ s', I (i + 1) s' ∧ Lo Δ' (J s'), ct := fun Δ' => ∃ s', I (i + 1) s' ∧ Lo Δ' (J s'), bk := fun Δ' => ∃ Δ2, Lo Δ' Δ2 ∧ D.nx Δ2 ∧ ∀ p ∈ brs Δ2, p ∈ brs Δ, rt := D.rt }))
    (hd : ∀ s, I xs.length s → D.nx (J s) ∧ ∀ p ∈ brs (J s), p ∈ brs Δ) (hl : (∀ k, l ≠ .slot k) := by exact fun _ => nofun) (hp : PassesOwn (model X.prog X.w) X.A X.env X.xe := by exact PassesOwn.never) (hc : X.calm = true := by rfl) (hf : ∀ x, foldedSetIterable e X.env x = pure x := by intro _; rfl) : SX X b Hb Δ (.For tg e body [] pos) D :=
  sx_for hi (fun i Δ' => ∃ s, I i s ∧ Lo Δ' (J s)) h0 (fun Hb' i d Δ' e1 ⟨s, i2, e2⟩ => by
    rw [List.getElem?_map] at e1
    cases h : xs[i]? with
    | none => rw [h] at e1; cases e1
    | some a =>
      rw [h] at e1
      have e3 : enc a = d := Option.some.inj e1
      subst e3
      exact gx_lo e2 (hs Hb' i a s h i2)) (fun Δ' ⟨s, i2, lo⟩ => by
    rw [List.length_map] at i2
    obtain ⟨h1, h2⟩ := hd s i2
    exact ⟨_, lo, h1, h2⟩) hl hp hc hf
/-- the same over one's own list in slot k -/
theorem sx_forSN (k : Nat) {α β : Type} (xs : List α) (enc : α → PyData) {ys : List PyData} (hi : IX X b Hb Δ tg e (xs.map enc) (some ys) (.slot k)) (J : Addr → β → List Sl) (I : Nat → β → Prop) (h0 : ∃ s, I 0 s ∧ ∀ a, Lo (Δ.set k (.br a ys)) (J a s))
    (hs : ∀ (a : Addr) (Hb' : Hp) (i : Nat) (x : α) (s : β), xs[i]? = some x → I i s → GX X b Hb' (J a s) tg (enc x) (fun Δ'' => SSX X b Hb' Δ'' body { nx := fun Δ' => ∃ s', I (i + 1) s' ∧ Lo Δ' (J a s'), ct := fun Δ' => ∃ s', I (i + 1) s' ∧ Lo Δ' (J a s'), bk := fun Δ' => ∃ Δ2, Lo Δ' Δ2 ∧ (Δ2[k]? = some (.br a ys) ∧ D.nx (Δ2.set k (.ow ys))) ∧ ∀ p ∈ brs (Δ2.set k .un), p ∈ brs Δ, rt := D.rt }))
    (hd : ∀ a s, I xs.length s → ((J a s)[k]? = some (.br a ys) ∧ D.nx ((J a s).set k (.ow ys))) ∧ ∀ p ∈ brs ((J a s).set k .un), p ∈ brs Δ) (hk : Δ[k]? = some (.ow ys) := by rfl) (hp : PassesOwn (model X.prog X.w) X.A X.env X.xe := by exact PassesOwn.never) (hc : X.calm = true := by rfl) (hf : ∀ x, foldedSetIterable e X.env x = pure x := by intro _; rfl) : SX X b Hb Δ (.For tg e body [] pos) D :=
  sx_forS k hi (fun a i Δ' => ∃ s, I i s ∧ Lo Δ' (J a s)) (fun a => let ⟨s, h1, h2⟩ := h0; ⟨s, h1, h2 a⟩) (fun a Hb' i d Δ' e1 ⟨s, i2, e2⟩ => by
    rw [List.getElem?_map] at e1
    cases h : xs[i]? with
    | none => rw [h] at e1; cases e1
    | some x =>
      rw [h] at e1
      have e3 : enc x = d := Option.some.inj e1
      subst e3
      exact gx_lo e2 (hs a Hb' i x s h i2)) (fun a Δ' ⟨s, i2, lo⟩ => by
    rw [List.length_map] at i2
    obtain ⟨h1, h2⟩ := hd a s i2
    exact ⟨_, lo, h1, h2⟩) hk hp hc hf
/-- a while whose state is told by s -/
theorem sx_whileA {β : Type} (J : β → List Sl) (I : β → Prop) (μ : β → Nat) (s0 : β) (i0 : I s0) (h0 : Lo Δ (J s0))
    (hs : ∀ s, I s → ∃ c, TD X b Hb (J s) e c ∧ (c = true → SSX X b Hb (J s) body { nx := fun Δ' => ∃ s', I s' ∧ μ s' < μ s ∧ Lo Δ' (J s'), ct := fun Δ' => ∃ s', I s' ∧ μ s' < μ s ∧ Lo Δ' (J s'), bk := D.nx, rt := D.rt }) ∧ (c = false → D.nx (J s)))
    (hp : PassesOwn (model X.prog X.w) X.A X.env X.xe := by exact PassesOwn.never) : SX X b Hb Δ (.While e body [] pos) D := by
  refine sx_up (sx_while (fun m Δ' => ∃ s, I s ∧ μ s = m ∧ Lo Δ' (J s)) (μ s0) ⟨s0, i0, rfl, h0⟩ (fun m Δ' ⟨s, i1, em, lo⟩ => ?_) hp)
  obtain ⟨c, td, hy, hn⟩ := hs s i1
  refine ⟨c, pt_imp td fun _ _ _ q => ⟨q.1.lo lo, q.2⟩, fun ec => ?_, fun ec => ⟨_, lo, hn ec⟩⟩
  refine ssx_lo lo (ssx_mono (hy ec) (fun Δ2 ⟨s', i2, l2, lo2⟩ => ⟨μ s', by omega, s', i2, rfl, lo2⟩) (fun _ h => h) (fun Δ2 h => ⟨Δ2, lo_refl, h⟩) fun Δ2 ⟨s', i2, l2, lo2⟩ => ⟨μ s', by omega, s', i2, rfl, lo2⟩)
/-- range(n) walked: the numbers below n -/
theorem ix_rangeN {n : Nat} {p : Pos} (hg : Gl X "range") (hm : X.mg "range" = none) (ha : ED X b Hb Δ e (.d (.int (n : Nat)))) (h2 : n ≤ 100000) (hs : starEach [e] X.env = [(false, eval e X.env)] := by rfl) : IX X b Hb Δ tg (.Call (.Name "range" p) [e] [] pos) ((List.range n).map fun i => .int (i : Nat)) none .no := by
  have z := ix_range1 (tg := tg) (pos := pos) (p := p) hg hm ha (by omega) (by omega) hs
  have e1 : rgD 0 ((n : Int)).toNat = (List.range n).map fun i => .int (i : Nat) := by
    unfold rgD
    rw [Int.toNat_natCast]
    congr 1
    funext i
    rw [Int.zero_add]
  rw [e1] at z
  exact z
theorem rg_get {n i a : Nat} (h : (List.range n)[i]? = some a) : a = i ∧ i < n := by
  have h1 := (List.getElem?_eq_some_iff.mp h)
  obtain ⟨h2, h3⟩ := h1
  rw [List.getElem_range] at h3
  rw [List.length_range] at h2
  exact ⟨h3.symm, h2⟩
end
end K47
set_option Elab.async false
set_option linter.all false
set_option maxRecDepth 100000
set_option maxHeartbeats 2000000
namespace K47
open PySem PySem.Spec PyProof.Rows L2

/-! ### plain data: None, ints, texts, tuples of such -/
mutual
def pln : PyData → Bool
  | .none => true
  | .bool _ => false
  | .int _ => true
  | .str x => PyData.strOk x
  | .list _ => false
  | .tuple xs => plnAll xs
  | .dict _ => false
def plnAll : List PyData → Bool
  | [] => true
  | x :: xs => pln x && plnAll xs
end
theorem plnAll_iff : ∀ {ds : List PyData}, plnAll ds = true ↔ ∀ d ∈ ds, pln d = true
  | [] => ⟨fun _ _ h => (nomatch h), fun _ => rfl⟩
  | x :: xs => by rw [plnAll, Bool.and_eq_true, plnAll_iff, List.forall_mem_cons]
theorem dAll_le {n : Nat} : ∀ {ds : List PyData}, PyData.depthAll ds ≤ n ↔ ∀ d ∈ ds, d.depth ≤ n
  | [] => ⟨fun _ _ h => (nomatch h), fun _ => by simp [PyData.depthAll]⟩
  | x :: xs => by rw [List.forall_mem_cons, ← dAll_le]; simp [PyData.depthAll]; omega
structure Good (d : PyData) : Prop where
  p : pln d = true
  dp : d.depth ≤ 8
theorem good_tup {ds : List PyData} (h : ∀ d ∈ ds, Good d ∧ d.depth ≤ 7) : Good (.tuple ds) := ⟨by rw [pln, plnAll_iff]; exact fun d m => (h d m).1.p, by
  rw [PyData.depth]
  have := (dAll_le (n := 7)).mpr fun d m => (h d m).2
  omega⟩
mutual
theorem pln_lay : ∀ {d : PyData}, pln d = true → d.canLay0 = true
  | .none, _ => rfl
  | .int _, _ => rfl
  | .str x, h => by rw [pln] at h; rw [PyData.canLay0]; exact h
  | .tuple xs, h => by rw [pln] at h; rw [PyData.canLay0]; exact plnAll_lay h
  | .bool _, h => nomatch h
  | .list _, h => nomatch h
  | .dict _, h => nomatch h
theorem plnAll_lay : ∀ {ds : List PyData}, plnAll ds = true → PyData.canLayAll0 ds = true
  | [], _ => rfl
  | x :: xs, h => by
    rw [plnAll, Bool.and_eq_true] at h
    rw [PyData.canLayAll0, pln_lay h.1, plnAll_lay h.2]; rfl
end
mutual
theorem eqv_self : ∀ {d : PyData}, pln d = true → PyData.eqv d d = true
  | .none, _ => rfl
  | .int _, _ => by simp [PyData.eqv]
  | .str x, h => by simp [PyData.eqv]
  | .tuple xs, h => by rw [PyData.eqv]; exact eqvAll_self (by rw [pln] at h; exact h)
  | .bool _, h => nomatch h
  | .list _, h => nomatch h
  | .dict _, h => nomatch h
theorem eqvAll_self : ∀ {ds : List PyData}, plnAll ds = true → PyData.eqvAll ds ds = true
  | [], _ => rfl
  | x :: xs, h => by
    rw [plnAll, Bool.and_eq_true] at h
    rw [PyData.eqvAll, eqv_self h.1, eqvAll_self h.2]; rfl
end
mutual
theorem eqv_is : ∀ {d e : PyData}, pln d = true → pln e = true → PyData.eqv d e = true → d = e
  | .none, .none, _, _, _ => rfl
  | .int _, .int _, _, _, h => by simp [PyData.eqv] at h; rw [h]
  | .str x, .str y, _, _, h => by simp [PyData.eqv] at h; rw [h]
  | .tuple xs, .tuple ys, h1, h2, h => by
    rw [PyData.eqv] at h
    rw [pln] at h1 h2
    rw [eqvAll_is h1 h2 h]
  | .none, .int _, _, _, h => by simp [PyData.eqv] at h
  | .none, .str _, _, _, h => by simp [PyData.eqv] at h
  | .none, .tuple _, _, _, h => by simp [PyData.eqv] at h
  | .int _, .none, _, _, h => by simp [PyData.eqv] at h
  | .int _, .str _, _, _, h => by simp [PyData.eqv] at h
  | .int _, .tuple _, _, _, h => by simp [PyData.eqv] at h
  | .str _, .none, _, _, h => by simp [PyData.eqv] at h
  | .str _, .int _, _, _, h => by simp [PyData.eqv] at h
  | .str _, .tuple _, _, _, h => by simp [PyData.eqv] at h
  | .tuple _, .none, _, _, h => by simp [PyData.eqv] at h
  | .tuple _, .int _, _, _, h => by simp [PyData.eqv] at h
  | .tuple _, .str _, _, _, h => by simp [PyData.eqv] at h
  | .bool _, _, h, _, _ => nomatch h
  | .list _, _, h, _, _ => nomatch h
  | .dict _, _, h, _, _ => nomatch h
  | _, .bool _, _, h, _ => nomatch h
  | _, .list _, _, h, _ => nomatch h
  | _, .dict _, _, h, _ => nomatch h
theorem eqvAll_is : ∀ {ds es : List PyData}, plnAll ds = true → plnAll es = true → PyData.eqvAll ds es = true → ds = es
  | [], [], _, _, _ => rfl
  | x :: xs, y :: ys, h1, h2, h => by
    rw [plnAll, Bool.and_eq_true] at h1 h2
    rw [PyData.eqvAll, Bool.and_eq_true] at h
    rw [eqv_is h1.1 h2.1 h.1, eqvAll_is h1.2 h2.2 h.2]
  | [], _ :: _, _, _, h => by simp [PyData.eqvAll] at h
  | _ :: _, [], _, _, h => by simp [PyData.eqvAll] at h
end
/-- a kind of items, told by data -/
structure EncOk {α : Type} (enc : α → PyData) : Prop where
  inj : ∀ a b, enc a = enc b → a = b
  good : ∀ a, Good (enc a)
theorem EncOk.eqv {α : Type} [DecidableEq α] {enc : α → PyData} (h : EncOk enc) (a b : α) : PyData.eqv (enc a) (enc b) = decide (a = b) := by
  by_cases e : a = b
  · subst e; rw [eqv_self (h.good a).p, decide_eq_true rfl]
  · rw [decide_eq_false e]
    cases q : PyData.eqv (enc a) (enc b) with
    | false => rfl
    | true => exact absurd (h.inj a b (eqv_is (h.good a).p (h.good b).p q)) e
theorem EncOk.eqvAll {α : Type} [DecidableEq α] {enc : α → PyData} (h : EncOk enc) : ∀ as bs : List α, PyData.eqvAll (as.map enc) (bs.map enc) = decide (as = bs)
  | [], [] => by simp [PyData.eqvAll]
  | [], b :: bs => by simp [PyData.eqvAll]
  | a :: as, [] => by simp [PyData.eqvAll]
  | a :: as, b :: bs => by
    rw [List.map_cons, List.map_cons, PyData.eqvAll, h.eqv, EncOk.eqvAll h as bs]
    simp
theorem EncOk.goods {α : Type} {enc : α → PyData} (h : EncOk enc) (as : List α) : ∀ d ∈ as.map enc, Good d := fun d m => by
  obtain ⟨a, _, rfl⟩ := List.mem_map.mp m
  exact h.good a
theorem good_int (i : Int) : Good (.int i) := ⟨rfl, by simp [PyData.depth]⟩
theorem good_none : Good .none := ⟨rfl, by simp [PyData.depth]⟩
theorem good_str {x : Str} (h : PyData.strOk x = true) : Good (.str x) := ⟨h, by simp [PyData.depth]⟩
theorem enc_int : EncOk (fun i : Int => PyData.int i) := ⟨fun a b e => by injection e, fun a => good_int a⟩
theorem enc_nat : EncOk (fun i : Nat => PyData.int (i : Int)) := ⟨fun a b e => by injection e with e; exact Int.ofNat.inj e, fun a => good_int a⟩

/-! ### from data to what the hand layer knows -/
section
variable {K : PySem.W.Frag} {b : Option Addr} {Hb H H0 H1 : Hp}
mutual
theorem Dt.dp : ∀ {d : PyData} {v : V}, Dt H v d → pln d = true → Dp K H v d
  | _, _, .non, _ => .non
  | _, _, .bl b, _ => .bl b
  | _, _, .int i, _ => .int i
  | _, _, .str x, _ => .str x
  | _, _, .tup e t, h => .tup e.sq (Dts.dp t (by rw [pln] at h; exact h))
  | _, _, .lse e t, h => nomatch h
theorem Dts.dp : ∀ {ds : List PyData} {vs : List V}, Dts H vs ds → plnAll ds = true → DpAll K H vs ds
  | _, _, .nil, _ => .nil
  | _, _, .cons h t, q => by
    rw [plnAll, Bool.and_eq_true] at q
    exact .cons (Dt.dp h q.1) (Dts.dp t q.2)
end
/-- what is compared -/
def dpOf : Rs → Option PyData
  | .d x => some x
  | .fr xs => some (.list xs)
  | .ow xs => some (.list xs)
  | .ls xs => some (.list xs)
  | .bag => none
/-- it is plain data, or a list of plain data -/
def GoodR : Rs → Prop
  | .d x => Good x
  | .fr xs => ∀ d ∈ xs, Good d
  | .ow xs => ∀ d ∈ xs, Good d
  | .ls xs => ∀ d ∈ xs, Good d
  | .bag => False
theorem good_ls {r : Rs} {xs : List PyData} (e : lsOf r = some xs) (g : ∀ d ∈ xs, Good d) : GoodR r := by
  cases r <;> cases e <;> exact g
theorem dpOf_ls {r : Rs} {xs : List PyData} (e : lsOf r = some xs) : dpOf r = some (.list xs) := by
  cases r <;> cases e <;> rfl
theorem goods_all {xs : List PyData} (g : ∀ d ∈ xs, Good d) : plnAll xs = true := plnAll_iff.mpr fun d m => (g d m).p
theorem goods_depth {xs : List PyData} (g : ∀ d ∈ xs, Good d) : PyData.depthAll xs ≤ 8 := dAll_le.mpr fun d m => (g d m).dp
theorem shaped_good {d : PyData} (g : Good d) : SeqAt.shaped d = true := by
  unfold SeqAt.shaped
  rw [pln_lay g.p, Bool.true_and]
  have := g.dp
  exact decide_eq_true (by omega)
theorem shaped_goods {xs : List PyData} (g : ∀ d ∈ xs, Good d) : SeqAt.shaped (.list xs) = true := by
  unfold SeqAt.shaped
  rw [PyData.canLay0, plnAll_lay (goods_all g), Bool.true_and]
  have := goods_depth g
  refine decide_eq_true ?_
  rw [PyData.depth]
  omega
theorem shaped_tup {xs : List PyData} (g : ∀ d ∈ xs, Good d) : SeqAt.shaped (.tuple xs) = true := by
  unfold SeqAt.shaped
  rw [PyData.canLay0, plnAll_lay (goods_all g), Bool.true_and]
  have := goods_depth g
  refine decide_eq_true ?_
  rw [PyData.depth]
  omega
theorem RsOk.dp {v : V} {r : Rs} {d : PyData} (q : BagIn b Hb) (q0 : BagIn b H0) (h : RsOk K b Hb H0 H1 v r) (e : dpOf r = some d) (g : GoodR r) : Dp K H1 v d ∧ SeqAt.shaped d = true := by
  have ls : ∀ xs, lsOf r = some xs → (∀ d ∈ xs, Good d) → Dp K H1 v (.list xs) ∧ SeqAt.shaped (.list xs) = true := fun xs e g => by
    obtain ⟨a, vs, e1, n, e2, t⟩ := h.ls q q0 e
    subst e1
    exact ⟨.lst e2 (t.dp (goods_all g)), shaped_goods g⟩
  cases r with
  | d x => cases e; exact ⟨Dt.dp h g.p, shaped_good g⟩
  | fr xs => cases e; exact ls xs rfl g
  | ow xs => cases e; exact ls xs rfl g
  | ls xs => cases e; exact ls xs rfl g
  | bag => cases e
end

section
variable {X : Cx} {b : Option Addr} {Hb : Hp} {Δ : List Sl} {e f g : Expr} {es : List Expr} {pos : Pos} {P P' : Rs → Prop} {K : PySem.W.Frag} {H H1 H2 H0 : Hp}
/-! ### == and != -/
theorem cmd_eqD {r s : Rs} {x y : PyData} (ex : dpOf r = some x) (ey : dpOf s = some y) (gr : GoodR r) (gs : GoodR s) : CmD X b Hb (rEqD X.K) r s (PyData.eqv x y) := fun H0 H v w bb f0 f1 rr ss Q q => by
  obtain ⟨a1, a2⟩ := rr.dp bb (f0.bagIn bb) ex gr
  obtain ⟨b1, b2⟩ := ss.dp bb (f0.bagIn bb) ey gs
  exact ⟨x, y, a1, b1, a2, b2, q _ H _ rfl .refl (.bl _)⟩
theorem cmd_neD {r s : Rs} {x y : PyData} (ex : dpOf r = some x) (ey : dpOf s = some y) (gr : GoodR r) (gs : GoodR s) : CmD X b Hb (rNeD X.K) r s (!PyData.eqv x y) := fun H0 H v w bb f0 f1 rr ss Q q => by
  obtain ⟨a1, a2⟩ := rr.dp bb (f0.bagIn bb) ex gr
  obtain ⟨b1, b2⟩ := ss.dp bb (f0.bagIn bb) ey gs
  exact ⟨x, y, a1, b1, a2, b2, q _ H _ rfl .refl (.bl _)⟩
variable {α : Type} [DecidableEq α] {enc : α → PyData}
theorem td_eqA {x y : α} (hu : X.A.units + 65 < cLine) (he : EncOk enc) (ha : ED X b Hb Δ e (.d (enc x))) (hb : ED X b Hb Δ f (.d (enc y))) : TD X b Hb Δ (.Compare e [.Eq] [f] pos) (decide (x = y)) :=
  TD.cast (td_cmp2 (op_eqD (by omega)) (cmd_eqD (r := .d (enc x)) (s := .d (enc y)) rfl rfl (he.good x) (he.good y)) ha hb (nobehind _ (by decide) (by decide))) (he.eqv x y)
theorem td_neA {x y : α} (hu : X.A.units + 65 < cLine) (he : EncOk enc) (ha : ED X b Hb Δ e (.d (enc x))) (hb : ED X b Hb Δ f (.d (enc y))) : TD X b Hb Δ (.Compare e [.NotEq] [f] pos) (!decide (x = y)) :=
  TD.cast (td_cmp2 (op_neD (by omega)) (cmd_neD (r := .d (enc x)) (s := .d (enc y)) rfl rfl (he.good x) (he.good y)) ha hb (nobehind _ (by decide) (by decide))) (by rw [he.eqv])
theorem ed_eqA {x y : α} (hu : X.A.units + 65 < cLine) (he : EncOk enc) (ha : ED X b Hb Δ e (.d (enc x))) (hb : ED X b Hb Δ f (.d (enc y))) : ED X b Hb Δ (.Compare e [.Eq] [f] pos) (.d (.bool (decide (x = y)))) := by
  rw [← he.eqv x y]
  exact ed_cmp2 (op_eqD (by omega)) (cmd_eqD (r := .d (enc x)) (s := .d (enc y)) rfl rfl (he.good x) (he.good y)) ha hb (nobehind _ (by decide) (by decide))
theorem td_eqD {r s : Rs} {x y : PyData} (hu : X.A.units + 65 < cLine) (ha : ED X b Hb Δ e r) (hb : ED X b Hb Δ f s) (gr : GoodR r) (gs : GoodR s) (ex : dpOf r = some x := by rfl) (ey : dpOf s = some y := by rfl) : TD X b Hb Δ (.Compare e [.Eq] [f] pos) (PyData.eqv x y) :=
  td_cmp2 (op_eqD (by omega)) (cmd_eqD ex ey gr gs) ha hb (nobehind _ (by decide) (by decide))
theorem td_neD {r s : Rs} {x y : PyData} (hu : X.A.units + 65 < cLine) (ha : ED X b Hb Δ e r) (hb : ED X b Hb Δ f s) (gr : GoodR r) (gs : GoodR s) (ex : dpOf r = some x := by rfl) (ey : dpOf s = some y := by rfl) : TD X b Hb Δ (.Compare e [.NotEq] [f] pos) (!PyData.eqv x y) :=
  td_cmp2 (op_neD (by omega)) (cmd_neD ex ey gr gs) ha hb (nobehind _ (by decide) (by decide))
theorem tx_neD {Pa : Rs → Prop} {Pt : Bool → Prop} {s : Rs} {y : PyData} (hu : X.A.units + 65 < cLine) (ha : EX X b Hb Δ e Pa) (hb : ED X b Hb Δ f s) (gs : GoodR s) (k : ∀ r, Pa r → GoodR r ∧ ∃ x, dpOf r = some x ∧ Pt (!PyData.eqv x y)) (ey : dpOf s = some y := by rfl) : TX X b Hb Δ (.Compare e [.NotEq] [f] pos) Pt :=
  pt_imp (pt_cmpR (op_neD (by omega)) ha hb (nobehind _ (by decide) (by decide))) fun σ H Q q => ⟨q.1, fun x H1 r p1 f1 k1 => ⟨q.1.step f1, fun y' H2 s' p2 f2 k2 => by
    subst p2
    obtain ⟨gr, x', ex, pt⟩ := k r p1
    obtain ⟨a1, a2⟩ := (k1.step q.1.bag (q.1.fr.trans f1) f2 q.1.bagH).dp q.1.bag q.1.bagH ex gr
    obtain ⟨b1, b2⟩ := k2.dp q.1.bag (q.1.step f1).bagH ey gs
    exact ⟨x', y, a1, b1, a2, b2, _, rfl, q.2 _ H2 pt (f1.trans f2)⟩⟩⟩
theorem ed_eqI {i j : Int} (ha : ED X b Hb Δ e (.d (.int i))) (hb : ED X b Hb Δ f (.d (.int j))) : ED X b Hb Δ (.Compare e [.Eq] [f] pos) (.d (.bool (decide (i = j)))) := by
  have z := ed_cmp2 (pos := pos) op_eq (cmd_eq (d := .int i) (d' := .int j) rfl rfl rfl) ha hb (nobehind _ (by decide) (by decide))
  have q : decide (V.int i = V.int j) = decide (i = j) := by simp
  rw [q] at z
  exact z
theorem ed_eqS {x y : Str} (ha : ED X b Hb Δ e (.d (.str x))) (hb : ED X b Hb Δ f (.d (.str y))) : ED X b Hb Δ (.Compare e [.Eq] [f] pos) (.d (.bool (decide (x = y)))) := by
  have z := ed_cmp2 (pos := pos) op_eq (cmd_eq (d := .str x) (d' := .str y) rfl rfl rfl) ha hb (nobehind _ (by decide) (by decide))
  have q : decide (V.str x = V.str y) = decide (x = y) := by simp
  rw [q] at z
  exact z
theorem ed_lt {i j : Int} (ha : ED X b Hb Δ e (.d (.int i))) (hb : ED X b Hb Δ f (.d (.int j))) : ED X b Hb Δ (.Compare e [.Lt] [f] pos) (.d (.bool (decide (i < j)))) := ed_cmp2 op_lt cmd_I0 ha hb (nobehind _ (by decide) (by decide))
theorem ed_ge {i j : Int} (ha : ED X b Hb Δ e (.d (.int i))) (hb : ED X b Hb Δ f (.d (.int j))) : ED X b Hb Δ (.Compare e [.GtE] [f] pos) (.d (.bool (decide (j ≤ i)))) := ed_cmp2 op_ge cmd_I0 ha hb (nobehind _ (by decide) (by decide))
/-! ### and, or as values -/
theorem ed_one {op : BoolOp} {r : Rs} (ha : ED X b Hb Δ e r) : ED X b Hb Δ (.BoolOp op [e] pos) r := pe_one ha
theorem ed_and {c d : Bool} {rest : List Expr} (ha : ED X b Hb Δ e (.d (.bool c))) (hb : c = true → ED X b Hb Δ (.BoolOp .And (f :: rest) pos) (.d (.bool d))) : ED X b Hb Δ (.BoolOp .And (e :: f :: rest) pos) (.d (.bool (c && d))) := by
  cases c with
  | true =>
    exact pe_imp (pe_and ha (hb rfl)) fun σ H Q q => ⟨q.1, fun v H1 r p1 f1 k1 => by
      subst p1
      cases k1
      exact ⟨true, rfl, ⟨q.1.step f1, fun v2 H2 r2 p2 f2 k2 => q.2 v2 H2 r2 (by rw [p2]; rfl) (f1.trans f2) (k2.back f1 q.1.bagH)⟩⟩⟩
  | false =>
    exact pe_imp (pe_and ha (tb := fun _ _ _ => False) ⟨fun _ _ _ _ _ _ z => z.elim⟩) fun σ H Q q => ⟨q.1, fun v H1 r p1 f1 k1 => by
      subst p1
      cases k1
      exact ⟨false, rfl, q.2 _ H1 _ rfl f1 (.bl _)⟩⟩
theorem ed_or {c d : Bool} {rest : List Expr} (ha : ED X b Hb Δ e (.d (.bool c))) (hb : c = false → ED X b Hb Δ (.BoolOp .Or (f :: rest) pos) (.d (.bool d))) : ED X b Hb Δ (.BoolOp .Or (e :: f :: rest) pos) (.d (.bool (c || d))) := by
  cases c with
  | false =>
    exact pe_imp (pe_or ha (hb rfl)) fun σ H Q q => ⟨q.1, fun v H1 r p1 f1 k1 => by
      subst p1
      cases k1
      exact ⟨false, rfl, ⟨q.1.step f1, fun v2 H2 r2 p2 f2 k2 => q.2 v2 H2 r2 (by rw [p2]; rfl) (f1.trans f2) (k2.back f1 q.1.bagH)⟩⟩⟩
  | true =>
    exact pe_imp (pe_or ha (tb := fun _ _ _ => False) ⟨fun _ _ _ _ _ _ z => z.elim⟩) fun σ H Q q => ⟨q.1, fun v H1 r p1 f1 k1 => by
      subst p1
      cases k1
      exact ⟨true, rfl, q.2 _ H1 _ rfl f1 (.bl _)⟩⟩
theorem ed_neg {i : Int} (ha : ED X b Hb Δ e (.d (.int i))) : ED X b Hb Δ (.UnaryOp .USub e pos) (.d (.int (-i))) := pe_imp (pe_un un_neg ha) fun σ H Q q => ⟨q.1, fun v H1 r p1 f1 k1 => by
  subst p1
  cases k1
  exact ⟨i, rfl, q.2 _ H1 _ rfl f1 (.int _)⟩⟩
/-! ### in -/
theorem cmd_inL {s : Rs} {x : PyData} {ys : List PyData} (hl : lsOf s = some ys) (gx : Good x) (gs : ∀ d ∈ ys, Good d) : CmD X b Hb (rInD X.K) (.d x) s (ys.any fun z => PyData.eqv z x) := fun H0 H v w bb f0 f1 rr ss Q q => by
  obtain ⟨a1, a2⟩ := rr.dp bb (f0.bagIn bb) rfl gx
  obtain ⟨b1, b2⟩ := ss.dp bb (f0.bagIn bb) (dpOf_ls hl) (good_ls hl gs)
  exact ⟨x, ys, a1, b1, a2, b2, q _ H _ rfl .refl (.bl _)⟩
theorem cmd_ninL {s : Rs} {x : PyData} {ys : List PyData} (hl : lsOf s = some ys) (gx : Good x) (gs : ∀ d ∈ ys, Good d) : CmD X b Hb (rNotInD X.K) (.d x) s (!ys.any fun z => PyData.eqv z x) := fun H0 H v w bb f0 f1 rr ss Q q => by
  obtain ⟨a1, a2⟩ := rr.dp bb (f0.bagIn bb) rfl gx
  obtain ⟨b1, b2⟩ := ss.dp bb (f0.bagIn bb) (dpOf_ls hl) (good_ls hl gs)
  exact ⟨x, ys, a1, b1, a2, b2, q _ H _ rfl .refl (.bl _)⟩
/-- the same for a tuple -/
def rInT (K : PySem.W.Frag) : R2 := fun x y H Q => ∃ d ds, Dp K H x d ∧ Dp K H y (.tuple ds) ∧ SeqAt.shaped d = true ∧ SeqAt.shaped (.tuple ds) = true ∧ Q (.bl (ds.any fun z => PyData.eqv z d)) H
def rNotInT (K : PySem.W.Frag) : R2 := fun x y H Q => ∃ d ds, Dp K H x d ∧ Dp K H y (.tuple ds) ∧ SeqAt.shaped d = true ∧ SeqAt.shaped (.tuple ds) = true ∧ Q (.bl (!ds.any fun z => PyData.eqv z d)) H
theorem op_inT (hu : X.A.units + 65 < cLine) : OpR X (compareOp .In) (rInT X.K) := fun pins s σ H x y v u Q I rx ry ⟨d, ds, hd, he, sd, se, q⟩ => by
  obtain ⟨as, r1⟩ := Dp.reads I d x v hd rx
  obtain ⟨bs, r2⟩ := Dp.reads I (.tuple ds) y u he ry
  exact SeqAt.in_tuple_reads r2 r1 (SeqAt.canLay_of_shaped se) (SeqAt.canLay_of_shaped sd) (room_in_shaped sd hu) ⟨.bl _, H, I, rfl, q⟩
theorem op_ninT (hu : X.A.units + 65 < cLine) : OpR X (compareOp .NotIn) (rNotInT X.K) := fun pins s σ H x y v u Q I rx ry ⟨d, ds, hd, he, sd, se, q⟩ => by
  obtain ⟨as, r1⟩ := Dp.reads I d x v hd rx
  obtain ⟨bs, r2⟩ := Dp.reads I (.tuple ds) y u he ry
  exact SeqAt.notIn_tuple_reads r2 r1 (SeqAt.canLay_of_shaped se) (SeqAt.canLay_of_shaped sd) (room_in_shaped sd hu) ⟨.bl _, H, I, rfl, q⟩
theorem dp_tup {v : V} {ys : List PyData} (h : Dt H v (.tuple ys)) (g : ∀ d ∈ ys, Good d) : Dp K H v (.tuple ys) := Dt.dp h (by rw [pln]; exact goods_all g)
theorem cmd_inT {x : PyData} {ys : List PyData} (gx : Good x) (gs : ∀ d ∈ ys, Good d) : CmD X b Hb (rInT X.K) (.d x) (.d (.tuple ys)) (ys.any fun z => PyData.eqv z x) := fun H0 H v w bb f0 f1 rr ss Q q => by
  obtain ⟨a1, a2⟩ := rr.dp bb (f0.bagIn bb) rfl gx
  exact ⟨x, ys, a1, dp_tup ss gs, a2, shaped_tup gs, q _ H _ rfl .refl (.bl _)⟩
theorem cmd_ninT {x : PyData} {ys : List PyData} (gx : Good x) (gs : ∀ d ∈ ys, Good d) : CmD X b Hb (rNotInT X.K) (.d x) (.d (.tuple ys)) (!ys.any fun z => PyData.eqv z x) := fun H0 H v w bb f0 f1 rr ss Q q => by
  obtain ⟨a1, a2⟩ := rr.dp bb (f0.bagIn bb) rfl gx
  exact ⟨x, ys, a1, dp_tup ss gs, a2, shaped_tup gs, q _ H _ rfl .refl (.bl _)⟩
/-- x is one of them -/
def memA {α : Type} [DecidableEq α] (x : α) (ys : List α) : Bool := decide (x ∈ ys)
theorem memA_iff {α : Type} [DecidableEq α] {x : α} {ys : List α} : memA x ys = true ↔ x ∈ ys := decide_eq_true_iff
theorem memA_not {α : Type} [DecidableEq α] {x : α} {ys : List α} : memA x ys = false ↔ x ∉ ys := decide_eq_false_iff_not
theorem any_enc (he : EncOk enc) (x : α) (ys : List α) : (ys.map enc).any (fun z => PyData.eqv z (enc x)) = memA x ys := by
  unfold memA
  induction ys with
  | nil => simp
  | cons y ys ih =>
    rw [List.map_cons, List.any_cons, ih, he.eqv]
    by_cases h : y = x
    · simp [h]
    · simp [h, Ne.symm h]
theorem td_inL {s : Rs} {x : α} {ys : List α} (hu : X.A.units + 65 < cLine) (he : EncOk enc) (ha : ED X b Hb Δ e (.d (enc x))) (hb : ED X b Hb Δ f s) (hl : lsOf s = some (ys.map enc) := by rfl) (hm : behindInMarks .In f = false := by first | exact nomark _ | rfl) : TD X b Hb Δ (.Compare e [.In] [f] pos) (memA x ys) :=
  TD.cast (td_cmp2 (op_inD hu) (cmd_inL hl (he.good x) (he.goods ys)) ha hb hm) (any_enc he x ys)
theorem td_ninL {s : Rs} {x : α} {ys : List α} (hu : X.A.units + 65 < cLine) (he : EncOk enc) (ha : ED X b Hb Δ e (.d (enc x))) (hb : ED X b Hb Δ f s) (hl : lsOf s = some (ys.map enc) := by rfl) (hm : behindInMarks .NotIn f = false := by first | exact nomark _ | rfl) : TD X b Hb Δ (.Compare e [.NotIn] [f] pos) (!memA x ys) :=
  TD.cast (td_cmp2 (op_notInD hu) (cmd_ninL hl (he.good x) (he.goods ys)) ha hb hm) (by rw [any_enc he])
theorem td_inT {x : α} {ys : List α} (hu : X.A.units + 65 < cLine) (he : EncOk enc) (ha : ED X b Hb Δ e (.d (enc x))) (hb : ED X b Hb Δ f (.d (.tuple (ys.map enc)))) (hm : behindInMarks .In f = false := by first | exact nomark _ | rfl) : TD X b Hb Δ (.Compare e [.In] [f] pos) (memA x ys) :=
  TD.cast (td_cmp2 (op_inT hu) (cmd_inT (he.good x) (he.goods ys)) ha hb hm) (any_enc he x ys)
theorem td_ninT {x : α} {ys : List α} (hu : X.A.units + 65 < cLine) (he : EncOk enc) (ha : ED X b Hb Δ e (.d (enc x))) (hb : ED X b Hb Δ f (.d (.tuple (ys.map enc)))) (hm : behindInMarks .NotIn f = false := by first | exact nomark _ | rfl) : TD X b Hb Δ (.Compare e [.NotIn] [f] pos) (!memA x ys) :=
  TD.cast (td_cmp2 (op_ninT hu) (cmd_ninT (he.good x) (he.goods ys)) ha hb hm) (by rw [any_enc he])
end
end K47
set_option Elab.async false
set_option linter.all false
set_option maxRecDepth 100000
set_option maxHeartbeats 2000000
namespace K47
open PySem PySem.Spec PyProof.Rows L2

section
variable {X : Cx} {b : Option Addr} {Hb : Hp} {Δ : List Sl} {e f g : Expr} {es : List Expr} {pos : Pos} {P P' : Rs → Prop} {K : PySem.W.Frag} {H H1 H2 H0 : Hp}
variable {α : Type} [DecidableEq α] {enc : α → PyData}

/-! ### what the tuples are, in the machine -/
theorem tupN_raw {pins : List (Addr × Obj)} {σ : L2.St} {s : Shared} {a : Addr} {vs : List V} (I : Inv X pins σ H s) (h : TupN H a vs) : ∃ o : Obj, s.heap.get? a = some o ∧ o.cls = .type "tuple" ∧ o.dict = none := by
  obtain ⟨o, e, hd⟩ := h
  have z := I.hok a _ e
  obtain ⟨e1, _, _, _, o', e2, hc, _⟩ := z
  rw [e1] at e2
  have q := Option.some.inj e2
  subst q
  exact ⟨o, e1, hc, hd⟩
def tyTup (x : V) (H : Hp) : Prop := ∃ a vs, x = .ref a ∧ TupN H a vs
theorem ty_tup : TyOk X "tuple" tyTup := fun pins σ H s x v I r ⟨a, vs, ex, t⟩ => by
  subst ex
  cases r
  obtain ⟨o, h1, h2, h3⟩ := tupN_raw I t
  exact ⟨⟨o, h1, h2⟩, fun c ec => by cases ec; exact ⟨o, h1, h3⟩⟩

/-! ### index -/
/-- the first place -/
def ixA {α : Type} [DecidableEq α] (k : α) (ks : List α) : Nat := ks.idxOf k
theorem ixA_lt {α : Type} [DecidableEq α] {k : α} {ks : List α} (h : k ∈ ks) : ixA k ks < ks.length := List.idxOf_lt_length_iff.mpr h
theorem ixA_at {α : Type} [DecidableEq α] {k : α} {ks : List α} (h : k ∈ ks) : ks[ixA k ks]? = some k := by
  have z := ixA_lt h
  rw [List.getElem?_eq_getElem z]
  exact congrArg some (List.getElem_idxOf z)
/-- the first place of an equal one -/
def rIxOf (K : PySem.W.Frag) (enc : α → PyData) : V → List V → Hp → VK → Prop := fun x xs H Q => ∃ (y : V) (k : α) (ks : List α), xs = [y] ∧ Dp K H x (.tuple (ks.map enc)) ∧ Dp K H y (enc k) ∧ k ∈ ks ∧ Q (.int (ks.idxOf k : Nat)) H
theorem items_eq {s : Shared} {A : Around} (he : EncOk enc) {ks : List α} {k : α} {vs : List Value} {u : Value} {as bs : List Addr} (hu : A.units + 64 < cLine) (r1 : ReadsAll s.heap vs (ks.map enc) as) (r2 : Reads s.heap u (enc k) bs) : SeqAt.ItemsEq A s vs ks u k := by
  induction ks generalizing vs as with
  | nil =>
    cases r1
    exact ⟨rfl, fun j h => absurd h (Nat.not_lt_zero _)⟩
  | cons k' ks ih =>
    cases r1 with
    | cons q t =>
      obtain ⟨h1, h2⟩ := ih t
      refine ⟨by rw [List.length_cons, List.length_cons, h1], fun j j1 j2 => ?_⟩
      cases j with
      | zero =>
        have z := SeqAt.eqAt_reads (enc k') (enc k) A s _ u _ _ q r2 (pln_lay (he.good k').p) (pln_lay (he.good k).p) (by have := (he.good k').dp; omega)
        show SeqAt.EqAt A s _ u (decide (k' = k))
        rw [← he.eqv]
        exact z
      | succ j => exact h2 j (Nat.lt_of_succ_lt_succ j1) (Nat.lt_of_succ_lt_succ j2)
theorem mt_ixOf (he : EncOk enc) (hu : X.A.units + 65 < cLine) : MtR X "tuple.index" (rIxOf X.K enc) := by
  intro pins s σ H x xs v us Q I rx rxs ⟨y, k, ks, ex, d1, d2, hk, q⟩
  subst ex
  cases rxs with
  | cons ry rt =>
    cases rt
    obtain ⟨bs, r2⟩ := Dp.reads I _ _ _ d2 ry
    obtain ⟨as, r1⟩ := Dp.reads I _ _ _ d1 rx
    cases r1 with
    | @tuple l o vs n _ _ h1 h2 h3 h4 =>
      refine SeqAt.call_tuple_index (vs := vs.toList) (ks := ks) (k := k) ⟨_, h1, h2, n, ?_⟩ (items_eq (A := X.A.in1) he (by show X.A.units + 1 + 64 < cLine; omega) h4 r2) hk ⟨.int (ks.idxOf k : Nat), H, I.tok _, ⟨_, rfl⟩, q⟩
      rw [h3]
theorem ed_ixOfT {k : α} {ks : List α} {apos : Pos} (hu : X.A.units + 65 < cLine) (he : EncOk enc) (ha : ED X b Hb Δ e (.d (.tuple (ks.map enc)))) (hb : ED X b Hb Δ f (.d (enc k))) (hk : k ∈ ks)
    (hbase : attributeBase e "index" X.env (eval e X.env) = eval e X.env := by rfl)
    (hfew : ((backTo pos (starEach [f] X.env)).all (fun x => !x.1) && (backToKw pos (keywordEach [] X.env)).all (fun x => x.1.isSome)
      && decide ([f].length + ([] : List Keyword).length + (if ([] : List Keyword).isEmpty then 0 else 1) < 30)) = true := by rfl)
    (hline : (apos.endLine == pos.line) = true := by rfl) (hs : starEach [f] X.env = (false, eval f X.env) :: starEach [] X.env := by rfl) : ED X b Hb Δ (.Call (.Attribute e "index" apos) [f] [] pos) (.d (.int (ixA k ks : Nat))) :=
  pe_imp (pe_mG ty_tup PySem.F.plainAttrs_tuple PySem.F.slot_tuple_index PySem.F.type_tuple_index (mt_ixOf he hu) ha (pa_cons hb pa_nil hs) hbase hfew hline hs) fun σ H Q q => ⟨q.1, fun v H1 r p1 f1 k1 => by
    subst p1
    cases k1 with
    | tup e1 t1 =>
      refine ⟨⟨_, _, rfl, e1⟩, q.1.step f1, fun w H2 r2 p2 f2 k2 => ?_⟩
      subst p2
      have kt := f2.kt (q.1.step f1).bagH
      exact ⟨w, k, ks, rfl, dp_tup (.tup (e1.keep kt) (t1.keep kt)) (he.goods ks), Dt.dp k2 (he.good k).p, hk, q.2 _ H2 _ rfl (f1.trans f2) (.int _)⟩⟩
theorem ed_ixOfL {r : Rs} {k : α} {ks : List α} {apos : Pos} (hu : X.A.units + 65 < cLine) (he : EncOk enc) (ha : ED X b Hb Δ e r) (hb : ED X b Hb Δ f (.d (enc k))) (hk : k ∈ ks) (hl : lsOf r = some (ks.map enc) := by rfl)
    (hbase : attributeBase e "index" X.env (eval e X.env) = eval e X.env := by rfl)
    (hfew : ((backTo pos (starEach [f] X.env)).all (fun x => !x.1) && (backToKw pos (keywordEach [] X.env)).all (fun x => x.1.isSome)
      && decide ([f].length + ([] : List Keyword).length + (if ([] : List Keyword).isEmpty then 0 else 1) < 30)) = true := by rfl)
    (hline : (apos.endLine == pos.line) = true := by rfl) (hs : starEach [f] X.env = (false, eval f X.env) :: starEach [] X.env := by rfl) : ED X b Hb Δ (.Call (.Attribute e "index" apos) [f] [] pos) (.d (.int (ixA k ks : Nat))) :=
  pe_imp (pe_bm PySem.F.plainAttrs_list PySem.F.slot_list_index PySem.F.type_list_index (mt_indexD hu) ha (pa_cons hb pa_nil hs) hbase hfew hline hs) fun σ H Q q => ⟨q.1, fun v H1 r p1 f1 k1 => by
    subst p1
    obtain ⟨a, vs, ev, na, e2, t2⟩ := k1.ls q.1.bag q.1.bagH hl
    subst ev
    refine ⟨.inl ⟨rfl, vs, e2⟩, q.1.step f1, fun w H2 r2 p2 f2 k2 => ?_⟩
    subst p2
    have t3 := t2.keep (f2.kt (q.1.step f1).bagH)
    have hj := List.idxOf_lt_length_iff.mpr hk
    refine ⟨a, w, enc k, ks.map enc, ks.idxOf k, enc k, rfl, rfl, .lst (sql_fr f2 na e2) (t3.dp (goods_all (he.goods ks))), Dt.dp k2 (he.good k).p, shaped_goods (he.goods ks), shaped_good (he.good k), ?_, eqv_self (he.good k).p, fun m z hm hz => ?_, q.2 _ H2 _ rfl (f1.trans f2) (.int _)⟩
    · rw [List.getElem?_map, List.getElem?_eq_getElem hj, List.getElem_idxOf hj]; rfl
    · have hm2 : m < ks.length := by omega
      rw [List.getElem?_map, List.getElem?_eq_getElem hm2] at hz
      have ez : enc ks[m] = z := Option.some.inj hz
      rw [← ez, he.eqv]
      exact decide_eq_false (SeqAt.lt_idxOf_ne hm hm2)⟩

/-! ### len -/
theorem ed_lenL {r : Rs} {xs : List PyData} {p : Pos} (hm : X.mg "len" = none) (ha : ED X b Hb Δ e r) (hl : lsOf r = some xs := by rfl) (hg : Gl X "len" := by rfl) (hst : starEach [e] X.env = (false, eval e X.env) :: starEach [] X.env := by rfl) : ED X b Hb Δ (.Call (.Name "len" p) [e] [] pos) (.d (.int xs.length)) :=
  ex_callB call_len_seq hg hm boot_len (ad_cons ha ad_nil hst) (fun rs er H0 H vs bb f0 f1 k Q q => by
    subst er
    cases k with
    | cons h t _ =>
      cases t
      obtain ⟨a, us, ev, na, e2, t2⟩ := h.ls bb (f0.bagIn bb) hl
      subst ev
      exact ⟨a, us, rfl, .inl e2, by rw [t2.len]; exact q _ H _ rfl .refl (.int _)⟩) (by decide) (by decide) hst
theorem ed_lenT {xs : List PyData} {p : Pos} (hm : X.mg "len" = none) (ha : ED X b Hb Δ e (.d (.tuple xs))) (hg : Gl X "len" := by rfl) (hst : starEach [e] X.env = (false, eval e X.env) :: starEach [] X.env := by rfl) : ED X b Hb Δ (.Call (.Name "len" p) [e] [] pos) (.d (.int xs.length)) :=
  ex_callB call_len_seq hg hm boot_len (ad_cons ha ad_nil hst) (fun rs er H0 H vs bb f0 f1 k Q q => by
    subst er
    cases k with
    | cons h t _ =>
      cases t
      cases h with
      | tup e1 t1 => exact ⟨_, _, rfl, .inr e1.sq, by rw [t1.len]; exact q _ H _ rfl .refl (.int _)⟩) (by decide) (by decide) hst
theorem ed_lenS {z : Str} {p : Pos} (hm : X.mg "len" = none) (ha : ED X b Hb Δ e (.d (.str z))) (hz : z.length ≤ sizeLine) (hg : Gl X "len" := by rfl) (hst : starEach [e] X.env = (false, eval e X.env) :: starEach [] X.env := by rfl) : ED X b Hb Δ (.Call (.Name "len" p) [e] [] pos) (.d (.int z.length)) :=
  ex_callB call_len_str hg hm boot_len (ad_cons ha ad_nil hst) (fun rs er H0 H vs bb f0 f1 k Q q => by
    subst er
    cases k with
    | cons h t _ =>
      cases t
      cases h
      exact ⟨z, rfl, hz, q _ H _ rfl .refl (.int _)⟩) (by decide) (by decide) hst

/-! ### tuple(..), list(..) -/
theorem call_tupleN : CallR X (.type "tuple") (fun xs H Q => ∃ p ys, xs = [.ref p] ∧ SqL X.K H p ys ∧ ∀ l o, H l = none → o.dict = none → Q (.ref l) (upd H l (.frz o (.tup ys)))) := by
  intro pins s σ H xs us Q I r ⟨p, ys, ex, hq, q⟩
  subst ex
  rw [Vals.ref1 r]
  obtain ⟨its, rv, pl, hz⟩ := I.list hq
  have hlen := rv.length
  refine call_tuple_list pl.isList (fun h' kp => ?_) (by rw [List.size_toArray, ← hlen]; exact hz)
  have I1 : Inv X pins σ H { s with heap := h' } := I.kept (t' := s.toks) kp
  have new := Heap.get?_push_size h' (o := { cls := .type "tuple", data := .seq its.toArray }) rfl
  exact ⟨.ref h'.objs.size, _, I1.laid (t' := s.toks) (o := .frz _ (.tup ys)) (fun c ob z => Heap.get?_push_of_some _ z) (Nat.le_refl _) ⟨new, hz, its, rv, ⟨_, new, rfl, _, rfl⟩⟩, rfl, q _ _ (I1.hok.fresh (Nat.le_refl _)) rfl⟩
theorem ex_tupleL {Pa : Rs → Prop} {p : Pos} (hm : X.mg "tuple" = none) (ha : EX X b Hb Δ e Pa) (k : ∀ r, Pa r → ∃ xs, lsOf r = some xs ∧ P (.d (.tuple xs))) (hg : Gl X "tuple" := by rfl) (hst : starEach [e] X.env = (false, eval e X.env) :: starEach [] X.env := by rfl) : EX X b Hb Δ (.Call (.Name "tuple" p) [e] [] pos) P :=
  ex_callTy (Pa := fun rs => ∃ r, rs = [r] ∧ Pa r) call_tupleN hg hm boot_tuple (ax_cons ha ad_nil (fun r rs h1 h2 => ⟨r, by rw [h2], h1⟩) hst) (fun rs ⟨r, er, pr⟩ H0 H vs bb f0 f1 kk Q q => by
    subst er
    obtain ⟨xs, hl, px⟩ := k r pr
    cases kk with
    | cons h t _ =>
      cases t
      obtain ⟨a, us, ev, na, e2, t2⟩ := h.ls bb (f0.bagIn bb) hl
      subst ev
      exact ⟨a, us, rfl, e2, fun l o hn ho => q _ _ _ px (.new hn) (.tup ⟨o, upd_same, ho⟩ (t2.keep (KT.new hn)))⟩) (by decide) (by decide) hst
theorem ed_tupleL {r : Rs} {xs : List PyData} {p : Pos} (hm : X.mg "tuple" = none) (ha : ED X b Hb Δ e r) (hl : lsOf r = some xs := by rfl) (hg : Gl X "tuple" := by rfl) (hst : starEach [e] X.env = (false, eval e X.env) :: starEach [] X.env := by rfl) : ED X b Hb Δ (.Call (.Name "tuple" p) [e] [] pos) (.d (.tuple xs)) :=
  ex_tupleL hm ha (fun r' er => ⟨xs, by rw [er]; exact hl, rfl⟩) hg hst
theorem ed_listL {r : Rs} {xs : List PyData} {p : Pos} (hm : X.mg "list" = none) (ha : ED X b Hb Δ e r) (hl : lsOf r = some xs := by rfl) (hg : Gl X "list" := by rfl) (hst : starEach [e] X.env = (false, eval e X.env) :: starEach [] X.env := by rfl) : ED X b Hb Δ (.Call (.Name "list" p) [e] [] pos) (.fr xs) :=
  ex_callTy call_list_of hg hm boot_list (ad_cons ha ad_nil hst) (fun rs er H0 H vs bb f0 f1 kk Q q => by
    subst er
    cases kk with
    | cons h t _ =>
      cases t
      obtain ⟨a, us, ev, na, e2, t2⟩ := h.ls bb (f0.bagIn bb) hl
      subst ev
      exact ⟨a, us, rfl, .inl e2, fun l hn => q _ _ _ rfl (.new hn) ⟨l, us, rfl, hn, upd_same, t2.keep (KT.new hn)⟩⟩) (by decide) (by decide) hst
theorem ed_listT {xs : List PyData} {p : Pos} (hm : X.mg "list" = none) (ha : ED X b Hb Δ e (.d (.tuple xs))) (hg : Gl X "list" := by rfl) (hst : starEach [e] X.env = (false, eval e X.env) :: starEach [] X.env := by rfl) : ED X b Hb Δ (.Call (.Name "list" p) [e] [] pos) (.fr xs) :=
  ex_callTy call_list_of hg hm boot_list (ad_cons ha ad_nil hst) (fun rs er H0 H vs bb f0 f1 kk Q q => by
    subst er
    cases kk with
    | cons h t _ =>
      cases t
      cases h with
      | tup e1 t1 => exact ⟨_, _, rfl, .inr e1.sq, fun l hn => q _ _ _ rfl (.new hn) ⟨l, _, rfl, hn, upd_same, t1.keep (KT.new hn)⟩⟩) (by decide) (by decide) hst
/-- range(n) as an argument -/
theorem dts_rgV (n : Nat) : Dts H (rgV 0 (n : Nat)) ((List.range n).map fun i => PyData.int (i : Nat)) := by
  have e1 : rgV 0 (n : Nat) = (List.range n).map fun i => V.int (i : Nat) := by
    unfold rgV
    rw [Int.sub_zero, Int.toNat_natCast]
    congr 1
    funext i
    rw [Int.zero_add]
  rw [e1]
  induction List.range n with
  | nil => exact .nil
  | cons i l ih => exact .cons (.int _) ih
theorem ed_listRg {n : Nat} {p p2 pos2 : Pos} (hm : X.mg "list" = none) (hm2 : X.mg "range" = none) (ha : ED X b Hb Δ e (.d (.int (n : Nat)))) (hn : n ≤ 1000) (hc : X.calm = true := by rfl) (hg : Gl X "list" := by rfl) (hg2 : Gl X "range" := by rfl) (hs1 : starEach [e] X.env = (false, eval e X.env) :: starEach [] X.env := by rfl)
    (hs2 : starEach [.Call (.Name "range" p2) [e] [] pos2] X.env = (false, eval (.Call (.Name "range" p2) [e] [] pos2) X.env) :: starEach [] X.env := by rfl) : ED X b Hb Δ (.Call (.Name "list" p) [.Call (.Name "range" p2) [e] [] pos2] [] pos) (.fr ((List.range n).map fun i => PyData.int (i : Nat))) :=
  pe_imp (pe_listRg hc hg hm (prg_1 hg2 hm2 ha hs1) hs2) fun σ H Q q => ⟨q.1, fun v H1 r p1 f1 k1 => by
    subst p1
    cases k1
    exact ⟨_, rfl, .of_le (by omega) (by omega) (by omega) (by omega), fun l hl => q.2 _ _ _ rfl (f1.trans (.new hl)) ⟨l, _, rfl, f1.free q.1.bagH hl, upd_same, dts_rgV n⟩⟩⟩
/-- tuple(range(n)), the object known -/
theorem pe_tupRgN {te : L2.St → Hp → (Int → Int → Hp → Prop) → Prop} {p : Pos} (hc : X.calm = true) (hg : Gl X "tuple") (hm : X.mg "tuple" = none) (he : PRg X e te) (na : starEach [e] X.env = (false, eval e X.env) :: starEach [] X.env := by rfl) :
    PE X (.Call (.Name "tuple" p) [e] [] pos) (fun σ H Q => te σ H fun lo hi H1 => RgOk lo hi ∧ ∀ q o, H1 q = none → o.dict = none → Q (.ref q) (upd H1 q (.frz o (.tup (rgV lo hi))))) := by
  refine ⟨fun pins s σ H Q I h => Call_ (ld_blt I hg hm boot_tuple (PyProof.Rows.callWith_type1 (args_cons (thn (he pins s σ H _ I h) fun x s1 ⟨r, lo, hi, t, u, v, H1, ex, hr, I1, ok, q⟩ => args_nil ?_) na) na))⟩
  subst ex
  obtain ⟨b1, b2, b3, b4, b5⟩ := ok
  refine call_tuple_range (n := (hi - lo).toNat) (I1.ok.hd hc) hr (small_one b1 b2 b3 b4) (rangeSize_nat lo hi) b5 fun h' tk acc hk items => ?_
  have I2 : Inv X pins σ H1 { s1 with heap := h', toks := tk } := I1.kept hk
  have new := Heap.get?_push_size h' (o := { cls := .type "tuple", data := .seq acc }) rfl
  exact ⟨.ref h'.objs.size, _, I2.laid (t' := tk) (o := .frz _ (.tup (rgV lo hi))) (fun c ob z => Heap.get?_push_of_some _ z) (Nat.le_refl _) ⟨new, by rw [rgV_length, sizeLine_eq]; omega, acc.toList, vals_rg items, ⟨_, new, rfl, _, rfl⟩⟩, rfl, q _ _ (I2.hok.fresh (Nat.le_refl _)) rfl⟩
theorem ed_tupRg {n : Nat} {p p2 pos2 : Pos} (hm : X.mg "tuple" = none) (hm2 : X.mg "range" = none) (ha : ED X b Hb Δ e (.d (.int (n : Nat)))) (hn : n ≤ 1000) (hc : X.calm = true := by rfl) (hg : Gl X "tuple" := by rfl) (hg2 : Gl X "range" := by rfl) (hs1 : starEach [e] X.env = (false, eval e X.env) :: starEach [] X.env := by rfl)
    (hs2 : starEach [.Call (.Name "range" p2) [e] [] pos2] X.env = (false, eval (.Call (.Name "range" p2) [e] [] pos2) X.env) :: starEach [] X.env := by rfl) : ED X b Hb Δ (.Call (.Name "tuple" p) [.Call (.Name "range" p2) [e] [] pos2] [] pos) (.d (.tuple ((List.range n).map fun i => PyData.int (i : Nat)))) :=
  pe_imp (pe_tupRgN hc hg hm (prg_1 hg2 hm2 ha hs1) hs2) fun σ H Q q => ⟨q.1, fun v H1 r p1 f1 k1 => by
    subst p1
    cases k1
    exact ⟨_, rfl, .of_le (by omega) (by omega) (by omega) (by omega), fun l o hl ho => q.2 _ _ _ rfl (f1.trans (.new hl)) (.tup ⟨o, upd_same, ho⟩ (dts_rgV n))⟩⟩

/-! ### lists and tuples put together -/
def ownR : Rs → Option (List PyData)
  | .fr xs => some xs
  | .ow xs => some xs
  | _ => none
theorem RsOk.own {v : V} {r : Rs} {xs : List PyData} (q : BagIn b Hb) (q0 : BagIn b H0) (h : RsOk K b Hb H0 H1 v r) (e : ownR r = some xs) : ∃ a vs, v = .ref a ∧ some a ≠ b ∧ H1 a = some (.lst vs) ∧ Dts H1 vs xs := by
  cases r with
  | fr ys =>
    cases e
    obtain ⟨a, vs, e1, n, e2, t⟩ := h
    exact ⟨a, vs, e1, q0.ne_none n, e2, t⟩
  | ow ys =>
    cases e
    obtain ⟨a, vs, e1, n, e2, t⟩ := h
    exact ⟨a, vs, e1, q.ne_none n, e2, t⟩
  | _ => cases e
theorem ed_cat {r s : Rs} {xs ys : List PyData} (ha : ED X b Hb Δ e r) (hb : ED X b Hb Δ f s) (hz : xs.length + ys.length ≤ 100000) (h1 : ownR r = some xs := by rfl) (h2 : ownR s = some ys := by rfl) : ED X b Hb Δ (.BinOp e .Add f pos) (.fr (xs ++ ys)) :=
  ed_op2 op_cat (fun H0 H x y bb f0 f1 rr ss Q q => by
    obtain ⟨a, vs, e1, n1, e2, t1⟩ := rr.own bb (f0.bagIn bb) h1
    obtain ⟨c, ws, e3, n3, e4, t2⟩ := ss.own bb (f0.bagIn bb) h2
    subst e1 e3
    refine ⟨a, c, vs, ws, rfl, rfl, e2, e4, by rw [t1.len, t2.len, sizeLine_eq]; omega, fun p hp => q _ _ _ rfl (.new hp) ⟨p, _, rfl, hp, upd_same, (t1.app t2).keep (KT.new hp)⟩⟩) ha hb
/-- tuple + tuple, neither empty, the new object known -/
def rCatN : R2 := fun x y H Q => ∃ a c vs ws, x = .ref a ∧ y = .ref c ∧ TupN H a vs ∧ TupN H c ws ∧ vs ≠ [] ∧ ws ≠ [] ∧ vs.length + ws.length ≤ 100000 ∧ ∀ p o, H p = none → o.dict = none → Q (.ref p) (upd H p (.frz o (.tup (vs ++ ws))))
theorem op_catN : OpR X (binaryOp .Add) rCatN := fun pins s σ H x y v u Q I rx ry ⟨a, c, vs, ws, ex, ey, ta, tc, n1, n2, hz, q⟩ => by
  subst ex ey
  cases rx
  cases ry
  obtain ⟨i1, r1, h1, z1⟩ := I.tuple (TupN.sq (K := X.K) ta)
  obtain ⟨i2, r2, h2, z2⟩ := I.tuple (TupN.sq (K := X.K) tc)
  have l1 := r1.length
  have l2 := r2.length
  refine HT.cat_tup h1 h2 (fun z => n1 ?_) (fun z => absurd ?_ n2) (fun _ => ?_) (by rw [sizeLine_eq]; omega)
  · subst z; exact List.eq_nil_of_length_eq_zero l1
  · subst z; exact List.eq_nil_of_length_eq_zero l2
  have new := Heap.get?_push_size s.heap (o := { cls := .type "tuple", data := .seq (i1 ++ i2).toArray }) rfl
  exact ⟨.ref s.heap.objs.size, _, I.laid (t' := s.toks) (o := .frz _ (.tup (vs ++ ws))) (fun c ob z => Heap.get?_push_of_some _ z) (Nat.le_refl _) ⟨new, by rw [List.length_append, sizeLine_eq]; omega, i1 ++ i2, r1.append r2, ⟨_, new, rfl, _, rfl⟩⟩, rfl, q _ _ I.fresh rfl⟩
theorem ed_catT {xs ys : List PyData} (ha : ED X b Hb Δ e (.d (.tuple xs))) (hb : ED X b Hb Δ f (.d (.tuple ys))) (hz : xs.length + ys.length ≤ 100000) (n1 : xs ≠ []) (n2 : ys ≠ []) : ED X b Hb Δ (.BinOp e .Add f pos) (.d (.tuple (xs ++ ys))) :=
  ed_op2 op_catN (fun H0 H x y bb f0 f1 rr ss Q q => by
    cases rr with
    | tup e1 t1 =>
      cases ss with
      | tup e2 t2 =>
        refine ⟨_, _, _, _, rfl, rfl, e1, e2, fun z => n1 ?_, fun z => n2 ?_, by rw [t1.len, t2.len]; exact hz, fun p o hp ho => q _ _ _ rfl (.new hp) (.tup ⟨o, upd_same, ho⟩ ((t1.app t2).keep (KT.new hp)))⟩
        · subst z; cases t1; rfl
        · subst z; cases t2; rfl) ha hb
/-- list * int -/
theorem ed_rep {r : Rs} {xs : List PyData} {k : Nat} (ha : ED X b Hb Δ e r) (hb : ED X b Hb Δ f (.d (.int (k : Nat)))) (hz : xs.length * k ≤ 100000) (hk : k ≤ 100000) (h1 : ownR r = some xs := by rfl) : ED X b Hb Δ (.BinOp e .Mult f pos) (.fr (List.replicate k xs).flatten) :=
  ed_op2 op_rep (fun H0 H x y bb f0 f1 rr ss Q q => by
    obtain ⟨a, vs, e1, n1, e2, t1⟩ := rr.own bb (f0.bagIn bb) h1
    subst e1
    cases ss
    refine ⟨a, k, vs, rfl, rfl, e2, by omega, by omega, by rw [t1.len, Int.toNat_natCast, sizeLine_eq]; omega, fun p hp => q _ _ _ rfl (.new hp) ⟨p, _, rfl, hp, upd_same, ?_⟩⟩
    rw [Int.toNat_natCast]
    refine Dts.keep (KT.new hp) ?_
    clear hz hk q hb
    induction k with
    | zero => exact .nil
    | succ k ih =>
      rw [List.replicate_succ, List.replicate_succ, List.flatten_cons, List.flatten_cons]
      exact t1.app ih) ha hb
/-- sep.join(list of texts) -/
theorem dts_strs {vs : List V} {ys : List Str} (h : Dts H vs (ys.map PyData.str)) : vs = ys.map V.str := by
  induction ys generalizing vs with
  | nil => cases h; rfl
  | cons y ys ih =>
    cases h with
    | cons h t =>
      cases h
      rw [List.map_cons, ih t]
theorem ex_join {Pa : Rs → Prop} {a : Str} {apos : Pos} (ha : ED X b Hb Δ e (.d (.str a))) (hb : EX X b Hb Δ f Pa) (k : ∀ r, Pa r → ∃ ys : List Str, lsOf r = some (ys.map PyData.str) ∧ (ys.map (·.length)).sum + ys.length * a.length ≤ 100000 ∧ P (.d (.str (Txt.join a ys))))
    (hbase : attributeBase e "join" X.env (eval e X.env) = eval e X.env := by rfl)
    (hfew : ((backTo pos (starEach [f] X.env)).all (fun x => !x.1) && (backToKw pos (keywordEach [] X.env)).all (fun x => x.1.isSome)
      && decide ([f].length + ([] : List Keyword).length + (if ([] : List Keyword).isEmpty then 0 else 1) < 30)) = true := by rfl)
    (hline : (apos.endLine == pos.line) = true := by rfl) (hs : starEach [f] X.env = (false, eval f X.env) :: starEach [] X.env := by rfl) : EX X b Hb Δ (.Call (.Attribute e "join" apos) [f] [] pos) P :=
  pe_imp (pe_bm PySem.F.plainAttrs_str PySem.F.slot_str_join PySem.F.type_str_join mt_join ha (pa_cons hb pa_nil hs) hbase hfew hline hs) fun σ H Q q => ⟨q.1, fun v H1 r p1 f1 k1 => by
    subst p1
    cases k1
    refine ⟨rfl, q.1.step f1, fun w H2 r2 p2 f2 k2 => ?_⟩
    obtain ⟨ys, hl, hz, pp⟩ := k r2 p2
    obtain ⟨c, vs, ev, na, e2, t2⟩ := k2.ls q.1.bag (q.1.step f1).bagH hl
    subst ev
    rw [dts_strs t2] at e2
    exact ⟨a, c, ys, rfl, rfl, .inl e2, by omega, q.2 _ H2 _ pp (f1.trans f2) (.str _)⟩⟩
theorem dts_bls {vs : List V} {ys : List Bool} (h : Dts H vs (ys.map PyData.bool)) : vs = ys.map V.bl := by
  induction ys generalizing vs with
  | nil => cases h; rfl
  | cons y ys ih =>
    cases h with
    | cons h t =>
      cases h
      rw [List.map_cons, ih t]
theorem ed_all {r : Rs} {ys : List Bool} {p : Pos} (hm : X.mg "all" = none) (ha : ED X b Hb Δ e r) (hl : lsOf r = some (ys.map PyData.bool) := by rfl) (hc : X.calm = true := by rfl) (hg : Gl X "all" := by rfl) (hst : starEach [e] X.env = (false, eval e X.env) :: starEach [] X.env := by rfl) : ED X b Hb Δ (.Call (.Name "all" p) [e] [] pos) (.d (.bool (ys.all id))) :=
  ex_callB (cr_all hc) hg hm (by decide +kernel) (ad_cons ha ad_nil hst) (fun rs er H0 H vs bb f0 f1 k Q q => by
    subst er
    cases k with
    | cons h t _ =>
      cases t
      obtain ⟨a, us, ev, na, e2, t2⟩ := h.ls bb (f0.bagIn bb) hl
      subst ev
      rw [dts_bls t2] at e2
      exact ⟨a, ys, rfl, e2, q _ H _ rfl .refl (.bl _)⟩) (by decide) (by decide) hst
/-! ### texts, by their signs -/
def sOf (cs : List Nat) : Str := ⟨cs.toArray⟩
theorem fold_app : ∀ (l : List (List Nat)) (a : List Nat), (l.map List.toArray).foldl (· ++ ·) a.toArray = (a ++ l.flatten).toArray
  | [], a => by simp
  | x :: l, a => by
    rw [List.map_cons, List.foldl_cons]
    have e : a.toArray ++ x.toArray = (a ++ x).toArray := by simp
    rw [e, fold_app l, List.flatten_cons, List.append_assoc]
def rRepS : R2 := fun x y H Q => ∃ (cs : List Nat) (k : Nat), x = .str (sOf cs) ∧ y = .int (k : Nat) ∧ k ≤ 100000 ∧ cs.length * k ≤ 100000 ∧ Q (.str (sOf (List.replicate k cs).flatten)) H
theorem op_repS : OpR X (binaryOp .Mult) rRepS := fun pins s σ H x y v u Q I rx ry ⟨cs, k, ex, ey, hk, hz, q⟩ => by
  subst ex ey
  obtain ⟨t, rfl⟩ := rx
  obtain ⟨t', rfl⟩ := ry
  have hlen : (sOf cs).length = cs.length := by show cs.toArray.size = _; rw [List.size_toArray]
  refine P.mul_str ?_ (fun h1 h2 => ?_) (fun h1 h2 => ?_) ?_
  · rw [decide_eq_false (by omega), decide_eq_false (by omega)]; rfl
  · rw [hlen]
    have k1 : 1 ≤ k := by omega
    have c1 : cs.length ≤ cs.length * k := Nat.le_mul_of_pos_right _ k1
    have : (1000000 : Int) ≤ (2 ^ 63 - 1) / (k : Int) := by
      rw [Int.le_ediv_iff_mul_le (by omega)]
      omega
    omega
  · rw [hlen, Int.toNat_natCast]
    exact decide_eq_false (by rw [sizeLine_eq]; omega)
  · by_cases h1 : (k : Int) < 1
    · rw [if_pos h1]
      have e : k = 0 := by omega
      subst e
      exact ⟨by decide, ⟨.str (sOf (List.replicate 0 cs).flatten), H, I.tok _, ⟨_, rfl⟩, q⟩⟩
    · rw [if_neg h1]
      by_cases h2 : ((k : Int) == 1 || (sOf cs).length == 0) = true
      · rw [if_pos h2]
        have e : (List.replicate k cs).flatten = cs := by
          rw [Bool.or_eq_true, beq_iff_eq, beq_iff_eq, hlen] at h2
          rcases h2 with h2 | h2
          · have e : k = 1 := by omega
            subst e; simp
          · have e := List.eq_nil_of_length_eq_zero h2
            subst e; simp
        rw [e] at q
        exact ⟨.str (sOf cs), H, I, ⟨_, rfl⟩, q⟩
      · rw [if_neg h2]
        have e : (⟨(List.replicate (k : Int).toNat (sOf cs).cps).foldl (· ++ ·) #[]⟩ : Str) = sOf (List.replicate k cs).flatten := by
          have z := fold_app (List.replicate k cs) []
          rw [List.map_replicate] at z
          rw [Int.toNat_natCast]
          show Str.mk _ = Str.mk _
          exact congrArg _ z
        rw [e]
        refine ⟨?_, ⟨.str _, H, I.tok _, ⟨_, rfl⟩, q⟩⟩
        show (List.replicate k cs).flatten.toArray.size ≤ _
        rw [List.size_toArray, List.length_flatten, List.map_replicate, List.sum_replicate_nat, sizeLine_eq]
        rw [Nat.mul_comm] at hz
        omega
theorem ed_repS {cs : List Nat} {k : Nat} (ha : ED X b Hb Δ e (.d (.str (sOf cs)))) (hb : ED X b Hb Δ f (.d (.int (k : Nat)))) (hk : k ≤ 100000) (hz : cs.length * k ≤ 100000) : ED X b Hb Δ (.BinOp e .Mult f pos) (.d (.str (sOf (List.replicate k cs).flatten))) :=
  ed_op2 op_repS (fun H0 H x y bb f0 f1 rr ss Q q => by
    cases rr
    cases ss
    exact ⟨cs, k, rfl, rfl, hk, hz, q _ H _ rfl .refl (.str _)⟩) ha hb
theorem ed_ixS {x : Str} {i : Int} {c : Nat} (ha : ED X b Hb Δ e (.d (.str x))) (hb : ED X b Hb Δ f (.d (.int i))) (hz : x.length ≤ sizeLine) (h : atI x.cps.toList i = some c) (hs : PlainIx f := by exact fun _ _ => rfl) : ED X b Hb Δ (.Subscript e f pos) (.d (.str ⟨#[c]⟩)) :=
  ex_ix2 L2.ix_str hs ha hb fun _ _ e1 e2 => by rw [e1, e2]; exact opd_ixS hz h
end
end K47
set_option Elab.async false
set_option linter.all false
set_option maxRecDepth 100000
set_option maxHeartbeats 2000000
namespace K47
open PySem PySem.Spec PyProof.Rows L2

/-! ### sorted(..) of plain data -/
mutual
theorem reads_no {h : Heap} : ∀ {d : PyData} {v : Value} {as : List Addr}, pln d = true → Reads h v d as → as = []
  | .none, _, _, _, r => by cases r; rfl
  | .int _, _, _, _, r => by cases r; rfl
  | .str _, _, _, _, r => by cases r; rfl
  | .tuple xs, _, _, p, r => by
    cases r with
    | tuple _ _ _ t => exact readsAll_no (by rw [pln] at p; exact p) t
  | .bool _, _, _, p, _ => nomatch p
  | .list _, _, _, p, _ => nomatch p
  | .dict _, _, _, p, _ => nomatch p
theorem readsAll_no {h : Heap} : ∀ {ds : List PyData} {vs : List Value} {as : List Addr}, plnAll ds = true → ReadsAll h vs ds as → as = []
  | [], _, _, _, r => by cases r; rfl
  | d :: ds, _, _, p, r => by
    rw [plnAll, Bool.and_eq_true] at p
    cases r with
    | cons q t => rw [reads_no p.1 q, readsAll_no p.2 t]; rfl
end
/-- items that can be sorted: alike, and tuples none of which is empty -/
structure SortOk {α : Type} (enc : α → PyData) (bs : List α) : Prop where
  al : ∀ a ∈ bs, ∀ b ∈ bs, PySem.W.alike (enc a) (enc b) = true
  tu : ∀ a ∈ bs, ∃ x r, enc a = .tuple (x :: r)
def srt {α : Type} (enc : α → PyData) (bs : List α) : List α := bs.mergeSort (PySem.W.dataLe false enc)
section
variable {P : Program} {w : World} {A : Around} {E : Value → Shared → Prop} {s : Shared} {α β : Type} {enc : α → PyData} {bs : List α} {R : Value → α → Prop}
theorem SortOk.all (h : SortOk enc bs) : PySem.W.AllAlike (bs.map enc) := fun d hd d' hd' => by
  obtain ⟨a, ha, ea⟩ := List.mem_map.mp hd
  obtain ⟨c, hc, ec⟩ := List.mem_map.mp hd'
  rw [← ea, ← ec]
  exact h.al a ha c hc
theorem SortOk.able (h : SortOk enc bs) : PySem.W.Sortable (bs.map enc) := .inl fun d hd => by
  obtain ⟨a, ha, ea⟩ := List.mem_map.mp hd
  rw [← ea]
  exact h.tu a ha
theorem sort_tail {vs : List Value} {Q : Value → Shared → Prop} (hg : ∀ a, Good (enc a)) (so : SortOk enc bs) (e : PySem.W.EachIs R vs bs) (er : PySem.W.EachIs (fun v b => ∃ as, Reads s.heap v (enc b) as) vs bs) (hL : bs.length ≤ 100000) (hu : A.units + 10 < cLine)
    (h : ∀ (h' : Heap) (out : List Value) (n : Nat), (∀ b o, s.heap.get? b = some o → h'.get? b = some o) → h'.get? s.heap.objs.size = some (seqObj "list" out.toArray n) → PySem.W.EachIs R out (srt enc bs) → Q (.ref s.heap.objs.size) { s with heap := h' }) :
    wpAny (model P w) A (do let l ← newList vs; let _ ← holding [l] (call (.builtin "list.sort") [l] []); ret l) (fun fin s' => ∃ v, fin = .done (.ret v) ∧ Q v s') E s := by
  have hl := e.length
  refine wpAny_bind (wpAny_newList ?_ (by rw [sizeLine_eq]; omega))
  have hoL : (s.heap.push (seqObj "list" vs.toArray 0)).get? s.heap.objs.size = some (seqObj "list" vs.toArray 0) := Heap.get?_push_size _ rfl
  refine wpAny_bind (wpAny_holding (PySem.W.list_sort_data (s := { s with heap := s.heap.push (seqObj "list" vs.toArray 0) }) (enc := enc) hoL e (er.mono fun v a ⟨as, r⟩ => ⟨as, PyProof.Rows.Reads.keeps (fun _ _ z => Heap.get?_push_of_some _ z) r, by rw [reads_no (hg a).p r]; simp⟩) so.all so.able (by rw [sizeLine_eq]; omega) (fun a ha => by have := (hg a).dp; omega) fun out _ h2 => ?_))
  obtain ⟨c, hc⟩ := PyProof.Rows.sortedHeap_at (vs := vs) (out := out.toArray) hoL
  refine wpAny_pure ⟨_, rfl, h _ out c (fun a o z => ?_) hc h2⟩
  have hlt := Heap.lt_size z
  show (PyProof.Rows.sortedHeap (s.heap.push (seqObj "list" vs.toArray 0)) s.heap.objs.size vs out.toArray).get? a = some o
  rw [PyProof.Rows.sortedHeap_old (Nat.ne_of_lt hlt) (by rw [PyProof.Rows.size_push']; exact Nat.lt_succ_of_lt hlt)]
  exact Heap.get?_push_of_some _ z
/-- sorted(x), x a list or a tuple -/
theorem sorted_seq {a : Addr} {T : String} {o : Obj} {items : Array Value} {n : Nat} {Q : Value → Shared → Prop} (hT : T = "list" ∨ T = "tuple") (ho : s.heap.get? a = some o) (hc : o.cls = .type T) (hd : o.data = .seq items n)
    (hg : ∀ a, Good (enc a)) (so : SortOk enc bs) (e : PySem.W.EachIs R items.toList bs) (er : PySem.W.EachIs (fun v b => ∃ as, Reads s.heap v (enc b) as) items.toList bs) (hL : bs.length ≤ 100000) (hu : A.units + 11 < cLine)
    (h : ∀ (h1 h' : Heap) (out : List Value) (n : Nat), (∀ b o, s.heap.get? b = some o → h1.get? b = some o) → (∀ b o, h1.get? b = some o → h'.get? b = some o) → h'.get? h1.objs.size = some (seqObj "list" out.toArray n) → PySem.W.EachIs R out (srt enc bs) → Q (.ref h1.objs.size) { s with heap := h' }) :
    wpAny (model P w) A (call (.builtin "sorted") [.ref a]) Q E s := by
  have hl := e.length
  rw [Array.length_toList] at hl
  refine Calls.call_function_entry kind_sorted plain_sorted entry_sorted (args_sorted1 _) ?_
  unfold Builtin.«sorted»
  refine wpAny_bind (m := checkCount "sorted" 1 1 _) (wpAny_pure ?_)
  refine wpAny_bind (wpAny_collect_seq a hT ho hc hd (fun h1 k1 => ?_) (by rw [sizeLine_eq]; omega))
  refine sort_tail (s := { s with heap := h1 }) hg so e (er.mono fun v b ⟨as, r⟩ => ⟨as, PyProof.Rows.Reads.keeps k1 r⟩) hL (by show A.units + 1 + 10 < cLine; omega) fun h' out n k2 g r => h h1 h' out n k1 k2 g r
end

/-! the same as rules over data -/
theorem each_vals {α : Type} {H : Hp} : ∀ {ps : List (V × α)} {us : List Value}, Vals (ps.map (·.1)) us → PySem.W.EachIs (fun (u : Value) (p : V × α) => RelV p.1 u) us ps
  | [], _, r => by cases r; exact .nil
  | p :: ps, _, r => by
    cases r with
    | cons q t => exact .cons q (each_vals (H := H) t)
theorem vals_each {α : Type} : ∀ {ps : List (V × α)} {us : List Value}, PySem.W.EachIs (fun (u : Value) (p : V × α) => RelV p.1 u) us ps → Vals (ps.map (·.1)) us
  | _, _, .nil => .nil
  | _, _, .cons q t => .cons q (vals_each t)
theorem each_reads {α : Type} {enc : α → PyData} {h : Heap} : ∀ {ps : List (V × α)} {us : List Value} {as : List Addr}, ReadsAll h us (ps.map fun p => enc p.2) as → PySem.W.EachIs (fun (u : Value) (p : V × α) => ∃ as, Reads h u (enc p.2) as) us ps
  | [], _, _, r => by cases r; exact .nil
  | p :: ps, _, _, r => by
    cases r with
    | cons q t => exact .cons ⟨_, q⟩ (each_reads t)
theorem dts_pairs {α : Type} {enc : α → PyData} {H : Hp} : ∀ {vs : List V} {bs : List α}, Dts H vs (bs.map enc) → ∃ ps : List (V × α), ps.map (·.1) = vs ∧ ps.map (·.2) = bs ∧ ∀ p ∈ ps, Dt H p.1 (enc p.2)
  | [], [], _ => ⟨[], rfl, rfl, fun _ h => nomatch h⟩
  | v :: vs, b :: bs, h => by
    cases h with
    | cons h t =>
      obtain ⟨ps, e1, e2, e3⟩ := dts_pairs t
      exact ⟨(v, b) :: ps, by rw [List.map_cons, e1], by rw [List.map_cons, e2], fun p hp => by
        rcases List.mem_cons.mp hp with e | hp
        · rw [e]; exact h
        · exact e3 p hp⟩
  | [], b :: bs, h => nomatch h
  | v :: vs, [], h => nomatch h
theorem dts_of_pairs {α : Type} {enc : α → PyData} {H : Hp} : ∀ {ps : List (V × α)}, (∀ p ∈ ps, Dt H p.1 (enc p.2)) → Dts H (ps.map (·.1)) ((ps.map (·.2)).map enc)
  | [], _ => .nil
  | p :: ps, h => .cons (h p List.mem_cons_self) (dts_of_pairs fun q hq => h q (List.mem_cons_of_mem _ hq))
/-- what sorting leaves: the pairs in order -/
theorem srt_pairs {α : Type} {enc : α → PyData} (ps : List (V × α)) : (ps.mergeSort (PySem.W.dataLe false fun p => enc p.2)).map (·.2) = srt enc (ps.map (·.2)) := PySem.W.sort_maps (s := PySem.W.dataLe false enc) (fun p : V × α => p.2) fun _ _ _ _ => rfl
section
variable {X : Cx} {b : Option Addr} {Hb : Hp} {Δ : List Sl} {e f g : Expr} {es : List Expr} {pos : Pos} {P P' : Rs → Prop} {K : PySem.W.Frag} {H H1 H2 H0 : Hp}
variable {α : Type} {enc : α → PyData} {bs : List α}
/-- sorted(a list or a tuple) -/
def rSrt (K : PySem.W.Frag) (enc : α → PyData) (bs : List α) : List V → Hp → VK → Prop := fun xs H Q => ∃ a vs, xs = [.ref a] ∧ (SqL K H a vs ∨ SqT K H a vs) ∧ Dts H vs (bs.map enc) ∧ ∀ p ys, H p = none → Dts H ys ((srt enc bs).map enc) → Q (.ref p) (upd H p (.lst ys))
theorem encP_ok {β : Type} (he : EncOk enc) : (∀ p : β × α, Good (enc p.2)) := fun p => he.good p.2
theorem cr_srt (he : EncOk enc) (so : SortOk enc bs) (hL : bs.length ≤ 100000) (hu : X.A.units + 64 < cLine) : CallR X (.builtin "sorted") (rSrt X.K enc bs) := by
  intro pins s σ H xs us Q I r ⟨a, vs, ex, hq, t, q⟩
  subst ex
  rw [Vals.ref1 r]
  obtain ⟨ps, p1, p2, p3⟩ := dts_pairs t
  have hlv : vs.length = bs.length := by rw [t.len, List.length_map]
  have hlp : ps.length = bs.length := by rw [← hlv, ← p1, List.length_map]
  obtain ⟨T, its, o, n, hT, ho, hc, hd, rv⟩ : ∃ (T : String) (its : List Value) (o : Obj) (n : Nat), (T = "list" ∨ T = "tuple") ∧ s.heap.get? a = some o ∧ o.cls = .type T ∧ o.data = .seq its.toArray n ∧ Vals vs its := by
    rcases hq with hq | hq
    · obtain ⟨its, rv, pl, _⟩ := I.list hq
      obtain ⟨o, ho, hc, n, hd⟩ := pl.isList
      exact ⟨_, its, o, n, .inl rfl, ho, hc, hd, rv⟩
    · obtain ⟨its, rv, ⟨o, ho, hc, n, hd⟩, _⟩ := I.tuple hq
      exact ⟨_, its, o, n, .inr rfl, ho, hc, hd, rv⟩
  have hda : DpAll X.K H vs (bs.map enc) := t.dp (goods_all (he.goods bs))
  obtain ⟨as, hr⟩ := Dp.readsAll I _ _ _ hda rv
  rw [← p1] at rv
  rw [← p2, List.map_map] at hr
  have hr2 : ReadsAll s.heap its.toArray.toList (ps.map fun p => enc p.2) as := by
    rw [List.toList_toArray]
    exact hr
  have so2 : SortOk (fun p : V × α => enc p.2) ps := ⟨fun p hp q hq => so.al _ (by rw [← p2]; exact List.mem_map.mpr ⟨p, hp, rfl⟩) _ (by rw [← p2]; exact List.mem_map.mpr ⟨q, hq, rfl⟩), fun p hp => so.tu _ (by rw [← p2]; exact List.mem_map.mpr ⟨p, hp, rfl⟩)⟩
  refine sorted_seq (enc := fun p : V × α => enc p.2) hT ho hc hd (encP_ok he) so2 (each_vals (H := H) (by simpa using rv)) (each_reads hr2) (by omega) (by omega) fun h1 h' out n' k1 k2 g1 r1 => ?_
  have I1 : Inv X pins σ H { s with heap := h1 } := I.kept (t' := s.toks) k1
  have hv := vals_each r1
  have pm := List.mergeSort_perm ps (PySem.W.dataLe false fun p : V × α => enc p.2)
  have hln : (List.map (·.1) (srt (fun p : V × α => enc p.2) ps)).length = bs.length := by rw [List.length_map]; exact pm.length_eq.trans hlp
  refine ⟨.ref h1.objs.size, _, I1.laid (t' := s.toks) (o := .lst ((srt (fun p : V × α => enc p.2) ps).map (·.1))) k2 (Nat.le_refl _) ⟨by rw [hln, sizeLine_eq]; omega, out, n', hv, g1⟩, rfl, q _ _ (I1.hok.fresh (Nat.le_refl _)) ?_⟩
  have z := dts_of_pairs (enc := enc) (H := H) (ps := srt (fun p : V × α => enc p.2) ps) fun p hp => p3 p (pm.mem_iff.mp hp)
  have e5 := srt_pairs (enc := enc) ps
  rw [p2] at e5
  have e6 : (srt (fun p : V × α => enc p.2) ps).map (·.2) = srt enc bs := e5
  rw [e6] at z
  exact z
theorem ex_sort {Pa : Rs → Prop} {p : Pos} (hu : X.A.units + 65 < cLine) (hm : X.mg "sorted" = none) (he : EncOk enc) (ha : EX X b Hb Δ e Pa) (k : ∀ r, Pa r → ∃ bs : List α, (lsOf r = some (bs.map enc) ∨ r = .d (.tuple (bs.map enc))) ∧ SortOk enc bs ∧ bs.length ≤ 100000 ∧ P (.fr ((srt enc bs).map enc))) (hg : Gl X "sorted" := by rfl) (hst : starEach [e] X.env = (false, eval e X.env) :: starEach [] X.env := by rfl) : EX X b Hb Δ (.Call (.Name "sorted" p) [e] [] pos) P :=
  ex_callB (Pa := fun rs => ∃ r, rs = [r] ∧ Pa r) (r1 := fun xs H Q => ∃ bs : List α, SortOk enc bs ∧ bs.length ≤ 100000 ∧ rSrt X.K enc bs xs H Q) (fun pins s σ H xs us Q I r ⟨bs, so, hL, h⟩ => cr_srt he so hL (by omega) pins s σ H xs us Q I r h) hg hm (by decide +kernel) (ax_cons ha ad_nil (fun r rs h1 h2 => ⟨r, by rw [h2], h1⟩) hst) (fun rs ⟨r, er, pr⟩ H0 H vs bb f0 f1 kk Q q => by
    subst er
    obtain ⟨bs, hr, so, hL, pp⟩ := k r pr
    refine ⟨bs, so, hL, ?_⟩
    cases kk with
    | cons h t _ =>
      cases t
      rcases hr with hr | hr
      · obtain ⟨a, us, ev, na, e2, t2⟩ := h.ls bb (f0.bagIn bb) hr
        subst ev
        exact ⟨a, us, rfl, .inl e2, t2, fun l ys hn t3 => q _ _ _ pp (.new hn) ⟨l, ys, rfl, hn, upd_same, t3.keep (KT.new hn)⟩⟩
      · subst hr
        cases h with
        | tup e1 t1 => exact ⟨_, _, rfl, .inr e1.sq, t1, fun l ys hn t3 => q _ _ _ pp (.new hn) ⟨l, ys, rfl, hn, upd_same, t3.keep (KT.new hn)⟩⟩) (by decide) (by decide) hst
theorem ed_sortL {r : Rs} {p : Pos} (hu : X.A.units + 65 < cLine) (hm : X.mg "sorted" = none) (he : EncOk enc) (ha : ED X b Hb Δ e r) (so : SortOk enc bs) (hL : bs.length ≤ 100000) (hl : lsOf r = some (bs.map enc) := by rfl) (hg : Gl X "sorted" := by rfl) (hst : starEach [e] X.env = (false, eval e X.env) :: starEach [] X.env := by rfl) : ED X b Hb Δ (.Call (.Name "sorted" p) [e] [] pos) (.fr ((srt enc bs).map enc)) :=
  ex_sort hu hm he ha (fun r' er => ⟨bs, .inl (by rw [er]; exact hl), so, hL, rfl⟩) hg hst
theorem ed_sortT {p : Pos} (hu : X.A.units + 65 < cLine) (hm : X.mg "sorted" = none) (he : EncOk enc) (ha : ED X b Hb Δ e (.d (.tuple (bs.map enc)))) (so : SortOk enc bs) (hL : bs.length ≤ 100000) (hg : Gl X "sorted" := by rfl) (hst : starEach [e] X.env = (false, eval e X.env) :: starEach [] X.env := by rfl) : ED X b Hb Δ (.Call (.Name "sorted" p) [e] [] pos) (.fr ((srt enc bs).map enc)) :=
  ex_sort hu hm he ha (fun r' er => ⟨bs, .inr er, so, hL, rfl⟩) hg hst
theorem srt_perm (bs : List α) : (srt enc bs).Perm bs := List.mergeSort_perm _ _
end
end K47
set_option Elab.async false
set_option linter.all false
set_option maxRecDepth 100000
set_option maxHeartbeats 2000000
namespace K47
open PySem PySem.Spec PyProof.Rows L2

/-! ### the sorted list is one -/
theorem toks_inj {x y : PyData} (ha : PySem.W.alike x y = true) (px : pln x = true) (py : pln y = true) (h : PySem.W.keyToks x = PySem.W.keyToks y) : x = y := by
  cases q : PyData.eqv x y with
  | true => exact eqv_is px py q
  | false =>
    have z := (PySem.W.toks_eqv x y ha).2 q [.inl 0] [.inl 1]
    rw [h, PySem.W.lex_pre] at z
    rw [lex_irrefl] at z
    exact absurd z (by decide)
theorem srt_same {α : Type} {enc : α → PyData} (he : EncOk enc) {as bs : List α} (p : as.Perm bs) (al : ∀ a ∈ as, ∀ b ∈ as, PySem.W.alike (enc a) (enc b) = true) : srt enc as = srt enc bs := by
  have tl := PySem.W.sortLe_total (listOrd itemOrd) false fun b => PySem.W.keyToks (enc b)
  refine List.Perm.eq_of_pairwise (le := fun a b => PySem.W.dataLe false enc a b = true) (fun a b ha hb h1 h2 => ?_) (PySem.W.sort_pairwise tl as) (PySem.W.sort_pairwise tl bs) ((srt_perm as).trans (p.trans (srt_perm bs).symm))
  have ma : a ∈ as := (srt_perm as).mem_iff.mp ha
  have mb : b ∈ as := p.mem_iff.mpr ((srt_perm bs).mem_iff.mp hb)
  have h3 : (!lexLt itemOrd (PySem.W.keyToks (enc b)) (PySem.W.keyToks (enc a))) = true := h1
  have h4 : (!lexLt itemOrd (PySem.W.keyToks (enc a)) (PySem.W.keyToks (enc b))) = true := h2
  rw [Bool.not_eq_true'] at h3 h4
  exact he.inj _ _ (toks_inj (al a ma b mb) (he.good a).p (he.good b).p (lex_total _ _ h4 h3))

/-! ### min(a list) -/
def minA {α : Type} (enc : α → PyData) (a : α) (as : List α) : α := as.foldl (fun x y => if PySem.W.dataLt (enc y) (enc x) = true then y else x) a
theorem minA_mem {α : Type} (enc : α → PyData) : ∀ (as : List α) (a : α), minA enc a as ∈ a :: as
  | [], a => List.mem_cons_self
  | b :: as, a => by
    show minA enc (if PySem.W.dataLt (enc b) (enc a) = true then b else a) as ∈ _
    have z := minA_mem enc as (if PySem.W.dataLt (enc b) (enc a) = true then b else a)
    rcases List.mem_cons.mp z with z | z
    · rw [z]
      split
      · exact List.mem_cons_of_mem _ List.mem_cons_self
      · exact List.mem_cons_self
    · exact List.mem_cons_of_mem _ (List.mem_cons_of_mem _ z)
theorem minA_enc {α : Type} (enc : α → PyData) : ∀ (as : List α) (a : α), PySem.W.minD (enc a) (as.map enc) = enc (minA enc a as)
  | [], a => rfl
  | b :: as, a => by
    show PySem.W.minD (if PySem.W.dataLt (enc b) (enc a) = true then enc b else enc a) (as.map enc) = enc (minA enc (if PySem.W.dataLt (enc b) (enc a) = true then b else a) as)
    rw [← minA_enc enc as]
    split <;> rfl
section
variable {X : Cx} {b : Option Addr} {Hb : Hp} {Δ : List Sl} {e f g : Expr} {es : List Expr} {pos : Pos} {P P' : Rs → Prop} {K : PySem.W.Frag} {H H1 H2 H0 : Hp}
variable {α : Type} {enc : α → PyData}
theorem cr_minA (he : EncOk enc) (hc : X.calm = true) (hu : X.A.units + 64 < cLine) : CallR X (.builtin "min") (fun xs H Q => ∃ (p : Addr) (vs : List V) (a : α) (as : List α), xs = [.ref p] ∧ SqL X.K H p vs ∧ Dts H vs ((a :: as).map enc) ∧ SortOk enc (a :: as) ∧ ∀ v, Dt H v (enc (minA enc a as)) → Q v H) := by
  intro pins s σ H xs us Q I r ⟨p, vs, a, as, ex, hq, t, so, q⟩
  subst ex
  rw [Vals.ref1 r]
  obtain ⟨its, rv, pl, hz⟩ := I.list hq
  obtain ⟨cs, hr⟩ := Dp.readsAll I _ _ _ (t.dp (goods_all (he.goods _))) rv
  have hr2 : ReadsAll s.heap its.toArray.toList (enc a :: as.map enc) cs := by
    rw [List.toList_toArray]
    exact hr
  have hdep := goods_depth (he.goods (a :: as))
  refine PySem.W.min_list_data (I.ok.hd hc) pl.isList hr2 ⟨fun x hx y hy => so.all x (by rw [List.map_cons]; exact hx) y (by rw [List.map_cons]; exact hy), fun x hx e => ?_⟩ (by rw [List.map_cons] at hdep; omega) fun i v h' tk bs hv rd kp => ?_
  · obtain ⟨c, hc', ec⟩ := List.mem_map.mp (by rw [List.map_cons]; exact hx : x ∈ (a :: as).map enc)
    obtain ⟨y, r', ey⟩ := so.tu c hc'
    rw [← ec, ey] at e
    cases e
  · rw [minA_enc] at rd
    have hv2 : its[i]? = some v := by rw [← hv]; simp
    obtain ⟨x, hx, rx⟩ : ∃ x, vs[i]? = some x ∧ RelV x v := by
      clear hr hr2 t hz pl hq hv rd r
      induction rv generalizing i with
      | nil => simp at hv2
      | cons r0 t0 ih =>
        cases i with
        | zero =>
          have e0 := Option.some.inj hv2
          exact ⟨_, rfl, by rw [← e0]; exact r0⟩
        | succ i =>
          obtain ⟨x, h1, h2⟩ := ih i (by simpa using hv2)
          exact ⟨x, by simpa using h1, h2⟩
    obtain ⟨d, hd, kd⟩ := t.get hx
    obtain ⟨c, hc', ec⟩ := List.mem_map.mp (List.mem_of_getElem? hd)
    have I2 : Inv X pins σ H { s with heap := h', toks := tk } := I.kept kp
    obtain ⟨ds, rd2⟩ := Dp.reads I2 d x v (kd.dp (by rw [← ec]; exact (he.good c).p)) rx
    have ed : d = enc (minA enc a as) := SeqAt.Reads.unique _ _ _ _ _ (by rw [← ec]; exact pln_lay (he.good c).p) rd2 rd
    rw [ed] at kd
    exact ⟨x, H, I2, rx, q x kd⟩
theorem ed_min {r : Rs} {a : α} {as : List α} {p : Pos} (hu : X.A.units + 65 < cLine) (hm : X.mg "min" = none) (he : EncOk enc) (ha : ED X b Hb Δ e r) (so : SortOk enc (a :: as)) (hl : lsOf r = some ((a :: as).map enc) := by rfl) (hc : X.calm = true := by rfl) (hg : Gl X "min" := by rfl) (hst : starEach [e] X.env = (false, eval e X.env) :: starEach [] X.env := by rfl) : ED X b Hb Δ (.Call (.Name "min" p) [e] [] pos) (.d (enc (minA enc a as))) :=
  ex_callB (cr_minA he hc (by omega)) hg hm (by decide +kernel) (ad_cons ha ad_nil hst) (fun rs er H0 H vs bb f0 f1 kk Q q => by
    subst er
    cases kk with
    | cons h t _ =>
      cases t
      obtain ⟨c, us, ev, na, e2, t2⟩ := h.ls bb (f0.bagIn bb) hl
      subst ev
      exact ⟨c, us, a, as, rfl, e2, t2, so, fun v kv => q _ _ _ rfl .refl kv⟩) (by decide) (by decide) hst
end
end K47
set_option Elab.async false
set_option linter.all false
set_option maxRecDepth 100000
set_option maxHeartbeats 2000000
namespace K47
open PySem PySem.Spec PyProof.Rows L2

/-! ### plain data as keys -/
mutual
def keyD : PyData → NestedKey
  | .none => .none
  | .bool _ => .none
  | .int i => .num i
  | .str x => .text x
  | .list _ => .none
  | .tuple xs => .tup (keysD xs)
  | .dict _ => .none
def keysD : List PyData → List NestedKey
  | [] => []
  | x :: xs => keyD x :: keysD xs
end
mutual
theorem keyD_is {h : Heap} : ∀ {d : PyData} {v : Value} {as : List Addr}, pln d = true → Reads h v d as → NestedIs h (keyD d) v
  | .none, _, _, _, r => by cases r; exact .none
  | .int _, _, _, _, r => by cases r; exact .int _ _
  | .str _, _, _, _, r => by cases r; exact .text _ _
  | .tuple xs, _, _, p, r => by
    cases r with
    | tuple h1 h2 h3 t => exact .tup h1 h2 h3 (keysD_is (by rw [pln] at p; exact p) t)
  | .bool _, _, _, p, _ => nomatch p
  | .list _, _, _, p, _ => nomatch p
  | .dict _, _, _, p, _ => nomatch p
theorem keysD_is {h : Heap} : ∀ {ds : List PyData} {vs : List Value} {as : List Addr}, plnAll ds = true → ReadsAll h vs ds as → NestedAll h (keysD ds) vs
  | [], _, _, _, r => by cases r; exact .nil
  | d :: ds, _, _, p, r => by
    rw [plnAll, Bool.and_eq_true] at p
    cases r with
    | cons q t => exact .cons (keyD_is p.1 q) (keysD_is p.2 t)
end
mutual
theorem keyD_dp : ∀ {d : PyData}, pln d = true → (keyD d).depth = d.depth
  | .none, _ => by simp [keyD, NestedKey.depth, PyData.depth]
  | .int _, _ => by simp [keyD, NestedKey.depth, PyData.depth]
  | .str _, _ => by simp [keyD, NestedKey.depth, PyData.depth]
  | .tuple xs, p => by
    rw [keyD, NestedKey.depth, PyData.depth, keysD_dp (by rw [pln] at p; exact p)]
  | .bool _, p => nomatch p
  | .list _, p => nomatch p
  | .dict _, p => nomatch p
theorem keysD_dp : ∀ {ds : List PyData}, plnAll ds = true → NestedKey.depthAll (keysD ds) = PyData.depthAll ds
  | [], _ => by simp [keysD, NestedKey.depthAll, PyData.depthAll]
  | d :: ds, p => by
    rw [plnAll, Bool.and_eq_true] at p
    rw [keysD, NestedKey.depthAll, PyData.depthAll, keyD_dp p.1, keysD_dp p.2]
end
mutual
theorem keyD_inj : ∀ {d e : PyData}, pln d = true → pln e = true → keyD d = keyD e → d = e
  | .none, .none, _, _, _ => rfl
  | .int _, .int _, _, _, h => by injection h with h; rw [h]
  | .str _, .str _, _, _, h => by injection h with h; rw [h]
  | .tuple xs, .tuple ys, p, q, h => by
    injection h with h
    rw [pln] at p q
    rw [keysD_inj p q h]
  | .none, .int _, _, _, h => by simp [keyD] at h
  | .none, .str _, _, _, h => by simp [keyD] at h
  | .none, .tuple _, _, _, h => by simp [keyD] at h
  | .int _, .none, _, _, h => by simp [keyD] at h
  | .int _, .str _, _, _, h => by simp [keyD] at h
  | .int _, .tuple _, _, _, h => by simp [keyD] at h
  | .str _, .none, _, _, h => by simp [keyD] at h
  | .str _, .int _, _, _, h => by simp [keyD] at h
  | .str _, .tuple _, _, _, h => by simp [keyD] at h
  | .tuple _, .none, _, _, h => by simp [keyD] at h
  | .tuple _, .int _, _, _, h => by simp [keyD] at h
  | .tuple _, .str _, _, _, h => by simp [keyD] at h
  | .bool _, _, p, _, _ => nomatch p
  | .list _, _, p, _, _ => nomatch p
  | .dict _, _, p, _, _ => nomatch p
  | _, .bool _, _, p, _ => nomatch p
  | _, .list _, _, p, _ => nomatch p
  | _, .dict _, _, p, _ => nomatch p
theorem keysD_inj : ∀ {ds es : List PyData}, plnAll ds = true → plnAll es = true → keysD ds = keysD es → ds = es
  | [], [], _, _, _ => rfl
  | x :: xs, y :: ys, p, q, h => by
    rw [plnAll, Bool.and_eq_true] at p q
    rw [keysD, keysD] at h
    injection h with h1 h2
    rw [keyD_inj p.1 q.1 h1, keysD_inj p.2 q.2 h2]
  | [], _ :: _, _, _, h => by simp [keysD] at h
  | _ :: _, [], _, _, h => by simp [keysD] at h
end
/-- the key of an item -/
def kyA {α : Type} (enc : α → PyData) (a : α) : NestedKey := keyD (enc a)
theorem kyA_inj {α : Type} {enc : α → PyData} (he : EncOk enc) {a b : α} (h : kyA enc a = kyA enc b) : a = b := he.inj _ _ (keyD_inj (he.good a).p (he.good b).p h)
theorem kyA_dp {α : Type} {enc : α → PyData} (he : EncOk enc) (a : α) : (kyA enc a).depth ≤ 8 := by
  unfold kyA
  rw [keyD_dp (he.good a).p]
  exact (he.good a).dp
theorem nodup_map {α β : Type} {f : α → β} (hf : ∀ a b, f a = f b → a = b) {l : List α} (h : l.Nodup) : (l.map f).Nodup := List.pairwise_map.mpr (h.imp fun n e => n (hf _ _ e))

/-! ### dict(pairs).get(key, default) -/
section
variable {X : Cx} {pins : List (Addr × Obj)} {σ : L2.St} {H : Hp} {s : Shared}
/-- a key's machine side -/
theorem key_at {d : PyData} {a : Addr} (I : Inv X pins σ H s) (h : Dt H (.ref a) d) (g : Good d) : (nestedKind X.prog X.w).is s.heap (keyD d) a := by
  obtain ⟨as, r⟩ := Dp.reads I d (.ref a) (.ref a) (h.dp g.p) rfl
  exact ⟨keyD_is g.p r, by rw [keyD_dp g.p]; exact g.dp⟩
abbrev Row3 : Type := NestedKey × Addr × Addr
def rowH (x : Row3) : NestedKey × Addr × Value := (x.1, x.2.1, .ref x.2.2)
/-- the dict at a, without the keys' own objects -/
def DicO (P : Program) (w : World) (a : Addr) (l : List Row3) : HO := .ext fun h => (a == sysModules) = false ∧ (∃ o es ep, h.get? a = some o ∧ o.ExactDict ∧ o.data = .dict es ep ∧ es.toList = (l.map rowH).map (entryOfKey (nestedKind P w))) ∧ (l.map (·.1)).Nodup
theorem dicO_new {P : Program} {w : World} {h : Heap} {a : Addr} {l : List Row3} (sm : (a == sysModules) = false) (ex : ∃ o es ep, h.get? a = some o ∧ o.ExactDict ∧ o.data = .dict es ep ∧ es.toList = (l.map rowH).map (entryOfKey (nestedKind P w))) (nd : (l.map (·.1)).Nodup) : ObjOk P w H h a (DicO P w a l) :=
  ⟨⟨sm, ex, nd⟩, let ⟨o, _, _, ho, _⟩ := ex; ⟨o, ho⟩, fun _ _ ⟨p1, ⟨o, es, ep, ho, r⟩, p3⟩ k => ⟨p1, ⟨o, es, ep, k o ho, r⟩, p3⟩⟩
theorem stored_all : ∀ (ps xs : List (NestedKey × Addr × Value)), ((xs ++ ps).map (·.1)).Nodup → storedAllH xs ps = xs ++ ps
  | [], xs, _ => by rw [List.append_nil]; rfl
  | p :: ps, xs, nd => by
    have hn : atKey xs p.1 = none := by
      unfold atKey
      rw [Option.map_eq_none_iff, List.find?_eq_none]
      intro x hx hp
      rw [List.map_append, List.map_cons, List.nodup_append] at nd
      exact nd.2.2 x.1 (List.mem_map.mpr ⟨x, hx, rfl⟩) p.1 List.mem_cons_self (of_decide_eq_true hp)
    show storedAllH (storedH xs p.1 p.2.1 p.2.2) ps = _
    rw [storedH_new hn, stored_all ps (xs ++ [(p.1, p.2.1, p.2.2)]) (by simpa using nd)]
    simp
/-- the pairs' objects -/
theorem dts_dial {α β : Type} {ek : α → PyData} {ev : β → PyData} (tk : ∀ a, ∃ xs, ek a = .tuple xs) (tv : ∀ a, ∃ xs, ev a = .tuple xs) : ∀ {ps : List (α × β)} {vs : List V}, Dts H vs (ps.map fun p => PyData.tuple [ek p.1, ev p.2]) →
    ∃ l : List ((α × β) × Addr × Addr × Addr), l.map (·.1) = ps ∧ vs = l.map (fun x => V.ref x.2.1) ∧ ∀ x ∈ l, TupN H x.2.1 [.ref x.2.2.1, .ref x.2.2.2] ∧ Dt H (.ref x.2.2.1) (ek x.1.1) ∧ Dt H (.ref x.2.2.2) (ev x.1.2)
  | [], _, h => by cases h; exact ⟨[], rfl, rfl, fun _ h => nomatch h⟩
  | p :: ps, _, h => by
    cases h with
    | cons h t =>
      obtain ⟨l, e1, e2, e3⟩ := dts_dial tk tv t
      cases h with
      | @tup a0 _ _ ht hd =>
        cases hd with
        | cons h1 t1 =>
          cases t1 with
          | cons h2 t2 =>
            cases t2
            obtain ⟨xs, ex⟩ := tk p.1
            obtain ⟨ys, ey⟩ := tv p.2
            have h1' := h1
            have h2' := h2
            rw [ex] at h1
            rw [ey] at h2
            cases h1 with
            | @tup a3 _ _ q1 q2 =>
              cases h2 with
              | @tup a4 _ _ q3 q4 =>
                refine ⟨(p, a0, a3, a4) :: l, by rw [List.map_cons, e1], by rw [List.map_cons, e2], fun x hx => ?_⟩
                rcases List.mem_cons.mp hx with e | hx
                · subst e; exact ⟨ht, h1', h2'⟩
                · exact e3 x hx
variable {α β : Type} [DecidableEq α] {ek : α → PyData} {ev : β → PyData}
def row3 (ek : α → PyData) (x : (α × β) × Addr × Addr × Addr) : Row3 := (kyA ek x.1.1, x.2.2.1, x.2.2.2)
/-- dict(pairs) -/
def rDict (K : PySem.W.Frag) (P : Program) (w : World) (ek : α → PyData) (ev : β → PyData) (ps : List (α × β)) : List V → Hp → VK → Prop := fun xs H Q => ∃ (p : Addr) (vs : List V), xs = [.ref p] ∧ (SqL K H p vs ∨ TupN H p vs) ∧ Dts H vs (ps.map fun p => PyData.tuple [ek p.1, ev p.2]) ∧
  ∀ (d : Addr) (l : List ((α × β) × Addr × Addr × Addr)), H d = none → l.map (·.1) = ps → (∀ x ∈ l, Dt H (.ref x.2.2.1) (ek x.1.1) ∧ Dt H (.ref x.2.2.2) (ev x.1.2)) → Q (.ref d) (upd H d (DicO P w d (l.map (row3 ek))))
theorem cr_dict (he : EncOk ek) (tk : ∀ a, ∃ xs, ek a = .tuple xs) (tv : ∀ a, ∃ xs, ev a = .tuple xs) {ps : List (α × β)} (nd : (ps.map (·.1)).Nodup) (hL : ps.length ≤ 1000) (hc : X.calm = true) (hu : X.A.units + 64 < cLine) : CallR X (.type "dict") (rDict X.K X.prog X.w ek ev ps) := by
  intro pins s σ H xs us Q I r ⟨p, vs, ex, hq, t, q⟩
  subst ex
  rw [Vals.ref1 r]
  obtain ⟨l, e1, e2, e3⟩ := dts_dial tk tv t
  have hll : l.length = ps.length := by rw [← e1, List.length_map]
  -- the machine's side
  obtain ⟨T, its, hT, hpl, rv⟩ : ∃ (T : String) (its : List Value), (T = "list" ∨ T = "tuple") ∧ PlainSeq T s.heap p its.toArray ∧ Vals vs its := by
    rcases hq with hq | hq
    · obtain ⟨its, rv, ⟨o, n, ho, hc', hd', hdt⟩, _⟩ := I.list hq
      exact ⟨_, its, .inl rfl, ⟨o, n, ho, hc', hd', hdt⟩, rv⟩
    · obtain ⟨o, ho, hc', hd'⟩ := tupN_raw I hq
      obtain ⟨its, rv, ⟨o2, ho2, _, n, hdt⟩, _⟩ := I.tuple (hq.sq (K := X.K))
      rw [ho] at ho2
      have eo := Option.some.inj ho2
      subst eo
      exact ⟨_, its, .inr rfl, ⟨o, n, ho, hc', hd', hdt⟩, rv⟩
  have hits : its = l.map fun x => Value.ref x.2.1 := by
    rw [e2] at rv
    clear e1 e2 e3 hll q t hpl r
    induction l generalizing its with
    | nil => cases rv; rfl
    | cons x l ih =>
      cases rv with
      | cons r0 t0 =>
        cases r0
        rw [List.map_cons, ih _ t0]
  have hpair : ∀ x ∈ l, PairAt s.heap x.2.1 (.ref x.2.2.1) (.ref x.2.2.2) := fun x hx => by
    obtain ⟨i1, r1, h1, _⟩ := I.tuple ((e3 x hx).1.sq (K := X.K))
    cases r1 with
    | cons q1 t1 =>
      cases t1 with
      | cons q2 t2 =>
        cases t2
        cases q1
        cases q2
        exact .inl h1
  have hkey : ∀ x ∈ l, (nestedKind X.prog X.w).is s.heap (kyA ek x.1.1) x.2.2.1 := fun x hx => key_at I (e3 x hx).2.1 (he.good _)
  have hitems : PairItems s.heap its.toArray (fun j => ((l.map fun x => x.2.1)[j]?).getD 0) (l.map fun x => (Value.ref x.2.2.1, Value.ref x.2.2.2)) := by
    refine ⟨by rw [List.size_toArray, hits, List.length_map, List.length_map], fun j k v hj => ?_⟩
    rw [List.getElem?_map] at hj
    cases hx : l[j]? with
    | none => rw [hx] at hj; cases hj
    | some x =>
      rw [hx] at hj
      have e0 := Option.some.inj hj
      injection e0 with e4 e5
      subst e4 e5
      have hg : ((l.map fun x => x.2.1)[j]?).getD 0 = x.2.1 := by rw [List.getElem?_map, hx]; rfl
      show its.toArray[j]? = some (Value.ref (((l.map fun x => x.2.1)[j]?).getD 0)) ∧ PairAt s.heap (((l.map fun x => x.2.1)[j]?).getD 0) _ _
      rw [hg]
      refine ⟨?_, hpair x (List.mem_of_getElem? hx)⟩
      rw [hits, List.getElem?_toArray, List.getElem?_map, hx]
      rfl
  have nd2 : ((l.map (row3 ek)).map (·.1)).Nodup := by
    have e6 : (l.map (row3 ek)).map (·.1) = (ps.map (·.1)).map (kyA ek) := by
      rw [← e1, List.map_map, List.map_map, List.map_map]
      rfl
    rw [e6]
    exact nodup_map (fun a b e => kyA_inj he e) nd
  have hlen : (l.map fun x => (Value.ref x.2.2.1, Value.ref x.2.2.2)).length = ((l.map (row3 ek)).map rowH).length := by simp
  have hhave : PairsHaveH (nestedKind X.prog X.w) (l.map fun x => (Value.ref x.2.2.1, Value.ref x.2.2.2)).length (PairRel (l.map fun x => (Value.ref x.2.2.1, Value.ref x.2.2.2))) ((l.map (row3 ek)).map rowH) := by
    refine ⟨hlen.symm, fun i key v hi => ?_⟩
    have hi' : (l.map fun x => (Value.ref x.2.2.1, Value.ref x.2.2.2))[i]? = some (key, v) := hi
    rw [List.getElem?_map] at hi'
    cases hx : l[i]? with
    | none => rw [hx] at hi'; cases hi'
    | some x =>
      rw [hx] at hi'
      have e0 := Option.some.inj hi'
      injection e0 with e4 e5
      subst e4 e5
      exact ⟨kyA ek x.1.1, x.2.2.1, by rw [List.getElem?_map, List.getElem?_map, hx]; rfl, rfl⟩
  have hstay : KeysStay (nestedKind X.prog X.w) s.heap s.heap.objs.size [] ((l.map (row3 ek)).map rowH) := fun h' k x hx => by
    obtain ⟨y, hy, ey⟩ := List.mem_map.mp hx
    obtain ⟨z, hz, ez⟩ := List.mem_map.mp hy
    subst ey ez
    exact nestedKind_stays.stays (fun b o vs n hb hd => k b o (Nat.ne_of_lt (Heap.lt_size hb)) (by simp) hb) (hkey z hz)
  have hn : H s.heap.objs.size = none := I.hok.fresh (Nat.le_refl _)
  have fin : ∀ h' tk, h'.DictOfH (nestedKind X.prog X.w) s.heap.objs.size (storedAllH [] ((l.map (row3 ek)).map rowH)) → (∀ b o, b ∉ ([] : List Addr) → s.heap.get? b = some o → h'.get? b = some o) → EP X pins σ Q (.ref s.heap.objs.size) { s with heap := h', toks := tk } := fun h' tk hd hk => by
    have nd3 : (((l.map (row3 ek)).map rowH).map (·.1)).Nodup := by
      rw [List.map_map]
      exact nd2
    rw [stored_all _ [] (by rw [List.nil_append]; exact nd3), List.nil_append] at hd
    obtain ⟨o, es, ep, d1, d2, d3, d4, _, _⟩ := hd
    have new := dicO_new (P := X.prog) (w := X.w) (H := upd H s.heap.objs.size (DicO X.prog X.w s.heap.objs.size (l.map (row3 ek)))) (beq_eq_false_iff_ne.mpr (Nat.ne_of_gt I.big)) ⟨o, es, ep, d1, d2, d3, d4⟩ nd2
    exact ⟨.ref s.heap.objs.size, _, I.laid (t' := tk) (fun b o e => hk b o (by simp) e) (Nat.le_refl _) new, rfl, q _ l hn e1 fun x hx => (e3 x hx).2⟩
  have hsz : (l.map fun x => (Value.ref x.2.2.1, Value.ref x.2.2.2)).length ≤ sizeLine := by rw [List.length_map, sizeLine_eq]; omega
  have hroom : (nestedKind X.prog X.w).room X.A.in1.in1 := by show X.A.units + 1 + 1 + 8 < cLine; omega
  rcases hT with rfl | rfl
  · exact call_dict_pairsH (PairArg.list p its.toArray _ _) (I.ok.hd hc) hroom ⟨hpl, hitems⟩ hhave hstay hsz fin
  · exact call_dict_pairsH (PairArg.tuple p its.toArray _ _) (I.ok.hd hc) hroom ⟨hpl, hitems⟩ hhave hstay hsz fin
def tyDic (P : Program) (w : World) (x : V) (H : Hp) : Prop := ∃ a l, x = .ref a ∧ H a = some (DicO P w a l)
theorem ty_dic : TyOk X "dict" (tyDic X.prog X.w) := fun pins σ H s x v I r ⟨a, l, ex, t⟩ => by
  subst ex
  cases r
  obtain ⟨⟨_, ⟨o, es, ep, ho, hx, _⟩, _⟩, _⟩ := I.hok a _ t
  exact ⟨⟨o, ho, hx.1⟩, fun c ec => by cases ec; exact ⟨o, ho, hx.2.1⟩⟩
/-- what the dict gives -/
def lkA (ps : List (α × β)) (k : α) (d : β) : β := ((ps.find? fun p => decide (p.1 = k)).map (·.2)).getD d
def rGet (P : Program) (w : World) (ek : α → PyData) (ev : β → PyData) (ps : List (α × β)) (k : α) (d : β) : V → List V → Hp → VK → Prop := fun x xs H Q => ∃ (a ka : Addr) (y : V) (l : List ((α × β) × Addr × Addr × Addr)), x = .ref a ∧ xs = [.ref ka, y] ∧ H a = some (DicO P w a (l.map (row3 ek))) ∧ l.map (·.1) = ps ∧
  (∀ x ∈ l, Dt H (.ref x.2.2.1) (ek x.1.1) ∧ Dt H (.ref x.2.2.2) (ev x.1.2)) ∧ Dt H (.ref ka) (ek k) ∧ Dt H y (ev d) ∧ ∀ z, Dt H z (ev (lkA ps k d)) → Q z H
theorem mt_get (he : EncOk ek) {ps : List (α × β)} {k : α} {d : β} (hu : X.A.units + 64 < cLine) : MtR X "dict.get" (rGet X.prog X.w ek ev ps k d) := by
  intro pins s σ H x xs v us Q I rx rxs ⟨a, ka, y, l, ex, exs, ha, e1, e3, hk, hy, q⟩
  subst ex exs
  cases rx
  cases rxs with
  | cons r1 t1 =>
    cases r1
    cases t1 with
    | cons r2 t2 =>
      cases t2
      rename_i uy
      obtain ⟨⟨sm, ⟨o, es, ep, d1, d2, d3, d4⟩, nd⟩, _⟩ := I.hok a _ ha
      have hdo : s.heap.DictOfH (nestedKind X.prog X.w) a ((l.map (row3 ek)).map rowH) := ⟨o, es, ep, d1, d2, d3, d4, fun x hx => by
        obtain ⟨y1, hy1, ey⟩ := List.mem_map.mp hx
        obtain ⟨z, hz, ez⟩ := List.mem_map.mp hy1
        subst ey ez
        exact key_at I (e3 z hz).1 (he.good _), by rw [List.map_map]; exact nd⟩
      have hroom : (nestedKind X.prog X.w).room X.A.in1 := by show X.A.units + 1 + 8 < cLine; omega
      refine getOr_keyed (kvs := pairsH ((l.map (row3 ek)).map rowH)) hroom (key_at I hk (he.good k)) sm ⟨_, hdo, rfl⟩ ?_
      have find : ∀ l : List ((α × β) × Addr × Addr × Addr), (∀ x ∈ l, Dt H (.ref x.2.2.2) (ev x.1.2)) → ∃ z : V, RelV z ((valueAt (pairsH ((l.map (row3 ek)).map rowH)) (kyA ek k)).getD uy) ∧ Dt H z (ev (lkA (l.map (·.1)) k d)) := by
        intro l hl
        induction l with
        | nil => exact ⟨y, r2, hy⟩
        | cons x l ih =>
          have hx := hl x List.mem_cons_self
          by_cases c : x.1.1 = k
          · refine ⟨.ref x.2.2.2, ?_, ?_⟩
            · have e5 : (valueAt (pairsH (((x :: l).map (row3 ek)).map rowH)) (kyA ek k)) = some (.ref x.2.2.2) := by
                unfold valueAt pairsH
                simp only [List.map_cons]
                rw [List.find?_cons_of_pos]
                · rfl
                · show decide (kyA ek x.1.1 = kyA ek k) = true
                  rw [c]; exact decide_eq_true rfl
              rw [e5]
              rfl
            · have e6 : lkA ((x :: l).map (·.1)) k d = x.1.2 := by
                unfold lkA
                rw [List.map_cons, List.find?_cons_of_pos]
                · rfl
                · exact decide_eq_true c
              rw [e6]
              exact hx
          · obtain ⟨z, h1, h2⟩ := ih fun u hu => hl u (List.mem_cons_of_mem _ hu)
            refine ⟨z, ?_, ?_⟩
            · have e5 : (valueAt (pairsH (((x :: l).map (row3 ek)).map rowH)) (kyA ek k)) = valueAt (pairsH ((l.map (row3 ek)).map rowH)) (kyA ek k) := by
                unfold valueAt pairsH
                simp only [List.map_cons]
                rw [List.find?_cons_of_neg]
                show ¬ decide (kyA ek x.1.1 = kyA ek k) = true
                rw [decide_eq_true_eq]
                exact fun e => c (kyA_inj he e)
              rw [e5]
              exact h1
            · have e6 : lkA ((x :: l).map (·.1)) k d = lkA (l.map (·.1)) k d := by
                unfold lkA
                rw [List.map_cons, List.find?_cons_of_neg]
                rw [decide_eq_true_eq]
                exact c
              rw [e6]
              exact h2
      obtain ⟨z, h1, h2⟩ := find l fun x hx => (e3 x hx).2
      rw [e1] at h2
      exact ⟨z, H, I.tok _, h1, q z h2⟩
end
section
variable {X : Cx} {b : Option Addr} {Hb : Hp} {Δ : List Sl} {e f g : Expr} {es : List Expr} {pos : Pos} {α β : Type} [DecidableEq α] {ek : α → PyData} {ev : β → PyData}
theorem ed_dictGet {r : Rs} {ps : List (α × β)} {k : α} {d : β} {p p2 apos : Pos} (hu : X.A.units + 65 < cLine) (hm : X.mg "dict" = none) (he : EncOk ek) (tk : ∀ a, ∃ xs, ek a = .tuple xs) (tv : ∀ a, ∃ xs, ev a = .tuple xs) (nd : (ps.map (·.1)).Nodup) (hL : ps.length ≤ 1000)
    (ha : ED X b Hb Δ e r) (hr : r = .d (.tuple (ps.map fun p => PyData.tuple [ek p.1, ev p.2])) ∨ r = .fr (ps.map fun p => PyData.tuple [ek p.1, ev p.2])) (hk : ED X b Hb Δ f (.d (ek k))) (hd : ED X b Hb Δ g (.d (ev d)))
    (hc : X.calm = true := by rfl) (hg : Gl X "dict" := by rfl) (hst : starEach [e] X.env = (false, eval e X.env) :: starEach [] X.env := by rfl)
    (hbase : attributeBase (.Call (.Name "dict" p) [e] [] p2) "get" X.env (eval (.Call (.Name "dict" p) [e] [] p2) X.env) = eval (.Call (.Name "dict" p) [e] [] p2) X.env := by rfl)
    (hfew : ((backTo pos (starEach [f, g] X.env)).all (fun x => !x.1) && (backToKw pos (keywordEach [] X.env)).all (fun x => x.1.isSome)
      && decide ([f, g].length + ([] : List Keyword).length + (if ([] : List Keyword).isEmpty then 0 else 1) < 30)) = true := by rfl)
    (hline : (apos.endLine == pos.line) = true := by rfl) (hs : starEach [f, g] X.env = (false, eval f X.env) :: starEach [g] X.env := by rfl) (hs2 : starEach [g] X.env = (false, eval g X.env) :: starEach [] X.env := by rfl) (hpl : (backTo pos (starEach [g] X.env)).any (·.1) = false := by rfl) :
    ED X b Hb Δ (.Call (.Attribute (.Call (.Name "dict" p) [e] [] p2) "get" apos) [f, g] [] pos) (.d (ev (lkA ps k d))) :=
  pe_imp (pe_mG ty_dic PySem.F.plainAttrs_dict PySem.F.slot_dict_get PySem.F.type_dict_get (mt_get (ev := ev) (ps := ps) (k := k) (d := d) he (by omega)) (pe_callTy (cr_dict (ev := ev) he tk tv nd hL hc (by omega)) hg hm (by decide +kernel) (pa_cons ha pa_nil hst) (by decide) (by decide) hst) (pa_cons hk (pa_cons hd pa_nil hs2) hs) hbase hfew hline hs hpl) fun σ H Q q => ⟨q.1, fun v H1 r' p1 f1 k1 => by
    subst p1
    obtain ⟨c, vs, ev', e2, t2⟩ : ∃ (c : Addr) (vs : List V), v = .ref c ∧ (SqL X.K H1 c vs ∨ TupN H1 c vs) ∧ Dts H1 vs (ps.map fun p => PyData.tuple [ek p.1, ev p.2]) := by
      rcases hr with hr | hr
      · subst hr
        cases k1 with
        | tup h1 h2 => exact ⟨_, _, rfl, .inr h1, h2⟩
      · subst hr
        obtain ⟨c, vs, e1, _, e3, t⟩ := k1
        exact ⟨c, vs, e1, .inl (SqL.of e3), t⟩
    subst ev'
    refine ⟨c, vs, rfl, e2, t2, fun dd l hn e1 e3 => ⟨⟨dd, _, rfl, upd_same⟩, ?_⟩⟩
    have q1 := (q.1.step f1).step (.new (o := DicO X.prog X.w dd (l.map (row3 ek))) hn)
    refine ⟨q1, fun u H2 r2 p2 f2 k2 => ?_⟩
    subst p2
    refine ⟨q1.step f2, fun u3 H3 r3 p3 f3 k3 => ?_⟩
    subst p3
    have fall := f1.trans ((Fr.new (b := b) (o := DicO X.prog X.w dd (l.map (row3 ek))) hn).trans (f2.trans f3))
    have kt2 : KT (upd H1 dd (DicO X.prog X.w dd (l.map (row3 ek)))) H3 := (f2.trans f3).kt q1.bagH
    have kt : KT H1 H3 := (KT.new hn).trans kt2
    obtain ⟨xs, exs⟩ := tk k
    have k2' : Dt H3 u (ek k) := Dt.keep (f3.kt (q1.step f2).bagH) k2
    obtain ⟨ka, eka⟩ : ∃ ka, u = .ref ka := by
      have z := k2'
      rw [exs] at z
      cases z with
      | tup _ _ => exact ⟨_, rfl⟩
    subst eka
    refine ⟨dd, ka, u3, l, rfl, rfl, ?_, e1, fun x hx => ⟨(e3 x hx).1.keep kt, (e3 x hx).2.keep kt⟩, k2', k3, fun z hz => q.2 z H3 _ rfl fall hz⟩
    exact (f2.trans f3).all _ _ ((q.1.step f1).bagH.ne_none hn) upd_same⟩
end
end K47
set_option Elab.async false
set_option linter.all false
set_option maxRecDepth 100000
set_option maxHeartbeats 2000000
namespace K47
open PySem PySem.Spec PyProof.Rows L2

/-! ### items of sets: plain data without texts -/
mutual
/-- whole numbers, None, tuples of such -/
def numK : NestedKey → Bool
  | .none => true
  | .num _ => true
  | .text _ => false
  | .tup ks => numsK ks
def numsK : List NestedKey → Bool
  | [] => true
  | k :: ks => numK k && numsK ks
end
/-- an item of a set: at b, a tuple of depth 8 at most -/
structure ItK (h : Heap) (k : NestedKey) (b : Addr) : Prop where
  is : NestedIs h k (.ref b)
  nu : numK k = true
  dp : k.depth ≤ 8
theorem ItK.keep {h h' : Heap} {k : NestedKey} {b : Addr} (x : ItK h k b) (hk : ∀ c o vs n, h.get? c = some o → o.data = .seq vs n → h'.get? c = some o) : ItK h' k b := ⟨x.is.at hk, x.nu, x.dp⟩
theorem ItK.all {h h' : Heap} {k : NestedKey} {b : Addr} (x : ItK h k b) (hk : ∀ c o, h.get? c = some o → h'.get? c = some o) : ItK h' k b := x.keep fun c o _ _ e _ => hk c o e
section
variable {P : Program} {w : World} {s : Shared}
theorem ItK.kind {k : NestedKey} {b : Addr} {h : Heap} (x : ItK h k b) : (nestedKind P w).is h k b := And.intro x.is x.dp
/-- with eight levels of room: m changes nothing and goes on with the value r -/
def Gives (P : Program) (w : World) (s : Shared) {β : Type} (m : Sem β) (r : β) : Prop := ∀ (A : Around) (E : Value → Shared → Prop) (Q : β → Shared → Prop), A.units + 8 < cLine → Q r s → wpAny (model P w) A m Q E s
theorem Gives.ret {β : Type} {r : β} : Gives P w s (pure r) r := fun _ _ _ _ h => wpAny_pure h
theorem Gives.held {β : Type} {m : Sem β} {r : β} {vs : List Value} (h : Gives P w s m r) : Gives P w s (holding vs m) r := fun A E Q u q => wpAny_holding (h A E Q u q)
theorem Gives.on {β γ : Type} {m : Sem β} {r : β} {f : β → Sem γ} {c : γ} (h1 : Gives P w s m r) (h2 : Gives P w s (f r) c) : Gives P w s (m >>= f) c := fun A E _ u q => wpAny_bind (h1 A E _ u (h2 A E _ u q))
theorem Gives.no {β : Type} {c : Prop} [Decidable c] {x y : Sem β} {r : β} (hc : ¬ c) (h : Gives P w s y r) : Gives P w s (if c then x else y) r := by rw [if_neg hc]; exact h
theorem Gives.yes {β : Type} {c : Prop} [Decidable c] {x y : Sem β} {r : β} (hc : c) (h : Gives P w s x r) : Gives P w s (if c then x else y) r := by rw [if_pos hc]; exact h
/-- a loop of which no turn changes anything -/
theorem gives_list {α β : Type} {f : α → β → Sem (ForInStep β)} {b : β} : ∀ (l : List α), (∀ x ∈ l, Gives P w s (f x b) (.yield b)) → Gives P w s (forIn l b f) b
  | [], _ => by rw [List.forIn_nil]; exact .ret
  | x :: l, h => by
    rw [List.forIn_cons]
    exact (h x (.head _)).on (gives_list l fun y hy => h y (.tail _ hy))
theorem gives_array {α β : Type} {f : α → β → Sem (ForInStep β)} {b : β} (a : Array α) (h : ∀ x ∈ a.toList, Gives P w s (f x b) (.yield b)) : Gives P w s (forIn a b f) b := by
  have z := gives_list a.toList h
  rwa [Array.forIn_toList] at z
/-- what stands in a key's tuple: keys, one level lower -/
theorem inner {n : Nat} : ∀ {ks : List NestedKey} {vs : List Value}, NestedAll s.heap ks vs → numsK ks = true → NestedKey.depthAll ks ≤ n → ∀ v ∈ vs, ∃ k, NestedIs s.heap k v ∧ numK k = true ∧ k.depth ≤ n
  | _, _, .nil, _, _, v, hv => nomatch hv
  | _, _, @NestedAll.cons _ k0 v0 ks vs x t, c, d, v, hv => by
    have c2 := Bool.and_eq_true_iff.mp (show (numK k0 && numsK ks) = true from c)
    have d2 : k0.depth ≤ n ∧ NestedKey.depthAll ks ≤ n := by
      rw [NestedKey.depthAll] at d
      omega
    cases hv with
    | head => exact ⟨k0, x, c2.1, d2.1⟩
    | tail _ hv => exact inner t c2.2 d2.2 v hv
/-- such a key hashes by value, and none of its parts is of a class statement -/
theorem calm_key : ∀ (n : Nat) (k : NestedKey) (v : Value), NestedIs s.heap k v → numK k = true → k.depth ≤ n → Gives P w s (hashByValue n v) true ∧ Gives P w s (ofAClassStatement n v) false := by
  intro n
  induction n with
  | zero =>
    intro k v x c d
    cases x
    all_goals first
      | exact ⟨.ret, .ret⟩
      | exact absurd c (by decide)
      | (rw [NestedKey.depth] at d; exact absurd d (by omega))
      | exact absurd (show numK (.text _) = true from c) (by rw [numK]; decide)
  | succ n ih =>
    intro k v x c d
    cases x with
    | none => exact ⟨.ret, .ret⟩
    | bool _ => exact ⟨.ret, .ret⟩
    | int _ _ => exact ⟨.ret, .ret⟩
    | text _ _ => exact absurd c (by rw [numK]; decide)
    | @tup a o vs m ks at_ cls dat all =>
      have lower : ∀ u ∈ vs.toList, ∃ k, NestedIs s.heap k u ∧ numK k = true ∧ k.depth ≤ n := inner all c (by rw [NestedKey.depth] at d; omega)
      have items : Gives P w s (seqItems? (.ref a)) (some vs) := fun A E _ _ q => wpAny_seqItems at_ dat q
      constructor
      · unfold hashByValue
        have look : Gives P w s (specialOf (.ref a) "__hash__") _ := fun A E _ _ q => wpAny_specialOf ⟨o, at_, cls⟩ F.slot_tuple_hash.lookup q
        refine look.on (items.on ((gives_array vs fun u hu => ?_).on .ret))
        obtain ⟨k1, y, c1, d1⟩ := lower u hu
        exact (ih k1 u y c1 d1).1.on (.no (by decide) .ret)
      · unfold ofAClassStatement
        have look : Gives P w s (typeOf (.ref a)) (.type "tuple") := fun A E _ _ q => wpAny_typeOf ⟨o, at_, cls⟩ q
        refine look.on (.yes rfl (Gives.ret.on (.no (by decide) (items.on ((gives_array vs fun u hu => ?_).on .ret)))))
        obtain ⟨k1, y, c1, d1⟩ := lower u hu
        exact (ih k1 u y c1 d1).2.on (.no (by decide) .ret)
/-- a search among such items shows nothing -/
theorem unseen {k : NestedKey} {b : Addr} (x : ItK s.heap k b) {ys : List Value} (hy : ∀ y ∈ ys, ∃ k' c, y = Value.ref c ∧ ItK s.heap k' c) : Gives P w s (searchCouldBeSeen (.ref b) ys) false := by
  unfold searchCouldBeSeen
  refine (gives_list ys fun y h => ?_).on .ret
  obtain ⟨k2, c, rfl, z⟩ := hy y h
  have q : ∀ {j d}, ItK s.heap j d → Gives P w s (eqIsQuiet 8 (.ref d)) true := fun i A E _ _ g => (nestedKind P w).quiet i.kind g
  have n : ∀ {j d}, ItK s.heap j d → Gives P w s (ofAClassStatement 8 (.ref d)) false := fun i => (calm_key 8 _ _ i.is i.nu i.dp).2
  by_cases e : (b == c || (carriedByValue (.ref b) && carriedByValue (.ref c))) = true
  · exact .yes e .ret
  · exact .no e ((q x).on (.no (by decide) ((q z).on (.no (by decide) ((n x).on (.no (by decide) ((n z).on (.no (by decide) .ret))))))))
end
end K47
set_option Elab.async false
set_option linter.all false
set_option maxRecDepth 100000
set_option maxHeartbeats 2000000
namespace K47
open PySem PySem.Spec PyProof.Rows L2

/-! ### the table of such items, in plain words -/
abbrev Mem : Type := Addr × NestedKey
def hk (w : World) (m : Mem) : Int := m.2.hash w
def entry (w : World) (m : Mem) : Int × Value := (hk w m, .ref m.1)
def keysOf (L : List Mem) : List NestedKey := L.map Prod.snd
theorem keys_perm {L M : List Mem} (p : L.Perm M) : (keysOf L).Perm (keysOf M) := p.map Prod.snd
theorem pick_map {α β : Type} {f : α → Option β} {g : α → β} : ∀ (l : List α), (∀ x ∈ l, f x = some (g x)) → l.filterMap f = l.map g
  | [], _ => rfl
  | x :: l, h => by
    rw [List.filterMap_cons_some (h x (.head _)), pick_map l fun y hy => h y (.tail _ hy)]
    rfl
/-- the entries es and the table t hold the items L, in the table's order -/
structure Laid (w : World) (L : List Mem) (es : Array (Int × Value)) (t : SetTable) : Prop where
  rows : es.toList = L.map (entry w)
  tab : TabOk t (L.map (hk w))
  one : (keysOf L).Nodup
  calm : t.plain = true
  led : w.params.followText "set-order" = true ∨ t.led = true
section
variable {w : World} {L : List Mem} {es : Array (Int × Value)} {t : SetTable}
theorem Laid.get (R : Laid w L es t) (i : Nat) : es[i]? = (L[i]?).map (entry w) := by
  have z := congrArg (fun l => l[i]?) R.rows
  simpa using z
theorem Laid.size (R : Laid w L es t) : es.size = L.length := by
  have z := congrArg List.length R.rows
  simpa using z
theorem Laid.places (R : Laid w L es t) : t.place.size = L.length := R.tab.sz.trans (List.length_map _)
theorem Laid.fits (R : Laid w L es t) (le : L.length ≤ t.mask) : t.fits es.size = true := by
  have a := R.places
  have b := R.size
  simp [SetTable.fits, SetTable.fill, R.tab.dm]
  omega
/-- an item put into its free slot -/
theorem Laid.put (R : Laid w L es t) {x : Addr} {k : NestedKey} {K : Nat} (new : k ∉ keysOf L) (free : way t.mask (k.hash w) K ∉ t.place.toList) (taken : ∀ n, n < K → way t.mask (k.hash w) n ∈ t.place.toList) :
    ∃ t1 p L1, t.put (way t.mask (k.hash w) K) = (t1, p) ∧ t1.mask = t.mask ∧ t1.fill = L.length + 1 ∧ L1.Perm ((x, k) :: L) ∧ Laid w L1 (SetTable.insertAt es p (entry w (x, k))) t1 := by
  have T := R.tab.put free taken
  have pm : (L.take (SetTable.below t.place (way t.mask (k.hash w) K)) ++ (x, k) :: L.drop (SetTable.below t.place (way t.mask (k.hash w) K))).Perm ((x, k) :: L) := put_perm ..
  refine ⟨(t.put (way t.mask (k.hash w) K)).1, _, _, Prod.ext rfl T.1, T.2.2.2.1, by rw [T.2.2.2.2.2.2.2.2, List.length_map], pm, ?_, ?_, ?_, ?_, ?_⟩
  · rw [SetTable.toList_insertAt, R.rows]
    simp
  · have same : (L.take (SetTable.below t.place (way t.mask (k.hash w) K)) ++ (x, k) :: L.drop (SetTable.below t.place (way t.mask (k.hash w) K))).map (hk w) = (L.map (hk w)).take (SetTable.below t.place (way t.mask (k.hash w) K)) ++ k.hash w :: (L.map (hk w)).drop (SetTable.below t.place (way t.mask (k.hash w) K)) := by simp [hk]
    rw [same]
    exact T.2.2.1
  · have fresh : (keysOf ((x, k) :: L)).Nodup := List.nodup_cons.mpr ⟨new, R.one⟩
    exact (keys_perm pm).nodup_iff.mpr fresh
  · exact T.2.2.2.2.2.1.trans R.calm
  · rw [T.2.2.2.2.1]
    exact R.led
/-- all laid anew in a table of M + 1 slots -/
theorem Laid.anew (R : Laid w L es t) {want M : Nat} (e : SetTable.sizeAbove want - 1 = M) (hM : MaskOk M) (le : L.length ≤ M) :
    ∃ t2 order L2, t.relaid (es.map (·.1)) want = some (t2, order) ∧ (order.filterMap (es[·]?)).size = es.size ∧ t2.mask = M ∧ L2.Perm L ∧ Laid w L2 (order.filterMap (es[·]?)) t2 := by
  have hs : (es.map (·.1)).size = L.length := Array.size_map.trans R.size
  obtain ⟨t2, order, q, perm, T, em, el, ep, _⟩ := relaid_ok t (hs := es.map (·.1)) e hM (hs ▸ le)
  rw [hs] at perm
  let at_ (i : Nat) : Mem := L.getD i (0, .none)
  have inn : ∀ i ∈ order.toList, L[i]? = some (at_ i) := fun i h => by
    have lt : i < L.length := List.mem_range.mp (perm.mem_iff.mp h)
    simp [at_, lt]
  have all : (List.range L.length).map at_ = L := List.ext_getElem (by simp) fun i a b => by simp [at_, b]
  have rows : (order.filterMap (es[·]?)).toList = (order.toList.map at_).map (entry w) := by
    rw [Array.toList_filterMap, List.map_map]
    exact pick_map _ fun i h => by rw [R.get, inn i h]; rfl
  have pm : (order.toList.map at_).Perm L := (perm.map at_).trans (.of_eq all)
  refine ⟨t2, order, order.toList.map at_, q, ?_, em, pm, rows, ?_, (keys_perm pm).nodup_iff.mpr R.one, ep.trans R.calm, ?_⟩
  · have n : (order.toList.map at_).length = es.size := pm.length_eq.trans R.size.symm
    rw [← n, ← Array.length_toList, rows, List.length_map]
  · have same : (order.toList.map at_).map (hk w) = order.toList.map fun i => (es.map (·.1)).getD i 0 := by
      rw [List.map_map]
      refine List.map_congr_left fun i h => ?_
      have z : (es.map (·.1))[i]? = some (hk w (at_ i)) := by rw [Array.getElem?_map, R.get, inn i h]; rfl
      simp [Array.getD_eq_getD_getElem?, z]
    rw [same]
    exact T
  · rw [el]
    exact R.led

/-! ### how a search goes from stop to stop -/
abbrev stand (m : Nat) (h : Int) (n : Nat) : SetTable.Probe := nth m (runAt m (SetTable.bits h % (m + 1)) (SetTable.bits h)) n
theorem stand_clean (m : Nat) (h : Int) : ∀ n, (stand m h n).dummy = none
  | 0 => rfl
  | n + 1 => by
    have z := stand_clean m h n
    rw [stand, nth_succ]
    unfold adv
    split <;> exact z
/-- the hash at a place, as the search reads it -/
abbrev stored (es : Array (Int × Value)) (i : Nat) : Int := (es[i]?.map (·.1)).getD 0
theorem Laid.stored (R : Laid w L es t) {i : Nat} {m : Mem} (h : L[i]? = some m) : K47.stored es i = hk w m := by
  unfold K47.stored
  rw [R.get, h]
  rfl
/-- item i stands at the n-th stop -/
abbrev Stop (t : SetTable) (h : Int) (n i : Nat) : Prop := t.place.toList[i]? = some (way t.mask h n)
/-- what a probe meets that goes on from the c-th stop; K is the first free one -/
theorem Laid.meets (R : Laid w L es t) (h : Int) {c K : Nat} (le : c ≤ K) (few : K < 10 * SetTable.turns t.mask) (free : way t.mask h K ∉ t.place.toList) (taken : ∀ n, n < K → way t.mask h n ∈ t.place.toList) :
    (∃ n i m, c ≤ n ∧ n < K ∧ Stop t h n i ∧ L[i]? = some m ∧ (∀ n' i', c ≤ n' → n' < n → Stop t h n' i' → K47.stored es i' ≠ h) ∧ t.probe (K47.stored es) h (stand t.mask h c) = some (.candidate (way t.mask h n) i (stand t.mask h (n + 1)))) ∨
    ((∀ n' i', c ≤ n' → n' < K → Stop t h n' i' → K47.stored es i' ≠ h) ∧ t.probe (K47.stored es) h (stand t.mask h c) = some (.empty (way t.mask h K) none)) := by
  have G := go_spec t R.tab.ris R.tab.dm (K47.stored es) h (10 * SetTable.turns t.mask) (K - c) (stand t.mask h c) (stand_clean ..) (by omega)
  simp only [stand, ← nth_add] at G
  have back : c + (K - c) = K := by omega
  rw [back] at G
  rcases G (fun n hn => taken (c + n) (by omega)) free with ⟨q, i, lt, st, _, no, pr⟩ | ⟨no, pr⟩
  · have li : i < L.length := by
      have a := (List.getElem?_eq_some_iff.mp st).1
      rwa [Array.length_toList, R.places] at a
    refine .inl ⟨c + q, i, L[i], Nat.le_add_right .., by omega, st, List.getElem?_eq_getElem li, fun n' i' a b g => ?_, pr⟩
    obtain ⟨d, rfl⟩ := Nat.exists_eq_add_of_le a
    exact no d i' (by omega) g
  · refine .inr ⟨fun n' i' a b g => ?_, pr⟩
    obtain ⟨d, rfl⟩ := Nat.exists_eq_add_of_le a
    exact no d i' (by omega) g
/-- wherever the key k stands, it is at a stop from c on, ahead of K -/
def Ahead (w : World) (L : List Mem) (t : SetTable) (k : NestedKey) (c K : Nat) : Prop := ∀ i m, L[i]? = some m → m.2 = k → ∃ n, c ≤ n ∧ n < K ∧ Stop t (k.hash w) n i
theorem Laid.begin (R : Laid w L es t) {k : NestedKey} {K : Nat} (free : way t.mask (k.hash w) K ∉ t.place.toList) : Ahead w L t k 0 K := fun i m hm e => by
  have li : i < t.place.toList.length := by
    rw [Array.length_toList, R.places]
    exact (List.getElem?_eq_some_iff.mp hm).1
  have hh : (L.map (hk w))[i]? = some (k.hash w) := by rw [List.getElem?_map, hm, ← e]; rfl
  obtain ⟨n, lt, z⟩ := R.tab.before free hh (List.getElem?_eq_getElem li)
  exact ⟨n, Nat.zero_le _, lt, (List.getElem?_eq_getElem li).trans (congrArg some z.symm)⟩
/-- no stop ahead has its hash: it is nowhere -/
theorem Laid.nowhere (R : Laid w L es t) {k : NestedKey} {c K : Nat} (A : Ahead w L t k c K) (no : ∀ n i, c ≤ n → n < K → Stop t (k.hash w) n i → K47.stored es i ≠ k.hash w) : k ∉ keysOf L := fun h => by
  obtain ⟨m, hm, rfl⟩ := List.mem_map.mp h
  obtain ⟨i, hi⟩ := List.mem_iff_getElem?.mp hm
  obtain ⟨n, a, b, g⟩ := A i m hi rfl
  exact no n i a b g (R.stored hi)
/-- a stop passed at which another key stands -/
theorem Laid.passed (R : Laid w L es t) {k : NestedKey} {c n K i : Nat} {m : Mem} (A : Ahead w L t k c K) (st : Stop t (k.hash w) n i) (hm : L[i]? = some m) (ne : m.2 ≠ k)
    (no : ∀ n' i', c ≤ n' → n' < n → Stop t (k.hash w) n' i' → K47.stored es i' ≠ k.hash w) : Ahead w L t k (n + 1) K := fun i2 m2 h2 e => by
  obtain ⟨n2, a, b, g⟩ := A i2 m2 h2 e
  refine ⟨n2, ?_, b, g⟩
  rcases Nat.lt_or_ge n n2 with z | z
  · exact z
  · refine absurd e ?_
    rcases Nat.lt_or_eq_of_le z with z | z
    · exact absurd ((R.stored h2).trans (by rw [hk, e])) (no n2 i2 a z g)
    · have two : SetTable.Slot.live i2 = .live i := (slot_live R.tab.ris g).symm.trans ((congrArg (fun n => t.slot (way t.mask (k.hash w) n)) z).trans (slot_live R.tab.ris st))
      cases two
      cases hm.symm.trans h2
      exact ne
end
end K47
set_option Elab.async false
set_option linter.all false
set_option maxRecDepth 100000
set_option maxHeartbeats 2000000
namespace K47
open PySem PySem.Spec PyProof.Rows L2

/-! ### a set of such items: the search, adding -/
/-- the set at a has the items L -/
structure SetN (w : World) (h : Heap) (a : Addr) (L : List Mem) (es : Array (Int × Value)) (ep : Nat) (t : SetTable) : Prop where
  obj : ∃ o, h.get? a = some o ∧ o.ExactSet ∧ o.data = .set es ep t
  lay : Laid w L es t
  its : ∀ m ∈ L, ItK h m.2 m.1
  le : L.length ≤ t.mask
  few : L.length < 77
section
variable {P : Program} {w : World} {s : Shared} {a x : Addr} {k : NestedKey} {L : List Mem} {es : Array (Int × Value)} {ep : Nat} {t : SetTable}
theorem SetN.fit (R : SetN w s.heap a L es ep t) : t.fits es.size = true := R.lay.fits R.le
theorem SetN.state (R : SetN w s.heap a L es ep t) : Gives P w s (setState a) (es, ep, t) :=
  let ⟨_, at_, _, dat⟩ := R.obj
  fun _ _ _ _ q => wpAny_setState_of at_ dat R.fit q
/-- one item asked: the very key, or on from the next stop -/
theorem SetN.ask (R : SetN w s.heap a L es ep t) (hx : ItK s.heap k x) {i j f : Nat} {m : Mem} {h : Int} {next : SetTable.Probe} {r : SetFound} (hm : L[i]? = some m) (st : t.place.toList[i]? = some j) (hit : m.2 = k → r = .there none)
    (on : m.2 ≠ k → Gives P w s (setSearchFrom a (.ref x) h true f (some next)) r) : Gives P w s (searchRest a (.ref x) h true f es t j i next) r := by
  have got : es[i]? = some (hk w m, Value.ref m.1) := (R.lay.get i).trans (congrArg (Option.map (entry w)) hm)
  have same : Gives P w s (holding [Value.ref m.1] (eqBool (.ref m.1) (.ref x))) (decide (m.2 = k)) := .held fun _ _ _ u q => (nestedKind P w).eqBool u (R.its m (List.mem_of_getElem? hm)).kind hx.kind q
  have live : t.slot j = .live i := slot_live R.lay.tab.ris st
  unfold searchRest
  rw [got]
  refine same.on (R.state.on ?_)
  dsimp only
  by_cases e : m.2 = k
  · rw [hit e]
    exact .yes (by rw [decide_eq_true e]; rfl) .ret
  · have no : decide (m.2 = k) = false := decide_eq_false e
    have self : Gives P w s (isSame (.ref m.1) (.ref m.1)) true := fun _ _ _ _ q => wpAny_isSame_ref_self q
    rw [no, sameMem, live]
    simp only [if_true, got]
    exact .no (by decide) (self.on (Gives.ret.on (.no (by decide) (on e))))
/-- what a search for k gives; K is the first free stop of its way -/
structure Found (L : List Mem) (t : SetTable) (k : NestedKey) (slot : Nat) (r : SetFound) : Prop where
  old : k ∈ keysOf L → r = .there none
  new : k ∉ keysOf L → r = .free slot false
theorem SetN.seek (R : SetN w s.heap a L es ep t) (hx : ItK s.heap k x) {K : Nat} {r : SetFound} (few : K < 10 * SetTable.turns t.mask) (free : way t.mask (k.hash w) K ∉ t.place.toList) (taken : ∀ n, n < K → way t.mask (k.hash w) n ∈ t.place.toList) (F : Found L t k (way t.mask (k.hash w) K) r) (f : Nat) :
    ∀ (c : Nat) (begun : Option SetTable.Probe), begun.getD (t.probeStart (k.hash w)) = stand t.mask (k.hash w) c → c ≤ K → K < c + f → Ahead w L t k c K → Gives P w s (setSearchFrom a (.ref x) (k.hash w) true f begun) r := by
  have whole : t.gaveWay = false := by simp [SetTable.gaveWay, mask_odd R.lay.tab.mok]
  induction f with
  | zero => exact fun c _ _ h1 h2 _ => absurd h2 (by omega)
  | succ f ih =>
    intro c begun here le lt ahead
    rw [setSearchFrom_succ]
    refine R.state.on (.no (by rw [whole]; decide) ?_)
    dsimp only
    rcases R.lay.meets (k.hash w) le few free taken with ⟨n, i, m, _, _, st, hm, no, pr⟩ | ⟨no, pr⟩
    · rw [← here] at pr
      simp only [pr]
      have more := R.ask hx (f := f) (h := k.hash w) (next := stand t.mask (k.hash w) (n + 1)) hm st (fun e => F.old (List.mem_map.mpr ⟨m, List.mem_of_getElem? hm, e⟩)) fun e => ih (n + 1) _ rfl (by omega) (by omega) (R.lay.passed ahead st hm e no)
      by_cases led : t.led = true
      · exact .no (by simp [led]) more
      · refine .yes (by simp [led]) ((unseen hx fun y hy => ?_).on (.no (by decide) more))
        obtain ⟨e, he, rfl⟩ := List.mem_map.mp hy
        have z : e ∈ L.map (entry w) := R.lay.rows ▸ Array.mem_toList_iff.mpr (Array.mem_filter.mp (Array.mem_toList_iff.mp he)).1
        obtain ⟨m2, h2, rfl⟩ := List.mem_map.mp z
        exact ⟨m2.2, m2.1, rfl, R.its m2 h2⟩
    · rw [← here] at pr
      simp only [pr]
      rw [F.new (R.lay.nowhere ahead no)]
      exact .ret
/-- the search, from its beginning: k is there, or its first free stop -/
theorem SetN.search (R : SetN w s.heap a L es ep t) (hx : ItK s.heap k x) : ∃ K r, way t.mask (k.hash w) K ∉ t.place.toList ∧ (∀ n, n < K → way t.mask (k.hash w) n ∈ t.place.toList) ∧ Found L t k (way t.mask (k.hash w) K) r ∧ Gives P w s (setSearch a (.ref x) (k.hash w) true) r := by
  obtain ⟨K, few, free, taken⟩ := R.lay.tab.first (by rw [List.length_map]; exact R.le) (k.hash w)
  have bound : 10 * SetTable.turns t.mask ≤ 99999 := by
    unfold SetTable.turns
    rcases R.lay.tab.mok with e | e | e <;> (rw [e]; decide)
  obtain ⟨r, F⟩ : ∃ r, Found L t k (way t.mask (k.hash w) K) r := by
    by_cases c : k ∈ keysOf L
    · exact ⟨_, fun _ => rfl, fun n => absurd c n⟩
    · exact ⟨_, fun n => absurd n c, fun _ => rfl⟩
  exact ⟨K, r, free, taken, F, R.seek hx few free taken F 100000 0 none rfl (Nat.zero_le _) (by omega) (R.lay.begin free)⟩
/-- an item is another object than the set -/
theorem SetN.other (R : SetN w s.heap a L es ep t) {h' : Heap} (z : ItK s.heap k x) (sb : Heap.SameBut a s.heap h') : ItK h' k x :=
  z.keep fun c o vs n at_ dat => by
    obtain ⟨u, u1, _, u2⟩ := R.obj
    by_cases e : c = a
    · cases (e ▸ at_ : s.heap.get? a = some o).symm.trans u1
      cases dat.symm.trans u2
    · exact (sb.2 c e).trans at_
variable {A : Around} {E : Value → Shared → Prop}
/-- other entries and another table stored -/
theorem SetN.store (R : SetN w s.heap a L es ep t) {L' : List Mem} {es' : Array (Int × Value)} {t' : SetTable} {Q : Unit → Shared → Prop} (lay : Laid w L' es' t') (its : ∀ m ∈ L', ItK s.heap m.2 m.1) (le : L'.length ≤ t'.mask) (few : L'.length < 77)
    (go : ∀ h', Heap.SameBut a s.heap h' → SetN w h' a L' es' (ep + 1) t' → Q () { s with heap := h' }) : wpAny (model P w) A (storeSet a es' t') Q E s := by
  obtain ⟨o, at_, ex, dat⟩ := R.obj
  have sb := Heap.SameBut.update s.heap a (Obj.putSet es' t')
  exact wpAny_storeSet_of at_ dat (go _ sb ⟨⟨_, store_at at_ dat, ex, rfl⟩, lay, fun m hm => R.other (its m hm) sb, le, few⟩) (by rw [lay.size, sizeLine_eq]; omega)
/-- the table laid anew -/
theorem SetN.relay (R : SetN w s.heap a L es ep t) {want M : Nat} {Q : Unit → Shared → Prop} (e : SetTable.sizeAbove want = M + 1) (hM : MaskOk M) (le : L.length ≤ M)
    (go : ∀ h' L' es' t', Heap.SameBut a s.heap h' → SetN w h' a L' es' (ep + 1) t' → L'.Perm L → t'.mask = M → Q () { s with heap := h' }) : wpAny (model P w) A (setRelay a want) Q E s := by
  obtain ⟨t2, order, L2, q, sz, em, pm, lay⟩ := R.lay.anew (want := want) (by rw [e]; rfl) hM le
  have small : M ≤ 127 := by rcases hM with z | z | z <;> omega
  obtain ⟨o, at_, _, dat⟩ := R.obj
  rw [setRelay_eq]
  refine wpAny_bind (wpAny_setState_of at_ dat R.fit ?_)
  simp only [q, sz]
  refine wp_if_neg (by rw [e, sizeLine_eq]; omega) (wpAny_bind (wp_if_neg (by simp) (wpAny_pure ?_)))
  have same : L2.length = L.length := pm.length_eq
  exact R.store lay (fun m hm => R.its m (pm.mem_iff.mp hm)) (by rw [same, em]; exact le) (by rw [same]; exact R.few) fun h' sb R2 => go h' L2 _ t2 sb R2 pm em
/-- a list of items with one more, if its key is new -/
def ins (L : List Mem) (m : Mem) : List Mem := if m.2 ∈ keysOf L then L else m :: L
/-- the table has room for one more -/
abbrev Roomy (L : List Mem) (t : SetTable) : Prop := L.length * 5 < t.mask * 3
theorem SetN.add (R : SetN w s.heap a L es ep t) (roomy : Roomy L t) (hx : ItK s.heap k x) (hu : A.units + 8 < cLine) (fw : L.length + 1 < 77) {Q : Bool → Shared → Prop}
    (go : ∀ b h' L' es' ep' t', Heap.SameBut a s.heap h' → SetN w h' a L' es' ep' t' → Roomy L' t' → L'.Perm (ins L (x, k)) → Q b { s with heap := h' }) : wpAny (model P w) A (setAddHashed a (.ref x) (k.hash w)) Q E s := by
  obtain ⟨K, r, free, taken, F, S⟩ := R.search (P := P) hx
  unfold setAddHashed
  refine wpAny_holding ?_
  show wpAny _ _ (setAddHashedIn a (.ref x) (k.hash w) (99999 + 1)) _ _ _
  rw [setAddHashedIn_succ]
  refine wpAny_bind (R.state A E _ hu (wp_if_neg (by simp [byScan, Value.scannable]) (wpAny_bind (S A E _ hu ?_))))
  by_cases c : k ∈ keysOf L
  · rw [F.old c]
    exact wpAny_pure (go false s.heap L es ep t (.refl ..) R roomy (by rw [ins, if_pos c]))
  rw [F.new c]
  obtain ⟨t1, p, L1, q, em, full, pm, lay⟩ := R.lay.put c free taken (x := x)
  refine wpAny_bind (R.state A E _ hu ?_)
  simp only [q, lay.calm]
  refine wp_if_pos trivial (wpAny_bind ((calm_key 8 _ _ hx.is hx.nu hx.dp).1 A E _ hu ?_))
  simp only [if_true]
  have one_more : L1.length = L.length + 1 := pm.length_eq
  have told : (x, k) :: L = ins L (x, k) := (if_neg c).symm
  have its : ∀ m ∈ L1, ItK s.heap m.2 m.1 := fun m hm => (List.mem_cons.mp (pm.mem_iff.mp hm)).elim (fun e => e ▸ hx) (R.its m)
  have len := R.lay.tab.mok
  refine wpAny_bind (R.store lay its (by rw [one_more, em]; rcases len with z | z | z <;> omega) (by omega) fun h1 sb R1 => ?_)
  have asked : t1.tooFull = decide (t.mask * 3 ≤ (L.length + 1) * 5) := by simp [SetTable.tooFull, full, em]
  by_cases big : t.mask * 3 ≤ (L.length + 1) * 5
  · obtain ⟨M, e, hM, wide⟩ : ∃ M, SetTable.sizeAbove (SetTable.grown (L.length + 1)) = M + 1 ∧ MaskOk M ∧ (L.length + 1) * 5 < M * 3 := by
      rcases len with z | z | z
      · have n : L.length = 4 := by omega
        exact ⟨31, by rw [n, size_20], .inr (.inl rfl), by omega⟩
      · have n : L.length = 18 := by omega
        exact ⟨127, by rw [n, size_76], .inr (.inr rfl), by omega⟩
      · omega
    refine wp_if_pos (by simp [asked, big]) (wpAny_bind ?_)
    rw [R.lay.size]
    refine SetN.relay (s := { s with heap := h1 }) R1 e hM (by omega) fun h2 L2 es2 t2 sb2 R2 pm2 em2 => wpAny_pure ?_
    exact go true h2 L2 es2 _ t2 (sb.trans sb2) R2 (by rw [Roomy, pm2.length_eq, one_more, em2]; exact wide) (told ▸ pm2.trans pm)
  · refine wp_if_neg (by simp [asked, big]) (wpAny_pure ?_)
    exact go true h1 L1 _ _ t1 sb R1 (by rw [Roomy, one_more, em]; omega) (told ▸ pm)
end
end K47
set_option Elab.async false
set_option linter.all false
set_option maxRecDepth 100000
set_option maxHeartbeats 4000000
namespace K47
open PySem PySem.Spec PyProof.Rows L2

/-! ### set(a list of such items) -/
theorem mem_ins {L : List Mem} {m x : Mem} (h : x ∈ ins L m) : x ∈ L ∨ x = m := by
  unfold ins at h
  split at h
  · exact .inl h
  · exact (List.mem_cons.mp h).symm
theorem key_ins {L : List Mem} {m : Mem} {k : NestedKey} : k ∈ keysOf (ins L m) ↔ k ∈ keysOf L ∨ k = m.2 := by
  unfold ins
  split
  · rename_i c
    exact ⟨.inl, fun h => h.elim id fun e => e ▸ c⟩
  · exact List.mem_cons.trans or_comm
theorem len_ins_le (L : List Mem) (m : Mem) : (ins L m).length ≤ L.length + 1 := by
  unfold ins
  split
  · exact Nat.le_succ _
  · exact Nat.le_refl _
theorem perm_ins {L M : List Mem} (p : L.Perm M) (m : Mem) : (ins L m).Perm (ins M m) := by
  have same := (keys_perm p).mem_iff (a := m.2)
  by_cases c : m.2 ∈ keysOf L
  · rw [ins, ins, if_pos c, if_pos (same.mp c)]
    exact p
  · rw [ins, ins, if_neg c, if_neg fun z => c (same.mpr z)]
    exact p.cons m
/-- the items of a list, each key once -/
abbrev gath (L : List Mem) (ms : List Mem) : List Mem := ms.foldl ins L
theorem gath_perm : ∀ (ms : List Mem) {L M : List Mem}, L.Perm M → (gath L ms).Perm (gath M ms)
  | [], _, _, p => p
  | m :: ms, _, _, p => gath_perm ms (perm_ins p m)
theorem mem_gath {x : Mem} : ∀ (ms : List Mem) {L : List Mem}, x ∈ gath L ms → x ∈ L ∨ x ∈ ms
  | [], _, h => .inl h
  | _ :: ms, _, h => (mem_gath ms h).elim (fun z => (mem_ins z).elim .inl fun e => .inr (e ▸ .head _)) fun z => .inr (.tail _ z)
theorem key_gath {k : NestedKey} : ∀ (ms : List Mem) {L : List Mem}, k ∈ keysOf L ∨ k ∈ keysOf ms → k ∈ keysOf (gath L ms)
  | [], _, h => h.elim id fun z => nomatch z
  | m :: ms, _, h => key_gath ms (h.elim (fun z => .inl (key_ins.mpr (.inl z))) fun z => (List.mem_cons.mp z).elim (fun e => .inl (key_ins.mpr (.inr e))) .inr)
/-- all that the one heap has stands in the other as it was -/
abbrev Older (h0 h : Heap) : Prop := ∀ b o, h0.get? b = some o → h.get? b = some o
section
variable {P : Program} {w : World} {A : Around} {E : Value → Shared → Prop} {s : Shared}
/-- one turn of the loop that gathers -/
theorem gather_turn {S I : Addr} {R : Result → Shared → Prop}
    (h : wpAny (model P w) A.in1 (pyNext (.ref I)) (fun got s1 => match got with
      | none => R (.ok (.ret .none)) s1
      | some x => wpAny (model P w) A.in1 (setAdd S x) (fun _ s2 => codeAny (model P w) A (.builtin "set.update.loop" ⟨[.ref S, .ref I], []⟩) R s2) (fun e s2 => R (.error e) s2) s1) (fun e s1 => R (.error e) s1) s) :
    codeAny (model P w) A (.builtin "set.update.loop" ⟨[.ref S, .ref I], []⟩) R s := by
  refine codeAny_builtin F.entry_set_update_loop ((Around.under_plainId F.plain_set_update_loop _).symm ▸ wpAny_bind (wpAny_mono h (fun got s1 g => ?_) fun _ _ => id))
  cases got with
  | none => exact wpAny_pure g
  | some x => exact wpAny_bind (wpAny_holding (wpAny_mono g (fun _ s2 z => wpAny_pure ⟨plainId_quiet F.plain_set_update_loop _, z⟩) fun _ _ => id))
/-- the loop, by what is still to come -/
theorem gather {S I : Addr} {fp wr : List Addr} {G : Array GenState → Array GenState → Prop} {Pv : Nat → Value → Prop} {St : Nat → Shared → Prop} {ms : List Mem} {h0 : Heap} {R : Result → Shared → Prop} {n : Nat} (len : n = ms.length) (W : WalksS P w A.in1 I fp wr G n Pv St)
    (apart : S ∉ fp) (val : ∀ i v, Pv i v → ∃ m, ms[i]? = some m ∧ v = .ref m.1) (few : ms.length < 77) (room : A.units + 9 < cLine) (its : ∀ m ∈ ms, ItK h0 m.2 m.1) (new : h0.get? S = none) (news : ∀ b ∈ wr, h0.get? b = none) :
    ∀ (todo : List Mem) (i : Nat) (s : Shared) (L : List Mem) (es : Array (Int × Value)) (ep : Nat) (t : SetTable), ms.drop i = todo → i ≤ ms.length → St i s → Older h0 s.heap → SetN w s.heap S L es ep t → Roomy L t → (∀ m ∈ L, m ∈ ms) → L.length ≤ i →
      (∀ s' L' es' ep' t', Moved (S :: wr) G s s' → Older h0 s'.heap → SetN w s'.heap S L' es' ep' t' → L'.Perm (gath L todo) → R (.ok (.ret .none)) s') →
      codeAny (model P w) A (.builtin "set.update.loop" ⟨[.ref S, .ref I], []⟩) R s := by
  subst len
  have Sw : S ∉ wr := fun h => apart (W.sub _ h)
  have wide : ∀ {s s' : Shared}, Moved wr G s s' → Moved (S :: wr) G s s' := fun mv => mv.mono fun b hb => .tail _ hb
  have on : ∀ {s s' : Shared}, Moved wr G s s' → Older h0 s.heap → Older h0 s'.heap := fun mv old b o e => mv.heap b o (fun z => by cases (news b z).symm.trans e) (old b o e)
  -- the set, behind a step of the walk
  have held : ∀ {s s' : Shared} {L es ep t}, Moved wr G s s' → Older h0 s.heap → (∀ m ∈ L, m ∈ ms) → SetN w s.heap S L es ep t → SetN w s'.heap S L es ep t := fun mv old sub R =>
    let ⟨o, e, r⟩ := R.obj
    ⟨⟨o, mv.heap S o Sw e, r⟩, R.lay, fun m hm => (its m (sub m hm)).all (on mv old), R.le, R.few⟩
  intro todo
  induction todo with
  | nil =>
    intro i s L es ep t rest le st old R _ sub _ fin
    obtain rfl : i = ms.length := Nat.le_antisymm le (List.drop_eq_nil_iff.mp rest)
    exact gather_turn (W.done s _ _ st fun s' mv => fin s' L es ep t (wide mv) (on mv old) (held mv old sub R) (.refl _))
  | cons m todo ih =>
    intro i s L es ep t rest le st old R roomy sub short fin
    have lt : i < ms.length := Nat.lt_of_not_le fun z => by
      rw [List.drop_eq_nil_iff.mpr z] at rest
      cases rest
    obtain ⟨e1, e2⟩ := List.cons.inj ((List.drop_eq_getElem_cons lt).symm.trans rest)
    have hm : m ∈ ms := e1 ▸ List.getElem_mem lt
    refine gather_turn (W.item i s _ _ lt st fun v s1 hv st1 mv => ?_)
    obtain ⟨m', at_, rfl⟩ := val i v hv
    obtain rfl : m' = m := by
      rw [List.getElem?_eq_getElem lt] at at_
      exact (Option.some.inj at_).symm.trans e1
    have old1 := on mv old
    have R1 := held mv old sub R
    have x1 : ItK s1.heap m'.2 m'.1 := (its m' hm).all old1
    have units : A.in1.units + 8 < cLine := by show A.units + 1 + 8 < cLine; omega
    show wpAny _ _ (setAdd S (.ref m'.1)) _ _ _
    unfold setAdd
    refine wpAny_holding (wpAny_bind ((nestedKind P w).pyHash (k := m'.2) units x1.kind ?_))
    refine SetN.add (s := { s1 with toks := s1.toks + m'.2.draws }) R1 roomy x1 units (by omega) fun _ h2 L2 es2 ep2 t2 sb R2 roomy2 pm => ?_
    have old2 : Older h0 h2 := fun b o e => (sb.2 b fun z => by cases (z ▸ new : h0.get? b = none).symm.trans e).trans (old1 b o e)
    refine ih (i + 1) _ L2 es2 ep2 t2 e2 lt (W.frame _ s1 _ _ st1 (Nat.le_add_right ..) fun b hb o e => (sb.2 b fun z => apart (z ▸ hb)).trans e) old2 R2 roomy2 (fun q hq => (mem_ins (pm.mem_iff.mp hq)).elim (sub q) fun e => e ▸ hm) ?_ fun s' L' es' ep' t' mv2 old' R' pm' => ?_
    · exact pm.length_eq ▸ Nat.le_trans (len_ins_le L _) (Nat.succ_le_succ short)
    · refine fin s' L' es' ep' t' (Moved.trans W.gtrans ((wide mv).then_heap (Nat.le_add_right ..) fun b o hb e => ?_) mv2) old' R' (pm'.trans (gath_perm todo pm))
      exact (sb.2 b fun z => hb (z ▸ .head _)).trans e
/-- a set as it is made: without items -/
def bareSet (w : World) : Obj := { cls := .type "set", dict := none, data := .set #[] 0 (.fresh 0 0 (!w.params.followText "set-order")) }
theorem SetN.bare {h : Heap} {a : Addr} (at_ : h.get? a = some (bareSet w)) : SetN w h a [] #[] 0 (.fresh 0 0 (!w.params.followText "set-order")) where
  obj := ⟨_, at_, ⟨rfl, rfl, rfl⟩, rfl⟩
  lay := ⟨rfl, ⟨.nil, rfl, rfl, .inl rfl, (fun _ h => nomatch h), fun _ _ _ h => by simp at h⟩, .nil, rfl, by
    rcases Bool.eq_false_or_eq_true (w.params.followText "set-order") with e | e
    · exact .inl e
    · exact .inr (by show (!_) = true; rw [e]; rfl)⟩
  its := fun _ h => nomatch h
  le := Nat.zero_le _
  few := by decide
/-- a code that hands back a value, and what goes on from it -/
theorem code_on {c : Code} {Q : Value → Shared → Prop} {R : Result → Shared → Prop} (h : codeAny (model P w) A c (wants Q E) s) (good : ∀ v s', Q v s' → R (.ok (.ret v)) s') (bad : ∀ e s', E e s' → R (.error e) s') : codeAny (model P w) A c R s :=
  codeAny_mono h fun r s' z => match r, z with
    | .error e, z => bad e s' z
    | .ok (.ret v), z => good v s' z
    | .ok .next, z => z.elim
    | .ok .brk, z => z.elim
    | .ok .cont, z => z.elim
/-- set(x): a bare set is made, and __init__ fills it -/
theorem set_made {x : Value} {Q : Value → Shared → Prop}
    (init : wpAny (model P w) A.in1.in1 (Builtin.«set.__init__» ⟨[.ref s.heap.objs.size, x], []⟩) (fun fin s' => fin = PySem.Fin.done (.ret .none) ∧ Q (.ref s.heap.objs.size) s') E { s with heap := s.heap.push (bareSet w) }) :
    wpAny (model P w) A (call (.type "set") [x]) Q E s := by
  obtain ⟨nt, cc, ⟨c, tl, mro⟩, made, _, sub, ini⟩ := F.called_set
  have ok := F.typeCall_set_1 x
  have at_ : (s.heap.push (bareSet w)).get? s.heap.objs.size = some (bareSet w) := Heap.get?_push_size _ rfl
  have ty : Shared.TypeIs { s with heap := s.heap.push (bareSet w) } (.ref s.heap.objs.size) "set" := ⟨_, at_, rfl⟩
  have look := ini.lookup
  have bind := ini.bind (.ref s.heap.objs.size)
  refine wpAny_call (codeAny_of_tree ?_)
  show wpAny _ _ (again (.builtin "type.__call__" ⟨[.type "set", x], []⟩)) _ _ _
  refine wpAny_pure ⟨by exact Code.quiet_builtin _ (by decide +kernel), codeAny_builtin F.entry_type_call (Around.under_plain (weight_type_call_type "set" [x] []) rfl ▸ ?_)⟩
  wp_walk
  refine code_on (code_set_led1 x (E := E) (Q₁ := fun v s1 => v = .ref s.heap.objs.size ∧ s1 = { s with heap := s.heap.push (bareSet w) }) ⟨rfl, rfl⟩) (fun v s1 hv => ?_) fun _ _ => id
  obtain ⟨rfl, rfl⟩ := hv
  show wpAny _ _ _ _ _ _
  wp_walk
  refine code_on (E := E) (Q := fun r s2 => r = .none ∧ Q (.ref s.heap.objs.size) s2) (codeAny_call_builtin ini.plain F.entry_set_init (check_set_init_1 ty ?_)) (fun v s2 hv => ?_) fun _ _ => id
  · exact wpAny_mono init (fun fin s' h => by obtain ⟨rfl, q⟩ := h; exact ⟨rfl, q⟩) fun _ _ => id
  · obtain ⟨rfl, q⟩ := hv
    show wpAny _ _ _ _ _ _
    wp_walk
    exact q
/-- __init__ of a bare set, from a list: the loop over the list's iterator -/
theorem init_list {S l : Addr} {items : Array Value} {Q : Shared → Prop} (at_ : s.heap.get? S = some (bareSet w)) (list : s.heap.IsList l items)
    (loop : codeAny (model P w) A (.builtin "set.update.loop" ⟨[.ref S, .ref s.heap.objs.size], []⟩) (fun r s' => r = .ok (.ret .none) ∧ Q s') { s with heap := s.heap.push { cls := .type "list_iterator", data := .fields #[.ref l, .int 0 0] } }) :
    wpAny (model P w) A (Builtin.«set.__init__» ⟨[.ref S, .ref l], []⟩) (fun fin s' => fin = PySem.Fin.done (.ret .none) ∧ Q s') E s := by
  have tS : s.TypeIs (.ref S) "set" := ⟨_, at_, rfl⟩
  have tl : s.TypeIs (.ref l) "list" := list.typeIs
  have no1 := F.sub_list_set
  have no2 := F.sub_list_frozenset
  unfold Builtin.«set.__init__»
  wp_walk using wpAny_pyIter_list list
  refine codeAny_mono loop fun r s' h => ?_
  obtain ⟨rfl, q⟩ := h
  exact wpAny_pure (wpAny_pure ⟨rfl, q⟩)
/-- set(xs): the items of xs, each key once -/
theorem set_of_list {l : Addr} {items : Array Value} (ms : List Mem) {Q : Value → Shared → Prop} (hh : A.handled = none) (list : s.heap.IsList l items) (hit : items.toList = ms.map fun m => Value.ref m.1) (its : ∀ m ∈ ms, ItK s.heap m.2 m.1) (few : ms.length < 77) (room : A.units + 20 < cLine)
    (go : ∀ (h' : Heap) (tk : Nat) L es ep t, SetN w h' s.heap.objs.size L es ep t → L.Perm (gath [] ms) → Older s.heap h' → Q (.ref s.heap.objs.size) { s with heap := h', toks := tk }) : wpAny (model P w) A (call (.type "set") [.ref l]) Q E s := by
  obtain ⟨o, at_l, _⟩ := id list
  have below : l < s.heap.objs.size := Heap.lt_size at_l
  have size1 : (s.heap.push (bareSet w)).objs.size = s.heap.objs.size + 1 := Heap.size_push ..
  have val : ∀ (i : Nat) (v : Value), items[i]? = some v → ∃ m, ms[i]? = some m ∧ v = .ref m.1 := fun i v e => by
    have z : (ms.map fun m => Value.ref m.1)[i]? = some v := hit ▸ Array.getElem?_toList.trans e
    rw [List.getElem?_map, Option.map_eq_some_iff] at z
    exact z.imp fun m q => ⟨q.1, q.2.symm⟩
  have fresh : ∀ b, s.heap.objs.size ≤ b → s.heap.get? b = none := fun b le => Heap.get?_none_of_le le
  have old1 : Older s.heap (s.heap.push (bareSet w)) := fun _ _ e => Heap.get?_push_of_some _ e
  have list1 : (s.heap.push (bareSet w)).IsList l items := list.push _
  have at_S : (s.heap.push (bareSet w)).get? s.heap.objs.size = some (bareSet w) := Heap.get?_push_size _ rfl
  have W := (Walks.list (prog := P) (w := w) (A := A.in1.in1.in1) hh (s.heap.push (bareSet w)).objs.size l (size1 ▸ Nat.ne_of_lt (Nat.lt_succ_of_lt below)) items).toS
  have apart : s.heap.objs.size ∉ [(s.heap.push (bareSet w)).objs.size, l] := fun h => (List.mem_cons.mp h).elim (fun e => Nat.succ_ne_self _ (e.trans size1).symm) fun e => Nat.ne_of_gt below (List.mem_singleton.mp e)
  refine set_made (init_list at_S list1 (gather (h0 := s.heap) (by simpa using congrArg List.length hit) W apart val few (by show A.units + 1 + 1 + 9 < cLine; omega) its (fresh _ (Nat.le_refl _)) (fun b hb => fresh b (by rw [List.mem_singleton.mp hb, size1]; exact Nat.le_succ _)) ms 0 _ [] #[] 0 _ rfl (Nat.zero_le _)
    ⟨⟨_, Heap.get?_push_size _ rfl, rfl, rfl⟩, list1.push _⟩ (fun b o e => Heap.get?_push_of_some _ (old1 b o e)) (SetN.bare (Heap.get?_push_of_some _ at_S)) (show 0 * 5 < 7 * 3 by decide) (fun _ h => nomatch h) (Nat.le_refl _) fun s' L es ep t mv old R pm => ?_))
  obtain ⟨h', g', d', tk, os'⟩ := s'
  cases (mv.gens : g' = s.gens)
  cases (mv.drawn : d' = s.drawn)
  cases (mv.os : os' = s.os)
  exact ⟨rfl, go h' tk L es ep t R pm old⟩
end
end K47
set_option Elab.async false
set_option linter.all false
set_option maxRecDepth 100000
set_option maxHeartbeats 4000000
namespace K47
open PySem PySem.Spec PyProof.Rows L2

/-! ### sorted(set(xs)), len(set(xs)) -/
def nub {α : Type} [DecidableEq α] (bs : List α) : List α := bs.foldr (fun x acc => if x ∈ acc then acc else x :: acc) []
section
variable {α : Type} [DecidableEq α]
theorem nub_cons (x : α) (l : List α) : nub (x :: l) = if x ∈ nub l then nub l else x :: nub l := rfl
theorem mem_nub {x : α} : ∀ {bs : List α}, x ∈ nub bs ↔ x ∈ bs
  | [] => Iff.rfl
  | y :: bs => by
    rw [nub_cons]
    have ih := mem_nub (x := x) (bs := bs)
    by_cases c : y ∈ nub bs
    · rw [if_pos c, ih, List.mem_cons]
      refine ⟨.inr, fun h => h.elim (fun e => ?_) id⟩
      rw [e]; exact mem_nub.mp c
    · rw [if_neg c, List.mem_cons, List.mem_cons, ih]
theorem nub_nodup : ∀ (bs : List α), (nub bs).Nodup
  | [] => List.nodup_nil
  | y :: bs => by
    rw [nub_cons]
    by_cases c : y ∈ nub bs
    · rw [if_pos c]; exact nub_nodup bs
    · rw [if_neg c]; exact List.nodup_cons.mpr ⟨c, nub_nodup bs⟩
theorem nub_same : ∀ {bs : List α}, bs.Nodup → nub bs = bs
  | [], _ => rfl
  | y :: bs, h => by
    have h2 := List.nodup_cons.mp h
    rw [nub_cons, nub_same h2.2, if_neg h2.1]
end
theorem perm_lift {α β : Type} {f : α → β} {out m : List β} (p : out.Perm m) : ∀ l : List α, m = l.map f → ∃ l' : List α, l'.Perm l ∧ out = l'.map f := by
  induction p with
  | nil =>
    intro l e
    exact ⟨l, .refl _, e⟩
  | @cons x l1 l2 _ ih =>
    intro l e
    cases l with
    | nil => cases e
    | cons y l =>
      rw [List.map_cons] at e
      injection e with e1 e2
      obtain ⟨l', h1, h2⟩ := ih l e2
      exact ⟨y :: l', h1.cons y, by rw [List.map_cons, ← h2, e1]⟩
  | swap x y l0 =>
    intro l e
    cases l with
    | nil => cases e
    | cons u l =>
      cases l with
      | nil => rw [List.map_cons] at e; injection e with _ e; cases e
      | cons v l =>
        rw [List.map_cons, List.map_cons] at e
        injection e with e1 e2
        injection e2 with e2 e3
        exact ⟨v :: u :: l, List.Perm.swap .., by rw [List.map_cons, List.map_cons, ← e3, e1, e2]⟩
  | trans _ _ ih1 ih2 =>
    intro l e
    obtain ⟨l1, h1, h2⟩ := ih2 l e
    obtain ⟨l2, h3, h4⟩ := ih1 l1 h2
    exact ⟨l2, h3.trans h1, h4⟩
/-- addresses for the items -/
theorem dts_refs {α : Type} {enc : α → PyData} {H : Hp} (tu : ∀ a, ∃ xs, enc a = .tuple xs) : ∀ {bs : List α} {vs : List V}, Dts H vs (bs.map enc) → ∃ ps : List (Addr × α), vs = ps.map (fun p => V.ref p.1) ∧ bs = ps.map (·.2) ∧ ∀ p ∈ ps, Dt H (.ref p.1) (enc p.2)
  | [], _, h => by cases h; exact ⟨[], rfl, rfl, fun _ h => nomatch h⟩
  | b :: bs, _, h => by
    cases h with
    | cons h t =>
      obtain ⟨ps, e1, e2, e3⟩ := dts_refs tu t
      have h' := h
      obtain ⟨xs, ex⟩ := tu b
      rw [ex] at h
      cases h with
      | @tup a _ _ q1 q2 =>
        refine ⟨(a, b) :: ps, by rw [List.map_cons, e1], by rw [List.map_cons, ← e2], fun p hp => ?_⟩
        rcases List.mem_cons.mp hp with e | hp
        · subst e; exact h'
        · exact e3 p hp
theorem dts_refs_of {α : Type} {enc : α → PyData} {H : Hp} : ∀ {z : List (Addr × α)}, (∀ p ∈ z, Dt H (.ref p.1) (enc p.2)) → Dts H (z.map fun p => V.ref p.1) ((z.map (·.2)).map enc)
  | [], _ => .nil
  | p :: z, h => .cons (h p List.mem_cons_self) (dts_refs_of fun q hq => h q (List.mem_cons_of_mem _ hq))
section
variable {X : Cx} {pins : List (Addr × Obj)} {σ : L2.St} {H : Hp} {s : Shared} {α : Type} [DecidableEq α] {enc : α → PyData}
/-- the items a set can have here -/
structure SetOk (enc : α → PyData) : Prop where
  ec : EncOk enc
  tu : ∀ a, ∃ xs, enc a = .tuple xs
  nu : ∀ a, numK (kyA enc a) = true
def memOf (enc : α → PyData) (p : Addr × α) : Mem := (p.1, kyA enc p.2)
theorem item_at (so : SetOk enc) (I : Inv X pins σ H s) {a : Addr} {x : α} (h : Dt H (.ref a) (enc x)) : ItK s.heap (kyA enc x) a := ⟨(key_at I h (so.ec.good x)).1, so.nu x, kyA_dp so.ec x⟩
/-- what a set made of the items has -/
theorem set_items (so : SetOk enc) {ps : List (Addr × α)} {L : List Mem} (g : L.Perm (gath [] (ps.map (memOf enc)))) (one : (keysOf L).Nodup) : ∃ qs : List (Addr × α), L = qs.map (memOf enc) ∧ (∀ q ∈ qs, q ∈ ps) ∧ (qs.map (·.2)).Nodup ∧ ∀ x, x ∈ qs.map (·.2) ↔ x ∈ ps.map (·.2) := by
  have from_ : ∀ m ∈ L, ∃ p, p ∈ ps ∧ memOf enc p = m := fun m hm => List.mem_map.mp ((mem_gath _ (g.mem_iff.mp hm)).resolve_left List.not_mem_nil)
  obtain ⟨qs, rfl, sub⟩ : ∃ qs : List (Addr × α), L = qs.map (memOf enc) ∧ ∀ q ∈ qs, q ∈ ps := by
    clear g one
    induction L with
    | nil => exact ⟨[], rfl, fun _ h => nomatch h⟩
    | cons m L ih =>
      obtain ⟨p, hp, rfl⟩ := from_ m (.head _)
      obtain ⟨qs, rfl, sub⟩ := ih fun m' hm' => from_ m' (.tail _ hm')
      exact ⟨p :: qs, rfl, List.forall_mem_cons.mpr ⟨hp, sub⟩⟩
  have keys : ∀ l : List (Addr × α), keysOf (l.map (memOf enc)) = (l.map (·.2)).map (kyA enc) := fun l => by rw [keysOf, List.map_map, List.map_map]; rfl
  have back : ∀ {l : List α} {x : α}, kyA enc x ∈ l.map (kyA enc) → x ∈ l := fun h => by
    obtain ⟨y, hy, e⟩ := List.mem_map.mp h
    exact kyA_inj so.ec e ▸ hy
  refine ⟨qs, rfl, sub, ?_, fun x => ⟨fun h => ?_, fun h => back ?_⟩⟩
  · rw [keys] at one
    exact List.Pairwise.of_map (kyA enc) (fun _ _ ne e => ne (congrArg (kyA enc) e)) one
  · obtain ⟨q, hq, e⟩ := List.mem_map.mp h
    exact List.mem_map.mpr ⟨q, sub q hq, e⟩
  · rw [← keys]
    exact (keys_perm g).mem_iff.mpr (key_gath _ (.inr (keys ps ▸ List.mem_map_of_mem h)))
theorem same_perm {as bs : List α} (h1 : as.Nodup) (h2 : ∀ x, x ∈ as ↔ x ∈ bs) : as.Perm (nub bs) := (List.perm_ext_iff_of_nodup h1 (nub_nodup bs)).mpr fun x => by rw [h2, mem_nub]
def tSortSet (K : PySem.W.Frag) (enc : α → PyData) (bs : List α) (ta : TE) : TE := fun σ H Q => ta σ H fun x H1 => ∃ (l : Addr) (vs : List V), x = V.ref l ∧ SqL K H1 l vs ∧ Dts H1 vs (bs.map enc) ∧ ∀ p ys, H1 p = none → Dts H1 ys ((srt enc (nub bs)).map enc) → Q (.ref p) (upd H1 p (.lst ys))
theorem pe_sortSet {a : Expr} {ta : TE} {bs : List α} {p p2 q pos : Pos} (so : SetOk enc) (st : SortOk enc bs) (hf : bs.length < 77) (hu : X.A.units + 65 < cLine) (hc : X.calm = true) (hg : Gl X "sorted") (hm : X.mg "sorted" = none) (hg2 : Gl X "set") (hm2 : X.mg "set" = none) (ha : PE X a ta)
    (na : starEach [a] X.env = (false, eval a X.env) :: starEach [] X.env := by rfl) : PE X (.Call (.Name "sorted" p) [.Call (.Name "set" p2) [a] [] q] [] pos) (tSortSet X.K enc bs ta) := by
  refine ⟨fun pins s σ H Q I h => Call_ (ld_blt I hg hm (show bootBuiltins "sorted" = some (.builtin "sorted") by decide +kernel) ?_)⟩
  refine PyProof.Rows.callWith_builtin1 (PyProof.Rows.args_cons ?_ rfl) rfl rfl
  refine Call_ (ld_blt I hg2 hm2 PyProof.Rows.boot_set (PyProof.Rows.callWith_type1 (PyProof.Rows.args_cons (thn (ha.run pins s σ H _ I h) fun v s1 ⟨x, H1, I1, r1, q1⟩ => PyProof.Rows.args_nil ?_) na) na rfl))
  obtain ⟨l, vs, rfl, hq, t, q1⟩ := q1
  cases r1
  obtain ⟨its, rv, pl, hz⟩ := I1.list hq
  obtain ⟨ps, e1, e2, e3⟩ := dts_refs so.tu t
  have hits : its.toArray.toList = (ps.map (memOf enc)).map fun m => Value.ref m.1 := by
    rw [List.toList_toArray, List.map_map]
    rw [e1] at rv
    clear e1 e2 e3 t hq q1 pl
    induction ps generalizing its with
    | nil => cases rv; rfl
    | cons x l ih =>
      cases rv with
      | cons r0 t0 =>
        cases r0
        rw [List.map_cons, ← ih _ t0]
        rfl
  have lps : ps.length = bs.length := by rw [e2, List.length_map]
  refine set_of_list (ps.map (memOf enc)) (I1.ok.hd hc) pl.isList hits (fun m hm => ?_) (by rw [List.length_map]; omega) (by omega) fun h' tk L es ep tb R g kp => ?_
  · obtain ⟨p, hp, e⟩ := List.mem_map.mp hm
    subst e
    exact item_at so I1 (e3 p hp)
  obtain ⟨qs, f1, f2, f3, f4⟩ := set_items so g R.lay.one
  have I2 : Inv X pins σ H1 { s1 with heap := h', toks := tk } := I1.kept kp
  refine PyProof.Rows.args_nil ?_
  -- sorted(the set)
  obtain ⟨o, ho, hex, hd⟩ := R.obj
  have lq : qs.length ≤ bs.length := by
    have z := (same_perm f3 f4).length_eq
    rw [List.length_map] at z
    have z2 : (nub (ps.map (·.2))).length ≤ (ps.map (·.2)).length := by
      generalize ps.map (·.2) = m
      induction m with
      | nil => exact Nat.le_refl _
      | cons y m ih =>
        rw [nub_cons]
        split
        · exact Nat.le_succ_of_le ih
        · exact Nat.succ_le_succ ih
    rw [List.length_map] at z2
    omega
  refine Calls.call_function_entry kind_sorted plain_sorted entry_sorted (args_sorted1 _) ?_
  unfold Builtin.«sorted»
  refine wpAny_bind (m := checkCount "sorted" 1 1 _) (wpAny_pure ?_)
  refine wpAny_bind (collect_set (A := X.A.in1) (I2.ok.hd hc) ⟨o, ho, hex.1, hd⟩ (SetN.fit (s := { s1 with heap := h', toks := tk }) R) (by have := R.lay.size; have := R.few; unfold scanBound; omega) R.lay.tab.ris R.lay.led fun s2 out k2 hz2 g2 o2 pm => ?_)
  have hes : es.toList.map (·.2) = qs.map fun q => Value.ref q.1 := by
    rw [R.lay.rows, f1, List.map_map, List.map_map]
    rfl
  rw [hes] at pm
  obtain ⟨qs2, p1, p2⟩ := perm_lift pm qs rfl
  have so2 : SortOk (fun p : Addr × α => enc p.2) qs2 := by
    have mem : ∀ p ∈ qs2, p.2 ∈ bs := fun p hp => by
      rw [e2]
      exact List.mem_map.mpr ⟨p, f2 p (p1.mem_iff.mp hp), rfl⟩
    exact ⟨fun p hp q hq => st.al _ (mem p hp) _ (mem q hq), fun p hp => st.tu _ (mem p hp)⟩
  have er : PySem.W.EachIs (fun (v : Value) (p : Addr × α) => v = .ref p.1 ∧ ∃ as, Reads s2.heap v (enc p.2) as) out qs2 := by
    rw [p2]
    have mem : ∀ p ∈ qs2, p ∈ ps := fun p hp => f2 p (p1.mem_iff.mp hp)
    clear p1 p2 so2 pm
    induction qs2 with
    | nil => exact .nil
    | cons p l ih =>
      refine .cons ⟨rfl, ?_⟩ (ih fun q hq => mem q (List.mem_cons_of_mem _ hq))
      obtain ⟨as, r⟩ := Dp.reads I2 (enc p.2) (.ref p.1) (.ref p.1) ((e3 p (mem p List.mem_cons_self)).dp (so.ec.good p.2).p) rfl
      exact ⟨as, PyProof.Rows.Reads.keeps k2 r⟩
  have lq2 : qs2.length = qs.length := p1.length_eq
  refine sort_tail (A := X.A.in1) (s := s2) (enc := fun p : Addr × α => enc p.2) (fun p => so.ec.good p.2) so2 (er.mono fun v p h => h.1) (er.mono fun v p h => h.2) (by omega) (by show X.A.units + 1 + 10 < cLine; omega) fun h3 out2 n k3 gt ei => ?_
  have hn : H1 s2.heap.objs.size = none := I2.hok.fresh hz2
  have e7 : out2 = (srt (fun p : Addr × α => enc p.2) qs2).map fun p => Value.ref p.1 := by
    clear er p1 p2 so2 gt
    generalize srt (fun p : Addr × α => enc p.2) qs2 = z at ei
    induction ei with
    | nil => rfl
    | cons h _ ih => rw [List.map_cons, h, ih]
  have hv : Vals ((srt (fun p : Addr × α => enc p.2) qs2).map fun p => V.ref p.1) out2 := by
    rw [e7]
    generalize srt (fun p : Addr × α => enc p.2) qs2 = z
    induction z with
    | nil => exact .nil
    | cons p z ih => exact .cons rfl ih
  have sp := srt_perm (enc := fun p : Addr × α => enc p.2) qs2
  have hlen : ((srt (fun p : Addr × α => enc p.2) qs2).map fun p => V.ref p.1).length ≤ sizeLine := by
    rw [List.length_map, sp.length_eq, sizeLine_eq]; omega
  have k4 : ∀ b u, h'.get? b = some u → h3.get? b = some u := fun b u e => k3 b u (k2 b u e)
  have J : Inv X pins σ (upd H1 s2.heap.objs.size (.lst ((srt (fun p : Addr × α => enc p.2) qs2).map fun p => V.ref p.1))) { s1 with heap := h3, gens := s2.gens, drawn := s2.drawn, toks := s2.toks } :=
    Inv.call (s := { s1 with heap := h', toks := tk }) I2 (ch := []) (Un.laid k4 hz2 hn) (I2.hok.laid k4 hz2 ⟨hlen, out2, n, hv, gt⟩) (by rw [g2]; exact I2.bare) (fun _ z => nomatch z)
  have es2 : { s2 with heap := h3 } = { s1 with heap := h3, gens := s2.gens, drawn := s2.drawn, toks := s2.toks } := by
    cases s2
    cases s1
    cases o2
    rfl
  rw [es2]
  refine ⟨.ref s2.heap.objs.size, _, J, rfl, q1 _ _ hn ?_⟩
  have dd : ∀ p ∈ srt (fun p : Addr × α => enc p.2) qs2, Dt H1 (.ref p.1) (enc p.2) := fun p hp => e3 p (f2 p (p1.mem_iff.mp (sp.mem_iff.mp hp)))
  have e8 : (srt (fun p : Addr × α => enc p.2) qs2).map (·.2) = srt enc (nub bs) := by
    have z := PySem.W.sort_maps (r := PySem.W.dataLe false fun p : Addr × α => enc p.2) (s := PySem.W.dataLe false enc) (fun p : Addr × α => p.2) (l := qs2) fun _ _ _ _ => rfl
    refine z.trans (srt_same so.ec ?_ fun a ha b hb => ?_)
    · rw [e2]
      exact (p1.map (·.2)).trans (same_perm f3 f4)
    · obtain ⟨p, hp, rfl⟩ := List.mem_map.mp ha
      obtain ⟨q, hq, rfl⟩ := List.mem_map.mp hb
      exact so2.al p hp q hq
  rw [← e8]
  exact dts_refs_of dd
end
section
variable {X : Cx} {α : Type} [DecidableEq α] {enc : α → PyData}
def tLenSet (K : PySem.W.Frag) (enc : α → PyData) (bs : List α) (ta : TE) : TE := fun σ H Q => ta σ H fun x H1 => ∃ (l : Addr) (vs : List V), x = V.ref l ∧ SqL K H1 l vs ∧ Dts H1 vs (bs.map enc) ∧ Q (.int (nub bs).length) H1
theorem pe_lenSet {a : Expr} {ta : TE} {bs : List α} {p p2 q pos : Pos} (so : SetOk enc) (hf : bs.length < 77) (hu : X.A.units + 65 < cLine) (hc : X.calm = true) (hg : Gl X "len") (hm : X.mg "len" = none) (hg2 : Gl X "set") (hm2 : X.mg "set" = none) (ha : PE X a ta)
    (na : starEach [a] X.env = (false, eval a X.env) :: starEach [] X.env := by rfl) : PE X (.Call (.Name "len" p) [.Call (.Name "set" p2) [a] [] q] [] pos) (tLenSet X.K enc bs ta) := by
  refine ⟨fun pins s σ H Q I h => Call_ (ld_blt I hg hm PySem.boot_len (PyProof.Rows.callWith_builtin1 (PyProof.Rows.args_cons ?_ rfl) rfl rfl))⟩
  refine Call_ (ld_blt I hg2 hm2 PyProof.Rows.boot_set (PyProof.Rows.callWith_type1 (PyProof.Rows.args_cons (thn (ha.run pins s σ H _ I h) fun v s1 ⟨x, H1, I1, r1, q1⟩ => PyProof.Rows.args_nil ?_) na) na rfl))
  obtain ⟨l, vs, rfl, hq, t, q1⟩ := q1
  cases r1
  obtain ⟨its, rv, pl, hz⟩ := I1.list hq
  obtain ⟨ps, e1, e2, e3⟩ := dts_refs so.tu t
  have hits : its.toArray.toList = (ps.map (memOf enc)).map fun m => Value.ref m.1 := by
    rw [List.toList_toArray, List.map_map]
    rw [e1] at rv
    clear e1 e2 e3 t hq q1 pl
    induction ps generalizing its with
    | nil => cases rv; rfl
    | cons x l ih =>
      cases rv with
      | cons r0 t0 =>
        cases r0
        rw [List.map_cons, ← ih _ t0]
        rfl
  have lps : ps.length = bs.length := by rw [e2, List.length_map]
  refine set_of_list (ps.map (memOf enc)) (I1.ok.hd hc) pl.isList hits (fun m hm => ?_) (by rw [List.length_map]; omega) (by omega) fun h' tk L es ep tb R g kp => ?_
  · obtain ⟨p, hp, e⟩ := List.mem_map.mp hm
    subst e
    exact item_at so I1 (e3 p hp)
  obtain ⟨qs, f1, f2, f3, f4⟩ := set_items so g R.lay.one
  have I2 : Inv X pins σ H1 { s1 with heap := h', toks := tk } := I1.kept kp
  refine PyProof.Rows.args_nil ?_
  obtain ⟨o, ho, hex, hd⟩ := R.obj
  have hle : es.size = (nub bs).length := by
    rw [R.lay.size, f1, List.length_map]
    have z := (same_perm f3 f4).length_eq
    rw [List.length_map] at z
    rw [z, ← e2]
  exact call_len_set ho hex hd (SetN.fit (s := { s1 with heap := h', toks := tk }) R) (by have := R.lay.size; have := R.few; omega) ⟨.int (nub bs).length, H1, I2.tok _, ⟨_, by rw [hle]⟩, q1⟩
end
section
variable {X : Cx} {b : Option Addr} {Hb : Hp} {Δ : List Sl} {e f g : Expr} {es : List Expr} {pos : Pos} {α : Type} [DecidableEq α] {enc : α → PyData} {bs : List α}
theorem ed_sortSet {r : Rs} {p p2 q : Pos} (hu : X.A.units + 65 < cLine) (hm : X.mg "sorted" = none) (hm2 : X.mg "set" = none) (so : SetOk enc) (st : SortOk enc bs) (hf : bs.length < 77) (ha : ED X b Hb Δ e r) (hl : lsOf r = some (bs.map enc) := by rfl) (hc : X.calm = true := by rfl) (hg : Gl X "sorted" := by rfl) (hg2 : Gl X "set" := by rfl)
    (na : starEach [e] X.env = (false, eval e X.env) :: starEach [] X.env := by rfl) : ED X b Hb Δ (.Call (.Name "sorted" p) [.Call (.Name "set" p2) [e] [] q] [] pos) (.fr ((srt enc (nub bs)).map enc)) :=
  pe_imp (pe_sortSet so st hf hu hc hg hm hg2 hm2 ha na) fun σ H Q q => ⟨q.1, fun v H1 r' p1 f1 k1 => by
    subst p1
    obtain ⟨a, vs, ev, nb, e2, t2⟩ := k1.ls q.1.bag q.1.bagH hl
    exact ⟨a, vs, ev, e2, t2, fun l ys hn t3 => q.2 _ _ _ rfl (f1.trans (.new hn)) ⟨l, ys, rfl, f1.free q.1.bagH hn, upd_same, t3.keep (KT.new hn)⟩⟩⟩
theorem ed_lenSet {r : Rs} {p p2 q : Pos} (hu : X.A.units + 65 < cLine) (hm : X.mg "len" = none) (hm2 : X.mg "set" = none) (so : SetOk enc) (hf : bs.length < 77) (ha : ED X b Hb Δ e r) (hl : lsOf r = some (bs.map enc) := by rfl) (hc : X.calm = true := by rfl) (hg : Gl X "len" := by rfl) (hg2 : Gl X "set" := by rfl)
    (na : starEach [e] X.env = (false, eval e X.env) :: starEach [] X.env := by rfl) : ED X b Hb Δ (.Call (.Name "len" p) [.Call (.Name "set" p2) [e] [] q] [] pos) (.d (.int (nub bs).length)) :=
  pe_imp (pe_lenSet so hf hu hc hg hm hg2 hm2 ha na) fun σ H Q q => ⟨q.1, fun v H1 r' p1 f1 k1 => by
    subst p1
    obtain ⟨a, vs, ev, nb, e2, t2⟩ := k1.ls q.1.bag q.1.bagH hl
    exact ⟨a, vs, ev, e2, t2, q.2 _ _ _ rfl f1 (.int _)⟩⟩
end
end K47
set_option Elab.async false
set_option linter.all false
set_option maxRecDepth 100000
set_option maxHeartbeats 4000000
namespace K47
open PySem PySem.Spec PyProof.Rows L2

section
variable {X : Cx} {b : Option Addr} {Hb : Hp} {Δ : List Sl} {e f g tg iter iter1 elt : Expr} {es ifs : List Expr} {pos : Pos} {P P' : Rs → Prop} {K : PySem.W.Frag} {H H1 H2 H0 : Hp} {σ : L2.St} {D : Dn}
/-- a slot of which nothing is known may change -/
theorem En.setUn {i : Nat} {o : Option V} (q : En K b Hb Δ σ H) (hi : Δ[i]? = some .un) : En K b Hb Δ (σ.set i o) H := by
  have ne : ∀ (j : Nat) (ys : List PyData), Δ[j]? = some (.ow ys) → i ≠ j := fun j ys e z => by
    subst z
    rw [hi] at e
    cases e
  refine ⟨q.bag, q.fr, by rw [List.length_set]; exact q.len, fun j s e => ?_, fun j k ys zs n e1 e2 => ?_⟩
  · by_cases c : i = j
    · subst c
      rw [hi] at e
      have es := Option.some.inj e
      subst es
      have hl : i < σ.length := by
        rw [q.len]
        exact (List.getElem?_eq_some_iff.mp hi).1
      exact ⟨o, List.getElem?_set_self hl, trivial⟩
    · rw [List.getElem?_set_ne c]
      exact q.at_ j s e
  · rw [List.getElem?_set_ne (ne j ys e1), List.getElem?_set_ne (ne k zs e2)]
    exact q.sep j k ys zs n e1 e2
/-- rows of what two fors make -/
def two {α β : Type} (xs : List α) (ys : List β) (gg : α → β → PyData) : List PyData := (xs.map fun a => ys.map (gg a)).flatten
/-- [elt for x in iter for y in iter1] -/
theorem ed_lc2 (j j1 : Nat) (hjj : j ≠ j1) (hun : Δ[j1]? = some .un) {α β : Type} (xs : List α) (ys : List β) (enc : α → PyData) (enc1 : β → PyData) (gg : α → β → PyData) {scope : Scope} {x y : Str} {xp yp : Pos} (hi : IX X b Hb Δ (.Name x xp) iter (xs.map enc) none .no)
    (hi1 : ∀ (s : Shared) (H : Hp) (C : Addr) (cl : List (Str × Addr)) (fp : List Addr) (a : α), a ∈ xs → IX (X.blk s H scope (compEnvC scope cl C X.env) fp) b Hb (Δ.set j (.d (enc a))) (.Name y yp) iter1 (ys.map enc1) none .no)
    (he : ∀ (s : Shared) (H : Hp) (C : Addr) (cl : List (Str × Addr)) (fp : List Addr) (a : α) (c : β), a ∈ xs → c ∈ ys → ED (X.blk s H scope (compEnvC scope cl C X.env) fp) b Hb ((Δ.set j (.d (enc a))).set j1 (.d (enc1 c))) elt (.d (gg a c)))
    (hl : xs.length * ys.length ≤ 1000) (ok : BlkOk X.N X.env.scope scope [(x, j), (y, j1)]) (hN : X.N.Nodup)
    (hg : ∀ (s : Shared) (H : Hp) (C : Addr) (cl : List (Str × Addr)) (fp : List Addr), PG (X.blk s H scope (compEnvC scope cl C X.env) fp) (.Name x xp) (gName j)) (hg1 : ∀ (s : Shared) (H : Hp) (C : Addr) (cl : List (Str × Addr)) (fp : List Addr), PG (X.blk s H scope (compEnvC scope cl C X.env) fp) (.Name y yp) (gName j1))
    (hc : X.calm = true := by rfl) (hf : ∀ x, foldedSetIterable iter X.env x = pure x := by intro _; rfl) (hf1 : ∀ env x, foldedSetIterable iter1 env x = pure x := by intro _ _; rfl) :
    ED X b Hb Δ (.ListComp elt [⟨.Name x xp, iter, [], 0⟩, ⟨.Name y yp, iter1, [], 0⟩] scope pos) (.fr (two xs ys gg)) := by
  refine pe_imp (pe_lc2 (own := [(x, j), (y, j1)]) (vs1 := [j1]) (wi1 := fun σ H R => ∃ a, a ∈ xs ∧ tI X.K b Hb (Δ.set j (.d (enc a))) (ys.map enc1) none .no σ H R)
    (te := fun σ H Q => ∃ a c, a ∈ xs ∧ c ∈ ys ∧ tX X.K b Hb ((Δ.set j (.d (enc a))).set j1 (.d (enc1 c))) (fun z => z = .d (gg a c)) σ H Q) hc hN hi ok (fun i h => by
      rcases List.mem_cons.mp h with e | h
      · subst e; exact List.mem_cons_of_mem _ List.mem_cons_self
      · cases h) hg (fun _ _ _ _ _ => pts_nil) (fun s H C cl fp => ⟨fun pins s' σ' H' Q I ⟨a, ha, q⟩ => (hi1 s H C cl fp a ha).run pins s' σ' H' Q I q⟩) hg1 (fun _ _ _ _ _ => pts_nil) (fun s H C cl fp => ⟨fun pins s' σ' H' Q I ⟨a, c, ha, hc', q⟩ => (he s H C cl fp a c ha hc').run pins s' σ' H' Q I q⟩) hf hf1) fun σ H Q q => ?_
  refine ⟨q.1, fun It H1 lk f1 dw lo => fun A hA => ?_⟩
  obtain ⟨Gd, Y, wk, hG, hY⟩ := dw
  have lk0 : lk = none := lo
  subst lk0
  have qb : BagIn b H := q.1.bagH
  have qb1 : BagIn b H1 := f1.bagIn qb
  have hAb : some A ≠ b := qb1.ne_none hA
  have gd : ∀ {H'}, Fr b H1 H' → Gd H' := fun {H'} f => hG H' (.inl f) (fun a vs e1 => nomatch e1) (f.kt qb1)
  -- what stands after i rows and k of the next
  let done : Nat → List PyData := fun i => two (xs.take i) ys gg
  have step : ∀ i a, xs[i]? = some a → done (i + 1) = done i ++ ys.map (gg a) := fun i a h => by
    show two (xs.take (i + 1)) ys gg = two (xs.take i) ys gg ++ _
    unfold two
    rw [List.take_add_one, h, List.map_append, List.flatten_append]
    simp
  have short : ∀ i, i ≤ xs.length → (done i).length ≤ i * ys.length := fun i hi' => by
    induction i with
    | zero => show (two (xs.take 0) ys gg).length ≤ _; simp [two]
    | succ i ih =>
      have hx : xs[i]? = some xs[i] := List.getElem?_eq_getElem hi'
      rw [step i _ hx, List.length_append, List.length_map, Nat.succ_mul]
      have := ih (by omega)
      omega
  have small : ∀ i k, i < xs.length → k < ys.length → (done i).length + k < 1000 := fun i k h1 h2 => by
    have a1 := short i (by omega)
    have a2 : (i + 1) * ys.length ≤ xs.length * ys.length := Nat.mul_le_mul_right _ h1
    rw [Nat.succ_mul] at a2
    omega
  let Wp0 : Nat → Nat → Hp → Prop := fun i m H' => m = xs.length - i ∧ i ≤ xs.length ∧ ∃ vs, Fr b H1 H' ∧ H' A = some (.lst vs) ∧ Dts H' vs (done i)
  refine ⟨Wp0, ⟨xs.length, by simp, Nat.zero_le _, [], .new hA, upd_same, by show Dts _ [] (two (xs.take 0) ys gg); exact .nil⟩, ?_⟩
  rintro i m H' ⟨rfl, hi', vs, fr, eA, t⟩
  have ln : (xs.map enc).length = xs.length := List.length_map _
  by_cases hlt : i < xs.length
  · refine .inr ⟨wk.goes i H' (by rw [ln]; exact hlt) (gd fr), fun H'' => Wp0 (i + 1) (xs.length - (i + 1)) H'', fun H'' w' => ⟨xs.length - (i + 1), by omega, w'⟩, fun v H2 yl => ?_⟩
    obtain ⟨ext, d, e1, kd⟩ := hY i H' v H2 (by rw [ln]; exact hlt) (fr.kt qb1) (gd fr) (wk.yields i H' v H2 (by rw [ln]; exact hlt) (gd fr) yl)
    have hx : xs[i]? = some xs[i] := List.getElem?_eq_getElem hlt
    have ha : xs[i] ∈ xs := List.getElem_mem hlt
    generalize xs[i] = a at hx ha
    rw [List.getElem?_map, hx] at e1
    have ed : enc a = d := Option.some.inj e1
    subst ed
    have f2 : Fr b H1 H2 := fr.trans (.same ext)
    have en2 : En X.K b Hb Δ σ H2 := (q.1.step f1).step f2
    have w0 : wipe σ [j, j1] = (σ.set j1 none).set j none := rfl
    have s2 : (wipe σ [j, j1]).set j (some v) = (σ.set j (some v)).set j1 none := by
      rw [w0, List.set_set, List.set_comm _ _ hjj]
    have w2 : wipe ((wipe σ [j, j1]).set j (some v)) [j, j1] = wipe σ [j, j1] := by
      rw [s2]
      show ((((σ.set j (some v)).set j1 none).set j1 none).set j none) = (σ.set j1 none).set j none
      rw [List.set_set, List.set_comm none none (Ne.symm hjj), List.set_set, List.set_comm none none hjj]
    refine ⟨w2, ?_⟩
    have hun2 : (Δ.set j (.d (enc a)))[j1]? = some .un := by rw [List.getElem?_set_ne hjj]; exact hun
    have enJ : En X.K b Hb (Δ.set j (.d (enc a))) ((wipe σ [j, j1]).set j (some v)) H2 := by
      rw [s2]
      exact (en2.setD (i := j) kd).setUn hun2
    refine ⟨a, ha, enJ, fun J1 H3 lk1 f3 dw1 lo1 => ?_⟩
    obtain ⟨Gd1, Y1, wk1, hG1, hY1⟩ := dw1
    have lk1' : lk1 = none := lo1
    subst lk1'
    have f13 : Fr b H1 H3 := f2.trans f3
    have eA3 : H3 A = some (.lst vs) := f3.all _ _ hAb (ext _ _ eA)
    have t3 : Dts H3 vs (done i) := (t.keep (.same ext)).keep (f3.kt (f2.bagIn qb1))
    have qb3 : BagIn b H3 := f13.bagIn qb1
    have ln1 : (ys.map enc1).length = ys.length := List.length_map _
    have gd1 : ∀ {H'}, KT H3 H' → Gd1 H' := fun {H'} kt => hG1 H' (.inr kt) (fun a vs e1 => nomatch e1) kt
    let W1 : Nat → Nat → Hp → Prop := fun k m H' => m = ys.length - k ∧ k ≤ ys.length ∧ KT H3 H' ∧ ∃ vs, Fr b H1 H' ∧ H' A = some (.lst vs) ∧ Dts H' vs (done i ++ (ys.take k).map (gg a))
    refine ⟨W1, ⟨ys.length, by simp, Nat.zero_le _, KT.refl, vs, f13, eA3, by rw [List.take_zero, List.map_nil, List.append_nil]; exact t3⟩, ?_⟩
    rintro k m H4 ⟨rfl, hk', kt4, vs4, fr4, eA4, t4⟩
    by_cases hk2 : k < ys.length
    · refine .inr ⟨wk1.goes k H4 (by rw [ln1]; exact hk2) (gd1 kt4), fun H5 => W1 (k + 1) (ys.length - (k + 1)) H5, fun H5 w' => ⟨ys.length - (k + 1), by omega, w'⟩, fun u H5 yl => ?_⟩
      obtain ⟨ext5, d5, e5, kd5⟩ := hY1 k H4 u H5 (by rw [ln1]; exact hk2) kt4 (gd1 kt4) (wk1.yields k H4 u H5 (by rw [ln1]; exact hk2) (gd1 kt4) yl)
      have hy : ys[k]? = some ys[k] := List.getElem?_eq_getElem hk2
      have hc' : ys[k] ∈ ys := List.getElem_mem hk2
      generalize ys[k] = c at hy hc'
      rw [List.getElem?_map, hy] at e5
      have ed5 : enc1 c = d5 := Option.some.inj e5
      subst ed5
      have f5 : Fr b H1 H5 := fr4.trans (.same ext5)
      have enB : En X.K b Hb ((Δ.set j (.d (enc a))).set j1 (.d (enc1 c))) ((wipe ((wipe σ [j, j1]).set j (some v)) [j1]).set j1 (some u)) H5 := by
        have z : (wipe ((wipe σ [j, j1]).set j (some v)) [j1]).set j1 (some u) = ((wipe σ [j, j1]).set j (some v)).set j1 (some u) := by
          show (((wipe σ [j, j1]).set j (some v)).set j1 none).set j1 (some u) = _
          rw [List.set_set]
        rw [z]
        have en5 : En X.K b Hb (Δ.set j (.d (enc a))) ((wipe σ [j, j1]).set j (some v)) H5 := by
          have kd0 : Dt H5 v (enc a) := (kd.keep (f3.kt (f2.bagIn qb1))).keep (kt4.trans (.same ext5))
          rw [s2]
          exact ((((q.1.step f1).step f5).setD (i := j) kd0)).setUn hun2
        exact en5.setD (i := j1) kd5
      refine ⟨?_, a, c, ha, hc', enB, fun z H6 r pr f6 k6 => ?_⟩
      · show (((((wipe σ [j, j1]).set j (some v)).set j1 none).set j1 (some u)).set j1 none) = ((wipe σ [j, j1]).set j (some v)).set j1 none
        rw [List.set_set, List.set_set]
      · subst pr
        have eA6 : H6 A = some (.lst vs4) := f6.all _ _ hAb (ext5 _ _ eA4)
        have qb5 : BagIn b H5 := f5.bagIn qb1
        have kt6 : KT H4 H6 := (KT.same ext5).trans (f6.kt qb5)
        have t6 := t4.keep kt6
        have kt7 := KT.mut (o := .lst (vs4 ++ [z])) eA6
        have lv : vs4.length = (done i).length + k := by
          rw [t4.len, List.length_append, List.length_map, List.length_take, Nat.min_eq_left (by omega)]
        refine ⟨vs4, eA6, by rw [lv]; have := small i k hlt hk2; rw [sizeLine_eq]; omega, rfl, hk2, (kt4.trans kt6).trans kt7, vs4 ++ [z], (f5.trans f6).mut hA qb1, upd_same, ?_⟩
        have e8 : (ys.take (k + 1)).map (gg a) = (ys.take k).map (gg a) ++ [gg a c] := by
          rw [List.take_add_one, hy, List.map_append]
          rfl
        rw [e8, ← List.append_assoc]
        exact (t6.app (.cons k6 .nil)).keep kt7
    · have ek : k = ys.length := by omega
      subst ek
      rw [List.take_length] at t4
      refine .inl ⟨by have z := wk1.stops H4 (gd1 kt4); rw [ln1] at z; exact z, rfl, hlt, vs4, fr4, eA4, ?_⟩
      rw [step i a hx]
      exact t4
  · have ei : i = xs.length := by omega
    subst ei
    refine .inl ⟨by have z := wk.stops H' (gd fr); rw [ln] at z; exact z, ?_⟩
    have e9 : done xs.length = two xs ys gg := by
      show two (xs.take xs.length) ys gg = _
      rw [List.take_length]
    rw [e9] at t
    exact q.2 _ H' _ rfl (f1.trans fr) ⟨A, vs, rfl, f1.free qb hA, eA, t⟩
/-- a, b = x, y where a name is a cell: by way of a tuple -/
theorem sx_parC (i j : Nat) {x y : Str} {px py pt : Pos} {kt k2 pt2} {Pa : List Rs → Prop} (ha : AX X b Hb Δ [e, f] Pa) (k : ∀ rs, Pa rs → ∃ r1 r2 s1 s2, rs = [r1, r2] ∧ slOf r1 = some s1 ∧ slOf r2 = some s2 ∧ D.nx ((Δ.set i s1).set j s2)) (hN : X.N.Nodup) (hi : X.N[i]? = some x := by rfl) (hj : X.N[j]? = some y := by rfl)
    (hx : Loc X.env.scope x := by first | exact Or.inl rfl | exact Or.inr rfl) (hy : Loc X.env.scope y := by first | exact Or.inl rfl | exact Or.inr rfl)
    (fx : X.fn x = true ∨ X.env.scope.names.lookup x = some .local := by first | exact .inl rfl | exact .inr rfl) (fy : X.fn y = true ∨ X.env.scope.names.lookup y = some .local := by first | exact .inl rfl | exact .inr rfl) (hc : X.calm = true := by rfl)
    (hn : (assignEach [.Name x px, .Name y py] X.env).length = 2 := by rfl) (hst : (assignEach [.Name x px, .Name y py] X.env).findIdx? (·.1) = none := by rfl)
    (ha1 : (assignEach [.Name x px, .Name y py] X.env).map (·.2) = assign (.Name x px) X.env :: (assignEach [.Name y py] X.env).map (·.2) := by rfl) (ha2 : (assignEach [.Name y py] X.env).map (·.2) = assign (.Name y py) X.env :: (assignEach [] X.env).map (·.2) := by rfl)
    (hw : swappedStores [.Tuple [.Name x px, .Name y py] kt pt] (.Tuple [e, f] k2 pt2) X.env = pure none := by rfl)
    (hs : swapsWithSole [.Tuple [.Name x px, .Name y py] kt pt] (.Tuple [e, f] k2 pt2) pos.line X.env = pure false := by rfl)
    (h1 : (assignEach [.Tuple [.Name x px, .Name y py] kt pt] X.env).map (·.2) = [assign (.Tuple [.Name x px, .Name y py] kt pt) X.env] := by rfl) :
    SX X b Hb Δ (.Assign [.Tuple [.Name x px, .Name y py] kt pt] (.Tuple [e, f] k2 pt2) pos) D :=
  ps_imp (ps_asg (pe_tupN ha) (pg_tup hc (pgs_cons (pg_name hN hi hx fx) (pgs_cons (pg_name hN hj hy fy) pgs_nil ha2) ha1) hn hst) hs hw h1) fun E σ H q => ⟨q.1, fun vs H1 rs p f1 k1 => by
    obtain ⟨r1, r2, s1, s2, er, e1, e2, kk⟩ := k rs p
    subst er
    cases k1 with
    | @cons v1 _ _ _ h1 t1 n1 =>
      cases t1 with
      | @cons v2 _ _ _ h2 t2 n2 =>
        cases t2
        obtain ⟨qq, no⟩ := q.1.setR2 (i := i) (j := j) f1 h1 h2 (fun xs ys a1 a2 => by subst a1 a2; exact n1 xs rfl 0 ys v2 rfl rfl) e1 e2
        exact ⟨Nat.le_of_lt (small1000 (show 2 ≤ 1000 by decide)), fun p o hp ho => ⟨p, [v1, v2], rfl, .inl (.inr ⟨o, upd_same⟩), rfl, v1, [v2], rfl, v2, [], rfl, rfl, q.2.1 _ _ _ kk (qq.step (.new hp))⟩⟩⟩
end
end K47
set_option Elab.async false
set_option linter.all false
set_option maxRecDepth 100000
set_option maxHeartbeats 2000000
namespace K47
open PySem PySem.Spec PyProof.Rows L2

/-! ### the tables in plain words -/
abbrev Cor : Type := Nat × Nat × Nat
abbrev Lab : Type := Nat × Nat × Nat × Nat
inductive Sd | right | up | left | down
deriving DecidableEq
abbrev Edg : Type := Sd × Nat
structure Tb where
  size : Nat
  marks : Nat
  rights : List (Option Nat)
  ups : List (Option Nat)
  dials : List (Edg × List Nat)
  pock : PyData
def sdN : Sd → Str
  | .right => "right"
  | .up => "up"
  | .left => "left"
  | .down => "down"
def eI (n : Nat) : PyData := .int n
def eC (c : Cor) : PyData := .tuple [.int c.1, .int c.2.1, .int c.2.2]
def eL (l : Lab) : PyData := .tuple [.int l.1, .int l.2.1, .int l.2.2.1, .int l.2.2.2]
def eE (e : Edg) : PyData := .tuple [.str (sdN e.1), .int e.2]
def eP (p : List Nat) : PyData := .tuple (p.map eI)
def eO : Option Nat → PyData
  | none => .none
  | some n => .int n
def eRw (r : List (Option Nat)) : PyData := .tuple (r.map eO)
def eD (p : Edg × List Nat) : PyData := .tuple [eE p.1, eP p.2]
def eDs (ds : List (Edg × List Nat)) : PyData := .tuple (ds.map eD)
def eT (t : Tb) : PyData := .tuple [.int t.size, .int t.marks, eRw t.rights, eRw t.ups, eDs t.dials, t.pock]
def eRow (r : List Lab) : PyData := .tuple (r.map eL)
def ePt (r : List Cor) : PyData := .tuple (r.map eC)
def eSl (s : Nat × Nat) : PyData := .tuple [.int s.1, .int s.2]
theorem map_inj {α β : Type} {f : α → β} (hf : ∀ a b, f a = f b → a = b) : ∀ {as bs : List α}, as.map f = bs.map f → as = bs
  | [], [], _ => rfl
  | a :: as, b :: bs, h => by
    rw [List.map_cons, List.map_cons] at h
    injection h with h1 h2
    rw [hf _ _ h1, map_inj hf h2]
  | [], _ :: _, h => by cases h
  | _ :: _, [], h => by cases h
theorem ok_sd (s : Sd) : PyData.strOk (sdN s) = true := by cases s <;> decide +kernel
theorem sdN_inj : ∀ a b : Sd, sdN a = sdN b → a = b := by
  intro a b h
  cases a <;> cases b <;> first | rfl | exact absurd h (by decide)
theorem int_inj {a b : Nat} (h : PyData.int (a : Int) = PyData.int (b : Int)) : a = b := by
  injection h with h
  exact Int.ofNat.inj h
theorem enc_C : EncOk eC := ⟨fun a b h => by
  obtain ⟨a1, a2, a3⟩ := a
  obtain ⟨b1, b2, b3⟩ := b
  simp only [eC, PyData.tuple.injEq, List.cons.injEq, PyData.int.injEq, Int.ofNat_inj, and_true] at h
  obtain ⟨h1, h2, h3⟩ := h
  rw [h1, h2, h3], fun a => ⟨rfl, by simp [eC, PyData.depth, PyData.depthAll]⟩⟩
theorem enc_L : EncOk eL := ⟨fun a b h => by
  obtain ⟨a1, a2, a3, a4⟩ := a
  obtain ⟨b1, b2, b3, b4⟩ := b
  simp only [eL, PyData.tuple.injEq, List.cons.injEq, PyData.int.injEq, Int.ofNat_inj, and_true] at h
  obtain ⟨h1, h2, h3, h4⟩ := h
  rw [h1, h2, h3, h4], fun a => ⟨rfl, by simp [eL, PyData.depth, PyData.depthAll]⟩⟩
theorem enc_E : EncOk eE := ⟨fun a b h => by
  obtain ⟨a1, a2⟩ := a
  obtain ⟨b1, b2⟩ := b
  simp only [eE, PyData.tuple.injEq, List.cons.injEq, PyData.int.injEq, PyData.str.injEq, Int.ofNat_inj, and_true] at h
  rw [sdN_inj _ _ h.1, h.2], fun a => ⟨by simp [eE, pln, plnAll, ok_sd], by simp [eE, PyData.depth, PyData.depthAll]⟩⟩
theorem enc_I : EncOk eI := enc_nat
theorem enc_O : EncOk eO := ⟨fun a b h => by
  cases a <;> cases b <;> first | rfl | (cases h) | skip
  rfl, fun a => by cases a; exact good_none; exact good_int _⟩
theorem enc_Sl : EncOk eSl := ⟨fun a b h => by
  obtain ⟨a1, a2⟩ := a
  obtain ⟨b1, b2⟩ := b
  simp only [eSl, PyData.tuple.injEq, List.cons.injEq, PyData.int.injEq, Int.ofNat_inj, and_true] at h
  rw [h.1, h.2], fun a => ⟨rfl, by simp [eSl, PyData.depth, PyData.depthAll]⟩⟩
theorem enc_list {α : Type} {f : α → PyData} (he : EncOk f) (h7 : ∀ a, (f a).depth ≤ 7) : EncOk (fun r : List α => PyData.tuple (r.map f)) := ⟨fun a b h => by
  injection h with h
  exact map_inj he.inj h, fun a => good_tup fun d m => by
    obtain ⟨x, _, rfl⟩ := List.mem_map.mp m
    exact ⟨he.good x, h7 x⟩⟩
theorem enc_Row : EncOk eRow := enc_list enc_L fun a => by simp [eL, PyData.depth, PyData.depthAll]
theorem enc_Pt : EncOk ePt := enc_list enc_C fun a => by simp [eC, PyData.depth, PyData.depthAll]
theorem enc_P : EncOk eP := enc_list enc_I fun a => by simp [eI, PyData.depth, PyData.depthAll]
theorem al_C (a b : Cor) : PySem.W.alike (eC a) (eC b) = true := rfl
theorem al_L (a b : Lab) : PySem.W.alike (eL a) (eL b) = true := rfl
theorem al_list {α : Type} {f : α → PyData} (h : ∀ a b, PySem.W.alike (f a) (f b) = true) : ∀ as bs : List α, PySem.W.alikeAll (as.map f) (bs.map f) = true
  | [], _ => by simp [PySem.W.alikeAll]
  | _ :: _, [] => by simp [PySem.W.alikeAll]
  | a :: as, b :: bs => by
    rw [List.map_cons, List.map_cons, PySem.W.alikeAll, h, al_list h as bs]
    rfl
theorem al_Row (a b : List Lab) : PySem.W.alike (eRow a) (eRow b) = true := al_list al_L a b
theorem al_Pt (a b : List Cor) : PySem.W.alike (ePt a) (ePt b) = true := al_list al_C a b
theorem so_C (bs : List Cor) : SortOk eC bs := ⟨fun a _ b _ => al_C a b, fun a _ => ⟨_, _, rfl⟩⟩
theorem so_L (bs : List Lab) : SortOk eL bs := ⟨fun a _ b _ => al_L a b, fun a _ => ⟨_, _, rfl⟩⟩
theorem so_Row {bs : List (List Lab)} (h : ∀ r ∈ bs, r ≠ []) : SortOk eRow bs := ⟨fun a _ b _ => al_Row a b, fun a ha => by
  cases a with
  | nil => exact absurd rfl (h _ ha)
  | cons x r => exact ⟨_, _, rfl⟩⟩
theorem so_Pt {bs : List (List Cor)} (h : ∀ r ∈ bs, r ≠ []) : SortOk ePt bs := ⟨fun a _ b _ => al_Pt a b, fun a ha => by
  cases a with
  | nil => exact absurd rfl (h _ ha)
  | cons x r => exact ⟨_, _, rfl⟩⟩
theorem numK_list {α : Type} {f : α → PyData} (h : ∀ a, numK (keyD (f a)) = true) : ∀ as : List α, numsK (keysD (as.map f)) = true
  | [] => rfl
  | a :: as => by rw [List.map_cons, keysD, numsK, h, numK_list h as]; rfl
theorem set_C : SetOk eC := ⟨enc_C, fun a => ⟨_, rfl⟩, fun a => rfl⟩
theorem set_Pt : SetOk ePt := ⟨enc_Pt, fun a => ⟨_, rfl⟩, fun a => by
  show numK (keyD (.tuple (a.map eC))) = true
  rw [keyD, numK]
  exact numK_list (fun _ => rfl) a⟩
theorem set_Row : SetOk eRow := ⟨enc_Row, fun a => ⟨_, rfl⟩, fun a => by
  show numK (keyD (.tuple (a.map eL))) = true
  rw [keyD, numK]
  exact numK_list (fun _ => rfl) a⟩

/-! ### the maps -/
def Lab.ce (l : Lab) : Nat := l.1
/-- the cell whose neighbour the cell is -/
def aheadOf (row : List (Option Nat)) (c : Nat) : Option Nat := if memA (some c) row = true then some (ixA (some c) row) else none
def wd (u : Bool) : Sd := if u then .up else .right
def wd' (u : Bool) : Sd := if u then .down else .left
def Tb.row (t : Tb) (u : Bool) : List (Option Nat) := if u then t.ups else t.rights
def sideOf (l : Lab) (u : Bool) : Nat := if u then l.2.2.1 else l.2.1
/-- the edge ahead, and the cell behind it -/
def aheadE (t : Tb) (l : Lab) (u : Bool) : Edg × Option Nat :=
  if sideOf l u = 0 then ((wd u, l.1), (t.row u).getD l.1 none)
  else match aheadOf (t.row u) l.1 with
    | some o => ((wd u, o), some o)
    | none => ((wd' u, l.1), none)
def permOf (t : Tb) (e : Edg) : List Nat := lkA t.dials e (List.range t.marks)
def flip (l : Lab) (u : Bool) : Lab := if u then (l.1, l.2.1, 1 - l.2.2.1, l.2.2.2) else (l.1, 1 - l.2.1, l.2.2.1, l.2.2.2)
def setM (l : Lab) (m : Nat) : Lab := (l.1, l.2.1, l.2.2.1, m)
def setCM (l : Lab) (c m : Nat) : Lab := (c, l.2.1, l.2.2.1, m)
def go (t : Tb) (l : Lab) (u : Bool) : Lab :=
  let m := (permOf t (aheadE t l u).1).getD l.2.2.2 0
  match (aheadE t l u).2 with
  | some o => setCM l o m
  | none => setM (flip l u) m
def come (t : Tb) (l : Lab) (u : Bool) : Lab :=
  let m := ixA l.2.2.2 (permOf t (aheadE t (flip l u) u).1)
  match (aheadE t (flip l u) u).2 with
  | some o => setCM l o m
  | none => setM (flip l u) m
/-- a row of joins: injective, within the cells -/
structure RowOk (n : Nat) (r : List (Option Nat)) : Prop where
  len : r.length = n
  lt : ∀ c, some c ∈ r → c < n
  inj : ∀ (i j c : Nat), r[i]? = some (some c) → r[j]? = some (some c) → i = j
structure PermOk (n : Nat) (p : List Nat) : Prop where
  len : p.length = n
  nd : p.Nodup
  lt : ∀ i ∈ p, i < n
structure TbOk (t : Tb) : Prop where
  s1 : 1 ≤ t.size
  s4 : t.size ≤ 4
  m1 : 1 ≤ t.marks
  m4 : t.marks ≤ 4
  r : RowOk t.size t.rights
  u : RowOk t.size t.ups
  dk : (t.dials.map (·.1)).Nodup
  dp : ∀ d ∈ t.dials, PermOk t.marks d.2
  dl : t.dials.length ≤ 100
structure LabOk (t : Tb) (l : Lab) : Prop where
  c : l.1 < t.size
  x : l.2.1 < 2
  y : l.2.2.1 < 2
  m : l.2.2.2 < t.marks
end K47
set_option Elab.async false
set_option linter.all false
set_option maxRecDepth 100000
set_option maxHeartbeats 2000000
namespace K47
open PySem PySem.Spec PyProof.Rows L2

/-! ### defs and their calls -/
abbrev FnP (K : PySem.W.Frag) (x : Str) (st : Stmt) (f : Addr) (fd : FuncData) : Prop := FunD K x x (defArgs st) (defBody st) (defScope st) [] [] f fd
/-- a def of the module that may be called by its name -/
structure Cl (P : Program) (w : World) (K : PySem.W.Frag) (mg : Str → Option Value) (base : Heap) (k : Nat) (x : Str) (W : Wp) : Prop where
  ex : ∃ (f : Addr) (fd : FuncData) (ps : List Str), FnOk P w K mg base CX0 k f fd ps (spW K W) ∧ mg x = some (.ref f) ∧ PySem.W.keepIn K (.ref f) = true ∧ Binds K fd ps []
section
variable {P : Program} {w : World} {K : PySem.W.Frag} {mg : Str → Option Value} {base : Heap}
/-- a def as a whole: what it does, told by data -/
theorem cal_data {x : Str} {st : Stmt} {N ps : List Str} {k : Nat} {W : Wp} (D : ∃ f fd, FnP K x st f fd ∧ mg x = some (.ref f)) (S : FnScope N ps (defScope st))
    (hb : ∀ (kV doc pm : Value) (an : Option Addr) (cdv ct : Value) (us : List Value), us.length = ps.length → bindArgs (PySem.W.fnOf x x (defArgs st) (defBody st) (defScope st) .none kV doc pm an cdv ct) ⟨us, []⟩ = pure (ps.zip us))
    (hlen : ∀ rs Q, W rs Q → rs.length = ps.length) (hN : ps.length ≤ N.length)
    (hbody : ∀ (f : Addr) (cdv : Value) (A : Around) (outer : List Env) (s : Shared) (H : Hp) (E : XK) (b : Option Addr) (rs : List Rs) (Q : Rs → Prop) (as : Nat → Addr), Room k (A.deeper (envOfC x (defScope st) s.heap.objs.size f cdv)) → W rs Q →
      SSX (cxOf CX0 P w K mg base N x (defScope st) f cdv A outer s H E).nox b H (iniSl as 0 rs ++ List.replicate (N.length - ps.length) .un) (defBody st) { nx := fun _ => False, rt := Q }) : Cl P w K mg base (k + 1) x W := by
  obtain ⟨f, fd, F, hm⟩ := D
  refine ⟨f, fd, ps, F.ok S (fun vs H Q E h => ?_) (fun cdv A outer s H vs Q E hr h => ?_), hm, F.kp, F.bindsN hb⟩
  · obtain ⟨b, rs, P', _, p, hw, _⟩ := h
    rw [p.length]
    exact hlen rs P' hw
  · obtain ⟨b, rs, P', bi, p, hw, fin⟩ := h
    obtain ⟨l1, a1⟩ := ini_of p (fun i => adOf (vs.getD i .non)) 0 fun i v e => by
      show adOf (vs.getD (0 + i) .non) = _
      rw [Nat.zero_add, List.getD_eq_getElem?_getD, e]; rfl
    have hv : vs.length = ps.length := p.length.trans (hlen rs P' hw)
    refine ⟨_, PSs.nox (hbody f cdv A outer s H E b rs P' (fun i => adOf (vs.getD i .non)) hr hw), ?_, fun _ _ _ z => z.elim, fun r v H' pr f k => fin v H' r pr f k, fun _ _ _ z => z.elim, fun _ _ _ z => z.elim⟩
    have z := en_start (N := N) bi l1 (by omega) a1
    rw [← hv]
    exact z
end
/-- a look at a comprehension's names -/
def blkB (N : List Str) (sc scope : Scope) (own : List (Str × Nat)) : Bool :=
  decide (scope.kind = .function) && (scope.names.all fun y => decide (scope.names.lookup y.1 = some y.2)) && (own.all fun p => decide (N[p.2]? = some p.1)) &&
  (scope.names.all fun y => !decide (y.2 = .free) || (decide (sc.names.lookup y.1 = some .cell) || decide (sc.names.lookup y.1 = some .free))) &&
  scope.names.all fun y => !(decide (y.2 = .local) || decide (y.2 = .cell)) || (decide (y.1 ∈ own.map (·.1)) || !decide (y.1 ∈ N))
theorem blk_of {N ps : List Str} {sc scope : Scope} {own : List (Str × Nat)} (_S : FnScope N ps sc) (h : blkB N sc scope own = true) : BlkOk N sc scope own := by
  unfold blkB at h
  simp only [Bool.and_eq_true, List.all_eq_true, decide_eq_true_eq, Bool.or_eq_true, Bool.not_eq_true', decide_eq_false_iff_not, Bool.or_eq_false_iff] at h
  obtain ⟨⟨⟨⟨h1, h2⟩, h3⟩, h4⟩, h5⟩ := h
  refine ⟨h1, h2, h3, fun y hy e => ?_, fun y hy e => ?_⟩
  · exact (h4 y hy).elim (fun n => absurd e n) id
  · rcases h5 y hy with n | n
    · exact e.elim (fun z => absurd z n.1) fun z => absurd z n.2
    · exact n
section
variable {X : Cx} {b : Option Addr} {Hb : Hp} {Δ : List Sl} {e f g : Expr} {es : List Expr} {pos : Pos} {P : Rs → Prop}
theorem td_isO {o : Option Nat} {j pos'} (ha : ED X b Hb Δ e (.d (eO o))) : TD X b Hb Δ (.Compare e [.Is] [.Constant .none j pos'] pos) o.isNone := TD.cast (td_isN ha) (by cases o <;> rfl)
theorem td_notO {o : Option Nat} {j pos'} (ha : ED X b Hb Δ e (.d (eO o))) : TD X b Hb Δ (.Compare e [.IsNot] [.Constant .none j pos'] pos) o.isSome := TD.cast (td_notN ha) (by cases o <;> rfl)
theorem ex_c {j k : Nat} {x : Str} {W : Wp} {Pa : List Rs → Prop} {p : Pos} (c : Cl X.prog X.w X.K X.mg X.base k x W) (hr : Room j X.A) (hk : k ≤ j) (ha : AX X b Hb Δ (e :: es) Pa) (kk : ∀ rs, Pa rs → W (rs.map agOf) P)
    (hg : Gl X x := by rfl) (hdb : (x == ("__debug__" : Str)) = false := by decide) (he : starEach (e :: es) X.env = (false, eval e X.env) :: starEach es X.env := by rfl) (hpl : (backTo pos (starEach es X.env)).any (·.1) = false := by rfl) : EX X b Hb Δ (.Call (.Name x p) (e :: es) [] pos) P := by
  obtain ⟨fa, fd, ps, F, hm, kp, bb⟩ := c.ex
  exact ex_call F (hr.mono hk) hm kp bb ha kk hg hdb he hpl
theorem ed_c {j k : Nat} {x : Str} {W : Wp} {rs : List Rs} {r : Rs} {p : Pos} (c : Cl X.prog X.w X.K X.mg X.base k x W) (hr : Room j X.A) (hk : k ≤ j) (ha : AD X b Hb Δ (e :: es) rs) (kk : W (rs.map agOf) (fun z => z = r))
    (hg : Gl X x := by rfl) (hdb : (x == ("__debug__" : Str)) = false := by decide) (he : starEach (e :: es) X.env = (false, eval e X.env) :: starEach es X.env := by rfl) (hpl : (backTo pos (starEach es X.env)).any (·.1) = false := by rfl) : ED X b Hb Δ (.Call (.Name x p) (e :: es) [] pos) r :=
  ex_c c hr hk ha (fun rs' e => by rw [e]; exact kk) hg hdb he hpl
end
end K47
set_option Elab.async false
set_option linter.all false
set_option maxRecDepth 100000
set_option maxHeartbeats 2000000
namespace K47
open PySem PySem.Spec PyProof.Rows L2
/-! ### the text -/
def topS (i : Nat) : Stmt := PySem.Challenge.pw_hownarrow_k47_whole_rows_above_rows.main.body.getD i (.Pass ⟨0, 0, 0, 0⟩)
abbrev s_crossings_of : Stmt := topS 1
theorem sc_crossings_of : FnScope ["slope", "p", "q", "found", "i", "j"] ["slope"] (defScope s_crossings_of) := ⟨rfl, rfl, rfl, by decide +kernel, rfl, by decide +kernel, by decide +kernel⟩
abbrev s_straight : Stmt := topS 2
theorem sc_straight : FnScope ["slope"] ["slope"] (defScope s_straight) := ⟨rfl, rfl, rfl, by decide +kernel, rfl, by decide +kernel, by decide +kernel⟩
abbrev s_beside : Stmt := topS 4
theorem sc_beside : FnScope ["rights", "ups", "corner", "cell", "x", "y", "found"] ["rights", "ups", "corner"] (defScope s_beside) := ⟨rfl, rfl, rfl, by decide +kernel, rfl, by decide +kernel, by decide +kernel⟩
abbrev s_corners_at : Stmt := topS 5
theorem sc_corners_at : FnScope ["rights", "ups", "corner", "found", "at", "other"] ["rights", "ups", "corner"] (defScope s_corners_at) := ⟨rfl, rfl, rfl, by decide +kernel, rfl, by decide +kernel, by decide +kernel⟩
abbrev s_ahead_of : Stmt := topS 7
theorem sc_ahead_of : FnScope ["row", "cell"] ["row", "cell"] (defScope s_ahead_of) := ⟨rfl, rfl, rfl, by decide +kernel, rfl, by decide +kernel, by decide +kernel⟩
abbrev s_edge_named : Stmt := topS 8
theorem sc_edge_named : FnScope ["rights", "ups", "side", "cell", "row", "word", "other"] ["rights", "ups", "side", "cell"] (defScope s_edge_named) := ⟨rfl, rfl, rfl, by decide +kernel, rfl, by decide +kernel, by decide +kernel⟩
abbrev s_edge_ahead : Stmt := topS 9
theorem sc_edge_ahead : FnScope ["table", "label", "is_up", "cell", "x", "y", "_mark", "side"] ["table", "label", "is_up"] (defScope s_edge_ahead) := ⟨rfl, rfl, rfl, by decide +kernel, rfl, by decide +kernel, by decide +kernel⟩
abbrev s_joined_to : Stmt := topS 10
theorem sc_joined_to : FnScope ["table", "edge", "side", "cell"] ["table", "edge"] (defScope s_joined_to) := ⟨rfl, rfl, rfl, by decide +kernel, rfl, by decide +kernel, by decide +kernel⟩
abbrev s_permutation_of : Stmt := topS 11
theorem sc_permutation_of : FnScope ["table", "edge"] ["table", "edge"] (defScope s_permutation_of) := ⟨rfl, rfl, rfl, by decide +kernel, rfl, by decide +kernel, by decide +kernel⟩
abbrev s_beyond : Stmt := topS 13
theorem sc_beyond : FnScope ["table", "edge", "is_on", "other"] ["table", "edge", "is_on"] (defScope s_beyond) := ⟨rfl, rfl, rfl, by decide +kernel, rfl, by decide +kernel, by decide +kernel⟩
abbrev s_gone : Stmt := topS 14
theorem sc_gone : FnScope ["table", "label", "is_up", "cell", "x", "y", "mark", "edge", "later", "other"] ["table", "label", "is_up"] (defScope s_gone) := ⟨rfl, rfl, rfl, by decide +kernel, rfl, by decide +kernel, by decide +kernel⟩
abbrev s_sideways : Stmt := topS 15
theorem sc_sideways : FnScope ["table", "label"] ["table", "label"] (defScope s_sideways) := ⟨rfl, rfl, rfl, by decide +kernel, rfl, by decide +kernel, by decide +kernel⟩
abbrev s_up : Stmt := topS 16
theorem sc_up : FnScope ["table", "label"] ["table", "label"] (defScope s_up) := ⟨rfl, rfl, rfl, by decide +kernel, rfl, by decide +kernel, by decide +kernel⟩
abbrev s_came : Stmt := topS 17
theorem sc_came : FnScope ["table", "label", "is_up", "cell", "x", "y", "mark", "contrary", "edge", "earlier", "other"] ["table", "label", "is_up"] (defScope s_came) := ⟨rfl, rfl, rfl, by decide +kernel, rfl, by decide +kernel, by decide +kernel⟩
abbrev s_from_sideways : Stmt := topS 18
theorem sc_from_sideways : FnScope ["table", "label"] ["table", "label"] (defScope s_from_sideways) := ⟨rfl, rfl, rfl, by decide +kernel, rfl, by decide +kernel, by decide +kernel⟩
abbrev s_from_up : Stmt := topS 19
theorem sc_from_up : FnScope ["table", "label"] ["table", "label"] (defScope s_from_up) := ⟨rfl, rfl, rfl, by decide +kernel, rfl, by decide +kernel, by decide +kernel⟩
abbrev s_is_kept : Stmt := topS 21
theorem sc_is_kept : FnScope ["table", "label", "ahead"] ["table", "label"] (defScope s_is_kept) := ⟨rfl, rfl, rfl, by decide +kernel, rfl, by decide +kernel, by decide +kernel⟩
abbrev s_point_at : Stmt := topS 22
theorem sc_point_at : FnScope ["table", "corner"] ["table", "corner"] (defScope s_point_at) := ⟨rfl, rfl, rfl, by decide +kernel, rfl, by decide +kernel, by decide +kernel⟩
abbrev s_labels_at : Stmt := topS 23
theorem sc_labels_at : FnScope ["table", "point", "corner", "mark"] ["table", "point"] (defScope s_labels_at) := ⟨rfl, rfl, rfl, by decide +kernel, rfl, by decide +kernel, by decide +kernel⟩
abbrev s_are_kept : Stmt := topS 24
theorem sc_are_kept : FnScope ["table", "point", "label"] ["table", "point"] (defScope s_are_kept) := ⟨rfl, rfl, rfl, by decide +kernel, rfl, by decide +kernel, by decide +kernel⟩
abbrev s_is_free : Stmt := topS 25
theorem sc_is_free : FnScope ["table", "corner"] ["table", "corner"] (defScope s_is_free) := ⟨rfl, rfl, rfl, by decide +kernel, rfl, by decide +kernel, by decide +kernel⟩
abbrev s_added : Stmt := topS 27
theorem sc_added : FnScope ["one", "other"] ["one", "other"] (defScope s_added) := ⟨rfl, rfl, rfl, by decide +kernel, rfl, by decide +kernel, by decide +kernel⟩
abbrev s_word_of : Stmt := topS 29
theorem sc_word_of : FnScope ["slope", "p", "q", "found", "many"] ["slope"] (defScope s_word_of) := ⟨rfl, rfl, rfl, by decide +kernel, rfl, by decide +kernel, by decide +kernel⟩
abbrev s_neighbours_of : Stmt := topS 30
theorem sc_neighbours_of : FnScope ["word", "low", "high", "letter"] ["word"] (defScope s_neighbours_of) := ⟨rfl, rfl, rfl, by decide +kernel, rfl, by decide +kernel, by decide +kernel⟩
abbrev s_along : Stmt := topS 32
theorem sc_along : FnScope ["table", "label", "letters", "letter"] ["table", "label", "letters"] (defScope s_along) := ⟨rfl, rfl, rfl, by decide +kernel, rfl, by decide +kernel, by decide +kernel⟩
abbrev s_row_by : Stmt := topS 33
theorem sc_row_by : FnScope ["table", "label", "letters", "found", "here", "at"] ["table", "label", "letters"] (defScope s_row_by) := ⟨rfl, rfl, rfl, by decide +kernel, rfl, by decide +kernel, by decide +kernel⟩
abbrev s_row_of : Stmt := topS 34
theorem sc_row_of : FnScope ["table", "label", "slope"] ["table", "label", "slope"] (defScope s_row_of) := ⟨rfl, rfl, rfl, by decide +kernel, rfl, by decide +kernel, by decide +kernel⟩
abbrev s_way_over : Stmt := topS 35
theorem sc_way_over : FnScope ["slope", "high"] ["slope"] (defScope s_way_over) := ⟨rfl, rfl, rfl, by decide +kernel, rfl, by decide +kernel, by decide +kernel⟩
abbrev s_row_above : Stmt := topS 36
theorem sc_row_above : FnScope ["table", "slope", "row", "letters", "line", "label"] ["table", "slope", "row"] (defScope s_row_above) := ⟨rfl, rfl, rfl, by decide +kernel, rfl, by decide +kernel, by decide +kernel⟩
abbrev s_Lbag : Stmt := topS 38
theorem sc_Lbag : FnScope ["_law_script", "_law_cell"] ["_law_script"] (defScope s_Lbag) := ⟨rfl, rfl, rfl, by decide +kernel, rfl, by decide +kernel, by decide +kernel⟩
abbrev s_Ltake : Stmt := topS 39
theorem sc_Ltake : FnScope ["_law_bag_here", "_law_many", "_law_cell", "_law_stirred", "_law_value", "_law_begin", "_law_second"] ["_law_bag_here", "_law_many"] (defScope s_Ltake) := ⟨rfl, rfl, rfl, by decide +kernel, rfl, by decide +kernel, by decide +kernel⟩
abbrev s_Lsome : Stmt := topS 40
theorem sc_Lsome : FnScope ["_law_bag_here", "_law_things"] ["_law_bag_here", "_law_things"] (defScope s_Lsome) := ⟨rfl, rfl, rfl, by decide +kernel, rfl, by decide +kernel, by decide +kernel⟩
abbrev s_Lmixed : Stmt := topS 41
theorem sc_Lmixed : FnScope ["_law_bag_here", "_law_things", "_law_found", "_law_thing"] ["_law_bag_here", "_law_things"] (defScope s_Lmixed) := ⟨rfl, rfl, rfl, by decide +kernel, rfl, by decide +kernel, by decide +kernel⟩
abbrev s_Lalike : Stmt := topS 42
theorem sc_Lalike : FnScope ["_law_found", "_law_due"] ["_law_found", "_law_due"] (defScope s_Lalike) := ⟨rfl, rfl, rfl, by decide +kernel, rfl, by decide +kernel, by decide +kernel⟩
abbrev s_Ljoins : Stmt := topS 43
theorem sc_Ljoins : FnScope ["_law_bag_here", "_law_size", "_law_kind", "_law_spots", "_law_cell", "_law_near", "_law_x", "_law_y", "_law_rights", "_law_ups", "_law_spot"] ["_law_bag_here", "_law_size"] (defScope s_Ljoins) := ⟨rfl, rfl, rfl, by decide +kernel, rfl, by decide +kernel, by decide +kernel⟩
abbrev s_Lgated : Stmt := topS 44
theorem sc_Lgated : FnScope ["_law_bag_here", "_law_joins_here", "_law_free", "_law_found", "_law_cell"] ["_law_bag_here", "_law_joins_here"] (defScope s_Lgated) := ⟨rfl, rfl, rfl, by decide +kernel, rfl, by decide +kernel, by decide +kernel⟩
abbrev s_Ledges_of : Stmt := topS 45
theorem sc_Ledges_of : FnScope ["_law_rights", "_law_ups", "_law_cells", "_law_found", "_law_c"] ["_law_rights", "_law_ups"] (defScope s_Ledges_of) := ⟨rfl, rfl, rfl, by decide +kernel, rfl, by decide +kernel, by decide +kernel⟩
abbrev s_Lpermutation : Stmt := topS 46
theorem sc_Lpermutation : FnScope ["_law_bag_here", "_law_many", "_law_is_turn", "_law_by", "_law_moved", "_law_order", "_law_at"] ["_law_bag_here", "_law_many", "_law_is_turn"] (defScope s_Lpermutation) := ⟨rfl, rfl, rfl, by decide +kernel, rfl, by decide +kernel, by decide +kernel⟩
abbrev s_Ldials : Stmt := topS 47
theorem sc_Ldials : FnScope ["_law_bag_here", "_law_edges", "_law_marks", "_law_is_turn", "_law_found", "_law_edge"] ["_law_bag_here", "_law_edges", "_law_marks"] (defScope s_Ldials) := ⟨rfl, rfl, rfl, by decide +kernel, rfl, by decide +kernel, by decide +kernel⟩
abbrev s_Lname : Stmt := topS 48
theorem sc_Lname : FnScope ["_law_bag_here"] ["_law_bag_here"] (defScope s_Lname) := ⟨rfl, rfl, rfl, by decide +kernel, rfl, by decide +kernel, by decide +kernel⟩
abbrev s_Ltable : Stmt := topS 49
theorem sc_Ltable : FnScope ["_law_bag_here", "_law_most", "_law_size", "_law_marks", "_law_rights", "_law_ups", "_law_bare", "_law_points_here", "_law_some_here", "_law_point"] ["_law_bag_here", "_law_most"] (defScope s_Ltable) := ⟨rfl, rfl, rfl, by decide +kernel, rfl, by decide +kernel, by decide +kernel⟩
abbrev s_Lcorners : Stmt := topS 50
theorem sc_Lcorners : FnScope ["_law_table_here", "_law_found", "_law_cell"] ["_law_table_here"] (defScope s_Lcorners) := ⟨rfl, rfl, rfl, by decide +kernel, rfl, by decide +kernel, by decide +kernel⟩
abbrev s_Lbeside : Stmt := topS 51
theorem sc_Lbeside : FnScope ["_law_table_here", "_law_corner", "_law_cell", "_law_x", "_law_y", "_law_beside_here", "_law_above", "_law_found"] ["_law_table_here", "_law_corner"] (defScope s_Lbeside) := ⟨rfl, rfl, rfl, by decide +kernel, rfl, by decide +kernel, by decide +kernel⟩
abbrev s_Lpoint_of : Stmt := topS 52
theorem sc_Lpoint_of : FnScope ["_law_table_here", "_law_corner", "_law_found", "_law_at", "_law_one"] ["_law_table_here", "_law_corner"] (defScope s_Lpoint_of) := ⟨rfl, rfl, rfl, by decide +kernel, rfl, by decide +kernel, by decide +kernel⟩
abbrev s_Lpoints : Stmt := topS 53
theorem sc_Lpoints : FnScope ["_law_table_here", "_law_corner"] ["_law_table_here"] (defScope s_Lpoints) := ⟨rfl, rfl, rfl, by decide +kernel, rfl, by decide +kernel, by decide +kernel⟩
abbrev s_Llabels : Stmt := topS 54
theorem sc_Llabels : FnScope ["_law_table_here", "_law_found", "_law_corner", "_law_mark"] ["_law_table_here"] (defScope s_Llabels) := ⟨rfl, rfl, rfl, by decide +kernel, rfl, by decide +kernel, by decide +kernel⟩
abbrev s_Lahead : Stmt := topS 55
theorem sc_Lahead : FnScope ["_law_table_here", "_law_label", "_law_is_up", "_law_cell", "_law_x", "_law_y", "_law_mark", "_law_joins_here", "_law_side_here", "_law_word_here", "_law_other"] ["_law_table_here", "_law_label", "_law_is_up"] (defScope s_Lahead) := ⟨rfl, rfl, rfl, by decide +kernel, rfl, by decide +kernel, by decide +kernel⟩
abbrev s_Lgo : Stmt := topS 56
theorem sc_Lgo : FnScope ["_law_table_here", "_law_label", "_law_is_up", "_law_cell", "_law_x", "_law_y", "_law_mark", "_law_edge", "_law_behind"] ["_law_table_here", "_law_label", "_law_is_up"] (defScope s_Lgo) := ⟨rfl, rfl, rfl, by decide +kernel, rfl, by decide +kernel, by decide +kernel⟩
abbrev s_Lside : Stmt := topS 57
theorem sc_Lside : FnScope ["_law_table_here", "_law_label"] ["_law_table_here", "_law_label"] (defScope s_Lside) := ⟨rfl, rfl, rfl, by decide +kernel, rfl, by decide +kernel, by decide +kernel⟩
abbrev s_Lup : Stmt := topS 58
theorem sc_Lup : FnScope ["_law_table_here", "_law_label"] ["_law_table_here", "_law_label"] (defScope s_Lup) := ⟨rfl, rfl, rfl, by decide +kernel, rfl, by decide +kernel, by decide +kernel⟩
abbrev s_Lkept : Stmt := topS 59
theorem sc_Lkept : FnScope ["_law_table_here", "_law_found", "_law_label", "_law_one"] ["_law_table_here"] (defScope s_Lkept) := ⟨rfl, rfl, rfl, by decide +kernel, rfl, by decide +kernel, by decide +kernel⟩
abbrev s_Lcrossings : Stmt := topS 60
theorem sc_Lcrossings : FnScope ["_law_slope_here", "_law_p", "_law_q", "_law_found", "_law_i", "_law_j", "_law_is_side"] ["_law_slope_here"] (defScope s_Lcrossings) := ⟨rfl, rfl, rfl, by decide +kernel, rfl, by decide +kernel, by decide +kernel⟩
abbrev s_Lneighbours : Stmt := topS 61
theorem sc_Lneighbours : FnScope ["_law_word_here", "_law_v", "_law_w", "_law_letter", "_law_middle"] ["_law_word_here"] (defScope s_Lneighbours) := ⟨rfl, rfl, rfl, by decide +kernel, rfl, by decide +kernel, by decide +kernel⟩
abbrev s_Lslope_of : Stmt := topS 62
theorem sc_Lslope_of : FnScope ["_law_word_here", "_law_v", "_law_w"] ["_law_word_here"] (defScope s_Lslope_of) := ⟨rfl, rfl, rfl, by decide +kernel, rfl, by decide +kernel, by decide +kernel⟩
abbrev s_Lword_of : Stmt := topS 63
theorem sc_Lword_of : FnScope ["_law_slope_here", "_law_p", "_law_q", "_law_found"] ["_law_slope_here"] (defScope s_Lword_of) := ⟨rfl, rfl, rfl, by decide +kernel, rfl, by decide +kernel, by decide +kernel⟩
abbrev s_Lword : Stmt := topS 64
theorem sc_Lword : FnScope ["_law_bag_here", "_law_most", "_law_way", "_law_many", "_law_found", "_law_turn"] ["_law_bag_here", "_law_most"] (defScope s_Lword) := ⟨rfl, rfl, rfl, by decide +kernel, rfl, by decide +kernel, by decide +kernel⟩
abbrev s_Lslope : Stmt := topS 65
theorem sc_Lslope : FnScope ["_law_bag_here", "_law_most", "_law_way", "_law_many", "_law_word_here", "_law_turn", "_law_slope_here"] ["_law_bag_here", "_law_most"] (defScope s_Lslope) := ⟨rfl, rfl, rfl, by decide +kernel, rfl, by decide +kernel, by decide +kernel⟩
abbrev s_Lalong : Stmt := topS 66
theorem sc_Lalong : FnScope ["_law_table_here", "_law_label", "_law_letters", "_law_letter"] ["_law_table_here", "_law_label", "_law_letters"] (defScope s_Lalong) := ⟨rfl, rfl, rfl, by decide +kernel, rfl, by decide +kernel, by decide +kernel⟩
abbrev s_Lrow : Stmt := topS 67
theorem sc_Lrow : FnScope ["_law_table_here", "_law_label", "_law_letters", "_law_found", "_law_here", "_law_at"] ["_law_table_here", "_law_label", "_law_letters"] (defScope s_Lrow) := ⟨rfl, rfl, rfl, by decide +kernel, rfl, by decide +kernel, by decide +kernel⟩
abbrev s_Lrows : Stmt := topS 68
theorem sc_Lrows : FnScope ["_law_table_here", "_law_slope_here", "_law_letters", "_law_found", "_law_met", "_law_label"] ["_law_table_here", "_law_slope_here"] (defScope s_Lrows) := ⟨rfl, rfl, rfl, by decide +kernel, rfl, by decide +kernel, by decide +kernel⟩
abbrev s_Lover : Stmt := topS 69
theorem sc_Lover : FnScope ["_law_table_here", "_law_slope_here", "_law_row_here", "_law_high", "_law_letters", "_law_label"] ["_law_table_here", "_law_slope_here", "_law_row_here"] (defScope s_Lover) := ⟨rfl, rfl, rfl, by decide +kernel, rfl, by decide +kernel, by decide +kernel⟩
abbrev s_Lopen_points : Stmt := topS 70
theorem sc_Lopen_points : FnScope ["_law_table_here", "_law_kept_here", "_law_found", "_law_lost", "_law_point", "_law_label", "_law_corner"] ["_law_table_here"] (defScope s_Lopen_points) := ⟨rfl, rfl, rfl, by decide +kernel, rfl, by decide +kernel, by decide +kernel⟩
abbrev s_Lrow_above : Stmt := topS 71
theorem sc_Lrow_above : FnScope ["_law_table_here", "_law_slope_here", "_law_row_here", "_law_rows_here", "_law_free", "_law_line", "_law_label", "_law_one"] ["_law_table_here", "_law_slope_here", "_law_row_here", "_law_rows_here", "_law_free"] (defScope s_Lrow_above) := ⟨rfl, rfl, rfl, by decide +kernel, rfl, by decide +kernel, by decide +kernel⟩
abbrev s_law : Stmt := topS 72
theorem sc_law : FnScope ["_law_script", "_law_bag_here", "_law_turn", "_law_table_here", "_law_slope_here", "_law_rows_here", "_law_free", "_law_told", "_law_row_here", "_law_due"] ["_law_script"] (defScope s_law) := ⟨rfl, rfl, rfl, by decide +kernel, rfl, by decide +kernel, by decide +kernel⟩
theorem bk_corners_at (scope : Scope) (own : List (Str × Nat)) (h : blkB ["rights", "ups", "corner", "found", "at", "other"] (defScope s_corners_at) scope own = true) : BlkOk ["rights", "ups", "corner", "found", "at", "other"] (defScope s_corners_at) scope own := blk_of sc_corners_at h
theorem bk_labels_at (scope : Scope) (own : List (Str × Nat)) (h : blkB ["table", "point", "corner", "mark"] (defScope s_labels_at) scope own = true) : BlkOk ["table", "point", "corner", "mark"] (defScope s_labels_at) scope own := blk_of sc_labels_at h
theorem bk_are_kept (scope : Scope) (own : List (Str × Nat)) (h : blkB ["table", "point", "label"] (defScope s_are_kept) scope own = true) : BlkOk ["table", "point", "label"] (defScope s_are_kept) scope own := blk_of sc_are_kept h
theorem bk_row_above (scope : Scope) (own : List (Str × Nat)) (h : blkB ["table", "slope", "row", "letters", "line", "label"] (defScope s_row_above) scope own = true) : BlkOk ["table", "slope", "row", "letters", "line", "label"] (defScope s_row_above) scope own := blk_of sc_row_above h
theorem bk_Lbag (scope : Scope) (own : List (Str × Nat)) (h : blkB ["_law_script", "_law_cell"] (defScope s_Lbag) scope own = true) : BlkOk ["_law_script", "_law_cell"] (defScope s_Lbag) scope own := blk_of sc_Lbag h
theorem bk_Ljoins (scope : Scope) (own : List (Str × Nat)) (h : blkB ["_law_bag_here", "_law_size", "_law_kind", "_law_spots", "_law_cell", "_law_near", "_law_x", "_law_y", "_law_rights", "_law_ups", "_law_spot"] (defScope s_Ljoins) scope own = true) : BlkOk ["_law_bag_here", "_law_size", "_law_kind", "_law_spots", "_law_cell", "_law_near", "_law_x", "_law_y", "_law_rights", "_law_ups", "_law_spot"] (defScope s_Ljoins) scope own := blk_of sc_Ljoins h
theorem bk_Lgated (scope : Scope) (own : List (Str × Nat)) (h : blkB ["_law_bag_here", "_law_joins_here", "_law_free", "_law_found", "_law_cell"] (defScope s_Lgated) scope own = true) : BlkOk ["_law_bag_here", "_law_joins_here", "_law_free", "_law_found", "_law_cell"] (defScope s_Lgated) scope own := blk_of sc_Lgated h
theorem bk_Ledges_of (scope : Scope) (own : List (Str × Nat)) (h : blkB ["_law_rights", "_law_ups", "_law_cells", "_law_found", "_law_c"] (defScope s_Ledges_of) scope own = true) : BlkOk ["_law_rights", "_law_ups", "_law_cells", "_law_found", "_law_c"] (defScope s_Ledges_of) scope own := blk_of sc_Ledges_of h
theorem bk_Lpermutation (scope : Scope) (own : List (Str × Nat)) (h : blkB ["_law_bag_here", "_law_many", "_law_is_turn", "_law_by", "_law_moved", "_law_order", "_law_at"] (defScope s_Lpermutation) scope own = true) : BlkOk ["_law_bag_here", "_law_many", "_law_is_turn", "_law_by", "_law_moved", "_law_order", "_law_at"] (defScope s_Lpermutation) scope own := blk_of sc_Lpermutation h
theorem bk_Ltable (scope : Scope) (own : List (Str × Nat)) (h : blkB ["_law_bag_here", "_law_most", "_law_size", "_law_marks", "_law_rights", "_law_ups", "_law_bare", "_law_points_here", "_law_some_here", "_law_point"] (defScope s_Ltable) scope own = true) : BlkOk ["_law_bag_here", "_law_most", "_law_size", "_law_marks", "_law_rights", "_law_ups", "_law_bare", "_law_points_here", "_law_some_here", "_law_point"] (defScope s_Ltable) scope own := blk_of sc_Ltable h
theorem bk_Lpoint_of (scope : Scope) (own : List (Str × Nat)) (h : blkB ["_law_table_here", "_law_corner", "_law_found", "_law_at", "_law_one"] (defScope s_Lpoint_of) scope own = true) : BlkOk ["_law_table_here", "_law_corner", "_law_found", "_law_at", "_law_one"] (defScope s_Lpoint_of) scope own := blk_of sc_Lpoint_of h
theorem bk_Lpoints (scope : Scope) (own : List (Str × Nat)) (h : blkB ["_law_table_here", "_law_corner"] (defScope s_Lpoints) scope own = true) : BlkOk ["_law_table_here", "_law_corner"] (defScope s_Lpoints) scope own := blk_of sc_Lpoints h
theorem bk_Llabels (scope : Scope) (own : List (Str × Nat)) (h : blkB ["_law_table_here", "_law_found", "_law_corner", "_law_mark"] (defScope s_Llabels) scope own = true) : BlkOk ["_law_table_here", "_law_found", "_law_corner", "_law_mark"] (defScope s_Llabels) scope own := blk_of sc_Llabels h
theorem bk_Lword (scope : Scope) (own : List (Str × Nat)) (h : blkB ["_law_bag_here", "_law_most", "_law_way", "_law_many", "_law_found", "_law_turn"] (defScope s_Lword) scope own = true) : BlkOk ["_law_bag_here", "_law_most", "_law_way", "_law_many", "_law_found", "_law_turn"] (defScope s_Lword) scope own := blk_of sc_Lword h
theorem bk_Lover (scope : Scope) (own : List (Str × Nat)) (h : blkB ["_law_table_here", "_law_slope_here", "_law_row_here", "_law_high", "_law_letters", "_law_label"] (defScope s_Lover) scope own = true) : BlkOk ["_law_table_here", "_law_slope_here", "_law_row_here", "_law_high", "_law_letters", "_law_label"] (defScope s_Lover) scope own := blk_of sc_Lover h
theorem bk_Lopen_points (scope : Scope) (own : List (Str × Nat)) (h : blkB ["_law_table_here", "_law_kept_here", "_law_found", "_law_lost", "_law_point", "_law_label", "_law_corner"] (defScope s_Lopen_points) scope own = true) : BlkOk ["_law_table_here", "_law_kept_here", "_law_found", "_law_lost", "_law_point", "_law_label", "_law_corner"] (defScope s_Lopen_points) scope own := blk_of sc_Lopen_points h
theorem bk_Lrow_above (scope : Scope) (own : List (Str × Nat)) (h : blkB ["_law_table_here", "_law_slope_here", "_law_row_here", "_law_rows_here", "_law_free", "_law_line", "_law_label", "_law_one"] (defScope s_Lrow_above) scope own = true) : BlkOk ["_law_table_here", "_law_slope_here", "_law_row_here", "_law_rows_here", "_law_free", "_law_line", "_law_label", "_law_one"] (defScope s_Lrow_above) scope own := blk_of sc_Lrow_above h
/-- the defs, by name -/
def tabD : List (Str × Stmt) := [(("crossings_of" : Str), s_crossings_of), (("straight" : Str), s_straight), (("beside" : Str), s_beside), (("corners_at" : Str), s_corners_at), (("ahead_of" : Str), s_ahead_of), (("edge_named" : Str), s_edge_named), (("edge_ahead" : Str), s_edge_ahead), (("joined_to" : Str), s_joined_to), (("permutation_of" : Str), s_permutation_of), (("beyond" : Str), s_beyond), (("gone" : Str), s_gone), (("sideways" : Str), s_sideways), (("up" : Str), s_up), (("came" : Str), s_came), (("from_sideways" : Str), s_from_sideways), (("from_up" : Str), s_from_up), (("is_kept" : Str), s_is_kept), (("point_at" : Str), s_point_at), (("labels_at" : Str), s_labels_at), (("are_kept" : Str), s_are_kept), (("is_free" : Str), s_is_free), (("added" : Str), s_added), (("word_of" : Str), s_word_of), (("neighbours_of" : Str), s_neighbours_of), (("along" : Str), s_along), (("row_by" : Str), s_row_by), (("row_of" : Str), s_row_of), (("way_over" : Str), s_way_over), (("row_above" : Str), s_row_above), (("_law_bag" : Str), s_Lbag), (("_law_take" : Str), s_Ltake), (("_law_some" : Str), s_Lsome), (("_law_mixed" : Str), s_Lmixed), (("_law_alike" : Str), s_Lalike), (("_law_joins" : Str), s_Ljoins), (("_law_gated" : Str), s_Lgated), (("_law_edges_of" : Str), s_Ledges_of), (("_law_permutation" : Str), s_Lpermutation), (("_law_dials" : Str), s_Ldials), (("_law_name" : Str), s_Lname), (("_law_table" : Str), s_Ltable), (("_law_corners" : Str), s_Lcorners), (("_law_beside" : Str), s_Lbeside), (("_law_point_of" : Str), s_Lpoint_of), (("_law_points" : Str), s_Lpoints), (("_law_labels" : Str), s_Llabels), (("_law_ahead" : Str), s_Lahead), (("_law_go" : Str), s_Lgo), (("_law_side" : Str), s_Lside), (("_law_up" : Str), s_Lup), (("_law_kept" : Str), s_Lkept), (("_law_crossings" : Str), s_Lcrossings), (("_law_neighbours" : Str), s_Lneighbours), (("_law_slope_of" : Str), s_Lslope_of), (("_law_word_of" : Str), s_Lword_of), (("_law_word" : Str), s_Lword), (("_law_slope" : Str), s_Lslope), (("_law_along" : Str), s_Lalong), (("_law_row" : Str), s_Lrow), (("_law_rows" : Str), s_Lrows), (("_law_over" : Str), s_Lover), (("_law_open_points" : Str), s_Lopen_points), (("_law_row_above" : Str), s_Lrow_above), (("law" : Str), s_law)]
def frees : List Str := ["range", "len", "sorted", "set", "tuple", "list", "dict", "all", "min", "abs", "int", "repr", "enumerate"]
structure G47 (K : PySem.W.Frag) (mg : Str → Option Value) : Prop where
  df : ∀ (i : Nat) (p : Str × Stmt), tabD[i]? = some p → ∃ f fd, FnP K p.1 p.2 f fd ∧ mg p.1 = some (.ref f)
  fr : ∀ (i : Nat) (x : Str), frees[i]? = some x → mg x = none
theorem G47.at {K : PySem.W.Frag} {mg : Str → Option Value} (G : G47 K mg) (i : Nat) (x : Str) (st : Stmt) (h : tabD[i]? = some (x, st) := by rfl) : ∃ f fd, FnP K x st f fd ∧ mg x = some (.ref f) := G.df i (x, st) h
theorem G47.range {K : PySem.W.Frag} {mg : Str → Option Value} (G : G47 K mg) : mg "range" = none := G.fr 0 _ rfl
theorem G47.len {K : PySem.W.Frag} {mg : Str → Option Value} (G : G47 K mg) : mg "len" = none := G.fr 1 _ rfl
theorem G47.sorted {K : PySem.W.Frag} {mg : Str → Option Value} (G : G47 K mg) : mg "sorted" = none := G.fr 2 _ rfl
theorem G47.set {K : PySem.W.Frag} {mg : Str → Option Value} (G : G47 K mg) : mg "set" = none := G.fr 3 _ rfl
theorem G47.tuple {K : PySem.W.Frag} {mg : Str → Option Value} (G : G47 K mg) : mg "tuple" = none := G.fr 4 _ rfl
theorem G47.list {K : PySem.W.Frag} {mg : Str → Option Value} (G : G47 K mg) : mg "list" = none := G.fr 5 _ rfl
theorem G47.dict {K : PySem.W.Frag} {mg : Str → Option Value} (G : G47 K mg) : mg "dict" = none := G.fr 6 _ rfl
theorem G47.all {K : PySem.W.Frag} {mg : Str → Option Value} (G : G47 K mg) : mg "all" = none := G.fr 7 _ rfl
theorem G47.min {K : PySem.W.Frag} {mg : Str → Option Value} (G : G47 K mg) : mg "min" = none := G.fr 8 _ rfl
theorem G47.abs {K : PySem.W.Frag} {mg : Str → Option Value} (G : G47 K mg) : mg "abs" = none := G.fr 9 _ rfl
theorem G47.int {K : PySem.W.Frag} {mg : Str → Option Value} (G : G47 K mg) : mg "int" = none := G.fr 10 _ rfl
theorem G47.repr {K : PySem.W.Frag} {mg : Str → Option Value} (G : G47 K mg) : mg "repr" = none := G.fr 11 _ rfl
theorem G47.enumerate {K : PySem.W.Frag} {mg : Str → Option Value} (G : G47 K mg) : mg "enumerate" = none := G.fr 12 _ rfl
end K47
set_option Elab.async false
set_option linter.all false
set_option maxRecDepth 100000
set_option maxHeartbeats 2000000
namespace K47
open PySem PySem.Spec PyProof.Rows L2
theorem room65 {k : Nat} {A : Around} (r : Room k A) : A.units + 65 < cLine := by have := r.un; omega
section
variable {P : Program} {w : World} {K : PySem.W.Frag} {mg : Str → Option Value} {base : Heap}
/-! ### tables -/
def wAhead : Wp := fun rs Q => ∃ (row : List (Option Nat)) (c : Nat), rs = [.d (eRw row), .d (.int c)] ∧ Q (.d (eO (aheadOf row c)))
theorem c_ahead (G : G47 K mg) : Cl P w K mg base 1 "ahead_of" wAhead := by
  refine cal_data (G.at 4 "ahead_of" s_ahead_of) sc_ahead_of (fun _ _ _ _ _ _ us hl => match us, hl with | [_, _], _ => rfl) (fun rs Q h => ?_) (by decide) fun f cdv A outer s H E b rs Q as hr hw => ?_
  · obtain ⟨_, _, rfl, _⟩ := h; rfl
  · obtain ⟨row, c, rfl, k⟩ := hw
    show SSX _ _ _ [_, _] _ _
    have hu := room65 hr
    refine ssx_one (sx_retD (ed_if (td_inT hu enc_O (x := some c) (ys := row) (ed_var 1) (ed_var 0)) (fun h => ?_) fun h => ?_) k)
    · have e : aheadOf row c = some (ixA (some c) row) := if_pos h
      rw [e]
      exact ed_ixOfT hu enc_O (k := some c) (ks := row) (ed_var 0) (ed_var 1) (memA_iff.mp h)
    · have e : aheadOf row c = none := if_neg (by rw [h]; exact Bool.false_ne_true)
      rw [e]
      exact ed_non
/-- the edge that a side of a cell is -/
def nameE (rights ups : List (Option Nat)) (s : Sd) (c : Nat) : Edg := match s with
  | .right => (.right, c)
  | .up => (.up, c)
  | .left => match aheadOf rights c with
    | none => (.left, c)
    | some o => (.right, o)
  | .down => match aheadOf ups c with
    | none => (.down, c)
    | some o => (.up, o)
def wNamed : Wp := fun rs Q => ∃ (rights ups : List (Option Nat)) (s : Sd) (c : Nat), rs = [.d (eRw rights), .d (eRw ups), .d (.str (sdN s)), .d (.int c)] ∧ Q (.d (eE (nameE rights ups s c)))
def eS (s : Sd) : PyData := .str (sdN s)
theorem enc_S : EncOk eS := ⟨fun a b h => by
  injection h with h
  exact sdN_inj a b h, fun a => good_str (ok_sd a)⟩
theorem c_named (G : G47 K mg) : Cl P w K mg base 2 "edge_named" wNamed := by
  refine cal_data (G.at 5 "edge_named" s_edge_named) sc_edge_named (fun _ _ _ _ _ _ us hl => match us, hl with | [_, _, _, _], _ => rfl) (fun rs Q h => ?_) (by decide) fun f cdv A outer s H E b rs Q as hr hw => ?_
  · obtain ⟨_, _, _, _, rfl, _⟩ := h; rfl
  · obtain ⟨rights, ups, sd, c, rfl, k⟩ := hw
    show SSX _ _ _ [_, _, _, _, _, _, _] _ _
    have hu := room65 hr
    refine ssx_cons (sx_ifD (td_inT hu enc_S (x := sd) (ys := [.right, .up]) (ed_var 2) (ed_tup (ad_cons ed_str (ad_cons ed_str ad_nil)))) (fun h => ?_) fun h => ?_)
    · have h' := memA_iff.mp h
      refine ssx_one (sx_retD (ed_tup (ad_cons (ed_var 2) (ad_cons (ed_var 3) ad_nil))) ?_)
      rcases List.mem_cons.mp h' with e | h2
      · subst e; exact k
      · rcases List.mem_cons.mp h2 with e | h3
        · subst e; exact k
        · cases h3
    · have h' := memA_not.mp h
      refine ssx_nil ?_
      have hs : sd = .left ∨ sd = .down := by cases sd <;> simp at h' <;> simp
      rcases hs with e | e
      · subst e
        refine ssx_cons (sx_asg (d := .tuple [eRw rights, .str "right"]) (ed_if (td_eqS (ed_var 2) ed_str) (fun _ => ed_tup (ad_cons (ed_var 0) (ad_cons ed_str ad_nil))) fun h => absurd h (by decide)) (gx_tup (gsx_cons (gx_name 4 (gsx_cons (gx_name 5 (gsx_nil ?_) sc_edge_named.nd)) sc_edge_named.nd))))
        refine ssx_cons (sx_setD 6 (ed_c (c_ahead G) hr (by omega) (ad_cons (ed_var 4) (ad_cons (ed_var 3) ad_nil)) ⟨rights, c, rfl, rfl⟩) ?_ sc_edge_named.nd)
        refine ssx_one (sx_retD (ed_if (td_isN (ed_var 6)) (fun h => ?_) fun h => ?_) k)
        · show ED _ _ _ _ _ (.d (eE (nameE rights ups .left c)))
          have e : nameE rights ups .left c = (.left, c) := by
            show (match aheadOf rights c with | none => (Sd.left, c) | some o => (Sd.right, o)) = _
            cases q : aheadOf rights c with
            | none => rfl
            | some o => rw [q] at h; cases h
          rw [e]
          exact ed_tup (ad_cons (ed_var 2) (ad_cons (ed_var 3) ad_nil))
        · show ED _ _ _ _ _ (.d (eE (nameE rights ups .left c)))
          cases q : aheadOf rights c with
          | none => rw [q] at h; cases h
          | some o =>
            have e : nameE rights ups .left c = (.right, o) := by
              show (match aheadOf rights c with | none => (Sd.left, c) | some o => (Sd.right, o)) = _
              rw [q]
            rw [e]
            exact ed_tup (ad_cons (ed_var 5) (ad_cons (ed_var 6) ad_nil))
      · subst e
        refine ssx_cons (sx_asg (d := .tuple [eRw ups, .str "up"]) (ed_if (td_eqS (ed_var 2) ed_str) (fun h => absurd h (by decide)) fun _ => ed_tup (ad_cons (ed_var 1) (ad_cons ed_str ad_nil))) (gx_tup (gsx_cons (gx_name 4 (gsx_cons (gx_name 5 (gsx_nil ?_) sc_edge_named.nd)) sc_edge_named.nd))))
        refine ssx_cons (sx_setD 6 (ed_c (c_ahead G) hr (by omega) (ad_cons (ed_var 4) (ad_cons (ed_var 3) ad_nil)) ⟨ups, c, rfl, rfl⟩) ?_ sc_edge_named.nd)
        refine ssx_one (sx_retD (ed_if (td_isN (ed_var 6)) (fun h => ?_) fun h => ?_) k)
        · show ED _ _ _ _ _ (.d (eE (nameE rights ups .down c)))
          have e : nameE rights ups .down c = (.down, c) := by
            show (match aheadOf ups c with | none => (Sd.down, c) | some o => (Sd.up, o)) = _
            cases q : aheadOf ups c with
            | none => rfl
            | some o => rw [q] at h; cases h
          rw [e]
          exact ed_tup (ad_cons (ed_var 2) (ad_cons (ed_var 3) ad_nil))
        · show ED _ _ _ _ _ (.d (eE (nameE rights ups .down c)))
          cases q : aheadOf ups c with
          | none => rw [q] at h; cases h
          | some o =>
            have e : nameE rights ups .down c = (.up, o) := by
              show (match aheadOf ups c with | none => (Sd.down, c) | some o => (Sd.up, o)) = _
              rw [q]
            rw [e]
            exact ed_tup (ad_cons (ed_var 5) (ad_cons (ed_var 6) ad_nil))
end
end K47
set_option Elab.async false
set_option linter.all false
set_option maxRecDepth 100000
set_option maxHeartbeats 2000000
namespace K47
open PySem PySem.Spec PyProof.Rows L2
section
variable {P : Program} {w : World} {K : PySem.W.Frag} {mg : Str → Option Value} {base : Heap}
def sdAt (u : Bool) (s : Nat) : Sd := if s = 0 then wd u else wd' u
def edgeE (t : Tb) (l : Lab) (u : Bool) : Edg := nameE t.rights t.ups (sdAt u (sideOf l u)) l.1
def wEdge : Wp := fun rs Q => ∃ (t : Tb) (l : Lab) (u : Bool), rs = [.d (eT t), .d (eL l), .d (.bool u)] ∧ l.2.1 < 2 ∧ l.2.2.1 < 2 ∧ Q (.d (eE (edgeE t l u)))
theorem c_edge (G : G47 K mg) : Cl P w K mg base 3 "edge_ahead" wEdge := by
  refine cal_data (G.at 6 "edge_ahead" s_edge_ahead) sc_edge_ahead (fun _ _ _ _ _ _ us hl => match us, hl with | [_, _, _], _ => rfl) (fun rs Q h => ?_) (by decide) fun f cdv A outer s H E b rs Q as hr hw => ?_
  · obtain ⟨_, _, _, rfl, _⟩ := h; rfl
  · obtain ⟨t, ⟨c, x, y, m⟩, u, rfl, hx, hy, k⟩ := hw
    show SSX _ _ _ [_, _, _, _, _, _, _, _] _ _
    refine ssx_cons (sx_asg (d := eL (c, x, y, m)) (ed_var 1) (gx_tup (gsx_cons (gx_name 3 (gsx_cons (gx_name 4 (gsx_cons (gx_name 5 (gsx_cons (gx_name 6 (gsx_nil ?_) sc_edge_ahead.nd)) sc_edge_ahead.nd)) sc_edge_ahead.nd)) sc_edge_ahead.nd))))
    refine ssx_cons (sx_setD 7 (d := .str (sdN (sdAt u (sideOf (c, x, y, m) u)))) (ed_if (td_val (ed_var 2)) (fun h => ?_) fun h => ?_) ?_ sc_edge_ahead.nd)
    · subst h
      have h2 : y = 0 ∨ y = 1 := by have : y < 2 := hy; omega
      rcases h2 with e | e
      · subst e; exact ed_ixT (ed_tup (ad_cons ed_str (ad_cons ed_str ad_nil))) (ed_var 5) rfl
      · subst e; exact ed_ixT (ed_tup (ad_cons ed_str (ad_cons ed_str ad_nil))) (ed_var 5) rfl
    · subst h
      have h2 : x = 0 ∨ x = 1 := by have : x < 2 := hx; omega
      rcases h2 with e | e
      · subst e; exact ed_ixT (ed_tup (ad_cons ed_str (ad_cons ed_str ad_nil))) (ed_var 4) rfl
      · subst e; exact ed_ixT (ed_tup (ad_cons ed_str (ad_cons ed_str ad_nil))) (ed_var 4) rfl
    · exact ssx_one (sx_retD (ed_c (c_named G) hr (by omega) (ad_cons (ed_ixT (ed_var 0) ed_int rfl) (ad_cons (ed_ixT (ed_var 0) ed_int rfl) (ad_cons (ed_var 7) (ad_cons (ed_var 3) ad_nil)))) ⟨t.rights, t.ups, _, c, rfl, rfl⟩) k)
/-- what is behind an edge that has one -/
def joinE (t : Tb) (e : Edg) : Option Nat := match e.1 with
  | .right => t.rights.getD e.2 none
  | .up => t.ups.getD e.2 none
  | _ => none
def wJoined : Wp := fun rs Q => ∃ (t : Tb) (e : Edg), rs = [.d (eT t), .d (eE e)] ∧ e.2 < t.rights.length ∧ e.2 < t.ups.length ∧ Q (.d (eO (joinE t e)))
theorem atI_map {α : Type} {f : α → PyData} {xs : List α} {i : Nat} {x : α} (h : xs[i]? = some x) : atI (xs.map f) (i : Int) = some (f x) := by
  have hl := (List.getElem?_eq_some_iff.mp h).1
  unfold atI ixN
  rw [List.length_map, if_pos (by omega), if_pos (by omega)]
  show (xs.map f)[(i : Int).toNat]? = _
  rw [Int.toNat_natCast, List.getElem?_map, h]
  rfl
theorem atI_get {α : Type} {f : α → PyData} {xs : List α} {i : Nat} {d : α} (h : i < xs.length) : atI (xs.map f) (i : Int) = some (f (xs.getD i d)) := atI_map (by rw [List.getD_eq_getElem?_getD, List.getElem?_eq_getElem h]; rfl)
theorem c_joined (G : G47 K mg) : Cl P w K mg base 1 "joined_to" wJoined := by
  refine cal_data (G.at 7 "joined_to" s_joined_to) sc_joined_to (fun _ _ _ _ _ _ us hl => match us, hl with | [_, _], _ => rfl) (fun rs Q h => ?_) (by decide) fun f cdv A outer s H E b rs Q as hr hw => ?_
  · obtain ⟨_, _, rfl, _⟩ := h; rfl
  · obtain ⟨t, ⟨sd, c⟩, rfl, h1, h2, k⟩ := hw
    show SSX _ _ _ [_, _, _, _] _ _
    refine ssx_cons (sx_asg (d := eE (sd, c)) (ed_var 1) (gx_tup (gsx_cons (gx_name 2 (gsx_cons (gx_name 3 (gsx_nil ?_) sc_joined_to.nd)) sc_joined_to.nd))))
    refine ssx_cons (sx_ifD (td_eqS (ed_var 2) ed_str) (fun h => ?_) fun h => ssx_nil ?_)
    · have e : sd = .right := sdN_inj _ _ (of_decide_eq_true h)
      subst e
      exact ssx_one (sx_retD (ed_ixT (d := eO (t.rights.getD c none)) (ed_ixT (ed_var 0) ed_int rfl) (ed_var 3) (atI_get h1)) k)
    · refine ssx_one (sx_retD (x := eO (joinE t (sd, c))) (ed_if (td_eqS (ed_var 2) ed_str) (fun h2' => ?_) fun h2' => ?_) k)
      · have e : sd = .up := sdN_inj _ _ (of_decide_eq_true h2')
        subst e
        exact ed_ixT (d := eO (t.ups.getD c none)) (ed_ixT (ed_var 0) ed_int rfl) (ed_var 3) (atI_get h2)
      · cases sd with
        | right => exact absurd h (show ¬ decide (sdN .right = ("right" : Str)) = false by decide)
        | up => exact absurd h2' (show ¬ decide (sdN .up = ("up" : Str)) = false by decide)
        | left => exact ed_non
        | down => exact ed_non
def wPerm : Wp := fun rs Q => ∃ (t : Tb) (e : Edg), rs = [.d (eT t), .d (eE e)] ∧ TbOk t ∧ Q (.d (eP (permOf t e)))
theorem c_perm (G : G47 K mg) : Cl P w K mg base 1 "permutation_of" wPerm := by
  refine cal_data (G.at 8 "permutation_of" s_permutation_of) sc_permutation_of (fun _ _ _ _ _ _ us hl => match us, hl with | [_, _], _ => rfl) (fun rs Q h => ?_) (by decide) fun f cdv A outer s H E b rs Q as hr hw => ?_
  · obtain ⟨_, _, rfl, _⟩ := h; rfl
  · obtain ⟨t, e, rfl, ok, k⟩ := hw
    show SSX _ _ _ [_, _] _ _
    have hu := room65 hr
    exact ssx_one (sx_retD (ed_dictGet (ek := eE) (ev := eP) (ps := t.dials) (k := e) (d := List.range t.marks) hu G.dict enc_E (fun _ => ⟨_, rfl⟩) (fun _ => ⟨_, rfl⟩) ok.dk (by have := ok.dl; omega) (ed_ixT (ed_var 0) ed_int rfl) (.inl rfl) (ed_var 1) (ed_tupRg G.tuple G.range (ed_ixT (ed_var 0) ed_int rfl) (by have := ok.m4; omega))) k)
def beyE (t : Tb) (e : Edg) (on : Bool) : Option Nat := match joinE t e with
  | none => none
  | some o => some (if on then o else e.2)
def wBeyond : Wp := fun rs Q => ∃ (t : Tb) (e : Edg) (on : Bool), rs = [.d (eT t), .d (eE e), .d (.bool on)] ∧ e.2 < t.rights.length ∧ e.2 < t.ups.length ∧ Q (.d (eO (beyE t e on)))
theorem c_beyond (G : G47 K mg) : Cl P w K mg base 2 "beyond" wBeyond := by
  refine cal_data (G.at 9 "beyond" s_beyond) sc_beyond (fun _ _ _ _ _ _ us hl => match us, hl with | [_, _, _], _ => rfl) (fun rs Q h => ?_) (by decide) fun f cdv A outer s H E b rs Q as hr hw => ?_
  · obtain ⟨_, _, _, rfl, _⟩ := h; rfl
  · obtain ⟨t, e, on, rfl, h1, h2, k⟩ := hw
    show SSX _ _ _ [_, _, _, _] _ _
    refine ssx_cons (sx_setD 3 (ed_c (c_joined G) hr (by omega) (ad_cons (ed_var 0) (ad_cons (ed_var 1) ad_nil)) ⟨t, e, rfl, h1, h2, rfl⟩) ?_ sc_beyond.nd)
    unfold beyE at k
    refine ssx_cons (sx_ifD (td_isO (ed_var 3)) (fun h => ?_) fun h => ssx_nil ?_)
    · have q : joinE t e = none := Option.isNone_iff_eq_none.mp h
      rw [q] at k
      exact ssx_one (sx_retD ed_non k)
    · obtain ⟨o, q⟩ : ∃ o, joinE t e = some o := by
        cases q : joinE t e with
        | none => rw [q] at h; cases h
        | some o => exact ⟨o, rfl⟩
      rw [q] at k ⊢
      refine ssx_one (sx_retD (ed_if (td_val (ed_var 2)) (fun h => ?_) fun h => ?_) k)
      · subst h
        exact ed_var 3
      · subst h
        exact ed_ixT (ed_var 1) ed_int rfl
end
end K47
set_option Elab.async false
set_option linter.all false
set_option maxRecDepth 100000
set_option maxHeartbeats 2000000
namespace K47
open PySem PySem.Spec PyProof.Rows L2

/-! ### what the maps are, plainly -/
theorem ahead_some {row : List (Option Nat)} {c o : Nat} (h : aheadOf row c = some o) : row[o]? = some (some c) := by
  unfold aheadOf at h
  by_cases m : memA (some c) row = true
  · rw [if_pos m] at h
    have e := Option.some.inj h
    rw [← e]
    exact ixA_at (memA_iff.mp m)
  · rw [if_neg m] at h
    cases h
theorem ahead_none {row : List (Option Nat)} {c : Nat} (h : aheadOf row c = none) : some c ∉ row := by
  unfold aheadOf at h
  by_cases m : memA (some c) row = true
  · rw [if_pos m] at h
    cases h
  · exact fun z => m (memA_iff.mpr z)
theorem ahead_of {n : Nat} {row : List (Option Nat)} (r : RowOk n row) {c o : Nat} (h : row[o]? = some (some c)) : aheadOf row c = some o := by
  cases q : aheadOf row c with
  | none => exact absurd (List.mem_of_getElem? h) (ahead_none q)
  | some o' => rw [r.inj _ _ _ (ahead_some q) h]
theorem RowOk.at_ {n : Nat} {row : List (Option Nat)} (r : RowOk n row) {i c : Nat} (h : row.getD i none = some c) : row[i]? = some (some c) ∧ i < n := by
  rw [List.getD_eq_getElem?_getD] at h
  cases q : row[i]? with
  | none => rw [q] at h; cases h
  | some x =>
    rw [q] at h
    have e : x = some c := h
    subst e
    exact ⟨rfl, by rw [← r.len]; exact (List.getElem?_eq_some_iff.mp q).1⟩
theorem lt_of_at {n : Nat} {row : List (Option Nat)} (r : RowOk n row) {i : Nat} {x : Option Nat} (h : row[i]? = some x) : i < n := by rw [← r.len]; exact (List.getElem?_eq_some_iff.mp h).1
theorem TbOk.row {t : Tb} (ok : TbOk t) (u : Bool) : RowOk t.size (t.row u) := by cases u; exact ok.r; exact ok.u
section
variable {t : Tb} {l : Lab} {u : Bool}
theorem aheadE_0 (h : sideOf l u = 0) : aheadE t l u = ((wd u, l.1), (t.row u).getD l.1 none) := if_pos h
theorem aheadE_some (h : sideOf l u ≠ 0) {o : Nat} (q : aheadOf (t.row u) l.1 = some o) : aheadE t l u = ((wd u, o), some o) := by
  unfold aheadE
  rw [if_neg h, q]
theorem aheadE_none (h : sideOf l u ≠ 0) (q : aheadOf (t.row u) l.1 = none) : aheadE t l u = ((wd' u, l.1), none) := by
  unfold aheadE
  rw [if_neg h, q]
theorem edge_eq : edgeE t l u = (aheadE t l u).1 := by
  unfold edgeE sdAt
  by_cases h : sideOf l u = 0
  · rw [if_pos h, aheadE_0 h]
    cases u <;> rfl
  · rw [if_neg h]
    cases q : aheadOf (t.row u) l.1 with
    | none =>
      rw [aheadE_none h q]
      cases u with
      | true =>
        have q' : aheadOf t.ups l.1 = none := q
        show nameE t.rights t.ups .down l.1 = (.down, l.1)
        unfold nameE
        rw [q']
      | false =>
        have q' : aheadOf t.rights l.1 = none := q
        show nameE t.rights t.ups .left l.1 = (.left, l.1)
        unfold nameE
        rw [q']
    | some o =>
      rw [aheadE_some h q]
      cases u with
      | true =>
        have q' : aheadOf t.ups l.1 = some o := q
        show nameE t.rights t.ups .down l.1 = (.up, o)
        unfold nameE
        rw [q']
      | false =>
        have q' : aheadOf t.rights l.1 = some o := q
        show nameE t.rights t.ups .left l.1 = (.right, o)
        unfold nameE
        rw [q']
theorem join_wd {c : Nat} : joinE t (wd u, c) = (t.row u).getD c none := by cases u <;> rfl
theorem join_wd' {c : Nat} : joinE t (wd' u, c) = none := by cases u <;> rfl
theorem bey_eq (ok : TbOk t) : beyE t (aheadE t l u).1 (decide (sideOf l u = 0)) = (aheadE t l u).2 := by
  unfold beyE
  by_cases h : sideOf l u = 0
  · rw [aheadE_0 h, join_wd, decide_eq_true h]
    show (match (t.row u).getD l.1 none with | none => none | some o => some (if true = true then o else l.1)) = _
    cases (t.row u).getD l.1 none <;> rfl
  · rw [decide_eq_false h]
    cases q : aheadOf (t.row u) l.1 with
    | none =>
      rw [aheadE_none h q, join_wd']
    | some o =>
      rw [aheadE_some h q, join_wd]
      have z : (t.row u).getD o none = some l.1 := by
        rw [List.getD_eq_getElem?_getD, ahead_some q]
        rfl
      rw [z]
      rfl
theorem edge_lt (ok : TbOk t) (hc : l.1 < t.size) : (aheadE t l u).1.2 < t.size := by
  by_cases h : sideOf l u = 0
  · rw [aheadE_0 h]; exact hc
  · cases q : aheadOf (t.row u) l.1 with
    | none => rw [aheadE_none h q]; exact hc
    | some o => rw [aheadE_some h q]; exact lt_of_at (ok.row u) (ahead_some q)
theorem behind_lt (ok : TbOk t) {o : Nat} (h : (aheadE t l u).2 = some o) : o < t.size := by
  by_cases h0 : sideOf l u = 0
  · rw [aheadE_0 h0] at h
    obtain ⟨h1, _⟩ := (ok.row u).at_ h
    exact (ok.row u).lt o (List.mem_of_getElem? h1)
  · cases q : aheadOf (t.row u) l.1 with
    | none => rw [aheadE_none h0 q] at h; cases h
    | some o' =>
      rw [aheadE_some h0 q] at h
      cases h
      exact lt_of_at (ok.row u) (ahead_some q)
theorem perm_ok (ok : TbOk t) (e : Edg) : PermOk t.marks (permOf t e) := by
  unfold permOf lkA
  cases q : t.dials.find? (fun p => decide (p.1 = e)) with
  | none => exact ⟨List.length_range, List.nodup_range, fun i hi => List.mem_range.mp hi⟩
  | some d => exact ok.dp d (List.mem_of_find?_eq_some q)
theorem perm_get (ok : TbOk t) (e : Edg) {m : Nat} (h : m < t.marks) : (permOf t e)[m]? = some ((permOf t e).getD m 0) ∧ (permOf t e).getD m 0 < t.marks := by
  have p := perm_ok ok e
  have hl : m < (permOf t e).length := by rw [p.len]; exact h
  have z : (permOf t e)[m]? = some ((permOf t e).getD m 0) := by
    rw [List.getD_eq_getElem?_getD, List.getElem?_eq_getElem hl]
    rfl
  exact ⟨z, p.lt _ (List.mem_of_getElem? z)⟩
/-- a list of n different numbers below n has all of them -/
theorem full {n : Nat} {p : List Nat} (h : PermOk n p) {m : Nat} (hm : m < n) : m ∈ p := by
  rcases Classical.em (m ∈ p) with c | c
  · exact c
  · exfalso
    have z := nat_nodup_len (m :: p) (List.range n) (List.nodup_cons.mpr ⟨c, h.nd⟩) fun x hx => by
      rcases List.mem_cons.mp hx with e | hx
      · rw [e]; exact List.mem_range.mpr hm
      · exact List.mem_range.mpr (h.lt x hx)
    rw [List.length_cons, h.len, List.length_range] at z
    omega
theorem side_lt (hl : LabOk t l) : sideOf l u < 2 := by cases u; exact hl.x; exact hl.y
theorem side_flip : sideOf (flip l u) u = 1 - sideOf l u := by cases u <;> rfl
theorem flip_ok (hl : LabOk t l) : LabOk t (flip l u) := by
  have h1 := hl.x
  have h2 := hl.y
  cases u
  · exact ⟨hl.c, by show 1 - l.2.1 < 2; omega, hl.y, hl.m⟩
  · exact ⟨hl.c, hl.x, by show 1 - l.2.2.1 < 2; omega, hl.m⟩
theorem flip_1 : (flip l u).1 = l.1 := by cases u <;> rfl
theorem flip_m : (flip l u).2.2.2 = l.2.2.2 := by cases u <;> rfl
end
end K47
set_option Elab.async false
set_option linter.all false
set_option maxRecDepth 100000
set_option maxHeartbeats 2000000
namespace K47
open PySem PySem.Spec PyProof.Rows L2
theorem eL_get {c x y m : Nat} : eL (c, x, y, m) = .tuple [.int c, .int x, .int y, .int m] := rfl
theorem one_sub {y : Nat} (h : y < 2) : ((1 : Int) - (y : Int)) = ((1 - y : Nat) : Int) := by omega
section
variable {P : Program} {w : World} {K : PySem.W.Frag} {mg : Str → Option Value} {base : Heap}
def wGo (f : Tb → Lab → Bool → Lab) : Wp := fun rs Q => ∃ (t : Tb) (l : Lab) (u : Bool), rs = [.d (eT t), .d (eL l), .d (.bool u)] ∧ TbOk t ∧ LabOk t l ∧ Q (.d (eL (f t l u)))
theorem c_gone (G : G47 K mg) : Cl P w K mg base 4 "gone" (wGo go) := by
  refine cal_data (G.at 10 "gone" s_gone) sc_gone (fun _ _ _ _ _ _ us hl => match us, hl with | [_, _, _], _ => rfl) (fun rs Q h => ?_) (by decide) fun f cdv A outer s H E b rs Q as hr hw => ?_
  · obtain ⟨_, _, _, rfl, _⟩ := h; rfl
  · obtain ⟨t, ⟨c, x, y, m⟩, u, rfl, ok, hl, k⟩ := hw
    show SSX _ _ _ [_, _, _, _, _, _, _, _, _, _] _ _
    have hx : x < 2 := hl.x
    have hy : y < 2 := hl.y
    obtain ⟨p1, p2⟩ := perm_get ok (aheadE t (c, x, y, m) u).1 hl.m
    have hlt := edge_lt (u := u) ok hl.c
    refine ssx_cons (sx_asg (d := eL (c, x, y, m)) (ed_var 1) (gx_tup (gsx_cons (gx_name 3 (gsx_cons (gx_name 4 (gsx_cons (gx_name 5 (gsx_cons (gx_name 6 (gsx_nil ?_) sc_gone.nd)) sc_gone.nd)) sc_gone.nd)) sc_gone.nd))))
    refine ssx_cons (sx_setD 7 (d := eE (aheadE t (c, x, y, m) u).1) (ed_c (c_edge G) hr (by omega) (ad_cons (ed_var 0) (ad_cons (ed_var 1) (ad_cons (ed_var 2) ad_nil))) ⟨t, (c, x, y, m), u, rfl, hx, hy, by rw [edge_eq]⟩) ?_ sc_gone.nd)
    refine ssx_cons (sx_setD 8 (d := .int ((permOf t (aheadE t (c, x, y, m) u).1).getD m 0 : Nat)) (ed_ixT (ed_c (c_perm G) hr (by omega) (ad_cons (ed_var 0) (ad_cons (ed_var 7) ad_nil)) ⟨t, _, rfl, ok, rfl⟩) (ed_var 6) (atI_map p1)) ?_ sc_gone.nd)
    refine ssx_cons (sx_setD 9 (d := eO (aheadE t (c, x, y, m) u).2) (ed_c (c_beyond G) hr (by omega) (ad_cons (ed_var 0) (ad_cons (ed_var 7) (ad_cons (ed_eqI (i := (sideOf (c, x, y, m) u : Nat)) (j := 0) (ed_if (td_val (ed_var 2)) (fun h => by subst h; exact ed_var 5) fun h => by subst h; exact ed_var 4) ed_int) ad_nil))) ⟨t, _, decide (sideOf (c, x, y, m) u = 0), ?_, by rw [ok.r.len]; exact hlt, by rw [ok.u.len]; exact hlt, by rw [bey_eq ok]⟩) ?_ sc_gone.nd)
    · have e : decide (((sideOf (c, x, y, m) u : Nat) : Int) = 0) = decide (sideOf (c, x, y, m) u = 0) := by
        apply Bool.eq_iff_iff.mpr
        simp
      show [_, _, Rs.d (.bool (decide (((sideOf (c, x, y, m) u : Nat) : Int) = 0)))] = _
      rw [e]
      rfl
    have kg : ∀ r, r = go t (c, x, y, m) u → Q (.d (eL r)) := fun r e => by rw [e]; exact k
    unfold go at kg
    refine ssx_cons (sx_ifD (td_notO (ed_var 9)) (fun h => ?_) fun h => ssx_nil ?_)
    · cases q : (aheadE t (c, x, y, m) u).2 with
      | none => rw [q] at h; cases h
      | some o =>
        refine ssx_one (sx_retD (ed_tup (ad_cons (ed_var 9) (ad_cons (ed_var 4) (ad_cons (ed_var 5) (ad_cons (ed_var 8) ad_nil))))) (kg (setCM (c, x, y, m) o ((permOf t (aheadE t (c, x, y, m) u).1).getD m 0)) ?_))
        rw [q]
    · cases q : (aheadE t (c, x, y, m) u).2 with
      | some o => rw [q] at h; cases h
      | none =>
        refine ssx_one (sx_retD (x := eL (setM (flip (c, x, y, m) u) ((permOf t (aheadE t (c, x, y, m) u).1).getD m 0))) (ed_if (td_val (ed_var 2)) (fun h => ?_) fun h => ?_) (kg _ ?_))
        · subst h
          refine (ed_tup (ad_cons (ed_var 3) (ad_cons (ed_var 4) (ad_cons (ed_sub ed_int (ed_var 5)) (ad_cons (ed_var 8) ad_nil))))).cast ?_
          rw [one_sub hy]
          rfl
        · subst h
          refine (ed_tup (ad_cons (ed_var 3) (ad_cons (ed_sub ed_int (ed_var 4)) (ad_cons (ed_var 5) (ad_cons (ed_var 8) ad_nil))))).cast ?_
          rw [one_sub hx]
          rfl
        · rw [q]
theorem c_sideways (G : G47 K mg) : Cl P w K mg base 5 "sideways" (fun rs Q => ∃ t l, rs = [.d (eT t), .d (eL l)] ∧ TbOk t ∧ LabOk t l ∧ Q (.d (eL (go t l false)))) := by
  refine cal_data (G.at 11 "sideways" s_sideways) sc_sideways (fun _ _ _ _ _ _ us hl => match us, hl with | [_, _], _ => rfl) (fun rs Q h => ?_) (by decide) fun f cdv A outer s H E b rs Q as hr hw => ?_
  · obtain ⟨_, _, rfl, _⟩ := h; rfl
  · obtain ⟨t, l, rfl, ok, hl, k⟩ := hw
    show SSX _ _ _ [_, _] _ _
    exact ssx_one (sx_retD (ed_c (c_gone G) hr (by omega) (ad_cons (ed_var 0) (ad_cons (ed_var 1) (ad_cons ed_bl ad_nil))) ⟨t, l, false, rfl, ok, hl, rfl⟩) k)
theorem c_up (G : G47 K mg) : Cl P w K mg base 5 "up" (fun rs Q => ∃ t l, rs = [.d (eT t), .d (eL l)] ∧ TbOk t ∧ LabOk t l ∧ Q (.d (eL (go t l true)))) := by
  refine cal_data (G.at 12 "up" s_up) sc_up (fun _ _ _ _ _ _ us hl => match us, hl with | [_, _], _ => rfl) (fun rs Q h => ?_) (by decide) fun f cdv A outer s H E b rs Q as hr hw => ?_
  · obtain ⟨_, _, rfl, _⟩ := h; rfl
  · obtain ⟨t, l, rfl, ok, hl, k⟩ := hw
    show SSX _ _ _ [_, _] _ _
    exact ssx_one (sx_retD (ed_c (c_gone G) hr (by omega) (ad_cons (ed_var 0) (ad_cons (ed_var 1) (ad_cons ed_bl ad_nil))) ⟨t, l, true, rfl, ok, hl, rfl⟩) k)
theorem c_came (G : G47 K mg) : Cl P w K mg base 4 "came" (wGo come) := by
  refine cal_data (G.at 13 "came" s_came) sc_came (fun _ _ _ _ _ _ us hl => match us, hl with | [_, _, _], _ => rfl) (fun rs Q h => ?_) (by decide) fun f cdv A outer s H E b rs Q as hr hw => ?_
  · obtain ⟨_, _, _, rfl, _⟩ := h; rfl
  · obtain ⟨t, ⟨c, x, y, m⟩, u, rfl, ok, hl, k⟩ := hw
    show SSX _ _ _ [_, _, _, _, _, _, _, _, _, _, _] _ _
    have hu := room65 hr
    have hx : x < 2 := hl.x
    have hy : y < 2 := hl.y
    have hf := flip_ok (u := u) hl
    have hm : m ∈ permOf t (aheadE t (flip (c, x, y, m) u) u).1 := full (perm_ok ok _) hl.m
    have hlt := edge_lt (l := flip (c, x, y, m) u) (u := u) ok hf.c
    have nd := sc_came.nd
    refine ssx_cons (sx_asg (d := eL (c, x, y, m)) (ed_var 1) (gx_tup (gsx_cons (gx_name 3 (gsx_cons (gx_name 4 (gsx_cons (gx_name 5 (gsx_cons (gx_name 6 (gsx_nil ?_) nd)) nd)) nd)) nd))))
    refine ssx_cons (sx_setD 7 (d := eL (flip (c, x, y, m) u)) (ed_if (td_val (ed_var 2)) (fun h => ?_) fun h => ?_) ?_ nd)
    · subst h
      refine (ed_tup (ad_cons (ed_var 3) (ad_cons (ed_var 4) (ad_cons (ed_sub ed_int (ed_var 5)) (ad_cons (ed_var 6) ad_nil))))).cast ?_
      rw [one_sub hy]
      rfl
    · subst h
      refine (ed_tup (ad_cons (ed_var 3) (ad_cons (ed_sub ed_int (ed_var 4)) (ad_cons (ed_var 5) (ad_cons (ed_var 6) ad_nil))))).cast ?_
      rw [one_sub hx]
      rfl
    refine ssx_cons (sx_setD 8 (d := eE (aheadE t (flip (c, x, y, m) u) u).1) (ed_c (c_edge G) hr (by omega) (ad_cons (ed_var 0) (ad_cons (ed_var 7) (ad_cons (ed_var 2) ad_nil))) ⟨t, flip (c, x, y, m) u, u, rfl, hf.x, hf.y, by rw [edge_eq]⟩) ?_ nd)
    refine ssx_cons (sx_setD 9 (d := .int (ixA m (permOf t (aheadE t (flip (c, x, y, m) u) u).1) : Nat)) (ed_ixOfT hu enc_I (k := m) (ed_c (c_perm G) hr (by omega) (ad_cons (ed_var 0) (ad_cons (ed_var 8) ad_nil)) ⟨t, _, rfl, ok, rfl⟩) (ed_var 6) hm) ?_ nd)
    refine ssx_cons (sx_setD 10 (d := eO (aheadE t (flip (c, x, y, m) u) u).2) (ed_c (c_beyond G) hr (by omega) (ad_cons (ed_var 0) (ad_cons (ed_var 8) (ad_cons (ed_eqI (i := (sideOf (c, x, y, m) u : Nat)) (j := 1) (ed_if (td_val (ed_var 2)) (fun h => by subst h; exact ed_var 5) fun h => by subst h; exact ed_var 4) ed_int) ad_nil))) ⟨t, _, decide (sideOf (flip (c, x, y, m) u) u = 0), ?_, by rw [ok.r.len]; exact hlt, by rw [ok.u.len]; exact hlt, by rw [bey_eq ok]⟩) ?_ nd)
    · have e : decide (((sideOf (c, x, y, m) u : Nat) : Int) = 1) = decide (sideOf (flip (c, x, y, m) u) u = 0) := by
        have z := side_lt (u := u) hl
        rw [side_flip]
        apply Bool.eq_iff_iff.mpr
        simp only [decide_eq_true_eq]
        omega
      show [_, _, Rs.d (.bool (decide (((sideOf (c, x, y, m) u : Nat) : Int) = 1)))] = _
      rw [e]
      rfl
    have kg : ∀ r, r = come t (c, x, y, m) u → Q (.d (eL r)) := fun r e => by rw [e]; exact k
    unfold come at kg
    refine ssx_cons (sx_ifD (td_notO (ed_var 10)) (fun h => ?_) fun h => ssx_nil ?_)
    · cases q : (aheadE t (flip (c, x, y, m) u) u).2 with
      | none => rw [q] at h; cases h
      | some o =>
        refine ssx_one (sx_retD (ed_tup (ad_cons (ed_var 10) (ad_cons (ed_var 4) (ad_cons (ed_var 5) (ad_cons (ed_var 9) ad_nil))))) (kg (setCM (c, x, y, m) o (ixA m (permOf t (aheadE t (flip (c, x, y, m) u) u).1))) ?_))
        rw [q]
    · cases q : (aheadE t (flip (c, x, y, m) u) u).2 with
      | some o => rw [q] at h; cases h
      | none =>
        refine ssx_one (sx_retD (x := eL (setM (flip (c, x, y, m) u) (ixA m (permOf t (aheadE t (flip (c, x, y, m) u) u).1)))) (ed_tup (rs := [.d (.int (flip (c, x, y, m) u).1), .d (.int (flip (c, x, y, m) u).2.1), .d (.int (flip (c, x, y, m) u).2.2.1), .d (.int (ixA m (permOf t (aheadE t (flip (c, x, y, m) u) u).1) : Nat))]) (ad_star (ds := [.int (flip (c, x, y, m) u).1, .int (flip (c, x, y, m) u).2.1, .int (flip (c, x, y, m) u).2.2.1]) (ed_slT (ds := [.int (flip (c, x, y, m) u).1, .int (flip (c, x, y, m) u).2.1, .int (flip (c, x, y, m) u).2.2.1, .int (flip (c, x, y, m) u).2.2.2]) (l := none) (h := some 3) (ed_var 7) po_no (po_yes ed_int)) (ad_cons (ed_var 9) ad_nil))) (kg _ ?_))
        rw [q]
theorem c_fsideways (G : G47 K mg) : Cl P w K mg base 5 "from_sideways" (fun rs Q => ∃ t l, rs = [.d (eT t), .d (eL l)] ∧ TbOk t ∧ LabOk t l ∧ Q (.d (eL (come t l false)))) := by
  refine cal_data (G.at 14 "from_sideways" s_from_sideways) sc_from_sideways (fun _ _ _ _ _ _ us hl => match us, hl with | [_, _], _ => rfl) (fun rs Q h => ?_) (by decide) fun f cdv A outer s H E b rs Q as hr hw => ?_
  · obtain ⟨_, _, rfl, _⟩ := h; rfl
  · obtain ⟨t, l, rfl, ok, hl, k⟩ := hw
    show SSX _ _ _ [_, _] _ _
    exact ssx_one (sx_retD (ed_c (c_came G) hr (by omega) (ad_cons (ed_var 0) (ad_cons (ed_var 1) (ad_cons ed_bl ad_nil))) ⟨t, l, false, rfl, ok, hl, rfl⟩) k)
theorem c_fup (G : G47 K mg) : Cl P w K mg base 5 "from_up" (fun rs Q => ∃ t l, rs = [.d (eT t), .d (eL l)] ∧ TbOk t ∧ LabOk t l ∧ Q (.d (eL (come t l true)))) := by
  refine cal_data (G.at 15 "from_up" s_from_up) sc_from_up (fun _ _ _ _ _ _ us hl => match us, hl with | [_, _], _ => rfl) (fun rs Q h => ?_) (by decide) fun f cdv A outer s H E b rs Q as hr hw => ?_
  · obtain ⟨_, _, rfl, _⟩ := h; rfl
  · obtain ⟨t, l, rfl, ok, hl, k⟩ := hw
    show SSX _ _ _ [_, _] _ _
    exact ssx_one (sx_retD (ed_c (c_came G) hr (by omega) (ad_cons (ed_var 0) (ad_cons (ed_var 1) (ad_cons ed_bl ad_nil))) ⟨t, l, true, rfl, ok, hl, rfl⟩) k)
end
end K47
set_option Elab.async false
set_option linter.all false
set_option maxRecDepth 100000
set_option maxHeartbeats 2000000
namespace K47
open PySem PySem.Spec PyProof.Rows L2

/-! ### the maps go back -/
section
variable {t : Tb} {l : Lab} {u : Bool}
/-- where one comes out, the mark m -/
def outAt (l : Lab) (u : Bool) (o : Option Nat) (m : Nat) : Lab := match o with
  | some c => setCM l c m
  | none => setM (flip l u) m
theorem go_eq : go t l u = outAt l u (aheadE t l u).2 ((permOf t (aheadE t l u).1).getD l.2.2.2 0) := by
  unfold go outAt
  cases (aheadE t l u).2 <;> rfl
theorem come_eq : come t l u = outAt l u (aheadE t (flip l u) u).2 (ixA l.2.2.2 (permOf t (aheadE t (flip l u) u).1)) := by
  unfold come outAt
  cases (aheadE t (flip l u) u).2 <;> rfl
theorem flip_flip (hl : LabOk t l) : flip (flip l u) u = l := by
  obtain ⟨c, x, y, m⟩ := l
  have hx : x < 2 := hl.x
  have hy : y < 2 := hl.y
  cases u
  · show (c, 1 - (1 - x), y, m) = _
    rw [show 1 - (1 - x) = x by omega]
  · show (c, x, 1 - (1 - y), m) = _
    rw [show 1 - (1 - y) = y by omega]
theorem out_ok (ok : TbOk t) (hl : LabOk t l) {o : Option Nat} {m : Nat} (ho : ∀ c, o = some c → c < t.size) (hm : m < t.marks) : LabOk t (outAt l u o m) := by
  cases o with
  | some c => exact ⟨ho c rfl, hl.x, hl.y, hm⟩
  | none =>
    have f := flip_ok (u := u) hl
    exact ⟨f.c, f.x, f.y, hm⟩
theorem go_ok (ok : TbOk t) (hl : LabOk t l) : LabOk t (go t l u) := by
  rw [go_eq]
  exact out_ok ok hl (fun c e => behind_lt ok e) (perm_get ok _ hl.m).2
theorem ixA_perm (ok : TbOk t) (e : Edg) {m : Nat} (hm : m < t.marks) : ixA m (permOf t e) < t.marks := by
  have p := perm_ok ok e
  rw [← p.len]
  exact ixA_lt (full p hm)
theorem come_ok (ok : TbOk t) (hl : LabOk t l) : LabOk t (come t l u) := by
  rw [come_eq]
  exact out_ok ok hl (fun c e => behind_lt ok e) (ixA_perm ok _ hl.m)
/-- the edge just passed, seen from behind -/
theorem back (ok : TbOk t) (hl : LabOk t l) (m : Nat) : aheadE t (flip (outAt l u (aheadE t l u).2 m) u) u = ((aheadE t l u).1, (aheadE t l u).2.map fun _ => l.1) := by
  have hs := side_lt (u := u) hl
  by_cases h : sideOf l u = 0
  · rw [aheadE_0 h]
    cases q : (t.row u).getD l.1 none with
    | some o =>
      have h2 : sideOf (flip (setCM l o m) u) u ≠ 0 := by
        rw [side_flip, show sideOf (setCM l o m) u = sideOf l u by cases u <;> rfl, h]
        decide
      have h3 : aheadOf (t.row u) (flip (setCM l o m) u).1 = some l.1 := by
        rw [flip_1]
        exact ahead_of (ok.row u) ((ok.row u).at_ q).1
      exact aheadE_some h2 h3
    | none =>
      have e1 : sideOf (flip (setM (flip l u) m) u) u = 0 := by
        rw [side_flip, show sideOf (setM (flip l u) m) u = sideOf (flip l u) u by cases u <;> rfl, side_flip, h]
      have e2 : (flip (setM (flip l u) m) u).1 = l.1 := by cases u <;> rfl
      show aheadE t (flip (setM (flip l u) m) u) u = _
      rw [aheadE_0 e1, e2, q]
      rfl
  · have h1 : sideOf l u = 1 := by omega
    cases q : aheadOf (t.row u) l.1 with
    | some o =>
      rw [aheadE_some h q]
      have e1 : sideOf (flip (setCM l o m) u) u = 0 := by
        rw [side_flip, show sideOf (setCM l o m) u = sideOf l u by cases u <;> rfl, h1]
      have e2 : (flip (setCM l o m) u).1 = o := by cases u <;> rfl
      show aheadE t (flip (setCM l o m) u) u = _
      rw [aheadE_0 e1, e2]
      have z : (t.row u).getD o none = some l.1 := by
        rw [List.getD_eq_getElem?_getD, ahead_some q]
        rfl
      rw [z]
      rfl
    | none =>
      rw [aheadE_none h q]
      have h2 : sideOf (flip (setM (flip l u) m) u) u ≠ 0 := by
        rw [side_flip, show sideOf (setM (flip l u) m) u = sideOf (flip l u) u by cases u <;> rfl, side_flip, h1]
        decide
      have e2 : (flip (setM (flip l u) m) u).1 = l.1 := by cases u <;> rfl
      show aheadE t (flip (setM (flip l u) m) u) u = _
      rw [aheadE_none h2 (by rw [e2]; exact q), e2]
      rfl
theorem out_back (hl : LabOk t l) (o : Option Nat) (m : Nat) : outAt (outAt l u o m) u (o.map fun _ => l.1) l.2.2.2 = l := by
  obtain ⟨c, x, y, k⟩ := l
  cases o with
  | some d => rfl
  | none =>
    show setM (flip (setM (flip (c, x, y, k) u) m) u) k = _
    have hx : x < 2 := hl.x
    have hy : y < 2 := hl.y
    cases u
    · show (c, 1 - (1 - x), y, k) = _
      rw [show 1 - (1 - x) = x by omega]
    · show (c, x, 1 - (1 - y), k) = _
      rw [show 1 - (1 - y) = y by omega]
theorem out_m (o : Option Nat) (m : Nat) : (outAt l u o m).2.2.2 = m := by cases o <;> rfl
theorem perm_back (ok : TbOk t) (e : Edg) {m : Nat} (hm : m < t.marks) : ixA ((permOf t e).getD m 0) (permOf t e) = m := by
  have p := perm_ok ok e
  obtain ⟨h1, _⟩ := perm_get ok e hm
  have h2 := ixA_at (List.mem_of_getElem? h1)
  have l1 := (List.getElem?_eq_some_iff.mp h1).1
  have l2 := (List.getElem?_eq_some_iff.mp h2).1
  have e1 := (List.getElem?_eq_some_iff.mp h1).2
  have e2 := (List.getElem?_eq_some_iff.mp h2).2
  rcases Nat.lt_trichotomy (ixA ((permOf t e).getD m 0) (permOf t e)) m with c | c | c
  · exact absurd (e2.trans e1.symm) (List.pairwise_iff_getElem.mp p.nd _ _ l2 l1 c)
  · exact c
  · exact absurd (e1.trans e2.symm) (List.pairwise_iff_getElem.mp p.nd _ _ l1 l2 c)
theorem perm_forth (ok : TbOk t) (e : Edg) {m : Nat} (hm : m < t.marks) : (permOf t e).getD (ixA m (permOf t e)) 0 = m := by
  rw [List.getD_eq_getElem?_getD, ixA_at (full (perm_ok ok e) hm)]
  rfl
theorem come_go (ok : TbOk t) (hl : LabOk t l) : come t (go t l u) u = l := by
  rw [come_eq, go_eq, back ok hl, out_m]
  show outAt _ u ((aheadE t l u).2.map fun _ => l.1) (ixA ((permOf t (aheadE t l u).1).getD l.2.2.2 0) (permOf t (aheadE t l u).1)) = l
  rw [perm_back ok _ hl.m]
  exact out_back hl _ _
theorem flip_out (o : Option Nat) (m : Nat) : flip (outAt l u o m) u = outAt (flip l u) u o m := by cases o <;> cases u <;> rfl
theorem go_come (ok : TbOk t) (hl : LabOk t l) : go t (come t l u) u = l := by
  have hf := flip_ok (u := u) hl
  have key : aheadE t (come t l u) u = ((aheadE t (flip l u) u).1, (aheadE t (flip l u) u).2.map fun _ => l.1) := by
    have z := back (l := flip l u) (u := u) ok hf (ixA l.2.2.2 (permOf t (aheadE t (flip l u) u).1))
    rw [flip_out, flip_flip hl, ← come_eq, flip_1] at z
    exact z
  rw [go_eq, key]
  have e1 : (come t l u).2.2.2 = ixA l.2.2.2 (permOf t (aheadE t (flip l u) u).1) := by rw [come_eq, out_m]
  rw [e1]
  show outAt _ u ((aheadE t (flip l u) u).2.map fun _ => l.1) ((permOf t (aheadE t (flip l u) u).1).getD (ixA l.2.2.2 (permOf t (aheadE t (flip l u) u).1)) 0) = l
  rw [perm_forth ok _ hl.m, come_eq]
  exact out_back hl _ _
/-! a path of letters -/
def along (t : Tb) (l : Lab) (ls : List Bool) : Lab := ls.foldl (go t) l
theorem along_ok (ok : TbOk t) : ∀ {ls : List Bool} {l : Lab}, LabOk t l → LabOk t (along t l ls)
  | [], _, h => h
  | u :: ls, l, h => along_ok (ls := ls) ok (go_ok (u := u) ok h)
theorem along_app (ls ms : List Bool) : along t l (ls ++ ms) = along t (along t l ls) ms := List.foldl_append ..
theorem go_inj (ok : TbOk t) {l l' : Lab} (h : LabOk t l) (h' : LabOk t l') (e : go t l u = go t l' u) : l = l' := by
  rw [← come_go (u := u) ok h, e, come_go ok h']
theorem along_inj (ok : TbOk t) : ∀ {ls : List Bool} {l l' : Lab}, LabOk t l → LabOk t l' → along t l ls = along t l' ls → l = l'
  | [], _, _, _, _, e => e
  | u :: ls, l, l', h, h', e => go_inj (u := u) ok h h' (along_inj (ls := ls) ok (go_ok ok h) (go_ok ok h') e)
/-- the two ways about a corner end in one label -/
def kept (t : Tb) (l : Lab) : Bool := decide (go t (go t (come t (come t l true) false) true) false = l)
end
end K47
set_option Elab.async false
set_option linter.all false
set_option maxRecDepth 100000
set_option maxHeartbeats 2000000
namespace K47
open PySem PySem.Spec PyProof.Rows L2
/-! ### corners and points -/
def nbA (row : List (Option Nat)) (c s : Nat) (mk : Nat → Cor) : List Cor := if s = 1 then (row.getD c none).toList.map mk else []
def nbB (row : List (Option Nat)) (c s : Nat) (mk : Nat → Cor) : List Cor := if s = 0 then (aheadOf row c).toList.map mk else []
def nb (rights ups : List (Option Nat)) (c : Cor) : List Cor :=
  ((nbA rights c.1 c.2.1 (fun r => (r, 0, c.2.2)) ++ nbB rights c.1 c.2.1 (fun r => (r, 1, c.2.2))) ++ nbA ups c.1 c.2.2 (fun r => (r, c.2.1, 0))) ++ nbB ups c.1 c.2.2 (fun r => (r, c.2.1, 1))
section
variable {row : List (Option Nat)} {c s : Nat} {mk : Nat → Cor}
theorem nbA_yes {r : Nat} (h : s = 1) (e : row.getD c none = some r) : nbA row c s mk = [mk r] := by
  unfold nbA
  rw [if_pos h, e]
  rfl
theorem nbA_no (h : (decide ((s : Int) = 1) && (row.getD c none).isSome) = false) : nbA row c s mk = [] := by
  unfold nbA
  by_cases h1 : s = 1
  · rw [if_pos h1]
    subst h1
    cases q : row.getD c none with
    | none => rfl
    | some r => rw [q] at h; simp at h
  · rw [if_neg h1]
theorem nbB_yes (h : s = 0) (e : memA (some c) row = true) : nbB row c s mk = [mk (ixA (some c) row)] := by
  unfold nbB
  rw [if_pos h]
  unfold aheadOf
  rw [if_pos e]
  rfl
theorem nbB_no (h : (decide ((s : Int) = 0) && memA (some c) row) = false) : nbB row c s mk = [] := by
  unfold nbB
  by_cases h1 : s = 0
  · rw [if_pos h1]
    subst h1
    have h2 : memA (some c) row = false := by simpa using h
    unfold aheadOf
    rw [if_neg (by rw [h2]; exact Bool.false_ne_true)]
    rfl
  · rw [if_neg h1]
theorem nbA_len : (nbA row c s mk).length ≤ 1 := by
  unfold nbA
  split
  · cases row.getD c none <;> simp
  · simp
theorem nbB_len : (nbB row c s mk).length ≤ 1 := by
  unfold nbB
  split
  · cases aheadOf row c <;> simp
  · simp
end
theorem nb_len (rights ups : List (Option Nat)) (c : Cor) : (nb rights ups c).length ≤ 4 := by
  unfold nb
  rw [List.length_append, List.length_append, List.length_append]
  have h1 := nbA_len (row := rights) (c := c.1) (s := c.2.1) (mk := fun r => (r, 0, c.2.2))
  have h2 := nbB_len (row := rights) (c := c.1) (s := c.2.1) (mk := fun r => (r, 1, c.2.2))
  have h3 := nbA_len (row := ups) (c := c.1) (s := c.2.2) (mk := fun r => (r, c.2.1, 0))
  have h4 := nbB_len (row := ups) (c := c.1) (s := c.2.2) (mk := fun r => (r, c.2.1, 1))
  omega
theorem and_t {a b : Bool} (h : (a && b) = true) : a = true ∧ b = true := Bool.and_eq_true_iff.mp h
theorem dec1 {s n : Nat} (h : decide ((s : Int) = (n : Nat)) = true) : s = n := by
  have z := of_decide_eq_true h
  omega
section
variable {P : Program} {w : World} {K : PySem.W.Frag} {mg : Str → Option Value} {base : Heap}
theorem c_kept (G : G47 K mg) : Cl P w K mg base 6 "is_kept" (fun rs Q => ∃ t l, rs = [.d (eT t), .d (eL l)] ∧ TbOk t ∧ LabOk t l ∧ Q (.d (.bool (kept t l)))) := by
  refine cal_data (G.at 16 "is_kept" s_is_kept) sc_is_kept (fun _ _ _ _ _ _ us hl => match us, hl with | [_, _], _ => rfl) (fun rs Q h => ?_) (by decide) fun f cdv A outer s H E b rs Q as hr hw => ?_
  · obtain ⟨_, _, rfl, _⟩ := h; rfl
  · obtain ⟨t, l, rfl, ok, hl, k⟩ := hw
    show SSX _ _ _ [_, _, _] _ _
    have hu := room65 hr
    have l1 := come_ok (u := true) ok hl
    have l2 := come_ok (u := false) ok l1
    have l3 := go_ok (u := true) ok l2
    refine ssx_cons (sx_setD 2 (ed_c (c_fsideways G) hr (by omega) (ad_cons (ed_var 0) (ad_cons (ed_c (c_fup G) hr (by omega) (ad_cons (ed_var 0) (ad_cons (ed_var 1) ad_nil)) ⟨t, l, rfl, ok, hl, rfl⟩) ad_nil)) ⟨t, _, rfl, ok, l1, rfl⟩) ?_ sc_is_kept.nd)
    exact ssx_one (sx_retD (ed_eqA hu enc_L (ed_c (c_sideways G) hr (by omega) (ad_cons (ed_var 0) (ad_cons (ed_c (c_up G) hr (by omega) (ad_cons (ed_var 0) (ad_cons (ed_var 2) ad_nil)) ⟨t, _, rfl, ok, l2, rfl⟩) ad_nil)) ⟨t, _, rfl, ok, l3, rfl⟩) (ed_var 1)) k)
def wBeside : Wp := fun rs Q => ∃ (rights ups : List (Option Nat)) (c : Cor), rs = [.d (eRw rights), .d (eRw ups), .d (eC c)] ∧ c.1 < rights.length ∧ c.1 < ups.length ∧ c.2.1 < 2 ∧ c.2.2 < 2 ∧ Q (.fr ((nb rights ups c).map eC))
theorem c_beside (G : G47 K mg) : Cl P w K mg base 1 "beside" wBeside := by
  refine cal_data (G.at 2 "beside" s_beside) sc_beside (fun _ _ _ _ _ _ us hl => match us, hl with | [_, _, _], _ => rfl) (fun rs Q h => ?_) (by decide) fun f cdv A outer s H E b rs Q as hr hw => ?_
  · obtain ⟨_, _, _, rfl, _⟩ := h; rfl
  · obtain ⟨rights, ups, ⟨c, x, y⟩, rfl, hc1, hc2, hx, hy, k⟩ := hw
    show SSX _ _ _ [_, _, _, _, _, _, _] _ _
    have hu := room65 hr
    have nd := sc_beside.nd
    refine ssx_cons (sx_asg (d := eC (c, x, y)) (ed_var 2) (gx_tup (gsx_cons (gx_name 3 (gsx_cons (gx_name 4 (gsx_cons (gx_name 5 (gsx_nil ?_) nd)) nd)) nd))))
    refine ssx_cons (sx_setF 6 (xs := ([] : List Cor).map eC) (ed_lst ad_nil) ?_ nd)
    refine ssx_cut (fun Δ' => Δ' = [.d (eRw rights), .d (eRw ups), .d (eC (c, x, y)), .d (.int c), .d (.int x), .d (.int y), .ow ((nbA rights c x (fun r => (r, 0, y))).map eC)]) (sx_ifD (td_and (td_eqI (ed_var 4) ed_int) fun _ => td_notO (ed_ixT (ed_var 0) (ed_var 3) (atI_get (f := eO) (d := none) hc1))) (fun h => ?_) fun h => ?_) fun Δ' e => ?_
    · obtain ⟨h1, h2⟩ := and_t h
      obtain ⟨r, q⟩ := Option.isSome_iff_exists.mp h2
      rw [nbA_yes (dec1 (n := 1) h1) q]
      refine ssx_one (sx_append 6 (ed_tup (ad_cons (ed_ixT (d := .int (r : Nat)) (ed_var 0) (ed_var 3) (by rw [atI_get (f := eO) (d := none) hc1, q]; rfl)) (ad_cons ed_int (ad_cons (ed_var 5) ad_nil)))) fun z e => ⟨_, e, ?_, rfl⟩)
      rw [sizeLine_eq]
      exact Nat.zero_lt_succ _
    · rw [nbA_no h]
      exact ssx_nil rfl
    subst e
    refine ssx_cut (fun Δ' => Δ' = [.d (eRw rights), .d (eRw ups), .d (eC (c, x, y)), .d (.int c), .d (.int x), .d (.int y), .ow ((nbA rights c x (fun r => (r, 0, y)) ++ nbB rights c x (fun r => (r, 1, y))).map eC)]) (sx_ifD (td_and (td_eqI (ed_var 4) ed_int) fun _ => td_inT hu enc_O (x := some c) (ys := rights) (ed_var 3) (ed_var 0)) (fun h => ?_) fun h => ?_) fun Δ' e => ?_
    · obtain ⟨h1, h2⟩ := and_t h
      rw [nbB_yes (dec1 (n := 0) h1) h2]
      refine ssx_one (sx_append 6 (ed_tup (ad_cons (ed_ixOfT hu enc_O (k := some c) (ks := rights) (ed_var 0) (ed_var 3) (memA_iff.mp h2)) (ad_cons ed_int (ad_cons (ed_var 5) ad_nil)))) fun z e => ⟨_, e, ?_, ?_⟩)
      · rw [List.length_map]
        exact Nat.lt_of_le_of_lt nbA_len (by rw [sizeLine_eq]; omega)
      · rw [List.map_append]
        rfl
    · rw [nbB_no h, List.append_nil]
      exact ssx_nil rfl
    subst e
    refine ssx_cut (fun Δ' => Δ' = [.d (eRw rights), .d (eRw ups), .d (eC (c, x, y)), .d (.int c), .d (.int x), .d (.int y), .ow (((nbA rights c x (fun r => (r, 0, y)) ++ nbB rights c x (fun r => (r, 1, y))) ++ nbA ups c y (fun r => (r, x, 0))).map eC)]) (sx_ifD (td_and (td_eqI (ed_var 5) ed_int) fun _ => td_notO (ed_ixT (ed_var 1) (ed_var 3) (atI_get (f := eO) (d := none) hc2))) (fun h => ?_) fun h => ?_) fun Δ' e => ?_
    · obtain ⟨h1, h2⟩ := and_t h
      obtain ⟨r, q⟩ := Option.isSome_iff_exists.mp h2
      rw [nbA_yes (dec1 (n := 1) h1) q]
      refine ssx_one (sx_append 6 (ed_tup (ad_cons (ed_ixT (d := .int (r : Nat)) (ed_var 1) (ed_var 3) (by rw [atI_get (f := eO) (d := none) hc2, q]; rfl)) (ad_cons (ed_var 4) (ad_cons ed_int ad_nil)))) fun z e => ⟨_, e, ?_, ?_⟩)
      · have h3 := nbA_len (row := rights) (c := c) (s := x) (mk := fun r => (r, 0, y))
        have h4 := nbB_len (row := rights) (c := c) (s := x) (mk := fun r => (r, 1, y))
        rw [List.length_map, List.length_append, sizeLine_eq]
        omega
      · show _ = _
        rw [List.map_append (l₂ := [_])]
        rfl
    · rw [nbA_no h, List.append_nil]
      exact ssx_nil rfl
    subst e
    refine ssx_cut (fun Δ' => Δ' = [.d (eRw rights), .d (eRw ups), .d (eC (c, x, y)), .d (.int c), .d (.int x), .d (.int y), .ow ((nb rights ups (c, x, y)).map eC)]) (sx_ifD (td_and (td_eqI (ed_var 5) ed_int) fun _ => td_inT hu enc_O (x := some c) (ys := ups) (ed_var 3) (ed_var 1)) (fun h => ?_) fun h => ?_) fun Δ' e => ?_
    · obtain ⟨h1, h2⟩ := and_t h
      have e2 : nb rights ups (c, x, y) = ((nbA rights c x (fun r => (r, 0, y)) ++ nbB rights c x (fun r => (r, 1, y))) ++ nbA ups c y (fun r => (r, x, 0))) ++ [(ixA (some c) ups, x, 1)] := by
        show _ ++ nbB ups c y (fun r => (r, x, 1)) = _
        rw [nbB_yes (dec1 (n := 0) h1) h2]
      refine ssx_one (sx_append 6 (ed_tup (ad_cons (ed_ixOfT hu enc_O (k := some c) (ks := ups) (ed_var 1) (ed_var 3) (memA_iff.mp h2)) (ad_cons (ed_var 4) (ad_cons ed_int ad_nil)))) fun z e => ⟨_, e, ?_, ?_⟩)
      · have h3 := nbA_len (row := rights) (c := c) (s := x) (mk := fun r => (r, 0, y))
        have h4 := nbB_len (row := rights) (c := c) (s := x) (mk := fun r => (r, 1, y))
        have h5 := nbA_len (row := ups) (c := c) (s := y) (mk := fun r => (r, x, 0))
        rw [List.length_map, List.length_append, List.length_append, sizeLine_eq]
        omega
      · rw [e2, List.map_append (l₂ := [_])]
        rfl
    · have e2 : nb rights ups (c, x, y) = (nbA rights c x (fun r => (r, 0, y)) ++ nbB rights c x (fun r => (r, 1, y))) ++ nbA ups c y (fun r => (r, x, 0)) := by
        show _ ++ nbB ups c y (fun r => (r, x, 1)) = _
        rw [nbB_no h, List.append_nil]
      rw [e2]
      exact ssx_nil rfl
    subst e
    exact ssx_one (sx_retO (ed_var 6) k)
end
end K47
set_option Elab.async false
set_option linter.all false
set_option maxRecDepth 100000
set_option maxHeartbeats 2000000
namespace K47
open PySem PySem.Spec PyProof.Rows L2
/-! ### points: what a corner reaches -/
abbrev nbT (t : Tb) (c : Cor) : List Cor := nb t.rights t.ups c
inductive Reach (t : Tb) (c : Cor) : Cor → Prop
  | refl : Reach t c c
  | step {d e : Cor} : Reach t c d → e ∈ nbT t d → Reach t c e
structure CorOk (t : Tb) (d : Cor) : Prop where
  c : d.1 < t.size
  x : d.2.1 < 2
  y : d.2.2 < 2
theorem mem_nbA {row : List (Option Nat)} {c s : Nat} {mk : Nat → Cor} {d : Cor} : d ∈ nbA row c s mk ↔ s = 1 ∧ ∃ r, row.getD c none = some r ∧ d = mk r := by
  unfold nbA
  by_cases h : s = 1
  · rw [if_pos h]
    cases q : row.getD c none with
    | none => simp
    | some r => simp [h]
  · rw [if_neg h]
    simp [h]
theorem mem_nbB {row : List (Option Nat)} {c s : Nat} {mk : Nat → Cor} {d : Cor} : d ∈ nbB row c s mk ↔ s = 0 ∧ ∃ r, aheadOf row c = some r ∧ d = mk r := by
  unfold nbB
  by_cases h : s = 0
  · rw [if_pos h]
    cases q : aheadOf row c with
    | none => simp
    | some r => simp [h]
  · rw [if_neg h]
    simp [h]
theorem mem_nb {t : Tb} {c d : Cor} : d ∈ nbT t c ↔ (c.2.1 = 1 ∧ ∃ r, t.rights.getD c.1 none = some r ∧ d = (r, 0, c.2.2)) ∨ (c.2.1 = 0 ∧ ∃ r, aheadOf t.rights c.1 = some r ∧ d = (r, 1, c.2.2)) ∨
    (c.2.2 = 1 ∧ ∃ r, t.ups.getD c.1 none = some r ∧ d = (r, c.2.1, 0)) ∨ (c.2.2 = 0 ∧ ∃ r, aheadOf t.ups c.1 = some r ∧ d = (r, c.2.1, 1)) := by
  unfold nbT nb
  rw [List.mem_append, List.mem_append, List.mem_append, mem_nbA, mem_nbB, mem_nbA, mem_nbB, or_assoc, or_assoc]
theorem nb_ok {t : Tb} (ok : TbOk t) {c d : Cor} (hc : CorOk t c) (h : d ∈ nbT t c) : CorOk t d := by
  rcases mem_nb.mp h with ⟨_, r, e, rfl⟩ | ⟨_, r, e, rfl⟩ | ⟨_, r, e, rfl⟩ | ⟨_, r, e, rfl⟩
  · exact ⟨ok.r.lt r (List.mem_of_getElem? (ok.r.at_ e).1), (by show 0 < 2; decide), hc.y⟩
  · exact ⟨lt_of_at ok.r (ahead_some e), (by show 1 < 2; decide), hc.y⟩
  · exact ⟨ok.u.lt r (List.mem_of_getElem? (ok.u.at_ e).1), hc.x, (by show 0 < 2; decide)⟩
  · exact ⟨lt_of_at ok.u (ahead_some e), hc.x, (by show 1 < 2; decide)⟩
/-- neighbours are so both ways -/
theorem nb_sym {t : Tb} (ok : TbOk t) {c d : Cor} (h : d ∈ nbT t c) : c ∈ nbT t d := by
  obtain ⟨c1, x, y⟩ := c
  have gd : ∀ {row : List (Option Nat)} {o : Nat}, aheadOf row c1 = some o → row.getD o none = some c1 := fun {row o} q => by
    rw [List.getD_eq_getElem?_getD, ahead_some q]
    rfl
  rcases mem_nb.mp h with ⟨hx, r, e, rfl⟩ | ⟨hx, r, e, rfl⟩ | ⟨hx, r, e, rfl⟩ | ⟨hx, r, e, rfl⟩
  · have hx' : x = 1 := hx
    subst hx'
    exact mem_nb.mpr (.inr (.inl ⟨rfl, c1, ahead_of ok.r (ok.r.at_ e).1, rfl⟩))
  · have hx' : x = 0 := hx
    subst hx'
    exact mem_nb.mpr (.inl ⟨rfl, c1, gd e, rfl⟩)
  · have hx' : y = 1 := hx
    subst hx'
    exact mem_nb.mpr (.inr (.inr (.inr ⟨rfl, c1, ahead_of ok.u (ok.u.at_ e).1, rfl⟩)))
  · have hx' : y = 0 := hx
    subst hx'
    exact mem_nb.mpr (.inr (.inr (.inl ⟨rfl, c1, gd e, rfl⟩)))
theorem Reach.trans {t : Tb} {c d e : Cor} (h : Reach t c d) (k : Reach t d e) : Reach t c e := by
  induction k with
  | refl => exact h
  | step _ m ih => exact .step ih m
theorem Reach.symm {t : Tb} (ok : TbOk t) {c d : Cor} (h : Reach t c d) : Reach t d c := by
  induction h with
  | refl => exact .refl
  | step _ m ih => exact Reach.trans (.step .refl (nb_sym ok m)) ih
theorem Reach.ok {t : Tb} (ok : TbOk t) {c d : Cor} (hc : CorOk t c) (h : Reach t c d) : CorOk t d := by
  induction h with
  | refl => exact hc
  | step _ m ih => exact nb_ok ok ih m
def codeC (c : Cor) : Nat := c.1 * 4 + c.2.1 * 2 + c.2.2
theorem codeC_inj {c d : Cor} (h1 : c.2.1 < 2) (h2 : c.2.2 < 2) (h3 : d.2.1 < 2) (h4 : d.2.2 < 2) (e : codeC c = codeC d) : c = d := by
  obtain ⟨a, b, c⟩ := c
  obtain ⟨a', b', c'⟩ := d
  unfold codeC at e
  simp only at h1 h2 h3 h4 e
  have e1 : a = a' := by omega
  have e2 : b = b' := by omega
  have e3 : c = c' := by omega
  rw [e1, e2, e3]
theorem nodup_on {α β : Type} {f : α → β} : ∀ {l : List α}, (∀ a ∈ l, ∀ b ∈ l, f a = f b → a = b) → l.Nodup → (l.map f).Nodup
  | [], _, _ => List.nodup_nil
  | a :: l, h, n => by
    have n2 := List.nodup_cons.mp n
    rw [List.map_cons]
    refine List.nodup_cons.mpr ⟨fun m => ?_, nodup_on (fun x hx y hy => h x (List.mem_cons_of_mem _ hx) y (List.mem_cons_of_mem _ hy)) n2.2⟩
    obtain ⟨b, hb, e⟩ := List.mem_map.mp m
    have z := h b (List.mem_cons_of_mem _ hb) a List.mem_cons_self e
    rw [z] at hb
    exact n2.1 hb
theorem corners_few {t : Tb} (ok : TbOk t) {l : List Cor} (n : l.Nodup) (h : ∀ c ∈ l, CorOk t c) : l.length ≤ 16 := by
  have z := nat_nodup_len (l.map codeC) (List.range 16) (nodup_on (fun a ha b hb e => codeC_inj (h a ha).x (h a ha).y (h b hb).x (h b hb).y e) n) fun x hx => by
    obtain ⟨c, hc, rfl⟩ := List.mem_map.mp hx
    have k := h c hc
    have h1 := k.c
    have h2 := k.x
    have h3 := k.y
    have h4 := ok.s4
    rw [List.mem_range]
    unfold codeC
    omega
  rw [List.length_map, List.length_range] at z
  exact z
/-- the search's state -/
structure Bfs (t : Tb) (c : Cor) (found : List Cor) (at_ : Nat) : Prop where
  nd : found.Nodup
  le : at_ ≤ found.length
  has : c ∈ found
  re : ∀ d ∈ found, Reach t c d
  cl : ∀ (i : Nat) d, i < at_ → found[i]? = some d → ∀ e ∈ nbT t d, e ∈ found
theorem Bfs.first (t : Tb) (c : Cor) : Bfs t c [c] 0 := ⟨by simp, Nat.zero_le _, List.mem_cons_self, fun d h => by rw [List.mem_singleton.mp h]; exact .refl, fun i d h => absurd h (Nat.not_lt_zero _)⟩
theorem Bfs.few {t : Tb} {c : Cor} {found : List Cor} {n : Nat} (ok : TbOk t) (hc : CorOk t c) (B : Bfs t c found n) : found.length ≤ 16 := corners_few ok B.nd fun d h => (B.re d h).ok ok hc
/-- a turn: new is nb of the at_-th without what is there, once each -/
theorem Bfs.turn {t : Tb} {c : Cor} {found : List Cor} {n : Nat} {d : Cor} (B : Bfs t c found n) (hd : found[n]? = some d) {new : List Cor} (nd : new.Nodup) (hm : ∀ e, e ∈ new ↔ e ∈ nbT t d ∧ e ∉ found) : Bfs t c (found ++ new) (n + 1) := by
  have hl := (List.getElem?_eq_some_iff.mp hd).1
  refine ⟨?_, by rw [List.length_append]; omega, List.mem_append_left _ B.has, fun e he => ?_, fun i e hi he f hf => ?_⟩
  · exact List.nodup_append.mpr ⟨B.nd, nd, fun a ha b hb e => (hm b).mp hb |>.2 (by rw [← e]; exact ha)⟩
  · rcases List.mem_append.mp he with h | h
    · exact B.re e h
    · exact .step (B.re d (List.mem_of_getElem? hd)) ((hm e).mp h).1
  · by_cases hi2 : i < n
    · rw [List.getElem?_append_left (by omega)] at he
      exact List.mem_append_left _ (B.cl i e hi2 he f hf)
    · have ei : i = n := by omega
      subst ei
      rw [List.getElem?_append_left hl, hd] at he
      have ed := Option.some.inj he
      subst ed
      by_cases m : f ∈ found
      · exact List.mem_append_left _ m
      · exact List.mem_append_right _ ((hm f).mpr ⟨hf, m⟩)
theorem Bfs.all {t : Tb} {c : Cor} {found : List Cor} (B : Bfs t c found found.length) (d : Cor) : d ∈ found ↔ Reach t c d := by
  refine ⟨B.re d, fun h => ?_⟩
  induction h with
  | refl => exact B.has
  | @step a e _ m ih =>
    obtain ⟨i, hi, e1⟩ := List.getElem_of_mem ih
    exact B.cl i a hi (by rw [List.getElem?_eq_getElem hi, e1]) e m
theorem nb_nodup (t : Tb) (c : Cor) : (nbT t c).Nodup := by
  have two : ∀ {α : Type} {l m : List α}, l.length ≤ 1 → m.length ≤ 1 → (∀ a ∈ l, ∀ b ∈ m, a ≠ b) → (l ++ m).Nodup := fun {α l m} h1 h2 h => by
    have o : ∀ {l : List α}, l.length ≤ 1 → l.Nodup := fun {l} h => by
      match l, h with
      | [], _ => exact List.nodup_nil
      | [a], _ => simp
    exact List.nodup_append.mpr ⟨o h1, o h2, h⟩
  unfold nbT nb
  rw [List.append_assoc]
  refine List.nodup_append.mpr ⟨two nbA_len nbB_len fun a ha b hb e => ?_, two nbA_len nbB_len fun a ha b hb e => ?_, fun a ha b hb e => ?_⟩
  · obtain ⟨h1, _⟩ := mem_nbA.mp ha
    obtain ⟨h2, _⟩ := mem_nbB.mp hb
    omega
  · obtain ⟨h1, _⟩ := mem_nbA.mp ha
    obtain ⟨h2, _⟩ := mem_nbB.mp hb
    omega
  · subst e
    have hx : a.2.1 ≠ c.2.1 := by
      rcases List.mem_append.mp ha with h | h
      · obtain ⟨h1, r, _, e⟩ := mem_nbA.mp h
        rw [e, h1]; exact Nat.zero_ne_one
      · obtain ⟨h1, r, _, e⟩ := mem_nbB.mp h
        rw [e, h1]; exact Nat.one_ne_zero
    rcases List.mem_append.mp hb with h | h
    · obtain ⟨_, r, _, e⟩ := mem_nbA.mp h
      exact hx (by rw [e])
    · obtain ⟨_, r, _, e⟩ := mem_nbB.mp h
      exact hx (by rw [e])
section
variable {P : Program} {w : World} {K : PySem.W.Frag} {mg : Str → Option Value} {base : Heap}
/-- a point: the corners that one reaches, once each -/
structure PtOf (t : Tb) (c : Cor) (pts : List Cor) : Prop where
  nd : pts.Nodup
  re : ∀ d, d ∈ pts ↔ Reach t c d
def wCornersAt : Wp := fun rs Q => ∃ (t : Tb) (c : Cor), rs = [.d (eRw t.rights), .d (eRw t.ups), .d (eC c)] ∧ TbOk t ∧ CorOk t c ∧ ∀ pts, PtOf t c pts → Q (.d (ePt pts))
theorem c_cornersAt (G : G47 K mg) : Cl P w K mg base 2 "corners_at" wCornersAt := by
  refine cal_data (G.at 3 "corners_at" s_corners_at) sc_corners_at (fun _ _ _ _ _ _ us hl => match us, hl with | [_, _, _], _ => rfl) (fun rs Q h => ?_) (by decide) fun f cdv A outer s H E b rs Q as hr hw => ?_
  · obtain ⟨_, _, rfl, _⟩ := h; rfl
  · obtain ⟨t, c, rfl, ok, hc, k⟩ := hw
    show SSX _ _ _ [_, _, _, _, _, _] _ _
    have hu := room65 hr
    have nd := sc_corners_at.nd
    refine ssx_cons (sx_parC 3 4 (ad_cons (ed_lst (ad_cons (ed_var 2) ad_nil)) (ad_cons ed_int ad_nil)) (fun rs e => ⟨_, _, _, _, e, rfl, rfl, ?_⟩) nd)
    refine ssx_cut (fun Δ' => ∃ s4 s5, Δ' = [.d (eRw t.rights), .d (eRw t.ups), .d (eC c), .ow (s4.map eC), s5, .un] ∧ PtOf t c s4)
      (sx_whileA (fun p : List Cor × Nat => [.d (eRw t.rights), .d (eRw t.ups), .d (eC c), .ow (p.1.map eC), .d (.int p.2), .un]) (fun p => Bfs t c p.1 p.2) (fun p => 16 - p.2) ([c], 0) (Bfs.first t c) (lo_same (lo_same (lo_same (lo_same (lo_same (lo_same lo_nil)))))) fun p B => ⟨decide (p.2 < p.1.length), ?_, fun hc2 => ?_, fun hc2 => ?_⟩) fun Δ' ⟨s4, s5, e, pt⟩ => ?_
    · refine (td_lt (ed_var 4) (ed_lenL G.len (ed_var 3))).cast ?_
      rw [List.length_map]
      apply Bool.eq_iff_iff.mpr
      simp
    · obtain ⟨found, n⟩ := p
      have hl : n < found.length := of_decide_eq_true hc2
      have few : found.length ≤ 16 := B.few ok hc
      have hd : found[n]? = some found[n] := List.getElem?_eq_getElem hl
      generalize found[n] = d at hd
      have dok := (B.re d (List.mem_of_getElem? hd)).ok ok hc
      refine ssx_cons (sx_extend 3 (P := fun z => z = .fr (((nbT t d).filter fun o => !memA o found).map eC)) (ed_lc 5 (nbT t d) eC (fun o => !memA o found) eC (ix_tmp (ed_c (c_beside G) hr (by omega) (ad_cons (ed_var 0) (ad_cons (ed_var 1) (ad_cons (ed_ixL (d := eC d) (ed_var 3) (ed_var 4) (atI_map hd)) ad_nil))) ⟨t.rights, t.ups, d, rfl, by rw [ok.r.len]; exact dok.c, by rw [ok.u.len]; exact dok.c, dok.x, dok.y, rfl⟩)) (fun s' H' C cl fp a ha => ?_) (fun s' H' C cl fp a ha pa => ?_) ?_ ?_ nd ?_) fun z e => ⟨_, e, ?_, ?_⟩)
      · exact tsx_one (td_ninL hu enc_C (ed_var 5) (ed_var 3))
      · exact ed_var 5
      · exact Nat.le_trans (nb_len _ _ _) (by decide)
      · refine bk_corners_at _ _ ?_
        decide +kernel
      · exact fun s' H' C cl fp => pg_name nd rfl (Or.inl rfl) (.inr rfl)
      · rw [List.length_map, List.length_map]
        show found.length + _ ≤ 1000
        have h1 : (nbT t d).length ≤ 4 := nb_len t.rights t.ups d
        have h2 := List.length_filter_le (fun o => !memA o found) (nbT t d)
        omega
      · refine ssx_one (sx_augI 4 ed_int ?_ nd)
        have new : ((nbT t d).filter fun o => !memA o found).Nodup := (nb_nodup t d).filter _
        refine ⟨(found ++ (nbT t d).filter fun o => !memA o found, n + 1), B.turn hd new fun e => ?_, ?_, ?_⟩
        · rw [List.mem_filter]
          refine and_congr_right fun _ => ?_
          rw [Bool.not_eq_true']
          exact memA_not
        · show 16 - (n + 1) < 16 - n
          omega
        · refine lo_same (lo_same (lo_same (lo_eq ?_ (lo_eq ?_ (lo_same lo_nil)))))
          · show Sl.ow (found.map eC ++ _) = Sl.ow ((found ++ _).map eC)
            rw [List.map_append]
          · rfl
    · obtain ⟨found, n⟩ := p
      have hn : n = found.length := by
        have h1 : ¬ n < found.length := of_decide_eq_false hc2
        have h2 : n ≤ found.length := B.le
        omega
      subst hn
      exact ⟨found, _, rfl, B.nd, B.all⟩
    · subst e
      have pf : (srt eC s4).Perm s4 := srt_perm s4
      have few : s4.length ≤ 16 := corners_few ok pt.nd fun d hd => ((pt.re d).mp hd).ok ok hc
      refine ssx_one (sx_retD (ed_tupleL G.tuple (ed_sortL hu G.sorted enc_C (ed_var 3) (so_C s4) (by omega))) (k (srt eC s4) ⟨pf.nodup_iff.mpr pt.nd, fun d => ?_⟩))
      rw [pf.mem_iff]
      exact pt.re d
/-- all labels of a point's corners are kept -/
def ptKept (t : Tb) (pts : List Cor) : Bool := pts.all fun c => (List.range t.marks).all fun m => kept t (c.1, c.2.1, c.2.2, m)
theorem c_pointAt (G : G47 K mg) : Cl P w K mg base 3 "point_at" (fun rs Q => ∃ t c, rs = [.d (eT t), .d (eC c)] ∧ TbOk t ∧ CorOk t c ∧ ∀ pts, PtOf t c pts → Q (.d (ePt pts))) := by
  refine cal_data (G.at 17 "point_at" s_point_at) sc_point_at (fun _ _ _ _ _ _ us hl => match us, hl with | [_, _], _ => rfl) (fun rs Q h => ?_) (by decide) fun f cdv A outer s H E b rs Q as hr hw => ?_
  · obtain ⟨_, _, rfl, _⟩ := h; rfl
  · obtain ⟨t, c, rfl, ok, hc, k⟩ := hw
    show SSX _ _ _ [_, _] _ _
    exact ssx_one (sx_ret (ex_c (P := fun r => ∃ pts, r = .d (ePt pts) ∧ PtOf t c pts) (c_cornersAt G) hr (by omega) (ad_cons (ed_ixT (ed_var 0) ed_int rfl) (ad_cons (ed_ixT (ed_var 0) ed_int rfl) (ad_cons (ed_var 1) ad_nil))) fun rs e => by rw [e]; exact ⟨t, c, rfl, ok, hc, fun pts h => ⟨pts, rfl, h⟩⟩) fun r ⟨pts, e, h⟩ => ⟨r, by rw [e]; rfl, by rw [e]; exact k pts h⟩)
/-- the labels of corners -/
def labsOf (t : Tb) (pts : List Cor) : List PyData := two pts (List.range t.marks) fun c m => eL (c.1, c.2.1, c.2.2, m)
def labs (t : Tb) (pts : List Cor) : List Lab := (pts.map fun c => (List.range t.marks).map fun m => (c.1, c.2.1, c.2.2, m)).flatten
theorem labs_eq (t : Tb) (pts : List Cor) : labsOf t pts = (labs t pts).map eL := by
  unfold labsOf labs two
  rw [List.map_flatten, List.map_map]
  congr 1
  exact List.map_congr_left fun c _ => by simp
theorem c_labelsAt (G : G47 K mg) : Cl P w K mg base 1 "labels_at" (fun rs Q => ∃ t pts, rs = [.d (eT t), .d (ePt pts)] ∧ t.marks ≤ 4 ∧ pts.length ≤ 16 ∧ Q (.fr ((labs t pts).map eL))) := by
  refine cal_data (G.at 18 "labels_at" s_labels_at) sc_labels_at (fun _ _ _ _ _ _ us hl => match us, hl with | [_, _], _ => rfl) (fun rs Q h => ?_) (by decide) fun f cdv A outer s H E b rs Q as hr hw => ?_
  · obtain ⟨_, _, rfl, _⟩ := h; rfl
  · obtain ⟨t, pts, rfl, hm, hp, k⟩ := hw
    rw [← labs_eq] at k
    show SSX _ _ _ [_, _, _, _] _ _
    have nd := sc_labels_at.nd
    refine ssx_one (sx_retF (ed_lc2 2 3 (by decide) rfl pts (List.range t.marks) eC eI (fun c m => eL (c.1, c.2.1, c.2.2, m)) (ix_tup (ed_var 1)) (fun s' H' C cl fp a ha => ix_rangeN (n := t.marks) rfl G.range (ed_ixT (ed_var 0) ed_int rfl) (by omega)) (fun s' H' C cl fp a m ha hm' => ?_) ?_ ?_ nd ?_ ?_) k)
    · exact ed_tup (ad_star (ds := [.int a.1, .int a.2.1, .int a.2.2]) (ed_var 2) (ad_cons (ed_var 3) ad_nil))
    · rw [List.length_range]
      have := Nat.mul_le_mul hp hm
      omega
    · refine bk_labels_at _ _ ?_
      decide +kernel
    · exact fun s' H' C cl fp => pg_name nd rfl (Or.inl rfl) (.inr rfl)
    · exact fun s' H' C cl fp => pg_name nd rfl (Or.inl rfl) (.inr rfl)
theorem mem_labs {t : Tb} {pts : List Cor} {l : Lab} : l ∈ labs t pts ↔ (l.1, l.2.1, l.2.2.1) ∈ pts ∧ l.2.2.2 < t.marks := by
  unfold labs
  rw [List.mem_flatten]
  constructor
  · rintro ⟨ls, h1, h2⟩
    obtain ⟨c, hc, rfl⟩ := List.mem_map.mp h1
    obtain ⟨m, hm, rfl⟩ := List.mem_map.mp h2
    exact ⟨hc, List.mem_range.mp hm⟩
  · rintro ⟨h1, h2⟩
    exact ⟨_, List.mem_map.mpr ⟨_, h1, rfl⟩, List.mem_map.mpr ⟨_, List.mem_range.mpr h2, rfl⟩⟩
theorem labs_len (t : Tb) (pts : List Cor) : (labs t pts).length = pts.length * t.marks := by
  unfold labs
  induction pts with
  | nil => simp
  | cons c pts ih =>
    rw [List.map_cons, List.flatten_cons, List.length_append, ih, List.length_map, List.length_range, List.length_cons, Nat.succ_mul, Nat.add_comm]
theorem c_areKept (G : G47 K mg) : Cl P w K mg base 7 "are_kept" (fun rs Q => ∃ t pts, rs = [.d (eT t), .d (ePt pts)] ∧ TbOk t ∧ pts.length ≤ 16 ∧ (∀ c ∈ pts, CorOk t c) ∧ Q (.d (.bool ((labs t pts).all (kept t))))) := by
  refine cal_data (G.at 19 "are_kept" s_are_kept) sc_are_kept (fun _ _ _ _ _ _ us hl => match us, hl with | [_, _], _ => rfl) (fun rs Q h => ?_) (by decide) fun f cdv A outer s H E b rs Q as hr hw => ?_
  · obtain ⟨_, _, rfl, _⟩ := h; rfl
  · obtain ⟨t, pts, rfl, ok, hp, hc, k⟩ := hw
    show SSX _ _ _ [_, _, _] _ _
    have nd := sc_are_kept.nd
    have hl : ∀ l ∈ labs t pts, LabOk t l := fun l h => by
      obtain ⟨h1, h2⟩ := mem_labs.mp h
      have z := hc _ h1
      exact ⟨z.c, z.x, z.y, h2⟩
    have e1 : (((labs t pts).map (kept t)).all id) = (labs t pts).all (kept t) := by rw [List.all_map]; rfl
    rw [← e1] at k
    refine ssx_one (sx_retD (ed_all (r := .fr (((labs t pts).map (kept t)).map PyData.bool)) (ys := (labs t pts).map (kept t)) G.all ((ed_lc 2 (labs t pts) eL (fun _ => true) (fun l => .bool (kept t l)) (ix_tmp (ed_c (c_labelsAt G) hr (by omega) (ad_cons (ed_var 0) (ad_cons (ed_var 1) ad_nil)) ⟨t, pts, rfl, ok.m4, hp, rfl⟩)) (fun s' H' C cl fp a ha => tsx_nil rfl) (fun s' H' C cl fp a ha pa => ?_) ?_ ?_ nd ?_).cast ?_)) k)
    · exact ed_c (c_kept G) hr (by omega) (ad_cons (ed_var 0) (ad_cons (ed_var 2) ad_nil)) ⟨t, a, rfl, ok, hl a ha, rfl⟩
    · rw [labs_len]
      have := Nat.mul_le_mul hp ok.m4
      omega
    · refine bk_are_kept _ _ ?_
      decide +kernel
    · exact fun s' H' C cl fp => pg_name nd rfl (Or.inl rfl) (.inr rfl)
    · rw [List.filter_eq_self.mpr fun _ _ => rfl, List.map_map]
      rfl
/-- FREE: every label of every corner of the point is kept -/
def Free (t : Tb) (c : Cor) : Prop := ∀ d, Reach t c d → ∀ m, m < t.marks → kept t (d.1, d.2.1, d.2.2, m) = true
open Classical in
noncomputable def freeB (t : Tb) (c : Cor) : Bool := decide (Free t c)
open Classical in
theorem freeB_iff {t : Tb} {c : Cor} : freeB t c = true ↔ Free t c := decide_eq_true_iff
theorem c_isFree (G : G47 K mg) : Cl P w K mg base 8 "is_free" (fun rs Q => ∃ t c, rs = [.d (eT t), .d (eC c)] ∧ TbOk t ∧ CorOk t c ∧ Q (.d (.bool (freeB t c)))) := by
  refine cal_data (G.at 20 "is_free" s_is_free) sc_is_free (fun _ _ _ _ _ _ us hl => match us, hl with | [_, _], _ => rfl) (fun rs Q h => ?_) (by decide) fun f cdv A outer s H E b rs Q as hr hw => ?_
  · obtain ⟨_, _, rfl, _⟩ := h; rfl
  · obtain ⟨t, c, rfl, ok, hc, k⟩ := hw
    show SSX _ _ _ [_, _] _ _
    refine ssx_one (sx_ret (P := fun r => r = .d (.bool (freeB t c))) (ex_c (Pa := fun rs => ∃ pts, rs = [.d (eT t), .d (ePt pts)] ∧ PtOf t c pts) (c_areKept G) hr (by omega) (ax_cons (Pa := fun r => r = .d (eT t)) (Pr := fun rs => ∃ pts, rs = [.d (ePt pts)] ∧ PtOf t c pts) (ed_var 0) (ax_cons (Pr := fun rs => rs = []) (ex_c (P := fun r => ∃ pts, r = .d (ePt pts) ∧ PtOf t c pts) (c_pointAt G) hr (by omega) (ad_cons (ed_var 0) (ad_cons (ed_var 1) ad_nil)) fun rs e => by rw [e]; exact ⟨t, c, rfl, ok, hc, fun pts h => ⟨pts, rfl, h⟩⟩) ad_nil fun r rs ⟨pts, e, h⟩ e2 => ⟨pts, by rw [e, e2], h⟩) fun r rs e1 ⟨pts, e, h⟩ => ⟨pts, by rw [e1, e], h⟩) fun rs ⟨pts, e, h⟩ => ?_) fun r e => ⟨_, by rw [e]; rfl, k⟩)
    subst e
    have hok : ∀ d ∈ pts, CorOk t d := fun d hd => ((h.re d).mp hd).ok ok hc
    refine ⟨t, pts, rfl, ok, corners_few ok h.nd hok, hok, ?_⟩
    have e2 : (labs t pts).all (kept t) = freeB t c := by
      apply Bool.eq_iff_iff.mpr
      rw [freeB_iff, List.all_eq_true]
      refine ⟨fun hh d hd m hm => hh _ (mem_labs.mpr ⟨(h.re d).mpr hd, hm⟩), fun hh l hl => ?_⟩
      obtain ⟨h1, h2⟩ := mem_labs.mp hl
      exact hh _ ((h.re _).mp h1) _ h2
    rw [e2]
end
end K47
set_option Elab.async false
set_option linter.all false
set_option maxRecDepth 100000
set_option maxHeartbeats 2000000
namespace K47
open PySem PySem.Spec PyProof.Rows L2

/-! ### texts of letters -/
def cU (u : Bool) : Nat := if u then 117 else 115
def cW (r : Bool) : Nat := if r then 114 else 108
/-- a path's text: s, u -/
def tx (ls : List Bool) : Str := sOf (ls.map cU)
/-- a word's text: l, r -/
def wt (ws : List Bool) : Str := sOf (ws.map cW)
theorem sOf_len (cs : List Nat) : (sOf cs).length = cs.length := by
  show cs.toArray.size = _
  rw [List.size_toArray]
theorem sOf_app (a b : List Nat) : sOf a ++ sOf b = sOf (a ++ b) := by
  show Str.mk (a.toArray ++ b.toArray) = Str.mk (a ++ b).toArray
  rw [List.append_toArray]
theorem tx_app (a b : List Bool) : tx a ++ tx b = tx (a ++ b) := by
  unfold tx
  rw [sOf_app, List.map_append]
theorem wt_app (a b : List Bool) : wt a ++ wt b = wt (a ++ b) := by
  unfold wt
  rw [sOf_app, List.map_append]
theorem tx_len (a : List Bool) : (tx a).length = a.length := by
  unfold tx
  rw [sOf_len, List.length_map]
theorem wt_len (a : List Bool) : (wt a).length = a.length := by
  unfold wt
  rw [sOf_len, List.length_map]
theorem fold_join : ∀ (l : List (List Nat)) (a : List Nat), ((l.map sOf).foldl (fun x y => x ++ y) (sOf a)) = sOf (a ++ l.flatten)
  | [], a => by simp
  | x :: l, a => by
    rw [List.map_cons, List.foldl_cons, sOf_app, fold_join l, List.flatten_cons, List.append_assoc]
theorem sOf_inj {a b : List Nat} (h : sOf a = sOf b) : a = b := by
  have z : a.toArray = b.toArray := congrArg Str.cps h
  have z2 := congrArg Array.toList z
  simpa using z2
theorem cU_inj {a b : Bool} (h : cU a = cU b) : a = b := by cases a <;> cases b <;> first | rfl | exact absurd h (by decide)
theorem cW_inj {a b : Bool} (h : cW a = cW b) : a = b := by cases a <;> cases b <;> first | rfl | exact absurd h (by decide)
/-- one letter -/
def eU (u : Bool) : PyData := .str (tx [u])
def eWl (r : Bool) : PyData := .str (wt [r])
theorem sgD_tx (ls : List Bool) : sgD (tx ls) = ls.map eU := by
  unfold sgD tx sOf
  show List.map _ (ls.map cU).toArray.toList = _
  rw [List.toList_toArray, List.map_map]
  rfl
theorem sgD_wt (ws : List Bool) : sgD (wt ws) = ws.map eWl := by
  unfold sgD wt sOf
  show List.map _ (ws.map cW).toArray.toList = _
  rw [List.toList_toArray, List.map_map]
  rfl

/-! ### crossings, words, neighbours -/
def crF (p q : Nat) : Nat → Nat → Nat → List Bool
  | 0, _, _ => []
  | f + 1, i, j => if i < p ∨ j < q then (if i < p ∧ (j = q ∨ i * q < j * p) then false :: crF p q f (i + 1) j else true :: crF p q f i (j + 1)) else []
def cross (p q : Nat) : List Bool := crF p q (p + q) 1 1
def wdF : Nat → Nat → Nat → List Bool
  | 0, _, _ => []
  | f + 1, p, q => if p = q then [] else if q < p then false :: wdF f (p - q) q else true :: wdF f p (q - p)
def word (p q : Nat) : List Bool := wdF (p + q) p q
abbrev Slp : Type := Nat × Nat
def plus (a b : Slp) : Slp := (a.1 + b.1, a.2 + b.2)
def nbStep (s : Slp × Slp) (r : Bool) : Slp × Slp := if r then (plus s.1 s.2, s.2) else (s.1, plus s.1 s.2)
def nbrs (ws : List Bool) : Slp × Slp := ws.foldl nbStep ((1, 0), (0, 1))
def highOf (s : Slp) : Slp := (nbrs (word s.1 s.2)).2
def over (s : Slp) : List Bool := if highOf s = (0, 1) then [true] else cross (highOf s).1 (highOf s).2 ++ [false, true]
def turn (s : Slp) : List Bool := cross s.1 s.2 ++ [true, false]
/-- the slopes asked about -/
def slopes : List Slp := ((List.range 18).map fun p => (List.range 18).map fun q => (p, q)).flatten.filter fun s => decide (1 ≤ s.1) && decide (1 ≤ s.2) && decide (s.1 + s.2 ≤ 18) && decide (Nat.gcd s.1 s.2 = 1)
theorem slopes_of {s : Slp} (h1 : 1 ≤ s.1) (h2 : 1 ≤ s.2) (h3 : s.1 + s.2 ≤ 18) (h4 : Nat.gcd s.1 s.2 = 1) : s ∈ slopes := by
  unfold slopes
  rw [List.mem_filter]
  refine ⟨List.mem_flatten.mpr ⟨_, List.mem_map.mpr ⟨s.1, List.mem_range.mpr (by omega), rfl⟩, List.mem_map.mpr ⟨s.2, List.mem_range.mpr (by omega), rfl⟩⟩, ?_⟩
  rw [decide_eq_true h1, decide_eq_true h2, decide_eq_true h3, decide_eq_true h4]
  rfl
/-- what is asked of each slope: the one swap -/
def swapOk (s : Slp) : Bool := let a := turn s ++ over s
  let b := over s ++ turn s
  decide (a.dropLast.dropLast = b.dropLast.dropLast) && decide (a = a.dropLast.dropLast ++ [false, true]) && decide (b = b.dropLast.dropLast ++ [true, false])
def slopeOk (s : Slp) : Bool := decide (1 ≤ s.1) && decide (1 ≤ s.2) && decide (s.1 + s.2 ≤ 18) && decide (highOf s = (0, 1) ∨ (1 ≤ (highOf s).1 ∧ 1 ≤ (highOf s).2 ∧ (highOf s).1 + (highOf s).2 ≤ 18)) && decide ((over s).length ≤ 100) && decide ((turn s).length ≤ 100) && decide ((word s.1 s.2).length ≤ 100) && swapOk s
theorem slopes_all : (slopes.all slopeOk) = true := by decide +kernel
structure SlpOk (s : Slp) : Prop where
  p : 1 ≤ s.1
  q : 1 ≤ s.2
  le : s.1 + s.2 ≤ 18
  hi : highOf s = (0, 1) ∨ (1 ≤ (highOf s).1 ∧ 1 ≤ (highOf s).2 ∧ (highOf s).1 + (highOf s).2 ≤ 18)
  ov : (over s).length ≤ 100
  tu : (turn s).length ≤ 100
  wd : (word s.1 s.2).length ≤ 100
  sw : ∃ z, turn s ++ over s = z ++ [false, true] ∧ over s ++ turn s = z ++ [true, false]
theorem slp_ok {s : Slp} (h : s ∈ slopes) : SlpOk s := by
  have z := List.all_eq_true.mp slopes_all s h
  unfold slopeOk swapOk at z
  simp only [Bool.and_eq_true, decide_eq_true_eq] at z
  obtain ⟨⟨⟨⟨⟨⟨⟨h1, h2⟩, h3⟩, h4⟩, h5⟩, h6⟩, h7⟩, ⟨h8, h9⟩, h10⟩ := z
  exact ⟨h1, h2, h3, h4, h5, h6, h7, _, h9, by rw [h8]; exact h10⟩
end K47
set_option Elab.async false
set_option linter.all false
set_option maxRecDepth 100000
set_option maxHeartbeats 2000000
namespace K47
open PySem PySem.Spec PyProof.Rows L2

/-! ### rows: orbits, laid from their least -/
def it (T : Lab → Lab) : Nat → Lab → Lab
  | 0, l => l
  | n + 1, l => T (it T n l)
theorem it_add (T : Lab → Lab) (m : Nat) : ∀ (n : Nat) (l : Lab), it T (m + n) l = it T m (it T n l)
  | n, l => by
    induction m with
    | zero => rw [Nat.zero_add]; rfl
    | succ m ih => rw [Nat.succ_add]; show T (it T (m + n) l) = T (it T m (it T n l)); rw [ih]
structure Per (T : Lab → Lab) (l : Lab) (n : Nat) : Prop where
  p1 : 1 ≤ n
  p64 : n ≤ 64
  back : it T n l = l
  min_ : ∀ k, 1 ≤ k → k < n → it T k l ≠ l
theorem Per.one {T : Lab → Lab} {l : Lab} {m n : Nat} (h : Per T l m) (k : Per T l n) : m = n := by
  rcases Nat.lt_trichotomy m n with c | c | c
  · exact absurd h.back (k.min_ m h.p1 c)
  · exact c
  · exact absurd k.back (h.min_ n k.p1 c)
def orb (T : Lab → Lab) (l : Lab) (n : Nat) : List Lab := (List.range n).map fun k => it T k l
theorem orb_get {T : Lab → Lab} {l : Lab} {n k : Nat} (h : k < n) : (orb T l n)[k]? = some (it T k l) := by
  unfold orb
  rw [List.getElem?_map, List.getElem?_range h]
  rfl
theorem orb_len (T : Lab → Lab) (l : Lab) (n : Nat) : (orb T l n).length = n := by
  unfold orb
  rw [List.length_map, List.length_range]
/-- from the least on -/
def rot : List Lab → List Lab
  | [] => []
  | a :: as => (a :: as).drop (ixA (minA eL a as) (a :: as)) ++ (a :: as).take (ixA (minA eL a as) (a :: as))
theorem rot_perm : ∀ l : List Lab, (rot l).Perm l
  | [] => .refl _
  | a :: as => by
    show ((a :: as).drop _ ++ (a :: as).take _).Perm (a :: as)
    have z := List.perm_append_comm (l₁ := (a :: as).drop (ixA (minA eL a as) (a :: as))) (l₂ := (a :: as).take (ixA (minA eL a as) (a :: as)))
    rw [List.take_append_drop] at z
    exact z
def codeL (l : Lab) : Nat := ((l.1 * 2 + l.2.1) * 2 + l.2.2.1) * 4 + l.2.2.2
theorem codeL_inj {t : Tb} (ok : TbOk t) {a b : Lab} (ha : LabOk t a) (hb : LabOk t b) (e : codeL a = codeL b) : a = b := by
  obtain ⟨c, x, y, m⟩ := a
  obtain ⟨c', x', y', m'⟩ := b
  have h1 : x < 2 := ha.x
  have h2 : y < 2 := ha.y
  have h3 : m < t.marks := ha.m
  have h4 : x' < 2 := hb.x
  have h5 : y' < 2 := hb.y
  have h6 : m' < t.marks := hb.m
  have h7 := ok.m4
  have e' : ((c * 2 + x) * 2 + y) * 4 + m = ((c' * 2 + x') * 2 + y') * 4 + m' := e
  have e1 : c = c' := by omega
  have e2 : x = x' := by omega
  have e3 : y = y' := by omega
  have e4 : m = m' := by omega
  rw [e1, e2, e3, e4]
theorem codeL_lt {t : Tb} (ok : TbOk t) {a : Lab} (ha : LabOk t a) : codeL a < 64 := by
  have h1 := ha.x
  have h2 := ha.y
  have h3 := ha.m
  have h4 := ha.c
  have h5 := ok.m4
  have h6 := ok.s4
  unfold codeL
  omega
theorem labs_few {t : Tb} (ok : TbOk t) {l : List Lab} (n : l.Nodup) (h : ∀ a ∈ l, LabOk t a) : l.length ≤ 64 := by
  have z := nat_nodup_len (l.map codeL) (List.range 64) (nodup_on (fun a ha b hb e => codeL_inj ok (h a ha) (h b hb) e) n) fun x hx => by
    obtain ⟨c, hc, rfl⟩ := List.mem_map.mp hx
    exact List.mem_range.mpr (codeL_lt ok (h c hc))
  rw [List.length_map, List.length_range] at z
  exact z
section
variable {t : Tb} {T : Lab → Lab}
/-- a map of the labels, one to one -/
structure MapOk (t : Tb) (T : Lab → Lab) : Prop where
  ok : ∀ l, LabOk t l → LabOk t (T l)
  inj : ∀ a b, LabOk t a → LabOk t b → T a = T b → a = b
theorem along_map (ok : TbOk t) (ls : List Bool) : MapOk t (fun l => along t l ls) := ⟨fun _ h => along_ok ok h, fun _ _ h h' e => along_inj ok h h' e⟩
theorem MapOk.it (M : MapOk t T) {l : Lab} (h : LabOk t l) : ∀ n, LabOk t (it T n l)
  | 0 => h
  | n + 1 => M.ok _ (M.it h n)
theorem MapOk.itInj (M : MapOk t T) : ∀ (n : Nat) {a b : Lab}, LabOk t a → LabOk t b → K47.it T n a = K47.it T n b → a = b
  | 0, _, _, _, _, e => e
  | n + 1, a, b, ha, hb, e => M.itInj n ha hb (M.inj _ _ (M.it ha n) (M.it hb n) e)
theorem MapOk.diff (M : MapOk t T) {l : Lab} (h : LabOk t l) {i j : Nat} (hij : i ≤ j) (e : K47.it T i l = K47.it T j l) : K47.it T (j - i) l = l := by
  have z : K47.it T j l = K47.it T i (K47.it T (j - i) l) := by rw [← it_add]; congr 1; omega
  rw [z] at e
  exact (M.itInj i h (M.it h _) e).symm
theorem MapOk.per (M : MapOk t T) (ok : TbOk t) {l : Lab} (h : LabOk t l) : ∃ n, Per T l n := by
  have ex : ∃ n, 1 ≤ n ∧ n ≤ 64 ∧ K47.it T n l = l := by
    rcases Classical.em (orb T l 65).Nodup with c | c
    · have z := labs_few ok c fun a ha => by
        obtain ⟨k, _, rfl⟩ := List.mem_map.mp ha
        exact M.it h k
      unfold orb at z
      rw [List.length_map, List.length_range] at z
      omega
    · obtain ⟨i, j, hi, hj, hij, e⟩ : ∃ (i j : Nat), i < 65 ∧ j < 65 ∧ i < j ∧ K47.it T i l = K47.it T j l := by
        rcases Classical.em (∃ (i j : Nat), i < 65 ∧ j < 65 ∧ i < j ∧ K47.it T i l = K47.it T j l) with y | y
        · exact y
        · refine absurd (List.pairwise_iff_getElem.mpr fun i j hi hj hij e => y ⟨i, j, ?_, ?_, hij, ?_⟩) c
          · unfold orb at hi; rw [List.length_map, List.length_range] at hi; exact hi
          · unfold orb at hj; rw [List.length_map, List.length_range] at hj; exact hj
          · have hi' : i < 65 := by unfold orb at hi; rw [List.length_map, List.length_range] at hi; exact hi
            have hj' : j < 65 := by unfold orb at hj; rw [List.length_map, List.length_range] at hj; exact hj
            have a1 := List.getElem?_eq_getElem hi
            have a2 := List.getElem?_eq_getElem hj
            rw [orb_get hi'] at a1
            rw [orb_get hj', ← e] at a2
            exact Option.some.inj (a1.trans a2.symm)
      exact ⟨j - i, by omega, by omega, M.diff h (by omega) e⟩
  obtain ⟨n, h1, h2, h3⟩ := ex
  obtain ⟨k, k1, ⟨k2, k3⟩, k4⟩ := st_least (p := fun n => 1 ≤ n ∧ K47.it T n l = l) n ⟨h1, h3⟩
  exact ⟨k, k2, by omega, k3, fun m m1 m2 e => k4 m m2 ⟨m1, e⟩⟩
theorem Per.nodup (M : MapOk t T) {l : Lab} {n : Nat} (h : LabOk t l) (p : Per T l n) : (orb T l n).Nodup := by
  unfold orb
  refine nodup_on (fun i hi j hj e => ?_) List.nodup_range
  rw [List.mem_range] at hi hj
  rcases Nat.lt_trichotomy i j with c | c | c
  · exact absurd (M.diff h (by omega) e) (p.min_ (j - i) (by omega) (by omega))
  · exact c
  · exact absurd (M.diff h (by omega) e.symm) (p.min_ (i - j) (by omega) (by omega))
theorem Per.all {l : Lab} {n : Nat} (p : Per T l n) (k : Nat) : it T k l ∈ orb T l n := by
  unfold orb
  refine List.mem_map.mpr ⟨k % n, List.mem_range.mpr (Nat.mod_lt _ p.p1), ?_⟩
  have back : ∀ q, it T (n * q) l = l := fun q => by
    induction q with
    | zero => rw [Nat.mul_zero]; rfl
    | succ q ih => rw [Nat.mul_succ, Nat.add_comm, it_add, ih, p.back]
  have z : k = k % n + n * (k / n) := (Nat.mod_add_div k n).symm
  have e : it T k l = it T (k % n) (it T (n * (k / n)) l) := by
    rw [← it_add, ← z]
  rw [e, back]
end
open Classical in
/-- the period -/
noncomputable def per (T : Lab → Lab) (l : Lab) : Nat := if h : ∃ n, Per T l n then h.choose else 1
theorem per_of {T : Lab → Lab} {l : Lab} {n : Nat} (p : Per T l n) : per T l = n := by
  unfold per
  have h : ∃ n, Per T l n := ⟨n, p⟩
  rw [dif_pos h]
  exact h.choose_spec.one p
/-- the row of a label -/
noncomputable def rowOf (t : Tb) (l : Lab) (ls : List Bool) : List Lab := rot (orb (fun l => along t l ls) l (per (fun l => along t l ls) l))
end K47
set_option Elab.async false
set_option linter.all false
set_option maxRecDepth 100000
set_option maxHeartbeats 2000000
namespace K47
open PySem PySem.Spec PyProof.Rows L2
theorem sjoin_nil : ∀ xs : List (List Nat), Str.join (⟨#[]⟩ : Str) (xs.map sOf) = sOf xs.flatten
  | [] => rfl
  | [x] => by
    rw [List.flatten_cons, List.flatten_nil, List.append_nil]
    rfl
  | x :: y :: r => by
    show sOf x ++ sOf [] ++ Str.join (⟨#[]⟩ : Str) ((y :: r).map sOf) = _
    rw [sjoin_nil (y :: r), sOf_app, sOf_app, List.append_nil]
    rfl
theorem join_nil (xs : List (List Nat)) : Txt.join (⟨#[]⟩ : Str) (xs.map sOf) = sOf xs.flatten := (PySem.StrLaws.glued_eq_join _ _).trans (sjoin_nil xs)
theorem flat_one {α β : Type} (f : α → β) : ∀ ls : List α, (ls.map fun u => [f u]).flatten = ls.map f
  | [] => rfl
  | u :: ls => by rw [List.map_cons, List.flatten_cons, flat_one f ls]; rfl
theorem join_tx (ls : List Bool) : Txt.join (⟨#[]⟩ : Str) (ls.map fun u => tx [u]) = tx ls := by
  have z := join_nil (ls.map fun u => [cU u])
  rw [List.map_map] at z
  rw [flat_one] at z
  exact z
theorem sum_ones (ls : List Bool) : ((ls.map fun u => tx [u]).map (·.length)).sum = ls.length := by
  induction ls with
  | nil => rfl
  | cons u ls ih => rw [List.map_cons, List.map_cons, List.sum_cons, ih, tx_len, List.length_cons, List.length_cons, List.length_nil]; omega
theorem eU_str (ls : List Bool) : ls.map eU = (ls.map fun u => tx [u]).map PyData.str := by
  rw [List.map_map]
  rfl
theorem crF_len (p q : Nat) : ∀ f i j, (crF p q f i j).length ≤ f
  | 0, _, _ => Nat.le_refl _
  | f + 1, i, j => by
    unfold crF
    split
    · split
      · exact Nat.succ_le_succ (crF_len p q f _ _)
      · exact Nat.succ_le_succ (crF_len p q f _ _)
    · exact Nat.zero_le _
theorem cross_len (p q : Nat) : (cross p q).length ≤ p + q := crF_len p q _ _ _
/-- the crossings' loop: what is done, the places -/
structure CrI (p q : Nat) (d : List Bool) (i j : Nat) : Prop where
  i1 : 1 ≤ i
  ip : i ≤ p
  j1 : 1 ≤ j
  jq : j ≤ q
  co : ∃ f, (p - i) + (q - j) ≤ f ∧ d ++ crF p q f i j = cross p q
  sm : d.length + (p - i) + (q - j) ≤ 100
theorem CrI.first {p q : Nat} (hp : 1 ≤ p) (hq : 1 ≤ q) (h : p + q ≤ 18) : CrI p q [] 1 1 := ⟨Nat.le_refl _, hp, Nat.le_refl _, hq, ⟨p + q, by omega, rfl⟩, by show 0 + (p - 1) + (q - 1) ≤ 100; omega⟩
theorem CrI.side {p q : Nat} {d : List Bool} {i j : Nat} (h : CrI p q d i j) (h1 : i < p) (h2 : j = q ∨ i * q < j * p) : CrI p q (d ++ [false]) (i + 1) j := by
  obtain ⟨f, hf, e⟩ := h.co
  have a1 := h.i1
  have a2 := h.jq
  have a3 := h.sm
  cases f with
  | zero => omega
  | succ f =>
    have e2 : crF p q (f + 1) i j = false :: crF p q f (i + 1) j := by
      show (if _ then (if _ then _ else _) else _) = _
      rw [if_pos (.inl h1), if_pos ⟨h1, h2⟩]
    refine ⟨by omega, h1, h.j1, a2, ⟨f, by omega, ?_⟩, ?_⟩
    · rw [← e, e2, List.append_assoc]; rfl
    · rw [List.length_append, List.length_singleton]; omega
theorem CrI.up {p q : Nat} {d : List Bool} {i j : Nat} (h : CrI p q d i j) (h0 : i < p ∨ j < q) (h1 : ¬ (i < p ∧ (j = q ∨ i * q < j * p))) : CrI p q (d ++ [true]) i (j + 1) := by
  obtain ⟨f, hf, e⟩ := h.co
  have a2 := h.jq
  have a3 := h.sm
  have hj : j < q := by
    rcases h0 with z | z
    · rcases Nat.lt_or_ge j q with y | y
      · exact y
      · exact absurd ⟨z, .inl (by omega)⟩ h1
    · exact z
  cases f with
  | zero => omega
  | succ f =>
    have e2 : crF p q (f + 1) i j = true :: crF p q f i (j + 1) := by
      show (if _ then (if _ then _ else _) else _) = _
      rw [if_pos h0, if_neg h1]
    refine ⟨h.i1, h.ip, by omega, hj, ⟨f, by omega, ?_⟩, ?_⟩
    · rw [← e, e2, List.append_assoc]; rfl
    · rw [List.length_append, List.length_singleton]; omega
theorem CrI.last {p q : Nat} {d : List Bool} {i j : Nat} (h : CrI p q d i j) (h0 : ¬ (i < p ∨ j < q)) : d = cross p q := by
  obtain ⟨f, _, e⟩ := h.co
  have e2 : crF p q f i j = [] := by
    cases f with
    | zero => rfl
    | succ f =>
      show (if _ then (if _ then _ else _) else _) = _
      rw [if_neg h0]
  rw [← e, e2, List.append_nil]
theorem natlt {a b : Nat} : decide ((a : Int) < (b : Int)) = decide (a < b) := by
  apply Bool.eq_iff_iff.mpr
  simp
theorem nateq {a b : Nat} : decide ((a : Int) = (b : Int)) = decide (a = b) := by
  apply Bool.eq_iff_iff.mpr
  rw [decide_eq_true_iff, decide_eq_true_iff]
  exact Int.ofNat_inj
theorem cond_eq {p q r : Prop} [Decidable p] [Decidable q] [Decidable r] : ((decide p) && ((decide q) || (decide r))) = decide (p ∧ (q ∨ r)) := by
  apply Bool.eq_iff_iff.mpr
  simp
theorem cmul_small {a b : Nat} (h : a ≤ 100) : CMul (a : Int) (b : Int) := .inl ⟨by omega, by omega⟩
section
variable {P : Program} {w : World} {K : PySem.W.Frag} {mg : Str → Option Value} {base : Heap}
theorem c_crossings (G : G47 K mg) : Cl P w K mg base 1 "crossings_of" (fun rs Q => ∃ s : Slp, rs = [.d (eSl s)] ∧ 1 ≤ s.1 ∧ 1 ≤ s.2 ∧ s.1 + s.2 ≤ 18 ∧ Q (.d (.str (tx (cross s.1 s.2))))) := by
  refine cal_data (G.at 0 "crossings_of" s_crossings_of) sc_crossings_of (fun _ _ _ _ _ _ us hl => match us, hl with | [_], _ => rfl) (fun rs Q h => ?_) (by decide) fun f cdv A outer s H E b rs Q as hr hw => ?_
  · obtain ⟨_, rfl, _⟩ := h; rfl
  · obtain ⟨⟨p, q⟩, rfl, hp, hq, hs, k⟩ := hw
    show SSX _ _ _ [_, _, _, _, _, _] _ _
    have nd := sc_crossings_of.nd
    refine ssx_cons (sx_asg (d := eSl (p, q)) (ed_var 0) (gx_tup (gsx_cons (gx_name 1 (gsx_cons (gx_name 2 (gsx_nil ?_) nd)) nd))))
    refine ssx_cons (sx_par3 3 4 5 rfl (ad_cons (ed_lst ad_nil) (ad_cons ed_int (ad_cons ed_int ad_nil))) (fun rs e => ⟨_, _, _, _, _, _, e, rfl, rfl, rfl, ?_⟩) nd)
    refine ssx_cut (fun Δ' => ∃ s4 s5, Δ' = [.d (eSl (p, q)), .d (.int p), .d (.int q), .ow ((cross p q).map eU), s4, s5])
      (sx_whileA (fun z : List Bool × Nat × Nat => [.d (eSl (p, q)), .d (.int p), .d (.int q), .ow (z.1.map eU), .d (.int z.2.1), .d (.int z.2.2)]) (fun z => CrI p q z.1 z.2.1 z.2.2) (fun z => (p - z.2.1) + (q - z.2.2)) ([], 1, 1) (CrI.first hp hq hs) (lo_same (lo_same (lo_same (lo_same (lo_same (lo_same lo_nil)))))) fun z I => ⟨decide (z.2.1 < p ∨ z.2.2 < q), ?_, fun hc2 => ?_, fun hc2 => ?_⟩) fun Δ' ⟨s4, s5, e⟩ => ?_
    · refine (td_or (td_lt (ed_var 4) (ed_var 1)) fun _ => td_lt (ed_var 5) (ed_var 2)).cast ?_
      rw [natlt, natlt, Bool.decide_or]
    · obtain ⟨d, i, j⟩ := z
      have h0 : i < p ∨ j < q := of_decide_eq_true hc2
      have hip : i ≤ p := I.ip
      have hjq : j ≤ q := I.jq
      have sm : d.length + (p - i) + (q - j) ≤ 100 := I.sm
      refine ssx_one (sx_ifD (c := decide (i < p ∧ (j = q ∨ i * q < j * p))) ((td_and (td_lt (ed_var 4) (ed_var 1)) fun _ => td_or (td_eqI (ed_var 5) (ed_var 2)) fun _ => td_lt (ed_mul (ed_var 4) (ed_var 2) ?_) (ed_mul (ed_var 5) (ed_var 1) ?_)).cast ?_) (fun h => ?_) fun h => ?_)
      · exact cmul_small (show i ≤ 100 by omega)
      · exact cmul_small (show j ≤ 100 by omega)
      · rw [natlt, nateq, ← Int.natCast_mul, ← Int.natCast_mul, natlt, cond_eq]
      · obtain ⟨h1, h2⟩ := of_decide_eq_true h
        refine ssx_cons (sx_append 3 ed_str fun r e => ⟨_, e, ?_, ?_⟩)
        · rw [List.length_map, sizeLine_eq]
          show d.length < _
          omega
        · refine ssx_one (sx_augI 4 ed_int ?_ nd)
          refine ⟨(d ++ [false], i + 1, j), CrI.side I h1 h2, ?_, ?_⟩
          · show (p - (i + 1)) + (q - j) < (p - i) + (q - j)
            omega
          · refine lo_same (lo_same (lo_same (lo_eq ?_ (lo_eq rfl (lo_same lo_nil)))))
            rw [List.map_append]
            rfl
      · have h2 := of_decide_eq_false h
        refine ssx_cons (sx_append 3 ed_str fun r e => ⟨_, e, ?_, ?_⟩)
        · rw [List.length_map, sizeLine_eq]
          show d.length < _
          omega
        · refine ssx_one (sx_augI 5 ed_int ?_ nd)
          have I2 : CrI p q (d ++ [true]) i (j + 1) := CrI.up I h0 h2
          have := I2.jq
          refine ⟨(d ++ [true], i, j + 1), I2, ?_, ?_⟩
          · show (p - i) + (q - (j + 1)) < (p - i) + (q - j)
            omega
          · refine lo_same (lo_same (lo_same (lo_eq ?_ (lo_same (lo_eq rfl lo_nil)))))
            rw [List.map_append]
            rfl
    · obtain ⟨d, i, j⟩ := z
      have e : d = cross p q := CrI.last I (of_decide_eq_false hc2)
      subst e
      exact ⟨_, _, rfl⟩
    · subst e
      have cl := cross_len p q
      have e2 : p + q ≤ 18 := hs
      refine ssx_one (sx_ret (ex_join (P := fun r => r = .d (.str (tx (cross p q)))) ed_str (ed_var 3) fun r e => ⟨(cross p q).map fun u => tx [u], by rw [e, ← eU_str]; rfl, ?_, ?_⟩) fun r e => ⟨r, by rw [e]; rfl, by rw [e]; exact k⟩)
      · rw [sum_ones, List.length_map]
        show _ + _ * 0 ≤ _
        omega
      · exact congrArg (fun z => Rs.d (.str z)) (join_tx (cross p q))
theorem c_straight (G : G47 K mg) : Cl P w K mg base 2 "straight" (fun rs Q => ∃ s : Slp, rs = [.d (eSl s)] ∧ 1 ≤ s.1 ∧ 1 ≤ s.2 ∧ s.1 + s.2 ≤ 18 ∧ Q (.d (.str (tx (cross s.1 s.2 ++ [false, true]))))) := by
  refine cal_data (G.at 1 "straight" s_straight) sc_straight (fun _ _ _ _ _ _ us hl => match us, hl with | [_], _ => rfl) (fun rs Q h => ?_) (by decide) fun f cdv A outer s H E b rs Q as hr hw => ?_
  · obtain ⟨_, rfl, _⟩ := h; rfl
  · obtain ⟨s, rfl, hp, hq, hs, k⟩ := hw
    show SSX _ _ _ [_] _ _
    rw [← tx_app] at k
    refine ssx_one (sx_retD (ed_addS (x := tx (cross s.1 s.2)) (y := tx [false, true]) (ed_c (c_crossings G) hr (by omega) (ad_cons (ed_var 0) ad_nil) ⟨s, rfl, hp, hq, hs, rfl⟩) ed_str ?_) k)
    rw [tx_len, tx_len, sizeLine_eq]
    have := cross_len s.1 s.2
    show _ + 2 ≤ _
    omega
end
end K47
set_option Elab.async false
set_option linter.all false
set_option maxRecDepth 100000
set_option maxHeartbeats 2000000
namespace K47
open PySem PySem.Spec PyProof.Rows L2
section
variable {X : Cx} {b : Option Addr} {Hb : Hp} {Δ : List Sl} {e f g : Expr} {pos : Pos} {D : Dn}
theorem ix_cast {tg : Expr} {ds ds' : List PyData} {tk : Option (List PyData)} {l : Lk} (h : IX X b Hb Δ tg e ds tk l) (q : ds = ds') : IX X b Hb Δ tg e ds' tk l := q ▸ h
/-- (a, b), c = pair, [..] -/
theorem sx_parT (i j l : Nat) {x y z : Str} {px py pz pt pt1 : Pos} {kt k1 k2 pt2} {d1 d2 : PyData} {zs : List PyData} (ha : AD X b Hb Δ [e, f] [.d (.tuple [d1, d2]), .fr zs]) (k : D.nx (((Δ.set i (.d d1)).set j (.d d2)).set l (.ow zs))) (hN : X.N.Nodup)
    (hi : X.N[i]? = some x := by rfl) (hj : X.N[j]? = some y := by rfl) (hl : X.N[l]? = some z := by rfl)
    (hx : Loc X.env.scope x := by first | exact Or.inl rfl | exact Or.inr rfl) (hy : Loc X.env.scope y := by first | exact Or.inl rfl | exact Or.inr rfl) (hz : Loc X.env.scope z := by first | exact Or.inl rfl | exact Or.inr rfl)
    (fx : X.fn x = true ∨ X.env.scope.names.lookup x = some .local := by first | exact .inl rfl | exact .inr rfl) (fy : X.fn y = true ∨ X.env.scope.names.lookup y = some .local := by first | exact .inl rfl | exact .inr rfl) (fz : X.fn z = true ∨ X.env.scope.names.lookup z = some .local := by first | exact .inl rfl | exact .inr rfl) (hc : X.calm = true := by rfl)
    (n1 : (assignEach [.Name x px, .Name y py] X.env).length = 2 := by rfl) (s1 : (assignEach [.Name x px, .Name y py] X.env).findIdx? (·.1) = none := by rfl)
    (a1 : (assignEach [.Name x px, .Name y py] X.env).map (·.2) = assign (.Name x px) X.env :: (assignEach [.Name y py] X.env).map (·.2) := by rfl) (a2 : (assignEach [.Name y py] X.env).map (·.2) = assign (.Name y py) X.env :: (assignEach [] X.env).map (·.2) := by rfl)
    (n2 : (assignEach [.Tuple [.Name x px, .Name y py] k1 pt1, .Name z pz] X.env).length = 2 := by rfl) (s2 : (assignEach [.Tuple [.Name x px, .Name y py] k1 pt1, .Name z pz] X.env).findIdx? (·.1) = none := by rfl)
    (a3 : (assignEach [.Tuple [.Name x px, .Name y py] k1 pt1, .Name z pz] X.env).map (·.2) = assign (.Tuple [.Name x px, .Name y py] k1 pt1) X.env :: (assignEach [.Name z pz] X.env).map (·.2) := by rfl) (a4 : (assignEach [.Name z pz] X.env).map (·.2) = assign (.Name z pz) X.env :: (assignEach [] X.env).map (·.2) := by rfl)
    (hw : swappedStores [.Tuple [.Tuple [.Name x px, .Name y py] k1 pt1, .Name z pz] kt pt] (.Tuple [e, f] k2 pt2) X.env = pure none := by rfl)
    (hs : swapsWithSole [.Tuple [.Tuple [.Name x px, .Name y py] k1 pt1, .Name z pz] kt pt] (.Tuple [e, f] k2 pt2) pos.line X.env = pure false := by rfl)
    (h1 : (assignEach [.Tuple [.Tuple [.Name x px, .Name y py] k1 pt1, .Name z pz] kt pt] X.env).map (·.2) = [assign (.Tuple [.Tuple [.Name x px, .Name y py] k1 pt1, .Name z pz] kt pt) X.env] := by rfl) :
    SX X b Hb Δ (.Assign [.Tuple [.Tuple [.Name x px, .Name y py] k1 pt1, .Name z pz] kt pt] (.Tuple [e, f] k2 pt2) pos) D :=
  ps_imp (ps_asg (pe_tupN ha) (pg_tup hc (pgs_cons (pg_tup hc (pgs_cons (pg_name hN hi hx fx) (pgs_cons (pg_name hN hj hy fy) pgs_nil a2) a1) n1 s1) (pgs_cons (pg_name hN hl hz fz) pgs_nil a4) a3) n2 s2) hs hw h1) fun E σ H q => ⟨q.1, fun vs H1 rs p f1 kk => by
    subst p
    cases kk with
    | @cons v1 _ _ _ r1 t1 _ =>
      cases t1 with
      | @cons v2 _ _ _ r2 t2 _ =>
        cases t2
        cases r1 with
        | @tup a0 _ _ e0 t0 =>
          cases t0 with
          | @cons w1 _ _ _ u1 t3 =>
            cases t3 with
            | @cons w2 _ _ _ u2 t4 =>
              cases t4
              obtain ⟨a, us, e3, n3, e4, t5⟩ := r2
              subst e3
              refine ⟨Nat.le_of_lt (small1000 (show 2 ≤ 1000 by decide)), fun p o hp ho => ⟨p, [.ref a0, .ref a], rfl, .inl (.inr ⟨o, upd_same⟩), rfl, .ref a0, [.ref a], rfl, a0, [w1, w2], rfl, (e0.keep (KT.new hp)).sq, rfl, w1, [w2], rfl, w2, [], rfl, rfl, .ref a, [], rfl, rfl, ?_⟩⟩
              have q1 := (q.1.step f1).step (.new (o := .frz o (.tup [.ref a0, .ref a])) hp)
              have kt : KT H1 (upd H1 p (.frz o (.tup [.ref a0, .ref a]))) := KT.new hp
              have q2 := (q1.setD (i := i) (u1.keep kt)).setD (i := j) (u2.keep kt)
              have ea : upd H1 p (.frz o (.tup [.ref a0, .ref a])) a = some (.lst us) := by rw [upd_ne (ne_of_none e4 hp)]; exact e4
              refine q.2.1 _ _ _ k (q2.setOw (q.1.fr.free q.1.bag n3) ea (t5.keep kt) fun m ys nm em zz => ?_)
              rcases set_get em with ⟨_, h6, _⟩ | ⟨h5, h6⟩
              · cases h6
              · rcases set_get h6 with ⟨_, h8, _⟩ | ⟨h7, h8⟩
                · cases h8
                · rw [List.getElem?_set_ne h5, List.getElem?_set_ne h7] at zz
                  exact q.1.noOw n3 (i := l) m ys nm h8 zz⟩
end
/-! ### words -/
theorem wdF_len : ∀ f p q, 1 ≤ p → 1 ≤ q → (wdF f p q).length + 1 ≤ p + q
  | 0, p, q, h1, h2 => by show 0 + 1 ≤ _; omega
  | f + 1, p, q, h1, h2 => by
    unfold wdF
    by_cases h : p = q
    · rw [if_pos h]; show 0 + 1 ≤ _; omega
    · rw [if_neg h]
      by_cases h3 : q < p
      · rw [if_pos h3]
        have := wdF_len f (p - q) q (by omega) h2
        rw [List.length_cons]
        omega
      · rw [if_neg h3]
        have := wdF_len f p (q - p) h1 (by omega)
        rw [List.length_cons]
        omega
theorem wdF_l (q : Nat) : ∀ (k f p : Nat), k * q < p → 1 ≤ q → k ≤ f → wdF f p q = List.replicate k false ++ wdF (f - k) (p - k * q) q
  | 0, f, p, _, _, _ => by rw [Nat.zero_mul, Nat.sub_zero, Nat.sub_zero]; rfl
  | k + 1, 0, p, _, _, h => by omega
  | k + 1, f + 1, p, h, hq, hf => by
    rw [Nat.succ_mul] at h
    have h1 : q < p := by omega
    have e : wdF (f + 1) p q = false :: wdF f (p - q) q := by
      show (if _ then _ else (if _ then _ else _)) = _
      rw [if_neg (by omega), if_pos h1]
    rw [e, wdF_l q k f (p - q) (by omega) hq (by omega), List.replicate_succ, List.cons_append]
    have e2 : p - q - k * q = p - (k + 1) * q := by rw [Nat.succ_mul]; omega
    have e3 : f - k = f + 1 - (k + 1) := by omega
    rw [e2, e3]
theorem wdF_r (p : Nat) : ∀ (k f q : Nat), k * p < q → 1 ≤ p → k ≤ f → wdF f p q = List.replicate k true ++ wdF (f - k) p (q - k * p)
  | 0, f, q, _, _, _ => by rw [Nat.zero_mul, Nat.sub_zero, Nat.sub_zero]; rfl
  | k + 1, 0, q, _, _, h => by omega
  | k + 1, f + 1, q, h, hp, hf => by
    rw [Nat.succ_mul] at h
    have e : wdF (f + 1) p q = true :: wdF f p (q - p) := by
      show (if _ then _ else (if _ then _ else _)) = _
      rw [if_neg (by omega), if_neg (by omega)]
    rw [e, wdF_r p k f (q - p) (by omega) hp (by omega), List.replicate_succ, List.cons_append]
    have e2 : q - p - k * p = q - (k + 1) * p := by rw [Nat.succ_mul]; omega
    have e3 : f - k = f + 1 - (k + 1) := by omega
    rw [e2, e3]
/-- the word's loop -/
structure WdI (p q : Nat) (cs : List (List Bool)) (a b : Nat) : Prop where
  a1 : 1 ≤ a
  b1 : 1 ≤ b
  le : a + b ≤ 18
  co : ∃ f, a + b ≤ f ∧ cs.flatten ++ wdF f a b = word p q
  sm : cs.length + a + b ≤ 18
theorem many_pos {a b : Nat} (h : b < a) (hb : 1 ≤ b) : 1 ≤ (a - 1) / b ∧ (a - 1) / b * b < a ∧ (a - 1) / b ≤ a - 1 := by
  refine ⟨(Nat.le_div_iff_mul_le hb).mpr (by omega), ?_, Nat.div_le_self _ _⟩
  have := Nat.div_mul_le_self (a - 1) b
  omega
theorem WdI.left {p q : Nat} {cs : List (List Bool)} {a b : Nat} (h : WdI p q cs a b) (c : b < a) : WdI p q (cs ++ [List.replicate ((a - 1) / b) false]) (a - (a - 1) / b * b) b ∧ a - (a - 1) / b * b + b < a + b := by
  obtain ⟨m1, m2, m3⟩ := many_pos c h.b1
  have l := h.le
  have s := h.sm
  have b1 := h.b1
  obtain ⟨f, hf, e⟩ := h.co
  have m4 : (a - 1) / b ≤ (a - 1) / b * b := Nat.le_mul_of_pos_right _ b1
  refine ⟨⟨by omega, b1, by omega, ⟨f - (a - 1) / b, by omega, ?_⟩, ?_⟩, by omega⟩
  · rw [← e, wdF_l b ((a - 1) / b) f a m2 b1 (by omega), List.flatten_append, List.append_assoc]
    simp
  · rw [List.length_append, List.length_singleton]; omega
theorem WdI.right {p q : Nat} {cs : List (List Bool)} {a b : Nat} (h : WdI p q cs a b) (c : a < b) : WdI p q (cs ++ [List.replicate ((b - 1) / a) true]) a (b - (b - 1) / a * a) ∧ a + (b - (b - 1) / a * a) < a + b := by
  obtain ⟨m1, m2, m3⟩ := many_pos c h.a1
  have l := h.le
  have s := h.sm
  have a1 := h.a1
  obtain ⟨f, hf, e⟩ := h.co
  have m4 : (b - 1) / a ≤ (b - 1) / a * a := Nat.le_mul_of_pos_right _ a1
  refine ⟨⟨a1, by omega, by omega, ⟨f - (b - 1) / a, by omega, ?_⟩, ?_⟩, by omega⟩
  · rw [← e, wdF_r a ((b - 1) / a) f b m2 a1 (by omega), List.flatten_append, List.append_assoc]
    simp
  · rw [List.length_append, List.length_singleton]; omega
theorem WdI.last {p q : Nat} {cs : List (List Bool)} {a : Nat} (h : WdI p q cs a a) : cs.flatten = word p q := by
  obtain ⟨f, _, e⟩ := h.co
  have e2 : wdF f a a = [] := by
    cases f with
    | zero => rfl
    | succ f => exact if_pos rfl
  rw [← e, e2, List.append_nil]
theorem join_wt (cs : List (List Bool)) : Txt.join (⟨#[]⟩ : Str) (cs.map wt) = wt cs.flatten := by
  have z := join_nil (cs.map fun c => c.map cW)
  rw [List.map_map] at z
  have e : (cs.map fun c => c.map cW).flatten = cs.flatten.map cW := by rw [List.map_flatten]
  rw [e] at z
  exact z
theorem sum_wt (cs : List (List Bool)) : ((cs.map wt).map (·.length)).sum = cs.flatten.length := by
  induction cs with
  | nil => rfl
  | cons c cs ih => rw [List.map_cons, List.map_cons, List.sum_cons, ih, wt_len, List.flatten_cons, List.length_append]
def eWd (c : List Bool) : PyData := .str (wt c)
theorem rep_wt (k : Nat) (r : Bool) : sOf (List.replicate k [cW r]).flatten = wt (List.replicate k r) := by
  unfold wt
  congr 1
  induction k with
  | zero => rfl
  | succ k ih => rw [List.replicate_succ, List.flatten_cons, ih, List.replicate_succ]; rfl
theorem div_cast {a b : Nat} (h : 1 ≤ a) : (((a : Int) - 1) / (b : Int)) = (((a - 1) / b : Nat) : Int) := by
  have e : ((a : Int) - 1) = ((a - 1 : Nat) : Int) := by omega
  rw [e]
  rfl
theorem sub_cast {a b c : Nat} (h : c * b ≤ a) : ((a : Int) - (c : Int) * (b : Int)) = ((a - c * b : Nat) : Int) := by
  rw [← Int.natCast_mul]
  omega
section
variable {P : Program} {w : World} {K : PySem.W.Frag} {mg : Str → Option Value} {base : Heap}
theorem c_added (G : G47 K mg) : Cl P w K mg base 1 "added" (fun rs Q => ∃ a b : Slp, rs = [.d (eSl a), .d (eSl b)] ∧ Q (.d (eSl (plus a b)))) := by
  refine cal_data (G.at 21 "added" s_added) sc_added (fun _ _ _ _ _ _ us hl => match us, hl with | [_, _], _ => rfl) (fun rs Q h => ?_) (by decide) fun f cdv A outer s H E b rs Q as hr hw => ?_
  · obtain ⟨_, _, rfl, _⟩ := h; rfl
  · obtain ⟨x, y, rfl, k⟩ := hw
    show SSX _ _ _ [_, _] _ _
    exact ssx_one (sx_retD (ed_tup (ad_cons (ed_add (ed_ixT (ed_var 0) ed_int rfl) (ed_ixT (ed_var 1) ed_int rfl)) (ad_cons (ed_add (ed_ixT (ed_var 0) ed_int rfl) (ed_ixT (ed_var 1) ed_int rfl)) ad_nil))) k)
theorem c_word (G : G47 K mg) : Cl P w K mg base 1 "word_of" (fun rs Q => ∃ s : Slp, rs = [.d (eSl s)] ∧ 1 ≤ s.1 ∧ 1 ≤ s.2 ∧ s.1 + s.2 ≤ 18 ∧ Q (.d (.str (wt (word s.1 s.2))))) := by
  refine cal_data (G.at 22 "word_of" s_word_of) sc_word_of (fun _ _ _ _ _ _ us hl => match us, hl with | [_], _ => rfl) (fun rs Q h => ?_) (by decide) fun f cdv A outer s H E b rs Q as hr hw => ?_
  · obtain ⟨_, rfl, _⟩ := h; rfl
  · obtain ⟨⟨p, q⟩, rfl, hp, hq, hs, k⟩ := hw
    show SSX _ _ _ [_, _, _, _, _] _ _
    have nd := sc_word_of.nd
    have e2 : p + q ≤ 18 := hs
    refine ssx_cons (sx_parT 1 2 3 (d1 := .int p) (d2 := .int q) (zs := []) (ad_cons (ed_var 0) (ad_cons (ed_lst ad_nil) ad_nil)) ?_ nd)
    refine ssx_cut (fun Δ' => ∃ (s1 s2 s5 : Sl) (cs : List (List Bool)), Δ' = [.d (eSl (p, q)), s1, s2, .ow (cs.map eWd), s5] ∧ cs.flatten = word p q)
      (sx_whileA (fun z : List (List Bool) × Nat × Nat => [.d (eSl (p, q)), .d (.int z.2.1), .d (.int z.2.2), .ow (z.1.map eWd), .un]) (fun z => WdI p q z.1 z.2.1 z.2.2) (fun z => z.2.1 + z.2.2) ([], p, q) ⟨hp, hq, hs, ⟨p + q, Nat.le_refl _, rfl⟩, by show 0 + p + q ≤ 18; omega⟩ (lo_same (lo_same (lo_same (lo_same (lo_same lo_nil))))) fun z I => ⟨!decide (z.2.1 = z.2.2), ?_, fun hc2 => ?_, fun hc2 => ?_⟩) fun Δ' ⟨s1, s2, s5, cs, e, ec⟩ => ?_
    · refine (td_neI (ed_var 1) (ed_var 2)).cast ?_
      rw [nateq]
    · obtain ⟨cs, a, c⟩ := z
      have a1 : 1 ≤ a := I.a1
      have b1 : 1 ≤ c := I.b1
      have le : a + c ≤ 18 := I.le
      have sm : cs.length + a + c ≤ 18 := I.sm
      have hne : a ≠ c := by
        rw [Bool.not_eq_true'] at hc2
        exact of_decide_eq_false hc2
      refine ssx_one (sx_ifD (td_gt (ed_var 1) (ed_var 2)) (fun h => ?_) fun h => ?_)
      · have h' : c < a := by
          have z : (c : Int) < (a : Int) := of_decide_eq_true h
          omega
        obtain ⟨m1, m2, m3⟩ := many_pos h' b1
        refine ssx_cons (sx_setD 4 (d := .int ((a - 1) / c : Nat)) ((ed_fdiv (ed_sub (ed_var 1) ed_int) (ed_var 2) ⟨by show (0 : Int) < (c : Int); omega, by show (c : Int) < 1073741824; omega⟩).cast (by rw [div_cast a1])) ?_ nd)
        refine ssx_cons (sx_append 3 (ed_repS (cs := [108]) (k := (a - 1) / c) ed_str (ed_var 4) (by omega) (by show 1 * _ ≤ _; omega)) fun r e => ⟨_, e, ?_, ?_⟩)
        · rw [List.length_map, sizeLine_eq]
          show cs.length < _
          omega
        · refine ssx_one (sx_setD 1 (d := .int (a - (a - 1) / c * c : Nat)) ((ed_sub (ed_var 1) (ed_mul (ed_var 4) (ed_var 2) (cmul_small (by omega)))).cast (congrArg (fun z => Rs.d (.int z)) (sub_cast (a := a) (b := c) (c := (a - 1) / c) (by omega)))) ?_ nd)
          obtain ⟨I2, hlt⟩ := WdI.left I h'
          refine ⟨(cs ++ [List.replicate ((a - 1) / c) false], a - (a - 1) / c * c, c), I2, hlt, ?_⟩
          refine lo_same (lo_same (lo_same (lo_eq ?_ (lo_un lo_nil))))
          rw [List.map_append]
          show Sl.ow (_ ++ [PyData.str (sOf _)]) = Sl.ow (_ ++ [PyData.str (wt _)])
          rw [← rep_wt]
          rfl
      · have h' : a < c := by
          have z : ¬ (c : Int) < (a : Int) := of_decide_eq_false h
          omega
        obtain ⟨m1, m2, m3⟩ := many_pos h' a1
        refine ssx_cons (sx_setD 4 (d := .int ((c - 1) / a : Nat)) ((ed_fdiv (ed_sub (ed_var 2) ed_int) (ed_var 1) ⟨by show (0 : Int) < (a : Int); omega, by show (a : Int) < 1073741824; omega⟩).cast (by rw [div_cast b1])) ?_ nd)
        refine ssx_cons (sx_append 3 (ed_repS (cs := [114]) (k := (c - 1) / a) ed_str (ed_var 4) (by omega) (by show 1 * _ ≤ _; omega)) fun r e => ⟨_, e, ?_, ?_⟩)
        · rw [List.length_map, sizeLine_eq]
          show cs.length < _
          omega
        · refine ssx_one (sx_setD 2 (d := .int (c - (c - 1) / a * a : Nat)) ((ed_sub (ed_var 2) (ed_mul (ed_var 4) (ed_var 1) (cmul_small (by omega)))).cast (congrArg (fun z => Rs.d (.int z)) (sub_cast (a := c) (b := a) (c := (c - 1) / a) (by omega)))) ?_ nd)
          obtain ⟨I2, hlt⟩ := WdI.right I h'
          refine ⟨(cs ++ [List.replicate ((c - 1) / a) true], a, c - (c - 1) / a * a), I2, hlt, ?_⟩
          refine lo_same (lo_same (lo_same (lo_eq ?_ (lo_un lo_nil))))
          rw [List.map_append]
          show Sl.ow (_ ++ [PyData.str (sOf _)]) = Sl.ow (_ ++ [PyData.str (wt _)])
          rw [← rep_wt]
          rfl
    · obtain ⟨cs, a, c⟩ := z
      have hne : a = c := by
        rw [Bool.not_eq_false'] at hc2
        exact of_decide_eq_true hc2
      subst hne
      exact ⟨_, _, _, cs, rfl, WdI.last I⟩
    · subst e
      have wl := wdF_len (p + q) p q hp hq
      refine ssx_one (sx_ret (ex_join (P := fun r => r = .d (.str (wt (word p q)))) ed_str (ed_var 3) fun r e => ⟨cs.map wt, by rw [e]; exact congrArg some (by rw [List.map_map]; rfl), ?_, ?_⟩) fun r e => ⟨r, by rw [e]; rfl, by rw [e]; exact k⟩)
      · rw [sum_wt, ec]
        show (wdF (p + q) p q).length + _ * 0 ≤ _
        omega
      · rw [← ec]
        exact congrArg (fun z => Rs.d (.str z)) (join_wt cs)
theorem c_neighbours (G : G47 K mg) : Cl P w K mg base 2 "neighbours_of" (fun rs Q => ∃ ws : List Bool, rs = [.d (.str (wt ws))] ∧ ws.length ≤ 1000 ∧ Q (.d (.tuple [eSl (nbrs ws).1, eSl (nbrs ws).2]))) := by
  refine cal_data (G.at 23 "neighbours_of" s_neighbours_of) sc_neighbours_of (fun _ _ _ _ _ _ us hl => match us, hl with | [_], _ => rfl) (fun rs Q h => ?_) (by decide) fun f cdv A outer s H E b rs Q as hr hw => ?_
  · obtain ⟨_, rfl, _⟩ := h; rfl
  · obtain ⟨ws, rfl, hl, k⟩ := hw
    show SSX _ _ _ [_, _, _, _] _ _
    have nd := sc_neighbours_of.nd
    refine ssx_cons (sx_asg (d := .tuple [eSl (1, 0), eSl (0, 1)]) (ed_tup (ad_cons (ed_tup (ad_cons ed_int (ad_cons ed_int ad_nil))) (ad_cons (ed_tup (ad_cons ed_int (ad_cons ed_int ad_nil))) ad_nil))) (gx_tup (gsx_cons (gx_name 1 (gsx_cons (gx_name 2 (gsx_nil ?_) nd)) nd))))
    let st : Nat → Slp × Slp := fun i => (ws.take i).foldl nbStep ((1, 0), (0, 1))
    have step : ∀ i r, ws[i]? = some r → st (i + 1) = nbStep (st i) r := fun i r h => by
      show (ws.take (i + 1)).foldl _ _ = _
      rw [List.take_add_one, h, List.foldl_append]
      rfl
    refine ssx_cons (sx_forA ws eWl (ix_cast (ix_str (ed_var 0)) (sgD_wt ws)) (fun i => [.d (.str (wt ws)), .d (eSl (st i).1), .d (eSl (st i).2), .un]) (lo_same (lo_same (lo_same (lo_un lo_nil)))) (fun Hb' i r hi => ?_) ?_ ?_)
    · refine gx_name 3 ?_ nd
      refine ssx_one (sx_ifD (td_eqS (ed_var 3) ed_str) (fun h => ?_) fun h => ?_)
      · have er : r = false := by
          cases r with
          | false => rfl
          | true => exact absurd h (show ¬ decide (wt [true] = ("l" : Str)) = true by decide)
        subst er
        refine ssx_one (sx_setD 2 (ed_c (c_added G) hr (by omega) (ad_cons (ed_var 1) (ad_cons (ed_var 2) ad_nil)) ⟨(st i).1, (st i).2, rfl, rfl⟩) ?_ nd)
        refine lo_same (lo_eq ?_ (lo_eq ?_ (lo_un lo_nil)))
        · rw [step i _ hi]; rfl
        · rw [step i _ hi]; rfl
      · have er : r = true := by
          cases r with
          | true => rfl
          | false => exact absurd h (show ¬ decide (wt [false] = ("l" : Str)) = false by decide)
        subst er
        refine ssx_one (sx_setD 1 (ed_c (c_added G) hr (by omega) (ad_cons (ed_var 1) (ad_cons (ed_var 2) ad_nil)) ⟨(st i).1, (st i).2, rfl, rfl⟩) ?_ nd)
        refine lo_same (lo_eq ?_ (lo_eq ?_ (lo_un lo_nil)))
        · rw [step i _ hi]; rfl
        · rw [step i _ hi]; rfl
    · have e : st ws.length = nbrs ws := by
        show (ws.take ws.length).foldl _ _ = _
        rw [List.take_length]
        rfl
      rw [e]
      exact ssx_one (sx_retD (ed_tup (ad_cons (ed_var 1) (ad_cons (ed_var 2) ad_nil))) k)
    · intro p hp
      simp [brs] at hp
end
end K47
set_option Elab.async false
set_option linter.all false
set_option maxRecDepth 100000
set_option maxHeartbeats 2000000
namespace K47
open PySem PySem.Spec PyProof.Rows L2
/-! ### rows -/
theorem along_take {t : Tb} {l : Lab} {ls : List Bool} {i : Nat} {u : Bool} (h : ls[i]? = some u) : along t l (ls.take (i + 1)) = go t (along t l (ls.take i)) u := by
  rw [List.take_add_one, h, along_app]
  rfl
theorem rot_cons {a : Lab} {as : List Lab} : rot (a :: as) = (a :: as).drop (ixA (minA eL a as) (a :: as)) ++ (a :: as).take (ixA (minA eL a as) (a :: as)) := rfl
theorem cut_drop {α : Type} (xs : List α) {i : Nat} (h : i ≤ xs.length) : cutD xs (some (i : Int)) none = xs.drop i := by
  unfold cutD
  rw [HT.sIx_none, HT.sIx_nat, Nat.min_eq_left h, List.take_of_length_le (by rw [List.length_drop]; omega)]
theorem cut_take {α : Type} (xs : List α) (i : Nat) : cutD xs none (some (i : Int)) = xs.take i := by
  unfold cutD
  rw [HT.sIx_none, HT.sIx_nat, List.drop_zero, Nat.sub_zero]
  rcases Nat.lt_or_ge i xs.length with c | c
  · rw [Nat.min_eq_left (by omega)]
  · rw [Nat.min_eq_right c, List.take_length, List.take_of_length_le c]
section
variable {P : Program} {w : World} {K : PySem.W.Frag} {mg : Str → Option Value} {base : Heap}
theorem c_along (G : G47 K mg) : Cl P w K mg base 6 "along" (fun rs Q => ∃ t l ls, rs = [.d (eT t), .d (eL l), .d (.str (tx ls))] ∧ TbOk t ∧ LabOk t l ∧ Q (.d (eL (along t l ls)))) := by
  refine cal_data (G.at 24 "along" s_along) sc_along (fun _ _ _ _ _ _ us hl => match us, hl with | [_, _, _], _ => rfl) (fun rs Q h => ?_) (by decide) fun f cdv A outer s H E b rs Q as hr hw => ?_
  · obtain ⟨_, _, _, rfl, _⟩ := h; rfl
  · obtain ⟨t, l, ls, rfl, ok, hl, k⟩ := hw
    show SSX _ _ _ [_, _, _, _] _ _
    have nd := sc_along.nd
    refine ssx_cons (sx_forA ls eU (ix_cast (ix_str (ed_var 2)) (sgD_tx ls)) (fun i => [.d (eT t), .d (eL (along t l (ls.take i))), .d (.str (tx ls)), .un]) (lo_same (lo_same (lo_same (lo_un lo_nil)))) (fun Hb' i u hi => ?_) ?_ ?_)
    · refine gx_name 3 ?_ nd
      have la := along_ok (ls := ls.take i) ok hl
      refine ssx_one (sx_setD 1 (d := eL (go t (along t l (ls.take i)) u)) (ed_if (td_eqS (ed_var 3) ed_str) (fun h => ?_) fun h => ?_) ?_ nd)
      · have er : u = false := by
          cases u with
          | false => rfl
          | true => exact absurd h (show ¬ decide (tx [true] = ("s" : Str)) = true by decide)
        subst er
        exact ed_c (c_sideways G) hr (by omega) (ad_cons (ed_var 0) (ad_cons (ed_var 1) ad_nil)) ⟨t, _, rfl, ok, la, rfl⟩
      · have er : u = true := by
          cases u with
          | true => rfl
          | false => exact absurd h (show ¬ decide (tx [false] = ("s" : Str)) = false by decide)
        subst er
        exact ed_c (c_up G) hr (by omega) (ad_cons (ed_var 0) (ad_cons (ed_var 1) ad_nil)) ⟨t, _, rfl, ok, la, rfl⟩
      · rw [← along_take hi]
        exact lo_same (lo_same (lo_same (lo_un lo_nil)))
    · rw [List.take_length]
      exact ssx_one (sx_retD (ed_var 1) k)
    · intro p hp
      simp [brs] at hp
theorem c_rowBy (G : G47 K mg) : Cl P w K mg base 7 "row_by" (fun rs Q => ∃ t l ls, rs = [.d (eT t), .d (eL l), .d (.str (tx ls))] ∧ TbOk t ∧ LabOk t l ∧ Q (.d (eRow (rowOf t l ls)))) := by
  refine cal_data (G.at 25 "row_by" s_row_by) sc_row_by (fun _ _ _ _ _ _ us hl => match us, hl with | [_, _, _], _ => rfl) (fun rs Q h => ?_) (by decide) fun f cdv A outer s H E b rs Q as hr hw => ?_
  · obtain ⟨_, _, _, rfl, _⟩ := h; rfl
  · obtain ⟨t, l, ls, rfl, ok, hl, k⟩ := hw
    show SSX _ _ _ [_, _, _, _, _, _] _ _
    have nd := sc_row_by.nd
    have hu := room65 hr
    have M := along_map ok ls
    obtain ⟨n, pn⟩ := M.per ok hl
    have k' : Q (.d (eRow (rot (orb (fun l => along t l ls) l n)))) := by
      unfold rowOf at k
      rw [per_of pn] at k
      exact k
    refine ssx_cons (sx_par 3 4 rfl (ad_cons (ed_lst (ad_cons (ed_var 1) ad_nil)) (ad_cons (ed_c (c_along G) hr (by omega) (ad_cons (ed_var 0) (ad_cons (ed_var 1) (ad_cons (ed_var 2) ad_nil))) ⟨t, l, ls, rfl, ok, hl, rfl⟩) ad_nil)) (fun rs e => ⟨_, _, _, _, e, rfl, rfl, ?_⟩) nd)
    refine ssx_cut (fun Δ' => ∃ s4 s5, Δ' = [.d (eT t), .d (eL l), .d (.str (tx ls)), .ow ((orb (fun l => along t l ls) l n).map eL), s4, s5])
      (sx_whileA (fun z : Nat => [.d (eT t), .d (eL l), .d (.str (tx ls)), .ow ((orb (fun l => along t l ls) l z).map eL), .d (eL (it (fun l => along t l ls) z l)), .un]) (fun z => 1 ≤ z ∧ z ≤ n) (fun z => n - z) 1 ⟨Nat.le_refl _, pn.p1⟩ (lo_same (lo_same (lo_same (lo_same (lo_same (lo_same lo_nil)))))) fun z I => ⟨!decide (it (fun l => along t l ls) z l = l), ?_, fun hc2 => ?_, fun hc2 => ?_⟩) fun Δ' ⟨s4, s5, e⟩ => ?_
    · exact td_neA hu enc_L (ed_var 4) (ed_var 1)
    · obtain ⟨z1, z2⟩ := I
      rw [Bool.not_eq_true'] at hc2
      have hz : z < n := by
        rcases Nat.lt_or_ge z n with c | c
        · exact c
        · have e : z = n := by omega
          subst e
          exact absurd pn.back (of_decide_eq_false hc2)
      have e1 : orb (fun l => along t l ls) l (z + 1) = orb (fun l => along t l ls) l z ++ [it (fun l => along t l ls) z l] := by
        unfold orb
        rw [List.range_succ, List.map_append]
        rfl
      have p64 := pn.p64
      refine ssx_cons (sx_append 3 (ed_var 4) fun r e => ⟨_, e, ?_, ?_⟩)
      · rw [List.length_map, orb_len, sizeLine_eq]
        omega
      · refine ssx_one (sx_setD 4 (ed_c (c_along G) hr (by omega) (ad_cons (ed_var 0) (ad_cons (ed_var 4) (ad_cons (ed_var 2) ad_nil))) ⟨t, _, ls, rfl, ok, M.it hl z, rfl⟩) ?_ nd)
        refine ⟨z + 1, ⟨by omega, hz⟩, by omega, lo_same (lo_same (lo_same (lo_eq ?_ (lo_eq rfl (lo_un lo_nil)))))⟩
        rw [e1, List.map_append]
        rfl
    · obtain ⟨z1, z2⟩ := I
      rw [Bool.not_eq_false'] at hc2
      have hz : z = n := by
        rcases Nat.lt_or_ge z n with c | c
        · exact absurd (of_decide_eq_true hc2) (pn.min_ z z1 c)
        · omega
      subst hz
      exact ⟨_, _, rfl⟩
    · subst e
      obtain ⟨as, ea⟩ : ∃ as, orb (fun l => along t l ls) l n = l :: as := by
        have p1 := pn.p1
        obtain ⟨m, rfl⟩ : ∃ m, n = m + 1 := ⟨n - 1, by omega⟩
        unfold orb
        rw [List.range_succ_eq_map, List.map_cons]
        exact ⟨_, rfl⟩
      have len := orb_len (fun l => along t l ls) l n
      have p64 := pn.p64
      rw [ea] at k' len ⊢
      have hm := minA_mem eL as l
      have hix := ixA_lt hm
      rw [rot_cons] at k'
      refine ssx_cons (sx_setD 5 (ed_ixOfL hu enc_L (k := minA eL l as) (ks := l :: as) (ed_var 3) (ed_min hu G.min enc_L (ed_var 3) (so_L _)) hm) ?_ nd)
      refine ssx_one (sx_retD (ed_tupleL G.tuple (r := .fr (((l :: as).drop (ixA (minA eL l as) (l :: as)) ++ (l :: as).take (ixA (minA eL l as) (l :: as))).map eL)) ((ed_cat (xs := cutD ((l :: as).map eL) (some (ixA (minA eL l as) (l :: as) : Int)) none) (ys := cutD ((l :: as).map eL) none (some (ixA (minA eL l as) (l :: as) : Int))) (ed_slL (ed_var 3) (po_yes (ed_var 5)) po_no) (ed_slL (ed_var 3) po_no (po_yes (ed_var 5))) ?_).cast ?_)) k')
      · rw [cut_drop _ (by rw [List.length_map]; omega), cut_take, List.length_drop, List.length_take, List.length_map]
        omega
      · rw [cut_drop _ (by rw [List.length_map]; omega), cut_take, List.map_append, List.map_drop, List.map_take]
theorem c_rowOf (G : G47 K mg) : Cl P w K mg base 8 "row_of" (fun rs Q => ∃ t l s, rs = [.d (eT t), .d (eL l), .d (eSl s)] ∧ TbOk t ∧ LabOk t l ∧ SlpOk s ∧ Q (.d (eRow (rowOf t l (turn s))))) := by
  refine cal_data (G.at 26 "row_of" s_row_of) sc_row_of (fun _ _ _ _ _ _ us hl => match us, hl with | [_, _, _], _ => rfl) (fun rs Q h => ?_) (by decide) fun f cdv A outer s H E b rs Q as hr hw => ?_
  · obtain ⟨_, _, _, rfl, _⟩ := h; rfl
  · obtain ⟨t, l, s, rfl, ok, hl, so, k⟩ := hw
    show SSX _ _ _ [_, _, _] _ _
    refine ssx_one (sx_retD (ed_c (c_rowBy G) hr (by omega) (ad_cons (ed_var 0) (ad_cons (ed_var 1) (ad_cons ((ed_addS (x := tx (cross s.1 s.2)) (y := tx [true, false]) (ed_c (c_crossings G) hr (by omega) (ad_cons (ed_var 2) ad_nil) ⟨s, rfl, so.p, so.q, so.le, rfl⟩) ed_str ?_).cast (congrArg (fun z => Rs.d (.str z)) (tx_app _ _))) ad_nil))) ⟨t, l, turn s, rfl, ok, hl, rfl⟩) k)
    rw [tx_len, tx_len, sizeLine_eq]
    have := cross_len s.1 s.2
    have := so.le
    show _ + 2 ≤ _
    omega
theorem c_wayOver (G : G47 K mg) : Cl P w K mg base 3 "way_over" (fun rs Q => ∃ s, rs = [.d (eSl s)] ∧ SlpOk s ∧ Q (.d (.str (tx (over s))))) := by
  refine cal_data (G.at 27 "way_over" s_way_over) sc_way_over (fun _ _ _ _ _ _ us hl => match us, hl with | [_], _ => rfl) (fun rs Q h => ?_) (by decide) fun f cdv A outer s H E b rs Q as hr hw => ?_
  · obtain ⟨_, rfl, _⟩ := h; rfl
  · obtain ⟨s, rfl, so, k⟩ := hw
    show SSX _ _ _ [_, _] _ _
    have nd := sc_way_over.nd
    have hu := room65 hr
    have wl := so.wd
    refine ssx_cons (sx_setD 1 (d := eSl (highOf s)) (ed_ixT (ed_c (c_neighbours G) hr (by omega) (ad_cons (ed_c (c_word G) hr (by omega) (ad_cons (ed_var 0) ad_nil) ⟨s, rfl, so.p, so.q, so.le, rfl⟩) ad_nil) ⟨word s.1 s.2, rfl, by omega, rfl⟩) ed_int rfl) ?_ nd)
    refine ssx_one (sx_retD (x := .str (tx (over s))) (ed_if (td_eqA hu enc_Sl (x := highOf s) (y := (0, 1)) (ed_var 1) (ed_tup (ad_cons ed_int (ad_cons ed_int ad_nil)))) (fun h => ?_) fun h => ?_) k)
    · have e : over s = [true] := if_pos (of_decide_eq_true h)
      rw [e]
      exact ed_str
    · have e : over s = cross (highOf s).1 (highOf s).2 ++ [false, true] := if_neg (of_decide_eq_false h)
      rw [e]
      rcases so.hi with z | ⟨h1, h2, h3⟩
      · exact absurd z (of_decide_eq_false h)
      · exact ed_c (c_straight G) hr (by omega) (ad_cons (ed_var 1) ad_nil) ⟨highOf s, rfl, h1, h2, h3, rfl⟩
def corOf (l : Lab) : Cor := (l.1, l.2.1, l.2.2.1)
/-- the line above a row -/
def lineOf (t : Tb) (s : Slp) (row : List Lab) : List Lab := row.map fun l => along t l (over s)
/-- what row_above answers -/
noncomputable def aboveOf (t : Tb) (s : Slp) (row : List Lab) : Option (List Lab) := if (lineOf t s row).all (fun l => freeB t (corOf l)) = true then some (rowOf t ((lineOf t s row).getD 0 (0, 0, 0, 0)) (turn s)) else none
def eOr : Option (List Lab) → PyData
  | none => .none
  | some r => eRow r
theorem c_above (G : G47 K mg) : Cl P w K mg base 9 "row_above" (fun rs Q => ∃ t s row, rs = [.d (eT t), .d (eSl s), .d (eRow row)] ∧ TbOk t ∧ SlpOk s ∧ row ≠ [] ∧ row.length ≤ 64 ∧ (∀ l ∈ row, LabOk t l) ∧ Q (.d (eOr (aboveOf t s row)))) := by
  refine cal_data (G.at 28 "row_above" s_row_above) sc_row_above (fun _ _ _ _ _ _ us hl => match us, hl with | [_, _, _], _ => rfl) (fun rs Q h => ?_) (by decide) fun f cdv A outer s H E b rs Q as hr hw => ?_
  · obtain ⟨_, _, _, rfl, _⟩ := h; rfl
  · obtain ⟨t, s, row, rfl, ok, so, hne, h64, hrow, k⟩ := hw
    show SSX _ _ _ [_, _, _, _, _, _] _ _
    have nd := sc_row_above.nd
    have hl : ∀ l ∈ lineOf t s row, LabOk t l := fun l h => by
      obtain ⟨x, hx, rfl⟩ := List.mem_map.mp h
      exact along_ok ok (hrow x hx)
    have lle : (lineOf t s row).length ≤ 64 := by unfold lineOf; rw [List.length_map]; exact h64
    refine ssx_cons (sx_setD 3 (ed_c (c_wayOver G) hr (by omega) (ad_cons (ed_var 1) ad_nil) ⟨s, rfl, so, rfl⟩) ?_ nd)
    refine ssx_cons (sx_setLcD 4 5 row eL (fun _ => true) (fun l => eL (along t l (over s))) (ix_tup (ed_var 2)) (fun s' H' C cl fp a ha => tsx_nil rfl) (fun s' H' C cl fp a ha pa => ?_) (by omega) ?_ ?_ nd ?_ ?_)
    · exact ed_c (c_along G) hr (by omega) (ad_cons (ed_var 0) (ad_cons (ed_var 5) (ad_cons (ed_var 3) ad_nil))) ⟨t, a, over s, rfl, ok, hrow a ha, rfl⟩
    · have e1 : ((row.filter fun _ => true).map fun l => eL (along t l (over s))) = (lineOf t s row).map eL := by
        rw [List.filter_eq_self.mpr fun _ _ => rfl]
        unfold lineOf
        rw [List.map_map]
        rfl
      rw [e1]
      have hu := room65 hr
      have k2 : ∀ z, aboveOf t s row = z → Q (.d (eOr z)) := fun z e => by rw [← e]; exact k
      unfold aboveOf at k2
      refine ssx_cons (sx_ifD (c := !(lineOf t s row).all fun l => freeB t (corOf l)) (td_not (td_val ((ed_all (r := .fr (((lineOf t s row).map fun l => freeB t (corOf l)).map PyData.bool)) (ys := (lineOf t s row).map fun l => freeB t (corOf l)) G.all ((ed_lc 5 (lineOf t s row) eL (fun _ => true) (fun l => .bool (freeB t (corOf l))) (ix_slot 4) (fun s' H' C cl fp a ha => tsx_nil rfl) (fun s' H' C cl fp a ha pa => ?_) (by omega) ?_ nd ?_).cast ?_)).cast ?_))) (fun h => ?_) fun h => ssx_nil ?_)
      · exact ed_c (c_isFree G) hr (by omega) (ad_cons (ed_var 0) (ad_cons (ed_slT (ds := [.int a.1, .int a.2.1, .int a.2.2.1, .int a.2.2.2]) (l := none) (h := some 3) (ed_var 5) po_no (po_yes ed_int)) ad_nil)) ⟨t, corOf a, rfl, ok, ⟨(hl a ha).c, (hl a ha).x, (hl a ha).y⟩, rfl⟩
      · refine bk_row_above _ _ ?_
        decide +kernel
      · exact fun s' H' C cl fp => pg_name nd rfl (Or.inl rfl) (.inr rfl)
      · rw [List.filter_eq_self.mpr fun _ _ => rfl, List.map_map]
        rfl
      · rw [List.all_map]
        rfl
      · rw [Bool.not_eq_true'] at h
        exact ssx_one (sx_retD ed_non (k2 none (if_neg (by rw [h]; exact Bool.false_ne_true))))
      · rw [Bool.not_eq_false'] at h
        have h0 : 0 < (lineOf t s row).length := by
          unfold lineOf
          rw [List.length_map]
          exact List.length_pos_iff.mpr hne
        have l0 : LabOk t ((lineOf t s row).getD 0 (0, 0, 0, 0)) := by
          rw [List.getD_eq_getElem?_getD, List.getElem?_eq_getElem h0]
          exact hl _ (List.getElem_mem h0)
        exact ssx_one (sx_retD (ed_c (c_rowOf G) hr (by omega) (ad_cons (ed_var 0) (ad_cons (ed_ixL (ed_var 4) ed_int (atI_get (i := 0) (d := (0, 0, 0, 0)) h0)) (ad_cons (ed_var 1) ad_nil))) ⟨t, _, s, rfl, ok, l0, so, rfl⟩) (k2 _ (if_pos h)))
    · refine bk_row_above _ _ ?_
      decide +kernel
    · exact fun s' H' C cl fp => pg_name nd rfl (Or.inl rfl) (.inr rfl)
    · rfl
end
end K47
set_option Elab.async false
set_option linter.all false
set_option maxRecDepth 100000
set_option maxHeartbeats 2000000
namespace K47
open PySem PySem.Spec PyProof.Rows L2
/-! ### the law's own tables, corners, points -/
def four (c : Nat) : List Cor := [(c, 0, 0), (c, 0, 1), (c, 1, 0), (c, 1, 1)]
def cornersL (n : Nat) : List Cor := ((List.range n).map four).flatten
theorem cornersL_succ (n : Nat) : cornersL (n + 1) = cornersL n ++ four n := by
  unfold cornersL
  rw [List.range_succ, List.map_append, List.flatten_append]
  simp
theorem cornersL_len (n : Nat) : (cornersL n).length = 4 * n := by
  induction n with
  | zero => rfl
  | succ n ih => rw [cornersL_succ, List.length_append, ih]; simp [four]; omega
theorem mem_four {n : Nat} {c : Cor} : c ∈ four n ↔ c.1 = n ∧ c.2.1 < 2 ∧ c.2.2 < 2 := by
  obtain ⟨a, x, y⟩ := c
  simp only [four, List.mem_cons, Prod.mk.injEq, List.not_mem_nil, or_false]
  omega
theorem mem_cornersL {n : Nat} {c : Cor} : c ∈ cornersL n ↔ c.1 < n ∧ c.2.1 < 2 ∧ c.2.2 < 2 := by
  unfold cornersL
  rw [List.mem_flatten]
  constructor
  · rintro ⟨l, h1, h2⟩
    obtain ⟨k, hk, rfl⟩ := List.mem_map.mp h1
    obtain ⟨e, h3⟩ := mem_four.mp h2
    rw [e]
    exact ⟨List.mem_range.mp hk, h3⟩
  · rintro ⟨h1, h2⟩
    exact ⟨_, List.mem_map.mpr ⟨c.1, List.mem_range.mpr h1, rfl⟩, mem_four.mpr ⟨rfl, h2⟩⟩
theorem cornersL_ok {t : Tb} {c : Cor} : c ∈ cornersL t.size ↔ CorOk t c := by
  rw [mem_cornersL]
  exact ⟨fun ⟨a, b, c⟩ => ⟨a, b, c⟩, fun ⟨a, b, c⟩ => ⟨a, b, c⟩⟩
def labelsL (t : Tb) : List Lab := labs t (cornersL t.size)
theorem labelsL_ok {t : Tb} {l : Lab} : l ∈ labelsL t ↔ LabOk t l := by
  unfold labelsL
  rw [mem_labs, cornersL_ok]
  exact ⟨fun ⟨a, b⟩ => ⟨a.c, a.x, a.y, b⟩, fun h => ⟨⟨h.c, h.x, h.y⟩, h.m⟩⟩
section
variable {P : Program} {w : World} {K : PySem.W.Frag} {mg : Str → Option Value} {base : Heap}
theorem b_corners (G : G47 K mg) : Cl P w K mg base 1 "_law_corners" (fun rs Q => ∃ t : Tb, rs = [.d (eT t)] ∧ t.size ≤ 4 ∧ Q (.fr ((cornersL t.size).map eC))) := by
  refine cal_data (G.at 41 "_law_corners" s_Lcorners) sc_Lcorners (fun _ _ _ _ _ _ us hl => match us, hl with | [_], _ => rfl) (fun rs Q h => ?_) (by decide) fun f cdv A outer s H E b rs Q as hr hw => ?_
  · obtain ⟨_, rfl, _⟩ := h; rfl
  · obtain ⟨t, rfl, hn, k⟩ := hw
    show SSX _ _ _ [_, _, _] _ _
    have nd := sc_Lcorners.nd
    refine ssx_cons (sx_setF 1 (xs := (cornersL 0).map eC) (ed_lst ad_nil) ?_ nd)
    refine ssx_cons (sx_forA (List.range t.size) eI (ix_rangeN (n := t.size) rfl G.range (ed_ixT (ed_var 0) ed_int rfl) (by omega)) (fun i => [.d (eT t), .ow ((cornersL i).map eC), .un]) (lo_same (lo_same (lo_un lo_nil))) (fun Hb' i a hi => ?_) ?_ ?_)
    · obtain ⟨e, hlt⟩ := rg_get hi
      subst e
      refine gx_name 2 ?_ nd
      refine ssx_one (sx_extend 1 (ed_lst (ad_cons (ed_tup (ad_cons (ed_var 2) (ad_cons ed_int (ad_cons ed_int ad_nil)))) (ad_cons (ed_tup (ad_cons (ed_var 2) (ad_cons ed_int (ad_cons ed_int ad_nil)))) (ad_cons (ed_tup (ad_cons (ed_var 2) (ad_cons ed_int (ad_cons ed_int ad_nil)))) (ad_cons (ed_tup (ad_cons (ed_var 2) (ad_cons ed_int (ad_cons ed_int ad_nil)))) ad_nil))))) fun z e => ⟨_, e, ?_, ?_⟩)
      · rw [List.length_map, cornersL_len]
        show _ + 4 ≤ 1000
        omega
      · refine lo_same (lo_eq ?_ (lo_un lo_nil))
        rw [cornersL_succ, List.map_append]
        rfl
    · rw [List.length_range]
      exact ssx_one (sx_retO (ed_var 1) k)
    · intro p hp
      simp [brs] at hp
theorem b_beside (G : G47 K mg) : Cl P w K mg base 1 "_law_beside" (fun rs Q => ∃ t c, rs = [.d (eT t), .d (eC c)] ∧ TbOk t ∧ CorOk t c ∧ Q (.fr ((nbT t c).map eC))) := by
  refine cal_data (G.at 42 "_law_beside" s_Lbeside) sc_Lbeside (fun _ _ _ _ _ _ us hl => match us, hl with | [_, _], _ => rfl) (fun rs Q h => ?_) (by decide) fun f cdv A outer s H E b rs Q as hr hw => ?_
  · obtain ⟨_, _, rfl, _⟩ := h; rfl
  · obtain ⟨t, ⟨c, x, y⟩, rfl, ok, hcc, k⟩ := hw
    show SSX _ _ _ [_, _, _, _, _, _, _, _] _ _
    have hu := room65 hr
    have nd := sc_Lbeside.nd
    have hc1 : c < t.rights.length := by rw [ok.r.len]; exact hcc.c
    have hc2 : c < t.ups.length := by rw [ok.u.len]; exact hcc.c
    refine ssx_cons (sx_asg (d := eC (c, x, y)) (ed_var 1) (gx_tup (gsx_cons (gx_name 2 (gsx_cons (gx_name 3 (gsx_cons (gx_name 4 (gsx_nil ?_) nd)) nd)) nd))))
    refine ssx_cons (sx_par 5 6 rfl (ad_cons (ed_ixT (d := eO (t.rights.getD c none)) (ed_ixT (ed_var 0) ed_int rfl) (ed_var 2) (atI_get hc1)) (ad_cons (ed_ixT (d := eO (t.ups.getD c none)) (ed_ixT (ed_var 0) ed_int rfl) (ed_var 2) (atI_get hc2)) ad_nil)) (fun rs e => ⟨_, _, _, _, e, rfl, rfl, ?_⟩) nd)
    refine ssx_cons (sx_setF 7 (xs := ([] : List Cor).map eC) (ed_lst ad_nil) ?_ nd)
    let base8 : List Cor → List Sl := fun z => [.d (eT t), .d (eC (c, x, y)), .d (.int c), .d (.int x), .d (.int y), .d (eO (t.rights.getD c none)), .d (eO (t.ups.getD c none)), .ow (z.map eC)]
    refine ssx_cut (fun Δ' => Δ' = base8 (nbA t.rights c x (fun r => (r, 0, y)))) (sx_ifD (td_and (td_eqI (ed_var 3) ed_int) fun _ => td_notO (ed_var 5)) (fun h => ?_) fun h => ?_) fun Δ' e => ?_
    · obtain ⟨h1, h2⟩ := and_t h
      obtain ⟨r, q⟩ := Option.isSome_iff_exists.mp h2
      have q' : t.rights.getD c none = some r := q
      show SSX _ _ _ _ _ _
      rw [nbA_yes (dec1 (n := 1) h1) q']
      refine ssx_one (sx_append 7 (ed_tup (ad_cons ((ed_var 5).cast (r' := .d (.int (r : Nat))) (by show Rs.d (eO _) = _; rw [q']; rfl)) (ad_cons ed_int (ad_cons (ed_var 4) ad_nil)))) fun z e => ⟨_, e, ?_, rfl⟩)
      rw [sizeLine_eq]
      exact Nat.zero_lt_succ _
    · rw [nbA_no h]
      exact ssx_nil rfl
    subst e
    refine ssx_cut (fun Δ' => Δ' = base8 (nbA t.rights c x (fun r => (r, 0, y)) ++ nbB t.rights c x (fun r => (r, 1, y)))) (sx_ifD (td_and (td_eqI (ed_var 3) ed_int) fun _ => td_inT hu enc_O (x := some c) (ys := t.rights) (ed_var 2) (ed_ixT (ed_var 0) ed_int rfl)) (fun h => ?_) fun h => ?_) fun Δ' e => ?_
    · obtain ⟨h1, h2⟩ := and_t h
      rw [nbB_yes (dec1 (n := 0) h1) h2]
      refine ssx_one (sx_append 7 (ed_tup (ad_cons (ed_ixOfT hu enc_O (k := some c) (ks := t.rights) (ed_ixT (ed_var 0) ed_int rfl) (ed_var 2) (memA_iff.mp h2)) (ad_cons ed_int (ad_cons (ed_var 4) ad_nil)))) fun z e => ⟨_, e, ?_, ?_⟩)
      · rw [List.length_map]
        exact Nat.lt_of_le_of_lt nbA_len (by rw [sizeLine_eq]; omega)
      · show _ = base8 _
        show _ = [_, _, _, _, _, _, _, _]
        rw [List.map_append]
        rfl
    · rw [nbB_no h, List.append_nil]
      exact ssx_nil rfl
    subst e
    refine ssx_cut (fun Δ' => Δ' = base8 ((nbA t.rights c x (fun r => (r, 0, y)) ++ nbB t.rights c x (fun r => (r, 1, y))) ++ nbA t.ups c y (fun r => (r, x, 0)))) (sx_ifD (td_and (td_eqI (ed_var 4) ed_int) fun _ => td_notO (ed_var 6)) (fun h => ?_) fun h => ?_) fun Δ' e => ?_
    · obtain ⟨h1, h2⟩ := and_t h
      obtain ⟨r, q⟩ := Option.isSome_iff_exists.mp h2
      have q' : t.ups.getD c none = some r := q
      rw [nbA_yes (dec1 (n := 1) h1) q']
      refine ssx_one (sx_append 7 (ed_tup (ad_cons ((ed_var 6).cast (r' := .d (.int (r : Nat))) (by show Rs.d (eO _) = _; rw [q']; rfl)) (ad_cons (ed_var 3) (ad_cons ed_int ad_nil)))) fun z e => ⟨_, e, ?_, ?_⟩)
      · have h3 := nbA_len (row := t.rights) (c := c) (s := x) (mk := fun r => (r, 0, y))
        have h4 := nbB_len (row := t.rights) (c := c) (s := x) (mk := fun r => (r, 1, y))
        rw [List.length_map, List.length_append, sizeLine_eq]
        omega
      · show _ = [_, _, _, _, _, _, _, _]
        rw [List.map_append (l₂ := [_])]
        rfl
    · rw [nbA_no h, List.append_nil]
      exact ssx_nil rfl
    subst e
    refine ssx_cut (fun Δ' => Δ' = base8 (nbT t (c, x, y))) (sx_ifD (td_and (td_eqI (ed_var 4) ed_int) fun _ => td_inT hu enc_O (x := some c) (ys := t.ups) (ed_var 2) (ed_ixT (ed_var 0) ed_int rfl)) (fun h => ?_) fun h => ?_) fun Δ' e => ?_
    · obtain ⟨h1, h2⟩ := and_t h
      have e2 : nbT t (c, x, y) = ((nbA t.rights c x (fun r => (r, 0, y)) ++ nbB t.rights c x (fun r => (r, 1, y))) ++ nbA t.ups c y (fun r => (r, x, 0))) ++ [(ixA (some c) t.ups, x, 1)] := by
        show _ ++ nbB t.ups c y (fun r => (r, x, 1)) = _
        rw [nbB_yes (dec1 (n := 0) h1) h2]
      refine ssx_one (sx_append 7 (ed_tup (ad_cons (ed_ixOfT hu enc_O (k := some c) (ks := t.ups) (ed_ixT (ed_var 0) ed_int rfl) (ed_var 2) (memA_iff.mp h2)) (ad_cons (ed_var 3) (ad_cons ed_int ad_nil)))) fun z e => ⟨_, e, ?_, ?_⟩)
      · have h3 := nbA_len (row := t.rights) (c := c) (s := x) (mk := fun r => (r, 0, y))
        have h4 := nbB_len (row := t.rights) (c := c) (s := x) (mk := fun r => (r, 1, y))
        have h5 := nbA_len (row := t.ups) (c := c) (s := y) (mk := fun r => (r, x, 0))
        rw [List.length_map, List.length_append, List.length_append, sizeLine_eq]
        omega
      · rw [e2]
        show _ = [_, _, _, _, _, _, _, _]
        rw [List.map_append (l₂ := [_])]
        rfl
    · have e2 : nbT t (c, x, y) = (nbA t.rights c x (fun r => (r, 0, y)) ++ nbB t.rights c x (fun r => (r, 1, y))) ++ nbA t.ups c y (fun r => (r, x, 0)) := by
        show _ ++ nbB t.ups c y (fun r => (r, x, 1)) = _
        rw [nbB_no h, List.append_nil]
      rw [e2]
      exact ssx_nil rfl
    subst e
    exact ssx_one (sx_retO (ed_var 7) k)
end
end K47
set_option Elab.async false
set_option linter.all false
set_option maxRecDepth 100000
set_option maxHeartbeats 2000000
namespace K47
open PySem PySem.Spec PyProof.Rows L2
open Classical in
/-- THE point of a corner -/
noncomputable def ptL (t : Tb) (c : Cor) : List Cor := if h : ∃ pts, PtOf t c pts then srt eC h.choose else []
theorem ptOf_perm {t : Tb} {c : Cor} {p q : List Cor} (h : PtOf t c p) (k : PtOf t c q) : p.Perm q := (List.perm_ext_iff_of_nodup h.nd k.nd).mpr fun d => by rw [h.re, k.re]
theorem ptL_eq {t : Tb} {c : Cor} {p : List Cor} (h : PtOf t c p) : srt eC p = ptL t c := by
  have ex : ∃ pts, PtOf t c pts := ⟨p, h⟩
  unfold ptL
  rw [dif_pos ex]
  exact srt_same enc_C (ptOf_perm h ex.choose_spec) fun a _ b _ => al_C a b
theorem ptOf_srt {t : Tb} {c : Cor} {p : List Cor} (h : PtOf t c p) : PtOf t c (srt eC p) := ⟨(srt_perm p).nodup_iff.mpr h.nd, fun d => by rw [(srt_perm p).mem_iff]; exact h.re d⟩
theorem cornersL_nodup : ∀ n, (cornersL n).Nodup
  | 0 => List.nodup_nil
  | n + 1 => by
    rw [cornersL_succ]
    refine List.nodup_append.mpr ⟨cornersL_nodup n, by simp [four], fun a ha b hb e => ?_⟩
    subst e
    have h1 := (mem_cornersL.mp ha).1
    have h2 := (mem_four.mp hb).1
    omega
open Classical in
theorem pt_ok {t : Tb} (ok : TbOk t) {c : Cor} (hc : CorOk t c) : PtOf t c (ptL t c) := by
  have h : PtOf t c ((cornersL t.size).filter fun d => decide (Reach t c d)) := ⟨(cornersL_nodup _).filter _, fun d => by
    rw [List.mem_filter, decide_eq_true_iff, cornersL_ok]
    exact ⟨fun z => z.2, fun z => ⟨z.ok ok hc, z⟩⟩⟩
  rw [← ptL_eq h]
  exact ptOf_srt h
theorem mem_srt {α : Type} {enc : α → PyData} {bs : List α} {x : α} : x ∈ srt enc bs ↔ x ∈ bs := (srt_perm bs).mem_iff
section
variable {P : Program} {w : World} {K : PySem.W.Frag} {mg : Str → Option Value} {base : Heap}
theorem b_pointOf (G : G47 K mg) : Cl P w K mg base 2 "_law_point_of" (fun rs Q => ∃ t c, rs = [.d (eT t), .d (eC c)] ∧ TbOk t ∧ CorOk t c ∧ Q (.d (ePt (ptL t c)))) := by
  refine cal_data (G.at 43 "_law_point_of" s_Lpoint_of) sc_Lpoint_of (fun _ _ _ _ _ _ us hl => match us, hl with | [_, _], _ => rfl) (fun rs Q h => ?_) (by decide) fun f cdv A outer s H E b rs Q as hr hw => ?_
  · obtain ⟨_, _, rfl, _⟩ := h; rfl
  · obtain ⟨t, c, rfl, ok, hc, k⟩ := hw
    show SSX _ _ _ [_, _, _, _, _] _ _
    have hu := room65 hr
    have nd := sc_Lpoint_of.nd
    refine ssx_cons (sx_parC 2 3 (ad_cons (ed_lst (ad_cons (ed_var 1) ad_nil)) (ad_cons ed_int ad_nil)) (fun rs e => ⟨_, _, _, _, e, rfl, rfl, ?_⟩) nd)
    refine ssx_cut (fun Δ' => ∃ s4 s5, Δ' = [.d (eT t), .d (eC c), .ow (s4.map eC), s5, .un] ∧ PtOf t c s4)
      (sx_whileA (fun p : List Cor × Nat => [.d (eT t), .d (eC c), .ow (p.1.map eC), .d (.int p.2), .un]) (fun p => Bfs t c p.1 p.2) (fun p => 16 - p.2) ([c], 0) (Bfs.first t c) (lo_same (lo_same (lo_same (lo_same (lo_same lo_nil))))) fun p B => ⟨decide (p.2 < p.1.length), ?_, fun hc2 => ?_, fun hc2 => ?_⟩) fun Δ' ⟨s4, s5, e, pt⟩ => ?_
    · refine (td_lt (ed_var 3) (ed_lenL G.len (ed_var 2))).cast ?_
      rw [List.length_map]
      exact natlt
    · obtain ⟨found, n⟩ := p
      have hl : n < found.length := of_decide_eq_true hc2
      have few : found.length ≤ 16 := B.few ok hc
      have hd : found[n]? = some found[n] := List.getElem?_eq_getElem hl
      generalize found[n] = d at hd
      have dok := (B.re d (List.mem_of_getElem? hd)).ok ok hc
      have new : (srt eC (nub (nbT t d))).Perm (nbT t d) := by
        rw [nub_same (nb_nodup t d)]
        exact srt_perm _
      have h1 : (nbT t d).length ≤ 4 := nb_len t.rights t.ups d
      refine ssx_cons (sx_extend 2 (P := fun z => z = .fr (((srt eC (nub (nbT t d))).filter fun o => !memA o found).map eC)) (ed_lc 4 (srt eC (nub (nbT t d))) eC (fun o => !memA o found) eC (ix_tmp (ed_sortSet hu G.sorted G.set set_C (so_C (nbT t d)) (by omega) (ed_c (b_beside G) hr (by omega) (ad_cons (ed_var 0) (ad_cons (ed_ixL (d := eC d) (ed_var 2) (ed_var 3) (atI_map hd)) ad_nil)) ⟨t, d, rfl, ok, dok, rfl⟩))) (fun s' H' C cl fp a ha => ?_) (fun s' H' C cl fp a ha pa => ?_) ?_ ?_ nd ?_) fun z e => ⟨_, e, ?_, ?_⟩)
      · exact tsx_one (td_ninL hu enc_C (ed_var 4) (ed_var 2))
      · exact ed_var 4
      · rw [new.length_eq]
        omega
      · refine bk_Lpoint_of _ _ ?_
        decide +kernel
      · exact fun s' H' C cl fp => pg_name nd rfl (Or.inl rfl) (.inr rfl)
      · rw [List.length_map, List.length_map]
        show found.length + _ ≤ 1000
        have h2 := List.length_filter_le (fun o => !memA o found) (srt eC (nub (nbT t d)))
        rw [new.length_eq] at h2
        omega
      · refine ssx_one (sx_augI 3 ed_int ?_ nd)
        have nn : ((srt eC (nub (nbT t d))).filter fun o => !memA o found).Nodup := (new.nodup_iff.mpr (nb_nodup t d)).filter _
        refine ⟨(found ++ (srt eC (nub (nbT t d))).filter fun o => !memA o found, n + 1), B.turn hd nn fun e => ?_, ?_, ?_⟩
        · rw [List.mem_filter, new.mem_iff]
          refine and_congr_right fun _ => ?_
          rw [Bool.not_eq_true']
          exact memA_not
        · show 16 - (n + 1) < 16 - n
          omega
        · refine lo_same (lo_same (lo_eq ?_ (lo_eq ?_ (lo_same lo_nil))))
          · show Sl.ow (found.map eC ++ _) = Sl.ow ((found ++ _).map eC)
            rw [List.map_append]
          · rfl
    · obtain ⟨found, n⟩ := p
      have hn : n = found.length := by
        have h1 : ¬ n < found.length := of_decide_eq_false hc2
        have h2 : n ≤ found.length := B.le
        omega
      subst hn
      exact ⟨found, _, rfl, B.nd, B.all⟩
    · subst e
      have few : s4.length ≤ 16 := corners_few ok pt.nd fun d hd => ((pt.re d).mp hd).ok ok hc
      have e1 := ptL_eq pt
      rw [← e1] at k
      exact ssx_one (sx_retD (ed_tupleL G.tuple (ed_sortL hu G.sorted enc_C (ed_var 2) (so_C s4) (by omega))) k)
/-- the points of a table -/
noncomputable def ptsL (t : Tb) : List (List Cor) := srt ePt (nub ((cornersL t.size).map (ptL t)))
theorem pt_ne {t : Tb} (ok : TbOk t) {r : List Cor} (h : r ∈ (cornersL t.size).map (ptL t)) : r ≠ [] := fun e => by
  obtain ⟨c, hc, e2⟩ := List.mem_map.mp h
  have z := ((pt_ok ok (cornersL_ok.mp hc)).re c).mpr .refl
  rw [e2, e] at z
  cases z
theorem mem_ptsL {t : Tb} {r : List Cor} : r ∈ ptsL t ↔ ∃ c, CorOk t c ∧ ptL t c = r := by
  unfold ptsL
  rw [mem_srt, mem_nub, List.mem_map]
  exact ⟨fun ⟨c, h, e⟩ => ⟨c, cornersL_ok.mp h, e⟩, fun ⟨c, h, e⟩ => ⟨c, cornersL_ok.mpr h, e⟩⟩
theorem b_points (G : G47 K mg) : Cl P w K mg base 3 "_law_points" (fun rs Q => ∃ t, rs = [.d (eT t)] ∧ TbOk t ∧ Q (.fr ((ptsL t).map ePt))) := by
  refine cal_data (G.at 44 "_law_points" s_Lpoints) sc_Lpoints (fun _ _ _ _ _ _ us hl => match us, hl with | [_], _ => rfl) (fun rs Q h => ?_) (by decide) fun f cdv A outer s H E b rs Q as hr hw => ?_
  · obtain ⟨_, rfl, _⟩ := h; rfl
  · obtain ⟨t, rfl, ok, k⟩ := hw
    show SSX _ _ _ [_, _] _ _
    have hu := room65 hr
    have nd := sc_Lpoints.nd
    have s4 := ok.s4
    have len := cornersL_len t.size
    refine ssx_one (sx_retF (ed_sortSet hu G.sorted G.set set_Pt (so_Pt (bs := (cornersL t.size).map (ptL t)) fun r h => pt_ne ok h) (by rw [List.length_map]; omega) ((ed_lc 1 (cornersL t.size) eC (fun _ => true) (fun c => ePt (ptL t c)) (ix_tmp (ed_c (b_corners G) hr (by omega) (ad_cons (ed_var 0) ad_nil) ⟨t, rfl, s4, rfl⟩)) (fun s' H' C cl fp a ha => tsx_nil rfl) (fun s' H' C cl fp a ha pa => ?_) (by omega) ?_ nd ?_).cast (r' := .fr (((cornersL t.size).map (ptL t)).map ePt)) ?_)) k)
    · exact ed_c (b_pointOf G) hr (by omega) (ad_cons (ed_var 0) (ad_cons (ed_var 1) ad_nil)) ⟨t, a, rfl, ok, cornersL_ok.mp ha, rfl⟩
    · refine bk_Lpoints _ _ ?_
      decide +kernel
    · exact fun s' H' C cl fp => pg_name nd rfl (Or.inl rfl) (.inr rfl)
    · rw [List.filter_eq_self.mpr fun _ _ => rfl, List.map_map]
      rfl
theorem b_labels (G : G47 K mg) : Cl P w K mg base 2 "_law_labels" (fun rs Q => ∃ t, rs = [.d (eT t)] ∧ t.size ≤ 4 ∧ t.marks ≤ 4 ∧ Q (.fr ((labelsL t).map eL))) := by
  refine cal_data (G.at 45 "_law_labels" s_Llabels) sc_Llabels (fun _ _ _ _ _ _ us hl => match us, hl with | [_], _ => rfl) (fun rs Q h => ?_) (by decide) fun f cdv A outer s H E b rs Q as hr hw => ?_
  · obtain ⟨_, rfl, _⟩ := h; rfl
  · obtain ⟨t, rfl, s4, m4, k⟩ := hw
    show SSX _ _ _ [_, _, _, _] _ _
    have nd := sc_Llabels.nd
    have len := cornersL_len t.size
    refine ssx_cons (sx_setF 1 (xs := (labs t ((cornersL t.size).take 0)).map eL) (ed_lst ad_nil) ?_ nd)
    refine ssx_cons (sx_forA (cornersL t.size) eC (ix_tmp (ed_c (b_corners G) hr (by omega) (ad_cons (ed_var 0) ad_nil) ⟨t, rfl, s4, rfl⟩)) (fun i => [.d (eT t), .ow ((labs t ((cornersL t.size).take i)).map eL), .un, .un]) (lo_same (lo_same (lo_un (lo_un lo_nil)))) (fun Hb' i c hi => ?_) ?_ ?_)
    · refine gx_name 2 ?_ nd
      have e1 : labs t ((cornersL t.size).take (i + 1)) = labs t ((cornersL t.size).take i) ++ (List.range t.marks).map fun m => (c.1, c.2.1, c.2.2, m) := by
        unfold labs
        rw [List.take_add_one, hi, List.map_append, List.flatten_append]
        simp
      refine ssx_one (sx_extend 1 (P := fun z => z = .fr (((List.range t.marks).filter fun _ => true).map fun m => eL (c.1, c.2.1, c.2.2, m))) (ed_lc 3 (List.range t.marks) eI (fun _ => true) (fun m => eL (c.1, c.2.1, c.2.2, m)) (ix_rangeN (n := t.marks) rfl G.range (ed_ixT (ed_var 0) ed_int rfl) (by omega)) (fun s' H' C cl fp a ha => tsx_nil rfl) (fun s' H' C cl fp a ha pa => ?_) ?_ ?_ nd ?_) fun z e => ⟨_, e, ?_, ?_⟩)
      · exact ed_catT (xs := [.int c.1, .int c.2.1, .int c.2.2]) (ys := [.int a]) (ed_var 2) (ed_tup (ad_cons (ed_var 3) ad_nil)) (by show 3 + 1 ≤ 100000; decide) (fun e => nomatch e) (fun e => nomatch e)
      · rw [List.length_range]
        omega
      · refine bk_Llabels _ _ ?_
        decide +kernel
      · exact fun s' H' C cl fp => pg_name nd rfl (Or.inl rfl) (.inr rfl)
      · have l1 : (List.take i (cornersL t.size)).length ≤ 16 := by rw [List.length_take]; omega
        have l2 := Nat.mul_le_mul l1 m4
        rw [List.length_map, labs_len, List.length_map, List.filter_eq_self.mpr fun _ _ => rfl, List.length_range]
        omega
      · refine lo_same (lo_eq ?_ (lo_un (lo_un lo_nil)))
        rw [e1, List.map_append, List.filter_eq_self.mpr fun _ _ => rfl, List.map_map]
        rfl
    · rw [List.take_length]
      exact ssx_one (sx_retO (ed_var 1) k)
    · intro p hp
      simp [brs] at hp
def eB (p : Edg × Option Nat) : PyData := .tuple [eE p.1, eO p.2]
theorem b_ahead (G : G47 K mg) : Cl P w K mg base 1 "_law_ahead" (fun rs Q => ∃ t l u, rs = [.d (eT t), .d (eL l), .d (.bool u)] ∧ TbOk t ∧ LabOk t l ∧ Q (.d (eB (aheadE t l u)))) := by
  refine cal_data (G.at 46 "_law_ahead" s_Lahead) sc_Lahead (fun _ _ _ _ _ _ us hl => match us, hl with | [_, _, _], _ => rfl) (fun rs Q h => ?_) (by decide) fun f cdv A outer s H E b rs Q as hr hw => ?_
  · obtain ⟨_, _, _, rfl, _⟩ := h; rfl
  · obtain ⟨t, ⟨c, x, y, m⟩, u, rfl, ok, hl, k⟩ := hw
    show SSX _ _ _ [_, _, _, _, _, _, _, _, _, _, _] _ _
    have hu := room65 hr
    have nd := sc_Lahead.nd
    have hlen : c < (t.row u).length := by rw [(ok.row u).len]; exact hl.c
    refine ssx_cons (sx_asg (d := eL (c, x, y, m)) (ed_var 1) (gx_tup (gsx_cons (gx_name 3 (gsx_cons (gx_name 4 (gsx_cons (gx_name 5 (gsx_cons (gx_name 6 (gsx_nil ?_) nd)) nd)) nd)) nd))))
    refine ssx_cons (sx_asg (d := .tuple [eRw (t.row u), .int (sideOf (c, x, y, m) u : Nat), .str (sdN (wd u)), .str (sdN (wd' u))]) (ed_if (td_val (ed_var 2)) (fun h => ?_) fun h => ?_) (gx_tup (gsx_cons (gx_name 7 (gsx_cons (gx_name 8 (gsx_cons (gx_name 9 (gsx_cons (gx_name 10 (gsx_nil ?_) nd)) nd)) nd)) nd))))
    · subst h
      exact ed_tup (ad_cons (ed_ixT (ed_var 0) ed_int rfl) (ad_cons (ed_var 5) (ad_cons ed_str (ad_cons ed_str ad_nil))))
    · subst h
      exact ed_tup (ad_cons (ed_ixT (ed_var 0) ed_int rfl) (ad_cons (ed_var 4) (ad_cons ed_str (ad_cons ed_str ad_nil))))
    have kg : ∀ z, aheadE t (c, x, y, m) u = z → Q (.d (eB z)) := fun z e => by rw [← e]; exact k
    refine ssx_cons (sx_ifD (td_eqI (ed_var 8) ed_int) (fun h => ?_) fun h => ssx_nil (ssx_cons (sx_ifD (td_inT hu enc_O (x := some c) (ys := t.row u) (ed_var 3) (ed_var 7)) (fun h2 => ?_) fun h2 => ssx_nil ?_)))
    · have h0 : sideOf (c, x, y, m) u = 0 := dec1 (n := 0) h
      exact ssx_one (sx_retD (ed_tup (ad_cons (ed_tup (ad_cons (ed_var 9) (ad_cons (ed_var 3) ad_nil))) (ad_cons (ed_ixT (d := eO ((t.row u).getD c none)) (ed_var 7) (ed_var 3) (atI_get hlen)) ad_nil))) (kg _ (aheadE_0 h0)))
    · have h0 : sideOf (c, x, y, m) u ≠ 0 := fun e => by
        have z : ¬ ((sideOf (c, x, y, m) u : Nat) : Int) = 0 := of_decide_eq_false h
        omega
      have h3 : aheadOf (t.row u) (c, x, y, m).1 = some (ixA (some c) (t.row u)) := if_pos h2
      exact ssx_one (sx_retD (ed_tup (ad_cons (ed_tup (ad_cons (ed_var 9) (ad_cons (ed_ixOfT hu enc_O (k := some c) (ks := t.row u) (ed_var 7) (ed_var 3) (memA_iff.mp h2)) ad_nil))) (ad_cons (ed_ixOfT hu enc_O (k := some c) (ks := t.row u) (ed_var 7) (ed_var 3) (memA_iff.mp h2)) ad_nil))) (kg _ (aheadE_some h0 h3)))
    · have h0 : sideOf (c, x, y, m) u ≠ 0 := fun e => by
        have z : ¬ ((sideOf (c, x, y, m) u : Nat) : Int) = 0 := of_decide_eq_false h
        omega
      have h3 : aheadOf (t.row u) (c, x, y, m).1 = none := if_neg (by rw [h2]; exact Bool.false_ne_true)
      exact ssx_one (sx_retD (ed_tup (ad_cons (ed_tup (ad_cons (ed_var 10) (ad_cons (ed_var 3) ad_nil))) (ad_cons ed_non ad_nil))) (kg _ (aheadE_none h0 h3)))
theorem b_go (G : G47 K mg) : Cl P w K mg base 2 "_law_go" (wGo go) := by
  refine cal_data (G.at 47 "_law_go" s_Lgo) sc_Lgo (fun _ _ _ _ _ _ us hl => match us, hl with | [_, _, _], _ => rfl) (fun rs Q h => ?_) (by decide) fun f cdv A outer s H E b rs Q as hr hw => ?_
  · obtain ⟨_, _, _, rfl, _⟩ := h; rfl
  · obtain ⟨t, ⟨c, x, y, m⟩, u, rfl, ok, hl, k⟩ := hw
    show SSX _ _ _ [_, _, _, _, _, _, _, _, _] _ _
    have hu := room65 hr
    have nd := sc_Lgo.nd
    have hx : x < 2 := hl.x
    have hy : y < 2 := hl.y
    obtain ⟨p1, p2⟩ := perm_get ok (aheadE t (c, x, y, m) u).1 hl.m
    refine ssx_cons (sx_asg (d := eL (c, x, y, m)) (ed_var 1) (gx_tup (gsx_cons (gx_name 3 (gsx_cons (gx_name 4 (gsx_cons (gx_name 5 (gsx_cons (gx_name 6 (gsx_nil ?_) nd)) nd)) nd)) nd))))
    refine ssx_cons (sx_asg (d := eB (aheadE t (c, x, y, m) u)) (ed_c (b_ahead G) hr (by omega) (ad_cons (ed_var 0) (ad_cons (ed_var 1) (ad_cons (ed_var 2) ad_nil))) ⟨t, _, u, rfl, ok, hl, rfl⟩) (gx_tup (gsx_cons (gx_name 7 (gsx_cons (gx_name 8 (gsx_nil ?_) nd)) nd))))
    refine ssx_cons (sx_setD 6 (d := .int ((permOf t (aheadE t (c, x, y, m) u).1).getD m 0 : Nat)) (ed_ixT (ed_dictGet (ek := eE) (ev := eP) (ps := t.dials) (k := (aheadE t (c, x, y, m) u).1) (d := List.range t.marks) hu G.dict enc_E (fun _ => ⟨_, rfl⟩) (fun _ => ⟨_, rfl⟩) ok.dk (by have := ok.dl; omega) (ed_listT G.list (ed_ixT (ed_var 0) ed_int rfl)) (.inr rfl) (ed_var 7) (ed_tupRg G.tuple G.range (ed_ixT (ed_var 0) ed_int rfl) (by have := ok.m4; omega))) (ed_var 6) (atI_map p1)) ?_ nd)
    have kg : ∀ r, r = go t (c, x, y, m) u → Q (.d (eL r)) := fun r e => by rw [e]; exact k
    unfold go at kg
    refine ssx_cons (sx_ifD (td_notO (ed_var 8)) (fun h => ?_) fun h => ssx_nil ?_)
    · cases q : (aheadE t (c, x, y, m) u).2 with
      | none => rw [q] at h; cases h
      | some o =>
        refine ssx_one (sx_retD (ed_tup (ad_cons (ed_var 8) (ad_cons (ed_var 4) (ad_cons (ed_var 5) (ad_cons (ed_var 6) ad_nil))))) (kg (setCM (c, x, y, m) o ((permOf t (aheadE t (c, x, y, m) u).1).getD m 0)) ?_))
        rw [q]
    · cases q : (aheadE t (c, x, y, m) u).2 with
      | some o => rw [q] at h; cases h
      | none =>
        refine ssx_one (sx_retD (x := eL (setM (flip (c, x, y, m) u) ((permOf t (aheadE t (c, x, y, m) u).1).getD m 0))) (ed_if (td_val (ed_var 2)) (fun h => ?_) fun h => ?_) (kg _ ?_))
        · subst h
          refine (ed_tup (ad_cons (ed_var 3) (ad_cons (ed_var 4) (ad_cons (ed_sub ed_int (ed_var 5)) (ad_cons (ed_var 6) ad_nil))))).cast ?_
          rw [one_sub hy]
          rfl
        · subst h
          refine (ed_tup (ad_cons (ed_var 3) (ad_cons (ed_sub ed_int (ed_var 4)) (ad_cons (ed_var 5) (ad_cons (ed_var 6) ad_nil))))).cast ?_
          rw [one_sub hx]
          rfl
        · rw [q]
theorem b_side (G : G47 K mg) : Cl P w K mg base 3 "_law_side" (fun rs Q => ∃ t l, rs = [.d (eT t), .d (eL l)] ∧ TbOk t ∧ LabOk t l ∧ Q (.d (eL (go t l false)))) := by
  refine cal_data (G.at 48 "_law_side" s_Lside) sc_Lside (fun _ _ _ _ _ _ us hl => match us, hl with | [_, _], _ => rfl) (fun rs Q h => ?_) (by decide) fun f cdv A outer s H E b rs Q as hr hw => ?_
  · obtain ⟨_, _, rfl, _⟩ := h; rfl
  · obtain ⟨t, l, rfl, ok, hl, k⟩ := hw
    show SSX _ _ _ [_, _] _ _
    exact ssx_one (sx_retD (ed_c (b_go G) hr (by omega) (ad_cons (ed_var 0) (ad_cons (ed_var 1) (ad_cons ed_bl ad_nil))) ⟨t, l, false, rfl, ok, hl, rfl⟩) k)
theorem b_up (G : G47 K mg) : Cl P w K mg base 3 "_law_up" (fun rs Q => ∃ t l, rs = [.d (eT t), .d (eL l)] ∧ TbOk t ∧ LabOk t l ∧ Q (.d (eL (go t l true)))) := by
  refine cal_data (G.at 49 "_law_up" s_Lup) sc_Lup (fun _ _ _ _ _ _ us hl => match us, hl with | [_, _], _ => rfl) (fun rs Q h => ?_) (by decide) fun f cdv A outer s H E b rs Q as hr hw => ?_
  · obtain ⟨_, _, rfl, _⟩ := h; rfl
  · obtain ⟨t, l, rfl, ok, hl, k⟩ := hw
    show SSX _ _ _ [_, _] _ _
    exact ssx_one (sx_retD (ed_c (b_go G) hr (by omega) (ad_cons (ed_var 0) (ad_cons (ed_var 1) (ad_cons ed_bl ad_nil))) ⟨t, l, true, rfl, ok, hl, rfl⟩) k)
end
end K47
set_option Elab.async false
set_option linter.all false
set_option maxRecDepth 100000
set_option maxHeartbeats 2000000
namespace K47
open PySem PySem.Spec PyProof.Rows L2
theorem cornersL_few {t : Tb} (h : t.size ≤ 4) : (cornersL t.size).length ≤ 16 := by
  have := cornersL_len t.size
  omega
theorem labelsL_few {t : Tb} (h : t.size ≤ 4) (h2 : t.marks ≤ 4) : (labelsL t).length ≤ 64 := by
  unfold labelsL
  rw [labs_len]
  have := Nat.mul_le_mul (cornersL_few h) h2
  omega
theorem TbOk.labs {t : Tb} (ok : TbOk t) : (labelsL t).length ≤ 64 := labelsL_few ok.s4 ok.m4
/-- l is seen as kept by the law: both ways lead to one label -/
def same2 (t : Tb) (l : Lab) : Bool := decide (go t (go t l false) true = go t (go t l true) false)
/-- which are kept, as they are found -/
def keptU (t : Tb) (ls : List Lab) : List Lab := (ls.filter (same2 t)).map fun l => go t (go t l false) true
noncomputable def keptL (t : Tb) : List Lab := srt eL (keptU t (labelsL t))
theorem keptU_len (t : Tb) (ls : List Lab) : (keptU t ls).length ≤ ls.length := by
  unfold keptU
  rw [List.length_map]
  exact List.length_filter_le _ _
theorem keptU_take {t : Tb} {ls : List Lab} {i : Nat} {l : Lab} (h : ls[i]? = some l) : keptU t (ls.take (i + 1)) = keptU t (ls.take i) ++ (if same2 t l = true then [go t (go t l false) true] else []) := by
  rw [List.take_add_one, h]
  unfold keptU
  rw [List.filter_append, List.map_append]
  congr 1
  by_cases c : same2 t l = true
  · rw [if_pos c]
    simp [c]
  · rw [if_neg c]
    simp [c]
section
variable {P : Program} {w : World} {K : PySem.W.Frag} {mg : Str → Option Value} {base : Heap}
theorem b_kept (G : G47 K mg) : Cl P w K mg base 4 "_law_kept" (fun rs Q => ∃ t, rs = [.d (eT t)] ∧ TbOk t ∧ Q (.fr ((keptL t).map eL))) := by
  refine cal_data (G.at 50 "_law_kept" s_Lkept) sc_Lkept (fun _ _ _ _ _ _ us hl => match us, hl with | [_], _ => rfl) (fun rs Q h => ?_) (by decide) fun f cdv A outer s H E b rs Q as hr hw => ?_
  · obtain ⟨_, rfl, _⟩ := h; rfl
  · obtain ⟨t, rfl, ok, k⟩ := hw
    show SSX _ _ _ [_, _, _, _] _ _
    have nd := sc_Lkept.nd
    have hu := room65 hr
    have ll := ok.labs
    refine ssx_cons (sx_setF 1 (xs := (keptU t ((labelsL t).take 0)).map eL) (ed_lst ad_nil) ?_ nd)
    refine ssx_cons (sx_forA (labelsL t) eL (ix_tmp (ed_c (b_labels G) hr (by omega) (ad_cons (ed_var 0) ad_nil) ⟨t, rfl, ok.s4, ok.m4, rfl⟩)) (fun i => [.d (eT t), .ow ((keptU t ((labelsL t).take i)).map eL), .un, .un]) (lo_same (lo_same (lo_un (lo_un lo_nil)))) (fun Hb' i l hi => ?_) ?_ ?_)
    · refine gx_name 2 ?_ nd
      have lo : LabOk t l := labelsL_ok.mp (List.mem_of_getElem? hi)
      have l1 := go_ok (u := false) ok lo
      have l2 := go_ok (u := true) ok lo
      refine ssx_cons (sx_setD 3 (ed_c (b_up G) hr (by omega) (ad_cons (ed_var 0) (ad_cons (ed_c (b_side G) hr (by omega) (ad_cons (ed_var 0) (ad_cons (ed_var 2) ad_nil)) ⟨t, l, rfl, ok, lo, rfl⟩) ad_nil)) ⟨t, _, rfl, ok, l1, rfl⟩) ?_ nd)
      refine ssx_one (sx_ifD (c := same2 t l) (td_eqA hu enc_L (ed_var 3) (ed_c (b_side G) hr (by omega) (ad_cons (ed_var 0) (ad_cons (ed_c (b_up G) hr (by omega) (ad_cons (ed_var 0) (ad_cons (ed_var 2) ad_nil)) ⟨t, l, rfl, ok, lo, rfl⟩) ad_nil)) ⟨t, _, rfl, ok, l2, rfl⟩)) (fun h => ?_) fun h => ssx_nil ?_)
      · refine ssx_one (sx_append 1 (ed_var 3) fun r e => ⟨_, e, ?_, ?_⟩)
        · have a1 := keptU_len t ((labelsL t).take i)
          have a2 : ((labelsL t).take i).length ≤ 64 := by rw [List.length_take]; omega
          rw [List.length_map, sizeLine_eq]
          omega
        · refine lo_same (lo_eq ?_ (lo_un (lo_un lo_nil)))
          rw [keptU_take hi, if_pos h, List.map_append]
          rfl
      · refine lo_same (lo_eq ?_ (lo_un (lo_un lo_nil)))
        rw [keptU_take hi, if_neg (by rw [h]; exact Bool.false_ne_true), List.append_nil]
    · rw [List.take_length]
      refine ssx_one (sx_retF (ed_sortL hu G.sorted enc_L (ed_var 1) (so_L _) ?_) k)
      have a1 := keptU_len t (labelsL t)
      omega
    · intro p hp
      simp [brs] at hp
theorem b_crossings (G : G47 K mg) : Cl P w K mg base 1 "_law_crossings" (fun rs Q => ∃ s : Slp, rs = [.d (eSl s)] ∧ 1 ≤ s.1 ∧ 1 ≤ s.2 ∧ s.1 + s.2 ≤ 18 ∧ Q (.fr ((cross s.1 s.2).map eU))) := by
  refine cal_data (G.at 51 "_law_crossings" s_Lcrossings) sc_Lcrossings (fun _ _ _ _ _ _ us hl => match us, hl with | [_], _ => rfl) (fun rs Q h => ?_) (by decide) fun f cdv A outer s H E b rs Q as hr hw => ?_
  · obtain ⟨_, rfl, _⟩ := h; rfl
  · obtain ⟨⟨p, q⟩, rfl, hp, hq, hs, k⟩ := hw
    show SSX _ _ _ [_, _, _, _, _, _, _] _ _
    have nd := sc_Lcrossings.nd
    refine ssx_cons (sx_asg (d := eSl (p, q)) (ed_var 0) (gx_tup (gsx_cons (gx_name 1 (gsx_cons (gx_name 2 (gsx_nil ?_) nd)) nd))))
    refine ssx_cons (sx_par3 3 4 5 rfl (ad_cons (ed_lst ad_nil) (ad_cons ed_int (ad_cons ed_int ad_nil))) (fun rs e => ⟨_, _, _, _, _, _, e, rfl, rfl, rfl, ?_⟩) nd)
    refine ssx_cut (fun Δ' => ∃ s4 s5 s6, Δ' = [.d (eSl (p, q)), .d (.int p), .d (.int q), .ow ((cross p q).map eU), s4, s5, s6])
      (sx_whileA (fun z : List Bool × Nat × Nat => [.d (eSl (p, q)), .d (.int p), .d (.int q), .ow (z.1.map eU), .d (.int z.2.1), .d (.int z.2.2), .un]) (fun z => CrI p q z.1 z.2.1 z.2.2) (fun z => (p - z.2.1) + (q - z.2.2)) ([], 1, 1) (CrI.first hp hq hs) (lo_same (lo_same (lo_same (lo_same (lo_same (lo_same (lo_same lo_nil))))))) fun z I => ⟨decide (z.2.1 < p ∨ z.2.2 < q), ?_, fun hc2 => ?_, fun hc2 => ?_⟩) fun Δ' ⟨s4, s5, s6, e⟩ => ?_
    · refine (td_or (td_lt (ed_var 4) (ed_var 1)) fun _ => td_lt (ed_var 5) (ed_var 2)).cast ?_
      rw [natlt, natlt, Bool.decide_or]
    · obtain ⟨d, i, j⟩ := z
      have h0 : i < p ∨ j < q := of_decide_eq_true hc2
      have hip : i ≤ p := I.ip
      have hjq : j ≤ q := I.jq
      have sm : d.length + (p - i) + (q - j) ≤ 100 := I.sm
      refine ssx_cons (sx_setD 6 (d := .bool (decide (i < p ∧ (j = q ∨ i * q < j * p)))) ((ed_and (ed_lt (ed_var 4) (ed_var 1)) fun _ => ed_one (ed_or (ed_ge (ed_var 5) (ed_var 2)) fun _ => ed_one (ed_lt (ed_mul (ed_var 4) (ed_var 2) ?_) (ed_mul (ed_var 5) (ed_var 1) ?_)))).cast ?_) ?_ nd)
      · exact cmul_small (show i ≤ 100 by omega)
      · exact cmul_small (show j ≤ 100 by omega)
      · congr 2
        rw [natlt, ← Int.natCast_mul, ← Int.natCast_mul, natlt]
        apply Bool.eq_iff_iff.mpr
        simp only [Bool.and_eq_true, Bool.or_eq_true, decide_eq_true_eq]
        constructor
        · rintro ⟨a, c | c⟩
          · exact ⟨a, .inl (by omega)⟩
          · exact ⟨a, .inr c⟩
        · rintro ⟨a, c | c⟩
          · exact ⟨a, .inl (by omega)⟩
          · exact ⟨a, .inr c⟩
      · cases h : decide (i < p ∧ (j = q ∨ i * q < j * p)) with
        | true =>
          obtain ⟨h1, h2⟩ := of_decide_eq_true h
          refine ssx_cons (sx_append 3 (ed_if (c := true) (r := .d (eU false)) (td_val (ed_var 6)) (fun _ => ed_str) fun h => nomatch h) fun r e => ⟨_, e, ?_, ?_⟩)
          · rw [List.length_map, sizeLine_eq]
            show d.length < _
            omega
          · refine ssx_one (sx_asg (d := .tuple [.int (i + 1 : Nat), .int j]) (ed_if (c := true) (td_val (ed_var 6)) (fun _ => ed_tup (ad_cons (ed_add (ed_var 4) ed_int) (ad_cons (ed_var 5) ad_nil))) fun h => nomatch h) (gx_tup (gsx_cons (gx_name 4 (gsx_cons (gx_name 5 (gsx_nil ?_) nd)) nd))))
            refine ⟨(d ++ [false], i + 1, j), CrI.side I h1 h2, ?_, ?_⟩
            · show (p - (i + 1)) + (q - j) < (p - i) + (q - j)
              omega
            · refine lo_same (lo_same (lo_same (lo_eq ?_ (lo_eq rfl (lo_same (lo_un lo_nil))))))
              rw [List.map_append]
              rfl
        | false =>
          have h2 := of_decide_eq_false h
          refine ssx_cons (sx_append 3 (ed_if (c := false) (r := .d (eU true)) (td_val (ed_var 6)) (fun h => nomatch h) fun _ => ed_str) fun r e => ⟨_, e, ?_, ?_⟩)
          · rw [List.length_map, sizeLine_eq]
            show d.length < _
            omega
          · refine ssx_one (sx_asg (d := .tuple [.int i, .int (j + 1 : Nat)]) (ed_if (c := false) (td_val (ed_var 6)) (fun h => nomatch h) fun _ => ed_tup (ad_cons (ed_var 4) (ad_cons (ed_add (ed_var 5) ed_int) ad_nil))) (gx_tup (gsx_cons (gx_name 4 (gsx_cons (gx_name 5 (gsx_nil ?_) nd)) nd))))
            have I2 : CrI p q (d ++ [true]) i (j + 1) := CrI.up I h0 h2
            have := I2.jq
            refine ⟨(d ++ [true], i, j + 1), I2, ?_, ?_⟩
            · show (p - i) + (q - (j + 1)) < (p - i) + (q - j)
              omega
            · refine lo_same (lo_same (lo_same (lo_eq ?_ (lo_same (lo_eq rfl (lo_un lo_nil))))))
              rw [List.map_append]
              rfl
    · obtain ⟨d, i, j⟩ := z
      have e : d = cross p q := CrI.last I (of_decide_eq_false hc2)
      subst e
      exact ⟨_, _, _, rfl⟩
    · subst e
      exact ssx_one (sx_retO (ed_var 3) k)
theorem b_neighbours (G : G47 K mg) : Cl P w K mg base 1 "_law_neighbours" (fun rs Q => ∃ ws : List Bool, rs = [.d (.str (wt ws))] ∧ Q (.d (.tuple [eSl (nbrs ws).1, eSl (nbrs ws).2]))) := by
  refine cal_data (G.at 52 "_law_neighbours" s_Lneighbours) sc_Lneighbours (fun _ _ _ _ _ _ us hl => match us, hl with | [_], _ => rfl) (fun rs Q h => ?_) (by decide) fun f cdv A outer s H E b rs Q as hr hw => ?_
  · obtain ⟨_, rfl, _⟩ := h; rfl
  · obtain ⟨ws, rfl, k⟩ := hw
    show SSX _ _ _ [_, _, _, _, _] _ _
    have nd := sc_Lneighbours.nd
    refine ssx_cons (sx_asg (d := .tuple [eSl (1, 0), eSl (0, 1)]) (ed_tup (ad_cons (ed_tup (ad_cons ed_int (ad_cons ed_int ad_nil))) (ad_cons (ed_tup (ad_cons ed_int (ad_cons ed_int ad_nil))) ad_nil))) (gx_tup (gsx_cons (gx_name 1 (gsx_cons (gx_name 2 (gsx_nil ?_) nd)) nd))))
    let st : Nat → Slp × Slp := fun i => (ws.take i).foldl nbStep ((1, 0), (0, 1))
    have step : ∀ i r, ws[i]? = some r → st (i + 1) = nbStep (st i) r := fun i r h => by
      show (ws.take (i + 1)).foldl _ _ = _
      rw [List.take_add_one, h, List.foldl_append]
      rfl
    refine ssx_cons (sx_forA ws eWl (ix_cast (ix_str (ed_var 0)) (sgD_wt ws)) (fun i => [.d (.str (wt ws)), .d (eSl (st i).1), .d (eSl (st i).2), .un, .un]) (lo_same (lo_same (lo_same (lo_un (lo_un lo_nil))))) (fun Hb' i r hi => ?_) ?_ ?_)
    · refine gx_name 3 ?_ nd
      refine ssx_cons (sx_setD 4 (d := eSl (plus (st i).1 (st i).2)) (ed_tup (ad_cons (ed_add (ed_ixT (ed_var 1) ed_int rfl) (ed_ixT (ed_var 2) ed_int rfl)) (ad_cons (ed_add (ed_ixT (ed_var 1) ed_int rfl) (ed_ixT (ed_var 2) ed_int rfl)) ad_nil))) ?_ nd)
      refine ssx_one (sx_asg (d := .tuple [eSl (nbStep (st i) r).1, eSl (nbStep (st i) r).2]) (ed_if (td_eqS (ed_var 3) ed_str) (fun h => ?_) fun h => ?_) (gx_tup (gsx_cons (gx_name 1 (gsx_cons (gx_name 2 (gsx_nil ?_) nd)) nd))))
      · have er : r = false := by
          cases r with
          | false => rfl
          | true => exact absurd h (show ¬ decide (wt [true] = ("l" : Str)) = true by decide)
        subst er
        exact ed_tup (ad_cons (ed_var 1) (ad_cons (ed_var 4) ad_nil))
      · have er : r = true := by
          cases r with
          | true => rfl
          | false => exact absurd h (show ¬ decide (wt [false] = ("l" : Str)) = false by decide)
        subst er
        exact ed_tup (ad_cons (ed_var 4) (ad_cons (ed_var 2) ad_nil))
      · refine lo_same (lo_eq ?_ (lo_eq ?_ (lo_un (lo_un lo_nil))))
        · rw [step i _ hi]
        · rw [step i _ hi]
    · have e : st ws.length = nbrs ws := by
        show (ws.take ws.length).foldl _ _ = _
        rw [List.take_length]
        rfl
      rw [e]
      exact ssx_one (sx_retD (ed_tup (ad_cons (ed_var 1) (ad_cons (ed_var 2) ad_nil))) k)
    · intro p hp
      simp [brs] at hp
def slopeW (ws : List Bool) : Slp := plus (nbrs ws).1 (nbrs ws).2
theorem b_slopeOf (G : G47 K mg) : Cl P w K mg base 2 "_law_slope_of" (fun rs Q => ∃ ws : List Bool, rs = [.d (.str (wt ws))] ∧ Q (.d (eSl (slopeW ws)))) := by
  refine cal_data (G.at 53 "_law_slope_of" s_Lslope_of) sc_Lslope_of (fun _ _ _ _ _ _ us hl => match us, hl with | [_], _ => rfl) (fun rs Q h => ?_) (by decide) fun f cdv A outer s H E b rs Q as hr hw => ?_
  · obtain ⟨_, rfl, _⟩ := h; rfl
  · obtain ⟨ws, rfl, k⟩ := hw
    show SSX _ _ _ [_, _, _] _ _
    have nd := sc_Lslope_of.nd
    refine ssx_cons (sx_asg (ed_c (b_neighbours G) hr (by omega) (ad_cons (ed_var 0) ad_nil) ⟨ws, rfl, rfl⟩) (gx_tup (gsx_cons (gx_name 1 (gsx_cons (gx_name 2 (gsx_nil ?_) nd)) nd))))
    exact ssx_one (sx_retD (ed_tup (ad_cons (ed_add (ed_ixT (ed_var 1) ed_int rfl) (ed_ixT (ed_var 2) ed_int rfl)) (ad_cons (ed_add (ed_ixT (ed_var 1) ed_int rfl) (ed_ixT (ed_var 2) ed_int rfl)) ad_nil))) k)
end
end K47
set_option Elab.async false
set_option linter.all false
set_option maxRecDepth 100000
set_option maxHeartbeats 2000000
namespace K47
open PySem PySem.Spec PyProof.Rows L2
/-- the word's loop, single steps -/
structure WsI (p q : Nat) (ws : List Bool) (a b : Nat) : Prop where
  a1 : 1 ≤ a
  b1 : 1 ≤ b
  co : ∃ f, a + b ≤ f ∧ ws ++ wdF f a b = word p q
  sm : ws.length + a + b ≤ 18
theorem WsI.first {p q : Nat} (hp : 1 ≤ p) (hq : 1 ≤ q) (h : p + q ≤ 18) : WsI p q [] p q := ⟨hp, hq, ⟨p + q, Nat.le_refl _, rfl⟩, by show 0 + p + q ≤ 18; omega⟩
theorem WsI.left {p q : Nat} {ws : List Bool} {a b : Nat} (h : WsI p q ws a b) (c : b < a) : WsI p q (ws ++ [false]) (a - b) b := by
  have b1 := h.b1
  have sm := h.sm
  obtain ⟨f, hf, e⟩ := h.co
  cases f with
  | zero => omega
  | succ f =>
    have e2 : wdF (f + 1) a b = false :: wdF f (a - b) b := by
      show (if _ then _ else if _ then _ else _) = _
      rw [if_neg (by omega), if_pos c]
    refine ⟨by omega, b1, ⟨f, by omega, ?_⟩, by rw [List.length_append, List.length_singleton]; omega⟩
    rw [← e, e2, List.append_assoc]
    rfl
theorem WsI.right {p q : Nat} {ws : List Bool} {a b : Nat} (h : WsI p q ws a b) (c : a < b) : WsI p q (ws ++ [true]) a (b - a) := by
  have a1 := h.a1
  have sm := h.sm
  obtain ⟨f, hf, e⟩ := h.co
  cases f with
  | zero => omega
  | succ f =>
    have e2 : wdF (f + 1) a b = true :: wdF f a (b - a) := by
      show (if _ then _ else if _ then _ else _) = _
      rw [if_neg (by omega), if_neg (by omega)]
    refine ⟨a1, by omega, ⟨f, by omega, ?_⟩, by rw [List.length_append, List.length_singleton]; omega⟩
    rw [← e, e2, List.append_assoc]
    rfl
theorem WsI.last {p q : Nat} {ws : List Bool} {a : Nat} (h : WsI p q ws a a) : ws = word p q := by
  obtain ⟨f, _, e⟩ := h.co
  have e2 : wdF f a a = [] := by
    cases f with
    | zero => rfl
    | succ f => exact if_pos rfl
  rw [← e, e2, List.append_nil]
theorem nat_sub {a b : Nat} (h : b ≤ a) : (a : Int) - (b : Int) = ((a - b : Nat) : Int) := by omega
section
variable {P : Program} {w : World} {K : PySem.W.Frag} {mg : Str → Option Value} {base : Heap}
theorem b_wordOf (G : G47 K mg) : Cl P w K mg base 1 "_law_word_of" (fun rs Q => ∃ s : Slp, rs = [.d (eSl s)] ∧ 1 ≤ s.1 ∧ 1 ≤ s.2 ∧ s.1 + s.2 ≤ 18 ∧ Q (.d (.str (wt (word s.1 s.2))))) := by
  refine cal_data (G.at 54 "_law_word_of" s_Lword_of) sc_Lword_of (fun _ _ _ _ _ _ us hl => match us, hl with | [_], _ => rfl) (fun rs Q h => ?_) (by decide) fun f cdv A outer s H E b rs Q as hr hw => ?_
  · obtain ⟨_, rfl, _⟩ := h; rfl
  · obtain ⟨⟨p, q⟩, rfl, hp, hq, hs, k⟩ := hw
    show SSX _ _ _ [_, _, _, _] _ _
    have nd := sc_Lword_of.nd
    refine ssx_cons (sx_par3 1 2 3 rfl (ad_cons (ed_ixT (d := .int p) (ed_var 0) ed_int rfl) (ad_cons (ed_ixT (d := .int q) (ed_var 0) ed_int rfl) (ad_cons ed_str ad_nil))) (fun rs e => ⟨_, _, _, _, _, _, e, rfl, rfl, rfl, ?_⟩) nd)
    refine ssx_cut (fun Δ' => ∃ s1 s2, Δ' = [.d (eSl (p, q)), s1, s2, .d (.str (wt (word p q)))])
      (sx_whileA (fun z : List Bool × Nat × Nat => [.d (eSl (p, q)), .d (.int z.2.1), .d (.int z.2.2), .d (.str (wt z.1))]) (fun z => WsI p q z.1 z.2.1 z.2.2) (fun z => z.2.1 + z.2.2) ([], p, q) (WsI.first hp hq hs) (lo_same (lo_same (lo_same (lo_same lo_nil)))) fun z I => ⟨!decide (z.2.1 = z.2.2), ?_, fun hc2 => ?_, fun hc2 => ?_⟩) fun Δ' ⟨s1, s2, e⟩ => ?_
    · refine (td_neI (ed_var 1) (ed_var 2)).cast ?_
      rw [nateq]
    · obtain ⟨ws, a, c⟩ := z
      have a1 : 1 ≤ a := I.a1
      have b1 : 1 ≤ c := I.b1
      have sm : ws.length + a + c ≤ 18 := I.sm
      have hne : a ≠ c := by
        rw [Bool.not_eq_true'] at hc2
        exact of_decide_eq_false hc2
      refine ssx_one (sx_ifD (td_gt (ed_var 1) (ed_var 2)) (fun h => ?_) fun h => ?_)
      · have h' : c < a := by
          have z : (c : Int) < (a : Int) := of_decide_eq_true h
          omega
        refine ssx_one (sx_par 1 3 rfl (ad_cons ((ed_sub (ed_var 1) (ed_var 2)).cast (congrArg (fun z => Rs.d (.int z)) (nat_sub (Nat.le_of_lt h')))) (ad_cons ((ed_addS (x := wt ws) (y := wt [false]) (ed_var 3) ed_str ?_).cast (congrArg (fun z => Rs.d (.str z)) (wt_app _ _))) ad_nil)) (fun rs e => ⟨_, _, _, _, e, rfl, rfl, ?_⟩) nd)
        · rw [wt_len, wt_len, sizeLine_eq]
          show _ + 1 ≤ _
          omega
        · refine ⟨(ws ++ [false], a - c, c), I.left h', ?_, lo_same (lo_same (lo_same (lo_same lo_nil)))⟩
          show a - c + c < a + c
          omega
      · have h' : a < c := by
          have z : ¬ (c : Int) < (a : Int) := of_decide_eq_false h
          omega
        refine ssx_one (sx_par 2 3 rfl (ad_cons ((ed_sub (ed_var 2) (ed_var 1)).cast (congrArg (fun z => Rs.d (.int z)) (nat_sub (Nat.le_of_lt h')))) (ad_cons ((ed_addS (x := wt ws) (y := wt [true]) (ed_var 3) ed_str ?_).cast (congrArg (fun z => Rs.d (.str z)) (wt_app _ _))) ad_nil)) (fun rs e => ⟨_, _, _, _, e, rfl, rfl, ?_⟩) nd)
        · rw [wt_len, wt_len, sizeLine_eq]
          show _ + 1 ≤ _
          omega
        · refine ⟨(ws ++ [true], a, c - a), I.right h', ?_, lo_same (lo_same (lo_same (lo_same lo_nil)))⟩
          show a + (c - a) < a + c
          omega
    · obtain ⟨ws, a, c⟩ := z
      have hne : a = c := by
        rw [Bool.not_eq_false'] at hc2
        exact of_decide_eq_true hc2
      subst hne
      have e : ws = word p q := WsI.last I
      subst e
      exact ⟨_, _, rfl⟩
    · subst e
      exact ssx_one (sx_retD (ed_var 3) k)
theorem b_along (G : G47 K mg) : Cl P w K mg base 3 "_law_along" (fun rs Q => ∃ t l ls, rs = [.d (eT t), .d (eL l), .ls (ls.map eU)] ∧ TbOk t ∧ LabOk t l ∧ Q (.d (eL (along t l ls)))) := by
  refine cal_data (G.at 57 "_law_along" s_Lalong) sc_Lalong (fun _ _ _ _ _ _ us hl => match us, hl with | [_, _, _], _ => rfl) (fun rs Q h => ?_) (by decide) fun f cdv A outer s H E b rs Q as hr hw => ?_
  · obtain ⟨_, _, _, rfl, _⟩ := h; rfl
  · obtain ⟨t, l, ls, rfl, ok, hl, k⟩ := hw
    show SSX _ _ _ [_, _, _, _] _ _
    have nd := sc_Lalong.nd
    refine ssx_cons (sx_forA ls eU (ix_rd 2) (fun i => [.d (eT t), .d (eL (along t l (ls.take i))), .br (as 2) (ls.map eU), .un]) (lo_same (lo_same (lo_same (lo_un lo_nil)))) (fun Hb' i u hi => ?_) ?_ ?_)
    · refine gx_name 3 ?_ nd
      have la := along_ok (ls := ls.take i) ok hl
      refine ssx_one (sx_setD 1 (ed_c (b_go G) hr (by omega) (ad_cons (ed_var 0) (ad_cons (ed_var 1) (ad_cons ((ed_eqS (ed_var 3) ed_str).cast (r' := .d (.bool u)) ?_) ad_nil))) ⟨t, _, u, rfl, ok, la, rfl⟩) ?_ nd)
      · cases u with
        | true => exact congrArg (fun z => Rs.d (.bool z)) (show decide (tx [true] = ("u" : Str)) = true by decide)
        | false => exact congrArg (fun z => Rs.d (.bool z)) (show decide (tx [false] = ("u" : Str)) = false by decide)
      · rw [← along_take hi]
        exact lo_same (lo_same (lo_same (lo_un lo_nil)))
    · rw [List.take_length]
      exact ssx_one (sx_retD (ed_var 1) k)
    · exact fun p hp => hp
theorem b_row (G : G47 K mg) : Cl P w K mg base 4 "_law_row" (fun rs Q => ∃ t l ls, rs = [.d (eT t), .d (eL l), .ls (ls.map eU)] ∧ TbOk t ∧ LabOk t l ∧ Q (.d (eRow (rowOf t l ls)))) := by
  refine cal_data (G.at 58 "_law_row" s_Lrow) sc_Lrow (fun _ _ _ _ _ _ us hl => match us, hl with | [_, _, _], _ => rfl) (fun rs Q h => ?_) (by decide) fun f cdv A outer s H E b rs Q as hr hw => ?_
  · obtain ⟨_, _, _, rfl, _⟩ := h; rfl
  · obtain ⟨t, l, ls, rfl, ok, hl, k⟩ := hw
    show SSX _ _ _ [_, _, _, _, _, _] _ _
    have nd := sc_Lrow.nd
    have hu := room65 hr
    have M := along_map ok ls
    obtain ⟨n, pn⟩ := M.per ok hl
    have k' : Q (.d (eRow (rot (orb (fun l => along t l ls) l n)))) := by
      unfold rowOf at k
      rw [per_of pn] at k
      exact k
    refine ssx_cons (sx_par 3 4 rfl (ad_cons (ed_lst (ad_cons (ed_var 1) ad_nil)) (ad_cons (ed_c (b_along G) hr (by omega) (ad_cons (ed_var 0) (ad_cons (ed_var 1) (ad_cons (ed_var 2) ad_nil))) ⟨t, l, ls, rfl, ok, hl, rfl⟩) ad_nil)) (fun rs e => ⟨_, _, _, _, e, rfl, rfl, ?_⟩) nd)
    refine ssx_cut (fun Δ' => ∃ s4 s5, Δ' = [.d (eT t), .d (eL l), .br (as 2) (ls.map eU), .ow ((orb (fun l => along t l ls) l n).map eL), s4, s5])
      (sx_whileA (fun z : Nat => [.d (eT t), .d (eL l), .br (as 2) (ls.map eU), .ow ((orb (fun l => along t l ls) l z).map eL), .d (eL (it (fun l => along t l ls) z l)), .un]) (fun z => 1 ≤ z ∧ z ≤ n) (fun z => n - z) 1 ⟨Nat.le_refl _, pn.p1⟩ (lo_same (lo_same (lo_same (lo_same (lo_same (lo_same lo_nil)))))) fun z I => ⟨!decide (it (fun l => along t l ls) z l = l), ?_, fun hc2 => ?_, fun hc2 => ?_⟩) fun Δ' ⟨s4, s5, e⟩ => ?_
    · exact td_neA hu enc_L (ed_var 4) (ed_var 1)
    · obtain ⟨z1, z2⟩ := I
      rw [Bool.not_eq_true'] at hc2
      have hz : z < n := by
        rcases Nat.lt_or_ge z n with c | c
        · exact c
        · have e : z = n := by omega
          subst e
          exact absurd pn.back (of_decide_eq_false hc2)
      have e1 : orb (fun l => along t l ls) l (z + 1) = orb (fun l => along t l ls) l z ++ [it (fun l => along t l ls) z l] := by
        unfold orb
        rw [List.range_succ, List.map_append]
        rfl
      have p64 := pn.p64
      refine ssx_cons (sx_append 3 (ed_var 4) fun r e => ⟨_, e, ?_, ?_⟩)
      · rw [List.length_map, orb_len, sizeLine_eq]
        omega
      · refine ssx_one (sx_setD 4 (ed_c (b_along G) hr (by omega) (ad_cons (ed_var 0) (ad_cons (ed_var 4) (ad_cons (ed_var 2) ad_nil))) ⟨t, _, ls, rfl, ok, M.it hl z, rfl⟩) ?_ nd)
        refine ⟨z + 1, ⟨by omega, hz⟩, by omega, lo_same (lo_same (lo_same (lo_eq ?_ (lo_eq rfl (lo_un lo_nil)))))⟩
        rw [e1, List.map_append]
        rfl
    · obtain ⟨z1, z2⟩ := I
      rw [Bool.not_eq_false'] at hc2
      have hz : z = n := by
        rcases Nat.lt_or_ge z n with c | c
        · exact absurd (of_decide_eq_true hc2) (pn.min_ z z1 c)
        · omega
      subst hz
      exact ⟨_, _, rfl⟩
    · subst e
      obtain ⟨as', ea⟩ : ∃ as', orb (fun l => along t l ls) l n = l :: as' := by
        have p1 := pn.p1
        obtain ⟨m, rfl⟩ : ∃ m, n = m + 1 := ⟨n - 1, by omega⟩
        unfold orb
        rw [List.range_succ_eq_map, List.map_cons]
        exact ⟨_, rfl⟩
      have len := orb_len (fun l => along t l ls) l n
      have p64 := pn.p64
      rw [ea] at k' len ⊢
      have hm := minA_mem eL as' l
      have hix := ixA_lt hm
      rw [rot_cons] at k'
      refine ssx_cons (sx_setD 5 (ed_ixOfL hu enc_L (k := minA eL l as') (ks := l :: as') (ed_var 3) (ed_min hu G.min enc_L (ed_var 3) (so_L _)) hm) ?_ nd)
      refine ssx_one (sx_retD (ed_tupleL G.tuple (r := .fr (((l :: as').drop (ixA (minA eL l as') (l :: as')) ++ (l :: as').take (ixA (minA eL l as') (l :: as'))).map eL)) ((ed_cat (xs := cutD ((l :: as').map eL) (some (ixA (minA eL l as') (l :: as') : Int)) none) (ys := cutD ((l :: as').map eL) none (some (ixA (minA eL l as') (l :: as') : Int))) (ed_slL (ed_var 3) (po_yes (ed_var 5)) po_no) (ed_slL (ed_var 3) po_no (po_yes (ed_var 5))) ?_).cast ?_)) k')
      · rw [cut_drop _ (by rw [List.length_map]; omega), cut_take, List.length_drop, List.length_take, List.length_map]
        omega
      · rw [cut_drop _ (by rw [List.length_map]; omega), cut_take, List.map_append, List.map_drop, List.map_take]
theorem b_over (G : G47 K mg) : Cl P w K mg base 4 "_law_over" (fun rs Q => ∃ t s row, rs = [.d (eT t), .d (eSl s), .d (eRow row)] ∧ TbOk t ∧ SlpOk s ∧ row.length ≤ 64 ∧ (∀ l ∈ row, LabOk t l) ∧ Q (.fr ((lineOf t s row).map eL))) := by
  refine cal_data (G.at 60 "_law_over" s_Lover) sc_Lover (fun _ _ _ _ _ _ us hl => match us, hl with | [_, _, _], _ => rfl) (fun rs Q h => ?_) (by decide) fun f cdv A outer s H E b rs Q as hr hw => ?_
  · obtain ⟨_, _, _, rfl, _⟩ := h; rfl
  · obtain ⟨t, s, row, rfl, ok, so, h64, hrow, k⟩ := hw
    show SSX _ _ _ [_, _, _, _, _, _] _ _
    have nd := sc_Lover.nd
    have hu := room65 hr
    refine ssx_cons (sx_setD 3 (d := eSl (highOf s)) (ed_ixT (ed_c (b_neighbours G) hr (by omega) (ad_cons (ed_c (b_wordOf G) hr (by omega) (ad_cons (ed_var 1) ad_nil) ⟨s, rfl, so.p, so.q, so.le, rfl⟩) ad_nil) ⟨word s.1 s.2, rfl, rfl⟩) ed_int rfl) ?_ nd)
    refine ssx_cons (sx_setF 4 (xs := (over s).map eU) (ed_if (td_eqA hu enc_Sl (x := highOf s) (y := (0, 1)) (ed_var 3) (ed_tup (ad_cons ed_int (ad_cons ed_int ad_nil)))) (fun h => ?_) fun h => ?_) ?_ nd)
    · have e : over s = [true] := if_pos (of_decide_eq_true h)
      rw [e]
      exact ed_lst (ad_cons ed_str ad_nil)
    · have e : over s = cross (highOf s).1 (highOf s).2 ++ [false, true] := if_neg (of_decide_eq_false h)
      rw [e]
      rcases so.hi with z | ⟨h1, h2, h3⟩
      · exact absurd z (of_decide_eq_false h)
      · refine (ed_cat (xs := (cross (highOf s).1 (highOf s).2).map eU) (ys := [eU false, eU true]) (ed_c (b_crossings G) hr (by omega) (ad_cons (ed_var 3) ad_nil) ⟨highOf s, rfl, h1, h2, h3, rfl⟩) (ed_lst (ad_cons ed_str (ad_cons ed_str ad_nil))) ?_).cast ?_
        · have cl := cross_len (highOf s).1 (highOf s).2
          rw [List.length_map]
          show _ + 2 ≤ _
          omega
        · rw [List.map_append]
          rfl
    · refine ssx_one (sx_retF ((ed_lc 5 row eL (fun _ => true) (fun l => eL (along t l (over s))) (ix_tup (ed_var 2)) (fun s' H' C cl fp a ha => tsx_nil rfl) (fun s' H' C cl fp a ha pa => ?_) (by omega) ?_ nd ?_).cast ?_) k)
      · exact ed_c (b_along G) hr (by omega) (ad_cons (ed_var 0) (ad_cons (ed_var 5) (ad_cons (ed_var 4) ad_nil))) ⟨t, a, over s, rfl, ok, hrow a ha, rfl⟩
      · refine bk_Lover _ _ ?_
        decide +kernel
      · exact fun s' H' C cl fp => pg_name nd rfl (Or.inl rfl) (.inr rfl)
      · rw [List.filter_eq_self.mpr fun _ _ => rfl]
        unfold lineOf
        rw [List.map_map]
        rfl
end
end K47
set_option Elab.async false
set_option linter.all false
set_option maxRecDepth 100000
set_option maxHeartbeats 2000000
namespace K47
open PySem PySem.Spec PyProof.Rows L2
/-! ### the least is one -/
theorem minA_le {α : Type} (enc : α → PyData) : ∀ (as : List α) (a x : α), x ∈ a :: as → PySem.W.dataLe false enc (minA enc a as) x = true := by
  have tl := PySem.W.sortLe_total (listOrd itemOrd) false fun b : α => PySem.W.keyToks (enc b)
  intro as
  induction as with
  | nil =>
    intro a x h
    rw [List.mem_singleton.mp h]
    exact tl.refl a
  | cons b as ih =>
    intro a x h
    show PySem.W.dataLe false enc (minA enc (if PySem.W.dataLt (enc b) (enc a) = true then b else a) as) x = true
    have key : PySem.W.dataLe false enc (if PySem.W.dataLt (enc b) (enc a) = true then b else a) a = true ∧ PySem.W.dataLe false enc (if PySem.W.dataLt (enc b) (enc a) = true then b else a) b = true := by
      by_cases c : PySem.W.dataLt (enc b) (enc a) = true
      · rw [if_pos c]
        refine ⟨?_, tl.refl b⟩
        rcases tl.total b a with z | z
        · exact z
        · have z2 : (!PySem.W.dataLt (enc b) (enc a)) = true := z
          rw [c] at z2
          cases z2
      · rw [if_neg c]
        refine ⟨tl.refl a, ?_⟩
        show (!PySem.W.dataLt (enc b) (enc a)) = true
        rw [Bool.eq_false_iff.mpr c]
        rfl
    have base := ih (if PySem.W.dataLt (enc b) (enc a) = true then b else a) _ List.mem_cons_self
    rcases List.mem_cons.mp h with rfl | h
    · exact tl.trans _ _ _ base key.1
    · rcases List.mem_cons.mp h with rfl | h
      · exact tl.trans _ _ _ base key.2
      · exact ih _ x (List.mem_cons_of_mem _ h)
theorem minA_same {α : Type} {enc : α → PyData} (he : EncOk enc) (al : ∀ a b, PySem.W.alike (enc a) (enc b) = true) {a b : α} {as bs : List α} (p : (a :: as).Perm (b :: bs)) : minA enc a as = minA enc b bs := by
  have h1 := minA_le enc as a _ (p.mem_iff.mpr (minA_mem enc bs b))
  have h2 := minA_le enc bs b _ (p.mem_iff.mp (minA_mem enc as a))
  have h3 : (!lexLt itemOrd (PySem.W.keyToks (enc (minA enc b bs))) (PySem.W.keyToks (enc (minA enc a as)))) = true := h1
  have h4 : (!lexLt itemOrd (PySem.W.keyToks (enc (minA enc a as))) (PySem.W.keyToks (enc (minA enc b bs)))) = true := h2
  rw [Bool.not_eq_true'] at h3 h4
  exact he.inj _ _ (toks_inj (al _ _) (he.good _).p (he.good _).p (lex_total _ _ h4 h3))
/-! ### rows are one, wherever one begins -/
section
variable {t : Tb} {T : Lab → Lab}
theorem orb_cons {T : Lab → Lab} {l : Lab} {n : Nat} (p : 1 ≤ n) : ∃ as, orb T l n = l :: as := by
  obtain ⟨m, rfl⟩ : ∃ m, n = m + 1 := ⟨n - 1, by omega⟩
  unfold orb
  rw [List.range_succ_eq_map, List.map_cons]
  exact ⟨_, rfl⟩
theorem Per.shift (M : MapOk t T) {l : Lab} {n : Nat} (h : LabOk t l) (p : Per T l n) (k : Nat) : Per T (it T k l) n := by
  refine ⟨p.p1, p.p64, ?_, fun j h1 h2 e => p.min_ j h1 h2 ?_⟩
  · rw [← it_add, Nat.add_comm, it_add, p.back]
  · rw [← it_add, Nat.add_comm, it_add] at e
    exact M.itInj k (M.it h j) h e
theorem Per.ret {l : Lab} {n : Nat} (p : Per T l n) (k : Nat) : ∃ j, it T j (it T k l) = l := by
  have back : ∀ q, it T (n * q) l = l := fun q => by
    induction q with
    | zero => rw [Nat.mul_zero]; rfl
    | succ q ih => rw [Nat.mul_succ, Nat.add_comm, it_add, ih, p.back]
  refine ⟨n * k - k, ?_⟩
  rw [← it_add]
  have z : k ≤ n * k := Nat.le_mul_of_pos_left k p.p1
  rw [show n * k - k + k = n * k by omega, back]
theorem mem_orb {l x : Lab} {n : Nat} (p : Per T l n) : x ∈ orb T l n ↔ ∃ k, it T k l = x := by
  refine ⟨fun h => ?_, fun ⟨k, e⟩ => by rw [← e]; exact p.all k⟩
  obtain ⟨k, _, e⟩ := List.mem_map.mp h
  exact ⟨k, e⟩
theorem orb_perm (M : MapOk t T) {l : Lab} {n : Nat} (h : LabOk t l) (p : Per T l n) (k : Nat) : (orb T (it T k l) n).Perm (orb T l n) := by
  refine (List.perm_ext_iff_of_nodup ((p.shift M h k).nodup M (M.it h k)) (p.nodup M h)).mpr fun x => ?_
  rw [mem_orb (p.shift M h k), mem_orb p]
  constructor
  · rintro ⟨j, e⟩
    exact ⟨j + k, by rw [it_add]; exact e⟩
  · rintro ⟨j, e⟩
    obtain ⟨i, e2⟩ := p.ret k
    exact ⟨j + i, by rw [it_add, e2]; exact e⟩
theorem rot_orb {l : Lab} {n : Nat} (p : Per T l n) {as : List Lab} (ea : orb T l n = l :: as) : rot (orb T l n) = orb T (minA eL l as) n := by
  have hm := minA_mem eL as l
  have hi := ixA_at hm
  have hl := ixA_lt hm
  have len := orb_len T l n
  have e0 : rot (orb T l n) = (orb T l n).drop (ixA (minA eL l as) (l :: as)) ++ (orb T l n).take (ixA (minA eL l as) (l :: as)) := by
    rw [ea]
    exact rot_cons
  have hi : (orb T l n)[ixA (minA eL l as) (l :: as)]? = some (minA eL l as) := by rw [ea]; exact hi
  have hl' : ixA (minA eL l as) (l :: as) < n := by rw [← len, ea]; exact hl
  rw [e0]
  generalize ixA (minA eL l as) (l :: as) = i at hi hl'
  have e1 : it T i l = minA eL l as := by
    rw [orb_get hl'] at hi
    exact Option.some.inj hi
  rw [← e1]
  refine List.ext_getElem? fun k => ?_
  rcases Nat.lt_or_ge k (n - i) with c | c
  · rw [List.getElem?_append_left (by rw [List.length_drop, len]; exact c), List.getElem?_drop, orb_get (by omega), orb_get (by omega), ← it_add, Nat.add_comm]
  · rw [List.getElem?_append_right (by rw [List.length_drop, len]; exact c), List.length_drop, len]
    rcases Nat.lt_or_ge k n with d | d
    · rw [List.getElem?_take, if_pos (by omega), orb_get (by omega), orb_get d, ← it_add]
      congr 1
      have z : k + i = (k - (n - i)) + n := by omega
      rw [z, it_add, p.back]
    · rw [List.getElem?_eq_none (by rw [List.length_take, len]; omega), List.getElem?_eq_none (by rw [orb_len]; exact d)]
theorem rot_same (M : MapOk t T) {l : Lab} {n : Nat} (h : LabOk t l) (p : Per T l n) (k : Nat) : rot (orb T (it T k l) n) = rot (orb T l n) := by
  obtain ⟨as, e1⟩ := orb_cons (T := T) (l := l) p.p1
  obtain ⟨bs, e2⟩ := orb_cons (T := T) (l := it T k l) p.p1
  have pm := orb_perm M h p k
  rw [rot_orb p e1, rot_orb (p.shift M h k) e2]
  rw [e1, e2] at pm
  rw [minA_same enc_L al_L pm]
end
section
variable {t : Tb} {ls : List Bool}
theorem rowOf_eq (ok : TbOk t) {l : Lab} {n : Nat} (p : Per (fun l => along t l ls) l n) : rowOf t l ls = rot (orb (fun l => along t l ls) l n) := by
  unfold rowOf
  rw [per_of p]
theorem rowOf_perm (ok : TbOk t) {l : Lab} {n : Nat} (p : Per (fun l => along t l ls) l n) : (rowOf t l ls).Perm (orb (fun l => along t l ls) l n) := by
  rw [rowOf_eq ok p]
  exact rot_perm _
theorem mem_rowOf (ok : TbOk t) {l x : Lab} (h : LabOk t l) : x ∈ rowOf t l ls ↔ ∃ k, it (fun l => along t l ls) k l = x := by
  obtain ⟨n, p⟩ := (along_map ok ls).per ok h
  rw [(rowOf_perm ok p).mem_iff, mem_orb p]
theorem rowOf_ok (ok : TbOk t) {l x : Lab} (h : LabOk t l) (m : x ∈ rowOf t l ls) : LabOk t x := by
  obtain ⟨k, e⟩ := (mem_rowOf ok h).mp m
  rw [← e]
  exact (along_map ok ls).it h k
theorem rowOf_self (ok : TbOk t) {l : Lab} (h : LabOk t l) : l ∈ rowOf t l ls := (mem_rowOf ok h).mpr ⟨0, rfl⟩
theorem rowOf_ne (ok : TbOk t) {l : Lab} (h : LabOk t l) : rowOf t l ls ≠ [] := fun e => by
  have z := rowOf_self (ls := ls) ok h
  rw [e] at z
  cases z
theorem rowOf_nodup (ok : TbOk t) {l : Lab} (h : LabOk t l) : (rowOf t l ls).Nodup := by
  obtain ⟨n, p⟩ := (along_map ok ls).per ok h
  exact (rowOf_perm ok p).nodup_iff.mpr (p.nodup (along_map ok ls) h)
theorem rowOf_few (ok : TbOk t) {l : Lab} (h : LabOk t l) : (rowOf t l ls).length ≤ 64 := labs_few ok (rowOf_nodup ok h) fun _ m => rowOf_ok ok h m
theorem rowOf_step (ok : TbOk t) {l x : Lab} (h : LabOk t l) (m : x ∈ rowOf t l ls) : along t x ls ∈ rowOf t l ls := by
  obtain ⟨k, e⟩ := (mem_rowOf ok h).mp m
  exact (mem_rowOf ok h).mpr ⟨k + 1, by rw [← e]; rfl⟩
theorem rowOf_same (ok : TbOk t) {l x : Lab} (h : LabOk t l) (m : x ∈ rowOf t l ls) : rowOf t x ls = rowOf t l ls := by
  obtain ⟨k, e⟩ := (mem_rowOf ok h).mp m
  subst e
  obtain ⟨n, p⟩ := (along_map ok ls).per ok h
  rw [rowOf_eq ok p, rowOf_eq ok (p.shift (along_map ok ls) h k)]
  exact rot_same (along_map ok ls) h p k
theorem rowOf_sym (ok : TbOk t) {l x : Lab} (h : LabOk t l) (m : x ∈ rowOf t l ls) : l ∈ rowOf t x ls := by
  rw [rowOf_same ok h m]
  exact rowOf_self ok h
end
/-! ### all the rows -/
noncomputable def rwStep (t : Tb) (ls : List Bool) (st : List (List Lab) × List Lab) (l : Lab) : List (List Lab) × List Lab := if memA l st.2 = true then st else (st.1 ++ [rowOf t l ls], st.2 ++ rowOf t l ls)
structure RwI (t : Tb) (ls : List Bool) (done : List Lab) (st : List (List Lab) × List Lab) : Prop where
  nd : st.2.Nodup
  ok : ∀ x ∈ st.2, LabOk t x
  cl : ∀ x ∈ st.2, along t x ls ∈ st.2
  fl : st.2 = st.1.flatten
  rw_ : ∀ r ∈ st.1, ∃ l, LabOk t l ∧ r = rowOf t l ls
  has : ∀ x ∈ done, x ∈ st.2
theorem RwI.first {t : Tb} {ls : List Bool} : RwI t ls [] ([], []) := ⟨List.nodup_nil, fun _ h => (nomatch h), fun _ h => (nomatch h), rfl, fun _ h => (nomatch h), fun _ h => (nomatch h)⟩
theorem RwI.it {t : Tb} {ls : List Bool} {done : List Lab} {st : List (List Lab) × List Lab} (I : RwI t ls done st) {x : Lab} (h : x ∈ st.2) : ∀ k, K47.it (fun l => along t l ls) k x ∈ st.2
  | 0 => h
  | k + 1 => I.cl _ (I.it h k)
theorem RwI.step {t : Tb} (ok : TbOk t) {ls : List Bool} {done : List Lab} {st : List (List Lab) × List Lab} (I : RwI t ls done st) {l : Lab} (hl : LabOk t l) : RwI t ls (done ++ [l]) (rwStep t ls st l) := by
  unfold rwStep
  by_cases c : memA l st.2 = true
  · rw [if_pos c]
    refine ⟨I.nd, I.ok, I.cl, I.fl, I.rw_, fun x h => ?_⟩
    rcases List.mem_append.mp h with h | h
    · exact I.has x h
    · rw [List.mem_singleton.mp h]
      exact memA_iff.mp c
  · rw [if_neg c]
    have nl : l ∉ st.2 := fun m => c (memA_iff.mpr m)
    refine ⟨List.nodup_append.mpr ⟨I.nd, rowOf_nodup ok hl, fun a ha b hb e => nl ?_⟩, fun x h => ?_, fun x h => ?_, ?_, fun r h => ?_, fun x h => ?_⟩
    · subst e
      obtain ⟨k, e2⟩ := (mem_rowOf ok (rowOf_ok ok hl hb)).mp (rowOf_sym ok hl hb)
      rw [← e2]
      exact I.it ha k
    · exact (List.mem_append.mp h).elim (I.ok x) fun m => rowOf_ok ok hl m
    · exact (List.mem_append.mp h).elim (fun m => List.mem_append_left _ (I.cl x m)) fun m => List.mem_append_right _ (rowOf_step ok hl m)
    · show st.2 ++ _ = (st.1 ++ [rowOf t l ls]).flatten
      rw [List.flatten_append, ← I.fl]
      simp
    · rcases List.mem_append.mp h with h | h
      · exact I.rw_ r h
      · exact ⟨l, hl, List.mem_singleton.mp h⟩
    · rcases List.mem_append.mp h with h | h
      · exact List.mem_append_left _ (I.has x h)
      · rw [List.mem_singleton.mp h]
        exact List.mem_append_right _ (rowOf_self ok hl)
noncomputable def rwFold (t : Tb) (ls : List Bool) (xs : List Lab) : List (List Lab) × List Lab := xs.foldl (rwStep t ls) ([], [])
theorem rwFold_succ {t : Tb} {ls : List Bool} {xs : List Lab} {i : Nat} {l : Lab} (h : xs[i]? = some l) : rwFold t ls (xs.take (i + 1)) = rwStep t ls (rwFold t ls (xs.take i)) l := by
  unfold rwFold
  rw [List.take_add_one, h, List.foldl_append]
  rfl
theorem rwFold_I {t : Tb} (ok : TbOk t) {ls : List Bool} {xs : List Lab} (h : ∀ x ∈ xs, LabOk t x) : ∀ i, i ≤ xs.length → RwI t ls (xs.take i) (rwFold t ls (xs.take i))
  | 0, _ => by rw [List.take_zero]; exact RwI.first
  | i + 1, hi => by
    have hx : xs[i]? = some xs[i] := List.getElem?_eq_getElem hi
    rw [rwFold_succ hx, List.take_add_one, hx]
    exact (rwFold_I ok h i (by omega)).step ok (h _ (List.getElem_mem hi))
theorem flat_count {α : Type} : ∀ {ls : List (List α)}, (∀ r ∈ ls, r ≠ []) → ls.length ≤ ls.flatten.length
  | [], _ => Nat.le_refl _
  | r :: ls, h => by
    have h1 := flat_count (ls := ls) fun r m => h r (List.mem_cons_of_mem _ m)
    have h2 := List.length_pos_iff.mpr (h r List.mem_cons_self)
    rw [List.flatten_cons, List.length_cons, List.length_append]
    omega
theorem RwI.few {t : Tb} (ok : TbOk t) {ls : List Bool} {done : List Lab} {st : List (List Lab) × List Lab} (I : RwI t ls done st) : st.2.length ≤ 64 ∧ st.1.length ≤ 64 := by
  have h := labs_few ok I.nd I.ok
  refine ⟨h, ?_⟩
  have z := flat_count (ls := st.1) fun r m => by
    obtain ⟨l, hl, e⟩ := I.rw_ r m
    rw [e]
    exact rowOf_ne ok hl
  rw [← I.fl] at z
  omega
noncomputable def rowsU (t : Tb) (s : Slp) : List (List Lab) := (rwFold t (turn s) (labelsL t)).1
noncomputable def rowsL (t : Tb) (s : Slp) : List (List Lab) := srt eRow (rowsU t s)
end K47
set_option Elab.async false
set_option linter.all false
set_option maxRecDepth 100000
set_option maxHeartbeats 2000000
namespace K47
open PySem PySem.Spec PyProof.Rows L2
theorem eqv_nil (xs : List PyData) : PyData.eqv (.list xs) (.list []) = xs.isEmpty := by
  cases xs <;> simp [PyData.eqv, PyData.eqvAll]
/-- the corners of the labels that are not kept -/
noncomputable def lostL (t : Tb) : List Cor := ((labelsL t).filter fun l => !memA l (keptL t)).map corOf
noncomputable def openF (t : Tb) (ps : List (List Cor)) : List Cor := (ps.filter fun r => (r.filter fun c => memA c (lostL t)).isEmpty).flatten
noncomputable def openL (t : Tb) : List Cor := openF t (ptsL t)
theorem openF_succ {t : Tb} {ps : List (List Cor)} {i : Nat} {r : List Cor} (h : ps[i]? = some r) : openF t (ps.take (i + 1)) = openF t (ps.take i) ++ (if (r.filter fun c => memA c (lostL t)).isEmpty = true then r else []) := by
  rw [List.take_add_one, h]
  unfold openF
  rw [List.filter_append, List.flatten_append]
  congr 1
  by_cases c : (r.filter fun c => memA c (lostL t)).isEmpty = true
  · rw [if_pos c]
    show (List.filter _ [r]).flatten = r
    rw [List.filter_cons, if_pos c]
    simp
  · rw [if_neg c]
    show (List.filter _ [r]).flatten = []
    rw [List.filter_cons, if_neg c]
    rfl
theorem pt_few {t : Tb} (ok : TbOk t) {r : List Cor} (h : r ∈ ptsL t) : r.length ≤ 16 := by
  obtain ⟨c, hc, rfl⟩ := mem_ptsL.mp h
  have p := pt_ok ok hc
  exact corners_few ok p.nd fun d hd => ((p.re d).mp hd).ok ok hc
theorem nub_len {α : Type} [DecidableEq α] : ∀ bs : List α, (nub bs).length ≤ bs.length
  | [] => Nat.le_refl _
  | b :: bs => by
    have ih := nub_len bs
    rw [nub_cons]
    split
    · rw [List.length_cons]; omega
    · rw [List.length_cons, List.length_cons]; omega
theorem ptsL_few {t : Tb} (ok : TbOk t) : (ptsL t).length ≤ 16 := by
  unfold ptsL
  rw [(srt_perm _).length_eq]
  have h := nub_len ((cornersL t.size).map (ptL t))
  rw [List.length_map] at h
  have := cornersL_few ok.s4
  omega
theorem flat_le {α : Type} {k : Nat} : ∀ {ls : List (List α)}, (∀ r ∈ ls, r.length ≤ k) → ls.flatten.length ≤ ls.length * k
  | [], _ => Nat.zero_le _
  | r :: ls, h => by
    have h1 := flat_le (ls := ls) fun r m => h r (List.mem_cons_of_mem _ m)
    have h2 := h r List.mem_cons_self
    rw [List.flatten_cons, List.length_append, List.length_cons, Nat.add_mul, Nat.one_mul]
    omega
theorem openF_few {t : Tb} (ok : TbOk t) (i : Nat) : (openF t ((ptsL t).take i)).length ≤ 256 := by
  have h1 : ∀ r ∈ ((ptsL t).take i).filter fun r => (r.filter fun c => memA c (lostL t)).isEmpty, r.length ≤ 16 := fun r m => pt_few ok (List.mem_of_mem_take (List.mem_filter.mp m).1)
  have h2 := flat_le h1
  have h3 := List.length_filter_le (fun r => (r.filter fun c => memA c (lostL t)).isEmpty) ((ptsL t).take i)
  have h4 : ((ptsL t).take i).length ≤ 16 := by
    have := ptsL_few ok
    rw [List.length_take]
    omega
  unfold openF
  omega
theorem openL_few {t : Tb} (ok : TbOk t) : (openL t).length ≤ 256 := by
  have h := openF_few ok (ptsL t).length
  rw [List.take_length] at h
  exact h
/-- the law's row above: the row of rows where the line begins -/
def dueL (t : Tb) (s : Slp) (row : List Lab) (rows : List (List Lab)) (free : List Cor) : Option (List Lab) :=
  if (lineOf t s row).all (fun l => memA (corOf l) free) = true then (rows.filter fun r => memA ((lineOf t s row).getD 0 (0, 0, 0, 0)) r)[0]? else none
theorem all_nil {α : Type} {p : α → Bool} : ∀ {xs : List α}, (xs.filter fun x => !p x).isEmpty = xs.all p
  | [] => rfl
  | x :: xs => by
    rw [List.filter_cons, List.all_cons]
    cases p x with
    | true => exact all_nil (xs := xs)
    | false => rfl
section
variable {P : Program} {w : World} {K : PySem.W.Frag} {mg : Str → Option Value} {base : Heap}
theorem b_rows (G : G47 K mg) : Cl P w K mg base 5 "_law_rows" (fun rs Q => ∃ t s, rs = [.d (eT t), .d (eSl s)] ∧ TbOk t ∧ SlpOk s ∧ Q (.fr ((rowsL t s).map eRow))) := by
  refine cal_data (G.at 59 "_law_rows" s_Lrows) sc_Lrows (fun _ _ _ _ _ _ us hl => match us, hl with | [_, _], _ => rfl) (fun rs Q h => ?_) (by decide) fun f cdv A outer s H E b rs Q as hr hw => ?_
  · obtain ⟨_, _, rfl, _⟩ := h; rfl
  · obtain ⟨t, s, rfl, ok, so, k⟩ := hw
    show SSX _ _ _ [_, _, _, _, _, _] _ _
    have nd := sc_Lrows.nd
    have hu := room65 hr
    have lo : ∀ x ∈ labelsL t, LabOk t x := fun x h => labelsL_ok.mp h
    have I := fun i (h : i ≤ (labelsL t).length) => rwFold_I (ls := turn s) ok lo i h
    refine ssx_cons (sx_par3 2 3 4 rfl (ad_cons ((ed_cat (xs := (cross s.1 s.2).map eU) (ys := [eU true, eU false]) (ed_c (b_crossings G) hr (by omega) (ad_cons (ed_var 1) ad_nil) ⟨s, rfl, so.p, so.q, so.le, rfl⟩) (ed_lst (ad_cons ed_str (ad_cons ed_str ad_nil))) ?_).cast (r' := .fr ((turn s).map eU)) ?_) (ad_cons (ed_lst ad_nil) (ad_cons (ed_lst ad_nil) ad_nil))) (fun rs e => ⟨_, _, _, _, _, _, e, rfl, rfl, rfl, ?_⟩) nd)
    · have cl := cross_len s.1 s.2
      have := so.le
      rw [List.length_map]
      show _ + 2 ≤ _
      omega
    · unfold turn
      rw [List.map_append]
      rfl
    · refine ssx_cons (sx_forA (labelsL t) eL (ix_tmp (ed_c (b_labels G) hr (by omega) (ad_cons (ed_var 0) ad_nil) ⟨t, rfl, ok.s4, ok.m4, rfl⟩)) (fun i => [.d (eT t), .d (eSl s), .ow ((turn s).map eU), .ow ((rwFold t (turn s) ((labelsL t).take i)).1.map eRow), .ow ((rwFold t (turn s) ((labelsL t).take i)).2.map eL), .un]) (lo_same (lo_same (lo_same (lo_same (lo_same (lo_un lo_nil)))))) (fun Hb' i l hi => ?_) ?_ ?_)
      · refine gx_name 5 ?_ nd
        have hl : LabOk t l := lo l (List.mem_of_getElem? hi)
        have hlt := (List.getElem?_eq_some_iff.mp hi).1
        have Ii := I i (by omega)
        obtain ⟨f1, f2⟩ := Ii.few ok
        have e1 := rwFold_succ (t := t) (ls := turn s) hi
        generalize rwFold t (turn s) ((labelsL t).take i) = st at Ii f1 f2 e1
        refine ssx_one (sx_ifD (td_ninL hu enc_L (x := l) (ys := st.2) (ed_var 5) (ed_var 4)) (fun h => ?_) fun h => ssx_nil ?_)
        · rw [Bool.not_eq_true'] at h
          have e2 : rwStep t (turn s) st l = (st.1 ++ [rowOf t l (turn s)], st.2 ++ rowOf t l (turn s)) := if_neg (by rw [h]; exact Bool.false_ne_true)
          have rf := rowOf_few (ls := turn s) ok hl
          refine ssx_cons (sx_append 3 (ed_c (b_row G) hr (by omega) (ad_cons (ed_var 0) (ad_cons (ed_var 5) (ad_cons (ed_var 2) ad_nil))) ⟨t, l, turn s, rfl, ok, hl, rfl⟩) fun r e => ⟨_, e, ?_, ?_⟩)
          · rw [List.length_map, sizeLine_eq]
            omega
          · refine ssx_one (sx_extendT 4 (P := fun z => z = .d (eRow (rowOf t l (turn s)))) (ed_ixL (d := eRow (rowOf t l (turn s))) (ed_var 3) (ed_neg ed_int) (atI_last _ _)) fun z e => ⟨_, e, ?_, ?_⟩)
            · rw [List.length_map, List.length_map]
              omega
            · rw [e1, e2]
              refine lo_same (lo_same (lo_same (lo_eq ?_ (lo_eq ?_ (lo_un lo_nil)))))
              · rw [List.map_append]
                rfl
              · rw [List.map_append]
        · rw [Bool.not_eq_false'] at h
          have e2 : rwStep t (turn s) st l = st := if_pos h
          rw [e1, e2]
          exact lo_same (lo_same (lo_same (lo_same (lo_same (lo_un lo_nil)))))
      · rw [List.take_length]
        have Ii := I (labelsL t).length (Nat.le_refl _)
        rw [List.take_length] at Ii
        obtain ⟨f1, f2⟩ := Ii.few ok
        refine ssx_one (sx_retF (ed_sortL hu G.sorted enc_Row (bs := rowsU t s) (ed_var 3) (so_Row fun r m => ?_) ?_) k)
        · obtain ⟨l, hl, e⟩ := Ii.rw_ r m
          rw [e]
          exact rowOf_ne ok hl
        · show (rwFold t (turn s) (labelsL t)).1.length ≤ _
          omega
      · intro p hp
        simp [brs] at hp
theorem b_openPoints (G : G47 K mg) : Cl P w K mg base 5 "_law_open_points" (fun rs Q => ∃ t, rs = [.d (eT t)] ∧ TbOk t ∧ Q (.fr ((openL t).map eC))) := by
  refine cal_data (G.at 61 "_law_open_points" s_Lopen_points) sc_Lopen_points (fun _ _ _ _ _ _ us hl => match us, hl with | [_], _ => rfl) (fun rs Q h => ?_) (by decide) fun f cdv A outer s H E b rs Q as hr hw => ?_
  · obtain ⟨_, rfl, _⟩ := h; rfl
  · obtain ⟨t, rfl, ok, k⟩ := hw
    show SSX _ _ _ [_, _, _, _, _, _, _] _ _
    have nd := sc_Lopen_points.nd
    have hu := room65 hr
    refine ssx_cons (sx_parC 1 2 (ad_cons (ed_c (b_kept G) hr (by omega) (ad_cons (ed_var 0) ad_nil) ⟨t, rfl, ok, rfl⟩) (ad_cons (ed_lst ad_nil) ad_nil)) (fun rs e => ⟨_, _, _, _, e, rfl, rfl, ?_⟩) nd)
    refine ssx_cons (sx_setF 3 (xs := (lostL t).map eC) ((ed_lc 5 (labelsL t) eL (fun l => !memA l (keptL t)) (fun l => eC (corOf l)) (ix_tmp (ed_c (b_labels G) hr (by omega) (ad_cons (ed_var 0) ad_nil) ⟨t, rfl, ok.s4, ok.m4, rfl⟩)) (fun s' H' C cl fp a ha => tsx_one (td_ninL hu enc_L (ed_var 5) (ed_var 1))) (fun s' H' C cl fp a ha pa => ?_) ?_ ?_ nd ?_).cast ?_) ?_ nd)
    · exact ed_slT (ds := [.int a.1, .int a.2.1, .int a.2.2.1, .int a.2.2.2]) (l := none) (h := some 3) (ed_var 5) po_no (po_yes ed_int)
    · have := ok.labs
      omega
    · refine bk_Lopen_points _ _ ?_
      decide +kernel
    · exact fun s' H' C cl fp => pg_name nd rfl (Or.inl rfl) (.inr rfl)
    · unfold lostL
      rw [List.map_map]
      rfl
    · refine ssx_cons (sx_forA (ptsL t) ePt (ix_tmp (ed_c (b_points G) hr (by omega) (ad_cons (ed_var 0) ad_nil) ⟨t, rfl, ok, rfl⟩)) (fun i => [.d (eT t), .ow ((keptL t).map eL), .ow ((openF t ((ptsL t).take i)).map eC), .ow ((lostL t).map eC), .un, .un, .un]) (lo_same (lo_same (lo_same (lo_same (lo_un (lo_un (lo_un lo_nil))))))) (fun Hb' i r hi => ?_) ?_ ?_)
      · refine gx_name 4 ?_ nd
        have rf := pt_few ok (List.mem_of_getElem? hi)
        refine ssx_one (sx_ifD (c := (r.filter fun c => memA c (lostL t)).isEmpty) ((td_eqD hu (ed_lc 6 r eC (fun c => memA c (lostL t)) eC (ix_tup (ed_var 4)) (fun s' H' C cl fp a ha => tsx_one (td_inL hu enc_C (ed_var 6) (ed_var 3))) (fun s' H' C cl fp a ha pa => ed_var 6) ?_ ?_ nd ?_) (ed_lst ad_nil) ?_ ?_).cast ?_) (fun h => ?_) fun h => ssx_nil ?_)
        · omega
        · refine bk_Lopen_points _ _ ?_
          decide +kernel
        · exact fun s' H' C cl fp => pg_name nd rfl (Or.inl rfl) (.inr rfl)
        · intro d m
          obtain ⟨c, _, rfl⟩ := List.mem_map.mp m
          exact enc_C.good c
        · exact fun d m => nomatch m
        · rw [eqv_nil, List.isEmpty_map]
        · refine ssx_one (sx_extendT 2 (P := fun z => z = .d (ePt r)) (ed_var 4) fun z e => ⟨_, e, ?_, ?_⟩)
          · have := openF_few ok i
            rw [List.length_map, List.length_map]
            omega
          · refine lo_same (lo_same (lo_eq ?_ (lo_same (lo_un (lo_un (lo_un lo_nil))))))
            rw [openF_succ hi, if_pos h, List.map_append]
        · refine lo_same (lo_same (lo_eq ?_ (lo_same (lo_un (lo_un (lo_un lo_nil))))))
          rw [openF_succ hi, if_neg (by rw [h]; exact Bool.false_ne_true), List.append_nil]
      · rw [List.take_length]
        exact ssx_one (sx_retO (ed_var 2) k)
      · intro p hp
        simp [brs] at hp
theorem b_rowAbove (G : G47 K mg) : Cl P w K mg base 5 "_law_row_above" (fun rs Q => ∃ t s row rows free, rs = [.d (eT t), .d (eSl s), .d (eRow row), .ls (rows.map eRow), .ls (free.map eC)] ∧ TbOk t ∧ SlpOk s ∧ row ≠ [] ∧ row.length ≤ 64 ∧ (∀ l ∈ row, LabOk t l) ∧ rows.length ≤ 1000 ∧ (∀ l ∈ lineOf t s row, ∃ r ∈ rows, l ∈ r) ∧ Q (.d (eOr (dueL t s row rows free)))) := by
  refine cal_data (G.at 62 "_law_row_above" s_Lrow_above) sc_Lrow_above (fun _ _ _ _ _ _ us hl => match us, hl with | [_, _, _, _, _], _ => rfl) (fun rs Q h => ?_) (by decide) fun f cdv A outer s H E b rs Q as hr hw => ?_
  · obtain ⟨_, _, _, _, _, rfl, _⟩ := h; rfl
  · obtain ⟨t, s, row, rows, free, rfl, ok, so, hne, h64, hrow, hrows, hin, k⟩ := hw
    show SSX _ _ _ [_, _, _, _, _, _, _, _] _ _
    have nd := sc_Lrow_above.nd
    have hu := room65 hr
    have ll : (lineOf t s row).length = row.length := by unfold lineOf; rw [List.length_map]
    have k2 : ∀ z, dueL t s row rows free = z → Q (.d (eOr z)) := fun z e => by rw [← e]; exact k
    unfold dueL at k2
    refine ssx_cons (sx_setF 5 (xs := (lineOf t s row).map eL) (ed_c (b_over G) hr (by omega) (ad_cons (ed_var 0) (ad_cons (ed_var 1) (ad_cons (ed_var 2) ad_nil))) ⟨t, s, row, rfl, ok, so, h64, hrow, rfl⟩) ?_ nd)
    refine ssx_cons (sx_ifD (c := !(lineOf t s row).all fun l => memA (corOf l) free) ((td_neD hu (ed_lc 6 (lineOf t s row) eL (fun l => !memA (corOf l) free) eL (ix_slot 5) (fun s' H' C cl fp a ha => tsx_one (td_ninL hu enc_C (x := corOf a) (ys := free) (ed_slT (ds := [.int a.1, .int a.2.1, .int a.2.2.1, .int a.2.2.2]) (l := none) (h := some 3) (ed_var 6) po_no (po_yes ed_int)) (ed_var 4))) (fun s' H' C cl fp a ha pa => ed_var 6) ?_ ?_ nd ?_) (ed_lst ad_nil) ?_ ?_).cast ?_) (fun h => ?_) fun h => ssx_nil ?_)
    · omega
    · refine bk_Lrow_above _ _ ?_
      decide +kernel
    · exact fun s' H' C cl fp => pg_name nd rfl (Or.inl rfl) (.inr rfl)
    · intro d m
      obtain ⟨c, _, rfl⟩ := List.mem_map.mp m
      exact enc_L.good c
    · exact fun d m => nomatch m
    · rw [eqv_nil, List.isEmpty_map, all_nil]
    · rw [Bool.not_eq_true'] at h
      exact ssx_one (sx_retD ed_non (k2 none (if_neg (by rw [h]; exact Bool.false_ne_true))))
    · rw [Bool.not_eq_false'] at h
      have h0 : 0 < (lineOf t s row).length := by
        rw [ll]
        exact List.length_pos_iff.mpr hne
      have m0 : (lineOf t s row).getD 0 (0, 0, 0, 0) ∈ lineOf t s row := by
        rw [List.getD_eq_getElem?_getD, List.getElem?_eq_getElem h0]
        exact List.getElem_mem h0
      obtain ⟨r, hr2, hm⟩ := hin _ m0
      obtain ⟨one, he⟩ : ∃ one, (rows.filter fun r => memA ((lineOf t s row).getD 0 (0, 0, 0, 0)) r)[0]? = some one := by
        have hp : 0 < (rows.filter fun r => memA ((lineOf t s row).getD 0 (0, 0, 0, 0)) r).length := List.length_pos_iff.mpr (List.ne_nil_of_mem (List.mem_filter.mpr ⟨hr2, memA_iff.mpr hm⟩))
        exact ⟨_, List.getElem?_eq_getElem hp⟩
      refine ssx_one (sx_retD (ed_ixL (ed_lc 7 rows eRow (fun r => memA ((lineOf t s row).getD 0 (0, 0, 0, 0)) r) eRow (ix_rd 3) (fun s' H' C cl fp a ha => tsx_one (td_inT hu enc_L (ed_ixL (ed_var 5) ed_int (atI_get (i := 0) (d := (0, 0, 0, 0)) h0)) (ed_var 7))) (fun s' H' C cl fp a ha pa => ed_var 7) ?_ ?_ nd ?_) ed_int (atI_map (i := 0) he)) (k2 (some one) ?_))
      · omega
      · refine bk_Lrow_above _ _ ?_
        decide +kernel
      · exact fun s' H' C cl fp => pg_name nd rfl (Or.inl rfl) (.inr rfl)
      · rw [if_pos h]
        exact he
end
end K47
set_option Elab.async false
set_option linter.all false
set_option maxRecDepth 100000
set_option maxHeartbeats 2000000
namespace K47
open PySem PySem.Spec PyProof.Rows L2
/-! ### ints of which little is known -/
/-- an int of p -/
def IP (p : Int → Prop) : Rs → Prop := fun r => ∃ n : Int, p n ∧ r = .d (.int n)
section
variable {X : Cx} {b : Option Addr} {Hb : Hp} {Δ : List Sl} {e f g : Expr} {es : List Expr} {pos : Pos} {P P' : Rs → Prop} {K : PySem.W.Frag} {H H1 H2 H0 : Hp} {σ : L2.St} {D : Dn} {p q s : Int → Prop}
theorem ED.ip {n : Int} (h : ED X b Hb Δ e (.d (.int n))) (k : p n) : EX X b Hb Δ e (IP p) := h.to ⟨n, k, rfl⟩
theorem ex_addI (ha : EX X b Hb Δ e (IP p)) (hb : EX X b Hb Δ f (IP q)) (k : ∀ i j, p i → q j → s (i + j)) : EX X b Hb Δ (.BinOp e .Add f pos) (IP s) :=
  ex_op2 op_add ha hb fun r t ⟨i, hi, er⟩ ⟨j, hj, et⟩ => by
    subst er et
    exact fun H0 H x y bb f0 f1 rr ss Q z => (opd_I0 (d := .int (i + j)) fun _ => .int _) H0 H x y bb f0 f1 rr ss Q fun v H' u e => z v H' u ⟨_, k i j hi hj, e⟩
theorem ex_mulI (ha : EX X b Hb Δ e (IP p)) (hb : EX X b Hb Δ f (IP q)) (k : ∀ i j, p i → q j → CMul i j ∧ s (i * j)) : EX X b Hb Δ (.BinOp e .Mult f pos) (IP s) :=
  ex_op2 op_mul ha hb fun r t ⟨i, hi, er⟩ ⟨j, hj, et⟩ => by
    subst er et
    exact fun H0 H x y bb f0 f1 rr ss Q z => (opd_I (d := .int (i * j)) (k i j hi hj).1 fun _ => .int _) H0 H x y bb f0 f1 rr ss Q fun v H' u e => z v H' u ⟨_, (k i j hi hj).2, e⟩
theorem ex_modI (ha : EX X b Hb Δ e (IP p)) (hb : EX X b Hb Δ f (IP q)) (k : ∀ i j, p i → q j → 0 < j ∧ s (i % j)) : EX X b Hb Δ (.BinOp e .Mod f pos) (IP s) :=
  ex_op2 op_mod ha hb fun r t ⟨i, hi, er⟩ ⟨j, hj, et⟩ => by
    subst er et
    exact fun H0 H x y bb f0 f1 rr ss Q z => (opd_I (C := fun _ j => 0 < j) (gg := fun i j => .int (i % j)) (d := .int (i % j)) (k i j hi hj).1 fun _ => .int _) H0 H x y bb f0 f1 rr ss Q fun v H' u e => z v H' u ⟨_, (k i j hi hj).2, e⟩
theorem ex_divI (ha : EX X b Hb Δ e (IP p)) (hb : EX X b Hb Δ f (IP q)) (k : ∀ i j, p i → q j → CDiv i j ∧ s (i / j)) : EX X b Hb Δ (.BinOp e .FloorDiv f pos) (IP s) :=
  ex_op2 op_fdiv ha hb fun r t ⟨i, hi, er⟩ ⟨j, hj, et⟩ => by
    subst er et
    exact fun H0 H x y bb f0 f1 rr ss Q z => (opd_I (d := .int (i / j)) (k i j hi hj).1 fun _ => .int _) H0 H x y bb f0 f1 rr ss Q fun v H' u e => z v H' u ⟨_, (k i j hi hj).2, e⟩
theorem ed_pow {i j : Int} (ha : ED X b Hb Δ e (.d (.int i))) (hb : ED X b Hb Δ f (.d (.int j))) (hc : CPow i j) : ED X b Hb Δ (.BinOp e .Pow f pos) (.d (.int (i ^ j.toNat))) := ed_op2 op_pow (opd_I hc fun _ => .int _) ha hb
/-- int(an int) -/
theorem ex_toInt {pp : Pos} (hm : X.mg "int" = none) (ha : EX X b Hb Δ e (IP p)) (hg : Gl X "int" := by rfl) (hst : starEach [e] X.env = (false, eval e X.env) :: starEach [] X.env := by rfl) : EX X b Hb Δ (.Call (.Name "int" pp) [e] [] pos) (IP p) :=
  ex_callTy call_int1 hg hm (by decide +kernel) (ax_cons (Pr := fun rs => rs = []) (P := fun rs => ∃ r, IP p r ∧ rs = [r]) ha ad_nil (fun r rs hr e => ⟨r, hr, by rw [e]⟩) hst) (fun rs ⟨r, ⟨i, hi, er⟩, e⟩ H0 H vs bb f0 f1 kk Q z => by
    subst e er
    cases kk with
    | cons h t _ =>
      cases t
      cases h
      exact .inl ⟨i, rfl, z _ _ _ ⟨i, hi, rfl⟩ .refl (.int _)⟩) (by decide) (by decide) hst
/-- a comparison of ints, whichever way it goes -/
theorem tx_cmpI {op : CmpOp} {r2 : R2} (ho : OpR X (compareOp op) r2) (hr : ∀ (i j : Int) (H : Hp) (Q : VK), (∀ c, Q (.bl c) H) → r2 (.int i) (.int j) H Q) (ha : EX X b Hb Δ e (IP p)) (hb : EX X b Hb Δ f (IP q)) (hm : behindInMarks op f = false := by first | exact nomark _ | rfl) : TX X b Hb Δ (.Compare e [op] [f] pos) (fun _ => True) :=
  pt_imp (pt_cmpR ho ha hb hm) fun σ H Q q => ⟨q.1, fun x H1 r p1 f1 k1 => ⟨q.1.step f1, fun y H2 s p2 f2 k2 => by
    obtain ⟨i, _, er⟩ := p1
    obtain ⟨j, _, es⟩ := p2
    subst er es
    cases k1
    cases k2
    exact hr _ _ _ _ fun c => ⟨c, rfl, q.2 c H2 trivial (f1.trans f2)⟩⟩⟩
theorem tx_eqI (ha : EX X b Hb Δ e (IP p)) (hb : EX X b Hb Δ f (IP q)) : TX X b Hb Δ (.Compare e [.Eq] [f] pos) (fun _ => True) := tx_cmpI op_eq (fun i j H Q h => ⟨rfl, h _⟩) ha hb (nobehind _ (by decide) (by decide))
theorem tx_gtI (ha : EX X b Hb Δ e (IP p)) (hb : EX X b Hb Δ f (IP q)) : TX X b Hb Δ (.Compare e [.Gt] [f] pos) (fun _ => True) := tx_cmpI op_gt (fun i j H Q h => ⟨i, j, rfl, rfl, h _⟩) ha hb (nobehind _ (by decide) (by decide))
theorem tx_geI (ha : EX X b Hb Δ e (IP p)) (hb : EX X b Hb Δ f (IP q)) : TX X b Hb Δ (.Compare e [.GtE] [f] pos) (fun _ => True) := tx_cmpI op_ge (fun i j H Q h => ⟨i, j, rfl, rfl, h _⟩) ha hb (nobehind _ (by decide) (by decide))
/-! ### the drawing list, read -/
abbrev Nn (n : Int) : Prop := 0 ≤ n
abbrev Seed (n : Int) : Prop := 0 ≤ n ∧ n < 2147483647
structure BagV (n g i : Int) (ns : List Int) : Prop where
  n : Nn n
  g : Seed g
  i : Nn i
  len : ns.length ≤ 100
  nn : ∀ x ∈ ns, 0 ≤ x
theorem bag_at {i : Nat} (e : En K b Hb Δ σ H) (hi : Δ[i]? = some .bag) : ∃ a c n g k ns, σ[i]? = some (some (.ref a)) ∧ b = some a ∧ H a = some (.lst [.int n, .int g, .int k, .ref c]) ∧ H c = some (.lst (ns.map V.int)) ∧ c ≠ a ∧ BagV n g k ns := by
  obtain ⟨o, e1, a, e2, e3⟩ := e.at_ i .bag hi
  subst e2
  obtain ⟨c, n, g, k, ns, h1, h2, h3, h4, h5, h6, h7, h8, h9⟩ := e.bagH a e3
  exact ⟨a, c, n, g, k, ns, e1, e3, h1, h2, h3, h4, ⟨h5, h6⟩, h7, h8, h9⟩
theorem dts_ints : ∀ {ns : List Int}, Dts H (ns.map V.int) (ns.map PyData.int)
  | [] => .nil
  | n :: _ => .cons (.int n) dts_ints
theorem ex_bag (i : Nat) (j : Int) {x : Str} {p1 p2 : Pos} {jj} (k : ∀ (n g k : Int) (ns : List Int) (c : Addr), BagV n g k ns → ∃ v r, atI [V.int n, .int g, .int k, .ref c] j = some v ∧ P r ∧ ∀ (H : Hp), some c ≠ b → H c = some (.lst (ns.map V.int)) → RsOk X.K b Hb H H v r)
    (hi : Δ[i]? = some .bag := by rfl) (hN : X.N[i]? = some x := by rfl) (hv : Vis X.env.scope x := by first | exact Or.inl rfl | exact Or.inr (Or.inl rfl) | exact Or.inr (Or.inr rfl))
    (hd : (x == ("__debug__" : Str)) = false := by decide) (hcd : (x == ("__classdict__" : Str)) = false := by decide) (hs : PlainIx (.Constant (.int j) jj p2) := by exact fun _ _ => rfl) : EX X b Hb Δ (.Subscript (.Name x p1) (.Constant (.int j) jj p2) pos) P :=
  pe_imp (pe_ix ix_list (pe_var hN hv hd hcd) pe_int hs) fun σ H Q q => by
    obtain ⟨a, c, n, g, m, ns, e1, e2, e3, e4, e5, B⟩ := bag_at q.1 hi
    obtain ⟨v, r, k1, k2, k3⟩ := k n g m ns c B
    refine ⟨.ref a, e1, a, _, j, v, rfl, rfl, SqL.of e3, k1, q.2 v H r k2 .refl (k3 H ?_ e4)⟩
    rw [e2]
    exact fun z => e5 (Option.some.inj z)
theorem ex_bag0 (i : Nat) {x : Str} {p1 p2 : Pos} {jj} (hi : Δ[i]? = some .bag := by rfl) (hN : X.N[i]? = some x := by rfl) (hv : Vis X.env.scope x := by first | exact Or.inl rfl | exact Or.inr (Or.inl rfl) | exact Or.inr (Or.inr rfl))
    (hd : (x == ("__debug__" : Str)) = false := by decide) (hcd : (x == ("__classdict__" : Str)) = false := by decide) : EX X b Hb Δ (.Subscript (.Name x p1) (.Constant (.int 0) jj p2) pos) (IP Nn) :=
  ex_bag i 0 (fun n g k ns c B => ⟨.int n, .d (.int n), rfl, ⟨n, B.n, rfl⟩, fun H _ _ => .int _⟩) hi hN hv hd hcd
theorem ex_bag1 (i : Nat) {x : Str} {p1 p2 : Pos} {jj} (hi : Δ[i]? = some .bag := by rfl) (hN : X.N[i]? = some x := by rfl) (hv : Vis X.env.scope x := by first | exact Or.inl rfl | exact Or.inr (Or.inl rfl) | exact Or.inr (Or.inr rfl))
    (hd : (x == ("__debug__" : Str)) = false := by decide) (hcd : (x == ("__classdict__" : Str)) = false := by decide) : EX X b Hb Δ (.Subscript (.Name x p1) (.Constant (.int 1) jj p2) pos) (IP Seed) :=
  ex_bag i 1 (fun n g k ns c B => ⟨.int g, .d (.int g), rfl, ⟨g, B.g, rfl⟩, fun H _ _ => .int _⟩) hi hN hv hd hcd
theorem ex_bag2 (i : Nat) {x : Str} {p1 p2 : Pos} {jj} (hi : Δ[i]? = some .bag := by rfl) (hN : X.N[i]? = some x := by rfl) (hv : Vis X.env.scope x := by first | exact Or.inl rfl | exact Or.inr (Or.inl rfl) | exact Or.inr (Or.inr rfl))
    (hd : (x == ("__debug__" : Str)) = false := by decide) (hcd : (x == ("__classdict__" : Str)) = false := by decide) : EX X b Hb Δ (.Subscript (.Name x p1) (.Constant (.int 2) jj p2) pos) (IP Nn) :=
  ex_bag i 2 (fun n g k ns c B => ⟨.int k, .d (.int k), rfl, ⟨k, B.i, rfl⟩, fun H _ _ => .int _⟩) hi hN hv hd hcd
/-- lists of ints, nothing below nought -/
structure Ns (ns : List Int) : Prop where
  len : ns.length ≤ 100
  nn : ∀ x ∈ ns, 0 ≤ x
theorem ex_bag3 (i : Nat) {x : Str} {p1 p2 : Pos} {jj} (hi : Δ[i]? = some .bag := by rfl) (hN : X.N[i]? = some x := by rfl) (hv : Vis X.env.scope x := by first | exact Or.inl rfl | exact Or.inr (Or.inl rfl) | exact Or.inr (Or.inr rfl))
    (hd : (x == ("__debug__" : Str)) = false := by decide) (hcd : (x == ("__classdict__" : Str)) = false := by decide) : EX X b Hb Δ (.Subscript (.Name x p1) (.Constant (.int 3) jj p2) pos) (fun r => ∃ ns, Ns ns ∧ r = .ls (ns.map PyData.int)) :=
  ex_bag i 3 (fun n g k ns c B => ⟨.ref c, .ls (ns.map PyData.int), rfl, ⟨ns, ⟨B.len, B.nn⟩, rfl⟩, fun H nb hc => ⟨c, _, rfl, nb, SqL.of hc, dts_ints⟩⟩) hi hN hv hd hcd
/-- xs[n:], both unknown -/
theorem ex_slN {p2 : Pos} (ha : EX X b Hb Δ e (fun r => ∃ ns, Ns ns ∧ r = .ls (ns.map PyData.int))) (hf : EX X b Hb Δ f (IP p)) : EX X b Hb Δ (.Subscript e (.Slice (some f) none none p2) pos) (fun r => ∃ ns, Ns ns ∧ r = .fr (ns.map PyData.int)) := by
  have hl : PO X (some f) (fun σ H Q => En X.K b Hb Δ σ H ∧ ∀ i H', Fr b H H' → Q (some i) H') := ⟨fun pins s σ H Q I q => (po_some hf).run pins s σ H Q I ⟨q.1, fun v H1 r ⟨i, _, er⟩ f1 k1 => by
    subst er
    cases k1
    exact ⟨i, rfl, q.2 i H1 f1⟩⟩⟩
  refine pe_imp (pe_slice sl_list ha hl (po_no (X := X) (b := b) (Hb := Hb) (Δ := Δ))) fun σ H Q q => ⟨q.1, fun v H1 r' p1 f1 k1 => ?_⟩
  obtain ⟨ns, hns, er⟩ := p1
  subst er
  obtain ⟨a, vs, e1, n, e2, t⟩ := k1.ls q.1.bag q.1.bagH rfl
  subst e1
  refine ⟨q.1.step f1, fun i H2 f2 => ⟨(q.1.step f1).step f2, fun H3 f3 => ?_⟩⟩
  have t3 := t.keep ((f2.trans f3).kt (q.1.step f1).bagH)
  refine ⟨_, _, rfl, sql_fr (f2.trans f3) n e2, fun p hp => ?_⟩
  have e0 : cutD (ns.map PyData.int) (some i) none = (cutD ns (some i) none).map PyData.int := by
    unfold cutD
    rw [List.length_map, ← List.map_drop, ← List.map_take]
  have l0 : (cutD ns (some i) none).length ≤ ns.length := by
    unfold cutD
    rw [List.length_take, List.length_drop]
    omega
  refine q.2 _ _ _ ⟨cutD ns (some i) none, ⟨by have := hns.len; omega, fun x hx => hns.nn x ?_⟩, rfl⟩ ((f1.trans (f2.trans f3)).trans (.new hp)) ⟨p, _, rfl, (f1.trans (f2.trans f3)).free q.1.bagH hp, upd_same, by rw [← e0]; exact (dts_cut t3 (some i) none).keep (KT.new hp)⟩
  unfold cutD at hx
  exact List.mem_of_mem_drop (List.mem_of_mem_take hx)
/-- (such a list + [0])[0] -/
theorem ex_first0 {p2 : Pos} {j p3} (ha : EX X b Hb Δ e (fun r => ∃ ns, Ns ns ∧ r = .fr (ns.map PyData.int))) (hb : ED X b Hb Δ f (.fr [.int 0])) : EX X b Hb Δ (.Subscript (.BinOp e .Add f p2) (.Constant (.int 0) j p3) pos) (IP Nn) := by
  have hc : EX X b Hb Δ (.BinOp e .Add f p2) (fun r => ∃ ns : List Int, (∀ x ∈ ns, 0 ≤ x) ∧ r = .fr ((ns ++ [0]).map PyData.int)) := ex_op2 op_cat ha hb fun r s ⟨ns, hns, er⟩ es => by
    subst er es
    intro H0 H x y bb f0 f1 rr ss Q q
    obtain ⟨a, vs, e1, n1, e2, t1⟩ := rr.own bb (f0.bagIn bb) rfl
    obtain ⟨c, ws, e3, n3, e4, t2⟩ := ss.own bb (f0.bagIn bb) rfl
    subst e1 e3
    refine ⟨a, c, vs, ws, rfl, rfl, e2, e4, ?_, fun p hp => q _ _ _ ⟨ns, hns.nn, rfl⟩ (.new hp) ⟨p, _, rfl, hp, upd_same, ?_⟩⟩
    · have := hns.len
      rw [t1.len, t2.len, List.length_map, sizeLine_eq]
      show _ + 1 ≤ _
      omega
    · rw [List.map_append]
      exact (t1.app t2).keep (KT.new hp)
  refine ex_ix2 ix_list (fun _ _ => rfl) hc (ed_int (i := 0)) fun r s ⟨ns, hns, er⟩ es => ?_
  subst er es
  have h0 : 0 < (ns ++ [0]).length := by simp
  have e0 : (ns ++ [0])[0]? = some ((ns ++ [0])[0]) := List.getElem?_eq_getElem h0
  exact fun H0 H x y bb f0 f1 rr ss Q z => opd_ixL (d := .int ((ns ++ [0])[0])) rfl (atI_map (i := 0) e0) H0 H x y bb f0 f1 rr ss Q fun v H' u e => z v H' u ⟨_, (List.mem_append.mp (List.getElem_mem h0)).elim (hns _) (fun m => by rw [List.mem_singleton.mp m]; exact Int.le_refl 0), e⟩
/-! ### the drawing list, written -/
theorem Fr.bagMut {a c : Addr} {n g k n' g' k' : Int} {ns : List Int} (e : b = some a) (h : H a = some (.lst [.int n, .int g, .int k, .ref c])) (hc : H c = some (.lst (ns.map V.int))) (nc : c ≠ a) (B : BagV n' g' k' ns) : Fr b H (upd H a (.lst [.int n', .int g', .int k', .ref c])) := by
  refine ⟨fun d o nd hd => ?_, fun d ed c' hd => ?_⟩
  · rw [upd_ne fun z => nd (by rw [e, z])]
    exact hd
  · rw [e] at ed
    have ed := Option.some.inj ed
    subst ed
    obtain ⟨_, _, _, _, h1, _⟩ := hd
    rw [h] at h1
    have h2 := Option.some.inj h1
    injection h2 with h2
    simp only [List.cons.injEq, V.ref.injEq, and_true] at h2
    obtain ⟨_, _, _, h3⟩ := h2
    subst h3
    exact ⟨n', g', k', ns, upd_same, by rw [upd_ne nc]; exact hc, nc, B.n, B.g.1, B.g.2, B.i, B.len, B.nn⟩
theorem sx_bag (i : Nat) (j : Nat) {x : Str} {p1 p2 pos' : Pos} {jj} (ha : EX X b Hb Δ e (IP p)) (hk : ∀ (n g k : Int) (ns : List Int) (c : Addr) (m : Int), BagV n g k ns → p m → ∃ n' g' k', [V.int n, .int g, .int k, .ref c].set j (.int m) = [V.int n', .int g', .int k', .ref c] ∧ BagV n' g' k' ns) (hj : ixN 4 (j : Nat) = some j) (k : D.nx Δ)
    (hi : Δ[i]? = some .bag := by rfl) (hN : X.N[i]? = some x := by rfl) (hv : Vis X.env.scope x := by first | exact Or.inl rfl | exact Or.inr (Or.inl rfl) | exact Or.inr (Or.inr rfl)) (hd : (x == ("__debug__" : Str)) = false := by decide) (hcd : (x == ("__classdict__" : Str)) = false := by decide)
    (hs : swapsWithSole [.Subscript (.Name x p1) (.Constant (.int (j : Nat)) jj p2) pos'] e pos.line X.env = pure false := by rfl) (hw : swappedStores [.Subscript (.Name x p1) (.Constant (.int (j : Nat)) jj p2) pos'] e X.env = pure none := by rfl)
    (h1 : (assignEach [.Subscript (.Name x p1) (.Constant (.int (j : Nat)) jj p2) pos'] X.env).map (·.2) = [assign (.Subscript (.Name x p1) (.Constant (.int (j : Nat)) jj p2) pos') X.env] := by rfl) : SX X b Hb Δ (.Assign [.Subscript (.Name x p1) (.Constant (.int (j : Nat)) jj p2) pos'] e pos) D :=
  ps_imp (ps_asg ha (pg_sub (pe_var hN hv hd hcd) pe_int set_list) hs hw h1) fun E σ H q => ⟨q.1, fun v H1 r pr f1 k1 => by
    obtain ⟨m, hm, er⟩ := pr
    subst er
    cases k1
    obtain ⟨a, c, n, g, kk, ns, e1, e2, e3, e4, e5, B⟩ := bag_at (q.1.step f1) hi
    obtain ⟨n', g', k', e6, B'⟩ := hk n g kk ns c m B hm
    refine ⟨.ref a, e1, a, _, (j : Nat), j, rfl, rfl, e3, hj, ?_⟩
    rw [e6]
    exact q.2.1 Δ _ _ k ((q.1.step f1).step (.bagMut e2 e3 e4 e5 B'))⟩
/-- bag[2] += 1 -/
theorem get_listN : PGet X (fun x y H Q => ∃ p xs, ∃ j : Nat, ∃ v, x = .ref p ∧ y = .int j ∧ SqL X.K H p xs ∧ xs[j]? = some v ∧ Q v H) := by
  intro pins s σ H o i ov iv Q I ro ri h
  obtain ⟨p, xs, j, v, rfl, rfl, hq, he, q⟩ := h
  cases ro
  obtain ⟨t, rfl⟩ := ri
  obtain ⟨its, r, pl, hz⟩ := I.list hq
  obtain ⟨w, ew, rw'⟩ := r.get he
  have hl := r.length
  have hn := line63
  have hj := (List.getElem?_eq_some_iff.mp he).1
  exact getItem_listL pl.isList (by omega) (by omega) (by rw [Int.toNat_natCast]; exact ew) ⟨v, H, I, rw', q⟩
theorem sx_bagUp (i : Nat) {x : Str} {p1 p2 p3 tpos : Pos} {jj j3} (k : D.nx Δ) (hi : Δ[i]? = some .bag := by rfl) (hN : X.N[i]? = some x := by rfl) (hv : Vis X.env.scope x := by first | exact Or.inl rfl | exact Or.inr (Or.inl rfl) | exact Or.inr (Or.inr rfl)) (hd : (x == ("__debug__" : Str)) = false := by decide) (hcd : (x == ("__classdict__" : Str)) = false := by decide)
    (ha : ∀ ov iv new, augStore (.Constant (.int 2) jj p2) ov iv new = (do holding [new, ov, iv] (setItem ov iv new); release [new, ov, iv] []; pure .next) := by intros; rfl) : SX X b Hb Δ (.AugAssign (.Subscript (.Name x p1) (.Constant (.int 2) jj p2) tpos) .Add (.Constant (.int 1) j3 p3) pos) D :=
  ps_imp (ps_augS (pe_var hN hv hd hcd) pe_int get_listN pe_int ip_add set_list ha) fun E σ H q => by
    obtain ⟨a, c, n, g, kk, ns, e1, e2, e3, e4, e5, B⟩ := bag_at q.1 hi
    refine ⟨.ref a, e1, a, _, 2, .int kk, rfl, rfl, SqL.of e3, rfl, kk, 1, rfl, rfl, a, _, 2, 2, rfl, rfl, e3, rfl, ?_⟩
    exact q.2.1 Δ _ _ k (q.1.step (.bagMut (k' := kk + 1) e2 e3 e4 e5 ⟨B.n, B.g, by have := B.i; show 0 ≤ kk + 1; have : 0 ≤ kk := B.i; omega, B.len, B.nn⟩))
end
end K47
set_option Elab.async false
set_option linter.all false
set_option maxRecDepth 100000
set_option maxHeartbeats 2000000
namespace K47
open PySem PySem.Spec PyProof.Rows L2
section
variable {P : Program} {w : World} {K : PySem.W.Frag} {mg : Str → Option Value} {base : Heap}
theorem small_mod {i j : Int} (h : 0 < j) : 0 ≤ i % j ∧ i % j < j := ⟨Int.emod_nonneg _ (by omega), Int.emod_lt_of_pos _ h⟩
theorem cm_left {i j : Int} (h0 : 0 ≤ i) (h : i < 2147483647000) : CMul i j := .inl ⟨by omega, by omega⟩
theorem cm_right {i j : Int} (h0 : 0 ≤ j) (h : j < 2147483647000) : CMul i j := .inr ⟨by omega, by omega⟩
theorem b_take (G : G47 K mg) : Cl P w K mg base 1 "_law_take" (fun rs Q => ∃ m : Int, rs = [.bag, .d (.int m)] ∧ 1 ≤ m ∧ m < 1073741824 ∧ ∀ v : Int, 0 ≤ v → v < m → Q (.d (.int v))) := by
  refine cal_data (G.at 30 "_law_take" s_Ltake) sc_Ltake (fun _ _ _ _ _ _ us hl => match us, hl with | [_, _], _ => rfl) (fun rs Q h => ?_) (by decide) fun f cdv A outer s H E b rs Q as hr hw => ?_
  · obtain ⟨_, rfl, _⟩ := h; rfl
  · obtain ⟨m, rfl, m1, m2, k⟩ := hw
    show SSX _ _ _ [_, _, _, _, _, _, _] _ _
    have nd := sc_Ltake.nd
    refine ssx_cut (fun Δ' => ∃ s2 s3, Δ' = [.bag, .d (.int m), s2, s3, .un, .un, .un]) (sx_if (tx_eqI (ex_bag0 0) (ed_int.ip (p := fun _ => True) trivial)) (fun _ => ?_) fun _ => ssx_nil ⟨_, _, rfl⟩) fun Δ' ⟨s2, s3, e⟩ => ?_
    · refine ssx_cons (sx_set 2 (ex_first0 (ex_slN (ex_bag3 0) (ex_bag2 0)) (ed_lst (ad_cons ed_int ad_nil))) (fun r ⟨n, hn, e⟩ => ⟨.d (.int n), by rw [e]; rfl, ?_⟩) nd)
      refine ssx_cons (sx_bagUp 0 ?_)
      refine ssx_cons (sx_if (tx_geI ((ed_var 2).ip (p := Nn) hn) ((ed_pow ed_int ed_int ⟨by decide, by decide, by decide⟩).ip (p := fun _ => True) trivial)) (fun _ => ?_) fun _ => ssx_nil ?_)
      rotate_left
      · refine ssx_cons (sx_set 3 (ex_addI (s := Nn) (ex_addI (s := Nn) (ex_mulI (s := Nn) (ex_bag1 0) (ed_int.ip (p := fun z => z = 48271) rfl) fun i j hi hj => ⟨cm_left hi.1 (by have := hi.2; omega), by rw [hj]; have := hi.1; show (0 : Int) ≤ _; omega⟩) (ex_modI (s := Nn) (ex_toInt G.int ((ed_var 2).ip (p := Nn) hn)) (ed_int.ip (p := fun z => z = 2147483647) rfl) fun i j hi hj => ⟨by rw [hj]; decide, by rw [hj]; exact (small_mod (by decide)).1⟩) fun i j hi hj => Int.add_nonneg hi hj) (ex_mulI (s := Nn) (ed_int.ip (p := fun z => z = 7919) rfl) (ex_bag2 0) fun i j hi hj => ⟨cm_left (by rw [hi]; decide) (by rw [hi]; decide), by rw [hi]; have : 0 ≤ j := hj; show (0 : Int) ≤ _; omega⟩) fun i j hi hj => Int.add_nonneg hi hj) (fun r ⟨z, hz, e⟩ => ⟨.d (.int z), by rw [e]; rfl, ?_⟩) nd)
        refine ssx_one (sx_bag 0 1 (p := Seed) (ex_modI (ex_toInt G.int ((ed_var 3).ip (p := Nn) hz)) (ed_int.ip (p := fun z => z = 2147483647) rfl) fun i j hi hj => ⟨by rw [hj]; decide, by rw [hj]; exact small_mod (by decide)⟩) (fun n g k ns c mm B h => ⟨n, mm, k, rfl, B.n, h, B.i, B.len, B.nn⟩) rfl ⟨_, _, rfl⟩)
      · refine ssx_one (sx_bag 0 0 (p := Nn) ((ed_var 2).ip hn) (fun n g k ns c mm B h => ⟨mm, g, k, rfl, h, B.g, B.i, B.len, B.nn⟩) rfl ?_)
        refine ssx_cons (sx_set 3 (ex_addI (s := Nn) (ex_addI (s := Nn) (ex_mulI (s := Nn) (ex_bag1 0) (ed_int.ip (p := fun z => z = 48271) rfl) fun i j hi hj => ⟨cm_left hi.1 (by have := hi.2; omega), by rw [hj]; have := hi.1; show (0 : Int) ≤ _; omega⟩) (ex_modI (s := Nn) (ex_toInt G.int ((ed_var 2).ip (p := Nn) hn)) (ed_int.ip (p := fun z => z = 2147483647) rfl) fun i j hi hj => ⟨by rw [hj]; decide, by rw [hj]; exact (small_mod (by decide)).1⟩) fun i j hi hj => Int.add_nonneg hi hj) (ex_mulI (s := Nn) (ed_int.ip (p := fun z => z = 7919) rfl) (ex_bag2 0) fun i j hi hj => ⟨cm_left (by rw [hi]; decide) (by rw [hi]; decide), by rw [hi]; have : 0 ≤ j := hj; show (0 : Int) ≤ _; omega⟩) fun i j hi hj => Int.add_nonneg hi hj) (fun r ⟨z, hz, e⟩ => ⟨.d (.int z), by rw [e]; rfl, ?_⟩) nd)
        refine ssx_one (sx_bag 0 1 (p := Seed) (ex_modI (ex_toInt G.int ((ed_var 3).ip (p := Nn) hz)) (ed_int.ip (p := fun z => z = 2147483647) rfl) fun i j hi hj => ⟨by rw [hj]; decide, by rw [hj]; exact small_mod (by decide)⟩) (fun n g k ns c mm B h => ⟨n, mm, k, rfl, B.n, h, B.i, B.len, B.nn⟩) rfl ⟨_, _, rfl⟩)
    · subst e
      refine ssx_cons (sx_if (tx_gtI (ex_bag0 0) (ed_int.ip (p := fun _ => True) trivial)) (fun _ => ?_) fun _ => ssx_nil ?_)
      · refine ssx_cons (sx_set 4 (ex_modI (s := fun z => 0 ≤ z ∧ z < m) (ex_toInt G.int (ex_bag0 0)) ((ed_var 1).ip (p := fun z => z = m) rfl) fun i j hi hj => ⟨by omega, by rw [hj]; exact small_mod (by omega)⟩) (fun r ⟨v, hv, e⟩ => ⟨.d (.int v), by rw [e]; rfl, ?_⟩) nd)
        refine ssx_cons (sx_bag 0 0 (p := Nn) (ex_divI (ex_toInt G.int (ex_bag0 0)) ((ed_var 1).ip (p := fun z => z = m) rfl) fun i j hi hj => ⟨by rw [hj]; exact ⟨by omega, m2⟩, Int.ediv_nonneg hi (by omega)⟩) (fun n g k ns c mm B h => ⟨mm, g, k, rfl, h, B.g, B.i, B.len, B.nn⟩) rfl ?_)
        exact ssx_one (sx_retD (ed_var 4) (k v hv.1 hv.2))
      · refine ssx_cons (sx_set 5 (ex_modI (s := fun z => 0 ≤ z ∧ z < 1000000007) (ex_toInt G.int (ex_mulI (s := fun _ => True) (ex_addI (s := fun z => 0 ≤ z ∧ z < 2147483648) (ex_bag1 0) (ed_int.ip (p := fun z => z = 1) rfl) fun i j hi hj => by have := hi.1; have := hi.2; omega) (ed_int.ip (p := fun z => z = 39373) rfl) fun i j hi hj => ⟨cm_left hi.1 (by have := hi.2; omega), trivial⟩)) (ed_int.ip (p := fun z => z = 1000000007) rfl) fun i j hi hj => ⟨by rw [hj]; decide, by rw [hj]; exact small_mod (by decide)⟩) (fun r ⟨z, hz, e⟩ => ⟨.d (.int z), by rw [e]; rfl, ?_⟩) nd)
        refine ssx_cons (sx_set 6 (ex_modI (s := Nn) (ex_toInt G.int (ex_mulI (s := fun _ => True) (ex_modI (s := fun z => 0 ≤ z ∧ z < 998244353) (ex_toInt G.int (ex_mulI (s := fun _ => True) ((ed_var 5).ip (p := fun z => 0 ≤ z ∧ z < 1000000007) hz) ((ed_var 5).ip (p := fun _ => True) trivial) fun i j hi hj => ⟨cm_left hi.1 (by have := hi.2; omega), trivial⟩)) (ed_int.ip (p := fun z => z = 998244353) rfl) fun i j hi hj => ⟨by rw [hj]; decide, by rw [hj]; exact small_mod (by decide)⟩) (ed_int.ip (p := fun z => z = 30011) rfl) fun i j hi hj => ⟨cm_left hi.1 (by have := hi.2; omega), trivial⟩)) (ed_int.ip (p := fun z => z = 998244353) rfl) fun i j hi hj => ⟨by rw [hj]; decide, by rw [hj]; exact (small_mod (by decide)).1⟩) (fun r ⟨y, hy, e⟩ => ⟨.d (.int y), by rw [e]; rfl, ?_⟩) nd)
        refine ssx_one (sx_ret (ex_modI (s := fun z => 0 ≤ z ∧ z < m) (ex_toInt G.int (ex_divI (s := fun _ => True) ((ed_var 6).ip (p := fun _ => True) trivial) (ed_int.ip (p := fun z => z = 7) rfl) fun i j hi hj => ⟨by rw [hj]; exact ⟨by decide, by decide⟩, trivial⟩)) ((ed_var 1).ip (p := fun z => z = m) rfl) fun i j hi hj => ⟨by omega, by rw [hj]; exact small_mod (by omega)⟩) fun r ⟨v, hv, e⟩ => ⟨r, by rw [e]; rfl, by rw [e]; exact k v hv.1 hv.2⟩)
/-- a draw below n -/
abbrev wTake : Wp := fun rs Q => ∃ m : Int, rs = [.bag, .d (.int m)] ∧ 1 ≤ m ∧ m < 1073741824 ∧ ∀ v : Int, 0 ≤ v → v < m → Q (.d (.int v))
end
section
variable {X : Cx} {b : Option Addr} {Hb : Hp} {Δ : List Sl} {e f : Expr} {pos pp : Pos} {j : Nat}
/-- the draw, called -/
theorem ex_take {m : Nat} (c : Cl X.prog X.w X.K X.mg X.base 1 "_law_take" wTake) (hr : Room j X.A) (hk : 1 ≤ j) (ha : ED X b Hb Δ e .bag) (hb : ED X b Hb Δ f (.d (.int (m : Nat)))) (m1 : 1 ≤ m) (m2 : m ≤ 100000) (hg : Gl X "_law_take" := by rfl)
    (h1 : starEach [f] X.env = (false, eval f X.env) :: starEach [] X.env := by rfl) (h2 : starEach [e, f] X.env = (false, eval e X.env) :: starEach [f] X.env := by rfl) (hpl : (backTo pos (starEach [f] X.env)).any (·.1) = false := by rfl) : EX X b Hb Δ (.Call (.Name "_law_take" pp) [e, f] [] pos) (fun r => ∃ v : Nat, v < m ∧ r = .d (.int v)) :=
  ex_c c hr hk (ad_cons ha (ad_cons hb ad_nil h1) h2) (fun rs er => by
    subst er
    exact ⟨(m : Nat), rfl, by omega, by omega, fun v h0 h1 => ⟨v.toNat, by omega, by rw [Int.toNat_of_nonneg h0]⟩⟩) hg (by decide) h2 hpl
end
end K47
set_option Elab.async false
set_option linter.all false
set_option maxRecDepth 100000
set_option maxHeartbeats 2000000
namespace K47
open PySem PySem.Spec PyProof.Rows L2
theorem ins_perm {α : Type} (xs : List α) (j : Nat) (d : α) : (xs.take j ++ [d] ++ xs.drop j).Perm (xs ++ [d]) := by
  have h : (xs.take j ++ ([d] ++ xs.drop j)).Perm (xs.take j ++ (xs.drop j ++ [d])) := List.Perm.append_left _ List.perm_append_comm
  rw [← List.append_assoc, ← List.append_assoc, List.take_append_drop] at h
  exact h
theorem perm_map {α : Type} {f : α → PyData} : ∀ {xs : List α} {ys : List PyData}, ys.Perm (xs.map f) → ∃ zs : List α, zs.Perm xs ∧ ys = zs.map f := by
  have key : ∀ {as bs : List PyData}, as.Perm bs → ∀ {xs : List α}, as = xs.map f → ∃ zs : List α, zs.Perm xs ∧ bs = zs.map f := by
    intro as bs p
    induction p with
    | nil =>
      intro xs e
      cases xs with
      | nil => exact ⟨[], .refl _, rfl⟩
      | cons x xs => cases e
    | @cons a as bs p ih =>
      intro xs e
      cases xs with
      | nil => cases e
      | cons x xs =>
        rw [List.map_cons] at e
        injection e with e1 e2
        obtain ⟨zs, p2, e3⟩ := ih e2
        exact ⟨x :: zs, p2.cons x, by rw [e1, e3]; rfl⟩
    | swap a c as =>
      intro xs e
      match xs, e with
      | x :: y :: xs, e =>
        rw [List.map_cons, List.map_cons] at e
        injection e with e1 e2
        injection e2 with e2 e3
        exact ⟨y :: x :: xs, .swap _ _ _, by rw [e1, e2, e3]; rfl⟩
    | trans p1 p2 ih1 ih2 =>
      intro xs e
      obtain ⟨zs, q1, e1⟩ := ih1 e
      obtain ⟨us, q2, e2⟩ := ih2 e1
      exact ⟨us, q2.trans q1, e2⟩
  intro xs ys p
  exact key p.symm rfl
abbrev wSomeL : Wp := fun rs Q => ∃ xs, rs = [.bag, .ls xs] ∧ 1 ≤ xs.length ∧ xs.length ≤ 1000 ∧ ∀ x ∈ xs, Q (.d x)
abbrev wMixed : Wp := fun rs Q => ∃ xs, rs = [.bag, .ls xs] ∧ xs.length ≤ 900 ∧ ∀ ys : List PyData, ys.Perm xs → Q (.fr ys)
section
variable {X : Cx} {b : Option Addr} {Hb : Hp} {Δ : List Sl} {e f : Expr} {pos pp : Pos} {j : Nat}
/-- a list at an unknown place -/
theorem ex_ixV {r : Rs} {xs : List PyData} (ha : ED X b Hb Δ e r) (hb : EX X b Hb Δ f (fun r => ∃ v : Nat, v < xs.length ∧ r = .d (.int v))) (hl : lsOf r = some xs := by rfl) (hs : PlainIx f := by exact fun _ _ => rfl) : EX X b Hb Δ (.Subscript e f pos) (fun z => ∃ x ∈ xs, z = .d x) :=
  ex_ix2 ix_list hs ha hb fun _ _ er ⟨v, hv, es⟩ => by
    subst er es
    intro H0 H x y bb f0 f1 rr ss Q z
    exact opd_ixL (d := xs[v]) hl (L2.atI_nat (List.getElem?_eq_getElem hv)) H0 H x y bb f0 f1 rr ss Q fun v' H' u e => z v' H' u ⟨_, List.getElem_mem hv, e⟩
theorem ex_ixVS {s : Str} (ha : ED X b Hb Δ e (.d (.str s))) (hz : s.length ≤ 100000) (hb : EX X b Hb Δ f (fun r => ∃ v : Nat, v < s.length ∧ r = .d (.int v))) (hs : PlainIx f := by exact fun _ _ => rfl) : EX X b Hb Δ (.Subscript e f pos) (fun z => ∃ c ∈ s.cps.toList, z = .d (.str ⟨#[c]⟩)) :=
  ex_ix2 L2.ix_str hs ha hb fun _ _ er ⟨v, hv, es⟩ => by
    subst er es
    intro H0 H x y bb f0 f1 rr ss Q z
    have hv' : v < s.cps.toList.length := by rw [Array.length_toList]; exact hv
    exact opd_ixS (c := s.cps.toList[v]) (by rw [sizeLine_eq]; omega) (L2.atI_nat (List.getElem?_eq_getElem hv')) H0 H x y bb f0 f1 rr ss Q fun v' H' u e => z v' H' u ⟨_, List.getElem_mem hv', e⟩
theorem ex_someL {r : Rs} {xs : List PyData} (c : Cl X.prog X.w X.K X.mg X.base 2 "_law_some" wSomeL) (hr : Room j X.A) (hk : 2 ≤ j) (ha : ED X b Hb Δ e .bag) (hb : ED X b Hb Δ f r) (m1 : 1 ≤ xs.length) (m2 : xs.length ≤ 1000) (hl : agOf r = .ls xs := by rfl) (hg : Gl X "_law_some" := by rfl)
    (h1 : starEach [f] X.env = (false, eval f X.env) :: starEach [] X.env := by rfl) (h2 : starEach [e, f] X.env = (false, eval e X.env) :: starEach [f] X.env := by rfl) (hpl : (backTo pos (starEach [f] X.env)).any (·.1) = false := by rfl) : EX X b Hb Δ (.Call (.Name "_law_some" pp) [e, f] [] pos) (fun r => ∃ x ∈ xs, r = .d x) :=
  ex_c c hr hk (ad_cons ha (ad_cons hb ad_nil h1) h2) (fun rs er => by
    subst er
    exact ⟨xs, by rw [List.map_cons, List.map_cons, hl]; rfl, m1, m2, fun x hx => ⟨x, hx, rfl⟩⟩) hg (by decide) h2 hpl
theorem ex_mixed {r : Rs} {α : Type} {xs : List α} {enc : α → PyData} (c : Cl X.prog X.w X.K X.mg X.base 2 "_law_mixed" wMixed) (hr : Room j X.A) (hk : 2 ≤ j) (ha : ED X b Hb Δ e .bag) (hb : ED X b Hb Δ f r) (m2 : xs.length ≤ 900) (hl : agOf r = .ls (xs.map enc) := by rfl) (hg : Gl X "_law_mixed" := by rfl)
    (h1 : starEach [f] X.env = (false, eval f X.env) :: starEach [] X.env := by rfl) (h2 : starEach [e, f] X.env = (false, eval e X.env) :: starEach [f] X.env := by rfl) (hpl : (backTo pos (starEach [f] X.env)).any (·.1) = false := by rfl) : EX X b Hb Δ (.Call (.Name "_law_mixed" pp) [e, f] [] pos) (fun r => ∃ ys : List α, ys.Perm xs ∧ r = .fr (ys.map enc)) :=
  ex_c c hr hk (ad_cons ha (ad_cons hb ad_nil h1) h2) (fun rs er => by
    subst er
    refine ⟨xs.map enc, by rw [List.map_cons, List.map_cons, hl]; rfl, by rw [List.length_map]; exact m2, fun ys p => ?_⟩
    obtain ⟨zs, p2, e2⟩ := perm_map p
    exact ⟨zs, p2, by rw [e2]⟩) hg (by decide) h2 hpl
end
section
variable {P : Program} {w : World} {K : PySem.W.Frag} {mg : Str → Option Value} {base : Heap}
theorem b_someL (G : G47 K mg) : Cl P w K mg base 2 "_law_some" wSomeL := by
  refine cal_data (G.at 31 "_law_some" s_Lsome) sc_Lsome (fun _ _ _ _ _ _ us hl => match us, hl with | [_, _], _ => rfl) (fun rs Q h => ?_) (by decide) fun f cdv A outer s H E b rs Q as hr hw => ?_
  · obtain ⟨_, rfl, _⟩ := h; rfl
  · obtain ⟨xs, rfl, h1, h2, k⟩ := hw
    show SSX _ _ _ [_, _] _ _
    exact ssx_one (sx_ret (ex_ixV (ed_var 1) (ex_take (b_take G) hr (by omega) (ed_var 0) (ed_lenL G.len (ed_var 1)) h1 (by omega))) fun r ⟨x, hx, e⟩ => ⟨r, by rw [e]; rfl, by rw [e]; exact k x hx⟩)
theorem b_someS (G : G47 K mg) : Cl P w K mg base 2 "_law_some" (fun rs Q => ∃ z : Str, rs = [.bag, .d (.str z)] ∧ 1 ≤ z.length ∧ z.length ≤ 1000 ∧ ∀ c ∈ z.cps.toList, Q (.d (.str ⟨#[c]⟩))) := by
  refine cal_data (G.at 31 "_law_some" s_Lsome) sc_Lsome (fun _ _ _ _ _ _ us hl => match us, hl with | [_, _], _ => rfl) (fun rs Q h => ?_) (by decide) fun f cdv A outer s H E b rs Q as hr hw => ?_
  · obtain ⟨_, rfl, _⟩ := h; rfl
  · obtain ⟨z, rfl, h1, h2, k⟩ := hw
    show SSX _ _ _ [_, _] _ _
    exact ssx_one (sx_ret (ex_ixVS (ed_var 1) (by omega) (ex_take (b_take G) hr (by omega) (ed_var 0) (ed_lenS G.len (ed_var 1) (by rw [sizeLine_eq]; omega)) h1 (by omega))) fun r ⟨x, hx, e⟩ => ⟨r, by rw [e]; rfl, by rw [e]; exact k x hx⟩)
theorem b_mixed (G : G47 K mg) : Cl P w K mg base 2 "_law_mixed" wMixed := by
  refine cal_data (G.at 32 "_law_mixed" s_Lmixed) sc_Lmixed (fun _ _ _ _ _ _ us hl => match us, hl with | [_, _], _ => rfl) (fun rs Q h => ?_) (by decide) fun f cdv A outer s H E b rs Q as hr hw => ?_
  · obtain ⟨_, rfl, _⟩ := h; rfl
  · obtain ⟨xs, rfl, h2, k⟩ := hw
    show SSX _ _ _ [_, _, _, _] _ _
    have nd := sc_Lmixed.nd
    refine ssx_cons (sx_setF 2 (ed_lst ad_nil) ?_ nd)
    refine ssx_cons (sx_forN xs id (ix_cast (ix_rd 1) (List.map_id _).symm) (fun ys : List PyData => [.bag, .br (as 1) xs, .ow ys, .un]) (fun i ys => ys.Perm (xs.take i)) ⟨[], by rw [List.take_zero], lo_same (lo_same (lo_same (lo_un lo_nil)))⟩ (fun Hb' i d ys hi p => ?_) fun ys p => ?_)
    · refine gx_name 3 ?_ nd
      have hlt := (List.getElem?_eq_some_iff.mp hi).1
      have hl : ys.length ≤ 900 := by
        rw [p.length_eq, List.length_take]
        omega
      refine ssx_one (sx_insert 2 (xs := ys) (ax_cons (Pa := fun r => ∃ v : Nat, v < ys.length + 1 ∧ r = .d (.int v)) (Pr := fun rs => rs = [.d d]) (P := fun rs => ∃ v : Nat, v < ys.length + 1 ∧ rs = [.d (.int v), .d d]) (ex_take (m := ys.length + 1) (b_take G) hr (by omega) (ed_var 0) (ed_add (ed_lenL G.len (ed_var 2)) ed_int) (by omega) (by omega)) (ad_cons (ed_var 3) ad_nil) fun r rs ⟨v, hv, e1⟩ e2 => ⟨v, hv, by rw [e1, e2]⟩) fun rs ⟨v, hv, e⟩ => ⟨v, d, e, by omega, by omega, ?_⟩)
      refine ⟨ys.take v ++ [d] ++ ys.drop v, ?_, lo_same (lo_same (lo_same (lo_un lo_nil)))⟩
      rw [List.take_add_one, hi]
      exact (ins_perm ys v d).trans (p.append_right _)
    · rw [List.take_length] at p
      exact ⟨ssx_one (sx_retO (ed_var 2) (k ys p)), fun q hq => hq⟩
end
end K47
set_option Elab.async false
set_option linter.all false
set_option maxRecDepth 100000
set_option maxHeartbeats 2000000
namespace K47
open PySem PySem.Spec PyProof.Rows L2
theorem RowOk.put {n : Nat} {r : List (Option Nat)} {i x : Nat} (R : RowOk n r) (hi : i < n) (hx : x < n) (nx : some x ∉ r) : RowOk n (r.set i (some x)) := by
  refine ⟨by rw [List.length_set]; exact R.len, fun c m => ?_, fun j k c hj hk => ?_⟩
  · rcases List.mem_or_eq_of_mem_set m with h | h
    · exact R.lt c h
    · have e := Option.some.inj h
      rw [e]
      exact hx
  · rcases set_get hj with ⟨e1, e2, _⟩ | ⟨e1, e2⟩
    · rcases set_get hk with ⟨e3, _, _⟩ | ⟨_, e4⟩
      · rw [← e1, ← e3]
      · have e := Option.some.inj e2
        rw [e] at e4
        exact absurd (List.mem_of_getElem? e4) nx
    · rcases set_get hk with ⟨_, e4, _⟩ | ⟨_, e4⟩
      · have e := Option.some.inj e4
        rw [e] at e2
        exact absurd (List.mem_of_getElem? e2) nx
      · exact R.inj j k c e2 e4
/-- which cells are free, what is found -/
structure GtI (n : Nat) (fr : List Nat) (fo : List (Option Nat)) : Prop where
  r : RowOk n fo
  nd : fr.Nodup
  lt : ∀ x ∈ fr, x < n
  no : ∀ x ∈ fr, some x ∉ fo
theorem GtI.put {n : Nat} {fr : List Nat} {x i : Nat} {fo : List (Option Nat)} (I : GtI n (fr ++ [x]) fo) (hi : i < n) : GtI n fr (fo.set i (some x)) := by
  have hx : x ∈ fr ++ [x] := List.mem_append_right _ List.mem_cons_self
  have nd := List.nodup_append.mp I.nd
  refine ⟨I.r.put hi (I.lt x hx) (I.no x hx), nd.1, fun y hy => I.lt y (List.mem_append_left _ hy), fun y hy m => ?_⟩
  rcases List.mem_or_eq_of_mem_set m with h | h
  · exact I.no y (List.mem_append_left _ hy) h
  · have e := Option.some.inj h
    exact nd.2.2 y hy x List.mem_cons_self e
theorem ixN_nat {n i : Nat} (h : i < n) : ixN n (i : Int) = some i := by
  unfold ixN
  rw [if_pos (by omega), if_pos (by omega), Int.toNat_natCast]
section
variable {X : Cx} {b : Option Addr} {Hb : Hp} {Δ : List Sl} {e : Expr} {pos : Pos}
/-- xs != [] -/
theorem td_neNil {α : Type} {enc : α → PyData} {r : Rs} {xs : List α} {q : Pos} (hu : X.A.units + 65 < cLine) (he : EncOk enc) (ha : ED X b Hb Δ e r) (hl : lsOf r = some (xs.map enc) := by rfl) : TD X b Hb Δ (.Compare e [.NotEq] [.List [] q] pos) (!xs.isEmpty) :=
  TD.cast (td_neD (y := .list []) hu ha (ed_lst ad_nil) (good_ls hl fun d m => by
    obtain ⟨x, _, rfl⟩ := List.mem_map.mp m
    exact he.good x) (fun d (m : d ∈ ([] : List PyData)) => nomatch m) (dpOf_ls hl)) (by rw [eqv_nil, List.isEmpty_map])
end
section
variable {P : Program} {w : World} {K : PySem.W.Frag} {mg : Str → Option Value} {base : Heap}
theorem b_gated (G : G47 K mg) : Cl P w K mg base 3 "_law_gated" (fun rs Q => ∃ (n : Nat) (r : List (Option Nat)), rs = [.bag, .ls (r.map eO)] ∧ RowOk n r ∧ n ≤ 4 ∧ ∀ r', RowOk n r' → Q (.fr (r'.map eO))) := by
  refine cal_data (G.at 35 "_law_gated" s_Lgated) sc_Lgated (fun _ _ _ _ _ _ us hl => match us, hl with | [_, _], _ => rfl) (fun rs Q h => ?_) (by decide) fun f cdv A outer s H E b rs Q as hr hw => ?_
  · obtain ⟨_, _, rfl, _⟩ := h; rfl
  · obtain ⟨n, r, rfl, R, n4, k⟩ := hw
    show SSX _ _ _ [_, _, _, _, _] _ _
    have nd := sc_Lgated.nd
    have hu := room65 hr
    have rl : (r.map eO).length = n := by rw [List.length_map]; exact R.len
    refine ssx_cons (sx_set 2 (ex_mixed (xs := (List.range (r.map eO).length).filter fun c => !memA (some c) r) (enc := eI) (b_mixed G) hr (by omega) (ed_var 0) (ed_lc 4 (List.range (r.map eO).length) eI (fun c => !memA (some c) r) eI (ix_rangeN rfl G.range (ed_lenL G.len (ed_var 1)) (by omega)) (fun s' H' C cl fp a ha => tsx_one (td_ninL hu enc_O (x := some a) (ys := r) (ed_var 4) (ed_var 1))) (fun s' H' C cl fp a ha pa => ed_var 4) ?_ ?_ nd ?_) ?_) (fun z ⟨ys, p, e⟩ => ⟨.ow (ys.map eI), by rw [e]; rfl, ?_⟩) nd)
    · rw [List.length_range]; omega
    · refine bk_Lgated _ _ ?_
      decide +kernel
    · exact fun s' H' C cl fp => pg_name nd rfl (Or.inl rfl) (.inr rfl)
    · have h := List.length_filter_le (fun c => !memA (some c) r) (List.range (r.map eO).length)
      rw [List.length_range] at h
      omega
    · have I0 : GtI n ys r := by
        refine ⟨R, p.nodup_iff.mpr (List.nodup_range.filter _), fun x hx => ?_, fun x hx => ?_⟩
        · have h := List.mem_range.mp (List.mem_filter.mp (p.mem_iff.mp hx)).1
          omega
        · have h := (List.mem_filter.mp (p.mem_iff.mp hx)).2
          rw [Bool.not_eq_true'] at h
          exact memA_not.mp h
      refine ssx_cons (sx_setF 3 (ed_listL G.list (ed_var 1)) ?_ nd)
      refine ssx_cons (sx_forN (List.range (r.map eO).length) eI (ix_rangeN rfl G.range (ed_lenL G.len (ed_var 1)) (by omega)) (fun s : List Nat × List (Option Nat) => [.bag, .br (as 1) (r.map eO), .ow (s.1.map eI), .ow (s.2.map eO), .un]) (fun _ s => GtI n s.1 s.2) ⟨(ys, r), I0, lo_same (lo_same (lo_same (lo_same (lo_un lo_nil))))⟩ (fun Hb' i c st hi I => ?_) fun st I => ?_)
      · obtain ⟨fr, fo⟩ := st
        obtain ⟨rfl, hlt⟩ := rg_get hi
        have hn : c < n := by omega
        have hfo : c < fo.length := by rw [I.r.len]; exact hn
        refine gx_name 4 ?_ nd
        refine ssx_one (sx_if (Pc := fun z => z = true → fr ≠ []) (twx_and (td_isO (ed_ixL (d := eO (fo.getD c none)) (ed_var 3) (ed_var 4) (atI_get hfo))) (fun _ => twx_and (td_neNil (xs := fr) hu enc_I (ed_var 2)) (fun h => twx_one ((tx_gtI (q := fun _ => True) (EX.imp (P' := IP fun _ => True) (ex_take (m := 3) (b_take G) hr (by omega) (ed_var 0) ed_int (by decide) (by decide)) fun r ⟨v, _, e⟩ => ⟨_, trivial, e⟩) (ed_int.ip trivial)).imp fun z _ _ => ?_)) fun _ z => absurd z (by decide)) fun _ z => absurd z (by decide)).pt (fun h => ?_) fun _ => ssx_nil ⟨(fr, fo), I, lo_same (lo_same (lo_same (lo_same (lo_un lo_nil))))⟩)
        · intro e
          subst e
          exact absurd h (by decide)
        · have hne := h rfl
          obtain ⟨fr', x, rfl⟩ : ∃ fr' x, fr = fr' ++ [x] := ⟨fr.dropLast, fr.getLast hne, (List.dropLast_concat_getLast hne).symm⟩
          refine ssx_one (sx_setPop 3 2 (xs := fo.map eO) (ys := fr'.map eI) (d := eI x) (j := (c : Nat)) (m := c) (ed_var 4) (by rw [List.length_map]; exact ixN_nat hfo) ?_ (hl := by show some (Sl.ow ((fr' ++ [x]).map eI)) = _; rw [List.map_append]; rfl) (hjx := fun _ _ z => z) (hj' := ed_var 4))
          refine ⟨(fr', fo.set c (some x)), GtI.put I hn, lo_same (lo_same (lo_same (lo_eq ?_ (lo_un lo_nil))))⟩
          show Sl.ow ((fo.map eO).set c (eI x)) = Sl.ow ((fo.set c (some x)).map eO)
          rw [List.map_set]
          rfl
      · exact ⟨ssx_one (sx_retO (ed_var 3) (k st.2 I.r)), fun q hq => hq⟩
end
/-! ### edges -/
def edgesU (n : Nat) (r u : List (Option Nat)) : List Edg := (((List.range n).filter fun c => !memA (some c) u).map fun c => (Sd.down, c)) ++ (((List.range n).filter fun c => !memA (some c) r).map fun c => (Sd.left, c)) ++ ((List.range n).map fun c => (Sd.right, c)) ++ ((List.range n).map fun c => (Sd.up, c))
theorem nd_side {s : Sd} {l : List Nat} (h : l.Nodup) : (l.map fun c => (s, c)).Nodup := nodup_on (fun a _ b _ e => (Prod.mk.injEq .. ▸ e).2) h
theorem edgesU_nodup (n : Nat) (r u : List (Option Nat)) : (edgesU n r u).Nodup := by
  have dis : ∀ {s s' : Sd} {l l' : List Nat}, s ≠ s' → ∀ a ∈ l.map fun c => (s, c), ∀ b ∈ l'.map fun c => (s', c), a ≠ b := fun {s s' l l'} hs a ha b hb e => by
    obtain ⟨x, _, rfl⟩ := List.mem_map.mp ha
    obtain ⟨y, _, e2⟩ := List.mem_map.mp hb
    rw [← e2] at e
    exact hs (congrArg Prod.fst e)
  unfold edgesU
  refine List.nodup_append.mpr ⟨List.nodup_append.mpr ⟨List.nodup_append.mpr ⟨nd_side (List.nodup_range.filter _), nd_side (List.nodup_range.filter _), dis (by decide)⟩, nd_side List.nodup_range, fun a ha b hb => ?_⟩, nd_side List.nodup_range, fun a ha b hb => ?_⟩
  · rcases List.mem_append.mp ha with h | h
    · exact dis (by decide) a h b hb
    · exact dis (by decide) a h b hb
  · rcases List.mem_append.mp ha with h | h
    · rcases List.mem_append.mp h with h | h
      · exact dis (by decide) a h b hb
      · exact dis (by decide) a h b hb
    · exact dis (by decide) a h b hb
theorem edgesU_len (n : Nat) (r u : List (Option Nat)) : (edgesU n r u).length ≤ 4 * n := by
  have h1 := List.length_filter_le (fun c => !memA (some c) u) (List.range n)
  have h2 := List.length_filter_le (fun c => !memA (some c) r) (List.range n)
  unfold edgesU
  simp only [List.length_append, List.length_map, List.length_range] at h1 h2 ⊢
  omega
theorem edgesU_pos {n : Nat} (r u : List (Option Nat)) (h : 1 ≤ n) : 1 ≤ (edgesU n r u).length := by
  unfold edgesU
  simp only [List.length_append, List.length_map, List.length_range]
  omega
section
variable {P : Program} {w : World} {K : PySem.W.Frag} {mg : Str → Option Value} {base : Heap}
theorem b_edgesOf (G : G47 K mg) : Cl P w K mg base 1 "_law_edges_of" (fun rs Q => ∃ (n : Nat) (r u : List (Option Nat)), rs = [.d (eRw r), .d (eRw u)] ∧ r.length = n ∧ n ≤ 4 ∧ Q (.fr ((edgesU n r u).map eE))) := by
  refine cal_data (G.at 36 "_law_edges_of" s_Ledges_of) sc_Ledges_of (fun _ _ _ _ _ _ us hl => match us, hl with | [_, _], _ => rfl) (fun rs Q h => ?_) (by decide) fun f cdv A outer s H E b rs Q as hr hw => ?_
  · obtain ⟨_, _, _, rfl, _⟩ := h; rfl
  · obtain ⟨n, r, u, rfl, rl, n4, k⟩ := hw
    show SSX _ _ _ [_, _, _, _, _] _ _
    have nd := sc_Ledges_of.nd
    have hu := room65 hr
    have rl2 : (r.map eO).length = n := by rw [List.length_map]; exact rl
    have h1 := List.length_filter_le (fun c => !memA (some c) u) (List.range n)
    have h2 := List.length_filter_le (fun c => !memA (some c) r) (List.range n)
    rw [List.length_range] at h1 h2
    refine ssx_cons (sx_setF 2 (xs := (List.range n).map eI) ((ed_listRg (n := n) G.list G.range ((ed_lenT G.len (ed_var 0)).cast (by rw [rl2])) (by omega)).cast rfl) ?_ nd)
    refine ssx_cons (sx_setF 3 (ed_cat (xs := ((List.range n).filter fun c => !memA (some c) u).map fun c => eE (.down, c)) (ys := ((List.range n).filter fun c => !memA (some c) r).map fun c => eE (.left, c)) (ed_lc 4 (List.range n) eI (fun c => !memA (some c) u) (fun c => eE (.down, c)) (ix_slot 2) (fun s' H' C cl fp a ha => tsx_one (td_ninT hu enc_O (x := some a) (ys := u) (ed_var 4) (ed_var 1))) (fun s' H' C cl fp a ha pa => ed_tup (ad_cons ed_str (ad_cons (ed_var 4) ad_nil))) ?_ ?_ nd ?_) (ed_lc 4 (List.range n) eI (fun c => !memA (some c) r) (fun c => eE (.left, c)) (ix_slot 2) (fun s' H' C cl fp a ha => tsx_one (td_ninT hu enc_O (x := some a) (ys := r) (ed_var 4) (ed_var 0))) (fun s' H' C cl fp a ha pa => ed_tup (ad_cons ed_str (ad_cons (ed_var 4) ad_nil))) ?_ ?_ nd ?_) ?_) ?_ nd)
    · rw [List.length_range]; omega
    · refine bk_Ledges_of _ _ ?_
      decide +kernel
    · exact fun s' H' C cl fp => pg_name nd rfl (Or.inl rfl) (.inr rfl)
    · rw [List.length_range]; omega
    · refine bk_Ledges_of _ _ ?_
      decide +kernel
    · exact fun s' H' C cl fp => pg_name nd rfl (Or.inl rfl) (.inr rfl)
    · rw [List.length_map, List.length_map]
      omega
    · refine ssx_one (sx_retF ((ed_cat (ed_cat (ys := ((List.range n).filter fun _ => true).map fun c => eE (.right, c)) (ed_var 3) (ed_lc 4 (List.range n) eI (fun _ => true) (fun c => eE (.right, c)) (ix_slot 2) (fun s' H' C cl fp a ha => tsx_nil rfl) (fun s' H' C cl fp a ha pa => ed_tup (ad_cons ed_str (ad_cons (ed_var 4) ad_nil))) ?_ ?_ nd ?_) ?_) (ed_lc 4 (List.range n) eI (fun _ => true) (fun c => eE (.up, c)) (ix_slot 2) (fun s' H' C cl fp a ha => tsx_nil rfl) (fun s' H' C cl fp a ha pa => ed_tup (ad_cons ed_str (ad_cons (ed_var 4) ad_nil))) ?_ ?_ nd ?_) ?_).cast ?_) k)
      · rw [List.length_range]; omega
      · refine bk_Ledges_of _ _ ?_
        decide +kernel
      · exact fun s' H' C cl fp => pg_name nd rfl (Or.inl rfl) (.inr rfl)
      · simp only [List.length_append, List.length_map, List.filter_eq_self.mpr fun _ _ => rfl, List.length_range]
        omega
      · rw [List.length_range]; omega
      · refine bk_Ledges_of _ _ ?_
        decide +kernel
      · exact fun s' H' C cl fp => pg_name nd rfl (Or.inl rfl) (.inr rfl)
      · simp only [List.length_append, List.length_map, List.filter_eq_self.mpr fun _ _ => rfl, List.length_range]
        omega
      · unfold edgesU
        rw [List.map_append, List.map_append, List.map_append, List.map_map, List.map_map, List.map_map, List.map_map, List.filter_eq_self.mpr fun _ _ => rfl]
        rfl
end
end K47
set_option Elab.async false
set_option linter.all false
set_option maxRecDepth 100000
set_option maxHeartbeats 2000000
namespace K47
open PySem PySem.Spec PyProof.Rows L2
/-! ### spots of a grid -/
abbrev Spt : Type := Int × Int
def eG (s : Spt) : PyData := .tuple [.int s.1, .int s.2]
theorem enc_G : EncOk eG := ⟨fun a b h => by
  obtain ⟨a1, a2⟩ := a
  obtain ⟨b1, b2⟩ := b
  simp only [eG, PyData.tuple.injEq, List.cons.injEq, PyData.int.injEq, and_true] at h
  rw [h.1, h.2], fun a => ⟨rfl, by simp [eG, PyData.depth, PyData.depthAll]⟩⟩
def near4 (p : Spt) : List Spt := [(p.1 + 1, p.2), (p.1 - 1, p.2), (p.1, p.2 + 1), (p.1, p.2 - 1)]
def nearF (all ps : List Spt) : List Spt := (ps.map fun p => (near4 p).filter fun q => !memA q all).flatten
theorem nearF_succ {all ps : List Spt} {i : Nat} {p : Spt} (h : ps[i]? = some p) : nearF all (ps.take (i + 1)) = nearF all (ps.take i) ++ (near4 p).filter fun q => !memA q all := by
  unfold nearF
  rw [List.take_add_one, h, List.map_append, List.flatten_append]
  simp
theorem near_no {all ps : List Spt} {q : Spt} (h : q ∈ nearF all ps) : q ∉ all := by
  obtain ⟨l, h1, h2⟩ := List.mem_flatten.mp h
  obtain ⟨p, _, rfl⟩ := List.mem_map.mp h1
  have z := (List.mem_filter.mp h2).2
  rw [Bool.not_eq_true'] at z
  exact memA_not.mp z
theorem near_len (all ps : List Spt) : (nearF all ps).length ≤ ps.length * 4 := by
  have h := flat_le (k := 4) (ls := ps.map fun p => (near4 p).filter fun q => !memA q all) fun r m => by
    obtain ⟨p, _, rfl⟩ := List.mem_map.mp m
    exact List.length_filter_le (fun q => !memA q all) (near4 p)
  rw [List.length_map] at h
  exact h
theorem far_right : ∀ {ps : List Spt}, ps ≠ [] → ∃ p ∈ ps, ∀ q ∈ ps, q.1 ≤ p.1
  | [], h => absurd rfl h
  | [p], _ => ⟨p, List.mem_cons_self, fun q hq => by rw [List.mem_singleton.mp hq]; exact Int.le_refl _⟩
  | p :: r :: ps, _ => by
    obtain ⟨m, hm, hx⟩ := far_right (ps := r :: ps) (by simp)
    rcases Int.le_total p.1 m.1 with c | c
    · refine ⟨m, List.mem_cons_of_mem _ hm, fun q hq => ?_⟩
      rcases List.mem_cons.mp hq with e | hq
      · rw [e]; exact c
      · exact hx q hq
    · refine ⟨p, List.mem_cons_self, fun q hq => ?_⟩
      rcases List.mem_cons.mp hq with e | hq
      · rw [e]; exact Int.le_refl _
      · have := hx q hq
        omega
theorem near_ne {all : List Spt} (h : all ≠ []) : 1 ≤ (nearF all all).length := by
  obtain ⟨p, hp, hx⟩ := far_right h
  refine List.length_pos_iff.mpr (List.ne_nil_of_mem (a := (p.1 + 1, p.2)) (List.mem_flatten.mpr ⟨_, List.mem_map.mpr ⟨p, hp, rfl⟩, List.mem_filter.mpr ⟨List.mem_cons_self, ?_⟩⟩))
  rw [Bool.not_eq_true', memA_not]
  intro m
  have z : p.1 + 1 ≤ p.1 := hx _ m
  omega
/-- joins between spots -/
structure RowJ (spots : List Spt) (dx dy : Int) (r : List (Option Nat)) : Prop where
  len : r.length = spots.length
  at_ : ∀ (j c : Nat), r[j]? = some (some c) → ∃ p : Spt, spots[j]? = some p ∧ spots[c]? = some (p.1 + dx, p.2 + dy)
theorem RowJ.ok {spots : List Spt} {dx dy : Int} {r : List (Option Nat)} (nd : spots.Nodup) (R : RowJ spots dx dy r) : RowOk spots.length r := by
  refine ⟨R.len, fun c m => ?_, fun i j c hi hj => ?_⟩
  · obtain ⟨j, hj, e⟩ := List.getElem_of_mem m
    obtain ⟨p, _, h2⟩ := R.at_ j c (by rw [List.getElem?_eq_getElem hj, e])
    exact (List.getElem?_eq_some_iff.mp h2).1
  · obtain ⟨p, h1, h2⟩ := R.at_ i c hi
    obtain ⟨q, h3, h4⟩ := R.at_ j c hj
    rw [h2] at h4
    have e := Option.some.inj h4
    have e1 := congrArg Prod.fst e
    have e2 := congrArg Prod.snd e
    simp only at e1 e2
    have e3 : p = q := by
      obtain ⟨p1, p2⟩ := p
      obtain ⟨q1, q2⟩ := q
      simp only at e1 e2
      rw [show p1 = q1 by omega, show p2 = q2 by omega]
    subst e3
    obtain ⟨l1, g1⟩ := List.getElem?_eq_some_iff.mp h1
    obtain ⟨l2, g2⟩ := List.getElem?_eq_some_iff.mp h3
    rcases Nat.lt_trichotomy i j with c | c | c
    · exact absurd (g1.trans g2.symm) (List.pairwise_iff_getElem.mp nd _ _ l1 l2 c)
    · exact c
    · exact absurd (g2.trans g1.symm) (List.pairwise_iff_getElem.mp nd _ _ l2 l1 c)
theorem RowJ.put {spots : List Spt} {dx dy : Int} {r : List (Option Nat)} (R : RowJ spots dx dy r) {i : Nat} {p : Spt} (hp : spots[i]? = some p) (m : (p.1 + dx, p.2 + dy) ∈ spots) : RowJ spots dx dy (r.set i (some (ixA (p.1 + dx, p.2 + dy) spots))) := by
  refine ⟨by rw [List.length_set]; exact R.len, fun j c hj => ?_⟩
  rcases set_get hj with ⟨e1, e2, _⟩ | ⟨_, e2⟩
  · subst e1
    have e3 := Option.some.inj e2
    subst e3
    exact ⟨p, hp, ixA_at m⟩
  · exact R.at_ j c e2
theorem RowJ.none (spots : List Spt) (dx dy : Int) : RowJ spots dx dy (List.replicate spots.length none) := by
  refine ⟨List.length_replicate, fun j c h => ?_⟩
  have := List.eq_of_mem_replicate (List.mem_of_getElem? h)
  cases this
theorem enD_get {ds : List PyData} {i : Nat} {d : PyData} (h : (enD ds)[i]? = some d) : ∃ x, ds[i]? = some x ∧ d = .list [.int (i : Nat), x] := by
  unfold enD at h
  rw [List.getElem?_map, List.getElem?_zipIdx] at h
  cases q : ds[i]? with
  | none => rw [q] at h; cases h
  | some x =>
    rw [q] at h
    have e := Option.some.inj h
    exact ⟨x, rfl, by rw [← e]; simp⟩
theorem rep_none (n : Nat) : (List.replicate n [PyData.none]).flatten = (List.replicate n (Option.none : Option Nat)).map eO := by
  induction n with
  | zero => rfl
  | succ n ih => rw [List.replicate_succ, List.flatten_cons, ih, List.replicate_succ]; rfl
section
variable {P : Program} {w : World} {K : PySem.W.Frag} {mg : Str → Option Value} {base : Heap}
theorem b_joins (G : G47 K mg) : Cl P w K mg base 4 "_law_joins" (fun rs Q => ∃ n : Nat, rs = [.bag, .d (.int n)] ∧ 1 ≤ n ∧ n ≤ 4 ∧ ∀ r u, RowOk n r → RowOk n u → Q (.d (.tuple [eRw r, eRw u]))) := by
  refine cal_data (G.at 34 "_law_joins" s_Ljoins) sc_Ljoins (fun _ _ _ _ _ _ us hl => match us, hl with | [_, _], _ => rfl) (fun rs Q h => ?_) (by decide) fun f cdv A outer s H E b rs Q as hr hw => ?_
  · obtain ⟨_, rfl, _⟩ := h; rfl
  · obtain ⟨n, rfl, n1, n4, k⟩ := hw
    show SSX _ _ _ [_, _, _, _, _, _, _, _, _, _, _] _ _
    have nd := sc_Ljoins.nd
    have hu := room65 hr
    refine ssx_cons (sx_parC 2 3 (ax_cons (Pr := fun rs => rs = [.fr [eG (0, 0)]]) (P := fun rs => ∃ v : Nat, rs = [.d (.int v), .fr [eG (0, 0)]]) (ex_take (m := 4) (b_take G) hr (by omega) (ed_var 0) ed_int (by decide) (by decide)) (ad_cons (ed_lst (ad_cons (ed_tup (ad_cons ed_int (ad_cons ed_int ad_nil))) ad_nil)) ad_nil) fun r rs ⟨v, _, e1⟩ e2 => ⟨v, by rw [e1, e2]⟩) (fun rs ⟨kind, e⟩ => ⟨_, _, _, _, e, rfl, rfl, ?_⟩) nd)
    refine ssx_cut (fun Δ' => ∃ spots : List Spt, Δ' = [.bag, .d (.int n), .d (.int kind), .ow (spots.map eG), .un, .un, .un, .un, .un, .un, .un] ∧ spots.Nodup ∧ spots.length = n) (sx_forN (rgD 1 ((n : Int) - 1).toNat) id (ix_cast (ix_range2 rfl G.range ed_int (ed_var 1) (by omega) (by omega) (by omega) (by omega)) (List.map_id _).symm) (fun s : List Spt => [.bag, .d (.int n), .d (.int kind), .ow (s.map eG), .un, .un, .un, .un, .un, .un, .un]) (fun i s => s.Nodup ∧ s.length = i + 1) ⟨[(0, 0)], ⟨by simp, rfl⟩, lo_same (lo_same (lo_same (lo_same (lo_same (lo_same (lo_same (lo_same (lo_same (lo_same (lo_same lo_nil))))))))))⟩ (fun Hb' i d spots hi I => ?_) fun spots I => ⟨⟨spots, rfl, I.1, ?_⟩, fun q hq => by simp [brs] at hq⟩) fun Δ' ⟨spots, e, sn, sl⟩ => ?_
    · have hlt := (List.getElem?_eq_some_iff.mp hi).1
      rw [rgD_len] at hlt
      rw [rgD_get hlt] at hi
      have ed := Option.some.inj hi
      subst ed
      obtain ⟨sn, sl⟩ := I
      have s4 : spots.length ≤ 4 := by omega
      refine gx_name 4 ?_ nd
      refine ssx_cons (sx_setF 5 (ed_lst ad_nil) ?_ nd)
      refine ssx_cons (sx_forSA 3 spots eG (ix_slot 3) (fun a i => [.bag, .d (.int n), .d (.int kind), .br a (spots.map eG), .un, .ow ((nearF spots (spots.take i)).map eG), .un, .un, .un, .un, .un]) (fun a => lo_same (lo_same (lo_same (lo_same (lo_un (lo_same (lo_same (lo_same (lo_same (lo_same (lo_same lo_nil))))))))))) (fun a Hb2 m p hp => ?_) (fun a => ⟨rfl, ?_⟩) fun a q hq => by simp [brs] at hq)
      · obtain ⟨x, y⟩ := p
        refine gx_tup (gsx_cons (gx_name 6 (gsx_cons (gx_name 7 (gsx_nil ?_) nd)) nd))
        refine ssx_one (sx_extend 5 (P := fun z => z = .fr (((near4 (x, y)).filter fun q => !memA q spots).map eG)) (ed_lc 10 (near4 (x, y)) eG (fun q => !memA q spots) eG (ix_tup (ed_tup (ad_cons (ed_tup (ad_cons (ed_add (ed_var 6) ed_int) (ad_cons (ed_var 7) ad_nil))) (ad_cons (ed_tup (ad_cons (ed_sub (ed_var 6) ed_int) (ad_cons (ed_var 7) ad_nil))) (ad_cons (ed_tup (ad_cons (ed_var 6) (ad_cons (ed_add (ed_var 7) ed_int) ad_nil))) (ad_cons (ed_tup (ad_cons (ed_var 6) (ad_cons (ed_sub (ed_var 7) ed_int) ad_nil))) ad_nil)))))) (fun s' H' C cl fp a ha => tsx_one (td_ninL hu enc_G (ed_var 10) (ed_var 3))) (fun s' H' C cl fp a ha pa => ed_var 10) ?_ ?_ nd ?_) fun z e => ⟨_, e, ?_, ?_⟩)
        · show 4 ≤ 1000
          decide
        · refine bk_Ljoins _ _ ?_
          decide +kernel
        · exact fun s' H' C cl fp => pg_name nd rfl (Or.inl rfl) (.inr rfl)
        · have h1 := near_len spots (spots.take m)
          have h2 := List.length_filter_le (fun q => !memA q spots) (near4 (x, y))
          have h3 : (near4 (x, y)).length = 4 := rfl
          rw [List.length_take] at h1
          rw [List.length_map, List.length_map]
          omega
        · refine lo_same (lo_same (lo_same (lo_same (lo_same (lo_eq ?_ (lo_un (lo_un (lo_same (lo_same (lo_same lo_nil))))))))))
          rw [nearF_succ hp, List.map_append]
      · rw [List.take_length]
        have hne : spots ≠ [] := fun e => by rw [e] at sl; cases sl
        have h1 := near_ne hne
        have h2 := near_len spots spots
        refine ssx_one (sx_append 3 (xs := spots.map eG) (ex_someL (xs := (nearF spots spots).map eG) (b_someL G) hr (by omega) (ed_var 0) (ed_var 5) (by rw [List.length_map]; exact h1) (by rw [List.length_map]; omega)) fun r ⟨d, hd, e⟩ => ⟨d, e, by rw [List.length_map, sizeLine_eq]; exact Nat.lt_of_le_of_lt s4 (by decide), ?_⟩)
        obtain ⟨q, hq, rfl⟩ := List.mem_map.mp hd
        refine ⟨spots ++ [q], ⟨List.nodup_append.mpr ⟨sn, by simp, fun a ha b hb e2 => near_no hq ?_⟩, by rw [List.length_append, sl]; rfl⟩, lo_same (lo_same (lo_same (lo_eq ?_ (lo_same (lo_un (lo_same (lo_same (lo_same (lo_same (lo_same lo_nil))))))))))⟩
        · rw [← List.mem_singleton.mp hb, ← e2]
          exact ha
        · rw [List.map_append]
          rfl
    · have z := I.2
      rw [rgD_len] at z
      omega
    · subst e
      refine ssx_cons (sx_set 3 (ex_mixed (xs := spots) (enc := eG) (b_mixed G) hr (by omega) (ed_var 0) (ed_var 3) (by omega)) (fun r ⟨ys, p, e⟩ => ⟨.ow (ys.map eG), by rw [e]; rfl, ?_⟩) nd)
      have yn := p.nodup_iff.mpr sn
      have yl : ys.length = n := p.length_eq.trans sl
      subst yl
      have rep : ∀ {e1 e2 : Rs}, e1 = .fr (List.replicate ys.length [PyData.none]).flatten → e1 = .fr ((List.replicate ys.length (Option.none : Option Nat)).map eO) := fun {e1 _} h => by rw [h, rep_none]
      refine ssx_cons (sx_par 8 9 rfl (ad_cons ((ed_rep (k := ys.length) (ed_lst (ad_cons ed_non ad_nil)) (ed_var 1) (by show 1 * _ ≤ _; omega) (by omega)).cast (congrArg Rs.fr (rep_none _))) (ad_cons ((ed_rep (k := ys.length) (ed_lst (ad_cons ed_non ad_nil)) (ed_var 1) (by show 1 * _ ≤ _; omega) (by omega)).cast (congrArg Rs.fr (rep_none _))) ad_nil)) (fun rs e => ⟨_, _, _, _, e, rfl, rfl, ?_⟩) nd)
      refine ssx_cons (sx_forSN 3 (enD (ys.map eG)) id (β := List (Option Nat) × List (Option Nat)) (ix_cast (ix_enum 3 rfl G.enumerate) (List.map_id _).symm) (fun a s => [.bag, .d (.int ys.length), .d (.int kind), .br a (ys.map eG), .un, .un, .un, .un, .ow (s.1.map eO), .ow (s.2.map eO), .un]) (fun _ s => RowJ ys 1 0 s.1 ∧ RowJ ys 0 1 s.2) ⟨(List.replicate ys.length Option.none, List.replicate ys.length Option.none), ⟨.none _ _ _, .none _ _ _⟩, fun a => lo_same (lo_same (lo_same (lo_same (lo_same (lo_same (lo_same (lo_same (lo_same (lo_same (lo_same lo_nil))))))))))⟩ (fun a Hb' i d st hi I => ?_) fun a st I => ⟨⟨rfl, ?_⟩, fun q hq => by simp [brs] at hq⟩)
      · obtain ⟨r, u⟩ := st
        obtain ⟨Ir, Iu⟩ := I
        obtain ⟨d2, h1, e1⟩ := enD_get hi
        subst e1
        rw [List.getElem?_map] at h1
        cases hp : ys[i]? with
        | none => rw [hp] at h1; cases h1
        | some p =>
          rw [hp] at h1
          have e2 := Option.some.inj h1
          subst e2
          obtain ⟨x, y⟩ := p
          have hi2 : i < ys.length := (List.getElem?_eq_some_iff.mp hp).1
          refine gx_tupL (gsx_cons (gx_name 4 (gsx_cons (gx_tup (gsx_cons (gx_name 6 (gsx_cons (gx_name 7 (gsx_nil (gsx_nil ?_)) nd)) nd)))) nd))
          refine ssx_cut (fun Δ' => ∃ r', RowJ ys 1 0 r' ∧ Δ' = [.bag, .d (.int ys.length), .d (.int kind), .br a (ys.map eG), .d (.int i), .un, .d (.int x), .d (.int y), .ow (r'.map eO), .ow (u.map eO), .un]) (sx_if (Pc := fun z => z = true → (x + 1, y) ∈ ys) (PW.pt (twx_and (td_lt (ed_var 2) ed_int) (fun _ => twx_and (td_inL hu enc_G (x := (x + 1, y)) (ys := ys) (ed_tup (ad_cons (ed_add (ed_var 6) ed_int) (ad_cons (ed_var 7) ad_nil))) (ed_var 3)) (fun h => twx_one ((tx_gtI (q := fun _ => True) (EX.imp (P' := IP fun _ => True) (ex_take (m := 5) (b_take G) hr (by omega) (ed_var 0) ed_int (by decide) (by decide)) fun r ⟨v, _, e⟩ => ⟨_, trivial, e⟩) (ed_int.ip trivial)).imp fun z _ _ => memA_iff.mp h.symm)) fun _ z => absurd z (by decide)) fun _ z => absurd z (by decide))) (fun h => ?_) fun _ => ssx_nil ⟨r, Ir, rfl⟩) fun Δ' ⟨r', Ir', e⟩ => ?_
          · have hm := h rfl
            refine ssx_one (sx_setItem 8 (xs := r.map eO) (P := fun z => z = .d (.int (ixA (x + 1, y) ys : Nat))) (ed_ixOfL hu enc_G (k := (x + 1, y)) (ks := ys) (ed_var 3) (ed_tup (ad_cons (ed_add (ed_var 6) ed_int) (ad_cons (ed_var 7) ad_nil))) hm) (j := (i : Nat)) (m := i) (ed_var 4) (by rw [List.length_map, Ir.len]; exact ixN_nat hi2) fun z e => ⟨_, e, ?_⟩)
            have hm' : ((x, y).1 + 1, (x, y).2 + 0) ∈ ys := by
              show (x + 1, y + 0) ∈ ys
              rw [Int.add_zero]
              exact hm
            have z := Ir.put hp hm'
            have e3 : ((x, y).1 + (1 : Int), (x, y).2 + (0 : Int)) = (x + 1, y) := by
              show (x + 1, y + 0) = _
              rw [Int.add_zero]
            rw [e3] at z
            refine ⟨_, z, ?_⟩
            show [_, _, _, _, _, _, _, _, Sl.ow ((r.map eO).set i (eO (some (ixA (x + 1, y) ys)))), _, _] = _
            rw [← List.map_set]
          · subst e
            refine ssx_one (sx_if (Pc := fun z => z = true → (x, y + 1) ∈ ys) (PW.pt (twx_and (td_lt (ed_var 2) ed_int) (fun _ => twx_and (td_inL hu enc_G (x := (x, y + 1)) (ys := ys) (ed_tup (ad_cons (ed_var 6) (ad_cons (ed_add (ed_var 7) ed_int) ad_nil))) (ed_var 3)) (fun h => twx_one ((tx_gtI (q := fun _ => True) (EX.imp (P' := IP fun _ => True) (ex_take (m := 5) (b_take G) hr (by omega) (ed_var 0) ed_int (by decide) (by decide)) fun r ⟨v, _, e⟩ => ⟨_, trivial, e⟩) (ed_int.ip trivial)).imp fun z _ _ => memA_iff.mp h.symm)) fun _ z => absurd z (by decide)) fun _ z => absurd z (by decide))) (fun h => ?_) fun _ => ssx_nil ⟨(r', u), ⟨Ir', Iu⟩, lo_same (lo_same (lo_same (lo_same (lo_un (lo_same (lo_un (lo_un (lo_same (lo_same (lo_same lo_nil))))))))))⟩)
            have hm := h rfl
            refine ssx_one (sx_setItem 9 (xs := u.map eO) (P := fun z => z = .d (.int (ixA (x, y + 1) ys : Nat))) (ed_ixOfL hu enc_G (k := (x, y + 1)) (ks := ys) (ed_var 3) (ed_tup (ad_cons (ed_var 6) (ad_cons (ed_add (ed_var 7) ed_int) ad_nil))) hm) (j := (i : Nat)) (m := i) (ed_var 4) (by rw [List.length_map, Iu.len]; exact ixN_nat hi2) fun z e => ⟨_, e, ?_⟩)
            have e3 : ((x, y).1 + (0 : Int), (x, y).2 + (1 : Int)) = (x, y + 1) := by
              show (x + 0, y + 1) = _
              rw [Int.add_zero]
            have z := Iu.put hp (by rw [e3]; exact hm)
            rw [e3] at z
            refine ⟨(r', _), ⟨Ir', z⟩, lo_same (lo_same (lo_same (lo_same (lo_un (lo_same (lo_un (lo_un (lo_same (lo_eq ?_ (lo_same lo_nil))))))))))⟩
            show Sl.ow ((u.map eO).set i (eO (some (ixA (x, y + 1) ys)))) = Sl.ow _
            rw [← List.map_set]
      · obtain ⟨r, u⟩ := st
        obtain ⟨Ir, Iu⟩ := I
        have Ro := Ir.ok yn
        have Uo := Iu.ok yn
        refine ssx_cut (fun Δ' => ∃ r' u', RowOk ys.length r' ∧ RowOk ys.length u' ∧ Δ' = [.bag, .d (.int ys.length), .d (.int kind), .ow (ys.map eG), .un, .un, .un, .un, .ow (r'.map eO), .ow (u'.map eO), .un]) (sx_ifD (td_gt (ed_var 2) ed_int) (fun _ => ?_) fun _ => ssx_nil ⟨r, u, Ro, Uo, rfl⟩) fun Δ' ⟨r', u', Ro', Uo', e⟩ => ?_
        · refine ssx_one (sx_par 8 9 rfl (ax_cons (Pa := fun z => ∃ r', RowOk ys.length r' ∧ z = .fr (r'.map eO)) (Pr := fun rs => ∃ u', RowOk ys.length u' ∧ rs = [.fr (u'.map eO)]) (P := fun rs => ∃ r' u', RowOk ys.length r' ∧ RowOk ys.length u' ∧ rs = [.fr (r'.map eO), .fr (u'.map eO)]) (ex_c (b_gated G) hr (by omega) (ad_cons (ed_var 0) (ad_cons (ed_var 8) ad_nil)) fun rs e => by rw [e]; exact ⟨ys.length, r, rfl, Ro, by omega, fun r' h => ⟨r', h, rfl⟩⟩) (ax_cons (Pa := fun z => ∃ u', RowOk ys.length u' ∧ z = .fr (u'.map eO)) (Pr := fun rs => rs = []) (ex_c (b_gated G) hr (by omega) (ad_cons (ed_var 0) (ad_cons (ed_var 9) ad_nil)) fun rs e => by rw [e]; exact ⟨ys.length, u, rfl, Uo, by omega, fun u' h => ⟨u', h, rfl⟩⟩) ad_nil fun r rs ⟨u', h, e1⟩ e2 => ⟨u', h, by rw [e1, e2]⟩) fun r rs ⟨r', h, e1⟩ ⟨u', h2, e2⟩ => ⟨r', u', h, h2, by rw [e1, e2]⟩) (fun rs ⟨r', u', h1, h2, e⟩ => ⟨_, _, _, _, e, rfl, rfl, r', u', h1, h2, rfl⟩) nd)
        · subst e
          exact ssx_one (sx_retD (ed_tup (ad_cons (ed_tupleL G.tuple (ed_var 8)) (ad_cons (ed_tupleL G.tuple (ed_var 9)) ad_nil))) (k r' u' Ro' Uo'))
end
end K47
set_option Elab.async false
set_option linter.all false
set_option maxRecDepth 100000
set_option maxHeartbeats 2000000
namespace K47
open PySem PySem.Spec PyProof.Rows L2
section
variable {X : Cx} {b : Option Addr} {Hb : Hp} {Δ : List Sl} {e f tg : Expr} {pos : Pos} {D : Dn} {body : List Stmt} {p q : Int → Prop}
/-- a for over a list just made of which only a law is known -/
theorem sx_forE {α β : Type} (enc : α → PyData) (Px : List α → Prop) (h : EX X b Hb Δ e (fun r => ∃ xs, Px xs ∧ r = .fr (xs.map enc))) (J : β → List Sl) (I : List α → Nat → β → Prop) (h0 : ∀ xs, Px xs → ∃ s, I xs 0 s ∧ Lo Δ (J s))
    (hs : ∀ (Hb' : Hp) (xs : List α) (i : Nat) (a : α) (s : β), Px xs → xs[i]? = some a → I xs i s → GX X b Hb' (J s) tg (enc a) (fun Δ'' => SSX X b Hb' Δ'' body { nx := fun Δ' => ∃ s', I xs (i + 1) s' ∧ Lo Δ' (J s'), ct := fun Δ' => ∃ s', I xs (i + 1) s' ∧ Lo Δ' (J s'), rt := D.rt }))
    (hd : ∀ xs s, Px xs → I xs xs.length s → D.nx (J s) ∧ ∀ p ∈ brs (J s), p ∈ brs Δ) (hp : PassesOwn (model X.prog X.w) X.A X.env X.xe := by exact PassesOwn.never) (hc : X.calm = true := by rfl) (hf : ∀ x, foldedSetIterable e X.env x = pure x := by intro _; rfl) : SX X b Hb Δ (.For tg e body [] pos) D := by
  have hi : PI X tg e (fun σ H R => En X.K b Hb Δ σ H ∧ ∀ xs, Px xs → ∀ J H1 lk, Fr b H H1 → DW X.K b J (xs.map enc) H1 lk → LkOk X.K b Hb σ H H1 (xs.map enc) lk (some (xs.map enc)) .tmp → R J H1) := pi_imp (pi_list h) fun σ H R q => ⟨q.1, fun v H1 r pr f1 k1 => by
    obtain ⟨xs, px, er⟩ := pr
    subst er
    obtain ⟨a, vs, e1, n, e2, t⟩ := k1
    subst e1
    exact ⟨a, rfl, ⟨_, SqL.of e2⟩, q.2 xs px _ H1 _ f1 (dw_list t) ⟨a, vs, _, rfl, rfl, n, e2, t⟩⟩⟩
  let Jd : List α → Nat → List Sl → Prop := fun xs i Δ' => ∃ s, I xs i s ∧ Lo Δ' (J s)
  let Di : List α → Nat → Dn := fun xs i => { nx := Jd xs (i + 1), ct := Jd xs (i + 1), rt := D.rt }
  have hg : PG X tg (fun v σ H Q => ∃ xs Hb' i x Δ', Px xs ∧ xs[i]? = some x ∧ Jd xs i Δ' ∧ tG X.K b Hb' Δ' (enc x) (fun Δ'' => SSX X b Hb' Δ'' body (Di xs i)) v σ H Q) := ⟨fun pins s σ H v u Q IV r ⟨xs, Hb', i, x, Δ', px, h1, ⟨st, j1, j2⟩, z⟩ => (gx_lo j2 (hs Hb' xs i x st px h1 j1)).run pins s σ H v u Q IV r z⟩
  have hb : PSs X body (fun E σ H => ∃ Hb' Δ' Dd, SSX X b Hb' Δ' body Dd ∧ tS X.K b Hb' Δ' Dd E σ H) := ⟨fun pins s σ H E IV ⟨Hb', Δ', Dd, m, z⟩ => m.run pins s σ H E IV z⟩
  refine ps_imp (ps_for hp hc hi hg hb hf) fun E σ H q => ⟨q.1, fun xs px It H1 lk f1 dw lo => ?_⟩
  obtain ⟨Gd, Y, wk, hG, hY⟩ := dw
  obtain ⟨a, vs, ys, e1, _, n, e3, t⟩ := lo
  subst e1
  have en := q.1
  have en1 := en.step f1
  have li : LkIn Hb H1 (some (a, vs)) := fun a' vs' e => by
    cases e
    exact ⟨en.fr.free en.bag n, e3⟩
  have le := lock_le li en.bag en1.fr
  have en2 := en1.lock li fun j ys a' vs' e o z => by
    cases e
    exact en.noOw (i := Δ.length) n j ys (fun z => by subst z; simp at o) o z
  have sq : ∀ H', Fr b (lockH Hb H1 (some (a, vs))) H' → ∀ a' vs', some (a, vs) = some (a', vs') → SqL X.K H' a' vs' := fun H' f a' vs' e => by
    cases e
    exact SqL.of (f.all _ _ (en.bag.ne_none (en.fr.free en.bag n)) (lock_at e3 rfl))
  have ktOf : ∀ {H'}, Fr b (lockH Hb H1 (some (a, vs))) H' → BagIn b (lockH Hb H1 (some (a, vs))) → KT H1 H' := fun {H'} f bi => kt_lock.trans (f.kt bi)
  have gdOf : ∀ {H'}, Fr b (lockH Hb H1 (some (a, vs))) H' → BagIn b (lockH Hb H1 (some (a, vs))) → Gd H' := fun {H'} f bi => hG H' (.inr (ktOf f bi)) (sq H' f) (ktOf f bi)
  obtain ⟨s0, i0, l0⟩ := h0 xs px
  refine for_it (D := E) (g := fun v σ H Q => ∃ xs Hb' i x Δ', Px xs ∧ xs[i]? = some x ∧ Jd xs i Δ' ∧ tG X.K b Hb' Δ' (enc x) (fun Δ'' => SSX X b Hb' Δ'' body (Di xs i)) v σ H Q)
    (tb := fun E σ H => ∃ Hb' Δ' Dd, SSX X b Hb' Δ' body Dd ∧ tS X.K b Hb' Δ' Dd E σ H) wk (fun i σ' H' => ∃ Δ', Jd xs i Δ' ∧ En X.K b (lockH Hb H1 (some (a, vs))) Δ' σ' H') ⟨Δ, ⟨s0, i0, l0⟩, en2⟩ ?_ ?_ ?_
  · rintro i σ' H' hi ⟨Δ', _, en'⟩
    exact gdOf en'.fr en'.bag
  · rintro i x σ' H' H'' hi ⟨Δ', j, en'⟩ y
    obtain ⟨ext, d, e4, kd⟩ := hY i H' x H'' hi (ktOf en'.fr en'.bag) (gdOf en'.fr en'.bag) y
    rw [List.getElem?_map] at e4
    cases hx : xs[i]? with
    | none => rw [hx] at e4; cases e4
    | some c =>
      rw [hx] at e4
      have e5 : enc c = d := Option.some.inj e4
      subst e5
      refine ⟨xs, lockH Hb H1 (some (a, vs)), i, c, Δ', px, hx, j, en'.step (.same ext), kd, fun Δ2 σ2 H2 n2 e2 k2 => ⟨_, Δ2, Di xs i, n2, e2, ?_, ?_, ?_, ?_⟩⟩
      · exact fun Δ3 σ3 H3 p e3 => ⟨Δ3, p, e3⟩
      · exact fun r v H3 p f k => q.2.2.1 r v H3 p ⟨fun x o n h => f.all x o n (le x o h), fun x e c kk => f.bag x e c (kk.same le)⟩ (k.unlock le)
      · exact fun Δ3 σ3 H3 p e3 => p.elim
      · exact fun Δ3 σ3 H3 p e3 => ⟨Δ3, p, e3⟩
  · rintro σ' H' ⟨Δ', ⟨s1, i1, l1⟩, en'⟩
    rw [List.length_map] at i1
    obtain ⟨n1, n2⟩ := hd xs s1 px i1
    exact q.2.1 _ σ' H' n1 ((en'.lo l1).unlock en.bag le (br_of en n2))
/-- xs[:n], both unknown -/
theorem ex_slTo {α : Type} {enc : α → PyData} {Px : List α → Prop} {p2 : Pos} (ha : EX X b Hb Δ e (fun r => ∃ xs, Px xs ∧ r = .fr (xs.map enc))) (hf : EX X b Hb Δ f (fun r => ∃ n : Nat, r = .d (.int n))) : EX X b Hb Δ (.Subscript e (.Slice none (some f) none p2) pos) (fun r => ∃ xs, (∃ (ys : List α) (n : Nat), Px ys ∧ xs = ys.take n) ∧ r = .fr (xs.map enc)) := by
  have hl : PO X (some f) (fun σ H Q => En X.K b Hb Δ σ H ∧ ∀ (i : Nat) H', Fr b H H' → Q (some (i : Int)) H') := ⟨fun pins s σ H Q I q => (po_some hf).run pins s σ H Q I ⟨q.1, fun v H1 r ⟨i, er⟩ f1 k1 => by
    subst er
    cases k1
    exact ⟨i, rfl, q.2 i H1 f1⟩⟩⟩
  refine pe_imp (pe_slice sl_list ha (po_no (X := X) (b := b) (Hb := Hb) (Δ := Δ)) hl) fun σ H Q q => ⟨q.1, fun v H1 r' p1 f1 k1 => ?_⟩
  obtain ⟨xs, px, er⟩ := p1
  subst er
  obtain ⟨a, vs, e1, n, e2, t⟩ := k1.ls q.1.bag q.1.bagH rfl
  subst e1
  refine ⟨q.1.step f1, fun H2 f2 => ⟨(q.1.step f1).step f2, fun i H3 f3 => ?_⟩⟩
  have t3 := t.keep ((f2.trans f3).kt (q.1.step f1).bagH)
  refine ⟨_, _, rfl, sql_fr (f2.trans f3) n e2, fun p hp => ?_⟩
  have e0 : cutD (xs.map enc) none (some (i : Int)) = (xs.take i).map enc := by rw [cut_take, List.map_take]
  exact q.2 _ _ _ ⟨xs.take i, ⟨xs, i, px, rfl⟩, rfl⟩ ((f1.trans (f2.trans f3)).trans (.new hp)) ⟨p, _, rfl, (f1.trans (f2.trans f3)).free q.1.bagH hp, upd_same, by rw [← e0]; exact (dts_cut t3 none (some (i : Int))).keep (KT.new hp)⟩
/-- an int compared, the answer's value -/
theorem ex_eqI (ha : EX X b Hb Δ e (IP p)) (hb : EX X b Hb Δ f (IP q)) (hm : behindInMarks .Eq f = false := by first | exact nomark _ | rfl) : EX X b Hb Δ (.Compare e [.Eq] [f] pos) (fun r => ∃ c, r = .d (.bool c)) :=
  ex_cmp2 op_eq hm ha hb fun r s ⟨i, _, er⟩ ⟨j, _, es⟩ => by
    subst er es
    intro H0 H x y bb f0 f1 rr ss Q z
    cases rr
    cases ss
    exact ⟨rfl, z _ H _ ⟨_, rfl⟩ .refl (.bl _)⟩
end
/-! ### turns of the marks -/
def moveP (m by' : Nat) : List Nat := (List.range m).map fun a => if a + by' < m then a + by' else a + by' - m
theorem moveP_ok {m k : Nat} (h1 : 1 ≤ k) (h2 : k < m) : PermOk m (moveP m k) := by
  refine ⟨by unfold moveP; rw [List.length_map, List.length_range], ?_, fun i hi => ?_⟩
  · unfold moveP
    refine nodup_on (fun a ha b hb e => ?_) List.nodup_range
    rw [List.mem_range] at ha hb
    split at e <;> split at e <;> omega
  · unfold moveP at hi
    obtain ⟨a, ha, rfl⟩ := List.mem_map.mp hi
    rw [List.mem_range] at ha
    split <;> omega
theorem permP_ok {m : Nat} {p : List Nat} (h : p.Perm (List.range m)) : PermOk m p := ⟨by rw [h.length_eq, List.length_range], h.nodup_iff.mpr List.nodup_range, fun i hi => List.mem_range.mp (h.mem_iff.mp hi)⟩
section
variable {P : Program} {w : World} {K : PySem.W.Frag} {mg : Str → Option Value} {base : Heap}
theorem b_permutation (G : G47 K mg) : Cl P w K mg base 3 "_law_permutation" (fun rs Q => ∃ (m : Nat) (c : Bool), rs = [.bag, .d (.int m), .d (.bool c)] ∧ 2 ≤ m ∧ m ≤ 4 ∧ ∀ p, PermOk m p → Q (.d (eP p))) := by
  refine cal_data (G.at 37 "_law_permutation" s_Lpermutation) sc_Lpermutation (fun _ _ _ _ _ _ us hl => match us, hl with | [_, _, _], _ => rfl) (fun rs Q h => ?_) (by decide) fun f cdv A outer s H E b rs Q as hr hw => ?_
  · obtain ⟨_, _, rfl, _⟩ := h; rfl
  · obtain ⟨m, c, rfl, m2, m4, k⟩ := hw
    show SSX _ _ _ [_, _, _, _, _, _, _] _ _
    have nd := sc_Lpermutation.nd
    have hu := room65 hr
    refine ssx_cons (sx_set 3 (ex_addI (s := fun z => ∃ v : Nat, 1 ≤ v ∧ v < m ∧ z = v) (ed_int.ip (p := fun z => z = 1) rfl) (EX.imp (P' := IP fun z => ∃ v : Nat, v < m - 1 ∧ z = v) (ex_take (m := m - 1) (b_take G) hr (by omega) (ed_var 0) ((ed_sub (ed_var 1) ed_int).cast (congrArg (fun z => Rs.d (.int z)) (show (m : Int) - 1 = ((m - 1 : Nat) : Int) by omega))) (by omega) (by omega)) fun r ⟨v, hv, e⟩ => ⟨_, ⟨v, hv, rfl⟩, e⟩) fun i j hi ⟨v, hv, hj⟩ => ⟨v + 1, by omega, by omega, by omega⟩) (fun r ⟨z, ⟨v, v1, v2, ez⟩, e⟩ => ⟨.d (.int v), by rw [e, ez]; rfl, ?_⟩) nd)
    refine ssx_cons (sx_setLcD 4 6 (List.range m) eI (fun _ => true) (fun a => eI (if a + v < m then a + v else a + v - m)) (ix_rangeN rfl G.range (ed_var 1) (by omega)) (fun s' H' C cl fp a ha => tsx_nil rfl) (fun s' H' C cl fp a ha pa => ?_) (by rw [List.length_range]; omega) ?_ ?_ nd ?_ ?_)
    · refine ed_if (td_lt (ed_add (ed_var 6) (ed_var 3)) (ed_var 1)) (fun h => ?_) fun h => ?_
      · have h' : a + v < m := by
          have z : (a : Int) + (v : Int) < (m : Int) := of_decide_eq_true h
          omega
        rw [if_pos h']
        exact ED.cast (r := .d (.int ((a : Int) + (v : Int)))) (ed_add (ed_var 6) (ed_var 3)) (congrArg (fun z => Rs.d (.int z)) (show (a : Int) + v = ((a + v : Nat) : Int) by omega))
      · have h' : ¬ a + v < m := by
          have z : ¬ (a : Int) + (v : Int) < (m : Int) := of_decide_eq_false h
          omega
        rw [if_neg h']
        exact ED.cast (r := .d (.int ((a : Int) + (v : Int) - (m : Int)))) (ed_sub (ed_add (ed_var 6) (ed_var 3)) (ed_var 1)) (congrArg (fun z => Rs.d (.int z)) (show (a : Int) + v - m = ((a + v - m : Nat) : Int) by omega))
    · have e1 : ((List.range m).filter fun _ => true).map (fun a => eI (if a + v < m then a + v else a + v - m)) = (moveP m v).map eI := by
        rw [List.filter_eq_self.mpr fun _ _ => rfl]
        unfold moveP
        rw [List.map_map]
        rfl
      rw [e1]
      refine ssx_cons (sx_set 5 (ex_mixed (xs := List.range m) (enc := eI) (b_mixed G) hr (by omega) (ed_var 0) (ed_listRg (n := m) G.list G.range (ed_var 1) (by omega)) (by rw [List.length_range]; omega)) (fun r ⟨ys, p, e⟩ => ⟨.ow (ys.map eI), by rw [e]; rfl, ?_⟩) nd)
      refine ssx_one (sx_ret (ex_tupleL (P := fun r => ∃ p, PermOk m p ∧ r = .d (eP p)) (Pa := fun r => ∃ p, PermOk m p ∧ r = .ow (p.map eI)) G.tuple (ex_if (Pc := fun _ => True) (PW.pt (twx_or (Pa := fun _ => True) ((td_val (ed_var 2)).imp fun _ _ => trivial) (fun _ => twx_one ((td_eqD (r := .ow (ys.map eI)) (s := .fr ((List.range m).map eI)) (x := .list (ys.map eI)) (y := .list ((List.range m).map eI)) hu (ed_var 5) (ed_listRg (n := m) G.list G.range (ed_var 1) (by omega)) ?_ ?_).imp fun _ _ => trivial)) fun _ => trivial)) (fun _ => (ed_var 4).to ⟨_, moveP_ok v1 v2, rfl⟩) fun _ => (ed_var 5).to ⟨_, permP_ok p, rfl⟩) fun r ⟨p, hp, e⟩ => ⟨_, by rw [e]; rfl, p, hp, rfl⟩) fun r ⟨p, hp, e⟩ => ⟨r, by rw [e]; rfl, by rw [e]; exact k p hp⟩)
      · intro d h
        obtain ⟨x, _, rfl⟩ := List.mem_map.mp h
        exact enc_I.good x
      · intro d h
        obtain ⟨x, _, rfl⟩ := List.mem_map.mp h
        exact enc_I.good x
    · refine bk_Lpermutation _ _ ?_
      decide +kernel
    · exact fun s' H' C cl fp => pg_name nd rfl (Or.inl rfl) (.inr rfl)
    · rfl
end
end K47
set_option Elab.async false
set_option linter.all false
set_option maxRecDepth 100000
set_option maxHeartbeats 2000000
namespace K47
open PySem PySem.Spec PyProof.Rows L2
theorem al_D (a b : Edg × List Nat) : PySem.W.alike (eD a) (eD b) = true := by
  show PySem.W.alikeAll [eE a.1, eP a.2] [eE b.1, eP b.2] = true
  rw [PySem.W.alikeAll, PySem.W.alikeAll, show PySem.W.alike (eE a.1) (eE b.1) = true from rfl, show PySem.W.alike (eP a.2) (eP b.2) = true from al_list (fun _ _ => rfl) _ _]
  rfl
theorem enc_D : EncOk eD := ⟨fun a b h => by
  obtain ⟨a1, a2⟩ := a
  obtain ⟨b1, b2⟩ := b
  simp only [eD, PyData.tuple.injEq, List.cons.injEq, and_true] at h
  rw [enc_E.inj _ _ h.1, enc_P.inj _ _ h.2], fun a => good_tup fun d m => by
    have hE : (eE a.1).depth ≤ 7 := by simp [eE, PyData.depth, PyData.depthAll]
    have hP : (eP a.2).depth ≤ 7 := by
      have h0 : PyData.depthAll (a.2.map eI) ≤ 1 := dAll_le.mpr fun d m => by
        obtain ⟨x, _, rfl⟩ := List.mem_map.mp m
        simp [eI, PyData.depth]
      simp only [eP, PyData.depth]
      omega
    rcases List.mem_cons.mp m with e | m
    · rw [e]; exact ⟨enc_E.good _, hE⟩
    · rw [List.mem_singleton.mp m]; exact ⟨enc_P.good _, hP⟩⟩
theorem so_D (bs : List (Edg × List Nat)) : SortOk eD bs := ⟨fun a _ b _ => al_D a b, fun a _ => ⟨_, _, rfl⟩⟩
/-- names of corners -/
abbrev Nm : Type := Cor × { z : Str // PyData.strOk z = true }
def eN (p : Nm) : PyData := .tuple [eC p.1, .str p.2.1]
theorem al_N (a b : Nm) : PySem.W.alike (eN a) (eN b) = true := rfl
theorem enc_N : EncOk eN := ⟨fun a b h => by
  obtain ⟨a1, a2, a3⟩ := a
  obtain ⟨b1, b2, b3⟩ := b
  simp only [eN, PyData.tuple.injEq, List.cons.injEq, PyData.str.injEq, and_true] at h
  obtain ⟨h1, h2⟩ := h
  have h3 := enc_C.inj _ _ h1
  subst h3 h2
  rfl, fun a => ⟨by
    have h1 : pln (eC a.1) = true := rfl
    show pln (.tuple [eC a.1, .str a.2.1]) = true
    simp [pln, plnAll, h1, a.2.2], by simp [eN, eC, PyData.depth, PyData.depthAll]⟩⟩
theorem so_N (bs : List Nm) : SortOk eN bs := ⟨fun a _ b _ => al_N a b, fun a _ => ⟨_, _, rfl⟩⟩
section
variable {X : Cx} {b : Option Addr} {Hb : Hp} {Δ : List Sl} {e f : Expr} {es : List Expr} {pos : Pos} {P : Rs → Prop}
/-- one known, the rest not -/
theorem ax_one {r : Rs} {Pr : List Rs → Prop} (ha : ED X b Hb Δ e r) (hr : AX X b Hb Δ es Pr) (hs : starEach (e :: es) X.env = (false, eval e X.env) :: starEach es X.env := by rfl) : AX X b Hb Δ (e :: es) (fun rs => ∃ rs', Pr rs' ∧ rs = r :: rs') :=
  ax_cons ha hr (fun r' rs' e1 h => ⟨rs', h, by rw [e1]⟩) hs
theorem ex_catT {xs : List PyData} {P : PyData → Prop} (ha : ED X b Hb Δ e (.d (.tuple xs))) (hb : EX X b Hb Δ f (fun r => ∃ y, P y ∧ r = .d (.tuple [y]))) (hz : xs.length ≤ 1000) (n1 : xs ≠ []) : EX X b Hb Δ (.BinOp e .Add f pos) (fun r => ∃ y, P y ∧ r = .d (.tuple (xs ++ [y]))) :=
  ex_op2 op_catN ha hb fun r s er ⟨y, py, es⟩ => by
    subst er es
    intro H0 H u v bb f0 f1 rr ss Q q
    cases rr with
    | tup e1 t1 =>
      cases ss with
      | tup e2 t2 =>
        refine ⟨_, _, _, _, rfl, rfl, e1, e2, fun z => n1 ?_, fun z => ?_, ?_, fun p o hp ho => q _ _ _ ⟨y, py, rfl⟩ (.new hp) (.tup ⟨o, upd_same, ho⟩ ((t1.app t2).keep (KT.new hp)))⟩
        · subst z; cases t1; rfl
        · subst z; cases t2
        · rw [t1.len, t2.len]
          show _ + 1 ≤ _
          omega
end
section
variable {P : Program} {w : World} {K : PySem.W.Frag} {mg : Str → Option Value} {base : Heap}
theorem b_dials (G : G47 K mg) : Cl P w K mg base 4 "_law_dials" (fun rs Q => ∃ (m : Nat) (es : List Edg), rs = [.bag, .ls (es.map eE), .d (.int m)] ∧ 1 ≤ m ∧ m ≤ 4 ∧ es.Nodup ∧ es.length ≤ 16 ∧ ∀ ds : List (Edg × List Nat), (ds.map (·.1)).Nodup → (∀ d ∈ ds, PermOk m d.2) → ds.length ≤ 100 → Q (.d (eDs ds))) := by
  refine cal_data (G.at 38 "_law_dials" s_Ldials) sc_Ldials (fun _ _ _ _ _ _ us hl => match us, hl with | [_, _, _], _ => rfl) (fun rs Q h => ?_) (by decide) fun f cdv A outer s H E b rs Q as hr hw => ?_
  · obtain ⟨_, _, rfl, _⟩ := h; rfl
  · obtain ⟨m, es, rfl, m1, m4, en, el, k⟩ := hw
    show SSX _ _ _ [_, _, _, _, _, _] _ _
    have nd := sc_Ldials.nd
    have hu := room65 hr
    refine ssx_cons (sx_ifD (td_eqI (ed_var 2) ed_int) (fun h => ?_) fun h => ssx_nil ?_)
    · exact ssx_one (sx_retD (ed_tup ad_nil) (k [] List.nodup_nil (fun _ h => nomatch h) (Nat.zero_le _)))
    · have m2 : 2 ≤ m := by
        have z : ¬ (m : Int) = 1 := of_decide_eq_false h
        omega
      refine ssx_cons (sx_par 3 4 rfl (ax_cons (Pa := fun r => ∃ c, r = .d (.bool c)) (Pr := fun rs => rs = [.fr []]) (P := fun rs => ∃ c, rs = [.d (.bool c), .fr []]) (ex_eqI (q := fun _ => True) (EX.imp (P' := IP fun _ => True) (ex_take (m := 2) (b_take G) hr (by omega) (ed_var 0) ed_int (by decide) (by decide)) fun r ⟨v, _, e⟩ => ⟨_, trivial, e⟩) (ed_int.ip trivial) (nobehind _ (by decide) (by decide))) (ad_cons (ed_lst ad_nil) ad_nil) fun r rs ⟨c, e1⟩ e2 => ⟨c, by rw [e1, e2]⟩) (fun rs ⟨c, e⟩ => ⟨_, _, _, _, e, rfl, rfl, ?_⟩) nd)
      refine ssx_cons (sx_forE eE (fun xs : List Edg => ∃ (ys : List Edg) (n : Nat), ys.Perm es ∧ xs = ys.take n) (ex_slTo (ex_mixed (xs := es) (enc := eE) (b_mixed G) hr (by omega) (ed_var 0) (ed_var 1) (by omega)) (EX.imp (ex_someL (xs := [.int 1, .int 2, .int 0, .int 4, .int (es.map eE).length]) (b_someL G) hr (by omega) (ed_var 0) (ed_lst (ad_cons ed_int (ad_cons ed_int (ad_cons ed_int (ad_cons ed_int (ad_cons (ed_lenL G.len (ed_var 1)) ad_nil)))))) (by show 1 ≤ 5; decide) (by show 5 ≤ 1000; decide)) fun r ⟨x, hx, e⟩ => ?_)) (fun st : List (Edg × List Nat) => [.bag, .br (as 1) (es.map eE), .d (.int m), .d (.bool c), .ow (st.map eD), .un]) (fun xs i st => st.map (·.1) = xs.take i ∧ ∀ d ∈ st, PermOk m d.2) (fun xs px => ⟨[], ⟨by rw [List.take_zero]; rfl, fun _ h => nomatch h⟩, lo_same (lo_same (lo_same (lo_same (lo_same (lo_un lo_nil)))))⟩) (fun Hb' xs i ed st px hi I => ?_) (fun xs st px I => ?_))
      · have key : ∃ n : Nat, x = .int n := by
          rcases List.mem_cons.mp hx with e | hx
          · exact ⟨1, e⟩
          rcases List.mem_cons.mp hx with e | hx
          · exact ⟨2, e⟩
          rcases List.mem_cons.mp hx with e | hx
          · exact ⟨0, e⟩
          rcases List.mem_cons.mp hx with e | hx
          · exact ⟨4, e⟩
          · exact ⟨_, List.mem_singleton.mp hx⟩
        obtain ⟨n, en⟩ := key
        exact ⟨n, by rw [e, en]⟩
      · refine gx_name 5 ?_ nd
        obtain ⟨i1, i2⟩ := I
        have sl : st.length ≤ 16 := by
          obtain ⟨ys, n, p, ex⟩ := px
          have h1 := congrArg List.length i1
          rw [List.length_map, List.length_take, ex, List.length_take, p.length_eq] at h1
          omega
        refine ssx_one (sx_append 4 (xs := st.map eD) (P := fun r => ∃ p, PermOk m p ∧ r = .d (eD (ed, p))) (ex_tup (Pa := fun rs => ∃ rs', (∃ p, PermOk m p ∧ rs' = [.d (eP p)]) ∧ rs = .d (eE ed) :: rs') (ax_one (ed_var 5) (ax_cons (Pa := fun r => ∃ p, PermOk m p ∧ r = .d (eP p)) (Pr := fun rs => rs = []) (ex_c (b_permutation G) hr (by omega) (ad_cons (ed_var 0) (ad_cons (ed_var 2) (ad_cons (ed_var 3) ad_nil))) fun rs e => by rw [e]; exact ⟨m, c, rfl, m2, m4, fun p hp => ⟨p, hp, rfl⟩⟩) ad_nil fun r rs ⟨p, hp, e1⟩ e2 => ⟨p, hp, by rw [e1, e2]⟩)) fun rs ⟨rs', ⟨p, hp, e1⟩, e2⟩ => ⟨[eE ed, eP p], by rw [e2, e1]; rfl, by show 2 ≤ 1000; decide, p, hp, rfl⟩) fun r ⟨p, hp, e⟩ => ⟨_, e, by rw [List.length_map, sizeLine_eq]; exact Nat.lt_of_le_of_lt sl (by decide), ?_⟩)
        refine ⟨st ++ [(ed, p)], ⟨by rw [List.map_append, i1, List.take_add_one, hi]; rfl, fun d hd => ?_⟩, lo_same (lo_same (lo_same (lo_same (lo_eq ?_ (lo_un lo_nil)))))⟩
        · rcases List.mem_append.mp hd with h | h
          · exact i2 d h
          · rw [List.mem_singleton.mp h]; exact hp
        · rw [List.map_append]
          rfl
      · obtain ⟨i1, i2⟩ := I
        obtain ⟨ys, n, p, ex⟩ := px
        rw [List.take_length] at i1
        have sl : st.length ≤ 16 := by
          have h1 := congrArg List.length i1
          rw [List.length_map, ex, List.length_take, p.length_eq] at h1
          omega
        have kn : (st.map (·.1)).Nodup := by
          rw [i1, ex]
          exact List.Nodup.sublist (List.take_sublist _ _) (p.nodup_iff.mpr en)
        have sp : (srt eD st).Perm st := srt_perm st
        refine ⟨ssx_one (sx_retD (ed_tupleL G.tuple (ed_sortL hu G.sorted enc_D (ed_var 4) (so_D st) (by omega))) (k (srt eD st) ((sp.map (·.1)).nodup_iff.mpr kn) (fun d hd => i2 d (sp.mem_iff.mp hd)) (by rw [sp.length_eq]; omega))), fun q hq => hq⟩
theorem b_name (G : G47 K mg) : Cl P w K mg base 3 "_law_name" (fun rs Q => rs = [.bag] ∧ ∀ z, PyData.strOk z = true → Q (.d (.str z))) := by
  refine cal_data (G.at 39 "_law_name" s_Lname) sc_Lname (fun _ _ _ _ _ _ us hl => match us, hl with | [_], _ => rfl) (fun rs Q h => ?_) (by decide) fun f cdv A outer s H E b rs Q as hr hw => ?_
  · obtain ⟨rfl, _⟩ := h; rfl
  · obtain ⟨rfl, k⟩ := hw
    show SSX _ _ _ [_] _ _
    refine ssx_one (sx_ret (ex_someL (xs := (["a", "b", "top", "red", "side", "zz", "cushion", "abcdefghijkl"] : List Str).map PyData.str) (b_someL G) hr (by omega) (ed_var 0) (ed_lst (ad_cons ed_str (ad_cons ed_str (ad_cons ed_str (ad_cons ed_str (ad_cons ed_str (ad_cons ed_str (ad_cons ed_str (ad_cons ed_str ad_nil))))))))) (by decide) (by decide)) fun r ⟨x, hx, e⟩ => ?_)
    obtain ⟨z, hz, rfl⟩ := List.mem_map.mp hx
    have hs : ∀ z ∈ (["a", "b", "top", "red", "side", "zz", "cushion", "abcdefghijkl"] : List Str), PyData.strOk z = true := by decide +kernel
    exact ⟨r, by rw [e]; rfl, by rw [e]; exact k z (hs z hz)⟩
end
end K47
set_option Elab.async false
set_option linter.all false
set_option maxRecDepth 100000
set_option maxHeartbeats 2000000
namespace K47
open PySem PySem.Spec PyProof.Rows L2
section
variable {P : Program} {w : World} {K : PySem.W.Frag} {mg : Str → Option Value} {base : Heap}
theorem b_table (G : G47 K mg) : Cl P w K mg base 5 "_law_table" (fun rs Q => rs = [.bag, .d (.int 4)] ∧ ∀ t, TbOk t → Q (.d (eT t))) := by
  refine cal_data (G.at 40 "_law_table" s_Ltable) sc_Ltable (fun _ _ _ _ _ _ us hl => match us, hl with | [_, _], _ => rfl) (fun rs Q h => ?_) (by decide) fun f cdv A outer s H E b rs Q as hr hw => ?_
  · obtain ⟨rfl, _⟩ := h; rfl
  · obtain ⟨rfl, k⟩ := hw
    show SSX _ _ _ [_, _, _, _, _, _, _, _, _, _] _ _
    have nd := sc_Ltable.nd
    have hu := room65 hr
    refine ssx_cons (sx_par 2 3 rfl (ax_cons (Pa := IP fun z => ∃ n : Nat, 1 ≤ n ∧ n ≤ 4 ∧ z = n) (Pr := fun rs => ∃ m : Nat, 1 ≤ m ∧ m ≤ 4 ∧ rs = [.d (.int m)]) (P := fun rs => ∃ n m : Nat, (1 ≤ n ∧ n ≤ 4) ∧ (1 ≤ m ∧ m ≤ 4) ∧ rs = [.d (.int n), .d (.int m)]) (ex_addI (ed_int.ip (p := fun z => z = 1) rfl) (EX.imp (P' := IP fun z => ∃ v : Nat, v < 4 ∧ z = v) (ex_take (m := 4) (b_take G) hr (by omega) (ed_var 0) (ed_var 1) (by decide) (by decide)) fun r ⟨v, hv, e⟩ => ⟨_, ⟨v, hv, rfl⟩, e⟩) fun i j hi ⟨v, hv, hj⟩ => ⟨v + 1, by omega, by omega, by omega⟩) (ax_cons (Pa := fun r => ∃ x ∈ [PyData.int 1, .int 1, .int 2, .int 1, .int 3, .int 2, .int 4], r = .d x) (Pr := fun rs => rs = []) (ex_someL (b_someL G) hr (by omega) (ed_var 0) (ed_lst (ad_cons ed_int (ad_cons ed_int (ad_cons ed_int (ad_cons ed_int (ad_cons ed_int (ad_cons ed_int (ad_cons ed_int ad_nil)))))))) (by decide) (by decide)) ad_nil fun r rs ⟨x, hx, e1⟩ e2 => ?_) fun r rs ⟨z, ⟨n, n1, n4, ez⟩, e1⟩ ⟨m, m1, m4, e2⟩ => ⟨n, m, ⟨n1, n4⟩, ⟨m1, m4⟩, by rw [e1, e2, ez]⟩) (fun rs ⟨n, m, hn, hm, e⟩ => ⟨_, _, _, _, e, rfl, rfl, ?_⟩) nd)
    · subst e1 e2
      simp only [List.mem_cons, List.not_mem_nil, or_false] at hx
      rcases hx with rfl | rfl | rfl | rfl | rfl | rfl | rfl
      · exact ⟨1, by decide, by decide, rfl⟩
      · exact ⟨1, by decide, by decide, rfl⟩
      · exact ⟨2, by decide, by decide, rfl⟩
      · exact ⟨1, by decide, by decide, rfl⟩
      · exact ⟨3, by decide, by decide, rfl⟩
      · exact ⟨2, by decide, by decide, rfl⟩
      · exact ⟨4, by decide, by decide, rfl⟩
    · refine ssx_cons (sx_asgX (P := fun r => ∃ r1 u1, RowOk n r1 ∧ RowOk n u1 ∧ r = .d (.tuple [eRw r1, eRw u1])) (ex_c (b_joins G) hr (by omega) (ad_cons (ed_var 0) (ad_cons (ed_var 2) ad_nil)) fun rs e => by rw [e]; exact ⟨n, rfl, hn.1, hn.2, fun r u h1 h2 => ⟨r, u, h1, h2, rfl⟩⟩) fun r ⟨r1, u1, hr1, hu1, e⟩ => ⟨_, e, gx_tup (gsx_cons (gx_name 4 (gsx_cons (gx_name 5 (gsx_nil ?_) nd)) nd))⟩)
      refine ssx_cons (sx_set 6 (P := fun r => ∃ t : Tb, TbOk t ∧ r = .d (eT t)) (ex_tup (ax_one (r := .d (.int n)) (ed_var 2) (ax_one (r := .d (.int m)) (ed_var 3) (ax_one (r := .d (eRw r1)) (ed_var 4) (ax_one (r := .d (eRw u1)) (ed_var 5) (ax_cons (Pa := fun r => ∃ ds : List (Edg × List Nat), ((ds.map (·.1)).Nodup ∧ (∀ d ∈ ds, PermOk m d.2) ∧ ds.length ≤ 100) ∧ r = .d (eDs ds)) (Pr := fun rs => rs = [.d (.tuple [])]) (P := fun rs => ∃ ds : List (Edg × List Nat), ((ds.map (·.1)).Nodup ∧ (∀ d ∈ ds, PermOk m d.2) ∧ ds.length ≤ 100) ∧ rs = [.d (eDs ds), .d (.tuple [])]) (ex_c (b_dials G) hr (by omega) (ad_cons (ed_var 0) (ad_cons (ed_c (b_edgesOf G) hr (by omega) (ad_cons (ed_var 4) (ad_cons (ed_var 5) ad_nil)) ⟨n, r1, u1, rfl, hr1.len, hn.2, rfl⟩) (ad_cons (ed_var 3) ad_nil))) fun rs e => by rw [e]; exact ⟨m, edgesU n r1 u1, rfl, hm.1, hm.2, edgesU_nodup n r1 u1, by have := edgesU_len n r1 u1; omega, fun ds h1 h2 h3 => ⟨ds, ⟨h1, h2, h3⟩, rfl⟩⟩) (ad_cons (ed_tup ad_nil) ad_nil) fun r rs ⟨ds, h, e1⟩ e2 => ⟨ds, h, by rw [e1, e2]⟩))))) fun rs ⟨rs1, ⟨rs2, ⟨rs3, ⟨rs4, ⟨ds, ⟨h1, h2, h3⟩, e5⟩, e4⟩, e3⟩, e2⟩, e1⟩ => ⟨[.int n, .int m, eRw r1, eRw u1, eDs ds, .tuple []], by rw [e1, e2, e3, e4, e5]; rfl, by show 6 ≤ 1000; decide, ⟨n, m, r1, u1, ds, .tuple []⟩, ⟨hn.1, hn.2, hm.1, hm.2, hr1, hu1, h1, h2, h3⟩, rfl⟩) (fun r ⟨t, ok, e⟩ => ⟨.d (eT t), by rw [e]; rfl, ?_⟩) nd)
      refine ssx_cons (sx_setF 7 (ed_c (b_points G) hr (by omega) (ad_cons (ed_var 6) ad_nil) ⟨t, rfl, ok, rfl⟩) ?_ nd)
      have pf := ptsL_few ok
      refine ssx_cons (sx_set 8 (ex_slTo (Px := fun ys => ys.Perm (ptsL t)) (ex_mixed (xs := ptsL t) (enc := ePt) (b_mixed G) hr (by omega) (ed_var 0) (ed_var 7) (by omega)) (EX.imp (ex_someL (xs := [.int 1, .int 2, .int 0, .int 3, .int ((ptsL t).map ePt).length]) (b_someL G) hr (by omega) (ed_var 0) (ed_lst (ad_cons ed_int (ad_cons ed_int (ad_cons ed_int (ad_cons ed_int (ad_cons (ed_lenL G.len (ed_var 7)) ad_nil)))))) (by show 1 ≤ 5; decide) (by show 5 ≤ 1000; decide)) fun r ⟨x, hx, e⟩ => ?_)) (fun r ⟨xs, ⟨ys, cn, p, ex⟩, e⟩ => ⟨.ow (xs.map ePt), by rw [e]; rfl, ?_⟩) nd)
      · simp only [List.mem_cons, List.not_mem_nil, or_false] at hx
        rcases hx with rfl | rfl | rfl | rfl | rfl
        · exact ⟨1, e⟩
        · exact ⟨2, e⟩
        · exact ⟨0, e⟩
        · exact ⟨3, e⟩
        · exact ⟨_, e⟩
      · have xl : xs.length ≤ 16 := by
          have := p.length_eq
          rw [ex, List.length_take]
          omega
        have xm : ∀ r ∈ xs, r ≠ [] := fun r h => by
          rw [ex] at h
          have h2 := p.mem_iff.mp (List.mem_of_mem_take h)
          obtain ⟨c, hc, e2⟩ := mem_ptsL.mp h2
          exact pt_ne ok (List.mem_map.mpr ⟨c, cornersL_ok.mpr hc, e2⟩)
        refine ssx_one (sx_ret (ex_catT (xs := [.int t.size, .int t.marks, eRw t.rights, eRw t.ups, eDs t.dials]) (P := fun _ => True) (ed_slT (ds := [.int t.size, .int t.marks, eRw t.rights, eRw t.ups, eDs t.dials, t.pock]) (l := none) (h := some 5) (ed_var 6) po_no (po_yes ed_int)) (ex_tup (ax_cons (Pa := fun r => ∃ y, r = .d y) (Pr := fun rs => rs = []) (P := fun rs => ∃ y, rs = [.d y]) (ex_tupleL (Pa := fun r => ∃ zs : List Nm, r = .fr (zs.map eN)) G.tuple (ex_sort (α := Nm) (enc := eN) (Pa := fun r => ∃ zs : List Nm, zs.length ≤ 16 ∧ r = .fr (zs.map eN)) hu G.sorted enc_N (ex_lc 9 (ds := xs.map ePt) (fun i ys => ∃ zs : List Nm, ys = zs.map eN ∧ zs.length ≤ 16 ∧ zs.length = i) (ix_slot 8) ⟨[], rfl, Nat.zero_le _, rfl⟩ (fun i d ys hi ⟨zs, e1, l1, l2⟩ => ?_) (fun i ys ⟨zs, e1, l1, l2⟩ => ?_) (fun ys h => let ⟨zs, e1, l1, _⟩ := h; ⟨zs, l1, by rw [e1]⟩) ?_ nd ?_) fun r ⟨zs, l1, e1⟩ => ⟨zs, .inl (by rw [e1]; rfl), so_N zs, by omega, _, rfl⟩) fun r ⟨zs, e1⟩ => ⟨zs.map eN, by rw [e1]; rfl, _, rfl⟩) ad_nil fun r rs ⟨y, e1⟩ e2 => ⟨y, by rw [e1, e2]⟩) fun rs ⟨y, e1⟩ => ⟨[y], e1, by show 1 ≤ 1000; decide, y, trivial, rfl⟩) (by show 5 ≤ 1000; decide) (fun h => nomatch h)) fun r ⟨y, _, e⟩ => ⟨r, by rw [e]; rfl, by rw [e]; exact k { t with pock := y } ⟨ok.s1, ok.s4, ok.m1, ok.m4, ok.r, ok.u, ok.dk, ok.dp, ok.dl⟩⟩)
        · have hlt := (List.getElem?_eq_some_iff.mp hi).1
          rw [List.length_map] at hlt
          rw [List.getElem?_map, List.getElem?_eq_getElem hlt] at hi
          have ed := Option.some.inj hi
          have hmem := xm _ (List.getElem_mem hlt)
          subst ed
          generalize xs[i] = pt at hmem
          obtain ⟨c, rest, rfl⟩ : ∃ c rest, pt = c :: rest := by
            cases pt with
            | nil => exact absurd rfl hmem
            | cons c rest => exact ⟨c, rest, rfl⟩
          refine ⟨fun z => z = true, fun s' H' C cl fp => tsx_nil rfl, fun _ => ⟨fun r => ∃ nm : Nm, r = .d (eN nm), fun s' H' C cl fp => ?_, fun r ⟨nm, e⟩ => ⟨_, e, zs ++ [nm], by rw [e1, List.map_append]; rfl, by rw [List.length_append, List.length_singleton]; omega, by rw [List.length_append, List.length_singleton]; omega⟩⟩, fun h => absurd h (by decide)⟩
          exact ex_tup (ax_one (ed_ixT (d := eC c) (ed_var 9) ed_int (K47.atI_map (f := eC) (xs := c :: rest) (i := 0) rfl)) (ax_cons (Pa := fun r => ∃ z, PyData.strOk z = true ∧ r = .d (.str z)) (Pr := fun rs => rs = []) (P := fun rs => ∃ z, PyData.strOk z = true ∧ rs = [.d (.str z)]) (ex_c (b_name G) hr (by omega) (ad_cons (ed_var 0) ad_nil) fun rs e => by rw [e]; exact ⟨rfl, fun z hz => ⟨z, hz, rfl⟩⟩) ad_nil fun r rs ⟨z, hz, e1⟩ e2 => ⟨z, hz, by rw [e1, e2]⟩)) fun rs ⟨rs', ⟨z, hz, e2⟩, e3⟩ => ⟨[eC c, .str z], by rw [e3, e2]; rfl, by show 2 ≤ 1000; decide, (c, ⟨z, hz⟩), rfl⟩
        · rw [e1, List.length_map]; omega
        · refine bk_Ltable _ _ ?_
          decide +kernel
        · exact fun s' H' C cl fp => pg_name nd rfl (Or.inl rfl) (.inr rfl)
end
end K47
set_option Elab.async false
set_option linter.all false
set_option maxRecDepth 100000
set_option maxHeartbeats 2000000
namespace K47
open PySem PySem.Spec PyProof.Rows L2
/-! ### words drawn -/
theorem cutS_wt (ws : List Bool) (lo hi : Option Int) : cutS (wt ws) lo hi = wt (cutD ws lo hi) := by
  have hl := wt_len ws
  unfold cutS cutD
  rw [hl]
  show Str.mk _ = Str.mk _
  congr 2
  show List.take _ (List.drop _ ((ws.map cW).toArray.toList)) = _
  rw [List.toList_toArray, List.map_take, List.map_drop]
theorem rep_map (k : Nat) (ws : List Bool) : (List.replicate k (ws.map cW)).flatten = ((List.replicate k ws).flatten).map cW := by
  induction k with
  | zero => rfl
  | succ k ih => rw [List.replicate_succ, List.flatten_cons, ih, List.replicate_succ, List.flatten_cons, List.map_append]
theorem rep_len (k : Nat) (ws : List Bool) : (List.replicate k ws).flatten.length = ws.length * k := by
  induction k with
  | zero => rfl
  | succ k ih => rw [List.replicate_succ, List.flatten_cons, List.length_append, ih, Nat.mul_succ, Nat.add_comm]
/-- a word of p -/
def WP (p : List Bool → Prop) : Rs → Prop := fun r => ∃ ws, p ws ∧ r = .d (.str (wt ws))
section
variable {X : Cx} {b : Option Addr} {Hb : Hp} {Δ : List Sl} {e f : Expr} {pos pp : Pos} {j : Nat} {p q s : List Bool → Prop}
theorem ED.wp {ws : List Bool} (h : ED X b Hb Δ e (.d (.str (wt ws)))) (k : p ws) : EX X b Hb Δ e (WP p) := h.to ⟨ws, k, rfl⟩
theorem ex_repW {n : Nat} (hn : n ≤ 1000) (ha : EX X b Hb Δ e (WP p)) (hb : EX X b Hb Δ f (fun r => ∃ v : Nat, v ≤ n ∧ r = .d (.int v))) (k : ∀ ws v, p ws → v ≤ n → ws.length * v ≤ 1000 ∧ q (List.replicate v ws).flatten) : EX X b Hb Δ (.BinOp e .Mult f pos) (WP q) :=
  ex_op2 op_repS ha hb fun r s ⟨ws, hw, er⟩ ⟨v, hv, es⟩ => by
    subst er es
    intro H0 H x y bb f0 f1 rr ss Q z
    cases rr
    cases ss
    obtain ⟨k1, k2⟩ := k ws v hw hv
    refine ⟨ws.map cW, v, rfl, rfl, by omega, by rw [List.length_map]; omega, z _ H (.d (.str (sOf (List.replicate v (ws.map cW)).flatten))) ⟨_, k2, ?_⟩ .refl (Dt.str _)⟩
    rw [rep_map]
    rfl
theorem ex_addW (ha : EX X b Hb Δ e (WP p)) (hb : EX X b Hb Δ f (WP q)) (k : ∀ ws us, p ws → q us → ws.length + us.length ≤ 1000 ∧ s (ws ++ us)) : EX X b Hb Δ (.BinOp e .Add f pos) (WP s) :=
  ex_op2 op_add_str ha hb fun r t ⟨ws, hw, er⟩ ⟨us, hu, es⟩ => by
    subst er es
    intro H0 H x y bb f0 f1 rr ss Q z
    cases rr
    cases ss
    obtain ⟨k1, k2⟩ := k ws us hw hu
    exact ⟨_, _, rfl, rfl, by rw [wt_len, wt_len, sizeLine_eq]; omega, z _ H (.d (.str (wt ws ++ wt us))) ⟨_, k2, by rw [wt_app]⟩ .refl (Dt.str _)⟩
theorem ex_slW {i : Int} {p2 : Pos} (ha : EX X b Hb Δ e (WP p)) (hf : ED X b Hb Δ f (.d (.int i))) (k : ∀ ws, p ws → ws.length ≤ 1000 ∧ q (cutD ws none (some i))) : EX X b Hb Δ (.Subscript e (.Slice none (some f) none p2) pos) (WP q) :=
  pe_imp (pe_slice sl_str ha (po_no (X := X) (b := b) (Hb := Hb) (Δ := Δ)) (po_yes hf)) fun σ H Q z => ⟨z.1, fun v H1 r' p1 f1 k1 => by
    obtain ⟨ws, hw, er⟩ := p1
    subst er
    cases k1
    obtain ⟨k2, k3⟩ := k ws hw
    refine ⟨z.1.step f1, fun H2 f2 => ⟨(z.1.step f1).step f2, fun H3 f3 => ?_⟩⟩
    exact ⟨_, rfl, by rw [wt_len, sizeLine_eq]; omega, z.2 _ _ (.d (.str (cutS (wt ws) none (some i)))) ⟨_, k3, by rw [cutS_wt]⟩ (f1.trans (f2.trans f3)) (Dt.str _)⟩⟩
theorem ex_letter {wS : Wp} (hw : wS = fun rs Q => ∃ z : Str, rs = [.bag, .d (.str z)] ∧ 1 ≤ z.length ∧ z.length ≤ 1000 ∧ ∀ c ∈ z.cps.toList, Q (.d (.str ⟨#[c]⟩))) (c : Cl X.prog X.w X.K X.mg X.base 2 "_law_some" wS) (hr : Room j X.A) (hk : 2 ≤ j) (ha : ED X b Hb Δ e .bag) (hb : ED X b Hb Δ f (.d (.str "lr"))) (hg : Gl X "_law_some" := by rfl)
    (h1 : starEach [f] X.env = (false, eval f X.env) :: starEach [] X.env := by rfl) (h2 : starEach [e, f] X.env = (false, eval e X.env) :: starEach [f] X.env := by rfl) (hpl : (backTo pos (starEach [f] X.env)).any (·.1) = false := by rfl) : EX X b Hb Δ (.Call (.Name "_law_some" pp) [e, f] [] pos) (WP fun ws => ∃ r, ws = [r]) := by
  subst hw
  exact ex_c c hr hk (ad_cons ha (ad_cons hb ad_nil h1) h2) (fun rs er => by
    subst er
    refine ⟨"lr", rfl, by decide +kernel, by decide +kernel, fun c hc => ?_⟩
    have e0 : ("lr" : Str).cps.toList = [108, 114] := by decide +kernel
    rw [e0] at hc
    rcases List.mem_cons.mp hc with e | hc
    · subst e; exact ⟨[false], ⟨false, rfl⟩, rfl⟩
    · rw [List.mem_singleton.mp hc]; exact ⟨[true], ⟨true, rfl⟩, rfl⟩) hg (by decide) h2 hpl
end
section
variable {P : Program} {w : World} {K : PySem.W.Frag} {mg : Str → Option Value} {base : Heap}
theorem b_word (G : G47 K mg) : Cl P w K mg base 3 "_law_word" (fun rs Q => ∃ k : Nat, rs = [.bag, .d (.int k)] ∧ k ≤ 12 ∧ ∀ ws, ws.length ≤ k → Q (.d (.str (wt ws)))) := by
  refine cal_data (G.at 55 "_law_word" s_Lword) sc_Lword (fun _ _ _ _ _ _ us hl => match us, hl with | [_, _], _ => rfl) (fun rs Q h => ?_) (by decide) fun f cdv A outer s H E b rs Q as hr hw => ?_
  · obtain ⟨_, rfl, _⟩ := h; rfl
  · obtain ⟨k, rfl, k12, kk⟩ := hw
    show SSX _ _ _ [_, _, _, _, _, _] _ _
    have nd := sc_Lword.nd
    have hu := room65 hr
    refine ssx_cons (sx_par 2 3 rfl (ax_cons (Pa := fun r => ∃ v : Nat, v < 4 ∧ r = .d (.int v)) (Pr := fun rs => ∃ v : Nat, v ≤ k ∧ rs = [.d (.int v)]) (P := fun rs => ∃ v m : Nat, m ≤ k ∧ rs = [.d (.int v), .d (.int m)]) (ex_take (m := 4) (b_take G) hr (by omega) (ed_var 0) ed_int (by decide) (by decide)) (ax_cons (Pa := fun r => ∃ v : Nat, v < k + 1 ∧ r = .d (.int v)) (Pr := fun rs => rs = []) (ex_take (m := k + 1) (b_take G) hr (by omega) (ed_var 0) (ED.cast (r := .d (.int ((k : Int) + 1))) (ed_add (ed_var 1) ed_int) rfl) (by omega) (by omega)) ad_nil fun r rs ⟨v, hv, e1⟩ e2 => ⟨v, by omega, by rw [e1, e2]⟩) fun r rs ⟨v, hv, e1⟩ ⟨m, hm, e2⟩ => ⟨v, m, hm, by rw [e1, e2]⟩) (fun rs ⟨v, m, hm, e⟩ => ⟨_, _, _, _, e, rfl, rfl, ?_⟩) nd)
    refine ssx_cons (sx_ifD (td_eqI (ed_var 2) ed_int) (fun h => ?_) fun h => ssx_nil (ssx_cons (sx_ifD (td_eqI (ed_var 2) ed_int) (fun h2 => ?_) fun h2 => ssx_nil ?_)))
    · refine ssx_one (sx_ret (ex_join (P := WP fun ws => ws.length ≤ k) (Pa := fun r => ∃ ws : List Bool, ws.length ≤ k ∧ r = .fr (ws.map eWl)) ed_str (ex_lc 5 (ds := (List.range m).map eI) (fun i ys => ∃ ws : List Bool, ys = ws.map eWl ∧ ws.length ≤ m ∧ ws.length = i) (ix_rangeN rfl G.range (ed_var 3) (by omega)) ⟨[], rfl, Nat.zero_le _, rfl⟩ (fun i d ys hi h => ?_) (fun i ys h => ?_) (fun ys h => ?_) ?_ nd ?_) fun r ⟨ws, hw, e⟩ => ⟨ws.map fun u => wt [u], by rw [e, List.map_map]; rfl, ?_, ws, hw, ?_⟩) fun r ⟨ws, hw, e⟩ => ⟨r, by rw [e]; rfl, by rw [e]; exact kk ws hw⟩)
      · obtain ⟨ws, e1, l1, l2⟩ := h
        have hlt := (List.getElem?_eq_some_iff.mp hi).1
        rw [List.length_map, List.length_range] at hlt
        exact ⟨fun z => z = true, fun s' H' C cl fp => tsx_nil rfl, fun _ => ⟨WP fun ws => ∃ r, ws = [r], fun s' H' C cl fp => ex_letter rfl (b_someS G) hr (by omega) (ed_var 0) ed_str, fun r ⟨us, ⟨u, eu⟩, e⟩ => ⟨_, e, ws ++ [u], by rw [eu, e1, List.map_append]; rfl, by rw [List.length_append, List.length_singleton]; omega, by rw [List.length_append, List.length_singleton]; omega⟩⟩, fun h => absurd h (by decide)⟩
      · obtain ⟨ws, e1, l1, l2⟩ := h
        rw [e1, List.length_map]
        omega
      · obtain ⟨ws, e1, l1, l2⟩ := h
        exact ⟨ws, by omega, by rw [e1]⟩
      · refine bk_Lword _ _ ?_
        decide +kernel
      · exact fun s' H' C cl fp => pg_name nd rfl (Or.inl rfl) (.inr rfl)
      · have z2 : ((ws.map fun u => wt [u]).map (·.length)).sum = (ws.map fun u => [u]).flatten.length := by
          have z := sum_wt (ws.map fun u => [u])
          have e0 : (ws.map fun u => [u]).map wt = ws.map fun u => wt [u] := by rw [List.map_map]; rfl
          rw [e0] at z
          exact z
        have z3 : (ws.map fun u => [u]).flatten = ws := by
          have := flat_one (fun u : Bool => u) ws
          rw [this, List.map_id']
        rw [z2, z3, List.length_map]
        show _ + _ * 0 ≤ _
        omega
      · have z := join_wt (ws.map fun u => [u])
        rw [List.map_map] at z
        have z3 : (ws.map fun u => [u]).flatten = ws := by
          have := flat_one (fun u : Bool => u) ws
          rw [this, List.map_id']
        rw [z3] at z
        exact congrArg (fun z => Rs.d (.str z)) z
    · refine ssx_one (sx_ret (ex_slW (q := fun ws => ws.length ≤ k) (i := (m : Nat)) (ex_repW (n := m) (by omega) (p := fun ws => ws.length ≤ 3) (q := fun ws => ws.length ≤ 36) (EX.imp (ex_someL (xs := [eWd [false, true], eWd [true, false], eWd [false, true, true], eWd [false, false, true]]) (b_someL G) hr (by omega) (ed_var 0) (ed_lst (ad_cons ed_str (ad_cons ed_str (ad_cons ed_str (ad_cons ed_str ad_nil))))) (by show 1 ≤ 4; decide) (by show 4 ≤ 1000; decide)) fun r ⟨x, hx, e⟩ => ?_) ((ed_var 3).to ⟨m, Nat.le_refl _, rfl⟩) fun ws v hw hv => ?_) (ed_var 3) fun ws hw => ?_) fun r ⟨ws, hw, e⟩ => ⟨r, by rw [e]; rfl, by rw [e]; exact kk ws hw⟩)
      · simp only [List.mem_cons, List.not_mem_nil, or_false] at hx
        rcases hx with rfl | rfl | rfl | rfl
        · exact ⟨_, by show 2 ≤ 3; decide, e⟩
        · exact ⟨_, by show 2 ≤ 3; decide, e⟩
        · exact ⟨_, by show 3 ≤ 3; decide, e⟩
        · exact ⟨_, by show 3 ≤ 3; decide, e⟩
      · have h3 : ws.length * v ≤ 3 * 12 := Nat.mul_le_mul hw (by omega)
        exact ⟨by omega, by rw [rep_len]; exact h3⟩
      · refine ⟨by omega, ?_⟩
        rw [cut_take, List.length_take]
        omega
    · refine ssx_cons (sx_setD 4 (d := .str (wt [])) ed_str ?_ nd)
      refine ssx_cons (sx_forN (List.range 4) eI (ix_rangeN (n := 4) rfl G.range ed_int (by decide)) (fun ws : List Bool => [.bag, .d (.int k), .d (.int v), .d (.int m), .d (.str (wt ws)), .un]) (fun i ws => ws.length ≤ i * 12) ⟨[], Nat.zero_le _, lo_same (lo_same (lo_same (lo_same (lo_same (lo_un lo_nil)))))⟩ (fun Hb' i a ws hi I => ?_) fun ws I => ⟨?_, fun q hq => by simp [brs] at hq⟩)
      · have hlt := (List.getElem?_eq_some_iff.mp hi).1
        rw [List.length_range] at hlt
        refine gx_name 5 ?_ nd
        refine ssx_one (sx_set 4 (ex_addW (p := fun z => z = ws) (q := fun us => us.length ≤ 12) (s := fun z => z.length ≤ (i + 1) * 12) ((ed_var 4).wp rfl) (ex_repW (n := m) (by omega) (ex_letter rfl (b_someS G) hr (by omega) (ed_var 0) ed_str) (EX.imp (ex_take (m := m + 1) (b_take G) hr (by omega) (ed_var 0) (ED.cast (r := .d (.int ((m : Int) + 1))) (ed_add (ed_var 3) ed_int) rfl) (by omega) (by omega)) fun r ⟨v, hv, e⟩ => ⟨v, by omega, e⟩) fun us v ⟨r, hw⟩ hv => ?_) fun z us hz hus => ?_) (fun r ⟨us, hus, e⟩ => ⟨.d (.str (wt us)), by rw [e]; rfl, us, hus, lo_same (lo_same (lo_same (lo_same (lo_same (lo_un lo_nil)))))⟩) nd)
        · rw [hw]
          refine ⟨by show 1 * v ≤ 1000; omega, ?_⟩
          rw [rep_len]
          show 1 * v ≤ 12
          omega
        · rw [hz]
          refine ⟨by omega, ?_⟩
          rw [List.length_append]
          omega
      · rw [List.length_range] at I
        refine ssx_one (sx_ret (ex_slW (p := fun z => z = ws) (q := fun ws => ws.length ≤ k) (i := (m : Nat)) ((ed_var 4).wp rfl) (ed_var 3) fun us hus => ?_) fun r ⟨ws, hw, e⟩ => ⟨r, by rw [e]; rfl, by rw [e]; exact kk ws hw⟩)
        subst hus
        refine ⟨by omega, ?_⟩
        rw [cut_take, List.length_take]
        omega
end
end K47
set_option Elab.async false
set_option linter.all false
set_option maxRecDepth 100000
set_option maxHeartbeats 2000000
namespace K47
open PySem PySem.Spec PyProof.Rows L2
/-! ### slopes drawn are slopes asked about -/
structure NbOk (s : Slp × Slp) : Prop where
  det : s.1.1 * s.2.2 = s.1.2 * s.2.1 + 1
  a : 1 ≤ s.1.1
  d : 1 ≤ s.2.2
theorem NbOk.step {s : Slp × Slp} (h : NbOk s) (r : Bool) : NbOk (nbStep s r) := by
  obtain ⟨⟨v1, v2⟩, w1, w2⟩ := s
  have h1 : v1 * w2 = v2 * w1 + 1 := h.det
  have h2 : 1 ≤ v1 := h.a
  have h3 : 1 ≤ w2 := h.d
  cases r with
  | true =>
    refine ⟨?_, ?_, h3⟩
    · show (v1 + w1) * w2 = (v2 + w2) * w1 + 1
      rw [Nat.add_mul, Nat.add_mul, h1, Nat.mul_comm w1 w2]
      omega
    · show 1 ≤ v1 + w1
      omega
  | false =>
    refine ⟨?_, h2, ?_⟩
    · show v1 * (v2 + w2) = v2 * (v1 + w1) + 1
      rw [Nat.mul_add, Nat.mul_add, h1, Nat.mul_comm v1 v2]
      omega
    · show 1 ≤ v2 + w2
      omega
theorem nb_fold : ∀ (ws : List Bool) (s : Slp × Slp), NbOk s → NbOk (ws.foldl nbStep s)
  | [], _, h => h
  | r :: ws, s, h => nb_fold ws (nbStep s r) (h.step r)
theorem nbrs_ok (ws : List Bool) : NbOk (nbrs ws) := nb_fold ws _ ⟨rfl, by decide, by decide⟩
def szP (s : Slp × Slp) : Nat := s.1.1 + s.1.2 + s.2.1 + s.2.2
theorem sz_step (s : Slp × Slp) (r : Bool) : szP (nbStep s r) ≤ 2 * szP s := by
  obtain ⟨⟨v1, v2⟩, w1, w2⟩ := s
  cases r with
  | true =>
    show (v1 + w1) + (v2 + w2) + w1 + w2 ≤ 2 * (v1 + v2 + w1 + w2)
    omega
  | false =>
    show v1 + v2 + (v1 + w1) + (v2 + w2) ≤ 2 * (v1 + v2 + w1 + w2)
    omega
theorem sz_fold : ∀ (ws : List Bool) (s : Slp × Slp), szP (ws.foldl nbStep s) ≤ 2 ^ ws.length * szP s
  | [], s => by
    rw [List.length_nil, Nat.pow_zero, Nat.one_mul]
    exact Nat.le_refl _
  | r :: ws, s => by
    have h1 := sz_fold ws (nbStep s r)
    have h2 := Nat.mul_le_mul_left (2 ^ ws.length) (sz_step s r)
    show szP (ws.foldl nbStep (nbStep s r)) ≤ _
    rw [List.length_cons, Nat.pow_succ, Nat.mul_assoc]
    omega
theorem slopeW_sum (ws : List Bool) : (slopeW ws).1 + (slopeW ws).2 = szP (nbrs ws) := by
  show ((nbrs ws).1.1 + (nbrs ws).2.1) + ((nbrs ws).1.2 + (nbrs ws).2.2) = (nbrs ws).1.1 + (nbrs ws).1.2 + (nbrs ws).2.1 + (nbrs ws).2.2
  omega
theorem slopeW_mem {ws : List Bool} (h : (slopeW ws).1 + (slopeW ws).2 ≤ 18) : slopeW ws ∈ slopes := by
  obtain ⟨h1, h2, h3⟩ := nbrs_ok ws
  have e1 : (slopeW ws).1 = (nbrs ws).1.1 + (nbrs ws).2.1 := rfl
  have e2 : (slopeW ws).2 = (nbrs ws).1.2 + (nbrs ws).2.2 := rfl
  refine slopes_of (by omega) (by omega) h ?_
  have d1 : Nat.gcd (slopeW ws).1 (slopeW ws).2 ∣ (slopeW ws).1 * (nbrs ws).2.2 := Nat.dvd_trans (Nat.gcd_dvd_left _ _) (Nat.dvd_mul_right _ _)
  have d2 : Nat.gcd (slopeW ws).1 (slopeW ws).2 ∣ (slopeW ws).2 * (nbrs ws).2.1 := Nat.dvd_trans (Nat.gcd_dvd_right _ _) (Nat.dvd_mul_right _ _)
  have e3 : (slopeW ws).1 * (nbrs ws).2.2 = (slopeW ws).2 * (nbrs ws).2.1 + 1 := by
    rw [e1, e2, Nat.add_mul, Nat.add_mul, h1, Nat.mul_comm (nbrs ws).2.1 (nbrs ws).2.2]
    omega
  rw [e3] at d1
  exact Nat.dvd_one.mp ((Nat.dvd_add_right d2).mp d1)
theorem slope_short {ws : List Bool} (h : ws.length ≤ 3) : slopeW ws ∈ slopes := by
  refine slopeW_mem ?_
  rw [slopeW_sum]
  have h1 : szP (nbrs ws) ≤ 2 ^ ws.length * 2 := sz_fold ws ((1, 0), (0, 1))
  have h2 : 2 ^ ws.length ≤ 2 ^ 3 := Nat.pow_le_pow_right (by decide) h
  omega
theorem slope_flat {v : Nat} (h : v < 17) : ((1 + v, 1) : Slp) ∈ slopes := slopes_of (by show 1 ≤ 1 + v; omega) (by show 1 ≤ 1; decide) (by show 1 + v + 1 ≤ 18; omega) (Nat.gcd_one_right _)
theorem slope_steep {v : Nat} (h : v < 17) : ((1, 1 + v) : Slp) ∈ slopes := slopes_of (by show 1 ≤ 1; decide) (by show 1 ≤ 1 + v; omega) (by show 1 + (1 + v) ≤ 18; omega) (Nat.gcd_one_left _)
theorem cutD_len {α : Type} (xs : List α) (lo hi : Option Int) : (cutD xs lo hi).length ≤ xs.length := by
  unfold cutD
  rw [List.length_take, List.length_drop]
  omega
section
variable {P : Program} {w : World} {K : PySem.W.Frag} {mg : Str → Option Value} {base : Heap}
theorem b_slope (G : G47 K mg) : Cl P w K mg base 4 "_law_slope" (fun rs Q => rs = [.bag, .d (.int 18)] ∧ ∀ s ∈ slopes, Q (.d (eSl s))) := by
  refine cal_data (G.at 56 "_law_slope" s_Lslope) sc_Lslope (fun _ _ _ _ _ _ us hl => match us, hl with | [_, _], _ => rfl) (fun rs Q h => ?_) (by decide) fun f cdv A outer s H E b rs Q as hr hw => ?_
  · obtain ⟨rfl, _⟩ := h; rfl
  · obtain ⟨rfl, k⟩ := hw
    show SSX _ _ _ [_, _, _, _, _, _, _] _ _
    have nd := sc_Lslope.nd
    have hu := room65 hr
    refine ssx_cons (sx_set 2 (ex_take (m := 3) (b_take G) hr (by omega) (ed_var 0) ed_int (by decide) (by decide)) (fun r ⟨v, hv, e⟩ => ⟨.d (.int v), by rw [e]; rfl, ?_⟩) nd)
    refine ssx_cons (sx_ifD (td_eqI (ed_var 2) ed_int) (fun h => ?_) fun h => ssx_nil (ssx_cons (sx_ifD (td_eqI (ed_var 2) ed_int) (fun h2 => ?_) fun h2 => ssx_nil ?_)))
    · refine ssx_one (sx_ret (P := fun r => ∃ s ∈ slopes, r = .d (eSl s)) (ex_c (Pa := fun rs => ∃ ws : List Bool, ws.length ≤ 3 ∧ rs = [.d (.str (wt ws))]) (b_slopeOf G) hr (by omega) (ax_cons (Pa := WP fun ws => ws.length ≤ 3) (Pr := fun rs => rs = []) (ex_c (b_word G) hr (by omega) (ad_cons (ed_var 0) (ad_cons ed_int ad_nil)) fun rs e => by rw [e]; exact ⟨3, rfl, by decide, fun ws h => ⟨ws, h, rfl⟩⟩) ad_nil fun r rs ⟨ws, h, e1⟩ e2 => ⟨ws, h, by rw [e1, e2]⟩) fun rs ⟨ws, h, e⟩ => by rw [e]; exact ⟨ws, rfl, slopeW ws, slope_short h, rfl⟩) fun r ⟨s, hs, e⟩ => ⟨r, by rw [e]; rfl, by rw [e]; exact k s hs⟩)
    · refine ssx_cons (sx_set 3 (ex_take (m := 17) (b_take G) hr (by omega) (ed_var 0) ((ed_sub (ed_var 1) ed_int).cast rfl) (by decide) (by decide)) (fun r ⟨v, hv, e⟩ => ⟨.d (.int v), by rw [e]; rfl, ?_⟩) nd)
      refine ssx_one (sx_ret (P := fun r => ∃ s ∈ slopes, r = .d (eSl s)) (ex_if (tx_eqI (q := fun _ => True) (EX.imp (P' := IP fun _ => True) (ex_take (m := 2) (b_take G) hr (by omega) (ed_var 0) ed_int (by decide) (by decide)) fun r ⟨v, _, e⟩ => ⟨_, trivial, e⟩) (ed_int.ip trivial)) (fun _ => ?_) fun _ => ?_) fun r ⟨s, hs, e⟩ => ⟨r, by rw [e]; rfl, by rw [e]; exact k s hs⟩)
      · exact ED.to (r := .d (.tuple [.int (1 + (v : Int)), .int 1])) (ed_tup (ad_cons (ed_add ed_int (ed_var 3)) (ad_cons ed_int ad_nil))) ⟨(1 + v, 1), slope_flat hv, by show _ = Rs.d (.tuple [.int ((1 + v : Nat) : Int), .int 1]); rw [Int.natCast_add]; rfl⟩
      · exact ED.to (r := .d (.tuple [.int 1, .int (1 + (v : Int))])) (ed_tup (ad_cons ed_int (ad_cons (ed_add ed_int (ed_var 3)) ad_nil))) ⟨(1, 1 + v), slope_steep hv, by show _ = Rs.d (.tuple [.int 1, .int ((1 + v : Nat) : Int)]); rw [Int.natCast_add]; rfl⟩
    · refine ssx_cons (sx_set 4 (P := WP fun ws => ws.length ≤ 12) (ex_c (b_word G) hr (by omega) (ad_cons (ed_var 0) (ad_cons ed_int ad_nil)) fun rs e => by rw [e]; exact ⟨12, rfl, by decide, fun ws h => ⟨ws, h, rfl⟩⟩) (fun r ⟨ws, hws, e⟩ => ⟨.d (.str (wt ws)), by rw [e]; rfl, ?_⟩) nd)
      refine ssx_cons (sx_forN (List.range 12) eI (ix_rangeN (n := 12) rfl G.range ed_int (by decide)) (fun ws : List Bool => [.bag, .d (.int 18), .d (.int v), .un, .d (.str (wt ws)), .un, .un]) (fun _ ws => ws.length ≤ 12) ⟨ws, hws, lo_same (lo_same (lo_same (lo_same (lo_same (lo_same (lo_same lo_nil))))))⟩ (fun Hb' i a ws hi I => ?_) fun ws I => ⟨?_, fun q hq => by simp [brs] at hq⟩)
      · refine gx_name 5 ?_ nd
        refine ssx_cons (sx_setD 6 (ed_c (b_slopeOf G) hr (by omega) (ad_cons (ed_var 4) ad_nil) ⟨ws, rfl, rfl⟩) ?_ nd)
        refine ssx_cons (sx_ifD (td_le (ed_add (ed_ixT (d := .int (slopeW ws).1) (ed_var 6) ed_int rfl) (ed_ixT (d := .int (slopeW ws).2) (ed_var 6) ed_int rfl)) (ed_var 1)) (fun h => ?_) fun h => ssx_nil ?_)
        · have h' : (slopeW ws).1 + (slopeW ws).2 ≤ 18 := by
            have z : ((slopeW ws).1 : Int) + ((slopeW ws).2 : Int) ≤ 18 := of_decide_eq_true h
            omega
          exact ssx_one (sx_retD (ed_var 6) (k _ (slopeW_mem h')))
        · refine ssx_one (sx_set 4 (ex_slW (p := fun z => z = ws) (q := fun z => z.length ≤ 12) (i := -1) ((ed_var 4).wp rfl) (ed_neg ed_int) fun us hus => ?_) (fun r ⟨us, hus, e⟩ => ⟨.d (.str (wt us)), by rw [e]; rfl, us, hus, lo_same (lo_same (lo_same (lo_same (lo_same (lo_un (lo_un lo_nil))))))⟩) nd)
          subst hus
          have := cutD_len us none (some (-1))
          exact ⟨by omega, by omega⟩
      · exact ssx_one (sx_retD (x := eSl (1, 1)) (ed_tup (ad_cons ed_int (ad_cons ed_int ad_nil))) (k (1, 1) (slopes_of (by decide) (by decide) (by decide) (by decide))))
end
end K47
set_option Elab.async false
set_option linter.all false
set_option maxRecDepth 100000
set_option maxHeartbeats 2000000
namespace K47
open PySem PySem.Spec PyProof.Rows L2
/-! ### the plain law -/
section
variable {t : Tb} {s : Slp}
theorem rows_I (ok : TbOk t) : RwI t (turn s) (labelsL t) (rwFold t (turn s) (labelsL t)) := by
  have z := rwFold_I (ls := turn s) ok (xs := labelsL t) (fun x h => labelsL_ok.mp h) (labelsL t).length (Nat.le_refl _)
  rw [List.take_length] at z
  exact z
theorem mem_rows {r : List Lab} : r ∈ rowsL t s ↔ r ∈ rowsU t s := mem_srt
theorem rows_few (ok : TbOk t) : (rowsL t s).length ≤ 64 := by
  unfold rowsL
  rw [(srt_perm _).length_eq]
  exact ((rows_I ok).few ok).2
theorem rows_of (ok : TbOk t) {r : List Lab} (h : r ∈ rowsL t s) : ∃ l, LabOk t l ∧ r = rowOf t l (turn s) := (rows_I ok).rw_ r (mem_rows.mp h)
theorem rows_lab (ok : TbOk t) {r : List Lab} (h : r ∈ rowsL t s) : ∀ l ∈ r, LabOk t l := fun l m => by
  obtain ⟨l0, h0, e⟩ := rows_of ok h
  rw [e] at m
  exact rowOf_ok ok h0 m
theorem rows_at (ok : TbOk t) {r : List Lab} (h : r ∈ rowsL t s) {l : Lab} (m : l ∈ r) : r = rowOf t l (turn s) := by
  obtain ⟨l0, h0, e⟩ := rows_of ok h
  rw [e] at m
  rw [e, rowOf_same ok h0 m]
theorem rows_all (ok : TbOk t) {l : Lab} (h : LabOk t l) : ∃ r ∈ rowsL t s, l ∈ r := by
  have z := (rows_I (s := s) ok).has l (labelsL_ok.mpr h)
  rw [(rows_I ok).fl] at z
  obtain ⟨r, h1, h2⟩ := List.mem_flatten.mp z
  exact ⟨r, mem_rows.mpr h1, h2⟩
theorem rows_ne (ok : TbOk t) {r : List Lab} (h : r ∈ rowsL t s) : r ≠ [] := by
  obtain ⟨l0, h0, e⟩ := rows_of ok h
  rw [e]
  exact rowOf_ne ok h0
theorem rows_sz (ok : TbOk t) {r : List Lab} (h : r ∈ rowsL t s) : r.length ≤ 64 := by
  obtain ⟨l0, h0, e⟩ := rows_of ok h
  rw [e]
  exact rowOf_few ok h0
theorem flat_nodup {α : Type} : ∀ {ls : List (List α)}, ls.flatten.Nodup → (∀ r ∈ ls, r ≠ []) → ls.Nodup
  | [], _, _ => List.nodup_nil
  | r :: ls, n, h => by
    rw [List.flatten_cons] at n
    have n2 := List.nodup_append.mp n
    refine List.nodup_cons.mpr ⟨fun m => ?_, flat_nodup n2.2.1 fun x hx => h x (List.mem_cons_of_mem _ hx)⟩
    obtain ⟨x, hx⟩ := List.exists_mem_of_ne_nil _ (h r List.mem_cons_self)
    exact n2.2.2 x hx x (List.mem_flatten.mpr ⟨r, m, hx⟩) rfl
theorem rows_nodup (ok : TbOk t) : (rowsL t s).Nodup := by
  refine (srt_perm (enc := eRow) (rowsU t s)).nodup_iff.mpr (flat_nodup ?_ fun r h => rows_ne ok (mem_rows.mpr h))
  have z := (rows_I (s := s) ok).nd
  rw [(rows_I ok).fl] at z
  exact z
/-- kept, found from before and from behind -/
theorem kept_iff (ok : TbOk t) {l : Lab} (h : LabOk t l) : kept t l = true ↔ l ∈ keptL t := by
  have h1 := come_ok (u := true) ok h
  have h2 := come_ok (u := false) ok h1
  have e : go t (go t (come t (come t l true) false) false) true = l := by rw [go_come ok h1, go_come ok h]
  unfold kept keptL keptU
  rw [decide_eq_true_iff, mem_srt, List.mem_map]
  constructor
  · intro k
    refine ⟨come t (come t l true) false, List.mem_filter.mpr ⟨labelsL_ok.mpr h2, ?_⟩, e⟩
    unfold same2
    rw [decide_eq_true_iff, e, k]
  · rintro ⟨a, ha, ea⟩
    obtain ⟨a1, a2⟩ := List.mem_filter.mp ha
    have ao := labelsL_ok.mp a1
    unfold same2 at a2
    rw [decide_eq_true_iff] at a2
    have e2 : come t (come t l true) false = a := by
      rw [← ea, come_go ok (go_ok ok ao), come_go ok ao]
    rw [e2, ← a2, ea]
theorem mem_lost (ok : TbOk t) {d : Cor} : d ∈ lostL t ↔ ∃ l, LabOk t l ∧ kept t l ≠ true ∧ corOf l = d := by
  unfold lostL
  rw [List.mem_map]
  constructor
  · rintro ⟨l, hl, e⟩
    obtain ⟨h1, h2⟩ := List.mem_filter.mp hl
    rw [Bool.not_eq_true'] at h2
    exact ⟨l, labelsL_ok.mp h1, fun k => memA_not.mp h2 ((kept_iff ok (labelsL_ok.mp h1)).mp k), e⟩
  · rintro ⟨l, h1, h2, e⟩
    refine ⟨l, List.mem_filter.mpr ⟨labelsL_ok.mpr h1, ?_⟩, e⟩
    rw [Bool.not_eq_true']
    exact memA_not.mpr fun m => h2 ((kept_iff ok h1).mpr m)
theorem mem_open {c : Cor} : c ∈ openL t ↔ ∃ r ∈ ptsL t, c ∈ r ∧ ∀ d ∈ r, d ∉ lostL t := by
  unfold openL openF
  rw [List.mem_flatten]
  constructor
  · rintro ⟨r, h1, h2⟩
    obtain ⟨h3, h4⟩ := List.mem_filter.mp h1
    refine ⟨r, h3, h2, fun d hd m => ?_⟩
    rw [List.isEmpty_iff] at h4
    have z : d ∈ r.filter fun c => memA c (lostL t) := List.mem_filter.mpr ⟨hd, memA_iff.mpr m⟩
    rw [h4] at z
    cases z
  · rintro ⟨r, h1, h2, h3⟩
    refine ⟨r, List.mem_filter.mpr ⟨h1, ?_⟩, h2⟩
    rw [List.isEmpty_iff]
    exact List.filter_eq_nil_iff.mpr fun d hd m => h3 d hd (memA_iff.mp m)
theorem free_open (ok : TbOk t) {c : Cor} (hc : CorOk t c) : freeB t c = memA c (openL t) := by
  apply Bool.eq_iff_iff.mpr
  rw [freeB_iff, memA_iff, mem_open]
  constructor
  · intro F
    have p := pt_ok ok hc
    refine ⟨ptL t c, mem_ptsL.mpr ⟨c, hc, rfl⟩, (p.re c).mpr .refl, fun d hd m => ?_⟩
    obtain ⟨l, h1, h2, e⟩ := (mem_lost ok).mp m
    have hr := (p.re d).mp hd
    rw [← e] at hr
    exact h2 (F _ hr _ h1.m)
  · rintro ⟨r, h1, h2, h3⟩ d hr m hm
    obtain ⟨c0, hc0, e⟩ := mem_ptsL.mp h1
    have p := pt_ok ok hc0
    rw [e] at p
    have r0 := (p.re c).mp h2
    have hd : d ∈ r := (p.re d).mpr (r0.trans hr)
    have dk := ((p.re d).mp hd).ok ok hc0
    rcases Bool.eq_false_or_eq_true (kept t (d.1, d.2.1, d.2.2, m)) with k | k
    · exact k
    · exact absurd ((mem_lost ok).mpr ⟨(d.1, d.2.1, d.2.2, m), ⟨dk.c, dk.x, dk.y, hm⟩, by rw [k]; exact Bool.false_ne_true, rfl⟩) (h3 d hd)
/-- the map over and the map along, at a kept label -/
theorem swap_kept (ok : TbOk t) (so : SlpOk s) {l : Lab} (h : LabOk t l) (k : kept t (along t (along t l (turn s)) (over s)) = true) : along t (along t l (over s)) (turn s) = along t (along t l (turn s)) (over s) := by
  obtain ⟨z, e1, e2⟩ := so.sw
  rw [← along_app, e1, along_app] at k
  rw [← along_app, ← along_app, e1, e2, along_app, along_app]
  have hx := along_ok (ls := z) ok h
  generalize along t l z = x at k hx
  have k2 : kept t (go t (go t x false) true) = true := k
  unfold kept at k2
  rw [decide_eq_true_iff, come_go ok (go_ok ok hx), come_go ok hx] at k2
  exact k2
structure FreeRow (t : Tb) (s : Slp) (row : List Lab) : Prop where
  f : ∀ l ∈ row, freeB t (corOf (along t l (over s))) = true
theorem line_free {row : List Lab} : (lineOf t s row).all (fun l => freeB t (corOf l)) = true ↔ FreeRow t s row := by
  unfold lineOf
  rw [List.all_map, List.all_eq_true]
  exact ⟨fun h => ⟨h⟩, fun h => h.f⟩
theorem swap_row (ok : TbOk t) (so : SlpOk s) {l : Lab} (h : LabOk t l) (F : FreeRow t s (rowOf t l (turn s))) : ∀ k, it (fun l => along t l (turn s)) k (along t l (over s)) = along t (it (fun l => along t l (turn s)) k l) (over s)
  | 0 => rfl
  | k + 1 => by
    show along t (it (fun l => along t l (turn s)) k (along t l (over s))) (turn s) = along t (along t (it (fun l => along t l (turn s)) k l) (turn s)) (over s)
    rw [swap_row ok so h F k]
    have hk := (along_map ok (turn s)).it h k
    refine swap_kept ok so hk ?_
    have m : it (fun l => along t l (turn s)) (k + 1) l ∈ rowOf t l (turn s) := (mem_rowOf ok h).mpr ⟨k + 1, rfl⟩
    have f := freeB_iff.mp (F.f _ m)
    have ho := along_ok (ls := over s) ok ((along_map ok (turn s)).it h (k + 1))
    exact f _ .refl _ ho.m
theorem line_perm (ok : TbOk t) (so : SlpOk s) {l : Lab} (h : LabOk t l) (F : FreeRow t s (rowOf t l (turn s))) : (lineOf t s (rowOf t l (turn s))).Perm (rowOf t (along t l (over s)) (turn s)) := by
  obtain ⟨n, p⟩ := (along_map ok (turn s)).per ok h
  have sw := swap_row ok so h F
  have p2 : Per (fun l => along t l (turn s)) (along t l (over s)) n := ⟨p.p1, p.p64, by rw [sw, p.back], fun k k1 k2 e => p.min_ k k1 k2 (by
    rw [sw] at e
    exact along_inj ok ((along_map ok (turn s)).it h k) h e)⟩
  refine ((rowOf_perm ok p).map _).trans (List.Perm.trans ?_ (rowOf_perm ok p2).symm)
  unfold orb
  rw [List.map_map]
  refine List.Perm.of_eq (List.map_congr_left fun k _ => ?_)
  exact (sw k).symm
/-- what both answer -/
theorem row_head (ok : TbOk t) {row : List Lab} (h : row ∈ rowsL t s) : ∃ l0, LabOk t l0 ∧ row = rowOf t l0 (turn s) ∧ (lineOf t s row).getD 0 (0, 0, 0, 0) = along t l0 (over s) := by
  cases e : row with
  | nil => exact absurd e (rows_ne ok h)
  | cons l0 rest =>
    have m : l0 ∈ row := by rw [e]; exact List.mem_cons_self
    exact ⟨l0, rows_lab ok h l0 m, by rw [← e]; exact rows_at ok h m, rfl⟩
theorem above_due (ok : TbOk t) (so : SlpOk s) {row : List Lab} (h : row ∈ rowsL t s) : aboveOf t s row = dueL t s row (rowsL t s) (openL t) := by
  have hl : ∀ l ∈ lineOf t s row, LabOk t l := fun l m => by
    obtain ⟨x, hx, rfl⟩ := List.mem_map.mp m
    exact along_ok ok (rows_lab ok h x hx)
  have ea : (lineOf t s row).all (fun l => freeB t (corOf l)) = (lineOf t s row).all (fun l => memA (corOf l) (openL t)) := by
    apply Bool.eq_iff_iff.mpr
    rw [List.all_eq_true, List.all_eq_true]
    exact forall_congr' fun l => ⟨fun z m => by rw [← free_open ok ⟨(hl l m).c, (hl l m).x, (hl l m).y⟩]; exact z m, fun z m => by rw [free_open ok ⟨(hl l m).c, (hl l m).x, (hl l m).y⟩]; exact z m⟩
  unfold aboveOf dueL
  rw [ea]
  by_cases c : (lineOf t s row).all (fun l => memA (corOf l) (openL t)) = true
  · rw [if_pos c, if_pos c]
    obtain ⟨l0, h0, er, e0⟩ := row_head ok h
    rw [e0]
    have ho := along_ok (ls := over s) ok h0
    obtain ⟨r, hr, hm⟩ := rows_all (s := s) ok ho
    have hp : 0 < ((rowsL t s).filter fun r => memA (along t l0 (over s)) r).length := List.length_pos_iff.mpr (List.ne_nil_of_mem (List.mem_filter.mpr ⟨hr, memA_iff.mpr hm⟩))
    rw [List.getElem?_eq_getElem hp]
    have m := List.mem_filter.mp (List.getElem_mem hp)
    rw [rows_at ok m.1 (memA_iff.mp m.2)]
  · rw [if_neg c, if_neg c]
theorem due_perm (ok : TbOk t) (so : SlpOk s) {row due : List Lab} (h : row ∈ rowsL t s) (e : dueL t s row (rowsL t s) (openL t) = some due) : (lineOf t s row).Perm due := by
  rw [← above_due ok so h] at e
  obtain ⟨l0, h0, er, e0⟩ := row_head ok h
  unfold aboveOf at e
  by_cases c : (lineOf t s row).all (fun l => freeB t (corOf l)) = true
  · rw [if_pos c, e0] at e
    have e2 := Option.some.inj e
    have F := line_free.mp c
    rw [er] at F
    rw [← e2]
    have z := line_perm ok so h0 F
    rw [← er] at z
    exact z
  · rw [if_neg c] at e
    cases e
theorem due_mem (ok : TbOk t) {row due : List Lab} (e : dueL t s row (rowsL t s) (openL t) = some due) : due ∈ rowsL t s := by
  unfold dueL at e
  by_cases c : (lineOf t s row).all (fun l => memA (corOf l) (openL t)) = true
  · rw [if_pos c] at e
    exact (List.mem_filter.mp (List.mem_of_getElem? e)).1
  · rw [if_neg c] at e
    cases e
theorem due_one (ok : TbOk t) (so : SlpOk s) {a b due : List Lab} (ha : a ∈ rowsL t s) (hb : b ∈ rowsL t s) (ea : dueL t s a (rowsL t s) (openL t) = some due) (eb : dueL t s b (rowsL t s) (openL t) = some due) : a = b := by
  have p := (due_perm ok so ha ea).trans (due_perm ok so hb eb).symm
  obtain ⟨x, hx⟩ := List.exists_mem_of_ne_nil _ (rows_ne ok ha)
  have m : along t x (over s) ∈ lineOf t s b := p.mem_iff.mp (List.mem_map.mpr ⟨x, hx, rfl⟩)
  obtain ⟨y, hy, e⟩ := List.mem_map.mp m
  have exy := along_inj ok (rows_lab ok hb y hy) (rows_lab ok ha x hx) e
  subst exy
  rw [rows_at ok ha hx, rows_at ok hb hy]
/-- the rows told of, so far -/
noncomputable def toldL (t : Tb) (s : Slp) (rs : List (List Lab)) : List (List Lab) := rs.filterMap fun r => dueL t s r (rowsL t s) (openL t)
theorem told_succ {rs : List (List Lab)} {i : Nat} {r : List Lab} (h : rs[i]? = some r) : toldL t s (rs.take (i + 1)) = toldL t s (rs.take i) ++ (dueL t s r (rowsL t s) (openL t)).toList := by
  unfold toldL
  rw [List.take_add_one, h, List.filterMap_append]
  congr 1
theorem told_nodup (ok : TbOk t) (so : SlpOk s) : (toldL t s (rowsL t s)).Nodup := by
  unfold toldL
  refine List.pairwise_filterMap.mpr ?_
  refine List.Pairwise.imp_of_mem ?_ (rows_nodup ok)
  intro a b ha hb hne x ex y ey e
  subst e
  exact hne (due_one ok so ha hb ex ey)
theorem told_len (t : Tb) (s : Slp) (rs : List (List Lab)) : (toldL t s rs).length ≤ rs.length := List.length_filterMap_le _ _
end
end K47
set_option Elab.async false
set_option linter.all false
set_option maxRecDepth 100000
set_option maxHeartbeats 2000000
namespace K47
open PySem PySem.Spec PyProof.Rows L2
/-! ### defs that are promised only where no guard stands -/
structure FnG (P : Program) (w : World) (K : PySem.W.Frag) (mg : Str → Option Value) (base : Heap) (k : Nat) (f : Addr) (fd : FuncData) (ps : List Str) (W : Sp) : Prop where
  sz : ∀ vs H Q E, W vs H Q E → vs.length = ps.length
  go : ∀ (A : Around) (out : List Env) (s : Shared) (H : Hp) (ar : Args) (us : List Value) (vs : List V) (Q : VK) (E : XK), A.guards = some [] → Room k A → Env0 P w K mg base A out s H → BindsTo s fd ar (ps.zip us) → Vals vs us → W vs H Q E →
    codeAny (model P w) A (.call (.ref f) ar) (CR CX0 out P w H s Q E) s
section
variable {P : Program} {w : World} {K : PySem.W.Frag} {mg : Str → Option Value} {base : Heap}
theorem fng_of {x : Str} {pr : Arguments} {bd : List Stmt} {sc : Scope} {f : Addr} {fd : FuncData} {N ps : List Str} {k : Nat} {W : Sp} (D : FunD K x x pr bd sc [] [] f fd) (S : FnScope N ps sc) (sz : ∀ vs H Q E, W vs H Q E → vs.length = ps.length)
    (hb : ∀ (cdv : Value) (A : Around) (out : List Env) (s : Shared) (H : Hp) (vs : List V) (Q : VK) (E : XK), A.guards = some [] → Room k (A.deeper (envOfC x sc s.heap.objs.size f cdv)) → W vs H Q E →
      ∃ t, PSs (cxOf CX0 P w K mg base N x sc f cdv A out s H E) bd t ∧ t { nx := fun _ H' => Q .non H', rt := Q } (start N vs) H) : FnG P w K mg base (k + 1) f fd ps W := by
  obtain ⟨c0, d0, dv, kv, doc, pm, an, cdv, ct, sl, rfl, look, code, _, _⟩ := D.ex
  constructor
  · exact sz
  · intro A out s H ar us vs Q E gd room env bind rel want
    have old : ∀ c o, base.get? c = some o → s.heap.get? c = some o := fun c o h => (env.bs c o h).1
    have here : K.In s.heap := env.mod.kin.keeps old
    have own : ∀ y ∈ ps.zip us, sc.names.lookup y.1 = some .local ∨ (sc.names.lookup y.1 = some .cell ∧ ((cellsFrom (s.heap.objs.size + 1) sc.names []).lookup y.1).isSome = true) := by
      rintro ⟨n, v⟩ hy
      cases S.par n (List.of_mem_zip hy).1 with
      | inl z => exact .inl z
      | inr z => exact .inr ⟨z, PySem.W.cellsFrom_some _ _ _ (.inl z)⟩
    apply codeAny_call_function room.depth (here _ _ look) rfl S.co S.gen rfl (PySem.W.codeRec_of here code)
    apply bind
    apply wpAny_newFunctionEnv_cells S.kind own
    intro ev he s1 ic
    subst he
    refine ⟨(env.mod.nolimit.keeps old).keeps ic.toInCall.keep, codeAny_func ?_⟩
    obtain ⟨t, pt, ht⟩ := hb cdv A out s H vs Q E gd (room.deeper _) want
    have inv := inv_start (CX := CX0) (E := E) S room.hd env (sz _ _ _ _ want) rel ic
    refine wpAny_mono (pt.run [] s1 (start N vs) H _ inv ht) (fun fl s2 h2 => ?_) fun _ _ h2 => h2
    rcases fl with _ | _ | _ | u
    all_goals first
      | (obtain ⟨σ2, H2, J, q⟩ := h2; exact ⟨V.non, H2, J.os, J.bare, J.base, J.hok, rfl, q⟩)
      | (obtain ⟨v, σ2, H2, J, rv, q⟩ := h2; exact ⟨v, H2, J.os, J.bare, J.base, J.hok, rv, q⟩)
      | (obtain ⟨_, _, _, q⟩ := h2; exact q.elim)
end
section
variable {X : Cx} {b : Option Addr} {Hb : Hp} {Δ : List Sl} {e f g : Expr} {es : List Expr} {pos : Pos} {P P' : Rs → Prop} {K : PySem.W.Frag} {H H1 H2 H0 : Hp}
/-- such a def, called -/
theorem ex_callG {k : Nat} {fa : Addr} {fd : FuncData} {ps : List Str} {W : Wp} {x : Str} {p : Pos} {Pa : List Rs → Prop} (F : FnG X.prog X.w X.K X.mg X.base k fa fd ps (spW X.K W)) (gd : X.A.guards = some []) (hr : Room k X.A) (hm : X.mg x = some (.ref fa)) (kp : PySem.W.keepIn X.K (.ref fa) = true) (bb : Binds X.K fd ps [])
    (ha : AX X b Hb Δ (e :: es) Pa) (kk : ∀ rs, Pa rs → W (rs.map agOf) P) (hg : Gl X x := by rfl) (hdb : (x == ("__debug__" : Str)) = false := by decide) (he : starEach (e :: es) X.env = (false, eval e X.env) :: starEach es X.env := by rfl) (hpl : (backTo pos (starEach es X.env)).any (·.1) = false := by rfl) :
    EX X b Hb Δ (.Call (.Name x p) (e :: es) [] pos) P := by
  refine ⟨fun pins s σ H Q I q => wpAny_Call_Name_kw (ld_glob I hg hm (PySem.W.callWith_K (h₀ := X.base) I.ok.mod.kin kp (thn (ha.run pos pins s σ H _ I ⟨q.1, fun vs H1 rs pr f1 k1 => (⟨pr, f1, k1⟩ : Pa rs ∧ Fr b H H1 ∧ RsAll X.K b Hb H H1 vs rs) |> fun z => (show ∃ rs, Pa rs ∧ Fr b H H1 ∧ RsAll X.K b Hb H H1 vs rs from ⟨rs, z⟩)⟩) fun us s1 ⟨vs, H1, I1, rel, rs, pr, f1, k1⟩ => ⟨I1.kIn, ?_⟩) he hpl) hdb)⟩
  have want : spW X.K W vs H1 Q E0 := ⟨b, rs.map agOf, P, (q.1.step f1).bagH, k1.ags q.1.bag q.1.bagH, kk rs pr, fun v H' r pr f k2 => q.2 v H' r pr (f1.trans f) (by
    cases r with
    | d x => exact k2
    | fr xs =>
      obtain ⟨a, us, e1, n, t⟩ := k2
      exact ⟨a, us, e1, f1.free q.1.bagH n, t⟩
    | ow xs =>
      obtain ⟨a, us, e1, n, t⟩ := k2
      exact ⟨a, us, e1, (q.1.fr.trans f1).free q.1.bag n, t⟩
    | ls xs => exact k2
    | bag => exact k2)⟩
  have len : us.length = ps.length := by rw [← rel.length]; exact F.sz _ _ _ _ want
  refine wpAny_call (codeAny_mono (F.go X.A X.stack s1 H1 ⟨us, []⟩ us vs Q E0 gd hr I1.env0 (by
    have z := bb s1 us I1.kIn (by rw [List.append_nil]; exact len)
    rw [List.append_nil] at z
    exact z) rel want) fun r s' h => ?_)
  rcases r with er | fl
  · exact pass0 pins σ H1 s1 er s' I1 h
  · rcases fl with _ | _ | _ | u
    all_goals first
      | exact h.elim
      | exact I1.after h
/-! ### repr of plain data -/
theorem cr_repr {d : PyData} (gd : X.A.guards = some []) (hu : X.A.units + 65 < cLine) (good : Good d) (kind : d = .none ∨ ∃ xs, d = .tuple xs) (hs : d.showable = true) (nd : d.hasDict = false) (hz : d.shown.length ≤ sizeLine) : CallR X (.builtin "repr") (fun xs H Q => ∃ v, xs = [v] ∧ Dt H v d ∧ Q (.str d.shown) H) := by
  intro pins s σ H xs us Q I r ⟨v, ex, dt, q⟩
  subst ex
  cases r with
  | @cons _ u _ _ ru t =>
    cases t
    obtain ⟨as, rd⟩ := Dp.reads I d v u (dt.dp good.p) ru
    rcases kind with rfl | ⟨ds, rfl⟩
    · cases rd
      exact PySem.P.repr_of_none ⟨.str _, H, I.tok _, ⟨_, by rw [PyData.shown_none]⟩, q⟩
    · cases dt with
      | @tup a vs _ e1 t1 =>
        have hu' : u = .ref a := ru
        subst hu'
        have dep := good.dp
        exact repr_of_reads' rd hs (fun z => by rw [nd] at z; cases z) gd (by omega) (fun _ _ e => e) (fun h' t tk hk => ⟨.str _, H, I.kept hk, ⟨_, rfl⟩, q⟩) hz
theorem ed_repr {d : PyData} {p : Pos} (hm : X.mg "repr" = none) (gd : X.A.guards = some []) (hu : X.A.units + 65 < cLine) (good : Good d) (kind : d = .none ∨ ∃ xs, d = .tuple xs) (hs : d.showable = true) (nd : d.hasDict = false) (hz : d.shown.length ≤ sizeLine) (ha : ED X b Hb Δ e (.d d)) (hg : Gl X "repr" := by rfl) (hst : starEach [e] X.env = (false, eval e X.env) :: starEach [] X.env := by rfl) : ED X b Hb Δ (.Call (.Name "repr" p) [e] [] pos) (.d (.str d.shown)) :=
  ex_callB (cr_repr gd hu good kind hs nd hz) hg hm (by decide +kernel) (ad_cons ha ad_nil hst) (fun rs er H0 H vs bb f0 f1 kk Q q => by
    subst er
    cases kk with
    | cons h t _ =>
      cases t
      exact ⟨_, rfl, h, q _ _ _ rfl .refl (.str _)⟩) (by decide) (by decide) hst
end
end K47
set_option Elab.async false
set_option linter.all false
set_option maxRecDepth 100000
set_option maxHeartbeats 2000000
namespace K47
open PySem PySem.Spec PyProof.Rows L2
/-- a def that may be called by its name where no guard stands -/
structure ClG (P : Program) (w : World) (K : PySem.W.Frag) (mg : Str → Option Value) (base : Heap) (k : Nat) (x : Str) (W : Wp) : Prop where
  ex : ∃ (f : Addr) (fd : FuncData) (ps : List Str), FnG P w K mg base k f fd ps (spW K W) ∧ mg x = some (.ref f) ∧ PySem.W.keepIn K (.ref f) = true ∧ Binds K fd ps []
section
variable {P : Program} {w : World} {K : PySem.W.Frag} {mg : Str → Option Value} {base : Heap}
theorem calg_data {x : Str} {st : Stmt} {N ps : List Str} {k : Nat} {W : Wp} (D : ∃ f fd, FnP K x st f fd ∧ mg x = some (.ref f)) (S : FnScope N ps (defScope st))
    (hb : ∀ (kV doc pm : Value) (an : Option Addr) (cdv ct : Value) (us : List Value), us.length = ps.length → bindArgs (PySem.W.fnOf x x (defArgs st) (defBody st) (defScope st) .none kV doc pm an cdv ct) ⟨us, []⟩ = pure (ps.zip us))
    (hlen : ∀ rs Q, W rs Q → rs.length = ps.length) (hN : ps.length ≤ N.length)
    (hbody : ∀ (f : Addr) (cdv : Value) (A : Around) (outer : List Env) (s : Shared) (H : Hp) (E : XK) (b : Option Addr) (rs : List Rs) (Q : Rs → Prop) (as : Nat → Addr), A.guards = some [] → Room k (A.deeper (envOfC x (defScope st) s.heap.objs.size f cdv)) → W rs Q →
      SSX (cxOf CX0 P w K mg base N x (defScope st) f cdv A outer s H E).nox b H (iniSl as 0 rs ++ List.replicate (N.length - ps.length) .un) (defBody st) { nx := fun _ => False, rt := Q }) : ClG P w K mg base (k + 1) x W := by
  obtain ⟨f, fd, F, hm⟩ := D
  refine ⟨f, fd, ps, fng_of F S (fun vs H Q E h => ?_) (fun cdv A outer s H vs Q E gd hr h => ?_), hm, F.kp, F.bindsN hb⟩
  · obtain ⟨b, rs, P', _, p, hw, _⟩ := h
    rw [p.length]
    exact hlen rs P' hw
  · obtain ⟨b, rs, P', bi, p, hw, fin⟩ := h
    obtain ⟨l1, a1⟩ := ini_of p (fun i => adOf (vs.getD i .non)) 0 fun i v e => by
      show adOf (vs.getD (0 + i) .non) = _
      rw [Nat.zero_add, List.getD_eq_getElem?_getD, e]; rfl
    have hv : vs.length = ps.length := p.length.trans (hlen rs P' hw)
    refine ⟨_, PSs.nox (hbody f cdv A outer s H E b rs P' (fun i => adOf (vs.getD i .non)) gd hr hw), ?_, fun _ _ _ z => z.elim, fun r v H' pr f k => fin v H' r pr f k, fun _ _ _ z => z.elim, fun _ _ _ z => z.elim⟩
    have z := en_start (N := N) bi l1 (by omega) a1
    rw [← hv]
    exact z
end
section
variable {X : Cx} {b : Option Addr} {Hb : Hp} {Δ : List Sl} {e f g : Expr} {es : List Expr} {pos : Pos} {P : Rs → Prop}
theorem ed_cG {j k : Nat} {x : Str} {W : Wp} {rs : List Rs} {r : Rs} {p : Pos} (c : ClG X.prog X.w X.K X.mg X.base k x W) (gd : X.A.guards = some []) (hr : Room j X.A) (hk : k ≤ j) (ha : AD X b Hb Δ (e :: es) rs) (kk : W (rs.map agOf) (fun z => z = r))
    (hg : Gl X x := by rfl) (hdb : (x == ("__debug__" : Str)) = false := by decide) (he : starEach (e :: es) X.env = (false, eval e X.env) :: starEach es X.env := by rfl) (hpl : (backTo pos (starEach es X.env)).any (·.1) = false := by rfl) : ED X b Hb Δ (.Call (.Name x p) (e :: es) [] pos) r := by
  obtain ⟨fa, fd, ps, F, hm, kp, bb⟩ := c.ex
  exact ex_callG F gd (hr.mono hk) hm kp bb ha (fun rs' e => by rw [e]; exact kk) hg hdb he hpl
end
/-! ### what is shown of a row -/
theorem enc_Or : EncOk eOr := ⟨fun a b h => by
  cases a with
  | none =>
    cases b with
    | none => rfl
    | some y => cases h
  | some x =>
    cases b with
    | none => cases h
    | some y => rw [enc_Row.inj x y h], fun a => by
    cases a with
    | none => exact good_none
    | some x => exact enc_Row.good x⟩
structure Sm (l : Lab) : Prop where
  a : l.1 < 4
  b : l.2.1 < 4
  c : l.2.2.1 < 4
  d : l.2.2.2 < 4
theorem LabOk.sm {t : Tb} (ok : TbOk t) {l : Lab} (h : LabOk t l) : Sm l := by
  have h1 := h.c
  have h2 := h.x
  have h3 := h.y
  have h4 := h.m
  have h5 := ok.s4
  have h6 := ok.m4
  exact ⟨by omega, by omega, by omega, by omega⟩
theorem four_of {n : Nat} (h : n < 4) : n = 0 ∨ n = 1 ∨ n = 2 ∨ n = 3 := by omega
theorem sh_int {n : Nat} (h : n < 4) : PyData.showable (.int (n : Nat)) = true := by
  rcases four_of h with rfl | rfl | rfl | rfl <;> decide +kernel
theorem wt_int {n : Nat} (h : n < 4) : PyData.weight (.int (n : Nat)) ≤ 2 := by
  rcases four_of h with rfl | rfl | rfl | rfl <;> decide +kernel
theorem lv_int {n : Nat} (h : n < 4) : PyData.leavesShort 13 (.int (n : Nat)) = true := by
  rw [PyData.leavesShort, decide_eq_true_iff]
  exact PyData.shown_int_le (by omega)
theorem sh_lab {l : Lab} (h : Sm l) : PyData.showable (eL l) = true := by
  show PyData.showableAll [.int l.1, .int l.2.1, .int l.2.2.1, .int l.2.2.2] = true
  simp only [PyData.showableAll, sh_int h.a, sh_int h.b, sh_int h.c, sh_int h.d, Bool.and_true]
theorem lv_lab {l : Lab} (h : Sm l) : PyData.leavesShort 13 (eL l) = true := by
  show PyData.leavesShortAll 13 [.int l.1, .int l.2.1, .int l.2.2.1, .int l.2.2.2] = true
  simp only [PyData.leavesShortAll, lv_int h.a, lv_int h.b, lv_int h.c, lv_int h.d, Bool.and_true]
theorem wt_lab {l : Lab} (h : Sm l) : PyData.weight (eL l) ≤ 12 := by
  have h1 := wt_int h.a
  have h2 := wt_int h.b
  have h3 := wt_int h.c
  have h4 := wt_int h.d
  show PyData.weightAll [.int l.1, .int l.2.1, .int l.2.2.1, .int l.2.2.2] ≤ 12
  simp only [PyData.weightAll]
  omega
theorem sh_row : ∀ {r : List Lab}, (∀ l ∈ r, Sm l) → PyData.showableAll (r.map eL) = true ∧ PyData.leavesShortAll 13 (r.map eL) = true ∧ PyData.weightAll (r.map eL) ≤ 13 * r.length ∧ PyData.hasDictAll (r.map eL) = false
  | [], _ => ⟨rfl, rfl, Nat.le_refl _, rfl⟩
  | l :: r, h => by
    obtain ⟨h1, h2, h3, h4⟩ := sh_row (r := r) fun x m => h x (List.mem_cons_of_mem _ m)
    have hl := h l List.mem_cons_self
    have w := wt_lab hl
    have dl : PyData.hasDict (eL l) = false := rfl
    rw [List.map_cons]
    simp only [PyData.showableAll, PyData.leavesShortAll, PyData.weightAll, PyData.hasDictAll, sh_lab hl, lv_lab hl, h1, h2, h4, dl, Bool.and_true, Bool.or_false, true_and, and_true, List.length_cons]
    omega
structure Tells (d : PyData) : Prop where
  good : Good d
  kind : d = .none ∨ ∃ xs, d = .tuple xs
  sh : d.showable = true
  nd : d.hasDict = false
  sz : d.shown.length ≤ sizeLine
theorem tells_or {o : Option (List Lab)} (h : ∀ r, o = some r → r.length ≤ 64 ∧ ∀ l ∈ r, Sm l) : Tells (eOr o) := by
  cases o with
  | none => exact ⟨good_none, .inl rfl, rfl, rfl, by show (PyData.none).shown.length ≤ sizeLine; rw [PyData.shown_none, sizeLine_eq]; decide +kernel⟩
  | some r =>
    obtain ⟨h1, h2⟩ := h r rfl
    obtain ⟨a, b, c, d⟩ := sh_row h2
    refine ⟨enc_Row.good r, .inr ⟨_, rfl⟩, a, d, PyData.shown_fits (B := 13) (by decide) (by decide) (d := eRow r) b ?_⟩
    show PyData.weightAll (r.map eL) ≤ _
    omega
section
variable {P : Program} {w : World} {K : PySem.W.Frag} {mg : Str → Option Value} {base : Heap}
theorem g_alike (G : G47 K mg) : ClG P w K mg base 1 "_law_alike" (fun rs Q => ∃ o, rs = [.d (eOr o), .d (eOr o)] ∧ Tells (eOr o) ∧ Q (.d (.bool true))) := by
  refine calg_data (G.at 33 "_law_alike" s_Lalike) sc_Lalike (fun _ _ _ _ _ _ us hl => match us, hl with | [_, _], _ => rfl) (fun rs Q h => ?_) (by decide) fun f cdv A outer s H E b rs Q as gd hr hw => ?_
  · obtain ⟨_, rfl, _⟩ := h; rfl
  · obtain ⟨o, rfl, tl, k⟩ := hw
    show SSX _ _ _ [_, _] _ _
    have hu := room65 hr
    refine ssx_one (sx_retD (x := .bool true) (ED.cast (r := .d (.bool (decide (o = o) && decide ((eOr o).shown = (eOr o).shown)))) (ed_and (ed_eqA hu enc_Or (ed_var 0) (ed_var 1)) fun _ => ed_one (ed_eqS (ed_repr G.repr gd hu tl.good tl.kind tl.sh tl.nd tl.sz (ed_var 0)) (ed_repr G.repr gd hu tl.good tl.kind tl.sh tl.nd tl.sz (ed_var 1)))) ?_) k)
    rw [decide_eq_true rfl, decide_eq_true rfl]
    rfl
theorem ints_dts {H : Hp} : ∀ {ns : List Int} {us : List V}, Dts H us (ns.map PyData.int) → us = ns.map V.int
  | [], _, h => by cases h; rfl
  | n :: ns, _, h => by
    cases h with
    | cons h t =>
      cases h
      rw [ints_dts t]
      rfl
/-- the drawing list, made -/
def spBag (K : PySem.W.Frag) : Sp := fun vs H Q _ => ∃ (a : Addr) (ns : List Int), vs = [.ref a] ∧ SqL K H a (ns.map V.int) ∧ ns.length ≤ 1000 ∧ ∀ p c H', H p = none → (∀ x o, H x = some o → H' x = some o) → BagAt H' p c → Q (.ref p) H'
theorem f_bag (G : G47 K mg) : ∃ (f : Addr) (fd : FuncData), FnOk P w K mg base CX0 1 f fd ["_law_script"] (spBag K) ∧ mg "_law_bag" = some (.ref f) ∧ PySem.W.keepIn K (.ref f) = true ∧ Binds K fd ["_law_script"] [] := by
  obtain ⟨f, fd, F, hm⟩ := G.at 29 "_law_bag" s_Lbag
  refine ⟨f, fd, F.ok sc_Lbag (fun vs H Q E h => ?_) (fun cdv A outer s H vs Q E hr h => ?_), hm, F.kp, F.bindsN (fun _ _ _ _ _ _ us hl => match us, hl with | [_], _ => rfl)⟩
  · obtain ⟨_, _, rfl, _⟩ := h; rfl
  · obtain ⟨a, ns, rfl, sq, nl, fin⟩ := h
    have nd := sc_Lbag.nd
    have p0 : Paired (Ag K none H) [.ref a] [.ls (ns.map PyData.int)] := .cons (.ls (fun z => nomatch z) sq dts_ints) .nil
    obtain ⟨l1, a1⟩ := ini_of p0 (fun _ => a) 0 fun i v e => by
      cases i with
      | zero => cases e; rfl
      | succ i => simp at e
    have en : En K none H [.br a (ns.map PyData.int), .un] (L2.start ["_law_script", "_law_cell"] [.ref a]) H := en_start (N := ["_law_script", "_law_cell"]) (fun _ z => by cases z) l1 (by show 1 ≤ 2; decide) a1
    let X := (cxOf CX0 P w K mg base ["_law_script", "_law_cell"] "_law_bag" (defScope s_Lbag) f cdv A outer s H E).nox
    let ab : Int → Int := fun i => if i < 0 then -i else i
    have cl : (cutD ns none (some 63)).length ≤ 63 := by
      rw [show (some (63 : Int)) = some ((63 : Nat) : Int) from rfl, cut_take, List.length_take]
      omega
    have pe : PSs X (defBody s_Lbag) (fun D σ H1 => En X.K none H [.br a (ns.map PyData.int), .un] σ H1 ∧ ∀ p c H', H1 p = none → (∀ x o, H1 x = some o → H' x = some o) → BagAt H' p c → D.rt (.ref p) H') := by
      refine pss_one (ps_imp (ps_ret (pe_lst (ad_cons (ed_int (X := X) (b := none) (Hb := H) (Δ := [.br a (ns.map PyData.int), .un])) (ad_cons ed_int (ad_cons ed_int (ad_cons (ed_lc 1 (cutD ns none (some 63)) PyData.int (fun _ => true) (fun i => .int (ab i)) (ix_cast (ix_tmp (ed_slL (l := none) (h := some 63) (ed_var 0) po_no (po_yes ed_int))) ?_) (fun s' H' C cl fp a ha => tsx_nil rfl) (fun s' H' C cl fp i hi pa => ?_) (by omega) ?_ nd ?_) ad_nil)))))) fun D σ H1 q => ⟨q.1, fun vs H2 rs pr f1 k1 => ?_⟩)
      · unfold cutD
        rw [List.length_map, ← List.map_drop, ← List.map_take]
      · exact ex_callB call_abs rfl G.abs (by decide +kernel) (ad_cons (ed_var 1) ad_nil) (fun rs er H0 H vs bb f0 f1 kk Q q => by
          subst er
          cases kk with
          | cons h t _ =>
            cases t
            cases h
            exact ⟨i, rfl, q _ _ _ rfl .refl (.int _)⟩)
      · refine bk_Lbag _ _ ?_
        decide +kernel
      · exact fun s' H' C cl fp => pg_name nd rfl (Or.inl rfl) (.inr rfl)
      · subst pr
        cases k1 with
        | cons h1 t1 _ =>
          cases t1 with
          | cons h2 t2 _ =>
            cases t2 with
            | cons h3 t3 _ =>
              cases t3 with
              | cons h4 t4 _ =>
                cases t4
                cases h1
                cases h2
                cases h3
                obtain ⟨c, us, e1, n1, e2, dt⟩ := h4
                subst e1
                refine ⟨by show 4 ≤ sizeLine; rw [sizeLine_eq]; decide, fun p hp => q.2 p c _ (f1.free (fun _ z => by cases z) hp) (fun x o hx => ?_) ?_⟩
                · have hx2 := f1.all x o (fun z => by cases z) hx
                  rw [upd_ne (ne_of_none hx2 hp)]
                  exact hx2
                · have eu : us = (((cutD ns none (some 63)).filter fun _ => true).map ab).map V.int := by
                    refine ints_dts (H := H2) ?_
                    rw [List.map_map]
                    exact dt
                  refine ⟨0, 1234567891, 0, ((cutD ns none (some 63)).filter fun _ => true).map ab, upd_same, ?_, ?_, by decide, by decide, by decide, by decide, ?_, fun x hx => ?_⟩
                  · rw [upd_ne (ne_of_none e2 hp), e2, eu]
                  · exact ne_of_none e2 hp
                  · rw [List.length_map]
                    have := List.length_filter_le (fun _ => true) (cutD ns none (some 63))
                    omega
                  · obtain ⟨i, _, rfl⟩ := List.mem_map.mp hx
                    show 0 ≤ (if i < 0 then -i else i)
                    split <;> omega
    exact ⟨_, PSs.nox pe, en, fun p c H' h1 h2 h3 => fin p c H' h1 h2 h3⟩
end
end K47
set_option Elab.async false
set_option linter.all false
set_option maxRecDepth 100000
set_option maxHeartbeats 2000000
namespace K47
open PySem PySem.Spec PyProof.Rows L2
theorem eqv_lists {α : Type} [DecidableEq α] {enc : α → PyData} (h : EncOk enc) (as bs : List α) : PyData.eqv (.list (as.map enc)) (.list (bs.map enc)) = decide (as = bs) := by
  rw [← h.eqvAll]
  simp [PyData.eqv]
section
variable {P : Program} {w : World} {K : PySem.W.Frag} {mg : Str → Option Value} {base : Heap}
/-- what the law does, its script given -/
def spLaw (K : PySem.W.Frag) : Sp := fun vs H Q _ => ∃ (a : Addr) (ns : List Int), vs = [.ref a] ∧ SqL K H a (ns.map V.int) ∧ ns.length ≤ 1000 ∧ ∀ H', Q (.bl true) H'
theorem law_rest (G : G47 K mg) {f : Addr} {cdv : Value} {A : Around} {out : List Env} {s : Shared} {H Hb : Hp} {E : XK} {b : Option Addr} (gd : A.guards = some []) (hr : Room 9 (A.deeper (envOfC "law" (defScope s_law) s.heap.objs.size f cdv))) :
    SSX (cxOf CX0 P w K mg base ["_law_script", "_law_bag_here", "_law_turn", "_law_table_here", "_law_slope_here", "_law_rows_here", "_law_free", "_law_told", "_law_row_here", "_law_due"] "law" (defScope s_law) f cdv A out s H E).nox b Hb [.un, .bag, .un, .un, .un, .un, .un, .un, .un, .un] (defBody s_law).tail { nx := fun _ => False, rt := fun r => r = .d (.bool true) } := by
  have nd := sc_law.nd
  have hu := room65 hr
  refine ssx_cons (sx_forA (List.range 3) eI (ix_rangeN (n := 3) rfl G.range ed_int (by decide)) (fun _ => [.un, .bag, .un, .un, .un, .un, .un, .un, .un, .un]) (lo_same (lo_same (lo_same (lo_same (lo_same (lo_same (lo_same (lo_same (lo_same (lo_same lo_nil)))))))))) (fun Hb' i c hi => ?_) ?_ ?_)
  · refine gx_name 2 ?_ nd
    refine ssx_cons (sx_par 3 4 rfl (ax_cons (Pa := fun r => ∃ t, TbOk t ∧ r = .d (eT t)) (Pr := fun rs => ∃ s, s ∈ slopes ∧ rs = [.d (eSl s)]) (P := fun rs => ∃ t s, TbOk t ∧ s ∈ slopes ∧ rs = [.d (eT t), .d (eSl s)]) (ex_c (b_table G) hr (by omega) (ad_cons (ed_var 1) (ad_cons ed_int ad_nil)) fun rs e => by rw [e]; exact ⟨rfl, fun t ok => ⟨t, ok, rfl⟩⟩) (ax_cons (Pa := fun r => ∃ s, s ∈ slopes ∧ r = .d (eSl s)) (Pr := fun rs => rs = []) (ex_c (b_slope G) hr (by omega) (ad_cons (ed_var 1) (ad_cons ed_int ad_nil)) fun rs e => by rw [e]; exact ⟨rfl, fun s hs => ⟨s, hs, rfl⟩⟩) ad_nil fun r rs ⟨s, hs, e1⟩ e2 => ⟨s, hs, by rw [e1, e2]⟩) fun r rs ⟨t, ok, e1⟩ ⟨s, hs, e2⟩ => ⟨t, s, ok, hs, by rw [e1, e2]⟩) (fun rs ⟨t, sl, ok, hs, e⟩ => ⟨_, _, _, _, e, rfl, rfl, ?_⟩) nd)
    have so := slp_ok hs
    refine ssx_cons (sx_par3 5 6 7 rfl (ad_cons (ed_c (b_rows G) hr (by omega) (ad_cons (ed_var 3) (ad_cons (ed_var 4) ad_nil)) ⟨t, sl, rfl, ok, so, rfl⟩) (ad_cons (ed_c (b_openPoints G) hr (by omega) (ad_cons (ed_var 3) ad_nil) ⟨t, rfl, ok, rfl⟩) (ad_cons (ed_lst ad_nil) ad_nil))) (fun rs e => ⟨_, _, _, _, _, _, e, rfl, rfl, rfl, ?_⟩) nd)
    have rf := rows_few (s := sl) ok
    refine ssx_cons (sx_forSA 5 (rowsL t sl) eRow (ix_slot 5) (fun a i => [.un, .bag, .un, .d (eT t), .d (eSl sl), .br a ((rowsL t sl).map eRow), .ow ((openL t).map eC), .ow ((toldL t sl ((rowsL t sl).take i)).map eRow), .un, .un]) (fun a => lo_un (lo_same (lo_un (lo_same (lo_same (lo_same (lo_same (lo_same (lo_un (lo_un lo_nil)))))))))) (fun a Hb2 i row hi2 => ?_) (fun a => ⟨rfl, ?_⟩) fun a q hq => by simp [brs] at hq)
    · refine gx_name 8 ?_ nd
      have mrow : row ∈ rowsL t sl := List.mem_of_getElem? hi2
      have rl := rows_lab ok mrow
      have r64 := rows_sz ok mrow
      have rne := rows_ne ok mrow
      have above := above_due ok so mrow
      have tl := told_len t sl ((rowsL t sl).take i)
      have ti : ((rowsL t sl).take i).length ≤ 64 := by rw [List.length_take]; omega
      have succ := told_succ (t := t) (s := sl) hi2
      have lin : ∀ l ∈ lineOf t sl row, ∃ r ∈ rowsL t sl, l ∈ r := fun l m => by
        obtain ⟨x, hx, rfl⟩ := List.mem_map.mp m
        exact rows_all ok (along_ok ok (rl x hx))
      refine ssx_cons (sx_setD 9 (ed_c (b_rowAbove G) hr (by omega) (ad_cons (ed_var 3) (ad_cons (ed_var 4) (ad_cons (ed_var 8) (ad_cons (ed_var 5) (ad_cons (ed_var 6) ad_nil))))) ⟨t, sl, row, rowsL t sl, openL t, rfl, ok, so, rne, r64, rl, by omega, lin, rfl⟩) ?_ nd)
      have dm : ∀ d, dueL t sl row (rowsL t sl) (openL t) = some d → d ∈ rowsL t sl := fun d e => due_mem ok e
      have dp : ∀ d, dueL t sl row (rowsL t sl) (openL t) = some d → (lineOf t sl row).Perm d := fun d e => due_perm ok so mrow e
      have tel : Tells (eOr (dueL t sl row (rowsL t sl) (openL t))) := tells_or fun r e => ⟨rows_sz ok (dm r e), fun l m => (rows_lab ok (dm r e) l m).sm ok⟩
      refine ssx_cons (sx_ifD (c := !true) (td_not (td_val (ed_cG (g_alike G) gd hr (by omega) (ad_cons (ed_c (c_above G) hr (by omega) (ad_cons (ed_var 3) (ad_cons (ed_var 4) (ad_cons (ed_var 8) ad_nil))) ⟨t, sl, row, rfl, ok, so, rne, r64, rl, rfl⟩) (ad_cons (ed_var 9) ad_nil)) ⟨dueL t sl row (rowsL t sl) (openL t), by rw [above]; rfl, tel, rfl⟩))) (fun h => absurd h (by decide)) fun _ => ssx_nil ?_)
      cases due : dueL t sl row (rowsL t sl) (openL t) with
      | none =>
        rw [due] at succ
        refine ssx_one (sx_ifD (c := false) (td_notN (d := .none) (ed_var 9)) (fun h => absurd h (by decide)) fun _ => ssx_nil ?_)
        rw [succ]
        refine lo_same (lo_same (lo_un (lo_same (lo_same (lo_same (lo_same (lo_eq ?_ (lo_un (lo_un lo_nil)))))))))
        rw [Option.toList_none, List.append_nil]
      | some d =>
        rw [due] at succ
        have pd := dp d due
        have same : srt eL (lineOf t sl row) = srt eL d := srt_same enc_L pd fun a _ b _ => al_L a b
        have dl := rows_sz ok (dm d due)
        have ll : (lineOf t sl row).length ≤ 64 := by rw [pd.length_eq]; exact dl
        refine ssx_one (sx_ifD (c := true) (td_notN (d := eRow d) (ed_var 9)) (fun _ => ?_) fun h => absurd h (by decide))
        refine ssx_cons (sx_append 7 (xs := (toldL t sl ((rowsL t sl).take i)).map eRow) (ed_var 9) fun r e => ⟨_, e, by rw [List.length_map, sizeLine_eq]; exact Nat.lt_of_le_of_lt (Nat.le_trans tl ti) (by decide), ?_⟩)
        refine ssx_one (sx_ifD (c := false) ((td_neD (r := .fr ((srt eL (lineOf t sl row)).map eL)) (s := .fr ((srt eL d).map eL)) hu (ed_sortL hu G.sorted enc_L (ed_c (b_over G) hr (by omega) (ad_cons (ed_var 3) (ad_cons (ed_var 4) (ad_cons (ed_var 8) ad_nil))) ⟨t, sl, row, rfl, ok, so, r64, rl, rfl⟩) (so_L _) (by omega)) (ed_sortT hu G.sorted enc_L (ed_var 9) (so_L _) (by omega)) ?_ ?_).cast ?_) (fun h => absurd h (by decide)) fun _ => ssx_nil ?_)
        · intro x hx
          obtain ⟨y, _, rfl⟩ := List.mem_map.mp hx
          exact enc_L.good y
        · intro x hx
          obtain ⟨y, _, rfl⟩ := List.mem_map.mp hx
          exact enc_L.good y
        · rw [eqv_lists enc_L, decide_eq_true same]
          rfl
        · rw [succ]
          refine lo_same (lo_same (lo_un (lo_same (lo_same (lo_same (lo_same (lo_eq ?_ (lo_un (lo_un lo_nil)))))))))
          rw [List.map_append]
          rfl
    · rw [List.take_length]
      have tn := told_nodup ok so
      have tl := told_len t sl (rowsL t sl)
      refine ssx_one (sx_ifD (c := false) ((td_neI (ed_lenSet (bs := toldL t sl (rowsL t sl)) hu G.len G.set set_Row (by omega) (ed_var 7)) (ed_lenL G.len (ed_var 7))).cast ?_) (fun h => absurd h (by decide)) fun _ => ssx_nil ?_)
      · rw [nub_same tn, List.length_map, decide_eq_true rfl]
        rfl
      · exact lo_same (lo_same (lo_un (lo_un (lo_un (lo_un (lo_un (lo_un (lo_same (lo_same lo_nil)))))))))
  · exact ssx_one (sx_retD ed_bl rfl)
  · intro p hp
    simp [brs] at hp
end
end K47
set_option Elab.async false
set_option linter.all false
set_option maxRecDepth 100000
set_option maxHeartbeats 2000000
namespace K47
open PySem PySem.Spec PyProof.Rows L2
section
variable {P : Program} {w : World} {K : PySem.W.Frag} {mg : Str → Option Value} {base : Heap}
theorem en_bag {K : PySem.W.Frag} {H : Hp} {p c a : Addr} {n : Nat} (k : BagAt H p c) : En K (some p) H (.un :: .bag :: List.replicate n .un) ((L2.start ("" :: "" :: List.replicate n "") [.ref a]).set 1 (some (.ref p))) H := by
  have st : (L2.start ("" :: "" :: List.replicate n "") [.ref a]).length = n + 2 := by
    unfold L2.start
    simp
  refine ⟨fun x e => by cases e; exact ⟨c, k⟩, .refl, by rw [List.length_set, st]; simp, fun i s e => ?_, fun i j xs ys _ e _ => ?_⟩
  · have hi : i < n + 2 := by
      have z := (List.getElem?_eq_some_iff.mp e).1
      simpa using z
    match i, e, hi with
    | 0, e, hi =>
      cases e
      exact ⟨_, List.getElem?_eq_getElem (by rw [List.length_set, st]; omega), trivial⟩
    | 1, e, hi =>
      cases e
      exact ⟨some (.ref p), List.getElem?_set_self (by rw [st]; omega), p, rfl, rfl⟩
    | i + 2, e, hi =>
      have es : s = .un := by
        have z : (List.replicate n Sl.un)[i]? = some s := by simpa using e
        exact List.eq_of_mem_replicate (List.mem_of_getElem? z)
      subst es
      exact ⟨_, List.getElem?_eq_getElem (by rw [List.length_set, st]; exact hi), trivial⟩
  · have hm : Sl.ow xs ∈ Sl.un :: Sl.bag :: List.replicate n Sl.un := List.mem_of_getElem? e
    rcases List.mem_cons.mp hm with z | hm
    · cases z
    rcases List.mem_cons.mp hm with z | hm
    · cases z
    · cases List.eq_of_mem_replicate hm
theorem g_law (G : G47 K mg) {f : Addr} {fd : FuncData} (D : FnP K "law" s_law f fd) : FnG P w K mg base 10 f fd ["_law_script"] (spLaw K) := by
  obtain ⟨fb, fdb, FB, hmb, kpb, bb⟩ := f_bag (P := P) (w := w) (base := base) G
  refine fng_of D sc_law (fun vs H Q E h => ?_) (fun cdv A out s H vs Q E gd hr h => ?_)
  · obtain ⟨_, _, rfl, _⟩ := h; rfl
  · obtain ⟨a, ns, rfl, sq, nl, fin⟩ := h
    have nd := sc_law.nd
    let N : List Str := ["_law_script", "_law_bag_here", "_law_turn", "_law_table_here", "_law_slope_here", "_law_rows_here", "_law_free", "_law_told", "_law_row_here", "_law_due"]
    let X := (cxOf CX0 P w K mg base N "law" (defScope s_law) f cdv A out s H E).nox
    let Δ0 : List Sl := [.br a (ns.map PyData.int), .un, .un, .un, .un, .un, .un, .un, .un, .un]
    have p0 : Paired (Ag K none H) [.ref a] [.ls (ns.map PyData.int)] := .cons (.ls (fun z => nomatch z) sq dts_ints) .nil
    obtain ⟨l1, a1⟩ := ini_of p0 (fun _ => a) 0 fun i v e => by
      cases i with
      | zero => cases e; rfl
      | succ i => simp at e
    have en : En K none H Δ0 (L2.start N [.ref a]) H := en_start (N := N) (fun _ z => by cases z) l1 (by show 1 ≤ 10; decide) a1
    have hr1 : Room 1 X.A := hr.mono (by decide)
    have rest : PSs X (defBody s_law).tail (fun D σ H' => ∃ b Hb, tS X.K b Hb [.un, .bag, .un, .un, .un, .un, .un, .un, .un, .un] { nx := fun _ => False, rt := fun r => r = .d (.bool true) } D σ H') := ⟨fun pins s' σ H' D I ⟨b, Hb, q⟩ => (law_rest (b := b) (Hb := Hb) G gd hr).run pins s' σ H' D I q⟩
    have whole : PSs X (defBody s_law) (tSeq (tAsg (fun σ H1 Q => En X.K none H Δ0 σ H1 ∧ ∀ p c H', H1 p = none → (∀ x o, H1 x = some o → H' x = some o) → BagAt H' p c → Q (.ref p) H') (gName 1)) (fun D σ H' => ∃ b Hb, tS X.K b Hb [.un, .bag, .un, .un, .un, .un, .un, .un, .un, .un] { nx := fun _ => False, rt := fun r => r = .d (.bool true) } D σ H')) := by
      refine pss_cons (ps_set (i := 1) nd rfl (Or.inl rfl) (pe_imp (pe_call FB hr1 rfl hmb kpb bb .nil pass0 (ad_cons (ed_var (X := X) (b := none) (Hb := H) (Δ := Δ0) 0) ad_nil)) fun σ H1 Q q => ⟨q.1, fun vs H2 rs pr f1 k1 => ?_⟩)) rest
      subst pr
      cases k1 with
      | cons h1 t1 _ =>
        cases t1
        obtain ⟨a', us, e1, _, s2, dt⟩ := h1
        subst e1
        have eu := ints_dts dt
        subst eu
        exact ⟨a', ns, rfl, s2, nl, fun p c H' h1 h2 h3 => q.2 p c H' (f1.free (fun _ z => by cases z) h1) (fun x o hx => h2 x o (f1.all x o (fun z => by cases z) hx)) h3⟩
    refine ⟨_, PSs.nox whole, en, fun p c H' h1 h2 h3 => ⟨some p, H', en_bag (n := 8) h3, fun _ _ _ z => z.elim, fun r v H'' e _ k => ?_, fun _ _ _ z => z.elim, fun _ _ _ z => z.elim⟩⟩
    subst e
    cases k
    exact fin H''
end
end K47
set_option Elab.async false
set_option linter.all false
set_option maxRecDepth 100000
set_option maxHeartbeats 2000000
namespace K47
open PySem PySem.Spec PyProof.Rows L2
/-- the script's object -/
abbrev scrO (vs : List Value) : Obj := { cls := .type "list", data := .seq vs.toArray }
/-- a heap told of, in which at most the script stands -/
structure Told (P : Program) (w : World) (K : PySem.W.Frag) (a : Addr) (vs : List Value) (ns : List Int) (h : Heap) (H : Hp) : Prop where
  one : ∀ b u, H b = some u → b = a ∧ u = .frz (scrO vs) (.lst (ns.map V.int))
  sq : SqL K H a (ns.map V.int)
  ok : HOk P w H h
  no : ∀ u, H a = some u → K.lookup a = none
section
variable {P : Program} {w : World} {K : PySem.W.Frag} {mg mb : Str → Option Value} {k : Nat} {fa a : Addr} {fd : FuncData} {s₁ : Shared} {vs : List Value} {ns : List Int}
theorem told_ex (here : K.In s₁.heap) (ha : s₁.heap.get? a = some (scrO vs)) (hi : IntsAre vs ns) (hl : ns.length ≤ sizeLine) : ∃ H, Told P w K a vs ns s₁.heap H := by
  have rv := vals_ints hi
  have lv := hi.length
  cases look : K.lookup a with
  | some o =>
    have e := here a o look
    rw [ha] at e
    have e := Option.some.inj e
    subst e
    have nil : ∀ (b : Addr) (u : HO), (fun _ : Addr => (none : Option HO)) b = some u → False := fun b u z => by cases (show (none : Option HO) = some u from z)
    exact ⟨fun _ => none, ⟨fun b u z => (nil b u z).elim, .inr ⟨_, vs.toArray, _, look, rfl, rfl, rfl, by rw [List.size_toArray, lv]; exact hl, by simpa using rv⟩, fun b u z => (nil b u z).elim, fun u z => (nil a u z).elim⟩⟩
  | none =>
    let H : Hp := fun b => if b = a then some (.frz (scrO vs) (.lst (ns.map V.int))) else none
    have at_a : H a = some (.frz (scrO vs) (.lst (ns.map V.int))) := if_pos rfl
    have only : ∀ b u, H b = some u → b = a ∧ u = .frz (scrO vs) (.lst (ns.map V.int)) := by
      intro b u z
      by_cases c : b = a
      · subst c
        rw [at_a] at z
        exact ⟨rfl, (Option.some.inj z).symm⟩
      · have z2 : H b = none := if_neg c
        rw [z2] at z
        cases z
    refine ⟨H, ⟨only, .inl (.inr ⟨_, at_a⟩), fun b u z => ?_, fun _ _ => look⟩⟩
    obtain ⟨rfl, rfl⟩ := only b u z
    exact ⟨ha, by rw [List.length_map]; exact hl, vs, _, rv, ha⟩
theorem end_call (here : K.In s₁.heap) (hm : s₁.heap.Ns mainGlobals mg) (hb : s₁.heap.Ns builtinsNs mb) (hbb : ∀ x : Str, x ≠ "__name__" → mb x = bootBuiltins x) (free : s₁.heap.NoLimit) (hg : s₁.gens = #[])
    (ha : s₁.heap.get? a = some (scrO vs)) (hi : IntsAre vs ns) (hl : ns.length ≤ 1000) (room : Room k callerA) (gd : callerA.guards = some [])
    (F : ∀ base : Heap, K.In base → base.Ns mainGlobals mg → FnG P w K mg base k fa fd ["_law_script"] (spLaw K)) (bind : ∀ (s : Shared) (u : Value), BindsTo s fd ⟨[u], []⟩ [("_law_script", u)]) :
    codeAny (model P w) callerA (.call (.ref fa) ⟨[.ref a], []⟩) (fun r s' => r = .ok (.ret (.bool true)) ∧ OldK s₁.heap s'.heap ∧ s'.os = s₁.os ∧ AllBare s'.gens) s₁ := by
  obtain ⟨H, T⟩ := told_ex (P := P) (w := w) here ha hi (by rw [sizeLine_eq]; omega)
  have stay : ∀ {c : Addr} {o : Obj}, s₁.heap.get? c = some o → (c = a → H a = none) → (hidT s₁.heap H).get? c = some o := fun {c o} e n => by
    refine hidT_get e ?_
    cases z : H c with
    | none => rfl
    | some u =>
      have ec := (T.one c u z).1
      subst ec
      rw [n rfl] at z
      cases z
  have inB : K.In (hidT s₁.heap H) := fun c o e => stay (here c o e) fun ec => by
    subst ec
    cases z : H c with
    | none => rfl
    | some u =>
      rw [T.no u z] at e
      cases e
  have nsB : ∀ {c : Addr} {m : Str → Option Value}, s₁.heap.Ns c m → (hidT s₁.heap H).Ns c m := by
    rintro c m ⟨o, es, ep, e, d, r⟩
    refine ⟨o, es, ep, stay e fun ec => ?_, d, r⟩
    subst ec
    rw [ha] at e
    have e := Option.some.inj e
    subst e
    cases d
  obtain ⟨mc, l1, l2⟩ := free
  have mod : Mod K mg (hidT s₁.heap H) := ⟨inB, nsB hm, ⟨mb, nsB hb, hbb⟩, ⟨mc, nsB l1, l2⟩⟩
  have env : Env0 P w K mg (hidT s₁.heap H) callerA [] s₁ H := ⟨rfl, mod, fun c o e => of_hidT e, Nat.le_of_eq (hidT_size _ _), trivial, fun c hc => (List.not_mem_nil hc).elim, T.ok, .of_eq hg⟩
  refine codeAny_mono ((F _ inB (nsB hm)).go callerA [] s₁ H ⟨[.ref a], []⟩ [.ref a] [.ref a] (fun v _ => v = .bl true) (fun _ _ _ => False) gd room env (bind s₁ (.ref a)) (.cons rfl .nil) ⟨a, ns, rfl, T.sq, hl, fun _ => rfl⟩) fun r s' h => ?_
  rcases r with er | fl
  · exact h.elim
  · rcases fl with _ | _ | _ | u
    all_goals first
      | exact h.elim
      | (obtain ⟨v, H', os, bare, un, ok', rel, q⟩ := h
         have q2 : v = .bl true := q
         subst q2
         have eu : u = Value.bool true := rel
         subst eu
         refine ⟨rfl, OldK.of_keep fun c o e => ?_, os, bare⟩
         cases z : H c with
         | none => exact un.keep c o e z (fun y => (List.not_mem_nil y).elim) (fun y => (List.not_mem_nil y).elim)
         | some u =>
           obtain ⟨rfl, rfl⟩ := T.one c u z
           rw [ha] at e
           have e := Option.some.inj e
           subst e
           exact (ok' _ _ (un.frzs _ _ _ z)).1)
end
end K47
set_option Elab.async false
set_option linter.all false
set_option maxRecDepth 100000
set_option maxHeartbeats 0
namespace K47
open PySem PySem.Spec PyProof.Rows L2
/-! ### the head -/
def defOne (p : Str × Stmt) : He.DefD := ⟨(p.1, none), p.1, p.1, defArgs p.2, defBody p.2, defScope p.2, [], []⟩
def defAll : List He.DefD := tabD.map defOne
def facAll : List He.Fa := tabD.map (fun p => He.Fa.glo p.1) ++ frees.map He.Fa.free
def others : List Str := (tabD.take 63).map (·.1)
abbrev Rw : PySem.W.OpenRow := PySem.W.OpenLaw.row PySem.Challenge.rw_hownarrow_k47_whole_rows_above_rows
abbrev hook47 : PySem.W.Hook := He.hookD 4 facAll defAll
def look47 (s : PySem.W.SharedT) : He.AlD := He.obsDG 4 facAll defAll (HandSHeadRun.getT s)
theorem look_eq (s : PySem.W.SharedT) : look47 s = hook47.obs s.abs := He.obsDG_eq (HandSHeadRun.getT_eq s)
theorem run47 (w : World) : HandSHeadRun.RunEq Rw (PySem.W.view Rw.prog [72]) hook47 look47 4000 others w := by
  intro os
  kernel_rfl
theorem g47 {K : PySem.W.Frag} {h : Heap} {mg : Str → Option Value} (X : K.In h) (G : h.Ns mainGlobals mg) (c : He.SaysD facAll defAll K) : G47 K mg := by
  refine ⟨fun i p e => ?_, fun i x e => ?_⟩
  · have hi := (List.getElem?_eq_some_iff.mp e).1
    obtain ⟨fd, F⟩ := c.def_ i (d := defOne p) (by unfold defAll; rw [List.getElem?_map, e]; rfl)
    have z := He.glo_ok X G (x := p.1) (c.fact i (f := .glo p.1) (by
      unfold facAll
      rw [List.getElem?_append_left (by rw [List.length_map]; exact hi), List.getElem?_map, e]
      rfl))
    exact ⟨_, fd, F, z⟩
  · refine He.free_ok X G (x := x) (c.fact (tabD.length + i) (f := .free x) ?_)
    unfold facAll
    rw [List.getElem?_append_right (by rw [List.length_map]; omega), List.length_map, Nat.add_sub_cancel_left, List.getElem?_map, e]
    rfl
end K47
set_option Elab.async false
set_option linter.all false
set_option maxRecDepth 100000
set_option maxHeartbeats 0
namespace K47
open PySem PySem.Spec PyProof.Rows L2
/-- the law's call, the facts of the head given -/
theorem walk47 {q : Program} {loose : List Str} {XP : (Str → Option Value) → Heap → Prop} {d : DefRec} (no : d.params.defaults = []) (nm : d.name = "law") :
    PySem.W.WalkO q loose XP hook47.says (PySem.W.OpenLaw.row PySem.Challenge.rw_hownarrow_k47_whole_rows_above_rows).toRowW d [] (fun f vs => PySem.call f vs) := by
  apply Att.attach_call (n := 63) rfl no
  intro w t0 t1 gm bm fad ob p1 p2 p3 adr us nums gr ys g1 g2 g3 g4 g5 g6 g7 g8
  obtain ⟨K, inK, says⟩ := ys
  have G := g47 inK gr.T.g says
  obtain ⟨f, fd, D, e⟩ := G.at 63 "law" s_law
  rw [nm] at g4
  have same : f = fad := by
    rw [g4] at e
    injection (Option.some.inj e) with z
    exact z.symm
  subst same
  have bb := FunD.bindsA (ps := ["_law_script"]) D fun _ _ _ _ _ _ us hl => match us, hl with | [_], _ => rfl
  exact end_call (k := 10) inK gr.T.g gr.T.b gr.T.builtins gr.T.nolimit g8 g5 g6 (by omega) ⟨rfl, by decide, by decide⟩ rfl (fun base h1 h2 => g_law G D) fun s u => bb s [u] rfl
end K47
open PySem PySem.W PySem.Calls PyProof.Rows
theorem PySem.Challenge.cw_hownarrow_k47_whole_rows_above_rows_holds : PySem.Challenge.rw_hownarrow_k47_whole_rows_above_rows.Holds := by
  w_on; o_law
  apply HandSHeadRun.head_any (r := K47.Rw) (q := view K47.Rw.prog [72]) (H := K47.hook47) (ob := K47.look47) (M := 4000) (loose := K47.others) (d := HandSHeadRun.topDef K47.Rw.prog 72) (kwd := []) K47.look_eq
  · kernel_rfl
  · intro s
    kernel_rfl
  · exact K47.run47
  · kernel_rfl
  · kernel_rfl
  · kernel_rfl
  · rfl
  · first | assumption | decide +kernel
  · decide +kernel
  · exact ⟨rfl, rfl, rfl, rfl, rfl, by decide +kernel⟩
  · w_witness2
  · exact K47.walk47 (by kernel_rfl) (by kernel_rfl)
