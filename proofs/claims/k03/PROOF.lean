import PyProof.Rows.All
import Wide.All
import OpenK.AllK
import Wide.FinOn
import HandS.ForMost
import HandS.Defaults
import HandS.Wide
import HandS.Gcd
import HandS.EndBits
import HandS.RaiseMore
import HandS.TupAny
import HandS.TupMul
import KE.DataEq
import HandS.Codes
import PySem.Challenge.RW_replycuts_k03_fractions
set_option Elab.async false
set_option linter.all false
set_option maxRecDepth 100000
set_option maxHeartbeats 4000000
set_option exponentiation.threshold 10000
/-! RD: deep data over the hand layer. What an expression comes to is told as plain data; the heap is hidden. -/
namespace RD
open PySem PySem.Spec PyProof.Rows L2

/-- plain data of any depth -/
inductive D where
  | non
  | bl (b : Bool)
  | int (i : Int)
  | str (x : Str)
  | lst (xs : List D)
  | tup (xs : List D)
  | dct (kvs : List (Key × D))
  | obj (C : Addr) (fs : List (Str × D))
  | raw (v : V)

/-- a written tuple -/
def KT (K : PySem.W.Frag) (a : Addr) (xs : List V) : Prop :=
  ∃ (o : Obj) (its : Array Value) (n : Nat), K.lookup a = some o ∧ o.cls = .type "tuple" ∧ o.data = .seq its n ∧ its.size ≤ sizeLine ∧ Vals xs its.toList

mutual
/-- the value stands for the datum; M: the addresses that may still change, none of which is within it -/
inductive Rep (K : PySem.W.Frag) (M : Addr → Prop) (H : Hp) : V → D → Prop
  | non : Rep K M H .non .non
  | bl (b : Bool) : Rep K M H (.bl b) (.bl b)
  | int (i : Int) : Rep K M H (.int i) (.int i)
  | str (x : Str) : Rep K M H (.str x) (.str x)
  | lst {a : Addr} {xs : List V} {ds : List D} : ¬ M a → H a = some (.lst xs) → RepAll K M H xs ds → Rep K M H (.ref a) (.lst ds)
  | tup {a : Addr} {xs : List V} {ds : List D} : ((¬ M a ∧ Rd H a (.tup xs)) ∨ KT K a xs) → RepAll K M H xs ds → Rep K M H (.ref a) (.tup ds)
  | dct {a : Addr} {xs : List (Key × V)} {ds : List (Key × D)} : ¬ M a → H a = some (.dK xs) → RepKV K M H xs ds → Rep K M H (.ref a) (.dct ds)
  | obj {a C dx : Addr} {fs : List (Str × V)} {ds : List (Str × D)} : ¬ M a → H a = some (.ins C dx fs) → RepF K M H fs ds → Rep K M H (.ref a) (.obj C ds)
  | raw (v : V) : Rep K M H v (.raw v)
inductive RepAll (K : PySem.W.Frag) (M : Addr → Prop) (H : Hp) : List V → List D → Prop
  | nil : RepAll K M H [] []
  | cons {v : V} {vs : List V} {d : D} {ds : List D} : Rep K M H v d → RepAll K M H vs ds → RepAll K M H (v :: vs) (d :: ds)
inductive RepKV (K : PySem.W.Frag) (M : Addr → Prop) (H : Hp) : List (Key × V) → List (Key × D) → Prop
  | nil : RepKV K M H [] []
  | cons {k : Key} {v : V} {vs : List (Key × V)} {d : D} {ds : List (Key × D)} : Rep K M H v d → RepKV K M H vs ds → RepKV K M H ((k, v) :: vs) ((k, d) :: ds)
inductive RepF (K : PySem.W.Frag) (M : Addr → Prop) (H : Hp) : List (Str × V) → List (Str × D) → Prop
  | nil : RepF K M H [] []
  | cons {k : Str} {v : V} {vs : List (Str × V)} {d : D} {ds : List (Str × D)} : Rep K M H v d → RepF K M H vs ds → RepF K M H ((k, v) :: vs) ((k, d) :: ds)
end

section
variable {K : PySem.W.Frag} {M M' : Addr → Prop} {H H' : Hp}
theorem rd_mono {a : Addr} {u : HO} (h : ∀ a o, ¬ M a → H a = some o → H' a = some o ∧ ¬ M' a) (m : ¬ M a) (r : Rd H a u) : ¬ M' a ∧ Rd H' a u := by
  rcases r with r | ⟨o, r⟩
  · obtain ⟨e, m'⟩ := h a _ m r
    exact ⟨m', .inl e⟩
  · obtain ⟨e, m'⟩ := h a _ m r
    exact ⟨m', .inr ⟨o, e⟩⟩
mutual
theorem Rep.mono (h : ∀ a o, ¬ M a → H a = some o → H' a = some o ∧ ¬ M' a) : ∀ (d : D) {v : V}, Rep K M H v d → Rep K M' H' v d
  | .non, _, r => by cases r; exact .non
  | .bl b, _, r => by cases r; exact .bl b
  | .int i, _, r => by cases r; exact .int i
  | .str x, _, r => by cases r; exact .str x
  | .lst ds, _, r => by
    cases r with
    | lst m q ra =>
      obtain ⟨e, m'⟩ := h _ _ m q
      exact .lst m' e (RepAll.mono h ds ra)
  | .tup ds, _, r => by
    cases r with
    | tup q ra =>
      refine .tup ?_ (RepAll.mono h ds ra)
      rcases q with ⟨m, q⟩ | q
      · exact .inl (rd_mono h m q)
      · exact .inr q
  | .dct ds, _, r => by
    cases r with
    | dct m q ra =>
      obtain ⟨e, m'⟩ := h _ _ m q
      exact .dct m' e (RepKV.mono h ds ra)
  | .obj C ds, _, r => by
    cases r with
    | obj m q ra =>
      obtain ⟨e, m'⟩ := h _ _ m q
      exact .obj m' e (RepF.mono h ds ra)
  | .raw v, _, r => by cases r; exact .raw v
theorem RepAll.mono (h : ∀ a o, ¬ M a → H a = some o → H' a = some o ∧ ¬ M' a) : ∀ (ds : List D) {vs : List V}, RepAll K M H vs ds → RepAll K M' H' vs ds
  | [], _, r => by cases r; exact .nil
  | d :: ds, _, r => by
    cases r with
    | cons r1 r2 => exact .cons (Rep.mono h d r1) (RepAll.mono h ds r2)
theorem RepKV.mono (h : ∀ a o, ¬ M a → H a = some o → H' a = some o ∧ ¬ M' a) : ∀ (ds : List (Key × D)) {vs : List (Key × V)}, RepKV K M H vs ds → RepKV K M' H' vs ds
  | [], _, r => by cases r; exact .nil
  | (k, d) :: ds, _, r => by
    cases r with
    | cons r1 r2 => exact .cons (Rep.mono h d r1) (RepKV.mono h ds r2)
theorem RepF.mono (h : ∀ a o, ¬ M a → H a = some o → H' a = some o ∧ ¬ M' a) : ∀ (ds : List (Str × D)) {vs : List (Str × V)}, RepF K M H vs ds → RepF K M' H' vs ds
  | [], _, r => by cases r; exact .nil
  | (k, d) :: ds, _, r => by
    cases r with
    | cons r1 r2 => exact .cons (Rep.mono h d r1) (RepF.mono h ds r2)
end
theorem RepAll.length : ∀ {vs : List V} {ds : List D}, RepAll K M H vs ds → vs.length = ds.length
  | _, _, .nil => rfl
  | _, _, .cons _ t => congrArg Nat.succ (RepAll.length t)
theorem RepAll.get : ∀ {vs : List V} {ds : List D} {i : Nat} {d : D}, RepAll K M H vs ds → ds[i]? = some d → ∃ v, vs[i]? = some v ∧ Rep K M H v d
  | _, _, _, _, .nil, e => by simp at e
  | _, _, 0, _, .cons r _, e => by simp at e; subst e; exact ⟨_, rfl, r⟩
  | _, _, i + 1, d, .cons _ t, e => by
    obtain ⟨v, h1, h2⟩ := RepAll.get (i := i) (d := d) t (by simpa using e)
    exact ⟨v, by simpa using h1, h2⟩
theorem RepAll.get' : ∀ {vs : List V} {ds : List D} {i : Nat} {v : V}, RepAll K M H vs ds → vs[i]? = some v → ∃ d, ds[i]? = some d ∧ Rep K M H v d
  | _, _, _, _, .nil, e => by simp at e
  | _, _, 0, _, .cons r _, e => by simp at e; subst e; exact ⟨_, rfl, r⟩
  | _, _, i + 1, v, .cons _ t, e => by
    obtain ⟨d, h1, h2⟩ := RepAll.get' (i := i) (v := v) t (by simpa using e)
    exact ⟨d, by simpa using h1, h2⟩
theorem RepAll.append : ∀ {vs ws : List V} {ds es : List D}, RepAll K M H vs ds → RepAll K M H ws es → RepAll K M H (vs ++ ws) (ds ++ es)
  | _, _, _, _, .nil, s => s
  | _, _, _, _, .cons r t, s => .cons r (RepAll.append t s)
theorem RepAll.take : ∀ {vs : List V} {ds : List D} (n : Nat), RepAll K M H vs ds → RepAll K M H (vs.take n) (ds.take n)
  | _, _, 0, _ => .nil
  | _, _, _ + 1, .nil => .nil
  | _, _, n + 1, .cons r t => .cons r (RepAll.take n t)
theorem RepAll.drop : ∀ {vs : List V} {ds : List D} (n : Nat), RepAll K M H vs ds → RepAll K M H (vs.drop n) (ds.drop n)
  | _, _, 0, r => r
  | _, _, _ + 1, .nil => .nil
  | _, _, n + 1, .cons _ t => RepAll.drop n t
theorem RepAll.set {v : V} {d : D} (r : Rep K M H v d) : ∀ {vs : List V} {ds : List D} (i : Nat), RepAll K M H vs ds → RepAll K M H (vs.set i v) (ds.set i d)
  | _, _, _, .nil => .nil
  | _, _, 0, .cons _ t => .cons r t
  | _, _, i + 1, .cons q t => .cons q (RepAll.set r i t)
theorem RepAll.ints : ∀ (ns : List Int), RepAll K M H (ns.map V.int) (ns.map D.int)
  | [] => .nil
  | n :: ns => .cons (.int n) (RepAll.ints ns)
end

/-! ### a def's names -/
/-- what a name holds: a datum; a list (a dict) of its own at p, which may change -/
inductive S where
  | dat (d : D)
  | own (p : Addr) (ds : List D)
  | ownK (p : Addr) (kvs : List (Key × D))
abbrev En := List (Option S)
def addrs : Option S → List Addr
  | some (.own p _) => [p]
  | some (.ownK p _) => [p]
  | _ => []
def owns : En → List Addr
  | [] => []
  | s :: ρ => addrs s ++ owns ρ
/-- what stands around: W the addresses that are others', H0 how they stood; pen: the drawing pen and its cells -/
structure Amb where
  W : List Addr
  H0 : Hp
  pen : Option (Addr × Addr)
def Mt (A : Amb) (ρ : En) : Addr → Prop := fun a => a ∈ owns ρ ∨ a ∈ A.W
def SlotR (K : PySem.W.Frag) (M : Addr → Prop) (H : Hp) : Option S → Option V → Prop
  | none, _ => True
  | some (.dat d), some v => Rep K M H v d
  | some (.own p ds), some v => v = .ref p ∧ ∃ vs, H p = some (.lst vs) ∧ RepAll K M H vs ds
  | some (.ownK p ds), some v => v = .ref p ∧ ∃ vs, H p = some (.dK vs) ∧ RepKV K M H vs ds
  | some _, none => False
/-- a pen at p, its cells at c: n draws are left -/
def PenAt (p c : Addr) (n : Nat) (H : Hp) : Prop := ∃ (at_ rest : Int) (ns : List Int), H p = some (.lst [.ref c, .int at_, .int rest]) ∧ H c = some (.lst (ns.map V.int)) ∧
  0 ≤ at_ ∧ at_ + n ≤ 1000000 ∧ 0 ≤ rest ∧ rest.natAbs < 2 ^ 1048600 ∧ ns.length ≤ 63 ∧ ∀ x ∈ ns, x.natAbs < 2 ^ 1048576
def Amb.isPen (A : Amb) (a : Addr) : Prop := match A.pen with
  | some (p, _) => a = p
  | none => False
def J (A : Amb) (n : Nat) (H : Hp) : Prop := (∀ a ∈ A.W, ¬ A.isPen a → H a = A.H0 a) ∧ (∀ a ∈ A.W, H a ≠ none) ∧ match A.pen with
  | none => True
  | some (p, c) => p ∈ A.W ∧ c ∈ A.W ∧ p ≠ c ∧ PenAt p c n H
/-- what was there and is no one's to change stands as it stood -/
def Keeps (A : Amb) (ρ : En) (H : Hp) (ρ' : En) (H' : Hp) : Prop := ∀ a o, a ∉ owns ρ → ¬ A.isPen a → H a = some o → H' a = some o ∧ a ∉ owns ρ'
theorem Keeps.refl {A : Amb} {ρ : En} {H : Hp} : Keeps A ρ H ρ H := fun _ _ h _ e => ⟨e, h⟩
theorem Keeps.trans {A : Amb} {ρ ρ1 ρ2 : En} {H H1 H2 : Hp} (a : Keeps A ρ H ρ1 H1) (b : Keeps A ρ1 H1 ρ2 H2) : Keeps A ρ H ρ2 H2 := fun x o h1 h2 e => by
  obtain ⟨e1, h3⟩ := a x o h1 h2 e
  exact b x o h3 h2 e1
structure Sat (K : PySem.W.Frag) (A : Amb) (ρ : En) (σ : L2.St) (H : Hp) : Prop where
  sl : Paired (SlotR K (Mt A ρ) H) ρ σ
  nd : (owns ρ ++ A.W).Nodup
structure Here (K : PySem.W.Frag) (A : Amb) (ρ0 : En) (H0 : Hp) (n : Nat) (ρ : En) (σ : L2.St) (H : Hp) : Prop where
  kp : Keeps A ρ0 H0 ρ H
  j : J A n H
  sat : Sat K A ρ σ H

theorem mt_pen {A : Amb} {n : Nat} {H : Hp} {ρ : En} {a : Addr} (j : J A n H) (m : ¬ Mt A ρ a) : a ∉ owns ρ ∧ ¬ A.isPen a := by
  refine ⟨fun z => m (.inl z), fun z => ?_⟩
  unfold Amb.isPen at z
  obtain ⟨_, _, q⟩ := j
  cases hp : A.pen with
  | none => rw [hp] at z; exact z
  | some pc =>
    obtain ⟨p, c⟩ := pc
    rw [hp] at z q
    exact m (.inr (by rw [show a = p from z]; exact q.1))
theorem Keeps.up {A : Amb} {n : Nat} {ρ ρ' : En} {H H' : Hp} (j : J A n H) (k : Keeps A ρ H ρ' H') : ∀ a o, ¬ Mt A ρ a → H a = some o → H' a = some o ∧ ¬ Mt A ρ' a := fun a o m e => by
  obtain ⟨h1, h2⟩ := mt_pen j m
  obtain ⟨e1, h3⟩ := k a o h1 h2 e
  refine ⟨e1, fun z => ?_⟩
  rcases z with z | z
  · exact h3 z
  · exact m (.inr z)
/-- data stay -/
theorem Rep.up {K : PySem.W.Frag} {A : Amb} {n : Nat} {ρ ρ' : En} {H H' : Hp} {v : V} {d : D} (j : J A n H) (k : Keeps A ρ H ρ' H') (r : Rep K (Mt A ρ) H v d) : Rep K (Mt A ρ') H' v d := Rep.mono (k.up j) d r
theorem RepAll.up {K : PySem.W.Frag} {A : Amb} {n : Nat} {ρ ρ' : En} {H H' : Hp} {v : List V} {d : List D} (j : J A n H) (k : Keeps A ρ H ρ' H') (r : RepAll K (Mt A ρ) H v d) : RepAll K (Mt A ρ') H' v d := RepAll.mono (k.up j) d r

/-! ### a new object -/
theorem Keeps.alloc {A : Amb} {ρ : En} {H : Hp} {p : Addr} {o : HO} (hp : H p = none) : Keeps A ρ H ρ (upd H p o) := fun a u h _ e => ⟨by rw [upd_ne (ne_of_none e hp)]; exact e, h⟩
theorem J.alloc {A : Amb} {n : Nat} {H : Hp} {p : Addr} {o : HO} (j : J A n H) (hp : H p = none) : J A n (upd H p o) := by
  obtain ⟨j1, j2, j3⟩ := j
  have ne : ∀ a ∈ A.W, a ≠ p := fun a ha z => j2 a ha (by rw [z]; exact hp)
  refine ⟨fun a ha hn => by rw [upd_ne (ne a ha)]; exact j1 a ha hn, fun a ha => by rw [upd_ne (ne a ha)]; exact j2 a ha, ?_⟩
  cases hq : A.pen with
  | none => trivial
  | some pc =>
    obtain ⟨q, c⟩ := pc
    rw [hq] at j3
    obtain ⟨h1, h2, h0, at_, rest, ns, e1, e2, r⟩ := j3
    exact ⟨h1, h2, h0, at_, rest, ns, by rw [upd_ne (ne q h1)]; exact e1, by rw [upd_ne (ne c h2)]; exact e2, r⟩
theorem slotR_mono {K : PySem.W.Frag} {M : Addr → Prop} {H H' : Hp} (h : ∀ a o, H a = some o → H' a = some o) : ∀ {s : Option S} {v : Option V}, SlotR K M H s v → SlotR K M H' s v := fun {s v} r => by
  have h' : ∀ a o, ¬ M a → H a = some o → H' a = some o ∧ ¬ M a := fun a o m e => ⟨h a o e, m⟩
  cases s with
  | none => cases v <;> trivial
  | some s =>
    cases v with
    | none => cases s <;> exact r
    | some v =>
      cases s with
      | dat d => exact Rep.mono h' d r
      | own p ds =>
        obtain ⟨e, vs, e1, e2⟩ := r
        exact ⟨e, vs, h _ _ e1, RepAll.mono h' ds e2⟩
      | ownK p ds =>
        obtain ⟨e, vs, e1, e2⟩ := r
        exact ⟨e, vs, h _ _ e1, RepKV.mono h' ds e2⟩
theorem paired_mono {α β : Type} {F G : α → β → Prop} (h : ∀ a b, F a b → G a b) : ∀ {l : List α} {m : List β}, Paired F l m → Paired G l m
  | _, _, .nil => .nil
  | _, _, .cons r t => .cons (h _ _ r) (paired_mono h t)
theorem Sat.alloc {K : PySem.W.Frag} {A : Amb} {ρ : En} {σ : L2.St} {H : Hp} {p : Addr} {o : HO} (s : Sat K A ρ σ H) (hp : H p = none) : Sat K A ρ σ (upd H p o) :=
  ⟨paired_mono (fun _ _ r => slotR_mono (fun a u e => by rw [upd_ne (ne_of_none e hp)]; exact e) r) s.sl, s.nd⟩
theorem Here.alloc {K : PySem.W.Frag} {A : Amb} {ρ0 : En} {H0 : Hp} {n : Nat} {ρ : En} {σ : L2.St} {H : Hp} {p : Addr} {o : HO} (h : Here K A ρ0 H0 n ρ σ H) (hp : H p = none) : Here K A ρ0 H0 n ρ σ (upd H p o) :=
  ⟨h.kp.trans (.alloc hp), h.j.alloc hp, h.sat.alloc hp⟩
/-- a new address is no one's -/
theorem mt_new {A : Amb} {K : PySem.W.Frag} {n : Nat} {ρ : En} {σ : L2.St} {H : Hp} {p : Addr} (j : J A n H) (s : Sat K A ρ σ H) (hp : H p = none) : ¬ Mt A ρ p := by
  intro z
  rcases z with z | z
  · have : ∀ {ρ' : En} {σ' : L2.St}, Paired (SlotR K (Mt A ρ) H) ρ' σ' → p ∉ owns ρ' := by
      intro ρ' σ' r
      induction r with
      | nil => simp [owns]
      | @cons a b l m r t ih =>
        intro hm
        simp only [owns, List.mem_append] at hm
        rcases hm with hm | hm
        · cases a with
          | none => simp [addrs] at hm
          | some s =>
            cases b with
            | none => cases s <;> exact r
            | some v =>
              cases s with
              | dat d => simp [addrs] at hm
              | own q ds =>
                simp [addrs] at hm
                subst hm
                obtain ⟨_, vs, e, _⟩ := r
                rw [hp] at e; cases e
              | ownK q ds =>
                simp [addrs] at hm
                subst hm
                obtain ⟨_, vs, e, _⟩ := r
                rw [hp] at e; cases e
        · exact ih hm
    exact this s.sl z
  · exact j.2.1 p z hp
theorem Here.new {K : PySem.W.Frag} {A : Amb} {ρ0 : En} {H0 : Hp} {n : Nat} {ρ : En} {σ : L2.St} {H : Hp} {p : Addr} (h : Here K A ρ0 H0 n ρ σ H) (hp : H p = none) : ¬ Mt A ρ p := mt_new h.j h.sat hp
theorem Rep.alloc {K : PySem.W.Frag} {M : Addr → Prop} {H : Hp} {p : Addr} {o : HO} {v : V} {d : D} (hp : H p = none) (r : Rep K M H v d) : Rep K M (upd H p o) v d :=
  Rep.mono (fun a u m e => ⟨by rw [upd_ne (ne_of_none e hp)]; exact e, m⟩) d r
theorem RepAll.alloc {K : PySem.W.Frag} {M : Addr → Prop} {H : Hp} {p : Addr} {o : HO} {v : List V} {d : List D} (hp : H p = none) (r : RepAll K M H v d) : RepAll K M (upd H p o) v d :=
  RepAll.mono (fun a u m e => ⟨by rw [upd_ne (ne_of_none e hp)]; exact e, m⟩) d r
theorem RepKV.alloc {K : PySem.W.Frag} {M : Addr → Prop} {H : Hp} {p : Addr} {o : HO} {v : List (Key × V)} {d : List (Key × D)} (hp : H p = none) (r : RepKV K M H v d) : RepKV K M (upd H p o) v d :=
  RepKV.mono (fun a u m e => ⟨by rw [upd_ne (ne_of_none e hp)]; exact e, m⟩) d r
end RD

/-! RD1: the judgements. WE: an expression, by plain data; WA: arguments; WB: a test; WF: an expression that makes a list of its own; WI: what is walked; WG: a target; WS: statements. -/
namespace RD
open PySem PySem.Spec PyProof.Rows L2

/-! ### the strongest readings -/
def canE (X : Cx) (e : Expr) : TE := fun σ H Q => ∀ (pins : List (Addr × Obj)) (s : Shared), Inv X pins σ H s → wpAny (model X.prog X.w) X.A (eval e X.env) (EP X pins σ Q) X.xe s
def canT (X : Cx) (e : Expr) : TT := fun σ H Q => ∀ (pins : List (Addr × Obj)) (s : Shared), Inv X pins σ H s → wpAny (model X.prog X.w) X.A (isTrue e X.env (eval e X.env)) (TP X pins σ Q) X.xe s
def canW (X : Cx) (e : Expr) : TT := fun σ H Q => ∀ (whole : Sem Value) (pins : List (Addr × Obj)) (s : Shared), Inv X pins σ H s → wpAny (model X.prog X.w) X.A (isTrue e X.env whole) (TP X pins σ Q) X.xe s
def canA (X : Cx) (es : List Expr) : TA := fun σ H Q => ∀ (pos : Pos) (pins : List (Addr × Obj)) (s : Shared), Inv X pins σ H s → wpAny (model X.prog X.w) X.A (spliced (backTo pos (starEach es X.env))) (AP X pins σ Q) X.xe s
def canK (X : Cx) (kws : List Keyword) : TA := fun σ H Q => ∀ (pos : Pos) (pins : List (Addr × Obj)) (s : Shared), Inv X pins σ H s → wpAny (model X.prog X.w) X.A (evalAll ((backToKw pos (keywordEach kws X.env)).map (·.2))) (AP X pins σ Q) X.xe s
def canS (X : Cx) (st : Stmt) : TS := fun D σ H => ∀ (pins : List (Addr × Obj)) (s : Shared), Inv X pins σ H s → wpAny (model X.prog X.w) X.A (exec st X.env) (SP X pins D) X.xe s
def canSs (X : Cx) (st : List Stmt) : TS := fun D σ H => ∀ (pins : List (Addr × Obj)) (s : Shared), Inv X pins σ H s → wpAny (model X.prog X.w) X.A (execs st X.env) (SP X pins D) X.xe s
def canG (X : Cx) (tg : Expr) : TG := fun v σ H Q => ∀ (pins : List (Addr × Obj)) (s : Shared) (u : Value), Inv X pins σ H s → RelV v u →
    wpAny (model X.prog X.w) X.A (assign tg X.env u) (fun _ s' => ∃ σ' H', Inv X pins σ' H' s' ∧ Q σ' H') X.xe s
def canI (X : Cx) (tg iter : Expr) : TI := fun σ H R => ∀ (pins : List (Addr × Obj)) (s : Shared), Inv X pins σ H s →
    wpAny (model X.prog X.w) X.A (eval iter X.env) (fun v s1 => wpAny (model X.prog X.w) X.A (pyIter v) (PIE X pins σ tg R) X.xe s1) X.xe s
section
variable {X : Cx}
theorem pcan {e : Expr} : PE X e (canE X e) := ⟨fun pins s _ _ _ I h => h pins s I⟩
theorem tcan {e : Expr} : PT X e (canT X e) := ⟨fun pins s _ _ _ I h => h pins s I⟩
theorem wcan {e : Expr} : PW X e (canW X e) := ⟨fun whole pins s _ _ _ I h => h whole pins s I⟩
theorem acan {es : List Expr} : PA X es (canA X es) := ⟨fun pos pins s _ _ _ I h => h pos pins s I⟩
theorem kcan {es : List Keyword} : PK X es (canK X es) := ⟨fun pos pins s _ _ _ I h => h pos pins s I⟩
theorem scan {st : Stmt} : PS X st (canS X st) := ⟨fun pins s _ _ _ I h => h pins s I⟩
theorem sscan {st : List Stmt} : PSs X st (canSs X st) := ⟨fun pins s _ _ _ I h => h pins s I⟩
theorem gcan {tg : Expr} : PG X tg (canG X tg) := ⟨fun pins s _ _ _ u _ I r h => h pins s u I r⟩
theorem icanL {tg iter : Expr} : PI X tg iter (canI X tg iter) := ⟨fun pins s _ _ _ I h => h pins s I⟩
theorem canE.of {e : Expr} {t : TE} (p : PE X e t) {σ : L2.St} {H : Hp} {Q : VK} (h : t σ H Q) : canE X e σ H Q := fun pins s I => p.run pins s σ H Q I h
theorem canT.of {e : Expr} {t : TT} (p : PT X e t) {σ : L2.St} {H : Hp} {Q : Bool → Hp → Prop} (h : t σ H Q) : canT X e σ H Q := fun pins s I => p.run pins s σ H Q I h
theorem canW.of {e : Expr} {t : TT} (p : PW X e t) {σ : L2.St} {H : Hp} {Q : Bool → Hp → Prop} (h : t σ H Q) : canW X e σ H Q := fun whole pins s I => p.run whole pins s σ H Q I h
theorem canA.of {e : List Expr} {t : TA} (p : PA X e t) {σ : L2.St} {H : Hp} {Q : List V → Hp → Prop} (h : t σ H Q) : canA X e σ H Q := fun pos pins s I => p.run pos pins s σ H Q I h
theorem canK.of {e : List Keyword} {t : TA} (p : PK X e t) {σ : L2.St} {H : Hp} {Q : List V → Hp → Prop} (h : t σ H Q) : canK X e σ H Q := fun pos pins s I => p.run pos pins s σ H Q I h
theorem canS.of {e : Stmt} {t : TS} (p : PS X e t) {σ : L2.St} {H : Hp} {D : Ends} (h : t D σ H) : canS X e D σ H := fun pins s I => p.run pins s σ H D I h
theorem canSs.of {e : List Stmt} {t : TS} (p : PSs X e t) {σ : L2.St} {H : Hp} {D : Ends} (h : t D σ H) : canSs X e D σ H := fun pins s I => p.run pins s σ H D I h
theorem canG.of {e : Expr} {t : TG} (p : PG X e t) {v : V} {σ : L2.St} {H : Hp} {Q : L2.St → Hp → Prop} (h : t v σ H Q) : canG X e v σ H Q := fun pins s u I r => p.run pins s σ H v u Q I r h
theorem canI.of {tg e : Expr} {t : TI} (p : PI X tg e t) {σ : L2.St} {H : Hp} {Q : It → Hp → Prop} (h : t σ H Q) : canI X tg e σ H Q := fun pins s I => p.run pins s σ H Q I h
end

/-! ### the judgements -/
def WE (X : Cx) (A : Amb) (e : Expr) (ρ : En) (n : Nat) (k : Nat → En → D → Prop) : Prop :=
  ∀ ρ0 H0 σ H, Here X.K A ρ0 H0 n ρ σ H → ∀ Q : VK, (∀ n' ρ' d v H', k n' ρ' d → Here X.K A ρ0 H0 n' ρ' σ H' → Keeps A ρ H ρ' H' → Rep X.K (Mt A ρ') H' v d → Q v H') → canE X e σ H Q
/-- a list of its own, at p, just made -/
structure Own1 (K : PySem.W.Frag) (A : Amb) (ρ0 : En) (H0 : Hp) (ρ : En) (σ : L2.St) (H : Hp) (p : Addr) (vs : List V) (ds : List D) : Prop where
  ob : H p = some (.lst vs)
  nm : ¬ Mt A ρ p
  nw : ∀ o, p ∉ owns ρ0 → ¬ A.isPen p → H0 p ≠ some o
  sl : Paired (SlotR K (fun a => Mt A ρ a ∨ a = p) H) ρ σ
  rp : RepAll K (fun a => Mt A ρ a ∨ a = p) H vs ds
def WF (X : Cx) (A : Amb) (e : Expr) (ρ : En) (n : Nat) (k : Nat → En → List D → Prop) : Prop :=
  ∀ ρ0 H0 σ H, Here X.K A ρ0 H0 n ρ σ H → ∀ Q : VK, (∀ n' ρ' ds p vs H', k n' ρ' ds → Here X.K A ρ0 H0 n' ρ' σ H' → Keeps A ρ H ρ' H' → Own1 X.K A ρ0 H0 ρ' σ H' p vs ds → Q (.ref p) H') → canE X e σ H Q
def WA (X : Cx) (A : Amb) (es : List Expr) (ρ : En) (n : Nat) (k : Nat → En → List D → Prop) : Prop :=
  ∀ ρ0 H0 σ H, Here X.K A ρ0 H0 n ρ σ H → ∀ Q : List V → Hp → Prop, (∀ n' ρ' ds vs H', k n' ρ' ds → Here X.K A ρ0 H0 n' ρ' σ H' → Keeps A ρ H ρ' H' → RepAll X.K (Mt A ρ') H' vs ds → Q vs H') → canA X es σ H Q
def WK (X : Cx) (A : Amb) (es : List Keyword) (ρ : En) (n : Nat) (k : Nat → En → List D → Prop) : Prop :=
  ∀ ρ0 H0 σ H, Here X.K A ρ0 H0 n ρ σ H → ∀ Q : List V → Hp → Prop, (∀ n' ρ' ds vs H', k n' ρ' ds → Here X.K A ρ0 H0 n' ρ' σ H' → Keeps A ρ H ρ' H' → RepAll X.K (Mt A ρ') H' vs ds → Q vs H') → canK X es σ H Q
def WB (X : Cx) (A : Amb) (e : Expr) (ρ : En) (n : Nat) (k : Nat → En → Bool → Prop) : Prop :=
  ∀ ρ0 H0 σ H, Here X.K A ρ0 H0 n ρ σ H → ∀ Q : Bool → Hp → Prop, (∀ n' ρ' b H', k n' ρ' b → Here X.K A ρ0 H0 n' ρ' σ H' → Keeps A ρ H ρ' H' → Q b H') → canT X e σ H Q
/-- the same for any whole (and, or) -/
def WW (X : Cx) (A : Amb) (e : Expr) (ρ : En) (n : Nat) (k : Nat → En → Bool → Prop) : Prop :=
  ∀ ρ0 H0 σ H, Here X.K A ρ0 H0 n ρ σ H → ∀ Q : Bool → Hp → Prop, (∀ n' ρ' b H', k n' ρ' b → Here X.K A ρ0 H0 n' ρ' σ H' → Keeps A ρ H ρ' H' → Q b H') → canW X e σ H Q
/-- what an iterator yields -/
def Src (K : PySem.W.Frag) (M : Addr → Prop) (H : Hp) (Jt : It) (ds : List D) : Prop := ∀ (M' : Addr → Prop) (H' : Hp), (∀ a o, ¬ M a → H a = some o → H' a = some o ∧ ¬ M' a) →
  (∀ i, i < ds.length → Jt.go i H') ∧ Jt.stop ds.length H' ∧ ∀ i d x H'', ds[i]? = some d → Jt.yld i H' x H'' → (∀ T, H' T = none → ¬ M' T) → (H'' = H' ∨ ∃ T o, H' T = none ∧ H'' = upd H' T o) ∧ Rep K M' H'' x d
def WI (X : Cx) (A : Amb) (tg iter : Expr) (ρ : En) (n : Nat) (k : Nat → En → List D → Prop) : Prop :=
  ∀ ρ0 H0 σ H, Here X.K A ρ0 H0 n ρ σ H → ∀ R : It → Hp → Prop, (∀ n' ρ' ds Jt H', k n' ρ' ds → Here X.K A ρ0 H0 n' ρ' σ H' → Keeps A ρ H ρ' H' → Src X.K (Mt A ρ') H' Jt ds → R Jt H') → canI X tg iter σ H R
def WG (X : Cx) (A : Amb) (tg : Expr) (d : D) (ρ : En) (n : Nat) (k : Nat → En → Prop) : Prop :=
  ∀ ρ0 H0 σ H v, Here X.K A ρ0 H0 n ρ σ H → Rep X.K (Mt A ρ) H v d → ∀ Q : L2.St → Hp → Prop, (∀ n' ρ' σ' H', k n' ρ' → Here X.K A ρ0 H0 n' ρ' σ' H' → Keeps A ρ H ρ' H' → Q σ' H') → canG X tg v σ H Q
/-- several targets -/
def canGs (X : Cx) (ts : List Expr) : TGs := fun vs σ H Q => ∀ (pins : List (Addr × Obj)) (s : Shared) (us : List Value), Inv X pins σ H s → Vals vs us →
    wpAny (model X.prog X.w) X.A (assignInOrder ((assignEach ts X.env).map (·.2)) us) (fun _ s' => ∃ σ' H', Inv X pins σ' H' s' ∧ Q σ' H') X.xe s
theorem gscan {X : Cx} {ts : List Expr} : PGs X ts (canGs X ts) := ⟨fun pins s _ _ _ us _ I r h => h pins s us I r⟩
theorem canGs.of {X : Cx} {e : List Expr} {t : TGs} (p : PGs X e t) {v : List V} {σ : L2.St} {H : Hp} {Q : L2.St → Hp → Prop} (h : t v σ H Q) : canGs X e v σ H Q := fun pins s u I r => p.run pins s σ H v u Q I r h
def WGs (X : Cx) (A : Amb) (ts : List Expr) (ds : List D) (ρ : En) (n : Nat) (k : Nat → En → Prop) : Prop :=
  ∀ ρ0 H0 σ H vs, Here X.K A ρ0 H0 n ρ σ H → RepAll X.K (Mt A ρ) H vs ds → ∀ Q : L2.St → Hp → Prop, (∀ n' ρ' σ' H', k n' ρ' → Here X.K A ρ0 H0 n' ρ' σ' H' → Keeps A ρ H ρ' H' → Q σ' H') → canGs X ts vs σ H Q
/-- what is wanted behind statements -/
structure En4 where
  nx : Nat → En → Prop
  rt : Nat → En → D → Prop
  bk : Nat → En → Prop := fun _ _ => False
  ct : Nat → En → Prop := fun _ _ => False
structure Fits (X : Cx) (A : Amb) (ρ0 : En) (H0 : Hp) (E : En4) (D : Ends) : Prop where
  nx : ∀ n ρ σ H, E.nx n ρ → Here X.K A ρ0 H0 n ρ σ H → D.nx σ H
  rt : ∀ n ρ σ H d v, E.rt n ρ d → Here X.K A ρ0 H0 n ρ σ H → Rep X.K (Mt A ρ) H v d → D.rt v H
  bk : ∀ n ρ σ H, E.bk n ρ → Here X.K A ρ0 H0 n ρ σ H → D.bk σ H
  ct : ∀ n ρ σ H, E.ct n ρ → Here X.K A ρ0 H0 n ρ σ H → D.ct σ H
def WS1 (X : Cx) (A : Amb) (st : Stmt) (ρ : En) (n : Nat) (E : En4) : Prop :=
  ∀ ρ0 H0 σ H, Here X.K A ρ0 H0 n ρ σ H → ∀ D : Ends, Fits X A ρ0 H0 E D → canS X st D σ H
def WS (X : Cx) (A : Amb) (sts : List Stmt) (ρ : En) (n : Nat) (E : En4) : Prop :=
  ∀ ρ0 H0 σ H, Here X.K A ρ0 H0 n ρ σ H → ∀ D : Ends, Fits X A ρ0 H0 E D → canSs X sts D σ H

/-! ### weakening -/
section
variable {X : Cx} {A : Amb} {ρ : En} {n : Nat} {e : Expr}
theorem WE.mono {k k' : Nat → En → D → Prop} (h : WE X A e ρ n k) (m : ∀ n ρ d, k n ρ d → k' n ρ d) : WE X A e ρ n k' := fun ρ0 H0 σ H hh Q q => h ρ0 H0 σ H hh Q fun n' ρ' d v H' kk => q n' ρ' d v H' (m _ _ _ kk)
theorem WB.mono {k k' : Nat → En → Bool → Prop} (h : WB X A e ρ n k) (m : ∀ n ρ d, k n ρ d → k' n ρ d) : WB X A e ρ n k' := fun ρ0 H0 σ H hh Q q => h ρ0 H0 σ H hh Q fun n' ρ' d H' kk => q n' ρ' d H' (m _ _ _ kk)
theorem WA.mono {es : List Expr} {k k' : Nat → En → List D → Prop} (h : WA X A es ρ n k) (m : ∀ n ρ d, k n ρ d → k' n ρ d) : WA X A es ρ n k' := fun ρ0 H0 σ H hh Q q => h ρ0 H0 σ H hh Q fun n' ρ' d v H' kk => q n' ρ' d v H' (m _ _ _ kk)
theorem WF.mono {k k' : Nat → En → List D → Prop} (h : WF X A e ρ n k) (m : ∀ n ρ d, k n ρ d → k' n ρ d) : WF X A e ρ n k' := fun ρ0 H0 σ H hh Q q => h ρ0 H0 σ H hh Q fun n' ρ' d p v H' kk => q n' ρ' d p v H' (m _ _ _ kk)
theorem Fits.mono {ρ0 : En} {H0 : Hp} {E E' : En4} {D : Ends} (f : Fits X A ρ0 H0 E D) (h1 : ∀ n ρ, E'.nx n ρ → E.nx n ρ) (h2 : ∀ n ρ d, E'.rt n ρ d → E.rt n ρ d) (h3 : ∀ n ρ, E'.bk n ρ → E.bk n ρ) (h4 : ∀ n ρ, E'.ct n ρ → E.ct n ρ) : Fits X A ρ0 H0 E' D :=
  ⟨fun n ρ σ H h => f.nx n ρ σ H (h1 _ _ h), fun n ρ σ H d v h => f.rt n ρ σ H d v (h2 _ _ _ h), fun n ρ σ H h => f.bk n ρ σ H (h3 _ _ h), fun n ρ σ H h => f.ct n ρ σ H (h4 _ _ h)⟩
theorem WS.mono {sts : List Stmt} {E E' : En4} (h : WS X A sts ρ n E) (h1 : ∀ n ρ, E.nx n ρ → E'.nx n ρ) (h2 : ∀ n ρ d, E.rt n ρ d → E'.rt n ρ d) (h3 : ∀ n ρ, E.bk n ρ → E'.bk n ρ := by intros; assumption) (h4 : ∀ n ρ, E.ct n ρ → E'.ct n ρ := by intros; assumption) : WS X A sts ρ n E' :=
  fun ρ0 H0 σ H hh D f => h ρ0 H0 σ H hh D (f.mono h1 h2 h3 h4)
/-- a list of one's own is data, too -/
theorem WF.we {k : Nat → En → D → Prop} (h : WF X A e ρ n fun n ρ ds => k n ρ (.lst ds)) : WE X A e ρ n k := by
  intro ρ0 H0 σ H hh Q q
  refine h ρ0 H0 σ H hh Q fun n' ρ' ds p vs H' kk h' kp o => q n' ρ' _ _ H' kk h' kp ?_
  exact .lst o.nm o.ob (RepAll.mono (fun a o ha ea => ⟨ea, fun z => ha (.inl z)⟩) _ o.rp)

/-! ### names, constants -/
theorem slot_get {K : PySem.W.Frag} {M : Addr → Prop} {H : Hp} : ∀ {ρ : En} {σ : L2.St} {i : Nat} {s : S}, Paired (SlotR K M H) ρ σ → ρ[i]? = some (some s) → ∃ v, σ[i]? = some (some v) ∧ SlotR K M H (some s) (some v)
  | _, _, _, _, .nil, e => by simp at e
  | _, _, 0, s, .cons (b := b) r _, e => by
    have e' := Option.some.inj (show some _ = some (some s) from e)
    subst e'
    cases b with
    | none => cases s <;> exact r.elim
    | some v => exact ⟨v, rfl, r⟩
  | _, _, i + 1, s, .cons _ t, e => by
    obtain ⟨v, h1, h2⟩ := slot_get (i := i) (s := s) t (by simpa using e)
    exact ⟨v, by simpa using h1, h2⟩
theorem we_name (i : Nat) {x : Str} {pos : Pos} {d : D} {k : Nat → En → D → Prop} (hd : ρ[i]? = some (some (.dat d))) (h : k n ρ d) (hN : X.N[i]? = some x := by rfl) (hv : Vis X.env.scope x := by first | exact Or.inl rfl | exact Or.inr (Or.inl rfl) | exact Or.inr (Or.inr rfl)) (hdb : (x == ("__debug__" : Str)) = false := by decide)
    (hcd : (x == ("__classdict__" : Str)) = false := by decide) : WE X A (.Name x pos) ρ n k := by
  intro ρ0 H0 σ H hh Q q
  obtain ⟨v, e, r⟩ := slot_get hh.sat.sl hd
  exact canE.of (pe_var hN hv hdb hcd) ⟨v, e, q n ρ d v H h hh .refl r⟩
theorem we_int {i : Int} {j pos} {k : Nat → En → D → Prop} (h : k n ρ (.int i)) : WE X A (.Constant (.int i) j pos) ρ n k := fun ρ0 H0 σ H hh Q q => canE.of pe_int (q n ρ _ _ H h hh .refl (.int i))
theorem we_bl {i : Bool} {j pos} {k : Nat → En → D → Prop} (h : k n ρ (.bl i)) : WE X A (.Constant (.bool i) j pos) ρ n k := fun ρ0 H0 σ H hh Q q => canE.of pe_bl (q n ρ _ _ H h hh .refl (.bl i))
theorem we_non {j pos} {k : Nat → En → D → Prop} (h : k n ρ .non) : WE X A (.Constant .none j pos) ρ n k := fun ρ0 H0 σ H hh Q q => canE.of pe_non (q n ρ _ _ H h hh .refl .non)
theorem we_str {i : Str} {j pos} {k : Nat → En → D → Prop} (h : k n ρ (.str i)) : WE X A (.Constant (.str i) j pos) ρ n k := fun ρ0 H0 σ H hh Q q => canE.of pe_str (q n ρ _ _ H h hh .refl (.str i))
/-- a name of the module, of a builtin, as it is -/
theorem we_glob {x : Str} {v : V} {u : Value} {pos : Pos} {k : Nat → En → D → Prop} (hm : X.mg x = some u) (r : RelV v u) (h : k n ρ (.raw v)) (hg : Gl X x := by rfl) (hd : (x == ("__debug__" : Str)) = false := by decide) : WE X A (.Name x pos) ρ n k :=
  fun ρ0 H0 σ H hh Q q => canE.of (pe_glob hg hm r hd) (q n ρ _ _ H h hh .refl (.raw v))

/-! ### operators -/
/-- an operation by values on data -/
def OpD (K : PySem.W.Frag) (A : Amb) (r : R2) (ρ : En) (x y : D) (k : D → Prop) : Prop := ∀ n σ ρ0 H0 H vx vy (Q : VK), Here K A ρ0 H0 n ρ σ H → Rep K (Mt A ρ) H vx x → Rep K (Mt A ρ) H vy y →
  (∀ d v H', k d → Here K A ρ0 H0 n ρ σ H' → Keeps A ρ H ρ H' → Rep K (Mt A ρ) H' v d → Q v H') → r vx vy H Q
def UnD (K : PySem.W.Frag) (A : Amb) (r : V → Hp → VK → Prop) (ρ : En) (x : D) (k : D → Prop) : Prop := ∀ n σ ρ0 H0 H vx (Q : VK), Here K A ρ0 H0 n ρ σ H → Rep K (Mt A ρ) H vx x →
  (∀ d v H', k d → Here K A ρ0 H0 n ρ σ H' → Keeps A ρ H ρ H' → Rep K (Mt A ρ) H' v d → Q v H') → r vx H Q
def CallD (K : PySem.W.Frag) (A : Amb) (r : List V → Hp → VK → Prop) (ρ : En) (xs : List D) (k : D → Prop) : Prop := ∀ n σ ρ0 H0 H vs (Q : VK), Here K A ρ0 H0 n ρ σ H → RepAll K (Mt A ρ) H vs xs →
  (∀ d v H', k d → Here K A ρ0 H0 n ρ σ H' → Keeps A ρ H ρ H' → Rep K (Mt A ρ) H' v d → Q v H') → r vs H Q
variable {a b c : Expr} {k : Nat → En → D → Prop} {pos : Pos}
theorem t2_can {r : R2} (h : WE X A a ρ n fun n1 ρ1 x => WE X A b ρ1 n1 fun n2 ρ2 y => OpD X.K A r ρ2 x y (k n2 ρ2)) : ∀ ρ0 H0 σ H, Here X.K A ρ0 H0 n ρ σ H → ∀ Q : VK, (∀ n' ρ' d v H', k n' ρ' d → Here X.K A ρ0 H0 n' ρ' σ H' → Keeps A ρ H ρ' H' → Rep X.K (Mt A ρ') H' v d → Q v H') →
    tOp r (canE X a) (canE X b) σ H Q := by
  intro ρ0 H0 σ H hh Q q
  refine h ρ0 H0 σ H hh _ fun n1 ρ1 x vx H1 h1 hh1 k1 r1 => ?_
  refine h1 ρ0 H0 σ H1 hh1 _ fun n2 ρ2 y vy H2 h2 hh2 k2 r2 => ?_
  exact h2 n2 σ ρ0 H0 H2 vx vy Q hh2 (r1.up hh1.j k2) r2 fun d v H' kk hh' k3 r3 => q n2 ρ2 d v H' kk hh' ((k1.trans k2).trans k3) r3
theorem we_op {op : Operator} {r : R2} (ho : OpR X (binaryOp op) r) (h : WE X A a ρ n fun n1 ρ1 x => WE X A b ρ1 n1 fun n2 ρ2 y => OpD X.K A r ρ2 x y (k n2 ρ2)) : WE X A (.BinOp a op b pos) ρ n k :=
  fun ρ0 H0 σ H hh Q q => canE.of (pe_op ho pcan pcan) (t2_can h ρ0 H0 σ H hh Q q)
theorem we_cmp {op : CmpOp} {r : R2} (ho : OpR X (compareOp op) r) (h : WE X A a ρ n fun n1 ρ1 x => WE X A b ρ1 n1 fun n2 ρ2 y => OpD X.K A r ρ2 x y (k n2 ρ2)) (hm : behindInMarks op b = false := by first | exact nomark _ | rfl) : WE X A (.Compare a [op] [b] pos) ρ n k :=
  fun ρ0 H0 σ H hh Q q => canE.of (pe_cmpR ho pcan pcan hm) (t2_can h ρ0 H0 σ H hh Q q)
theorem we_un {op : UnaryOp} {r : V → Hp → VK → Prop} (ho : UnR X (unaryOp op) r) (h : WE X A a ρ n fun n1 ρ1 x => UnD X.K A r ρ1 x (k n1 ρ1)) : WE X A (.UnaryOp op a pos) ρ n k := by
  intro ρ0 H0 σ H hh Q q
  refine canE.of (pe_un ho pcan) ?_
  refine h ρ0 H0 σ H hh _ fun n1 ρ1 x vx H1 h1 hh1 k1 r1 => ?_
  exact h1 n1 σ ρ0 H0 H1 vx Q hh1 r1 fun d v H' kk hh' k3 r3 => q n1 ρ1 d v H' kk hh' (k1.trans k3) r3
theorem we_ix {r : R2} (hr : IxR X r) (h : WE X A a ρ n fun n1 ρ1 x => WE X A b ρ1 n1 fun n2 ρ2 y => OpD X.K A r ρ2 x y (k n2 ρ2)) (hs : PlainIx b := by exact fun _ _ => rfl) : WE X A (.Subscript a b pos) ρ n k :=
  fun ρ0 H0 σ H hh Q q => canE.of (pe_ix hr pcan pcan hs) (t2_can h ρ0 H0 σ H hh Q q)
/-- two ints -/
theorem od_I0 {g : Int → Int → V} {d : Int → Int → D} {i j : Int} {k : D → Prop} (hg : ∀ (K : PySem.W.Frag) M H, Rep K M H (g i j) (d i j)) (h : k (d i j)) {K : PySem.W.Frag} : OpD K A (rI0 g) ρ (.int i) (.int j) k := by
  intro n σ ρ0 H0 H vx vy Q hh r1 r2 q
  cases r1; cases r2
  exact ⟨i, j, rfl, rfl, q _ _ H h hh .refl (hg _ _ _)⟩
theorem od_I {C : Int → Int → Prop} {g : Int → Int → V} {d : Int → Int → D} {i j : Int} {k : D → Prop} (hg : ∀ (K : PySem.W.Frag) M H, Rep K M H (g i j) (d i j)) (hc : C i j) (h : k (d i j)) {K : PySem.W.Frag} : OpD K A (rI C g) ρ (.int i) (.int j) k := by
  intro n σ ρ0 H0 H vx vy Q hh r1 r2 q
  cases r1; cases r2
  exact ⟨i, j, rfl, rfl, hc, q _ _ H h hh .refl (hg _ _ _)⟩
end
end RD

/-! RD2: rules: arguments, displays, tests, statements, loops. -/
namespace RD
open PySem PySem.Spec PyProof.Rows L2

/-! ### slots -/
theorem owns_set_dat : ∀ {ρ : En} {i : Nat} {s : Option S}, addrs s = [] → (owns (ρ.set i s)).Sublist (owns ρ)
  | [], _, _, _ => by simp [owns]
  | x :: ρ, 0, s, h => by
    show (addrs s ++ owns ρ).Sublist (addrs x ++ owns ρ)
    rw [h]
    exact List.sublist_append_right _ _
  | x :: ρ, i + 1, s, h => by
    show (addrs x ++ owns (ρ.set i s)).Sublist (addrs x ++ owns ρ)
    exact List.Sublist.append (List.Sublist.refl _) (owns_set_dat h)
theorem slotR_anti {K : PySem.W.Frag} {M M' : Addr → Prop} {H : Hp} (h : ∀ a, M' a → M a) : ∀ {s : Option S} {v : Option V}, SlotR K M H s v → SlotR K M' H s v := fun {s v} r => by
  have h' : ∀ a o, ¬ M a → H a = some o → H a = some o ∧ ¬ M' a := fun a o m e => ⟨e, fun z => m (h a z)⟩
  cases s with
  | none => cases v <;> trivial
  | some s =>
    cases v with
    | none => cases s <;> exact r
    | some v =>
      cases s with
      | dat d => exact Rep.mono h' d r
      | own p ds =>
        obtain ⟨e, vs, e1, e2⟩ := r
        exact ⟨e, vs, e1, RepAll.mono h' ds e2⟩
      | ownK p ds =>
        obtain ⟨e, vs, e1, e2⟩ := r
        exact ⟨e, vs, e1, RepKV.mono h' ds e2⟩
theorem paired_set {α β : Type} {F : α → β → Prop} {a : α} {b : β} (r : F a b) : ∀ {l : List α} {m : List β} (i : Nat), Paired F l m → Paired F (l.set i a) (m.set i b)
  | _, _, _, .nil => .nil
  | _, _, 0, .cons _ t => .cons r t
  | _, _, i + 1, .cons q t => .cons q (paired_set r i t)
theorem mt_sub {A : Amb} {ρ ρ' : En} (h : (owns ρ').Sublist (owns ρ)) : ∀ a, Mt A ρ' a → Mt A ρ a := fun a m => m.elim (fun z => .inl (h.subset z)) .inr
theorem Keeps.sub {A : Amb} {ρ ρ' : En} {H : Hp} (h : (owns ρ').Sublist (owns ρ)) : Keeps A ρ H ρ' H := fun a o m _ e => ⟨e, fun z => m (h.subset z)⟩
section
variable {K : PySem.W.Frag} {A : Amb} {ρ0 ρ : En} {H0 H : Hp} {n : Nat} {σ : L2.St} {v : V} {d : D}
/-- a name is given a datum -/
theorem Here.set (h : Here K A ρ0 H0 n ρ σ H) (i : Nat) (r : Rep K (Mt A ρ) H v d) : Here K A ρ0 H0 n (ρ.set i (some (.dat d))) (σ.set i (some v)) H := by
  have hs : (owns (ρ.set i (some (.dat d)))).Sublist (owns ρ) := owns_set_dat rfl
  have hm := mt_sub (A := A) hs
  refine ⟨h.kp.trans (.sub hs), h.j, ⟨paired_set (F := SlotR K (Mt A (ρ.set i (some (.dat d)))) H) ?_ i (paired_mono (fun _ _ z => slotR_anti hm z) h.sat.sl), ?_⟩⟩
  · exact Rep.mono (fun a o m e => ⟨e, fun z => m (hm a z)⟩) d r
  · exact h.sat.nd.sublist (List.Sublist.append hs (List.Sublist.refl _))
theorem owns_set_own : ∀ {ρ : En} {i : Nat} {s : Option S} {p : Addr}, addrs s = [p] → i < ρ.length → ∃ l1 l2, owns (ρ.set i s) = l1 ++ p :: l2 ∧ (l1 ++ l2).Sublist (owns ρ)
  | [], _, _, _, _, hi => absurd hi (Nat.not_lt_zero _)
  | x :: ρ, 0, s, p, h, _ => ⟨[], owns ρ, by show addrs s ++ owns ρ = _; rw [h]; rfl, by show (owns ρ).Sublist (addrs x ++ owns ρ); exact List.sublist_append_right _ _⟩
  | x :: ρ, i + 1, s, p, h, hi => by
    obtain ⟨l1, l2, e, hs⟩ := owns_set_own (ρ := ρ) (i := i) h (Nat.lt_of_succ_lt_succ hi)
    refine ⟨addrs x ++ l1, l2, ?_, ?_⟩
    · show addrs x ++ owns (ρ.set i s) = _
      rw [e, List.append_assoc]
    · show (addrs x ++ l1 ++ l2).Sublist (addrs x ++ owns ρ)
      rw [List.append_assoc]
      exact List.Sublist.append (List.Sublist.refl _) hs
theorem paired_len {α β : Type} {F : α → β → Prop} : ∀ {l : List α} {m : List β}, Paired F l m → l.length = m.length
  | _, _, .nil => rfl
  | _, _, .cons _ t => congrArg Nat.succ (paired_len t)
/-- a slot is given a list (a dict) of its own at p -/
theorem Here.setAt (h : Here K A ρ0 H0 n ρ σ H) (i : Nat) {p : Addr} {s : S} (ha : addrs (some s) = [p]) (hi : i < ρ.length) (hp : ¬ Mt A ρ p) (hf : ∀ o, p ∉ owns ρ0 → ¬ A.isPen p → H0 p ≠ some o) (r : SlotR K (fun a => Mt A ρ a ∨ a = p) H (some s) (some (.ref p)))
    (hu : Paired (SlotR K (fun a => Mt A ρ a ∨ a = p) H) ρ σ) : Here K A ρ0 H0 n (ρ.set i (some s)) (σ.set i (some (.ref p))) H := by
  obtain ⟨l1, l2, e, hs⟩ := owns_set_own (s := some s) ha hi
  have mem : ∀ a, a ∈ owns (ρ.set i (some s)) → a ∈ owns ρ ∨ a = p := fun a m => by
    rw [e] at m
    rcases List.mem_append.mp m with z | z
    · exact .inl (hs.subset (List.mem_append_left _ z))
    · rcases List.mem_cons.mp z with z | z
      · exact .inr z
      · exact .inl (hs.subset (List.mem_append_right _ z))
  have hm : ∀ a, Mt A (ρ.set i (some s)) a → Mt A ρ a ∨ a = p := fun a m => by
    rcases m with m | m
    · rcases mem a m with z | z
      · exact .inl (.inl z)
      · exact .inr z
    · exact .inl (.inr m)
  refine ⟨fun a o h1 h2 e1 => ?_, h.j, ⟨paired_set (F := SlotR K (Mt A (ρ.set i (some s))) H) (slotR_anti hm r) i (paired_mono (fun _ _ z => slotR_anti hm z) hu), ?_⟩⟩
  · obtain ⟨e2, h3⟩ := h.kp a o h1 h2 e1
    refine ⟨e2, fun z => ?_⟩
    rcases mem a z with z | z
    · exact h3 z
    · subst z; exact hf o h1 h2 e1
  · rw [e]
    have nd := h.sat.nd
    have hpO : p ∉ owns ρ := fun z => hp (.inl z)
    have hpW : p ∉ A.W := fun z => hp (.inr z)
    have nd2 : ((l1 ++ l2) ++ A.W).Nodup := nd.sublist (List.Sublist.append hs (List.Sublist.refl _))
    have hp12 : p ∉ l1 ++ l2 := fun z => hpO (hs.subset z)
    rw [List.nodup_append] at nd2 ⊢
    obtain ⟨n1, n2, n3⟩ := nd2
    refine ⟨?_, n2, ?_⟩
    · rw [List.nodup_append] at n1 ⊢
      obtain ⟨m1, m2, m3⟩ := n1
      refine ⟨m1, List.nodup_cons.mpr ⟨fun z => hp12 (List.mem_append_right _ z), m2⟩, fun a ha b hb z => ?_⟩
      rcases List.mem_cons.mp hb with q | q
      · exact hp12 (List.mem_append_left _ (by rw [← q, ← z]; exact ha))
      · exact m3 a ha b q z
    · intro a ha b hb z
      rcases List.mem_append.mp ha with q | q
      · exact n3 a (List.mem_append_left _ q) b hb z
      · rcases List.mem_cons.mp q with q | q
        · exact hpW (by rw [← q, z]; exact hb)
        · exact n3 a (List.mem_append_right _ q) b hb z
end

/-! ### arguments -/
section
variable {X : Cx} {A : Amb} {ρ : En} {n : Nat} {e a b c : Expr} {es : List Expr} {k : Nat → En → D → Prop} {kl : Nat → En → List D → Prop} {kb : Nat → En → Bool → Prop} {pos : Pos}
theorem wa_nil (h : kl n ρ []) : WA X A [] ρ n kl := fun ρ0 H0 σ H hh Q q => canA.of pa_nil (q n ρ [] [] H h hh .refl .nil)
theorem wa_cons (h : WE X A e ρ n fun n1 ρ1 d => WA X A es ρ1 n1 fun n2 ρ2 ds => kl n2 ρ2 (d :: ds)) (hs : starEach (e :: es) X.env = (false, eval e X.env) :: starEach es X.env := by rfl) : WA X A (e :: es) ρ n kl := by
  intro ρ0 H0 σ H hh Q q
  refine canA.of (pa_cons pcan acan hs) ?_
  refine h ρ0 H0 σ H hh _ fun n1 ρ1 d v H1 h1 hh1 k1 r1 => ?_
  refine h1 ρ0 H0 σ H1 hh1 _ fun n2 ρ2 ds vs H2 h2 hh2 k2 r2 => ?_
  exact q n2 ρ2 _ _ H2 h2 hh2 (k1.trans k2) (.cons (r1.up hh1.j k2) r2)
theorem wk_nil (h : kl n ρ []) : WK X A [] ρ n kl := fun ρ0 H0 σ H hh Q q => canK.of pk_nil (q n ρ [] [] H h hh .refl .nil)
theorem wk_cons {nm : Option Str} {kpos : Pos} {kws : List Keyword} (h : WE X A e ρ n fun n1 ρ1 d => WK X A kws ρ1 n1 fun n2 ρ2 ds => kl n2 ρ2 (d :: ds)) : WK X A (⟨nm, e, kpos⟩ :: kws) ρ n kl := by
  intro ρ0 H0 σ H hh Q q
  refine canK.of (pk_cons pcan kcan) ?_
  refine h ρ0 H0 σ H hh _ fun n1 ρ1 d v H1 h1 hh1 k1 r1 => ?_
  refine h1 ρ0 H0 σ H1 hh1 _ fun n2 ρ2 ds vs H2 h2 hh2 k2 r2 => ?_
  exact q n2 ρ2 _ _ H2 h2 hh2 (k1.trans k2) (.cons (r1.up hh1.j k2) r2)
theorem sz_le {m : Nat} (h : m ≤ 100000) : m ≤ sizeLine := Nat.le_trans h (by decide)
/-- (a, b, ..) -/
theorem we_tup {x1} (h : WA X A es ρ n fun n ρ ds => ds.length ≤ 100000 ∧ k n ρ (.tup ds)) : WE X A (.Tuple es x1 pos) ρ n k := by
  intro ρ0 H0 σ H hh Q q
  refine canE.of (pe_tup acan) ?_
  refine h ρ0 H0 σ H hh _ fun n1 ρ1 ds vs H1 h1 hh1 k1 r1 => ⟨?_, fun p hp => ?_⟩
  · rw [r1.length]; exact sz_le h1.1
  · exact q n1 ρ1 _ _ _ h1.2 (hh1.alloc hp) (k1.trans (.alloc hp)) (.tup (.inl ⟨hh1.new hp, .inl upd_same⟩) (r1.alloc hp))
/-- a list just made -/
theorem slotR_new {K : PySem.W.Frag} {M : Addr → Prop} {H : Hp} {p : Addr} {o : HO} (hp : H p = none) : ∀ {s : Option S} {v : Option V}, SlotR K M H s v → SlotR K (fun a => M a ∨ a = p) (upd H p o) s v := fun {s v} r => by
  have h' : ∀ a u, ¬ M a → H a = some u → upd H p o a = some u ∧ ¬ (M a ∨ a = p) := fun a u m e => ⟨by rw [upd_ne (ne_of_none e hp)]; exact e, fun z => z.elim m fun z => ne_of_none e hp z⟩
  cases s with
  | none => cases v <;> trivial
  | some s =>
    cases v with
    | none => cases s <;> exact r
    | some v =>
      cases s with
      | dat d => exact Rep.mono h' d r
      | own q ds =>
        obtain ⟨e, vs, e1, e2⟩ := r
        exact ⟨e, vs, by rw [upd_ne (ne_of_none e1 hp)]; exact e1, RepAll.mono h' ds e2⟩
      | ownK q ds =>
        obtain ⟨e, vs, e1, e2⟩ := r
        exact ⟨e, vs, by rw [upd_ne (ne_of_none e1 hp)]; exact e1, RepKV.mono h' ds e2⟩
theorem repAll_new {K : PySem.W.Frag} {M : Addr → Prop} {H : Hp} {p : Addr} {o : HO} {vs : List V} {ds : List D} (hp : H p = none) (r : RepAll K M H vs ds) : RepAll K (fun a => M a ∨ a = p) (upd H p o) vs ds :=
  RepAll.mono (fun a u m e => ⟨by rw [upd_ne (ne_of_none e hp)]; exact e, fun z => z.elim m fun z => ne_of_none e hp z⟩) ds r
theorem Here.own1 {K : PySem.W.Frag} {ρ0 : En} {H0 H : Hp} {σ : L2.St} {p : Addr} {vs : List V} {ds : List D} (h : Here K A ρ0 H0 n ρ σ H) (hp : H p = none) (r : RepAll K (Mt A ρ) H vs ds) : Own1 K A ρ0 H0 ρ σ (upd H p (.lst vs)) p vs ds :=
  ⟨upd_same, h.new hp, fun o h1 h2 e => (by
    have := (h.kp p o h1 h2 e).1
    rw [hp] at this; cases this), paired_mono (fun _ _ z => slotR_new hp z) h.sat.sl, repAll_new hp r⟩
/-- [a, b, ..] -/
theorem wf_lst (h : WA X A es ρ n fun n ρ ds => ds.length ≤ 100000 ∧ kl n ρ ds) : WF X A (.List es pos) ρ n kl := by
  intro ρ0 H0 σ H hh Q q
  refine canE.of (pe_lst acan) ?_
  refine h ρ0 H0 σ H hh _ fun n1 ρ1 ds vs H1 h1 hh1 k1 r1 => ⟨?_, fun p hp => ?_⟩
  · rw [r1.length]; exact sz_le h1.1
  · exact q n1 ρ1 _ p vs _ h1.2 (hh1.alloc hp) (k1.trans (.alloc hp)) (hh1.own1 hp r1)
theorem we_lst (h : WA X A es ρ n fun n ρ ds => ds.length ≤ 100000 ∧ k n ρ (.lst ds)) : WE X A (.List es pos) ρ n k := (wf_lst (kl := fun n ρ ds => k n ρ (.lst ds)) h).we

/-! ### tests -/
/-- a value that is a truth (a name, a call, ..) -/
theorem wb_val (h : WE X A e ρ n fun n ρ d => ∃ c, d = .bl c ∧ kb n ρ c) (he : ∀ whole, isTrue e X.env whole = (do let v ← whole; standAt e.pos; holding [v] (truthy v)) := by intro _; rfl) : WB X A e ρ n kb := by
  intro ρ0 H0 σ H hh Q q
  refine canT.of (pt_val pcan he) ?_
  refine h ρ0 H0 σ H hh _ fun n1 ρ1 d v H1 h1 hh1 k1 r1 => ?_
  obtain ⟨c, rfl, h1⟩ := h1
  cases r1
  exact ⟨c, rfl, q n1 ρ1 c H1 h1 hh1 k1⟩
theorem wb_cmp {op : CmpOp} {r : R2} (ho : OpR X (compareOp op) r) (h : WE X A a ρ n fun n1 ρ1 x => WE X A b ρ1 n1 fun n2 ρ2 y => OpD X.K A r ρ2 x y fun d => ∃ c, d = .bl c ∧ kb n2 ρ2 c) (hm : behindInMarks op b = false := by first | exact nomark _ | rfl) : WB X A (.Compare a [op] [b] pos) ρ n kb := by
  intro ρ0 H0 σ H hh Q q
  refine canT.of (pt_cmpR ho pcan pcan hm) ?_
  refine t2_can (k := fun n ρ d => ∃ c, d = .bl c ∧ kb n ρ c) h ρ0 H0 σ H hh _ fun n1 ρ1 d v H1 h1 hh1 k1 r1 => ?_
  obtain ⟨c, rfl, h1⟩ := h1
  cases r1
  exact ⟨c, rfl, q n1 ρ1 c H1 h1 hh1 k1⟩
theorem ww_wb (h : WW X A e ρ n kb) : WB X A e ρ n kb := fun ρ0 H0 σ H hh Q q => canT.of (wcan (X := X) (e := e)).pt (h ρ0 H0 σ H hh Q q)
theorem ww_and1 (h : WB X A a ρ n kb) : WW X A (.BoolOp .And [a] pos) ρ n kb := fun ρ0 H0 σ H hh Q q => canW.of (pw_and1 tcan) (h ρ0 H0 σ H hh Q q)
theorem ww_or1 (h : WB X A a ρ n kb) : WW X A (.BoolOp .Or [a] pos) ρ n kb := fun ρ0 H0 σ H hh Q q => canW.of (pw_or1 tcan) (h ρ0 H0 σ H hh Q q)
theorem ww_and (h : WB X A a ρ n fun n ρ x => (x = true → WW X A (.BoolOp .And (b :: es) pos) ρ n kb) ∧ (x = false → kb n ρ false)) : WW X A (.BoolOp .And (a :: b :: es) pos) ρ n kb := by
  intro ρ0 H0 σ H hh Q q
  refine canW.of (pw_and tcan wcan) ?_
  refine h ρ0 H0 σ H hh _ fun n1 ρ1 c H1 h1 hh1 k1 => ?_
  cases c with
  | true => rw [if_pos rfl]; exact h1.1 rfl ρ0 H0 σ H1 hh1 Q fun n2 ρ2 x H2 h2 hh2 k2 => q n2 ρ2 x H2 h2 hh2 (k1.trans k2)
  | false => rw [if_neg Bool.false_ne_true]; exact q n1 ρ1 false H1 (h1.2 rfl) hh1 k1
theorem ww_or (h : WB X A a ρ n fun n ρ x => (x = false → WW X A (.BoolOp .Or (b :: es) pos) ρ n kb) ∧ (x = true → kb n ρ true)) : WW X A (.BoolOp .Or (a :: b :: es) pos) ρ n kb := by
  intro ρ0 H0 σ H hh Q q
  refine canW.of (pw_or tcan wcan) ?_
  refine h ρ0 H0 σ H hh _ fun n1 ρ1 c H1 h1 hh1 k1 => ?_
  cases c with
  | false => rw [if_neg Bool.false_ne_true]; exact h1.1 rfl ρ0 H0 σ H1 hh1 Q fun n2 ρ2 x H2 h2 hh2 k2 => q n2 ρ2 x H2 h2 hh2 (k1.trans k2)
  | true => rw [if_pos rfl]; exact q n1 ρ1 true H1 (h1.2 rfl) hh1 k1
theorem wb_not (h : WB X A a ρ n fun n ρ x => kb n ρ (!x)) : WB X A (.UnaryOp .Not a pos) ρ n kb := by
  intro ρ0 H0 σ H hh Q q
  refine canT.of (pt_not tcan) ?_
  exact h ρ0 H0 σ H hh _ fun n1 ρ1 c H1 h1 hh1 k1 => q n1 ρ1 (!c) H1 h1 hh1 k1
/-- what is true of a value -/
def tru : D → Option Bool
  | .non => some false
  | .bl b => some b
  | .int i => some (i != 0)
  | .lst xs => some (!xs.isEmpty)
  | .tup xs => some (!xs.isEmpty)
  | .dct xs => some (!xs.isEmpty)
  | _ => none
theorem wb_truth (h : WE X A e ρ n fun n ρ d => ∃ c, tru d = some c ∧ kb n ρ c) (he : ∀ whole, isTrue e X.env whole = (do let v ← whole; standAt e.pos; holding [v] (truthy v)) := by intro _; rfl) : WB X A e ρ n kb := by
  intro ρ0 H0 σ H hh Q q
  refine canT.of (pt_truth pcan he) ?_
  refine h ρ0 H0 σ H hh _ fun n1 ρ1 d v H1 h1 hh1 k1 r1 => ?_
  obtain ⟨c, e, h1⟩ := h1
  refine ⟨c, ?_, q n1 ρ1 c H1 h1 hh1 k1⟩
  have emp : ∀ {vs : List V} {ds : List D}, RepAll X.K (Mt A ρ1) H1 vs ds → vs.isEmpty = ds.isEmpty := fun r => by cases r <;> rfl
  have empK : ∀ {vs : List (Key × V)} {ds : List (Key × D)}, RepKV X.K (Mt A ρ1) H1 vs ds → vs.isEmpty = ds.isEmpty := fun r => by cases r <;> rfl
  cases d with
  | non => cases r1; cases e; exact rfl
  | bl b => cases r1; cases e; exact rfl
  | int i => cases r1; cases e; exact rfl
  | str x => cases e
  | lst xs =>
    cases r1 with
    | lst _ hq ha =>
      cases e
      rw [← emp ha]
      exact .inl ⟨_, .of hq, rfl⟩
  | tup xs =>
    cases r1 with
    | tup hq ha =>
      cases e
      rw [← emp ha]
      rcases hq with ⟨_, hq⟩ | hq
      · exact .inr (.inl ⟨_, .inl hq, rfl⟩)
      · exact .inr (.inl ⟨_, .inr hq, rfl⟩)
  | dct xs =>
    cases r1 with
    | dct _ hq ha =>
      cases e
      rw [← empK ha]
      exact .inr (.inr ⟨_, hq, rfl⟩)
  | obj C fs => cases e
  | raw v => cases e

/-! ### and, or, not, if as values -/
theorem we_one {op} (h : WE X A a ρ n k) : WE X A (.BoolOp op [a] pos) ρ n k := fun ρ0 H0 σ H hh Q q => canE.of (pe_one pcan) (h ρ0 H0 σ H hh Q q)
theorem we_and (h : WE X A a ρ n fun n ρ x => ∃ c, x = .bl c ∧ (c = true → WE X A (.BoolOp .And (b :: es) pos) ρ n k) ∧ (c = false → k n ρ (.bl false))) : WE X A (.BoolOp .And (a :: b :: es) pos) ρ n k := by
  intro ρ0 H0 σ H hh Q q
  refine canE.of (pe_and pcan pcan) ?_
  refine h ρ0 H0 σ H hh _ fun n1 ρ1 d v H1 h1 hh1 k1 r1 => ?_
  obtain ⟨c, rfl, h1⟩ := h1
  cases r1
  refine ⟨c, rfl, ?_⟩
  cases c with
  | true => rw [if_pos rfl]; exact h1.1 rfl ρ0 H0 σ H1 hh1 Q fun n2 ρ2 x v H2 h2 hh2 k2 => q n2 ρ2 x v H2 h2 hh2 (k1.trans k2)
  | false => rw [if_neg Bool.false_ne_true]; exact q n1 ρ1 _ _ H1 (h1.2 rfl) hh1 k1 (.bl false)
theorem we_or (h : WE X A a ρ n fun n ρ x => ∃ c, x = .bl c ∧ (c = false → WE X A (.BoolOp .Or (b :: es) pos) ρ n k) ∧ (c = true → k n ρ (.bl true))) : WE X A (.BoolOp .Or (a :: b :: es) pos) ρ n k := by
  intro ρ0 H0 σ H hh Q q
  refine canE.of (pe_or pcan pcan) ?_
  refine h ρ0 H0 σ H hh _ fun n1 ρ1 d v H1 h1 hh1 k1 r1 => ?_
  obtain ⟨c, rfl, h1⟩ := h1
  cases r1
  refine ⟨c, rfl, ?_⟩
  cases c with
  | false => rw [if_neg Bool.false_ne_true]; exact h1.1 rfl ρ0 H0 σ H1 hh1 Q fun n2 ρ2 x v H2 h2 hh2 k2 => q n2 ρ2 x v H2 h2 hh2 (k1.trans k2)
  | true => rw [if_pos rfl]; exact q n1 ρ1 _ _ H1 (h1.2 rfl) hh1 k1 (.bl true)
theorem we_not (h : WE X A a ρ n fun n ρ x => ∃ c, x = .bl c ∧ k n ρ (.bl !c)) : WE X A (.UnaryOp .Not a pos) ρ n k := by
  intro ρ0 H0 σ H hh Q q
  refine canE.of (pe_not pcan) ?_
  refine h ρ0 H0 σ H hh _ fun n1 ρ1 d v H1 h1 hh1 k1 r1 => ?_
  obtain ⟨c, rfl, h1⟩ := h1
  cases r1
  exact ⟨c, rfl, q n1 ρ1 _ _ H1 h1 hh1 k1 (.bl !c)⟩
theorem we_if (h : WB X A c ρ n fun n ρ x => (x = true → WE X A a ρ n k) ∧ (x = false → WE X A b ρ n k)) : WE X A (.IfExp c a b pos) ρ n k := by
  intro ρ0 H0 σ H hh Q q
  refine canE.of (pe_ifExp tcan pcan pcan) ?_
  refine h ρ0 H0 σ H hh _ fun n1 ρ1 x H1 h1 hh1 k1 => ?_
  cases x with
  | true => rw [if_pos rfl]; exact h1.1 rfl ρ0 H0 σ H1 hh1 Q fun n2 ρ2 x v H2 h2 hh2 k2 => q n2 ρ2 x v H2 h2 hh2 (k1.trans k2)
  | false => rw [if_neg Bool.false_ne_true]; exact h1.2 rfl ρ0 H0 σ H1 hh1 Q fun n2 ρ2 x v H2 h2 hh2 k2 => q n2 ρ2 x v H2 h2 hh2 (k1.trans k2)
/-- a op b op' c -/
theorem we_chain {op op' : CmpOp} {r r' : R2} (ho : OpR X (compareOp op) r) (ho' : OpR X (compareOp op') r')
    (h : WE X A a ρ n fun n1 ρ1 x => WE X A b ρ1 n1 fun n2 ρ2 y => OpD X.K A r ρ2 x y fun d => ∃ z, d = .bl z ∧ (z = true → WE X A c ρ2 n2 fun n3 ρ3 w => OpD X.K A r' ρ3 y w (k n3 ρ3)) ∧ (z = false → k n2 ρ2 (.bl false)))
    (hm : lastMarks [op, op'] [b, c] = false := by rfl) : WE X A (.Compare a [op, op'] [b, c] pos) ρ n k := by
  intro ρ0 H0 σ H hh Q q
  refine canE.of (pe_chain ho ho' pcan pcan pcan hm) ?_
  refine h ρ0 H0 σ H hh _ fun n1 ρ1 x vx H1 h1 hh1 k1 r1 => ?_
  refine h1 ρ0 H0 σ H1 hh1 _ fun n2 ρ2 y vy H2 h2 hh2 k2 r2 => ?_
  refine h2 n2 σ ρ0 H0 H2 vx vy _ hh2 (r1.up hh1.j k2) r2 fun d v H3 kk hh3 k3 r3 => ?_
  obtain ⟨z, rfl, k4, k5⟩ := kk
  cases r3
  refine ⟨z, rfl, ?_⟩
  cases z with
  | true =>
    rw [if_pos rfl]
    refine k4 rfl ρ0 H0 σ H3 hh3 _ fun n4 ρ4 w vw H4 h4 hh4 k6 r4 => ?_
    exact h4 n4 σ ρ0 H0 H4 vy vw Q hh4 ((r2.up hh2.j k3).up hh3.j k6) r4 fun d v H' kk hh' k7 r7 => q n4 ρ4 d v H' kk hh' ((((k1.trans k2).trans k3).trans k6).trans k7) r7
  | false => rw [if_neg Bool.false_ne_true]; exact q n2 ρ2 _ _ H3 (k5 rfl) hh3 ((k1.trans k2).trans k3) (.bl false)
end

/-! ### statements -/
section
variable {X : Cx} {A : Amb} {ρ : En} {n : Nat} {e a b c : Expr} {es : List Expr} {st : Stmt} {sts body orelse : List Stmt} {E : En4} {pos : Pos}
theorem ws_nil (h : E.nx n ρ) : WS X A [] ρ n E := fun ρ0 H0 σ H hh D f => canSs.of pss_nil (f.nx n ρ σ H h hh)
theorem ws_cons (h : WS1 X A st ρ n { E with nx := fun n ρ => WS X A sts ρ n E }) : WS X A (st :: sts) ρ n E := by
  intro ρ0 H0 σ H hh D f
  refine canSs.of (pss_cons scan sscan) ?_
  exact h ρ0 H0 σ H hh _ ⟨fun n ρ σ H h1 hh1 => h1 ρ0 H0 σ H hh1 D f, f.rt, f.bk, f.ct⟩
theorem ws_one (h : WS1 X A st ρ n E) : WS X A [st] ρ n E := fun ρ0 H0 σ H hh D f => canSs.of (pss_one scan) (h ρ0 H0 σ H hh D f)
theorem ws_pass (h : E.nx n ρ) : WS1 X A (.Pass pos) ρ n E := fun ρ0 H0 σ H hh D f => canS.of ps_pass (f.nx n ρ σ H h hh)
theorem ws_break (h : E.bk n ρ) : WS1 X A (.Break pos) ρ n E := fun ρ0 H0 σ H hh D f => canS.of ps_break (f.bk n ρ σ H h hh)
theorem ws_cont (h : E.ct n ρ) : WS1 X A (.Continue pos) ρ n E := fun ρ0 H0 σ H hh D f => canS.of ps_continue (f.ct n ρ σ H h hh)
theorem ws_ret (h : WE X A e ρ n E.rt) : WS1 X A (.Return (some e) pos) ρ n E := by
  intro ρ0 H0 σ H hh D f
  refine canS.of (ps_ret pcan) ?_
  exact h ρ0 H0 σ H hh _ fun n1 ρ1 d v H1 h1 hh1 k1 r1 => f.rt n1 ρ1 σ H1 d v h1 hh1 r1
theorem ws_retN (h : E.rt n ρ .non) : WS1 X A (.Return none pos) ρ n E := fun ρ0 H0 σ H hh D f => canS.of ps_retN (f.rt n ρ σ H .non .non h hh .non)
theorem ws_expr (h : WE X A e ρ n fun n ρ _ => E.nx n ρ) (hs : swapsWith e none pos.line X.env = pure false := by rfl) : WS1 X A (.Expr e pos) ρ n E := by
  intro ρ0 H0 σ H hh D f
  refine canS.of (ps_expr pcan hs) ?_
  exact h ρ0 H0 σ H hh _ fun n1 ρ1 d v H1 h1 hh1 k1 r1 => f.nx n1 ρ1 σ H1 h1 hh1
/-- x = e -/
theorem ws_set (i : Nat) {x : Str} {pos' : Pos} (hN : X.N.Nodup) (h : WE X A e ρ n fun n ρ d => E.nx n (ρ.set i (some (.dat d)))) (hi : X.N[i]? = some x := by rfl) (hx : Loc X.env.scope x := by first | exact Or.inl rfl | exact Or.inr rfl)
    (hs : swapsWith e (some (.Name x pos')) pos.line X.env = pure false := by rfl) (hf : X.fn x = true ∨ X.env.scope.names.lookup x = some .local := by first | exact .inl rfl | exact .inr rfl) : WS1 X A (.Assign [.Name x pos'] e pos) ρ n E := by
  intro ρ0 H0 σ H hh D f
  refine canS.of (ps_set hN hi hx pcan hs hf) ?_
  exact h ρ0 H0 σ H hh _ fun n1 ρ1 d v H1 h1 hh1 k1 r1 => f.nx _ _ _ _ h1 (hh1.set i r1)
/-- x = a list of its own -/
theorem ws_setF (i : Nat) {x : Str} {pos' : Pos} (hN : X.N.Nodup) (h : WF X A e ρ n fun n ρ ds => i < ρ.length ∧ ∀ p, E.nx n (ρ.set i (some (.own p ds)))) (hi : X.N[i]? = some x := by rfl) (hx : Loc X.env.scope x := by first | exact Or.inl rfl | exact Or.inr rfl)
    (hs : swapsWith e (some (.Name x pos')) pos.line X.env = pure false := by rfl) (hf : X.fn x = true ∨ X.env.scope.names.lookup x = some .local := by first | exact .inl rfl | exact .inr rfl) : WS1 X A (.Assign [.Name x pos'] e pos) ρ n E := by
  intro ρ0 H0 σ H hh D f
  refine canS.of (ps_set hN hi hx pcan hs hf) ?_
  refine h ρ0 H0 σ H hh _ fun n1 ρ1 ds p vs H1 h1 hh1 k1 o => f.nx _ _ _ _ (h1.2 p) ?_
  exact hh1.setAt i rfl h1.1 o.nm o.nw ⟨rfl, vs, o.ob, o.rp⟩ o.sl
end
end RD

/-! RD3: if, for, targets, lists of one's own changed, list comprehensions. -/
namespace RD
open PySem PySem.Spec PyProof.Rows L2
section
variable {X : Cx} {A : Amb} {ρ : En} {n : Nat} {e a b c tg iter : Expr} {es ts : List Expr} {st : Stmt} {sts body orelse : List Stmt} {E : En4} {pos : Pos} {k : Nat → En → D → Prop} {kl : Nat → En → List D → Prop} {kb : Nat → En → Bool → Prop}
theorem ws_if (h : WB X A c ρ n fun n ρ x => (x = true → WS X A body ρ n E) ∧ (x = false → WS X A orelse ρ n E)) : WS1 X A (.If c body orelse pos) ρ n E := by
  intro ρ0 H0 σ H hh D f
  refine canS.of (ps_if tcan sscan sscan) ?_
  refine h ρ0 H0 σ H hh _ fun n1 ρ1 x H1 h1 hh1 k1 => ?_
  cases x with
  | true => rw [if_pos rfl]; exact h1.1 rfl ρ0 H0 σ H1 hh1 D f
  | false => rw [if_neg Bool.false_ne_true]; exact h1.2 rfl ρ0 H0 σ H1 hh1 D f

/-! ### targets: V the places that may be stored to -/
def WG' (X : Cx) (A : Amb) (tg : Expr) (V_ : Nat → Prop) (d : D) (ρ : En) (n : Nat) (k : Nat → En → Prop) : Prop :=
  ∀ ρ0 H0 σ H v, Here X.K A ρ0 H0 n ρ σ H → Rep X.K (Mt A ρ) H v d → ∀ Q : L2.St → Hp → Prop, (∀ n' ρ' σ' H', k n' ρ' → Here X.K A ρ0 H0 n' ρ' σ' H' → Keeps A ρ H ρ' H' → σ'.length = σ.length → (∀ j, ¬ V_ j → σ'[j]? = σ[j]?) → Q σ' H') → canG X tg v σ H Q
def WGs' (X : Cx) (A : Amb) (ts : List Expr) (V_ : Nat → Prop) (ds : List D) (ρ : En) (n : Nat) (k : Nat → En → Prop) : Prop :=
  ∀ ρ0 H0 σ H vs, Here X.K A ρ0 H0 n ρ σ H → RepAll X.K (Mt A ρ) H vs ds → ∀ Q : L2.St → Hp → Prop, (∀ n' ρ' σ' H', k n' ρ' → Here X.K A ρ0 H0 n' ρ' σ' H' → Keeps A ρ H ρ' H' → σ'.length = σ.length → (∀ j, ¬ V_ j → σ'[j]? = σ[j]?) → Q σ' H') → canGs X ts vs σ H Q
abbrev AnyV : Nat → Prop := fun _ => True
theorem wg_name (i : Nat) {x : Str} {V_ : Nat → Prop} {d : D} {k : Nat → En → Prop} (hN : X.N.Nodup) (h : k n (ρ.set i (some (.dat d)))) (hi : X.N[i]? = some x := by rfl) (hx : Loc X.env.scope x := by first | exact Or.inl rfl | exact Or.inr rfl)
    (hf : X.fn x = true ∨ X.env.scope.names.lookup x = some .local := by first | exact .inl rfl | exact .inr rfl) (hv : V_ i := by first | trivial | decide) : WG' X A (.Name x pos) V_ d ρ n k := by
  intro ρ0 H0 σ H v hh r Q q
  refine canG.of (pg_name hN hi hx hf) ?_
  refine q n _ _ H h (hh.set i r) (.sub (owns_set_dat rfl)) (by rw [List.length_set]) fun j hj => ?_
  rw [List.getElem?_set_ne]
  rintro rfl
  exact hj hv
theorem wgs_nil {V_ : Nat → Prop} {k : Nat → En → Prop} (h : k n ρ) : WGs' X A [] V_ [] ρ n k := by
  intro ρ0 H0 σ H vs hh r Q q
  cases r
  exact canGs.of pgs_nil ⟨rfl, q n ρ σ H h hh .refl rfl fun _ _ => rfl⟩
theorem wgs_cons {V_ : Nat → Prop} {d : D} {ds : List D} {k : Nat → En → Prop} (h : WG' X A e V_ d ρ n fun n ρ => WGs' X A es V_ ds ρ n k) (hs : (assignEach (e :: es) X.env).map (·.2) = assign e X.env :: (assignEach es X.env).map (·.2) := by rfl) : WGs' X A (e :: es) V_ (d :: ds) ρ n k := by
  intro ρ0 H0 σ H vs hh r Q q
  refine canGs.of (pgs_cons gcan gscan hs) ?_
  cases r with
  | cons r1 r2 =>
    refine ⟨_, _, rfl, h ρ0 H0 σ H _ hh r1 _ fun n1 ρ1 σ1 H1 h1 hh1 k1 l1 s1 => ?_⟩
    refine h1 ρ0 H0 σ1 H1 _ hh1 (r2.up hh.j k1) Q fun n2 ρ2 σ2 H2 h2 hh2 k2 l2 s2 => q n2 ρ2 σ2 H2 h2 hh2 (k1.trans k2) (l2.trans l1) fun j hj => (s2 j hj).trans (s1 j hj)
/-- (a, b, ..) = a tuple -/
theorem wg_tup {V_ : Nat → Prop} {ds : List D} {kk : Nat} {k : Nat → En → Prop} (hc : X.calm = true) (h : WGs' X A ts V_ ds ρ n k) (hn : (assignEach ts X.env).length = ds.length := by rfl) (hst : (assignEach ts X.env).findIdx? (·.1) = none := by rfl) : WG' X A (.Tuple ts kk pos) V_ (.tup ds) ρ n k := by
  intro ρ0 H0 σ H v hh r Q q
  refine canG.of (pg_tup hc gscan hn hst) ?_
  cases r with
  | tup hq ha =>
    refine ⟨_, _, rfl, ?_, ha.length, h ρ0 H0 σ H _ hh ha Q q⟩
    rcases hq with ⟨_, hq⟩ | hq
    · exact .inl hq
    · exact .inr hq

/-! ### for -/
theorem wi_range1 {p : Pos} (hm : X.mg "range" = none) (h : WA X A [a] ρ n fun n ρ ds => ∃ j : Int, ds = [.int j] ∧ -(2 ^ 62) ≤ j ∧ j < 2 ^ 62 ∧ kl n ρ ((List.range j.toNat).map fun i : Nat => .int ((i : Nat) : Int))) (hg : Gl X "range" := by rfl) (hs : starEach [a] X.env = [(false, eval a X.env)] := by rfl) : WI X A tg (.Call (.Name "range" p) [a] [] pos) ρ n kl := by
  intro ρ0 H0 σ H hh R q
  refine canI.of (pi_range1 hg hm acan hs) ?_
  refine h ρ0 H0 σ H hh _ fun n1 ρ1 ds vs H1 h1 hh1 k1 r1 => ?_
  obtain ⟨j, rfl, b1, b2, h1⟩ := h1
  cases r1 with
  | cons r1 r2 =>
    cases r1; cases r2
    refine ⟨j, rfl, b1, b2, q n1 ρ1 _ _ H1 h1 hh1 k1 ?_⟩
    intro M' H' _
    simp only [List.length_map, List.length_range]
    refine ⟨fun i hi => hi, Nat.le_refl _, fun i d x H'' hd y _ => ?_⟩
    obtain ⟨e1, e2⟩ := y
    subst e1
    refine ⟨.inl rfl, ?_⟩
    rw [e2]
    rw [List.getElem?_map] at hd
    cases z : (List.range j.toNat)[i]? with
    | none => rw [z] at hd; cases hd
    | some w =>
      rw [z] at hd
      have hi : i < j.toNat := by
        have := (List.getElem?_eq_some_iff.mp z).1
        simpa using this
      rw [List.getElem?_range hi] at z
      cases z
      cases hd
      rw [Int.zero_add]
      exact .int _
theorem wi_range2 {p : Pos} (hm : X.mg "range" = none) (h : WA X A [a, b] ρ n fun n ρ ds => ∃ i j : Int, ds = [.int i, .int j] ∧ (-(2 ^ 62) ≤ i ∧ i < 2 ^ 62 ∧ -(2 ^ 62) ≤ j ∧ j < 2 ^ 62) ∧ kl n ρ ((List.range (j - i).toNat).map fun m : Nat => .int (i + ((m : Nat) : Int)))) (hg : Gl X "range" := by rfl)
    (hs : starEach [a, b] X.env = [(false, eval a X.env), (false, eval b X.env)] := by rfl) (hs2 : starEach [b] X.env = [(false, eval b X.env)] := by rfl) : WI X A tg (.Call (.Name "range" p) [a, b] [] pos) ρ n kl := by
  intro ρ0 H0 σ H hh R q
  refine canI.of (pi_range2 hg hm acan hs hs2) ?_
  refine h ρ0 H0 σ H hh _ fun n1 ρ1 ds vs H1 h1 hh1 k1 r1 => ?_
  obtain ⟨i, j, rfl, bd, h1⟩ := h1
  cases r1 with
  | cons r1 r2 =>
    cases r1
    cases r2 with
    | cons r2 r3 =>
    cases r2; cases r3
    refine ⟨i, j, rfl, bd, q n1 ρ1 _ _ H1 h1 hh1 k1 ?_⟩
    intro M' H' _
    simp only [List.length_map, List.length_range]
    refine ⟨fun i hi => hi, Nat.le_refl _, fun m d x H'' hd y _ => ?_⟩
    obtain ⟨e1, e2⟩ := y
    subst e1
    refine ⟨.inl rfl, ?_⟩
    rw [e2]
    rw [List.getElem?_map] at hd
    cases z : (List.range (j - i).toNat)[m]? with
    | none => rw [z] at hd; cases hd
    | some w =>
      rw [z] at hd
      have hi : m < (j - i).toNat := by
        have := (List.getElem?_eq_some_iff.mp z).1
        simpa using this
      rw [List.getElem?_range hi] at z
      cases z
      cases hd
      exact .int _
theorem wi_lst (h : WE X A e ρ n fun n ρ d => ∃ ds, d = .lst ds ∧ kl n ρ ds) : WI X A tg e ρ n kl := by
  intro ρ0 H0 σ H hh R q
  refine canI.of (pi_list pcan) ?_
  refine h ρ0 H0 σ H hh _ fun n1 ρ1 d v H1 h1 hh1 k1 r1 => ?_
  obtain ⟨ds, rfl, h1⟩ := h1
  cases r1 with
  | lst m hq ha =>
    rename_i a xs
    have hL : ∀ (M' : Addr → Prop) (H' : Hp), (∀ a o, ¬ Mt A ρ1 a → H1 a = some o → H' a = some o ∧ ¬ M' a) → SqL X.K H' a xs := fun M' H' up => .of (up a _ m hq).1
    refine ⟨a, rfl, ⟨xs, hL _ H1 fun a o m e => ⟨e, m⟩⟩, q n1 ρ1 ds _ H1 h1 hh1 k1 ?_⟩
    intro M' H' up
    have hl := hL M' H' up
    have ln := ha.length
    refine ⟨fun i hi => ⟨xs, xs[i]'(by omega), hl, by simp [show i < xs.length by omega]⟩, ⟨xs, hl, by omega⟩, fun i d x H'' hd y _ => ?_⟩
    obtain ⟨e1, y⟩ := y
    subst e1
    obtain ⟨v, hv, rv⟩ := ha.get hd
    have e2 := y xs hl
    rw [hv] at e2
    cases e2
    exact ⟨.inl rfl, Rep.mono up d rv⟩
theorem wi_tup (h : WE X A e ρ n fun n ρ d => ∃ ds, d = .tup ds ∧ kl n ρ ds) : WI X A tg e ρ n kl := by
  intro ρ0 H0 σ H hh R q
  refine canI.of (pi_tup pcan) ?_
  refine h ρ0 H0 σ H hh _ fun n1 ρ1 d v H1 h1 hh1 k1 r1 => ?_
  obtain ⟨ds, rfl, h1⟩ := h1
  cases r1 with
  | tup hq ha =>
    rename_i a xs
    have hL : ∀ (M' : Addr → Prop) (H' : Hp), (∀ a o, ¬ Mt A ρ1 a → H1 a = some o → H' a = some o ∧ ¬ M' a) → SqT X.K H' a xs := fun M' H' up => by
      rcases hq with ⟨m, hq⟩ | hq
      · exact .inl (rd_mono up m hq).2
      · exact .inr hq
    refine ⟨a, rfl, ⟨xs, hL _ H1 fun a o m e => ⟨e, m⟩⟩, q n1 ρ1 ds _ H1 h1 hh1 k1 ?_⟩
    intro M' H' up
    have hl := hL M' H' up
    have ln := ha.length
    refine ⟨fun i hi => ⟨xs, xs[i]'(by omega), hl, by simp [show i < xs.length by omega]⟩, ⟨xs, hl, by omega⟩, fun i d x H'' hd y _ => ?_⟩
    obtain ⟨e1, y⟩ := y
    subst e1
    obtain ⟨v, hv, rv⟩ := ha.get hd
    have e2 := y xs hl
    rw [hv] at e2
    cases e2
    exact ⟨.inl rfl, Rep.mono up d rv⟩
theorem Here.rebase {K : PySem.W.Frag} {ρ0 ρ1 : En} {H0 H1 : Hp} {σ : L2.St} {H : Hp} (h : Here K A ρ0 H0 n ρ σ H) : Here K A ρ H n ρ σ H := ⟨.refl, h.j, h.sat⟩
theorem Here.back {K : PySem.W.Frag} {ρ0 ρ1 : En} {H0 H1 : Hp} {σ : L2.St} {H : Hp} (kp : Keeps A ρ0 H0 ρ1 H1) (h : Here K A ρ1 H1 n ρ σ H) : Here K A ρ0 H0 n ρ σ H := ⟨kp.trans h.kp, h.j, h.sat⟩
theorem ws_for (I : Nat → Nat → En → Prop) (hc : X.calm = true) (hp : PassesOwn (model X.prog X.w) X.A X.env X.xe)
    (h : WI X A tg iter ρ n fun n' ρ' ds => I 0 n' ρ' ∧ (∀ i d n ρ, ds[i]? = some d → I i n ρ → WG' X A tg AnyV d ρ n fun n ρ => WS X A body ρ n { E with nx := I (i + 1), ct := I (i + 1), bk := E.nx }) ∧ ∀ n ρ, I ds.length n ρ → E.nx n ρ)
    (hs : ∀ x, foldedSetIterable iter X.env x = pure x := by intro _; rfl) : WS1 X A (.For tg iter body [] pos) ρ n E := by
  intro ρ0 H0 σ H hh D f
  refine canS.of (ps_for hp hc icanL gcan sscan hs) ?_
  refine h ρ0 H0 σ H hh _ fun n1 ρ1 ds Jt H1 h1 hh1 k1 src => ?_
  obtain ⟨i0, turn, fin⟩ := h1
  refine ⟨fun i m σ H => m = ds.length - i ∧ i ≤ ds.length ∧ ∃ n ρ, I i n ρ ∧ Here X.K A ρ1 H1 n ρ σ H, ⟨ds.length, by simp, Nat.zero_le _, n1, ρ1, i0, hh1.rebase (ρ1 := ρ1) (H1 := H1)⟩, ?_⟩
  rintro i m σ2 H2 ⟨rfl, hi, n2, ρ2, i2, hh2⟩
  obtain ⟨go, stop, yld⟩ := src (Mt A ρ2) H2 (hh2.kp.up hh1.j)
  by_cases hlt : i < ds.length
  · refine .inr ⟨go i hlt, fun σ H => ∃ n ρ, I (i + 1) n ρ ∧ Here X.K A ρ1 H1 n ρ σ H, fun σ' H' ⟨n', ρ', z1, z2⟩ => ⟨ds.length - (i + 1), by omega, rfl, hlt, n', ρ', z1, z2⟩, fun x H3 y => ?_⟩
    have hd : ds[i]? = some ds[i] := List.getElem?_eq_getElem hlt
    obtain ⟨z, rx⟩ := yld i _ x H3 hd y (fun T hT => hh2.new hT)
    have hh3 : Here X.K A ρ1 H1 n2 ρ2 σ2 H3 := by
      rcases z with rfl | ⟨T, o, hT, rfl⟩
      · exact hh2
      · exact hh2.alloc hT
    refine turn i _ n2 ρ2 hd i2 ρ1 H1 σ2 H3 x hh3 rx _ fun n4 ρ4 σ4 H4 h4 hh4 k4 _ _ => ?_
    refine h4 ρ1 H1 σ4 H4 hh4 _ ⟨fun n ρ σ H z1 z2 => ⟨n, ρ, z1, z2⟩, fun n ρ σ H d v z1 z2 => f.rt n ρ σ H d v z1 (z2.back hh1.kp), fun n ρ σ H z1 z2 => f.nx n ρ σ H z1 (z2.back hh1.kp), fun n ρ σ H z1 z2 => ⟨n, ρ, z1, z2⟩⟩
  · have e : i = ds.length := by omega
    subst e
    exact .inl ⟨stop, f.nx n2 ρ2 σ2 H2 (fin n2 ρ2 i2) (hh2.back hh1.kp)⟩

/-! ### a, b = x, y -/
theorem ws_par (i j : Nat) {x y : Str} {px py pt : Pos} {kt k2 pt2} (hc : X.calm = true) (hN : X.N.Nodup) (h : WA X A [a, b] ρ n fun n ρ ds => ∃ d1 d2, ds = [d1, d2] ∧ E.nx n ((ρ.set i (some (.dat d1))).set j (some (.dat d2))))
    (hi : X.N[i]? = some x := by rfl) (hj : X.N[j]? = some y := by rfl) (hij : i ≠ j := by decide) (hx : X.env.scope.names.lookup x = some .local := by rfl) (hy : X.env.scope.names.lookup y = some .local := by rfl)
    (hw : swappedStores [.Tuple [.Name x px, .Name y py] kt pt] (.Tuple [a, b] k2 pt2) X.env = pure (some [x, y]) := by rfl)
    (hs : swapsWithSole [.Tuple [.Name x px, .Name y py] kt pt] (.Tuple [a, b] k2 pt2) pos.line X.env = pure false := by rfl) : WS1 X A (.Assign [.Tuple [.Name x px, .Name y py] kt pt] (.Tuple [a, b] k2 pt2) pos) ρ n E := by
  intro ρ0 H0 σ H hh D f
  refine canS.of (ps_par hc hN hi hj hij hx hy acan hw hs) ?_
  refine h ρ0 H0 σ H hh _ fun n1 ρ1 ds vs H1 h1 hh1 k1 r1 => ?_
  obtain ⟨d1, d2, rfl, h1⟩ := h1
  cases r1 with
  | cons r1 r2 =>
    cases r2 with
    | cons r2 r3 =>
      cases r3
      refine ⟨_, _, rfl, f.nx _ _ _ _ h1 ((hh1.set i r1).set j ?_)⟩
      exact Rep.mono (fun a o m e => ⟨e, fun z => m (mt_sub (owns_set_dat rfl) a z)⟩) d2 r2
/-- any target -/
theorem ws_asg (h : WE X A e ρ n fun n ρ d => WG' X A tg AnyV d ρ n E.nx) (hs : swapsWithSole [tg] e pos.line X.env = pure false := by rfl) (hw : swappedStores [tg] e X.env = pure none := by rfl)
    (h1 : (assignEach [tg] X.env).map (·.2) = [assign tg X.env] := by rfl) : WS1 X A (.Assign [tg] e pos) ρ n E := by
  intro ρ0 H0 σ H hh D f
  refine canS.of (ps_asg pcan gcan hs hw h1) ?_
  refine h ρ0 H0 σ H hh _ fun n1 ρ1 d v H1 z1 hh1 k1 r1 => ?_
  exact z1 ρ0 H0 σ H1 v hh1 r1 _ fun n2 ρ2 σ2 H2 z2 hh2 k2 _ _ => f.nx _ _ _ _ z2 hh2
/-- name op= e, ints -/
theorem ws_aug (i : Nat) {x : Str} {op : Operator} {g : Int → Int → Int} {pos' : Pos} {a : Int} (ho : PIp X op (ipI g)) (hN : X.N.Nodup) (hd : ρ[i]? = some (some (.dat (.int a)))) (h : WE X A e ρ n fun n ρ' d => ρ' = ρ ∧ ∃ b, d = .int b ∧ E.nx n (ρ.set i (some (.dat (.int (g a b))))))
    (hi : X.N[i]? = some x := by rfl) (hx : Loc X.env.scope x := by first | exact Or.inl rfl | exact Or.inr rfl) (hf : X.fn x = true ∨ X.env.scope.names.lookup x = some .local := by first | exact .inl rfl | exact .inr rfl) : WS1 X A (.AugAssign (.Name x pos') op e pos) ρ n E := by
  intro ρ0 H0 σ H hh D f
  refine canS.of (ps_aug hN hi hx pcan ho hf) ?_
  obtain ⟨v, e1, r⟩ := slot_get hh.sat.sl hd
  refine ⟨v, e1, h ρ0 H0 σ H hh _ fun n1 ρ1 d w H1 h1 hh1 k1 r1 => ?_⟩
  obtain ⟨rfl, b, rfl, h1⟩ := h1
  cases (show Rep X.K (Mt A ρ1) H v (.int a) from r)
  cases r1
  exact ⟨a, b, rfl, rfl, f.nx _ _ _ _ h1 (hh1.set i (.int _))⟩
end
end RD

/-! RDG: promises of defs that also know that no container is being shown (so repr may be told). -/
namespace RD
open PySem PySem.Spec PyProof.Rows L2

/-- room for k calls, and nothing is being shown -/
structure Rm (k : Nat) (A : Around) : Prop where
  r : Room k A
  g : A.guards = some []
theorem Rm.mono {j k : Nat} {A : Around} (h : Rm k A) (l : j ≤ k) : Rm j A := ⟨h.r.mono l, h.g⟩
/-- a def keeps its promise -/
structure Fn (P : Program) (w : World) (K : PySem.W.Frag) (mg : Str → Option Value) (base : Heap) (CX : CXT) (k : Nat) (f : Addr) (fd : FuncData) (ps : List Str) (sp : Sp) : Prop where
  arity : ∀ vs H Q E, sp vs H Q E → vs.length = ps.length
  goes : ∀ A outer s H args us vs Q E, Rm k A → Env0 P w K mg base A outer s H → BindsTo s fd args (ps.zip us) → Vals vs us → sp vs H Q E →
    codeAny (model P w) A (.call (.ref f) args) (CR CX outer P w H s Q E) s
section
variable {P : Program} {w : World} {K : PySem.W.Frag} {mg : Str → Option Value} {base : Heap} {CX : CXT} {k : Nat} {f : Addr} {fd : FuncData} {ps : List Str} {sp : Sp}
theorem Fn.mono {j : Nat} (F : Fn P w K mg base CX j f fd ps sp) (h : j ≤ k) : Fn P w K mg base CX k f fd ps sp :=
  ⟨F.arity, fun A outer s H args us vs Q E r => F.goes A outer s H args us vs Q E (r.mono h)⟩
theorem Fn.of_ok (F : FnOk P w K mg base CX k f fd ps sp) : Fn P w K mg base CX k f fd ps sp := ⟨F.len, fun A outer s H args us vs Q E r => F.run A outer s H args us vs Q E r.r⟩
/-- by its body -/
theorem Fn.by_body {x qual : Str} {params : Arguments} {body : List Stmt} {scope : Scope} {dvs : List V} {kws : List (Str × V)} {N : List Str} (F : FunD K x qual params body scope dvs kws f fd) (S : FnScope N ps scope) (len : ∀ vs H Q E, sp vs H Q E → vs.length = ps.length)
    (hb : ∀ (cdv : Value) (A : Around) (outer : List Env) (s : Shared) (H : Hp) (vs : List V) (Q : VK) (E : XK), Rm k (A.deeper (envOfC qual scope s.heap.objs.size f cdv)) → sp vs H Q E →
      canSs (cxOf CX P w K mg base N qual scope f cdv A outer s H E) body { nx := fun _ H' => Q .non H', rt := Q } (L2.start N vs) H) : Fn P w K mg base CX (k + 1) f fd ps sp := by
  obtain ⟨oc, od, dV, kV, doc, pm, an, cdv, ct, osl, rfl, lk, hcd, -, -⟩ := F.ex
  constructor
  · exact len
  · intro A outer s H args us vs Q E rm e0 bnd rv hsp
    have there := fun (b : Addr) (o : Obj) (e : base.get? b = some o) => (e0.bs b o e).1
    have kin := e0.mod.kin.keeps there
    refine codeAny_call_function rm.r.depth (kin _ _ lk) rfl S.co S.gen rfl (PySem.W.codeRec_of kin hcd) (bnd _ _ _ _ ?_)
    refine wpAny_newFunctionEnv_cells S.kind ?kinds ?go
    case kinds =>
      rintro ⟨nm, vv⟩ hm
      have hmem := (List.of_mem_zip hm).1
      cases S.par nm hmem with
      | inl z => exact Or.inl z
      | inr z => exact Or.inr ⟨z, PySem.W.cellsFrom_some _ _ _ (Or.inl z)⟩
    case go =>
      rintro env rfl s1 ent
      have st : Inv (cxOf CX P w K mg base N qual scope f cdv A outer s H E) [] (L2.start N vs) H s1 := inv_start S rm.r.hd e0 (len vs H Q E hsp) rv ent
      refine ⟨(e0.mod.nolimit.keeps there).keeps ent.toInCall.keep, codeAny_func ?_⟩
      have run := hb cdv A outer s H vs Q E ⟨rm.r.deeper _, rm.g⟩ hsp [] s1 st
      refine wpAny_mono run ?ok fun e s' z => z
      case ok =>
        intro fl s' z
        have out : ∀ {σ' H' v u}, Inv (cxOf CX P w K mg base N qual scope f cdv A outer s H E) [] σ' H' s' → RelV v u → Q v H' → CE outer P w H s Q u s' := by
          intro σ' H' v u i rr q
          exact ⟨v, H', i.os, i.bare, i.base, i.hok, rr, q⟩
        match fl, z with
        | .ret _, ⟨_, _, _, i, rr, q⟩ => exact out i rr q
        | .next, ⟨_, _, i, q⟩ => exact out (v := V.non) (u := Value.none) i rfl q
        | .brk, ⟨_, _, _, q⟩ => exact q.elim
        | .cont, ⟨_, _, _, q⟩ => exact q.elim
end
section
variable {X : Cx} {CX : CXT} {k n : Nat} {f : Addr} {fd : FuncData} {ps ks : List Str} {sp : Sp} {E : XK} {x : Str} {p pos : Pos} {e : Expr} {es : List Expr} {kws : List Keyword} {t tk : TA} {g : List Value → List Value → List Value} {gV : List V → List V → List V}
  {pins : List (Addr × Obj)} {σ : L2.St} {H : Hp} {s : Shared} {Q : VK} {us ws ds : List Value} {vs zs dvs : List V}
/-- what comes back of a call -/
theorem came {args : Args} (hx : Passes CX X E) (I : Inv X pins σ H s) (h : codeAny (model X.prog X.w) X.A (.call (.ref f) args) (CR CX X.stack X.prog X.w H s Q E) s) :
    codeAny (model X.prog X.w) X.A (.call (.ref f) args) (fun r s' => match r with | .ok (.ret u) => EP X pins σ Q u s' | .ok _ => False | .error e => X.xe e s') s := by
  refine codeAny_mono h ?_
  intro r s' z
  match r, z with
  | .error e, z => exact hx pins σ H s e s' I z
  | .ok (.ret u), z => exact I.after z
  | .ok .next, z => exact z.elim
  | .ok .brk, z => exact z.elim
  | .ok .cont, z => exact z.elim
theorem Fn.at_ (F : Fn X.prog X.w X.K X.mg X.base CX k f fd ps sp) (rm : Rm k X.A) (hb : Binds X.K fd ps ds) (hd : Vals dvs ds) (hx : Passes CX X E) (I : Inv X pins σ H s) (r : Vals vs us) (h : sp (vs ++ dvs) H Q E) :
    wpAny (model X.prog X.w) X.A (call (.ref f) us) (EP X pins σ Q) X.xe s := by
  have rr := r.append hd
  have bnd := hb s us I.kIn (rr.length.symm.trans (F.arity _ _ _ _ h))
  have z := came (args := ⟨us, []⟩) hx I (F.goes _ _ _ _ _ _ _ _ _ rm I.env0 bnd rr h)
  refine wpAny_call (codeAny_mono z ?_)
  rintro (_ | _ | _ | _ | _) s' q <;> exact q
theorem Fn.atN (F : Fn X.prog X.w X.K X.mg X.base CX k f fd ps sp) (rm : Rm k X.A) (hb : KBn X.K fd ps n ks g gV) (hx : Passes CX X E) (I : Inv X pins σ H s) (r : Vals vs us) (rz : Vals zs ws) (l1 : vs.length = n) (l2 : zs.length = ks.length) (h : sp (gV vs zs) H Q E) :
    wpAny (model X.prog X.w) X.A (call (.ref f) us (ks.zip ws)) (EP X pins σ Q) X.xe s := by
  have bnd := hb.to s us ws I.kIn (r.length.symm.trans l1) (rz.length.symm.trans l2)
  have z := came (args := ⟨us, ks.zip ws⟩) hx I (F.goes _ _ _ _ _ _ _ _ _ rm I.env0 bnd (hb.rel r rz) h)
  refine wpAny_call (codeAny_mono z ?_)
  rintro (_ | _ | _ | _ | _) s' q <;> exact q
/-- f(e, ..) -/
theorem pg_call (F : Fn X.prog X.w X.K X.mg X.base CX k f fd ps sp) (rm : Rm k X.A) (hg : Gl X x) (hm : X.mg x = some (.ref f)) (hk : PySem.W.keepIn X.K (.ref f) = true) (hb : Binds X.K fd ps ds) (hd : Vals dvs ds) (hx : Passes CX X E)
    (ha : PA X (e :: es) t) (hdb : (x == ("__debug__" : Str)) = false := by decide) (he : starEach (e :: es) X.env = (false, eval e X.env) :: starEach es X.env := by rfl) (hpl : (backTo pos (starEach es X.env)).any (·.1) = false := by rfl) :
    PE X (.Call (.Name x p) (e :: es) [] pos) (tCall sp dvs E t) := by
  constructor
  intro pins s σ H Q I h
  refine wpAny_Call_Name_kw (ld_glob I hg hm ?_ hdb)
  have args := ha.run pos pins s σ H _ I h
  refine PySem.W.callWith_K (h₀ := X.base) I.ok.mod.kin hk (thn args ?_) he hpl
  rintro us s1 ⟨vs, H1, I1, r, q⟩
  exact ⟨I1.kIn, F.at_ rm hb hd hx I1 r q⟩
/-- f() -/
theorem pg_call0 (F : Fn X.prog X.w X.K X.mg X.base CX k f fd ps sp) (rm : Rm k X.A) (hg : Gl X x) (hm : X.mg x = some (.ref f)) (hk : PySem.W.keepIn X.K (.ref f) = true) (hb : Binds X.K fd ps ds) (hd : Vals dvs ds) (hx : Passes CX X E) (hdb : (x == ("__debug__" : Str)) = false := by decide) :
    PE X (.Call (.Name x p) [] [] pos) (tCall sp dvs E tNil) := by
  constructor
  intro pins s σ H Q I h
  refine wpAny_Call_Name_kw (ld_glob I hg hm ?_ hdb)
  exact PySem.W.callWith_K0 I.kIn hk (F.at_ (us := []) (vs := []) rm hb hd hx I .nil h)
/-- f(e, .., k = v, ..) -/
theorem pg_callN (F : Fn X.prog X.w X.K X.mg X.base CX k f fd ps sp) (rm : Rm k X.A) (hg : Gl X x) (hm : X.mg x = some (.ref f)) (hk : PySem.W.keepIn X.K (.ref f) = true) (hb : KBn X.K fd ps n ks g gV) (hx : Passes CX X E)
    (ha : PA X (e :: es) t) (hkw : PK X kws tk) (hall : (backToKw pos (keywordEach kws X.env)).all (·.1.isSome) = true := by rfl) (hks : (backToKw pos (keywordEach kws X.env)).filterMap (·.1) = ks := by rfl)
    (hdb : (x == ("__debug__" : Str)) = false := by decide) (he : starEach (e :: es) X.env = (false, eval e X.env) :: starEach es X.env := by rfl)
    (hpl : ((backTo pos (starEach (e :: es) X.env)).any (·.1) || (backToKw pos (keywordEach kws X.env)).any (·.1.isNone)) = false := by rfl) :
    PE X (.Call (.Name x p) (e :: es) kws pos) (tCallN n ks.length sp gV E t tk) := by
  constructor
  intro pins s σ H Q I h
  refine wpAny_Call_Name_kw (ld_glob I hg hm ?_ hdb)
  have args := ha.run pos pins s σ H _ I h
  refine PySem.W.callWith_KW (h₀ := X.base) I.ok.mod.kin hk hall (thn args ?_) hpl he
  rintro us s1 ⟨vs, H1, I1, r, q⟩
  have more := hkw.run pos pins s1 σ H1 _ I1 q
  refine thn more ?_
  rintro ws s2 ⟨zs, H2, I2, rz, l1, l2, q2⟩
  refine ⟨I2.kIn, ?_⟩
  rw [hks]
  exact F.atN rm hb hx I2 r rz l1 l2 q2
/-- f(k = v, ..): no value by place -/
def tCallN0 (m : Nat) (sp : Sp) (gV : List V → List V → List V) (E : XK) (tk : TA) : TE := fun σ H Q => tk σ H fun zs H2 => zs.length = m ∧ sp (gV [] zs) H2 Q E
theorem pg_callN0 (F : Fn X.prog X.w X.K X.mg X.base CX k f fd ps sp) (rm : Rm k X.A) (hg : Gl X x) (hm : X.mg x = some (.ref f)) (hk : PySem.W.keepIn X.K (.ref f) = true) (hb : KBn X.K fd ps 0 ks g gV) (hx : Passes CX X E)
    (hkw : PK X kws tk) (hall : (backToKw pos (keywordEach kws X.env)).all (·.1.isSome) = true := by rfl) (hks : (backToKw pos (keywordEach kws X.env)).filterMap (·.1) = ks := by rfl)
    (hdb : (x == ("__debug__" : Str)) = false := by decide) (hpl : ((backTo pos (starEach [] X.env)).any (·.1) || (backToKw pos (keywordEach kws X.env)).any (·.1.isNone)) = false := by rfl) :
    PE X (.Call (.Name x p) [] kws pos) (tCallN0 ks.length sp gV E tk) := by
  constructor
  intro pins s σ H Q I h
  refine wpAny_Call_Name_kw (ld_glob I hg hm ?_ hdb)
  refine PySem.W.callWith_KW0 (h₀ := X.base) I.ok.mod.kin hk hall ?_ hpl
  have more := hkw.run pos pins s σ H _ I h
  refine thn more ?_
  rintro ws s2 ⟨zs, H2, I2, rz, l2, q2⟩
  refine ⟨I2.kIn, ?_⟩
  rw [hks]
  exact F.atN (us := []) (vs := []) rm hb hx I2 .nil rz rfl l2 q2
end

/-! ### the end of a law -/
section
variable {P : Program} {w : World} {K : PySem.W.Frag} {mg mb : Str → Option Value} {k : Nat} {fa a : Addr} {fd : FuncData} {x : Str} {sp : Sp} {s₁ : Shared} {vs : List Value} {ns : List Int}
/-- from a heap where at most the script is tracked -/
theorem law_from (KX : K.In s₁.heap) (hns : s₁.heap.Ns mainGlobals mg) (hb : s₁.heap.Ns builtinsNs mb) (hbb : ∀ y : Str, y ≠ "__name__" → mb y = bootBuiltins y) (hlim : s₁.heap.NoLimit) (hg : s₁.gens = #[])
    (ha : s₁.heap.get? a = some { cls := .type "list", data := .seq vs.toArray }) (rm : Rm k callerA)
    (F : ∀ base : Heap, K.In base → base.Ns mainGlobals mg → Fn P w K mg base CX0 k fa fd [x] sp) (bnd : ∀ (s : Shared) (u : Value), BindsTo s fd ⟨[u], []⟩ [(x, u)])
    (H : Hp) (only : ∀ b, H b = none ∨ (b = a ∧ ∃ o xs, H b = some (.frz o (.lst xs)))) (hok : HOk P w H s₁.heap) (hK : H a ≠ none → K.lookup a = none) (hsp : sp [.ref a] H (fun v _ => v = .bl true) fun _ _ _ => False) :
    codeAny (model P w) callerA (.call (.ref fa) ⟨[.ref a], []⟩) (fun r s' => r = .ok (.ret (.bool true)) ∧ OldK s₁.heap s'.heap ∧ s'.os = s₁.os ∧ AllBare s'.gens) s₁ := by
  have isA : ∀ b, H b ≠ none → b = a := fun b z => (only b).elim (fun y => absurd y z) fun y => y.1
  have off : ∀ b o, s₁.heap.get? b = some o → (b = a → False) → (hidT s₁.heap H).get? b = some o := fun b o e z => hidT_get e (by
    cases q : H b with
    | none => rfl
    | some u => exact (z (isA b (by simp [q]))).elim)
  have ns' : ∀ {b : Addr} {m : Str → Option Value}, s₁.heap.Ns b m → (hidT s₁.heap H).Ns b m := by
    rintro b m ⟨o, es, ep, e, d, r⟩
    refine ⟨o, es, ep, off b o e ?_, d, r⟩
    rintro rfl
    cases ha.symm.trans e
    cases d
  have kin' : K.In (hidT s₁.heap H) := fun b o e => by
    cases q : H b with
    | none => exact hidT_get (KX b o e) q
    | some u =>
      have e' := isA b (by simp [q])
      subst e'
      cases (hK (by simp [q])).symm.trans e
  have md : Mod K mg (hidT s₁.heap H) := by
    obtain ⟨mc, l1, l2⟩ := hlim
    exact ⟨kin', ns' hns, ⟨mb, ns' hb, hbb⟩, ⟨mc, ns' l1, l2⟩⟩
  have e0 : Env0 P w K mg (hidT s₁.heap H) callerA [] s₁ H := by
    refine ⟨rfl, md, fun b o => of_hidT, Nat.le_of_eq (hidT_size _ _), trivial, ?_, hok, .of_eq hg⟩
    intro b z
    cases z
  have run := (F _ kin' (ns' hns)).goes callerA [] s₁ H ⟨[.ref a], []⟩ [.ref a] [.ref a] _ _ rm e0 (bnd s₁ (.ref a)) (.cons rfl .nil) hsp
  refine codeAny_mono run ?_
  intro r s' z
  match r, z with
  | .error _, z => exact z.elim
  | .ok .next, z => exact z.elim
  | .ok .brk, z => exact z.elim
  | .ok .cont, z => exact z.elim
  | .ok (.ret u), ⟨v, H', os, bare, un, hok', rv, q⟩ =>
    cases (show v = .bl true from q)
    cases (show u = Value.bool true from rv)
    refine ⟨rfl, .of_keep ?_, os, bare⟩
    intro b o e
    rcases only b with q | ⟨_, ob, xs, q⟩
    · exact un.keep b o e q (fun y => nomatch y) (fun y => nomatch y)
    · have e1 := (hok b _ q).1
      have e2 := (hok' b _ (un.frzs b ob _ q)).1
      cases e1.symm.trans e
      exact e2
theorem law_all (KX : K.In s₁.heap) (hns : s₁.heap.Ns mainGlobals mg) (hb : s₁.heap.Ns builtinsNs mb) (hbb : ∀ y : Str, y ≠ "__name__" → mb y = bootBuiltins y) (hlim : s₁.heap.NoLimit) (hg : s₁.gens = #[])
    (ha : s₁.heap.get? a = some { cls := .type "list", data := .seq vs.toArray }) (hi : IntsAre vs ns) (hl : ns.length ≤ sizeLine) (rm : Rm k callerA)
    (F : ∀ base : Heap, K.In base → base.Ns mainGlobals mg → Fn P w K mg base CX0 k fa fd [x] sp) (bnd : ∀ (s : Shared) (u : Value), BindsTo s fd ⟨[u], []⟩ [(x, u)])
    (hsp : ∀ H : Hp, SqL K H a (ns.map V.int) → (H a = none ∨ ∃ o xs, H a = some (.frz o (.lst xs))) → (∀ b, b ≠ a → H b = none) → sp [.ref a] H (fun v _ => v = .bl true) fun _ _ _ => False) :
    codeAny (model P w) callerA (.call (.ref fa) ⟨[.ref a], []⟩) (fun r s' => r = .ok (.ret (.bool true)) ∧ OldK s₁.heap s'.heap ∧ s'.os = s₁.os ∧ AllBare s'.gens) s₁ := by
  have rv := vals_ints hi
  cases hk : K.lookup a with
  | some o =>
    have e := KX a o hk
    cases ha.symm.trans e
    have sq : SqL K (fun _ => none) a (ns.map V.int) := Or.inr ⟨_, vs.toArray, _, hk, rfl, rfl, rfl, by rw [List.size_toArray, hi.length]; exact hl, by simpa using rv⟩
    exact law_from KX hns hb hbb hlim hg ha rm F bnd (fun _ => none) (fun _ => Or.inl rfl) (fun _ _ z => nomatch z) (fun z => absurd rfl z) (hsp _ sq (Or.inl rfl) fun _ _ => rfl)
  | none =>
    let H1 : Hp := fun b => if b = a then some (.frz { cls := .type "list", data := .seq vs.toArray } (.lst (ns.map V.int))) else none
    have at_a : H1 a = some (.frz { cls := .type "list", data := .seq vs.toArray } (.lst (ns.map V.int))) := if_pos rfl
    have at_b : ∀ b, b ≠ a → H1 b = none := fun b z => if_neg z
    refine law_from KX hns hb hbb hlim hg ha rm F bnd H1 ?_ ?_ (fun _ => hk) (hsp H1 (Or.inl (Or.inr ⟨_, at_a⟩)) (Or.inr ⟨_, _, at_a⟩) at_b)
    · intro b
      by_cases z : b = a
      · subst z; exact Or.inr ⟨rfl, _, _, at_a⟩
      · exact Or.inl (at_b b z)
    · intro b u e
      by_cases z : b = a
      · subst z
        cases at_a.symm.trans e
        refine ⟨ha, ?_, vs, _, rv, ha⟩
        rw [List.length_map]; exact hl
      · cases (at_b b z).symm.trans e
end
/-- the goal that the head leaves, from the law's promise; the script's bits are told -/
theorem law_end {l : PySem.W.OpenLaw} {n k : Nat} {q : Program} {loose : List Str} {XP : (Str → Option Value) → Heap → Prop} {YP : World → Heap → Prop} {d : DefRec} {K : Params → PySem.W.Frag} {sp : World → Sp} {x : Str}
    (hn : l.most = some n) (hn2 : n ≤ sizeLine) (hdf : d.params.defaults = []) (hr : Room k callerA) (hY : ∀ w h, YP w h → (K w.params).In h)
    (F : ∀ (w : World) (mg : Str → Option Value) (fa : Addr) (h : Heap), (K w.params).In h → h.Ns mainGlobals mg → mg d.name = some (.ref fa) → ∃ fd : FuncData, (∀ (s : Shared) (u : Value), BindsTo s fd ⟨[u], []⟩ [(x, u)]) ∧ ∀ base : Heap, (K w.params).In base → base.Ns mainGlobals mg → Fn l.prog w (K w.params) mg base CX0 k fa fd [x] (sp w))
    (hsp : ∀ (w : World) (H : Hp) (a : Addr) (ns : List Int), ns.length ≤ n → (∀ z ∈ ns, Builtin.Int.intBits z ≤ 1048576) → SqL (K w.params) H a (ns.map V.int) → (H a = none ∨ ∃ o xs, H a = some (.frz o (.lst xs))) → (∀ b, b ≠ a → H b = none) → sp w [.ref a] H (fun v _ => v = .bl true) fun _ _ _ => False) :
    PySem.W.WalkO q loose XP YP l.row.toRowW d [] (fun f vs => PySem.call f vs) := by
  refine Att.attach_callB hn hdf ?_
  intro w s₀ s₁ mg mb fa o pm cd doc a vs ns G Y _ _ _ hmg hobj hints hlen hbits hg
  obtain ⟨fd, bnd, hF⟩ := F w mg fa _ (hY w _ Y) G.T.g hmg
  exact law_all (hY w _ Y) G.T.g G.T.b G.T.builtins G.T.nolimit hg hobj hints (Nat.le_trans hlen hn2) ⟨hr, rfl⟩ hF bnd fun H h1 h2 h3 => hsp w H a ns hlen hbits h1 h2 h3
end RD

/-! RD4: calls, defs; lists of one's own changed; list comprehensions. -/
namespace RD
open PySem PySem.Spec PyProof.Rows L2

/-! ### the promise of a def -/
/-- a def that changes nothing: R tells what it may come to, from its arguments -/
def spF (K : PySem.W.Frag) (R : List D → (D → Prop) → Prop) : Sp := fun vs H Q _ => ∃ (W : List Addr) (ds : List D) (k : D → Prop), (∀ a ∈ W, H a ≠ none) ∧ W.Nodup ∧ RepAll K (· ∈ W) H vs ds ∧ R ds k ∧
  ∀ d v H', k d → (∀ a o, H a = some o → H' a = some o) → Rep K (· ∈ W) H' v d → Q v H'
/-- a def that draws: p the pen, n the draws that are left -/
def spP (K : PySem.W.Frag) (R : Addr → Nat → List D → (Nat → D → Prop) → Prop) : Sp := fun vs H Q _ => ∃ (W : List Addr) (p c : Addr) (n : Nat) (ds : List D) (k : Nat → D → Prop), (∀ a ∈ W, H a ≠ none) ∧ W.Nodup ∧ p ∈ W ∧ c ∈ W ∧ p ≠ c ∧ PenAt p c n H ∧
  RepAll K (· ∈ W) H vs ds ∧ R p n ds k ∧ ∀ n' d v H', k n' d → (∀ a o, a ≠ p → H a = some o → H' a = some o) → PenAt p c n' H' → Rep K (· ∈ W) H' v d → Q v H'

/-- the names at the entry -/
def startD (N : List Str) (ds : List D) : En := ds.map (fun d => some (.dat d)) ++ List.replicate (N.length - ds.length) none
theorem owns_startD (N : List Str) (ds : List D) : owns (startD N ds) = [] := by
  unfold startD
  have h1 : ∀ m, owns (List.replicate m none) = [] := by
    intro m
    induction m with
    | zero => rfl
    | succ m ih => rw [List.replicate_succ]; show [] ++ owns (List.replicate m none) = []; rw [ih]; rfl
  induction ds generalizing N with
  | nil => exact h1 _
  | cons d ds ih =>
    show [] ++ owns (ds.map (fun d => some (.dat d)) ++ List.replicate (N.length - (ds.length + 1)) none) = []
    rw [List.nil_append]
    cases N with
    | nil => simpa [startD] using ih []
    | cons x N => have := ih N; simpa [startD] using this
theorem paired_startD {K : PySem.W.Frag} {M : Addr → Prop} {H : Hp} (N : List Str) : ∀ {ds : List D} {vs : List V}, RepAll K M H vs ds → Paired (SlotR K M H) (startD N ds) (L2.start N vs) := fun {ds vs} r => by
  unfold startD L2.start
  have h1 : ∀ m, Paired (SlotR K M H) (List.replicate m none) (List.replicate m none) := by
    intro m
    induction m with
    | zero => exact .nil
    | succ m ih => exact .cons trivial ih
  rw [r.length]
  have : ∀ {ds : List D} {vs : List V} (l : En) (m : L2.St), RepAll K M H vs ds → Paired (SlotR K M H) l m → Paired (SlotR K M H) (ds.map (fun d => some (.dat d)) ++ l) (vs.map some ++ m) := by
    intro ds vs l m r hl
    induction vs generalizing ds with
    | nil => cases r; exact hl
    | cons v vs ih =>
      cases r with
      | cons r1 r2 => exact .cons r1 (ih r2)
  exact this _ _ r (h1 _)
theorem mt_start {A : Amb} {N : List Str} {ds : List D} : ∀ a, Mt A (startD N ds) a ↔ a ∈ A.W := fun a => by
  unfold Mt
  rw [owns_startD]
  simp
section
variable {P : Program} {w : World} {K : PySem.W.Frag} {mg : Str → Option Value} {base : Heap} {x qual : Str} {params : Arguments} {body : List Stmt} {scope : Scope} {dvs : List V} {kws : List (Str × V)} {f : Addr} {fd : FuncData} {N ps : List Str} {k : Nat}
/-- THE RULE for a def that changes nothing -/
theorem fn_pure {R : List D → (D → Prop) → Prop} (F : FunD K x qual params body scope dvs kws f fd) (S : FnScope N ps scope) (len : ∀ ds kk, R ds kk → ds.length = ps.length)
    (hbody : ∀ (cdv : Value) (A0 : Around) (outer : List Env) (s : Shared) (H : Hp) (E : XK) (A : Amb) (ds : List D) (kk : D → Prop), Rm k (A0.deeper (envOfC qual scope s.heap.objs.size f cdv)) → A.pen = none → R ds kk →
      WS (cxOf CX0 P w K mg base N qual scope f cdv A0 outer s H E).nox A body (startD N ds) 0 { nx := fun _ _ => kk .non, rt := fun _ _ d => kk d }) : Fn P w K mg base CX0 (k + 1) f fd ps (spF K R) := by
  refine Fn.by_body F S (fun vs H Q E h => ?_) fun cdv A0 outer s H vs Q E hr h => ?_
  · obtain ⟨W, ds, kk, _, _, r, hR, _⟩ := h
    rw [r.length]
    exact len ds kk hR
  · obtain ⟨W, ds, kk, htr, hnd, r, hR, q⟩ := h
    have hA : ∀ {D_ : Ends}, D_ = ({ nx := fun _ H' => Q .non H', rt := Q } : Ends) → canSs (cxOf CX0 P w K mg base N qual scope f cdv A0 outer s H E).nox body D_ (L2.start N vs) H := by
      rintro _ rfl
      have mt : ∀ a, Mt { W := W, H0 := H, pen := none } (startD N ds) a ↔ a ∈ W := mt_start
      have r' : RepAll K (Mt { W := W, H0 := H, pen := none } (startD N ds)) H vs ds := RepAll.mono (fun a o m e => ⟨e, fun z => m ((mt a).mp z)⟩) ds r
      have fin : ∀ {n : Nat} {ρ : En} {σ : L2.St} {H' : Hp} {v : V} {d : D}, kk d → Here K { W := W, H0 := H, pen := none } (startD N ds) H n ρ σ H' → Rep K (Mt { W := W, H0 := H, pen := none } ρ) H' v d → Q v H' := fun {n ρ σ H' v d} hk hh rr => by
        refine q d v H' hk (fun a o e => (hh.kp a o ?_ (fun z => z) e).1) (Rep.mono (fun a o m e => ⟨e, fun z => m (.inr z)⟩) d rr)
        rw [owns_startD]; simp
      refine hbody cdv A0 outer s H E { W := W, H0 := H, pen := none } ds kk hr rfl hR (startD N ds) H (L2.start N vs) H ⟨.refl, ⟨fun _ _ _ => rfl, htr, trivial⟩, ⟨paired_startD N r', ?_⟩⟩ _ ⟨?_, ?_, ?_, ?_⟩
      · rw [owns_startD]; simpa using hnd
      · intro n ρ σ H' h1 hh
        exact fin h1 hh .non
      · intro n ρ σ H' d v h1 hh rr
        exact fin h1 hh rr
      · intro n ρ σ H' h1 _
        exact h1
      · intro n ρ σ H' h1 _
        exact h1
    exact canSs.of (sscan (X := (cxOf CX0 P w K mg base N qual scope f cdv A0 outer s H E).nox) (st := body)).nox (hA rfl)
/-- THE RULE for a def that draws -/
theorem fn_pen {R : Addr → Nat → List D → (Nat → D → Prop) → Prop} (F : FunD K x qual params body scope dvs kws f fd) (S : FnScope N ps scope) (len : ∀ p n ds kk, R p n ds kk → ds.length = ps.length)
    (hbody : ∀ (cdv : Value) (A0 : Around) (outer : List Env) (s : Shared) (H : Hp) (E : XK) (A : Amb) (p c : Addr) (n : Nat) (ds : List D) (kk : Nat → D → Prop), Rm k (A0.deeper (envOfC qual scope s.heap.objs.size f cdv)) → A.pen = some (p, c) → R p n ds kk →
      WS (cxOf CX0 P w K mg base N qual scope f cdv A0 outer s H E).nox A body (startD N ds) n { nx := fun n _ => kk n .non, rt := fun n _ d => kk n d }) : Fn P w K mg base CX0 (k + 1) f fd ps (spP K R) := by
  refine Fn.by_body F S (fun vs H Q E h => ?_) fun cdv A0 outer s H vs Q E hr h => ?_
  · obtain ⟨W, p, c, n, ds, kk, _, _, _, _, _, _, r, hR, _⟩ := h
    rw [r.length]
    exact len p n ds kk hR
  · obtain ⟨W, p, c, n, ds, kk, htr, hnd, hp, hc, hpc, pen, r, hR, q⟩ := h
    have hA : ∀ {D_ : Ends}, D_ = ({ nx := fun _ H' => Q .non H', rt := Q } : Ends) → canSs (cxOf CX0 P w K mg base N qual scope f cdv A0 outer s H E).nox body D_ (L2.start N vs) H := by
      rintro _ rfl
      have mt : ∀ a, Mt { W := W, H0 := H, pen := some (p, c) } (startD N ds) a ↔ a ∈ W := mt_start
      have r' : RepAll K (Mt { W := W, H0 := H, pen := some (p, c) } (startD N ds)) H vs ds := RepAll.mono (fun a o m e => ⟨e, fun z => m ((mt a).mp z)⟩) ds r
      have fin : ∀ {n : Nat} {ρ : En} {σ : L2.St} {H' : Hp} {v : V} {d : D}, kk n d → Here K { W := W, H0 := H, pen := some (p, c) } (startD N ds) H n ρ σ H' → Rep K (Mt { W := W, H0 := H, pen := some (p, c) } ρ) H' v d → Q v H' := fun {n ρ σ H' v d} hk hh rr => by
        refine q n d v H' hk (fun a o hne e => (hh.kp a o ?_ hne e).1) hh.j.2.2.2.2.2 (Rep.mono (fun a o m e => ⟨e, fun z => m (.inr z)⟩) d rr)
        rw [owns_startD]; simp
      refine hbody cdv A0 outer s H E { W := W, H0 := H, pen := some (p, c) } p c n ds kk hr rfl hR (startD N ds) H (L2.start N vs) H ⟨.refl, ⟨fun _ _ _ => rfl, htr, hp, hc, hpc, pen⟩, ⟨paired_startD N r', ?_⟩⟩ _ ⟨?_, ?_, ?_, ?_⟩
      · rw [owns_startD]; simpa using hnd
      · intro n ρ σ H' h1 hh
        exact fin h1 hh .non
      · intro n ρ σ H' d v h1 hh rr
        exact fin h1 hh rr
      · intro n ρ σ H' h1 _
        exact h1
      · intro n ρ σ H' h1 _
        exact h1
    exact canSs.of (sscan (X := (cxOf CX0 P w K mg base N qual scope f cdv A0 outer s H E).nox) (st := body)).nox (hA rfl)
end

/-! ### the calls -/
theorem owns_there {K : PySem.W.Frag} {M : Addr → Prop} {H : Hp} : ∀ {ρ : En} {σ : L2.St}, Paired (SlotR K M H) ρ σ → ∀ a ∈ owns ρ, H a ≠ none := by
  intro ρ σ r
  induction r with
  | nil => intro a h; simp [owns] at h
  | @cons s v l m r t ih =>
    intro a h
    rcases List.mem_append.mp (show a ∈ addrs s ++ owns l from h) with h | h
    · cases s with
      | none => simp [addrs] at h
      | some s =>
        cases v with
        | none => cases s <;> exact r.elim
        | some v =>
          cases s with
          | dat d => simp [addrs] at h
          | own q ds =>
            simp [addrs] at h
            subst h
            obtain ⟨_, vs, e, _⟩ := r
            rw [e]; simp
          | ownK q ds =>
            simp [addrs] at h
            subst h
            obtain ⟨_, vs, e, _⟩ := r
            rw [e]; simp
    · exact ih a h
/-- all that was there stands -/
theorem Here.stay {K : PySem.W.Frag} {A : Amb} {ρ0 : En} {H0 H H' : Hp} {n : Nat} {ρ : En} {σ : L2.St} (h : Here K A ρ0 H0 n ρ σ H) (e : ∀ a o, H a = some o → H' a = some o) : Here K A ρ0 H0 n ρ σ H' ∧ Keeps A ρ H ρ H' := by
  have kp : Keeps A ρ H ρ H' := fun a o m _ q => ⟨e a o q, m⟩
  have same : ∀ a, H a ≠ none → H' a = H a := fun a z => by
    cases q : H a with
    | none => exact absurd q z
    | some o => exact e a o q
  refine ⟨⟨h.kp.trans kp, ⟨fun a ha hp => (same a (h.j.2.1 a ha)).trans (h.j.1 a ha hp), fun a ha => by rw [same a (h.j.2.1 a ha)]; exact h.j.2.1 a ha, ?_⟩, ⟨paired_mono (fun _ _ r => slotR_mono e r) h.sat.sl, h.sat.nd⟩⟩, kp⟩
  have j := h.j.2.2
  cases hq : A.pen with
  | none => trivial
  | some pc =>
    obtain ⟨p, c⟩ := pc
    rw [hq] at j
    obtain ⟨h1, h2, h3, at_, rest, ns, e1, e2, r⟩ := j
    exact ⟨h1, h2, h3, at_, rest, ns, e _ _ e1, e _ _ e2, r⟩
/-- all but the pen stands -/
theorem Here.drawn {K : PySem.W.Frag} {A : Amb} {ρ0 : En} {H0 H H' : Hp} {n n' : Nat} {ρ : En} {σ : L2.St} {p c : Addr} (h : Here K A ρ0 H0 n ρ σ H) (hp : A.pen = some (p, c)) (e : ∀ a o, a ≠ p → H a = some o → H' a = some o) (pen : PenAt p c n' H') : Here K A ρ0 H0 n' ρ σ H' ∧ Keeps A ρ H ρ H' := by
  have isp : ∀ a, A.isPen a ↔ a = p := fun a => by unfold Amb.isPen; rw [hp]
  have kp : Keeps A ρ H ρ H' := fun a o m z q => ⟨e a o (fun y => z ((isp a).mpr y)) q, m⟩
  have same : ∀ a, a ≠ p → H a ≠ none → H' a = H a := fun a y z => by
    cases q : H a with
    | none => exact absurd q z
    | some o => exact e a o y q
  have j := h.j.2.2
  rw [hp] at j
  obtain ⟨h1, h2, h3, _⟩ := j
  have pnone : H' p ≠ none := by
    obtain ⟨at_, rest, ns, e1, _⟩ := pen
    rw [e1]; simp
  refine ⟨⟨h.kp.trans kp, ⟨fun a ha hn => (same a (fun z => hn ((isp a).mpr z)) (h.j.2.1 a ha)).trans (h.j.1 a ha hn), fun a ha => ?_, ?_⟩, ⟨?_, h.sat.nd⟩⟩, kp⟩
  · by_cases z : a = p
    · rw [z]; exact pnone
    · rw [same a z (h.j.2.1 a ha)]; exact h.j.2.1 a ha
  · rw [hp]; exact ⟨h1, h2, h3, pen⟩
  · have hM : Mt A ρ p := .inr h1
    have hno : ∀ a ∈ owns ρ, a ≠ p := fun a ha z => by
      have := h.sat.nd
      rw [List.nodup_append] at this
      exact this.2.2 a ha p h1 z
    have up : ∀ a o, ¬ Mt A ρ a → H a = some o → H' a = some o ∧ ¬ Mt A ρ a := fun a o m q => ⟨e a o (fun z => m (by rw [z]; exact hM)) q, m⟩
    have : ∀ {ρ' : En} {σ' : L2.St}, Paired (SlotR K (Mt A ρ) H) ρ' σ' → (∀ a ∈ owns ρ', a ≠ p) → Paired (SlotR K (Mt A ρ) H') ρ' σ' := by
      intro ρ' σ' r
      induction r with
      | nil => intro _; exact .nil
      | @cons s v l m r t ih =>
        intro hn
        refine .cons ?_ (ih fun a ha => hn a (by show a ∈ addrs s ++ owns l; exact List.mem_append_right _ ha))
        cases s with
        | none => cases v <;> trivial
        | some s =>
          cases v with
          | none => cases s <;> exact r
          | some v =>
            cases s with
            | dat d => exact Rep.mono up d r
            | own q ds =>
              obtain ⟨e0, vs, e1, e2⟩ := r
              exact ⟨e0, vs, e _ _ (hn q (by show q ∈ [q] ++ owns l; simp)) e1, RepAll.mono up ds e2⟩
            | ownK q ds =>
              obtain ⟨e0, vs, e1, e2⟩ := r
              exact ⟨e0, vs, e _ _ (hn q (by show q ∈ [q] ++ owns l; simp)) e1, RepKV.mono up ds e2⟩
    exact this h.sat.sl hno
theorem mt_mem {A : Amb} {ρ : En} : ∀ a, Mt A ρ a ↔ a ∈ owns ρ ++ A.W := fun a => List.mem_append.symm
theorem Here.tracked {K : PySem.W.Frag} {A : Amb} {ρ0 : En} {H0 H : Hp} {n : Nat} {ρ : En} {σ : L2.St} (h : Here K A ρ0 H0 n ρ σ H) : ∀ a ∈ owns ρ ++ A.W, H a ≠ none := fun a ha => by
  rcases List.mem_append.mp ha with z | z
  · exact owns_there h.sat.sl a z
  · exact h.j.2.1 a z
section
variable {X : Cx} {A : Amb} {ρ : En} {n lv : Nat} {e : Expr} {es : List Expr} {kws : List Keyword} {x : Str} {p pos : Pos} {f : Addr} {fd : FuncData} {ps ks : List Str} {R : List D → (D → Prop) → Prop} {RP : Addr → Nat → List D → (Nat → D → Prop) → Prop} {k : Nat → En → D → Prop} {dvs : List V} {dds : List D} {us : List Value}
theorem spF_of {Q : VK} {E : XK} {ρ0 : En} {H0 H1 : Hp} {σ : L2.St} {vs : List V} {ds : List D} {kk : D → Prop} (hh : Here X.K A ρ0 H0 n ρ σ H1) (r : RepAll X.K (Mt A ρ) H1 vs ds) (hR : R ds kk)
    (q : ∀ d v H', kk d → Here X.K A ρ0 H0 n ρ σ H' → Keeps A ρ H1 ρ H' → Rep X.K (Mt A ρ) H' v d → Q v H') : spF X.K R vs H1 Q E := by
  refine ⟨owns ρ ++ A.W, ds, kk, hh.tracked, hh.sat.nd, RepAll.mono (fun a o m e => ⟨e, fun z => m ((mt_mem a).mpr z)⟩) ds r, hR, fun d v H' hk st rr => ?_⟩
  obtain ⟨h1, h2⟩ := hh.stay st
  exact q d v H' hk h1 h2 (Rep.mono (fun a o m e => ⟨e, fun z => m ((mt_mem a).mp z)⟩) d rr)
/-- f(e, ..); dds: the defaults that fill up -/
theorem we_call (F : Fn X.prog X.w X.K X.mg X.base CX0 lv f fd ps (spF X.K R)) (hr : Rm lv X.A) (hm : X.mg x = some (.ref f)) (hk : PySem.W.keepIn X.K (.ref f) = true) (hb : Binds X.K fd ps us) (hd : Vals dvs us) (hdd : ∀ M H, RepAll X.K M H dvs dds)
    (h : WA X A (e :: es) ρ n fun n ρ ds => R (ds ++ dds) (k n ρ)) (hg : Gl X x := by rfl) (hdb : (x == ("__debug__" : Str)) = false := by decide) (he : starEach (e :: es) X.env = (false, eval e X.env) :: starEach es X.env := by rfl) (hpl : (backTo pos (starEach es X.env)).any (·.1) = false := by rfl) :
    WE X A (.Call (.Name x p) (e :: es) [] pos) ρ n k := by
  intro ρ0 H0 σ H hh Q q
  refine canE.of (pg_call F hr hg hm hk hb hd pass0 acan hdb he hpl) ?_
  refine h ρ0 H0 σ H hh _ fun n1 ρ1 ds vs H1 h1 hh1 k1 r1 => ?_
  exact spF_of hh1 (r1.append (hdd _ _)) h1 fun d v H' hk hh' kp rr => q n1 ρ1 d v H' hk hh' (k1.trans kp) rr
/-- f(e, .., k = v, ..) -/
theorem we_callN {gV : List V → List V → List V} {g : List Value → List Value → List Value} {m : Nat} (gD : List D → List D → List D) (F : Fn X.prog X.w X.K X.mg X.base CX0 lv f fd ps (spF X.K R)) (hr : Rm lv X.A) (hm : X.mg x = some (.ref f)) (hk : PySem.W.keepIn X.K (.ref f) = true) (hb : KBn X.K fd ps m ks g gV)
    (hgD : ∀ M H vs ds zs es, RepAll X.K M H vs ds → RepAll X.K M H zs es → vs.length = m → zs.length = ks.length → RepAll X.K M H (gV vs zs) (gD ds es))
    (h : WA X A (e :: es) ρ n fun n ρ ds => ds.length = m ∧ WK X A kws ρ n fun n ρ zs => zs.length = ks.length ∧ R (gD ds zs) (k n ρ)) (hg : Gl X x := by rfl) (hall : (backToKw pos (keywordEach kws X.env)).all (·.1.isSome) = true := by rfl) (hks : (backToKw pos (keywordEach kws X.env)).filterMap (·.1) = ks := by rfl)
    (hdb : (x == ("__debug__" : Str)) = false := by decide) (he : starEach (e :: es) X.env = (false, eval e X.env) :: starEach es X.env := by rfl)
    (hpl : ((backTo pos (starEach (e :: es) X.env)).any (·.1) || (backToKw pos (keywordEach kws X.env)).any (·.1.isNone)) = false := by rfl) : WE X A (.Call (.Name x p) (e :: es) kws pos) ρ n k := by
  intro ρ0 H0 σ H hh Q q
  refine canE.of (pg_callN F hr hg hm hk hb pass0 acan kcan hall hks hdb he hpl) ?_
  refine h ρ0 H0 σ H hh _ fun n1 ρ1 ds vs H1 h1 hh1 k1 r1 => ?_
  refine h1.2 ρ0 H0 σ H1 hh1 _ fun n2 ρ2 es' zs H2 h2 hh2 k2 r2 => ?_
  have l1 : vs.length = m := r1.length.trans h1.1
  have l2 : zs.length = ks.length := r2.length.trans h2.1
  refine ⟨l1, l2, ?_⟩
  exact spF_of hh2 (hgD _ _ _ _ _ _ (r1.up hh1.j k2) r2 l1 l2) h2.2 fun d v H' hk hh' kp rr => q n2 ρ2 d v H' hk hh' ((k1.trans k2).trans kp) rr
/-- f(k = v, ..): no value by place -/
theorem we_callN0 {gV : List V → List V → List V} {g : List Value → List Value → List Value} (gD : List D → List D) (F : Fn X.prog X.w X.K X.mg X.base CX0 lv f fd ps (spF X.K R)) (hr : Rm lv X.A) (hm : X.mg x = some (.ref f)) (hk : PySem.W.keepIn X.K (.ref f) = true) (hb : KBn X.K fd ps 0 ks g gV)
    (hgD : ∀ M H zs es, RepAll X.K M H zs es → zs.length = ks.length → RepAll X.K M H (gV [] zs) (gD es))
    (h : WK X A kws ρ n fun n ρ zs => zs.length = ks.length ∧ R (gD zs) (k n ρ)) (hg : Gl X x := by rfl) (hall : (backToKw pos (keywordEach kws X.env)).all (·.1.isSome) = true := by rfl) (hks : (backToKw pos (keywordEach kws X.env)).filterMap (·.1) = ks := by rfl)
    (hdb : (x == ("__debug__" : Str)) = false := by decide)
    (hpl : ((backTo pos (starEach [] X.env)).any (·.1) || (backToKw pos (keywordEach kws X.env)).any (·.1.isNone)) = false := by rfl) : WE X A (.Call (.Name x p) [] kws pos) ρ n k := by
  intro ρ0 H0 σ H hh Q q
  refine canE.of (pg_callN0 F hr hg hm hk hb pass0 kcan hall hks hdb hpl) ?_
  refine h ρ0 H0 σ H hh _ fun n2 ρ2 es' zs H2 h2 hh2 k2 r2 => ?_
  have l2 : zs.length = ks.length := r2.length.trans h2.1
  refine ⟨l2, ?_⟩
  exact spF_of hh2 (hgD _ _ _ _ r2 l2) h2.2 fun d v H' hk hh' kp rr => q n2 ρ2 d v H' hk hh' (k2.trans kp) rr
/-- f(pen, ..) -/
theorem we_pen {pn cn : Addr} (F : Fn X.prog X.w X.K X.mg X.base CX0 lv f fd ps (spP X.K RP)) (hr : Rm lv X.A) (hm : X.mg x = some (.ref f)) (hk : PySem.W.keepIn X.K (.ref f) = true) (hb : Binds X.K fd ps us) (hd : Vals dvs us) (hdd : ∀ M H, RepAll X.K M H dvs dds) (hA : A.pen = some (pn, cn))
    (h : WA X A (e :: es) ρ n fun n ρ ds => RP pn n (ds ++ dds) (fun n' d => k n' ρ d)) (hg : Gl X x := by rfl) (hdb : (x == ("__debug__" : Str)) = false := by decide) (he : starEach (e :: es) X.env = (false, eval e X.env) :: starEach es X.env := by rfl) (hpl : (backTo pos (starEach es X.env)).any (·.1) = false := by rfl) :
    WE X A (.Call (.Name x p) (e :: es) [] pos) ρ n k := by
  intro ρ0 H0 σ H hh Q q
  refine canE.of (pg_call F hr hg hm hk hb hd pass0 acan hdb he hpl) ?_
  refine h ρ0 H0 σ H hh _ fun n1 ρ1 ds vs H1 h1 hh1 k1 r1 => ?_
  have j := hh1.j.2.2
  rw [hA] at j
  obtain ⟨j1, j2, j3, pen⟩ := j
  refine ⟨owns ρ1 ++ A.W, pn, cn, n1, ds ++ dds, _, hh1.tracked, hh1.sat.nd, List.mem_append_right _ j1, List.mem_append_right _ j2, j3, pen, RepAll.mono (fun a o m e => ⟨e, fun z => m ((mt_mem a).mpr z)⟩) _ (r1.append (hdd _ _)), h1, fun n' d v H' hk st pen' rr => ?_⟩
  obtain ⟨z1, z2⟩ := hh1.drawn hA st pen'
  exact q n' ρ1 d v H' hk z1 (k1.trans z2) (Rep.mono (fun a o m e => ⟨e, fun z => m ((mt_mem a).mp z)⟩) d rr)
/-- a built-in function, a built-in type, by values -/
theorem we_callB {id : String} {r : List V → Hp → VK → Prop} (hc : CallR X (.builtin id) r) (hm : X.mg x = none) (hv : bootBuiltins x = some (.builtin id)) (h : WA X A (e :: es) ρ n fun n ρ ds => CallD X.K A r ρ ds (k n ρ)) (hg : Gl X x := by rfl) (hn : x ≠ "__name__" := by decide) (hdb : (x == ("__debug__" : Str)) = false := by decide)
    (he : starEach (e :: es) X.env = (false, eval e X.env) :: starEach es X.env := by rfl) (hpl : (backTo pos (starEach es X.env)).any (·.1) = false := by rfl) : WE X A (.Call (.Name x p) (e :: es) [] pos) ρ n k := by
  intro ρ0 H0 σ H hh Q q
  refine canE.of (pe_callB hc hg hm hv acan hn hdb he hpl) ?_
  refine h ρ0 H0 σ H hh _ fun n1 ρ1 ds vs H1 h1 hh1 k1 r1 => ?_
  exact h1 n1 σ ρ0 H0 H1 vs Q hh1 r1 fun d v H' hk hh' kp rr => q n1 ρ1 d v H' hk hh' (k1.trans kp) rr
theorem we_callTy {id : String} {r : List V → Hp → VK → Prop} (hc : CallR X (.type id) r) (hm : X.mg x = none) (hv : bootBuiltins x = some (.type id)) (h : WA X A (e :: es) ρ n fun n ρ ds => CallD X.K A r ρ ds (k n ρ)) (hg : Gl X x := by rfl) (hn : x ≠ "__name__" := by decide) (hdb : (x == ("__debug__" : Str)) = false := by decide)
    (he : starEach (e :: es) X.env = (false, eval e X.env) :: starEach es X.env := by rfl) (hpl : (backTo pos (starEach es X.env)).any (·.1) = false := by rfl) : WE X A (.Call (.Name x p) (e :: es) [] pos) ρ n k := by
  intro ρ0 H0 σ H hh Q q
  refine canE.of (pe_callTy hc hg hm hv acan hn hdb he hpl) ?_
  refine h ρ0 H0 σ H hh _ fun n1 ρ1 ds vs H1 h1 hh1 k1 r1 => ?_
  exact h1 n1 σ ρ0 H0 H1 vs Q hh1 r1 fun d v H' hk hh' kp rr => q n1 ρ1 d v H' hk hh' (k1.trans kp) rr
/-- a module's name for a built-in function -/
theorem we_callBf {id : String} {r : List V → Hp → VK → Prop} (hc : CallR X (.builtin id) r) (hm : X.mg x = some (.builtin id)) (h : WA X A (e :: es) ρ n fun n ρ ds => CallD X.K A r ρ ds (k n ρ)) (hg : Gl X x := by rfl) (hdb : (x == ("__debug__" : Str)) = false := by decide)
    (he : starEach (e :: es) X.env = (false, eval e X.env) :: starEach es X.env := by rfl) (hpl : (backTo pos (starEach es X.env)).any (·.1) = false := by rfl) : WE X A (.Call (.Name x p) (e :: es) [] pos) ρ n k := by
  intro ρ0 H0 σ H hh Q q
  refine canE.of (pe_callBfun hc hg hm acan hdb he hpl) ?_
  refine h ρ0 H0 σ H hh _ fun n1 ρ1 ds vs H1 h1 hh1 k1 r1 => ?_
  exact h1 n1 σ ρ0 H0 H1 vs Q hh1 r1 fun d v H' hk hh' kp rr => q n1 ρ1 d v H' hk hh' (k1.trans kp) rr
end
end RD

/-! RD5: operations on data: ==, repr, len, subscripts, int(), abs(), list(), + of lists, math.gcd. -/
namespace RD
open PySem PySem.Spec PyProof.Rows L2

/-! ### as the library's data -/
mutual
def py : D → PyData
  | .non => .none
  | .bl b => .bool b
  | .int i => .int i
  | .str x => .str x
  | .lst xs => .list (pys xs)
  | .tup xs => .tuple (pys xs)
  | .dct kvs => .dict (pyk kvs)
  | .obj _ _ => .none
  | .raw _ => .none
def pys : List D → List PyData
  | [] => []
  | x :: xs => py x :: pys xs
def pyk : List (Key × D) → List (PyData × PyData)
  | [] => []
  | (.inl i, x) :: xs => (.int i, py x) :: pyk xs
  | (.inr s, x) :: xs => (.str s, py x) :: pyk xs
end
mutual
/-- no dict, no object, nothing raw within -/
def plain : D → Bool
  | .lst xs => plains xs
  | .tup xs => plains xs
  | .dct _ => false
  | .obj _ _ => false
  | .raw _ => false
  | _ => true
def plains : List D → Bool
  | [] => true
  | x :: xs => plain x && plains xs
end
section
variable {K : PySem.W.Frag} {M : Addr → Prop} {H : Hp}
mutual
theorem Rep.dp : ∀ (d : D) {v : V}, plain d = true → Rep K M H v d → Dp K H v (py d)
  | .non, _, _, r => by cases r; exact .non
  | .bl b, _, _, r => by cases r; exact .bl b
  | .int i, _, _, r => by cases r; exact .int i
  | .str x, _, _, r => by cases r; exact .str x
  | .lst xs, _, h, r => by
    cases r with
    | lst _ q ra => exact .lst (.of q) (RepAll.dp xs h ra)
  | .tup xs, _, h, r => by
    cases r with
    | tup q ra =>
      refine .tup ?_ (RepAll.dp xs h ra)
      rcases q with ⟨_, q⟩ | q
      · exact .inl q
      · exact .inr q
  | .dct _, _, h, _ => by simp [plain] at h
  | .obj _ _, _, h, _ => by simp [plain] at h
  | .raw _, _, h, _ => by simp [plain] at h
theorem RepAll.dp : ∀ (ds : List D) {vs : List V}, plains ds = true → RepAll K M H vs ds → DpAll K H vs (pys ds)
  | [], _, _, r => by cases r; exact .nil
  | d :: ds, _, h, r => by
    have h' : plain d = true ∧ plains ds = true := by simpa [plains] using h
    cases r with
    | cons r1 r2 => exact .cons (Rep.dp d h'.1 r1) (RepAll.dp ds h'.2 r2)
end
end
/-- == of data -/
def eqD (x y : D) : Bool := PyData.eqv (py x) (py y)
/-- of few levels, the texts in it well -/
def shp (x : D) : Bool := SeqAt.shaped (py x)
theorem of_ints (ns : List Int) : pys (ns.map D.int) = ns.map PyData.int := by
  induction ns with
  | nil => simp [pys]
  | cons n ns ih => simp [pys, py, ih]
section
variable {X : Cx} {K : PySem.W.Frag} {A : Amb} {ρ : En} {x y : D} {k : D → Prop}
theorem od_eq (px : plain x = true) (py_ : plain y = true) (sx : shp x = true) (sy : shp y = true) (h : k (.bl (eqD x y))) : OpD K A (rEqD K) ρ x y k := by
  intro n σ ρ0 H0 H vx vy Q hh r1 r2 q
  exact ⟨_, _, r1.dp _ px, r2.dp _ py_, sx, sy, q _ _ H h hh .refl (.bl _)⟩
theorem od_ne (px : plain x = true) (py_ : plain y = true) (sx : shp x = true) (sy : shp y = true) (h : k (.bl (!eqD x y))) : OpD K A (rNeD K) ρ x y k := by
  intro n σ ρ0 H0 H vx vy Q hh r1 r2 q
  exact ⟨_, _, r1.dp _ px, r2.dp _ py_, sx, sy, q _ _ H h hh .refl (.bl _)⟩

/-! ### repr -/
def rRepr (K : PySem.W.Frag) : List V → Hp → VK → Prop := fun xs H Q => ∃ x d, xs = [x] ∧ Dp K H x d ∧ d.showable = true ∧ d.hasDict = false ∧ d.depth ≤ 60 ∧ d.shown.length ≤ sizeLine ∧ Q (.str d.shown) H
theorem call_repr (rm : Rm 0 X.A) : CallR X (.builtin "repr") (rRepr X.K) := by
  intro pins s σ H xs us Q I r h
  obtain ⟨x, d, rfl, hd, hs, hk, hdep, hz, q⟩ := h
  obtain ⟨u, rfl, rx⟩ := vals1 r
  have un := rm.r.units
  cases hd with
  | non =>
    cases rx
    exact PySem.P.repr_of_none ⟨.str _, H, I.tok _, ⟨s.toks, by simp only [PyData.shown]⟩, q⟩
  | bl b =>
    cases rx
    exact PySem.P.repr_of_bool ⟨.str _, H, I.tok _, ⟨s.toks, by simp only [PyData.shown]⟩, q⟩
  | int i =>
    obtain ⟨t, rfl⟩ := rx
    exact PySem.P.repr_of_int (by simpa [PyData.showable] using hs) ⟨.str _, H, I.tok _, ⟨s.toks, by simp only [PyData.shown]⟩, q⟩
  | str z =>
    obtain ⟨t, rfl⟩ := rx
    exact PySem.P.repr_of_str ⟨.str _, H, I.tok _, ⟨s.toks, by simp only [PyData.shown]⟩, q⟩ (by simpa only [PyData.shown] using hz)
  | lst hq ha =>
    cases rx
    obtain ⟨as, rd⟩ := Dp.reads I _ _ _ (.lst hq ha) rfl
    refine repr_of_reads' rd hs (fun z => by rw [hk] at z; cases z) rm.g (by omega) (fun _ _ e => e) (fun h' u tk kp => ⟨.str _, H, I.kept kp, ⟨u, rfl⟩, q⟩) hz
  | tup hq ha =>
    cases rx
    obtain ⟨as, rd⟩ := Dp.reads I _ _ _ (.tup hq ha) rfl
    refine repr_of_reads' rd hs (fun z => by rw [hk] at z; cases z) rm.g (by omega) (fun _ _ e => e) (fun h' u tk kp => ⟨.str _, H, I.kept kp, ⟨u, rfl⟩, q⟩) hz
/-- what may be shown -/
def shw (d : D) : Bool := plain d && (py d).showable && !(py d).hasDict && decide ((py d).depth ≤ 60)
theorem cd_repr {d : D} (hp : shw d = true) (hz : (py d).shown.length ≤ sizeLine) (h : k (.str (py d).shown)) : CallD K A (rRepr K) ρ [d] k := by
  intro n σ ρ0 H0 H vs Q hh r q
  cases r with
  | cons r1 r2 =>
    cases r2
    unfold shw at hp
    simp only [Bool.and_eq_true, Bool.not_eq_true', decide_eq_true_eq] at hp
    obtain ⟨⟨⟨h1, h2⟩, h3⟩, h4⟩ := hp
    exact ⟨_, _, rfl, r1.dp _ h1, h2, h3, h4, hz, q _ _ H h hh .refl (.str _)⟩

/-! ### built-ins -/
theorem Rep.sqT {M : Addr → Prop} {H : Hp} {v : V} {ds : List D} (r : Rep K M H v (.tup ds)) : ∃ a xs, v = .ref a ∧ SqT K H a xs ∧ RepAll K M H xs ds := by
  cases r with
  | tup e ra =>
    refine ⟨_, _, rfl, ?_, ra⟩
    rcases e with ⟨_, e⟩ | e
    · exact .inl e
    · exact .inr e
theorem cd_len {ds : List D} (h : k (.int (ds.length : Int))) (hx : x = .lst ds ∨ x = .tup ds) : CallD K A (fun xs H Q => ∃ p ys, xs = [.ref p] ∧ (SqL K H p ys ∨ SqT K H p ys) ∧ Q (.int ys.length) H) ρ [x] k := by
  intro n σ ρ0 H0 H vs Q hh r q
  cases r with
  | cons r1 r2 =>
    cases r2
    rcases hx with rfl | rfl
    · cases r1 with
      | lst m e ra =>
        refine ⟨_, _, rfl, .inl (.of e), ?_⟩
        rw [ra.length]
        exact q _ _ H h hh .refl (.int _)
    · obtain ⟨a, zs, rfl, e, ra⟩ := r1.sqT
      refine ⟨a, zs, rfl, .inr e, ?_⟩
      rw [ra.length]
      exact q _ _ H h hh .refl (.int _)
theorem cd_int {i : Int} (h : k (.int i)) : CallD K A (fun xs H Q => (∃ i, xs = [.int i] ∧ Q (.int i) H) ∨ ∃ b, xs = [.bl b] ∧ Q (.int (if b then 1 else 0)) H) ρ [.int i] k := by
  intro n σ ρ0 H0 H vs Q hh r q
  cases r with
  | cons r1 r2 =>
    cases r1; cases r2
    exact .inl ⟨i, rfl, q _ _ H h hh .refl (.int _)⟩
theorem cd_intb {b : Bool} (h : k (.int (if b then 1 else 0))) : CallD K A (fun xs H Q => (∃ i, xs = [.int i] ∧ Q (.int i) H) ∨ ∃ b, xs = [.bl b] ∧ Q (.int (if b then 1 else 0)) H) ρ [.bl b] k := by
  intro n σ ρ0 H0 H vs Q hh r q
  cases r with
  | cons r1 r2 =>
    cases r1; cases r2
    exact .inr ⟨b, rfl, q _ _ H h hh .refl (.int _)⟩
theorem cd_abs {i : Int} (h : k (.int (if i < 0 then -i else i))) : CallD K A (fun xs H Q => ∃ i, xs = [.int i] ∧ Q (.int (if i < 0 then -i else i)) H) ρ [.int i] k := by
  intro n σ ρ0 H0 H vs Q hh r q
  cases r with
  | cons r1 r2 =>
    cases r1; cases r2
    exact ⟨i, rfl, q _ _ H h hh .refl (.int _)⟩
theorem cd_gcd {i j : Int} (h : k (.int ((Nat.gcd i.natAbs j.natAbs : Nat) : Int))) : CallD K A rGcd ρ [.int i, .int j] k := by
  intro n σ ρ0 H0 H vs Q hh r q
  cases r with
  | cons r1 r2 =>
    cases r1
    cases r2 with
    | cons r2 r3 =>
      cases r2; cases r3
      exact ⟨i, j, rfl, q _ _ H h hh .refl (.int _)⟩
theorem cd_list {ds : List D} (hx : x = .lst ds ∨ x = .tup ds) (h : k (.lst ds)) : CallD K A (fun xs H Q => ∃ p ys, xs = [.ref p] ∧ (SqL K H p ys ∨ SqT K H p ys) ∧ ∀ l, H l = none → Q (.ref l) (upd H l (.lst ys))) ρ [x] k := by
  intro n σ ρ0 H0 H vs Q hh r q
  cases r with
  | cons r1 r2 =>
    cases r2
    rcases hx with rfl | rfl
    · cases r1 with
      | lst m e ra => exact ⟨_, _, rfl, .inl (.of e), fun l hl => q _ _ _ h (hh.alloc hl) (.alloc hl) (.lst (hh.new hl) upd_same (ra.alloc hl))⟩
    · obtain ⟨a, zs, rfl, e, ra⟩ := r1.sqT
      exact ⟨a, zs, rfl, .inr e, fun l hl => q _ _ _ h (hh.alloc hl) (.alloc hl) (.lst (hh.new hl) upd_same (ra.alloc hl))⟩

/-! ### subscripts, + and * of lists -/
theorem RepAll.atI {M : Addr → Prop} {H : Hp} {vs : List V} {ds : List D} {i : Int} {d : D} (r : RepAll K M H vs ds) (h : L2.atI ds i = some d) : ∃ v, L2.atI vs i = some v ∧ Rep K M H v d := by
  unfold L2.atI at h ⊢
  rw [r.length]
  cases e : ixN ds.length i with
  | none => rw [e] at h; cases h
  | some j =>
    rw [e] at h
    exact r.get h
theorem od_ixL {ds : List D} {i : Int} {d : D} (hi : L2.atI ds i = some d) (h : k d) : OpD K A (rIxL K) ρ (.lst ds) (.int i) k := by
  intro n σ ρ0 H0 H vx vy Q hh r1 r2 q
  cases r2
  cases r1 with
  | lst m e ra =>
    obtain ⟨v, hv, rv⟩ := ra.atI hi
    exact ⟨_, _, i, v, rfl, rfl, .of e, hv, q _ _ H h hh .refl rv⟩
theorem od_ixT {ds : List D} {i : Int} {d : D} (hi : L2.atI ds i = some d) (h : k d) : OpD K A (rIxT K) ρ (.tup ds) (.int i) k := by
  intro n σ ρ0 H0 H vx vy Q hh r1 r2 q
  cases r2
  obtain ⟨a, zs, rfl, e, ra⟩ := r1.sqT
  obtain ⟨v, hv, rv⟩ := ra.atI hi
  exact ⟨a, zs, i, v, rfl, rfl, e, hv, q _ _ H h hh .refl rv⟩
theorem od_cat {xs ys : List D} (hz : xs.length + ys.length ≤ 100000) (h : k (.lst (xs ++ ys))) : OpD K A rCat ρ (.lst xs) (.lst ys) k := by
  intro n σ ρ0 H0 H vx vy Q hh r1 r2 q
  cases r1 with
  | lst m e ra =>
    cases r2 with
    | lst m' e' ra' =>
      refine ⟨_, _, _, _, rfl, rfl, e, e', by rw [ra.length, ra'.length]; exact sz_le hz, fun p hp => q _ _ _ h (hh.alloc hp) (.alloc hp) (.lst (hh.new hp) upd_same ((ra.append ra').alloc hp))⟩
theorem repAll_flat {M : Addr → Prop} {H : Hp} {vs : List V} {ds : List D} (r : RepAll K M H vs ds) : ∀ m : Nat, RepAll K M H (List.replicate m vs).flatten (List.replicate m ds).flatten
  | 0 => .nil
  | m + 1 => by
    rw [List.replicate_succ, List.replicate_succ, List.flatten_cons, List.flatten_cons]
    exact r.append (repAll_flat r m)
theorem od_rep {xs : List D} {m : Int} (h1 : -(2 ^ 63) ≤ m) (h2 : m < 2 ^ 63) (hz : xs.length * m.toNat ≤ 100000) (h : k (.lst (List.replicate m.toNat xs).flatten)) : OpD K A rRep ρ (.lst xs) (.int m) k := by
  intro n σ ρ0 H0 H vx vy Q hh r1 r2 q
  cases r2
  cases r1 with
  | lst _ e ra =>
    refine ⟨_, m, _, rfl, rfl, e, h1, h2, by rw [ra.length]; exact sz_le hz, fun p hp => q _ _ _ h (hh.alloc hp) (.alloc hp) (.lst (hh.new hp) upd_same ((repAll_flat ra _).alloc hp))⟩

/-! ### whole numbers -/
theorem rep_int {M : Addr → Prop} {H : Hp} {i : Int} : Rep K M H (.int i) (.int i) := .int i
theorem od_add {i j : Int} (h : k (.int (i + j))) : OpD K A (rI0 fun i j => .int (i + j)) ρ (.int i) (.int j) k := od_I0 (d := fun i j => .int (i + j)) (fun _ _ _ => .int _) h
theorem od_sub {i j : Int} (h : k (.int (i - j))) : OpD K A (rI0 fun i j => .int (i - j)) ρ (.int i) (.int j) k := od_I0 (d := fun i j => .int (i - j)) (fun _ _ _ => .int _) h
theorem od_mulW {i j : Int} (hc : CMulW i j) (h : k (.int (i * j))) : OpD K A (rI CMulW fun i j => .int (i * j)) ρ (.int i) (.int j) k := od_I (d := fun i j => .int (i * j)) (fun _ _ _ => .int _) hc h
theorem od_mul {i j : Int} (hc : CMul i j) (h : k (.int (i * j))) : OpD K A (rI CMul fun i j => .int (i * j)) ρ (.int i) (.int j) k := od_I (d := fun i j => .int (i * j)) (fun _ _ _ => .int _) hc h
theorem od_mod {i j : Int} (hc : 0 < j) (h : k (.int (i % j))) : OpD K A (rI (fun _ j => 0 < j) fun i j => .int (i % j)) ρ (.int i) (.int j) k := od_I (C := fun _ j => 0 < j) (d := fun i j => .int (i % j)) (fun _ _ _ => .int _) hc h
theorem od_pow {i j : Int} (hc : CPow i j) (h : k (.int (i ^ j.toNat))) : OpD K A (rI CPow fun i j => .int (i ^ j.toNat)) ρ (.int i) (.int j) k := od_I (d := fun i j => .int (i ^ j.toNat)) (fun _ _ _ => .int _) hc h
/-- // by any divisor but 0, of at most 9000 bits -/
def CDivZ (_ j : Int) : Prop := j ≠ 0 ∧ j.natAbs.log2 < 9000
theorem op_fdivZ : OpR X (binaryOp .FloorDiv) (rI CDivZ fun i j => .int (i.fdiv j)) := opI fun _ _ _ _ _ _ _ hc q => floordiv_int hc.1 q (Or.inl (PyProof.noPylong_of_log2 hc.2))
theorem od_fdivZ {i j : Int} (hc : CDivZ i j) (h : k (.int (i.fdiv j))) : OpD K A (rI CDivZ fun i j => .int (i.fdiv j)) ρ (.int i) (.int j) k := od_I (d := fun i j => .int (i.fdiv j)) (fun _ _ _ => .int _) hc h
theorem od_lt {i j : Int} (h : k (.bl (decide (i < j)))) : OpD K A (rI0 fun i j => .bl (decide (i < j))) ρ (.int i) (.int j) k := od_I0 (d := fun i j => .bl (decide (i < j))) (fun _ _ _ => .bl _) h
theorem od_le {i j : Int} (h : k (.bl (decide (i ≤ j)))) : OpD K A (rI0 fun i j => .bl (decide (i ≤ j))) ρ (.int i) (.int j) k := od_I0 (d := fun i j => .bl (decide (i ≤ j))) (fun _ _ _ => .bl _) h
theorem od_gt {i j : Int} (h : k (.bl (decide (j < i)))) : OpD K A (rI0 fun i j => .bl (decide (j < i))) ρ (.int i) (.int j) k := od_I0 (d := fun i j => .bl (decide (j < i))) (fun _ _ _ => .bl _) h
theorem od_ge {i j : Int} (h : k (.bl (decide (j ≤ i)))) : OpD K A (rI0 fun i j => .bl (decide (j ≤ i))) ρ (.int i) (.int j) k := od_I0 (d := fun i j => .bl (decide (j ≤ i))) (fun _ _ _ => .bl _) h
theorem ud_neg {i : Int} (h : k (.int (-i))) : UnD K A (rU fun i => .int (-i)) ρ (.int i) k := by
  intro n σ ρ0 H0 H vx Q hh r1 q
  cases r1
  exact ⟨i, rfl, q _ _ H h hh .refl (.int _)⟩
/-- == of scalars (ints, texts, truths, of one kind) -/
theorem od_eqI {i j : Int} (h : k (.bl (decide (i = j)))) : OpD K A rEq ρ (.int i) (.int j) k := by
  intro n σ ρ0 H0 H vx vy Q hh r1 r2 q
  cases r1; cases r2
  refine ⟨rfl, ?_⟩
  rw [show decide (V.int i = V.int j) = decide (i = j) by rw [dec_int]; rfl]
  exact q _ _ H h hh .refl (.bl _)
theorem od_neI {i j : Int} (h : k (.bl (!decide (i = j)))) : OpD K A rNe ρ (.int i) (.int j) k := by
  intro n σ ρ0 H0 H vx vy Q hh r1 r2 q
  cases r1; cases r2
  refine ⟨rfl, ?_⟩
  rw [show decide (V.int i = V.int j) = decide (i = j) by rw [dec_int]; rfl]
  exact q _ _ H h hh .refl (.bl _)
theorem od_eqS {i j : Str} (h : k (.bl (decide (i = j)))) : OpD K A rEq ρ (.str i) (.str j) k := by
  intro n σ ρ0 H0 H vx vy Q hh r1 r2 q
  cases r1; cases r2
  refine ⟨rfl, ?_⟩
  rw [show decide (V.str i = V.str j) = decide (i = j) by rw [dec_str]; exact Bool.beq_eq_decide_eq i j]
  exact q _ _ H h hh .refl (.bl _)
theorem od_neS {i j : Str} (h : k (.bl (!decide (i = j)))) : OpD K A rNe ρ (.str i) (.str j) k := by
  intro n σ ρ0 H0 H vx vy Q hh r1 r2 q
  cases r1; cases r2
  refine ⟨rfl, ?_⟩
  rw [show decide (V.str i = V.str j) = decide (i = j) by rw [dec_str]; exact Bool.beq_eq_decide_eq i j]
  exact q _ _ H h hh .refl (.bl _)
end
end RD

/-! RD6: each operator once, whatever its operands; slices. -/
namespace RD
open PySem PySem.Spec PyProof.Rows L2

def rAddS : R2 := fun x y H Q => ∃ i j, x = .str i ∧ y = .str j ∧ i.length + j.length ≤ sizeLine ∧ Q (.str (i ++ j)) H
def rAddU (K : PySem.W.Frag) : R2 := fun x y H Q => (rI0 fun i j => .int (i + j)) x y H Q ∨ (rCat x y H Q ∨ (rAddS x y H Q ∨ rCatA K x y H Q))
def rMulU : R2 := fun x y H Q => (rI CMul fun i j => .int (i * j)) x y H Q ∨ ((rI CMulW fun i j => .int (i * j)) x y H Q ∨ rRep x y H Q)
def rFdU : R2 := fun x y H Q => (rI CDivW fun i j => .int (i / j)) x y H Q ∨ (rI CDivZ fun i j => .int (i.fdiv j)) x y H Q
def rModU : R2 := fun x y H Q => (rI (fun _ j => 0 < j) fun i j => .int (i % j)) x y H Q ∨ (rI (fun _ j => j ≠ 0) fun i j => .int (i.fmod j)) x y H Q
def rLtU (K : PySem.W.Frag) : R2 := fun x y H Q => (rI0 fun i j => .bl (decide (i < j))) x y H Q ∨ rLtT K x y H Q
section
variable {X : Cx}
theorem op_addU : OpR X (binaryOp .Add) (rAddU X.K) := op_add.or (op_cat.or (op_add_str.or op_catA))
theorem op_mulU : OpR X (binaryOp .Mult) rMulU := op_mul.or (op_mulW.or op_rep)
theorem op_fdU : OpR X (binaryOp .FloorDiv) rFdU := op_fdivW.or op_fdivZ
theorem op_modU : OpR X (binaryOp .Mod) rModU := op_mod.or op_modN
variable {K : PySem.W.Frag} {A : Amb} {ρ : En} {x y : D} {k : D → Prop}
theorem od_or1 {r r' : R2} (h : OpD K A r ρ x y k) : OpD K A (fun x y H Q => r x y H Q ∨ r' x y H Q) ρ x y k := fun n σ ρ0 H0 H vx vy Q hh r1 r2 q => .inl (h n σ ρ0 H0 H vx vy Q hh r1 r2 q)
theorem od_or2 {r r' : R2} (h : OpD K A r' ρ x y k) : OpD K A (fun x y H Q => r x y H Q ∨ r' x y H Q) ρ x y k := fun n σ ρ0 H0 H vx vy Q hh r1 r2 q => .inr (h n σ ρ0 H0 H vx vy Q hh r1 r2 q)
theorem od_addI {i j : Int} (h : k (.int (i + j))) : OpD K A (rAddU K) ρ (.int i) (.int j) k := od_or1 (od_add h)
theorem od_addL {xs ys : List D} (h : k (.lst (xs ++ ys))) (hz : xs.length + ys.length ≤ 100000) : OpD K A (rAddU K) ρ (.lst xs) (.lst ys) k := od_or2 (r := rI0 fun i j => .int (i + j)) (od_or1 (od_cat hz h))
theorem od_addS0 {i j : Str} (hz : i.length + j.length ≤ 100000) (h : k (.str (i ++ j))) : OpD K A rAddS ρ (.str i) (.str j) k := by
  intro n σ ρ0 H0 H vx vy Q hh r1 r2 q
  cases r1; cases r2
  exact ⟨i, j, rfl, rfl, sz_le hz, q _ _ H h hh .refl (.str _)⟩
theorem od_addS {i j : Str} (h : k (.str (i ++ j))) (hz : i.length + j.length ≤ 100000) : OpD K A (rAddU K) ρ (.str i) (.str j) k := od_or2 (r := rI0 fun i j => .int (i + j)) (od_or2 (r := rCat) (od_or1 (od_addS0 hz h)))
theorem od_addT0 {xs ys : List D} (hz : xs.length + ys.length ≤ 100000) (h : k (.tup (xs ++ ys))) : OpD K A (rCatA K) ρ (.tup xs) (.tup ys) k := by
  intro n σ ρ0 H0 H vx vy Q hh r1 r2 q
  have r1' := r1
  have r2' := r2
  obtain ⟨a, vs, rfl, e1, q1⟩ := r1.sqT
  obtain ⟨b, ws, rfl, e2, q2⟩ := r2.sqT
  refine ⟨a, b, vs, ws, rfl, rfl, e1, e2, by rw [q1.length, q2.length]; exact sz_le hz, fun z => ?_, fun z1 z2 => ?_, fun z1 z2 p hp => ?_⟩
  · have : xs = [] := by
      subst z
      cases q1; rfl
    subst this
    exact q _ _ H h hh .refl r2'
  · have : ys = [] := by
      subst z2
      cases q2; rfl
    subst this
    rw [List.append_nil] at h
    exact q _ _ H h hh .refl r1'
  · exact q _ _ _ h (hh.alloc hp) (.alloc hp) (.tup (.inl ⟨hh.new hp, .inl upd_same⟩) ((q1.append q2).alloc hp))
theorem od_addT {xs ys : List D} (h : k (.tup (xs ++ ys))) (hz : xs.length + ys.length ≤ 100000) : OpD K A (rAddU K) ρ (.tup xs) (.tup ys) k := od_or2 (r := rI0 fun i j => .int (i + j)) (od_or2 (r := rCat) (od_or2 (r := rAddS) (od_addT0 hz h)))
theorem od_mulI {i j : Int} (h : k (.int (i * j))) (hc : CMul i j ∨ CMulW i j) : OpD K A rMulU ρ (.int i) (.int j) k := hc.elim (fun c => od_or1 (od_mul c h)) fun c => od_or2 (r := rI CMul fun i j => .int (i * j)) (od_or1 (od_mulW c h))
theorem od_mulL {xs : List D} {m : Int} (h : k (.lst (List.replicate m.toNat xs).flatten)) (hz : xs.length * m.toNat ≤ 100000) (h1 : -(2 ^ 63) ≤ m) (h2 : m < 2 ^ 63) : OpD K A rMulU ρ (.lst xs) (.int m) k := od_or2 (r := rI CMul fun i j => .int (i * j)) (od_or2 (r := rI CMulW fun i j => .int (i * j)) (od_rep h1 h2 hz h))
theorem od_fdP {i j : Int} (h : k (.int (i / j))) (h1 : 0 < j) (h2 : j.natAbs.log2 < 9000) : OpD K A rFdU ρ (.int i) (.int j) k := od_or1 (od_I (d := fun i j => .int (i / j)) (fun _ _ _ => .int _) ⟨h1, h2⟩ h)
theorem od_fdN {i j : Int} (h : k (.int (i.fdiv j))) (h1 : j ≠ 0) (h2 : j.natAbs.log2 < 9000) : OpD K A rFdU ρ (.int i) (.int j) k := od_or2 (r := rI CDivW fun i j => .int (i / j)) (od_fdivZ ⟨h1, h2⟩ h)
theorem od_modP {i j : Int} (h : k (.int (i % j))) (h1 : 0 < j) : OpD K A rModU ρ (.int i) (.int j) k := od_or1 (od_mod h1 h)
theorem od_powI {i j : Int} (h : k (.int (i ^ j.toNat))) (h1 : CPow i j) : OpD K A (rI CPow fun i j => .int (i ^ j.toNat)) ρ (.int i) (.int j) k := od_pow h1 h
theorem od_xL {ds : List D} {i : Int} {d : D} (h : k d) (hi : L2.atI ds i = some d) : OpD K A (rIx K) ρ (.lst ds) (.int i) k := od_or1 (od_ixL hi h)
theorem od_xT {ds : List D} {i : Int} {d : D} (h : k d) (hi : L2.atI ds i = some d) : OpD K A (rIx K) ρ (.tup ds) (.int i) k := od_or2 (r := rIxL K) (od_or1 (od_ixT hi h))
theorem od_xS0 {z : Str} {i : Int} {c : Nat} (hz : z.length ≤ 100000) (hi : L2.atI z.cps.toList i = some c) (h : k (.str ⟨#[c]⟩)) : OpD K A rIxS ρ (.str z) (.int i) k := by
  intro n σ ρ0 H0 H vx vy Q hh r1 r2 q
  cases r1; cases r2
  exact ⟨z, i, c, rfl, rfl, sz_le hz, hi, q _ _ H h hh .refl (.str _)⟩
theorem od_xS {z : Str} {i : Int} {c : Nat} (h : k (.str ⟨#[c]⟩)) (hz : z.length ≤ 100000) (hi : L2.atI z.cps.toList i = some c) : OpD K A (rIx K) ρ (.str z) (.int i) k := od_or2 (r := rIxL K) (od_or2 (r := rIxT K) (od_xS0 hz hi h))

/-! ### slices -/
/-- xs[lo:hi] by data -/
def cutD (xs : List D) (lo hi : Option Int) : List D := (xs.drop (HT.sIx xs.length 0 lo)).take (HT.sIx xs.length xs.length hi - HT.sIx xs.length 0 lo)
theorem RepAll.cut {M : Addr → Prop} {H : Hp} {vs : List V} {ds : List D} (r : RepAll K M H vs ds) (lo hi : Option Int) : RepAll K M H (cutV vs lo hi) (cutD ds lo hi) := by
  unfold cutV cutD
  rw [r.length]
  exact (r.drop _).take _
/-- a part of a slice: none, or an int -/
def WO (X : Cx) (A : Amb) (e : Option Expr) (ρ : En) (n : Nat) (k : Nat → En → Option Int → Prop) : Prop := match e with
  | none => k n ρ none
  | some e => WE X A e ρ n fun n ρ d => ∃ i, d = .int i ∧ k n ρ (some i)
def SlD (K : PySem.W.Frag) (A : Amb) (r : V → Option Int → Option Int → Hp → VK → Prop) (ρ : En) (x : D) (lo hi : Option Int) (k : D → Prop) : Prop := ∀ n σ ρ0 H0 H vx (Q : VK), Here K A ρ0 H0 n ρ σ H → Rep K (Mt A ρ) H vx x →
  (∀ d v H', k d → Here K A ρ0 H0 n ρ σ H' → Keeps A ρ H ρ H' → Rep K (Mt A ρ) H' v d → Q v H') → r vx lo hi H Q
theorem wo_none {n : Nat} {k : Nat → En → Option Int → Prop} (h : k n ρ none) : WO X A none ρ n k := h
theorem wo_some {n : Nat} {e : Expr} {k : Nat → En → Option Int → Prop} (h : WE X A e ρ n fun n ρ d => ∃ i, d = .int i ∧ k n ρ (some i)) : WO X A (some e) ρ n k := h
/-- what po_none, po_some tell of a part -/
def tO (X : Cx) (e : Option Expr) : TO := match e with
  | none => tNoPart
  | some e => tPart (canE X e)
theorem po_any {e : Option Expr} : PO X e (tO X e) := by
  cases e with
  | none => exact po_none
  | some e => exact po_some pcan
theorem tO_of {e : Option Expr} {n : Nat} {k : Nat → En → Option Int → Prop} (h : WO X A e ρ n k) : ∀ ρ0 H0 σ H, Here X.K A ρ0 H0 n ρ σ H → ∀ Q : Option Int → Hp → Prop, (∀ n' ρ' i H', k n' ρ' i → Here X.K A ρ0 H0 n' ρ' σ H' → Keeps A ρ H ρ' H' → Q i H') → tO X e σ H Q := by
  intro ρ0 H0 σ H hh Q q
  cases e with
  | none => exact q n ρ none H h hh .refl
  | some e =>
    refine h ρ0 H0 σ H hh _ fun n1 ρ1 d v H1 h1 hh1 k1 r1 => ?_
    obtain ⟨i, rfl, h1⟩ := h1
    cases r1
    exact ⟨i, rfl, q n1 ρ1 _ H1 h1 hh1 k1⟩
theorem we_slice {n : Nat} {e : Expr} {lo hi : Option Expr} {p2 pos : Pos} {k : Nat → En → D → Prop} {r : V → Option Int → Option Int → Hp → VK → Prop} (hr : SlR X r) (h : WE X A e ρ n fun n1 ρ1 x => WO X A lo ρ1 n1 fun n2 ρ2 l => WO X A hi ρ2 n2 fun n3 ρ3 u => SlD X.K A r ρ3 x l u (k n3 ρ3)) :
    WE X A (.Subscript e (.Slice lo hi none p2) pos) ρ n k := by
  intro ρ0 H0 σ H hh Q q
  refine canE.of (pe_slice hr pcan po_any po_any) ?_
  refine h ρ0 H0 σ H hh _ fun n1 ρ1 x v H1 h1 hh1 k1 r1 => ?_
  refine tO_of h1 ρ0 H0 σ H1 hh1 _ fun n2 ρ2 l H2 h2 hh2 k2 => ?_
  refine tO_of h2 ρ0 H0 σ H2 hh2 _ fun n3 ρ3 u H3 h3 hh3 k3 => ?_
  exact h3 n3 σ ρ0 H0 H3 v Q hh3 ((r1.up hh1.j k2).up hh2.j k3) fun d v H' kk hh' k4 r4 => q n3 ρ3 d v H' kk hh' (((k1.trans k2).trans k3).trans k4) r4
def rSlU (K : PySem.W.Frag) : V → Option Int → Option Int → Hp → VK → Prop := fun x lo hi H Q => rSlL K x lo hi H Q ∨ (rSlA K x lo hi H Q ∨ rSlS x lo hi H Q)
theorem sl_U : SlR X (rSlU X.K) := sl_list.or (sl_tupA.or sl_str)
theorem sd_L {ds : List D} {lo hi : Option Int} (h : k (.lst (cutD ds lo hi))) : SlD K A (rSlU K) ρ (.lst ds) lo hi k := by
  intro n σ ρ0 H0 H vx Q hh r1 q
  cases r1 with
  | lst m e ra => exact .inl ⟨_, _, rfl, .of e, fun p hp => q _ _ _ h (hh.alloc hp) (.alloc hp) (.lst (hh.new hp) upd_same ((ra.cut lo hi).alloc hp))⟩
theorem sd_T {ds : List D} {lo hi : Option Int} (h : k (.tup (cutD ds lo hi))) : SlD K A (rSlU K) ρ (.tup ds) lo hi k := by
  intro n σ ρ0 H0 H vx Q hh r1 q
  have r0 := r1
  obtain ⟨a, vs, rfl, e, ra⟩ := r1.sqT
  refine .inr (.inl ⟨a, vs, rfl, e, fun z => ?_, fun z p hp => q _ _ _ h (hh.alloc hp) (.alloc hp) (.tup (.inl ⟨hh.new hp, .inl upd_same⟩) ((ra.cut lo hi).alloc hp))⟩)
  have : cutD ds lo hi = ds := by
    unfold cutD
    rw [← ra.length, z.1, z.2, List.drop_zero, Nat.sub_zero, ra.length]
    exact List.take_length
  rw [this] at h
  exact q _ _ H h hh .refl r0
theorem sd_S {z : Str} {lo hi : Option Int} (h : k (.str (cutS z lo hi))) (hz : z.length ≤ 100000) : SlD K A (rSlU K) ρ (.str z) lo hi k := by
  intro n σ ρ0 H0 H vx Q hh r1 q
  cases r1
  exact .inr (.inr ⟨z, rfl, sz_le hz, q _ _ H h hh .refl (.str _)⟩)
end
end RD

/-! RD7: how arguments bind; the law's pen. -/
namespace RD
open PySem PySem.Spec PyProof.Rows L2
section
variable {K : PySem.W.Frag} {x qual : Str} {params : Arguments} {body : List Stmt} {scope : Scope} {dvs : List V} {f : Addr} {fd : FuncData} {ps : List Str}
/-- f(.., k = v): no defaults; g puts the values in the parameters' order -/
theorem kb_none (F : FunD K x qual params body scope [] [] f fd) (n : Nat) (ks : List Str) (g : {α : Type} → List α → List α → List α) (hrel : ∀ {vs zs : List V} {us ws : List Value}, Vals vs us → Vals zs ws → Vals (g vs zs) (g us ws))
    (h : ∀ (kV doc pm : Value) (an : Option Addr) (cdv ct : Value) (us ws : List Value), us.length = n → ws.length = ks.length → bindArgs (PySem.W.fnOf x qual params body scope .none kV doc pm an cdv ct) ⟨us, ks.zip ws⟩ = pure (ps.zip (g us ws))) :
    KBn K fd ps n ks (fun us ws => g us ws) (fun vs zs => g vs zs) := by
  obtain ⟨oc, od, dV, kV, doc, pm, an, cdv, ct, osl, rfl, lk, hcd, hD, hK⟩ := F.ex
  rcases hD with ⟨_, rfl⟩ | ⟨e, _⟩
  · exact ⟨fun s us ws _ l1 l2 => .of_eq (h kV doc pm an cdv ct us ws l1 l2), fun r1 r2 => hrel r1 r2⟩
  · exact absurd rfl e
/-- the same where defaults stand -/
theorem kb_dfl (F : FunD K x qual params body scope dvs [] f fd) (hd : dvs ≠ []) (n : Nat) (ks : List Str) (g : {α : Type} → List α → List α → List α → List α) (hrel : ∀ {vs ds zs : List V} {us its ws : List Value}, Vals vs us → Vals ds its → Vals zs ws → Vals (g vs ds zs) (g us its ws))
    (h : ∀ (T : Addr) (kV doc pm : Value) (an : Option Addr) (cdv ct : Value) (us its ws : List Value), us.length = n → its.length = dvs.length → ws.length = ks.length →
      ∃ k, bindArgs (PySem.W.fnOf x qual params body scope (.ref T) kV doc pm an cdv ct) ⟨us, ks.zip ws⟩ = seqItems? (.ref T) >>= k ∧ k (some its.toArray) = pure (ps.zip (g us its ws))) :
    ∃ its : List Value, KBn K fd ps n ks (fun us ws => g us its ws) (fun vs zs => g vs dvs zs) := by
  obtain ⟨oc, od, dV, kV, doc, pm, an, cdv, ct, osl, rfl, lk, hcd, hD, hK⟩ := F.ex
  rcases hD with ⟨e, _⟩ | ⟨_, T, o, its, m, rfl, lT, oT, rT⟩
  · exact absurd e hd
  · refine ⟨its, fun s us ws kin l1 l2 => ?_, fun r1 r2 => hrel r1 rT r2⟩
    obtain ⟨k, e1, e2⟩ := h T kV doc pm an cdv ct us its ws l1 rT.length.symm l2
    refine BindsTo.of_looks fun M => ?_
    rw [e1]
    exact looks_items kin lT oT (.of_pure e2)
end
section
variable {M : Addr → Prop} {H : Hp} {K : PySem.W.Frag}
theorem RepAll.two {a b : V} {ds : List D} (r : RepAll K M H [a, b] ds) : ∃ x y, ds = [x, y] ∧ Rep K M H a x ∧ Rep K M H b y := by
  cases r with
  | cons r1 r2 =>
    cases r2 with
    | cons r2 r3 => cases r3; exact ⟨_, _, rfl, r1, r2⟩
end
theorem two_of {α : Type} {l : List α} (h : l.length = 2) : ∃ a b, l = [a, b] := by
  match l, h with
  | [a, b], _ => exact ⟨a, b, rfl⟩
theorem one_of {α : Type} {l : List α} (h : l.length = 1) : ∃ a, l = [a] := by
  match l, h with
  | [a], _ => exact ⟨a, rfl⟩
theorem nil_of {α : Type} {l : List α} (h : l.length = 0) : l = [] := List.length_eq_zero_iff.mp h

/-! ### the pen is made -/
section
variable {P : Program} {w : World} {K : PySem.W.Frag} {mg : Str → Option Value} {base : Heap}
/-- the pen of a script of ints -/
def spPen (K : PySem.W.Frag) : Sp := fun vs H Q _ => ∃ (a : Addr) (ns : List Int), vs = [.ref a] ∧ SqL K H a (ns.map V.int) ∧ ns.length ≤ 63 ∧ (∀ z ∈ ns, z.natAbs < 2 ^ 1048576) ∧
  ∀ p c H', (∀ b o, H b = some o → H' b = some o) → H p = none → H c = none → p ≠ c → PenAt p c 1000000 H' → Q (.ref p) H'
end
theorem cut_all {xs : List V} (h : xs.length ≤ 63) : cutV xs none (some 63) = xs := by
  unfold cutV
  have e1 : HT.sIx xs.length 0 none = 0 := HT.sIx_none ..
  have e2 : HT.sIx xs.length xs.length (some 63) = xs.length := by
    have := HT.sIx_nat xs.length xs.length 63
    rw [show (some (63 : Int)) = some ((63 : Nat) : Int) from rfl, this]
    omega
  rw [e1, e2, List.drop_zero, Nat.sub_zero]
  exact List.take_length
theorem bits_abs {z : Int} (h : Builtin.Int.intBits z ≤ 1048576) : z.natAbs < 2 ^ 1048576 := by
  unfold Builtin.Int.intBits at h
  split at h
  · rename_i h0
    have : z = 0 := by simpa using h0
    subst this
    exact Nat.pow_pos (by decide)
  · have h1 : z.natAbs.log2 < 1048576 := by omega
    have hz : z.natAbs ≠ 0 := by
      rename_i h0
      intro e
      have : z = 0 := by omega
      subst this
      simp at h0
    exact (Nat.log2_lt hz).mp h1
end RD

/-! RD8: data that may be shown and compared: how deep, how great. -/
namespace RD
open PySem PySem.Spec PyProof.Rows L2
/-- of at most e levels, of weight at most w, the ints of at most 120 digits -/
structure Sh (e w : Nat) (x : D) : Prop where
  pl : plain x = true
  sb : (py x).showable = true
  cl : (py x).canLay0 = true
  dp : (py x).depth ≤ e
  wt : (py x).weight ≤ w
  ls : (py x).intsShort 121 = true
theorem Sh.mono {e w e' w' : Nat} {x : D} (h : Sh e w x) (h1 : e ≤ e') (h2 : w ≤ w') : Sh e' w' x := ⟨h.pl, h.sb, h.cl, Nat.le_trans h.dp h1, Nat.le_trans h.wt h2, h.ls⟩
theorem log_of {n k : Nat} (hk : 0 < k) (h : n < 2 ^ k) : n.log2 < k := PySem.Flt.log2_lt_of hk h
theorem ten120 : (10 : Nat) ^ 120 < 2 ^ 399 := by decide +kernel
theorem Sh.int {e w : Nat} {i : Int} (h : i.natAbs < 10 ^ 120) (hw : 400 ≤ w := by omega) : Sh e w (.int i) := by
  have h1 : i.natAbs < 2 ^ 399 := Nat.lt_trans h ten120
  have h2 : i.natAbs.log2 < 399 := log_of (by decide) h1
  refine ⟨rfl, ?_, rfl, ?_, ?_, ?_⟩
  · show decide (i.natAbs.log2 < 1920) = true
    exact decide_eq_true (by omega)
  · exact Nat.zero_le _
  · show (if i == 0 then 0 else i.natAbs.log2 + 1) ≤ w
    split <;> omega
  · show decide ((PyData.shown (.int i)).length ≤ 121) = true
    have e := int_text_length_le10 (k := 120) (by decide) h
    refine decide_eq_true ?_
    show (Str.ofString (toString i)).length ≤ 121
    rw [PySem.ofString_length]; exact e
theorem Sh.bl {e w : Nat} (b : Bool) : Sh e w (.bl b) := ⟨rfl, rfl, rfl, Nat.zero_le _, Nat.zero_le _, rfl⟩
theorem Sh.non {e w : Nat} : Sh e w .non := ⟨rfl, rfl, rfl, Nat.zero_le _, Nat.zero_le _, rfl⟩
theorem Sh.str {e w : Nat} {x : Str} (h : PyData.canLay0 (.str x) = true) (hw : x.length ≤ w) : Sh e w (.str x) := ⟨rfl, rfl, h, Nat.zero_le _, hw, rfl⟩
theorem Sh.all {e w : Nat} : ∀ {xs : List D}, (∀ x ∈ xs, Sh e w x) → plains xs = true ∧ PyData.showableAll (pys xs) = true ∧ PyData.canLayAll0 (pys xs) = true ∧ PyData.depthAll (pys xs) ≤ e ∧ PyData.weightAll (pys xs) ≤ xs.length * (w + 1) ∧ PyData.intsShortAll 121 (pys xs) = true
  | [], _ => ⟨rfl, rfl, rfl, Nat.zero_le _, Nat.zero_le _, rfl⟩
  | x :: xs, h => by
    have h0 := h x (List.mem_cons_self ..)
    obtain ⟨h1, h2, h3, h4, h5, h6⟩ := Sh.all (xs := xs) fun y hy => h y (List.mem_cons_of_mem _ hy)
    refine ⟨?_, ?_, ?_, ?_, ?_, ?_⟩
    · show (plain x && plains xs) = true
      rw [h0.pl, h1]; rfl
    · show (PyData.showable (py x) && PyData.showableAll (pys xs)) = true
      rw [h0.sb, h2]; rfl
    · show (PyData.canLay0 (py x) && PyData.canLayAll0 (pys xs)) = true
      rw [h0.cl, h3]; rfl
    · have := h0.dp
      simp only [pys, PyData.depthAll]
      omega
    · have := h0.wt
      simp only [pys, PyData.weightAll, List.length_cons]
      rw [Nat.succ_mul]
      omega
    · show (PyData.intsShort 121 (py x) && PyData.intsShortAll 121 (pys xs)) = true
      rw [h0.ls, h6]; rfl
theorem Sh.lst {e w m e' w' : Nat} {xs : List D} (h : ∀ x ∈ xs, Sh e w x) (hm : xs.length ≤ m) (he : e + 1 ≤ e' := by omega) (hw : m * (w + 1) ≤ w' := by omega) : Sh e' w' (.lst xs) := by
  obtain ⟨h1, h2, h3, h4, h5, h6⟩ := Sh.all h
  refine ⟨h1, h2, h3, ?_, Nat.le_trans h5 (Nat.le_trans (Nat.mul_le_mul_right _ hm) hw), h6⟩
  simp only [py, PyData.depth]
  omega
theorem Sh.tup {e w m e' w' : Nat} {xs : List D} (h : ∀ x ∈ xs, Sh e w x) (hm : xs.length ≤ m) (he : e + 1 ≤ e' := by omega) (hw : m * (w + 1) ≤ w' := by omega) : Sh e' w' (.tup xs) := by
  obtain ⟨h1, h2, h3, h4, h5, h6⟩ := Sh.all h
  refine ⟨h1, h2, h3, ?_, Nat.le_trans h5 (Nat.le_trans (Nat.mul_le_mul_right _ hm) hw), h6⟩
  simp only [py, PyData.depth]
  omega
theorem Sh.hp {e w : Nat} {x : D} (h : Sh e w x) (he : e ≤ 60) : shp x = true := by
  unfold shp SeqAt.shaped
  rw [h.cl]
  exact decide_eq_true (Nat.le_trans h.dp (by omega))
theorem Sh.shw {e w : Nat} {x : D} (h : Sh e w x) (he : e ≤ 60) : shw x = true := by
  unfold RD.shw
  rw [h.pl, h.sb, PyData.hasDict_of_canLay _ h.cl]
  exact decide_eq_true (Nat.le_trans h.dp he)
theorem Sh.len {e w : Nat} {x : D} (h : Sh e w x) (hw : w ≤ 100000) : (py x).shown.length ≤ sizeLine := by
  have h1 := PyData.shown_le 121 (by decide) _ (PyData.leavesShort_of_canLay0 121 _ h.cl h.ls)
  have h2 := h.wt
  rw [sizeLine_eq]
  omega
section
variable {X : Cx} {K : PySem.W.Frag} {A : Amb} {ρ : En} {x y : D} {k : D → Prop}
/-- the text of a datum -/
def rp (x : D) : Str := (py x).shown
theorem cd_repr' {e w : Nat} (h : k (.str (rp x))) (hx : Sh e w x) (he : e ≤ 60 := by decide) (hw : w ≤ 100000 := by decide) : CallD K A (rRepr K) ρ [x] k := cd_repr (hx.shw he) (hx.len hw) h
theorem od_eq' {e w e' w' : Nat} (h : k (.bl (eqD x y))) (hx : Sh e w x) (hy : Sh e' w' y) (he : e ≤ 60 := by decide) (he' : e' ≤ 60 := by decide) : OpD K A (rEqD K) ρ x y k := od_eq hx.pl hy.pl (hx.hp he) (hy.hp he') h
theorem od_ne' {e w e' w' : Nat} (h : k (.bl (!eqD x y))) (hx : Sh e w x) (hy : Sh e' w' y) (he : e ≤ 60 := by decide) (he' : e' ≤ 60 := by decide) : OpD K A (rNeD K) ρ x y k := od_ne hx.pl hy.pl (hx.hp he) (hy.hp he') h
/-- the same datum on both sides -/
theorem eqD_self {e w : Nat} {x : D} (h : Sh e w x) : eqD x x = true := PySem.SeqAt.eqv_refl_plain _ (PyData.plain_of_canLay0 _ h.cl)
end
end RD
namespace RD
open PySem PySem.Spec PyProof.Rows L2
section
variable {X : Cx} {A : Amb} {ρ : En} {n : Nat} {st : Stmt} {sts : List Stmt} {E : En4}
/-- ways that join again -/
theorem ws_cut (I : Nat → En → Prop) (h : WS1 X A st ρ n { E with nx := I }) (h2 : ∀ n ρ, I n ρ → WS X A sts ρ n E) : WS X A (st :: sts) ρ n E := by
  refine ws_cons ?_
  intro ρ0 H0 σ H hh D f
  exact h ρ0 H0 σ H hh D (f.mono h2 (fun _ _ _ z => z) (fun _ _ z => z) fun _ _ z => z)
end
end RD

/-! RD9: the law's def: the pen is made, then all is deep data. -/
namespace RD
open PySem PySem.Spec PyProof.Rows L2
/-- the law's promise -/
def spLaw (K : PySem.W.Frag) : Sp := fun vs H Q _ => ∃ (a : Addr) (ns : List Int), vs = [.ref a] ∧ SqL K H a (ns.map V.int) ∧ ns.length ≤ 63 ∧ (∀ z ∈ ns, z.natAbs < 2 ^ 1048576) ∧ ∀ H', Q (.bl true) H'
theorem paired_none {K : PySem.W.Frag} {M : Addr → Prop} {H : Hp} : ∀ m : Nat, Paired (SlotR K M H) (List.replicate m none) (List.replicate m none)
  | 0 => .nil
  | m + 1 => .cons trivial (paired_none m)
theorem owns_none : ∀ m : Nat, owns (List.replicate m none) = []
  | 0 => rfl
  | m + 1 => by rw [List.replicate_succ]; show [] ++ owns (List.replicate m none) = []; rw [owns_none m]; rfl
/-- the names behind the pen's making; script at 0, pen at 1 -/
def startL (m : Nat) (v : V) (p : Addr) : En := some (.dat (.raw v)) :: some (.dat (.raw (.ref p))) :: List.replicate m none
section
variable {X : Cx} {K : PySem.W.Frag} {rest : List Stmt} {D : Ends} {H : Hp} {m : Nat} {N : List Str} {a : Addr} {ns : List Int}
theorem law_start (hN : N.length = m + 2) (hS : SqL X.K H a (ns.map V.int)) (hlen : ns.length ≤ 63) (hbits : ∀ z ∈ ns, z.natAbs < 2 ^ 1048576)
    (hrest : ∀ (A : Amb) (p c : Addr) (v : V), A.pen = some (p, c) → WS X A rest (startL m v p) 1000000 { nx := fun _ _ => False, rt := fun _ _ d => d = .bl true }) (hD : ∀ H', D.rt (.bl true) H') :
    tSeq (tAsg (tCall (spPen X.K) [] E0 (tCons (tVar 0) tNil)) (gName 1)) (canSs X rest) D (L2.start N [.ref a]) H := by
  refine ⟨.ref a, ?_, a, ns, rfl, hS, hlen, hbits, fun p c H' old hp hc hpc pen => ?_⟩
  · rfl
  · obtain ⟨at_, rst, cs, e1, e2, r⟩ := pen
    have hs : (L2.start N [.ref a]).set 1 (some (.ref p)) = some (.ref a) :: some (.ref p) :: List.replicate m none := by
      unfold L2.start
      rw [hN]
      rfl
    show canSs X rest D ((L2.start N [.ref a]).set 1 (some (.ref p))) H'
    rw [hs]
    have ho : owns (startL m (.ref a) p) = [] := by
      show [] ++ ([] ++ owns (List.replicate m none)) = []
      rw [owns_none]; rfl
    refine hrest ⟨[p, c], H', some (p, c)⟩ p c (.ref a) rfl (startL m (.ref a) p) H' (some (.ref a) :: some (.ref p) :: List.replicate m none) H' ⟨.refl, ⟨fun _ _ _ => rfl, ?_, by simp, by simp, hpc, at_, rst, cs, e1, e2, r⟩, ⟨.cons (Rep.raw _) (.cons (Rep.raw _) (paired_none m)), ?_⟩⟩ D ⟨?_, ?_, ?_, ?_⟩
    · intro b hb
      rcases List.mem_cons.mp hb with rfl | hb
      · rw [e1]; simp
      · rw [List.mem_singleton.mp hb, e2]; simp
    · rw [ho]
      simpa using hpc
    · intro n ρ σ H h _
      exact h.elim
    · intro n ρ σ H d v h _ rr
      cases h
      cases rr
      exact hD _
    · intro n ρ σ H h _
      exact h.elim
    · intro n ρ σ H h _
      exact h.elim
end
/-- what the pen's making leaves -/
theorem pen_made {H : Hp} {p c : Addr} {ns : List Int} (h1 : H c = none) (h2 : upd H c (.lst (ns.map V.int)) p = none) (hl : ns.length ≤ 63) (hb : ∀ z ∈ ns, z.natAbs < 2 ^ 1048576) :
    (∀ b o, H b = some o → upd (upd H c (.lst (ns.map V.int))) p (.lst [.ref c, .int 0, .int 0]) b = some o) ∧ H p = none ∧ p ≠ c ∧ PenAt p c 1000000 (upd (upd H c (.lst (ns.map V.int))) p (.lst [.ref c, .int 0, .int 0])) := by
  have hpc : p ≠ c := fun e => by rw [e, upd_same] at h2; cases h2
  have hp : H p = none := by rwa [upd_ne hpc] at h2
  refine ⟨fun b o e => ?_, hp, hpc, 0, 0, ns, upd_same, by rw [upd_ne hpc.symm, upd_same], by decide, by decide, by decide, by show 0 < 2 ^ 1048600; exact Nat.two_pow_pos _, hl, hb⟩
  rw [upd_ne (ne_of_none e hp), upd_ne (ne_of_none e h1)]
  exact e
end RD
namespace RD
open PySem PySem.Spec PyProof.Rows L2
theorem RepAll.reverse {K : PySem.W.Frag} {M : Addr → Prop} {H : Hp} : ∀ {vs : List V} {ds : List D}, RepAll K M H vs ds → RepAll K M H vs.reverse ds.reverse
  | _, _, .nil => .nil
  | _, _, .cons r t => by
    rw [List.reverse_cons, List.reverse_cons]
    exact (RepAll.reverse t).append (.cons r .nil)
section
variable {X : Cx} {A : Amb} {ρ : En} {n : Nat} {st : Stmt} {sts : List Stmt} {E : En4} {K : PySem.W.Frag} {x y : D} {k : D → Prop}
/-- a statement that changes nothing if it goes on -/
theorem ws_stay (h : WS1 X A st ρ n { E with nx := fun n' ρ' => n' = n ∧ ρ' = ρ }) (h2 : WS X A sts ρ n E) : WS X A (st :: sts) ρ n E :=
  ws_cut (fun n' ρ' => n' = n ∧ ρ' = ρ) h fun _ _ z => by
    obtain ⟨rfl, rfl⟩ := z
    exact h2
/-- two of the same -/
theorem od_ne_same {e w : Nat} (h : k (.bl false)) (hx : Sh e w x) (hy : y = x) (he : e ≤ 60 := by decide) : OpD K A (rNeD K) ρ x y k := by
  subst hy
  refine od_ne' ?_ hx hx he he
  rw [eqD_self hx]
  exact h
theorem od_eq_same {e w : Nat} (h : k (.bl true)) (hx : Sh e w x) (hy : y = x) (he : e ≤ 60 := by decide) : OpD K A (rEqD K) ρ x y k := by
  subst hy
  refine od_eq' ?_ hx hx he he
  rw [eqD_self hx]
  exact h
theorem od_ne_str {i j : Str} (h : k (.bl false)) (e : i = j) : OpD K A rNe ρ (.str i) (.str j) k := by
  subst e
  refine od_neS ?_
  rw [decide_eq_true rfl]
  exact h
end
theorem Sh.two {e w e' w' : Nat} {x y : D} (hx : Sh e w x) (hy : Sh e w y) (he : e + 1 ≤ e' := by omega) (hw : 2 * (w + 1) ≤ w' := by omega) : Sh e' w' (.tup [x, y]) := Sh.tup (m := 2) (e := e) (w := w) (fun z hz => by
  rcases List.mem_cons.mp hz with rfl | hz
  · exact hx
  · rw [List.mem_singleton.mp hz]; exact hy) (Nat.le_refl _) he hw
theorem all_nil {α : Type} {p : α → Prop} : ∀ x ∈ ([] : List α), p x := fun x h => nomatch h
theorem all_cons {α : Type} {p : α → Prop} {a : α} {l : List α} (h : p a) (t : ∀ x ∈ l, p x) : ∀ x ∈ a :: l, p x := fun x hx => by
  rcases List.mem_cons.mp hx with rfl | hx
  · exact h
  · exact t x hx
end RD
namespace RD
open PySem PySem.Spec PyProof.Rows L2
section
variable {K : PySem.W.Frag} {x q : Str} {params : Arguments} {body : List Stmt} {scope : Scope} {f T : Addr} {oc kV doc pm cdv ct oc2 : Value} {od an od2 : Option Addr} {osl sl2 : Array (Option Value)} {fd : FuncData}
/-- a def without defaults -/
theorem fd_mk (l : K.lookup f = some ⟨oc, od, .func (PySem.W.fnOf x q params body scope .none kV doc pm an cdv ct), osl⟩) (c : PySem.W.codeIn K cdv q = true) (k : PySem.W.keepIn K (.ref f) = true) : FunD K x q params body scope [] [] f (PySem.W.fnOf x q params body scope .none kV doc pm an cdv ct) :=
  ⟨⟨oc, od, .none, kV, doc, pm, an, cdv, ct, osl, rfl, l, c, .inl ⟨rfl, rfl⟩, .inl rfl⟩, k⟩
/-- a def with defaults -/
theorem fd_mkD {v : V} {dvs : List V} {its : Array Value} {n : Nat} (l : K.lookup f = some ⟨oc, od, .func (PySem.W.fnOf x q params body scope (.ref T) kV doc pm an cdv ct), osl⟩) (c : PySem.W.codeIn K cdv q = true) (k : PySem.W.keepIn K (.ref f) = true)
    (lT : K.lookup T = some ⟨oc2, od2, .seq its n, sl2⟩) (r : Vals (v :: dvs) its.toList) : FunD K x q params body scope (v :: dvs) [] f (PySem.W.fnOf x q params body scope (.ref T) kV doc pm an cdv ct) :=
  ⟨⟨oc, od, .ref T, kV, doc, pm, an, cdv, ct, osl, rfl, l, c, .inr ⟨List.cons_ne_nil _ _, T, _, its.toList, n, rfl, lT, by simp, r⟩, .inl rfl⟩, k⟩
end
end RD

namespace K
open PySem PySem.Spec PyProof.Rows L2 RD
def topS (i : Nat) : Stmt := PySem.Challenge.pw_replycuts_k03_fractions.main.body.getD i (.Pass ⟨0, 0, 0, 0⟩)
abbrev s_draw : Stmt := topS 11
theorem sc_draw : FnScope ["pen", "many", "digit", "at", "cell", "great", "mixed"] ["pen", "many"] (defScope s_draw) := ⟨rfl, rfl, rfl, by decide +kernel, rfl, by decide +kernel, by decide +kernel⟩
/-- what is drawn -/
def R_draw (p : Addr) (n : Nat) (ds : List D) (k : Nat → D → Prop) : Prop := ∃ (many : Int) (n0 : Nat), n = n0 + 1 ∧ ds = [.raw (.ref p), .int many] ∧ many < 2 ^ 9000 ∧ ∀ v : Int, 0 ≤ v → (v < many ∨ v = 0) → k n0 (.int v)
theorem shaped_ints (ns : List Int) : SeqAt.shaped (.list (ns.map PyData.int)) = true := by
  have h1 : ∀ ns : List Int, PyData.canLayAll0 (ns.map PyData.int) = true := fun ns => by
    induction ns with
    | nil => simp [PyData.canLayAll0]
    | cons n ns ih => simp [PyData.canLayAll0, PyData.canLay0, ih]
  have h2 : ∀ ns : List Int, PyData.depthAll (ns.map PyData.int) = 0 := fun ns => by
    induction ns with
    | nil => simp [PyData.depthAll]
    | cons n ns ih => simp [PyData.depthAll, PyData.depth, ih]
  unfold SeqAt.shaped
  rw [Bool.and_eq_true]
  exact ⟨by simp only [PyData.canLay0]; exact h1 ns, decide_eq_true (by simp only [PyData.depth]; rw [h2]; decide)⟩
theorem dp_ints {K : PySem.W.Frag} {H : Hp} : ∀ (ns : List Int), DpAll K H (ns.map V.int) (ns.map PyData.int)
  | [] => .nil
  | n :: ns => .cons (.int n) (dp_ints ns)
theorem pow_split {x : Int} {b c : Nat} (h : x.natAbs < 2 ^ b) (hbc : b ≤ c) : x.natAbs < 2 ^ c := Nat.lt_of_lt_of_le h (Nat.pow_le_pow_right (by decide) hbc)
theorem div_abs {x m : Int} {b : Nat} (h0 : 0 ≤ x) (hm : 0 < m) (h : x.natAbs < 2 ^ b) : 0 ≤ x / m ∧ (x / m).natAbs < 2 ^ b := by
  have h1 : 0 ≤ x / m := Int.ediv_nonneg h0 (by omega)
  have h2 : x / m ≤ x := Int.ediv_le_self _ h0
  exact ⟨h1, Nat.lt_of_le_of_lt (by omega) h⟩
theorem cdw {i j : Int} (h : 0 < j) (hb : j < 2 ^ 9000) : CDivW i j := wide_div h (b := 9000) (by
  have : (j.natAbs : Int) = j := by omega
  have h2 : ((j.natAbs : Nat) : Int) < ((2 ^ 9000 : Nat) : Int) := by
    rw [this]
    have e : ((2 ^ 9000 : Nat) : Int) = (2 : Int) ^ 9000 := by
      rw [Int.natCast_pow] <;> rfl
    rw [e]; exact hb
  exact Int.ofNat_lt.mp h2) (by decide) (by decide)
theorem mod_lt' {x m : Int} (hm : 0 < m) : 0 ≤ x % m ∧ x % m < m := ⟨Int.emod_nonneg _ (by omega), Int.emod_lt_of_pos _ hm⟩
section
variable {P : Program} {w : World} {K : PySem.W.Frag} {mg : Str → Option Value} {base : Heap}
theorem ok_draw {f : Addr} {fd : FuncData} (F : FunD K "_law_draw" "_law_draw" (defArgs s_draw) (defBody s_draw) (defScope s_draw) [] [] f fd) (m1 : mg "int" = none) (m2 : mg "len" = none) (m3 : mg "abs" = none) : FnOk P w K mg base CX0 1 f fd ["pen", "many"] (spP K R_draw) := by
  refine F.ok sc_draw (fun vs H Q E h => ?_) fun cdv A outer s H vs Q E hr h => ?_
  · obtain ⟨W, p, c, n, ds, k, _, _, _, _, _, _, r, ⟨many, n0, _, e, _⟩, _⟩ := h
    rw [r.length, e]; rfl
  · obtain ⟨W, p, c, n, ds, k, htr, hnd, hp, hc, hpc, pen, r, ⟨many, n0, rfl, rfl, hmany, hk⟩, q⟩ := h
    obtain ⟨at_, rest, ns, e1, e2, h0, h1, h2, h3, h4, h5⟩ := pen
    cases r with
    | cons r1 r2 =>
    cases r1
    cases r2 with
    | cons r2 r3 =>
    cases r2; cases r3
    -- how it ends
    have fin : ∀ (v : Int) (H' : Hp) (at' rest' : Int), 0 ≤ v → (v < many ∨ v = 0) → (∀ a o, a ≠ p → H a = some o → H' a = some o) → H' p = some (.lst [.ref c, .int at', .int rest']) → 0 ≤ at' → at' + n0 ≤ 1000000 → 0 ≤ rest' → rest'.natAbs < 2 ^ 1048600 → Q (.int v) H' :=
      fun v H' at' rest' a1 a2 a3 a4 a5 a6 a7 a8 => q n0 (.int v) (.int v) H' (hk v a1 a2) a3 ⟨at', rest', ns, a4, a3 c _ (Ne.symm hpc) e2, a5, a6, a7, a8, h4, h5⟩ (.int v)
    have hu := hr.units
    refine ⟨_, PSs.nox (pss_cons (ps_if (pt_cmpR op_lt (pv 1) pe_int (nomark _)) (pss_one (ps_ret pe_int)) pss_nil)
      (pss_cons (ps_if (pt_cmpR op_gt (pe_ix ix_list (pv 0) pe_int (fun _ _ => rfl)) pe_int (nomark _))
          (pss_cons (ps_set (i := 2) sc_draw.nd rfl (.inl rfl) (pe_op op_mod (pe_callTy call_int1 (by rfl) m1 boot_int (pa_cons (pe_ix ix_list (pv 0) pe_int (fun _ _ => rfl)) pa_nil)) (pv 1)))
          (pss_cons (ps_asg (pe_op op_fdivW (pe_callTy call_int1 (by rfl) m1 boot_int (pa_cons (pe_ix ix_list (pv 0) pe_int (fun _ _ => rfl)) pa_nil)) (pv 1)) (pg_sub (pv 0) pe_int set_list))
          (pss_one (ps_ret (pv 2))))) pss_nil)
      (pss_cons (ps_set (i := 3) sc_draw.nd rfl (.inl rfl) (pe_ix ix_list (pv 0) pe_int (fun _ _ => rfl)))
      (pss_cons (ps_asg (pe_op op_add (pv 3) pe_int) (pg_sub (pv 0) pe_int set_list))
      (pss_cons (ps_set (i := 4) sc_draw.nd rfl (.inl rfl) (pe_op op_add (pe_op op_mul pe_int (pv 3)) pe_int))
      (C8.pss_cut (ps_if (pt_cmpR (op_neD hu) (pe_ix ix_list (pv 0) pe_int (fun _ _ => rfl)) (pe_lst pa_nil) (nomark _))
          (pss_one (ps_set (i := 4) sc_draw.nd rfl (.inl rfl) (pe_ix ix_list (pe_ix ix_list (pv 0) pe_int (fun _ _ => rfl)) (pe_op op_mod (pe_callTy call_int1 (by rfl) m1 boot_int (pa_cons (pv 3) pa_nil)) (pe_callB call_len_seq (by rfl) m2 PySem.boot_len (pa_cons (pe_ix ix_list (pv 0) pe_int (fun _ _ => rfl)) pa_nil))) (fun _ _ => rfl)))) pss_nil)
      (C8.pss_cut (ps_if (pw_and (pt_cmpR op_lt (pv 3) (pe_callB call_len_seq (by rfl) m2 PySem.boot_len (pa_cons (pe_ix ix_list (pv 0) pe_int (fun _ _ => rfl)) pa_nil)) (nomark _)) (pw_and1 (pt_cmpR op_ge (pe_callB call_abs (by rfl) m3 boot_abs (pa_cons (pv 4) pa_nil)) (pe_op op_pow pe_int pe_int) (nomark _)))).pt
          (pss_cons (ps_set (i := 5) sc_draw.nd rfl (.inl rfl) (pe_op op_add (pe_op op_mul pe_int (pe_op op_sub (pe_callB call_abs (by rfl) m3 boot_abs (pa_cons (pv 4) pa_nil)) (pe_op op_pow pe_int pe_int))) (pe_callTy call_int1 (by rfl) m1 boot_int (pa_cons (pe_cmpR op_lt (pv 4) pe_int (nomark _)) pa_nil))))
          (pss_cons (ps_asg (pe_op op_fdivW (pe_callTy call_int1 (by rfl) m1 boot_int (pa_cons (pv 5) pa_nil)) (pv 1)) (pg_sub (pv 0) pe_int set_list))
          (pss_one (ps_ret (pe_op op_mod (pe_callTy call_int1 (by rfl) m1 boot_int (pa_cons (pv 5) pa_nil)) (pv 1)))))) pss_nil)
      (pss_cons (ps_set (i := 6) sc_draw.nd rfl (.inl rfl) (pe_op op_mod (pe_callTy call_int1 (by rfl) m1 boot_int (pa_cons (pe_op op_pow (pe_op op_add (pe_op op_add (pe_op op_mod (pe_callTy call_int1 (by rfl) m1 boot_int (pa_cons (pv 4) pa_nil)) pe_int) (pe_op op_mul pe_int (pv 3))) pe_int) pe_int) pa_nil)) pe_int))
      (pss_cons (ps_set (i := 6) sc_draw.nd rfl (.inl rfl) (pe_op op_mod (pe_callTy call_int1 (by rfl) m1 boot_int (pa_cons (pe_op op_pow (pe_op op_add (pe_op op_add (pe_op op_mul (pv 6) (pe_op op_add (pe_op op_mul pe_int (pv 3)) pe_int)) (pe_op op_mul (pe_op op_mul pe_int (pv 3)) (pv 3))) pe_int) pe_int) pa_nil)) pe_int))
      (pss_one (ps_ret (pe_op op_mod (pe_callTy call_int1 (by rfl) m1 boot_int (pa_cons (pe_op op_fdiv (pv 6) pe_int) pa_nil)) (pv 1))))))))))))), ?_⟩
    have eP : SqL K H p [.ref c, .int at_, .int rest] := .of e1
    have eC : SqL K H c (ns.map V.int) := .of e2
    -- many < 2
    refine ⟨.int many, rfl, many, 2, rfl, rfl, _, rfl, ite2 (fun e => ?_) (fun e => ?_)⟩
    · exact fin 0 H at_ rest (by omega) (.inr rfl) (fun _ _ _ z => z) e1 h0 (by omega) h2 h3
    have hm2 : 2 ≤ many := by
      have := e
      simp at this
      omega
    -- pen[2] > 0
    refine ⟨.ref p, rfl, p, _, 2, .int rest, rfl, rfl, eP, atI_nat (j := 2) rfl, rest, 0, rfl, rfl, _, rfl, ite2 (fun e => ?_) (fun e => ?_)⟩
    · refine ⟨.ref p, rfl, p, _, 2, .int rest, rfl, rfl, eP, atI_nat (j := 2) rfl, .inl ⟨rest, rfl, .int many, rfl, rest, many, rfl, rfl, (by omega : 0 < many), ?_⟩⟩
      refine ⟨.ref p, rfl, p, _, 2, .int rest, rfl, rfl, eP, atI_nat (j := 2) rfl, .inl ⟨rest, rfl, .int many, rfl, rest, many, rfl, rfl, cdw (by omega) hmany, ?_⟩⟩
      refine ⟨.ref p, rfl, p, _, 2, 2, rfl, rfl, e1, rfl, .int (rest % many), rfl, ?_⟩
      obtain ⟨b1, b2⟩ := mod_lt' (x := rest) (m := many) (by omega)
      obtain ⟨b3, b4⟩ := div_abs h2 (by omega : 0 < many) h3
      exact fin _ _ at_ (rest / many) b1 (.inl b2) (fun a o z y => by rw [upd_ne z]; exact y) upd_same h0 (by omega) b3 b4
    -- at = pen[1]; pen[1] = at + 1
    refine ⟨.ref p, rfl, p, _, 1, .int at_, rfl, rfl, eP, atI_nat (j := 1) rfl, ?_⟩
    refine ⟨.int at_, rfl, at_, 1, rfl, rfl, .ref p, rfl, p, _, 1, 1, rfl, rfl, e1, rfl, ?_⟩
    have nec : c ≠ p := Ne.symm hpc
    have e1' : (upd H p (.lst [.ref c, .int (at_ + 1), .int rest])) p = some (.lst [.ref c, .int (at_ + 1), .int rest]) := upd_same
    have e2' : (upd H p (.lst [.ref c, .int (at_ + 1), .int rest])) c = some (.lst (ns.map V.int)) := by rw [upd_ne nec]; exact e2
    have st1 : ∀ a o, a ≠ p → H a = some o → (upd H p (.lst [.ref c, .int (at_ + 1), .int rest])) a = some o := fun a o z y => by rw [upd_ne z]; exact y
    have eP1 : SqL K (upd H p (.lst [.ref c, .int (at_ + 1), .int rest])) p [.ref c, .int (at_ + 1), .int rest] := .of e1'
    -- cell
    have hat : at_.natAbs ≤ 1000000 := by omega
    refine ⟨_, rfl, _, _, rfl, rfl, .inl ⟨by decide, by decide⟩, _, _, rfl, rfl, ?_⟩
    -- if pen[0] != []
    refine ⟨fun σ' H2 => ∃ cell : Int, cell.natAbs < 2 ^ 1048576 ∧ σ' = [some (.ref p), some (.int many), none, some (.int at_), some (.int cell), none, none] ∧ H2 p = some (.lst [.ref c, .int (at_ + 1), .int rest]) ∧ H2 c = some (.lst (ns.map V.int)) ∧ ∀ a o, a ≠ p → H a = some o → H2 a = some o, ?_, ?_⟩
    · have hsmall : (70853 * at_ + 8123).natAbs < 2 ^ 1048576 := Nat.lt_of_lt_of_le (show (70853 * at_ + 8123).natAbs < 2 ^ 40 by omega) (Nat.pow_le_pow_right (by decide) (by decide))
      refine ⟨_, rfl, p, _, 0, .ref c, rfl, rfl, eP1, atI_nat (j := 0) rfl, Nat.zero_le _, fun g ng => ?_⟩
      have ngp : p ≠ g := ne_of_none e1' ng
      have ngc : c ≠ g := ne_of_none e2' ng
      have e1'' : (upd (upd H p (.lst [.ref c, .int (at_ + 1), .int rest])) g (.lst [])) p = some (.lst [.ref c, .int (at_ + 1), .int rest]) := by rw [upd_ne ngp]; exact e1'
      have e2'' : (upd (upd H p (.lst [.ref c, .int (at_ + 1), .int rest])) g (.lst [])) c = some (.lst (ns.map V.int)) := by rw [upd_ne ngc]; exact e2'
      have st2 : ∀ a o, a ≠ p → H a = some o → (upd (upd H p (.lst [.ref c, .int (at_ + 1), .int rest])) g (.lst [])) a = some o := fun a o z y => by
        have y1 := st1 a o z y
        rw [upd_ne (ne_of_none y1 ng)]; exact y1
      have eP2 : SqL K (upd (upd H p (.lst [.ref c, .int (at_ + 1), .int rest])) g (.lst [])) p [.ref c, .int (at_ + 1), .int rest] := .of e1''
      have eC2 : SqL K (upd (upd H p (.lst [.ref c, .int (at_ + 1), .int rest])) g (.lst [])) c (ns.map V.int) := .of e2''
      refine ⟨.list (ns.map PyData.int), .list [], .lst eC2 (dp_ints ns), .lst (.of upd_same) .nil, shaped_ints ns, shaped_ints [], _, rfl, ite2 (fun e => ?_) (fun e => ?_)⟩
      · have hne : ns ≠ [] := fun z => by
          subst z
          simp [PyData.eqv, PyData.eqvAll] at e
        have hpos : 0 < ns.length := List.length_pos_iff.mpr hne
        obtain ⟨b1, b2⟩ := mod_lt' (x := at_) (m := (ns.length : Int)) (by omega)
        have hlt : (at_ % (ns.length : Int)).toNat < ns.length := by omega
        have hix : atI (ns.map V.int) (at_ % (ns.length : Int)) = some (.int ns[(at_ % (ns.length : Int)).toNat]) := by
          have := atI_nat (xs := ns.map V.int) (j := (at_ % (ns.length : Int)).toNat) (v := .int ns[(at_ % (ns.length : Int)).toNat]) (by rw [List.getElem?_map, List.getElem?_eq_getElem hlt]; rfl)
          rw [Int.toNat_of_nonneg b1] at this
          exact this
        refine ⟨.ref p, rfl, p, _, 0, .ref c, rfl, rfl, eP2, atI_nat (j := 0) rfl, .int at_, rfl, .inl ⟨at_, rfl, .ref p, rfl, p, _, 0, .ref c, rfl, rfl, eP2, atI_nat (j := 0) rfl, c, _, rfl, .inl eC2, ?_⟩⟩
        refine ⟨at_, ((ns.map V.int).length : Int), rfl, rfl, by rw [List.length_map]; omega, c, _, _, _, rfl, rfl, eC2, by rw [List.length_map]; exact hix, ?_⟩
        exact ⟨_, h5 _ (List.getElem_mem hlt), rfl, e1'', e2'', st2⟩
      · exact ⟨_, hsmall, rfl, e1'', e2'', st2⟩
    rintro _ H2 ⟨cell, hcell, rfl, g1, g2, st2⟩
    have eP2 : SqL K H2 p [.ref c, .int (at_ + 1), .int rest] := .of g1
    have eC2 : SqL K H2 c (ns.map V.int) := .of g2
    have habs : 0 ≤ (if cell < 0 then -cell else cell) ∧ (if cell < 0 then -cell else cell).natAbs < 2 ^ 1048576 := by
      split <;> constructor <;> omega
    -- a great cell
    refine ⟨fun σ' H' => σ' = [some (.ref p), some (.int many), none, some (.int at_), some (.int cell), none, none] ∧ H' = H2, ?_, ?_⟩
    · refine ⟨.int at_, rfl, .ref p, rfl, p, _, 0, .ref c, rfl, rfl, eP2, atI_nat (j := 0) rfl, c, _, rfl, .inl eC2, at_, _, rfl, rfl, _, rfl, ite2 (fun e => ?_) (fun e => ?_)⟩
      · refine ⟨.int cell, rfl, cell, rfl, 10, 18, rfl, rfl, ⟨by decide, by decide, by decide⟩, _, _, rfl, rfl, _, rfl, ite2 (fun e => ?_) (fun e => ?_)⟩
        · have hge : (10 : Int) ^ 18 ≤ (if cell < 0 then -cell else cell) := of_decide_eq_true e
          refine ⟨.int cell, rfl, cell, rfl, 10, 18, rfl, rfl, ⟨by decide, by decide, by decide⟩, _, _, rfl, rfl, 2, _, rfl, rfl, .inl ⟨by decide, by decide⟩, .int cell, rfl, cell, 0, rfl, rfl, .inr ⟨_, rfl, _, _, rfl, rfl, ?_⟩⟩
          have hg : ∀ great : Int, great = 2 * ((if cell < 0 then -cell else cell) - 10 ^ 18) + (if decide (cell < 0) = true then 1 else 0) → 0 ≤ great ∧ great.natAbs < 2 ^ 1048578 := fun great hgr => by
            have b1 : (0 : Int) ≤ (if decide (cell < 0) = true then 1 else 0) ∧ (if decide (cell < 0) = true then (1 : Int) else 0) ≤ 1 := by split <;> constructor <;> decide
            have b2 : (10 : Int) ^ 18 = 1000000000000000000 := by decide
            rw [b2] at hge hgr
            obtain ⟨x1, x2⟩ := habs
            have p2 : (2 : Nat) ^ 1048578 = 4 * 2 ^ 1048576 := by rw [show (1048578 : Nat) = 1048576 + 2 from rfl, Nat.pow_add]; omega
            rw [p2]
            generalize (2 : Nat) ^ 1048576 = TT at x2 ⊢
            omega
          obtain ⟨great, hgr⟩ : ∃ great : Int, great = 2 * ((if cell < 0 then -cell else cell) - 10 ^ 18) + (if decide (cell < 0) = true then 1 else 0) := ⟨_, rfl⟩
          obtain ⟨g3, g4⟩ := hg great hgr
          have hgr' : (fun i j => V.int (i + j)) ((fun i j => i * j) 2 ((fun i j => i - j) (if cell < 0 then -cell else cell) (10 ^ (18 : Int).toNat))) (if decide (cell < 0) = true then 1 else 0) = V.int great := by rw [hgr]; rfl
          obtain ⟨d1, d2⟩ := div_abs g3 (by omega : 0 < many) g4
          obtain ⟨b1, b2⟩ := mod_lt' (x := great) (m := many) (by omega)
          refine ⟨_, rfl, .inl ⟨great, by first | rfl | (rw [hgr]; rfl), .int many, rfl, great, many, rfl, rfl, cdw (by omega) hmany, .ref p, rfl, p, _, 2, 2, rfl, rfl, g1, rfl, ?_⟩⟩
          refine ⟨_, rfl, .inl ⟨great, by first | rfl | (rw [hgr]; rfl), .int many, rfl, great, many, rfl, rfl, (by omega : 0 < many), ?_⟩⟩
          exact fin _ _ (at_ + 1) (great / many) b1 (.inl b2) (fun a o z y => by rw [upd_ne z]; exact st2 a o z y) upd_same (by omega) (by omega) d1 (pow_split d2 (by decide))
        · exact ⟨rfl, rfl⟩
      · exact iteF ⟨rfl, rfl⟩
    rintro _ _ ⟨rfl, rfl⟩
    -- a mixed one
    have bat : 0 ≤ at_ ∧ at_ ≤ 1000000 := ⟨h0, by omega⟩
    obtain ⟨x1, x2⟩ := mod_lt' (x := cell) (m := 2147483549) (by decide)
    refine ⟨.int cell, rfl, .inl ⟨cell, rfl, cell, 2147483549, rfl, rfl, (by decide : (0 : Int) < 2147483549), .int at_, rfl, _, at_, rfl, rfl, .inl ⟨by decide, by decide⟩, _, _, rfl, rfl, _, _, rfl, rfl, _, 3, rfl, rfl, ⟨by decide, by decide, ?_⟩, .inl ⟨_, rfl, _, _, rfl, rfl, (by decide : (0 : Int) < 2147483629), ?_⟩⟩⟩
    · show (cell % 2147483549 + _ * at_ + _).natAbs < 2 ^ 64
      omega
    dsimp only
    generalize (cell % 2147483549 + _ * at_ + _) ^ (3 : Int).toNat = cube
    obtain ⟨x3, x4⟩ := mod_lt' (x := cube) (m := 2147483629) (by decide)
    generalize cube % 2147483629 = mixed at x3 x4
    have q1 : 0 ≤ mixed * (2 * at_ + 10000) ∧ mixed * (2 * at_ + 10000) ≤ 2147483629 * 2010000 := ⟨Int.mul_nonneg x3 (by omega), Int.mul_le_mul (by omega) (by omega) (by omega) (by decide)⟩
    have q2 : ∀ c0 : Int, 0 ≤ c0 → c0 ≤ 100000 → 0 ≤ c0 * at_ * at_ ∧ c0 * at_ * at_ ≤ 100000 * 1000000 * 1000000 := fun c0 z1 z2 => ⟨Int.mul_nonneg (Int.mul_nonneg z1 bat.1) bat.1, Int.mul_le_mul (Int.mul_le_mul z2 bat.2 bat.1 (by decide)) bat.2 bat.1 (by decide)⟩
    have q3 : ∀ c0 : Int, 0 ≤ c0 → c0 ≤ 10000 → 0 ≤ mixed * (2 * at_ + c0) ∧ mixed * (2 * at_ + c0) ≤ mixed * (2 * at_ + 10000) := fun c0 z1 z2 => ⟨Int.mul_nonneg x3 (by omega), Int.mul_le_mul_of_nonneg_left (by omega) x3⟩
    refine ⟨.int mixed, rfl, .int at_, rfl, _, at_, rfl, rfl, .inl ⟨by decide, by decide⟩, _, _, rfl, rfl, mixed, _, rfl, rfl, .inl ⟨by omega, by omega⟩, .int at_, rfl, _, at_, rfl, rfl, .inl ⟨by decide, by decide⟩, .int at_, rfl, _, at_, rfl, rfl, .inr ⟨by omega, by omega⟩, _, _, rfl, rfl, _, _, rfl, rfl, _, 5, rfl, rfl, ⟨by decide, by decide, ?_⟩, .inl ⟨_, rfl, _, _, rfl, rfl, (by decide : (0 : Int) < 2147483563), ?_⟩⟩
    · show (mixed * (2 * at_ + _) + _ * at_ * at_ + _).natAbs < 2 ^ 64
      have z1 := q3 _ (by decide : (0 : Int) ≤ 6007) (by decide)
      have z2 := q2 _ (by decide : (0 : Int) ≤ 70853) (by decide)
      omega
    dsimp only
    generalize (mixed * (2 * at_ + _) + _ * at_ * at_ + _) ^ (5 : Int).toNat = five
    obtain ⟨x5, x6⟩ := mod_lt' (x := five) (m := 2147483563) (by decide)
    generalize five % 2147483563 = m2' at x5 x6
    refine ⟨.int m2', rfl, m2', 16, rfl, rfl, ⟨by decide, by decide⟩, .inl ⟨_, rfl, .int many, rfl, _, many, rfl, rfl, (by omega : 0 < many), ?_⟩⟩
    obtain ⟨b1, b2⟩ := mod_lt' (x := m2' / 16) (m := many) (by omega)
    exact fin _ _ (at_ + 1) rest b1 (.inl b2) st2 g1 (by omega) (by omega) h2 h3
end
end K

namespace K
open PySem PySem.Spec PyProof.Rows L2 RD
abbrev s_frac : Stmt := topS 2
theorem sc_frac : FnScope ["top", "bottom", "by"] ["top", "bottom"] (defScope s_frac) := ⟨rfl, rfl, rfl, by decide +kernel, rfl, by decide +kernel, by decide +kernel⟩
/-! ### the plain law -/
/-- the fraction of two integers -/
def gI (a b : Int) : Int := if 0 < b then ((Nat.gcd a.natAbs b.natAbs : Nat) : Int) else -((Nat.gcd a.natAbs b.natAbs : Nat) : Int)
def fracI (a b : Int) : Int × Int := (a.fdiv (gI a b), b.fdiv (gI a b))
def frD (q : Int × Int) : D := .tup [.int q.1, .int q.2]
theorem gcd_pos {a b : Int} (hb : b ≠ 0) : 0 < Nat.gcd a.natAbs b.natAbs := Nat.gcd_pos_of_pos_right _ (by omega)
theorem gI_ne {a b : Int} (hb : b ≠ 0) : gI a b ≠ 0 := by
  have := gcd_pos (a := a) hb
  unfold gI
  split <;> omega
theorem gI_abs {a b : Int} (hb : b ≠ 0) : (gI a b).natAbs ≤ b.natAbs := by
  have h1 : Nat.gcd a.natAbs b.natAbs ≤ b.natAbs := Nat.gcd_le_right _ (by omega)
  unfold gI
  split <;> omega
/-- the same, as the law reckons it -/
def lowI (a b : Int) : Int × Int := if 0 < b then (a / ((Nat.gcd a.natAbs b.natAbs : Nat) : Int), b / ((Nat.gcd a.natAbs b.natAbs : Nat) : Int)) else (0 - a / ((Nat.gcd a.natAbs b.natAbs : Nat) : Int), 0 - b / ((Nat.gcd a.natAbs b.natAbs : Nat) : Int))
theorem fdiv_neg_dvd {a g : Int} (hg : 0 < g) (h : g ∣ a) : a.fdiv (-g) = 0 - a / g := by
  obtain ⟨c, rfl⟩ := h
  have h1 : g * c / g = c := Int.mul_ediv_cancel_left c (by omega)
  rw [h1, show g * c = (-c) * (-g) by rw [Int.neg_mul_neg, Int.mul_comm], Int.mul_fdiv_cancel _ (by omega)]
  omega
theorem dvd_l (a b : Int) : ((Nat.gcd a.natAbs b.natAbs : Nat) : Int) ∣ a := Int.ofNat_dvd_left.mpr (Nat.gcd_dvd_left _ _)
theorem dvd_r (a b : Int) : ((Nat.gcd a.natAbs b.natAbs : Nat) : Int) ∣ b := Int.ofNat_dvd_left.mpr (Nat.gcd_dvd_right _ _)
theorem low_frac {a b : Int} (hb : b ≠ 0) : lowI a b = fracI a b := by
  have hg : 0 < ((Nat.gcd a.natAbs b.natAbs : Nat) : Int) := by have := gcd_pos (a := a) hb; omega
  unfold lowI fracI gI
  by_cases h : 0 < b
  · rw [if_pos h, if_pos h, Int.fdiv_eq_ediv_of_nonneg _ (Int.le_of_lt hg), Int.fdiv_eq_ediv_of_nonneg _ (Int.le_of_lt hg)]
  · rw [if_neg h, if_neg h, fdiv_neg_dvd hg (dvd_l a b), fdiv_neg_dvd hg (dvd_r a b)]
theorem frac_one (a : Int) : fracI a 1 = (a, 1) := by
  have h : gI a 1 = 1 := by
    unfold gI
    rw [if_pos (by decide), show (1 : Int).natAbs = 1 from rfl, Nat.gcd_one_right]; rfl
  unfold fracI
  rw [h]
  simp
/-- how great -/
theorem frac_abs {a b : Int} {A B : Nat} (hb : b ≠ 0) (ha : a.natAbs ≤ A) (h2 : b.natAbs ≤ B) : (fracI a b).1.natAbs ≤ A ∧ 0 < (fracI a b).2 ∧ (fracI a b).2.natAbs ≤ B := by
  have hg : 0 < ((Nat.gcd a.natAbs b.natAbs : Nat) : Int) := by have := gcd_pos (a := a) hb; omega
  rw [← low_frac hb]
  unfold lowI
  obtain ⟨c, hc⟩ := dvd_l a b
  obtain ⟨d, hd⟩ := dvd_r a b
  generalize ((Nat.gcd a.natAbs b.natAbs : Nat) : Int) = g at *
  have e1 : a / g = c := by rw [hc]; exact Int.mul_ediv_cancel_left c (by omega)
  have e2 : b / g = d := by rw [hd]; exact Int.mul_ediv_cancel_left d (by omega)
  have m1 : c.natAbs ≤ a.natAbs := by rw [hc, Int.natAbs_mul]; exact Nat.le_mul_of_pos_left _ (by omega)
  have m2 : d.natAbs ≤ b.natAbs := by rw [hd, Int.natAbs_mul]; exact Nat.le_mul_of_pos_left _ (by omega)
  rw [e1, e2]
  have s1 : 0 < b → 0 < d := fun h => by
    by_cases z : 0 < d
    · exact z
    · have := Int.mul_nonpos_of_nonneg_of_nonpos (Int.le_of_lt hg) (Int.not_lt.mp z); omega
  have s2 : ¬ 0 < b → d < 0 := fun h => by
    have h' : g * d < 0 := by rw [← hd]; omega
    by_cases z : d < 0
    · exact z
    · have := Int.mul_nonneg (Int.le_of_lt hg) (Int.not_lt.mp z); omega
  by_cases h : 0 < b
  · have := s1 h
    rw [if_pos h]
    refine ⟨?_, ?_, ?_⟩ <;> dsimp only <;> omega
  · have := s2 h
    rw [if_neg h]
    refine ⟨?_, ?_, ?_⟩ <;> dsimp only <;> omega

def isPr (x : D) (q : Int × Int) : Prop := x = frD q ∨ x = .lst [.int q.1, .int q.2]
structure PrOk (q : Int × Int) : Prop where
  a : q.1.natAbs ≤ 10 ^ 25
  b : 0 < q.2
  c : q.2.natAbs ≤ 10 ^ 25
theorem od_p0 {K : PySem.W.Frag} {A : Amb} {ρ : En} {x : D} {q : Int × Int} {k : D → Prop} (h : isPr x q) (hk : k (.int q.1)) : OpD K A (rIx K) ρ x (.int 0) k := by
  rcases h with rfl | rfl
  · exact od_xT hk rfl
  · exact od_xL hk rfl
theorem od_p1 {K : PySem.W.Frag} {A : Amb} {ρ : En} {x : D} {q : Int × Int} {k : D → Prop} (h : isPr x q) (hk : k (.int q.2)) : OpD K A (rIx K) ρ x (.int 1) k := by
  rcases h with rfl | rfl
  · exact od_xT hk rfl
  · exact od_xL hk rfl
def R_frac (ds : List D) (k : D → Prop) : Prop := ∃ a b : Int, ds = [.int a, .int b] ∧ b ≠ 0 ∧ b.natAbs < 2 ^ 8000 ∧ k (frD (fracI a b))
def R_low (ds : List D) (k : D → Prop) : Prop := ∃ a b : Int, ds = [.int a, .int b] ∧ b ≠ 0 ∧ a.natAbs < 2 ^ 170 ∧ b.natAbs < 2 ^ 170 ∧ k (frD (fracI a b))
def R_shared (ds : List D) (k : D → Prop) : Prop := ∃ a b : Int, ds = [.int a, .int b] ∧ a.natAbs < 2 ^ 170 ∧ b.natAbs < 2 ^ 170 ∧ k (.int ((Nat.gcd a.natAbs b.natAbs : Nat) : Int))
def R_two (f : Int × Int → Int × Int → D) (ds : List D) (k : D → Prop) : Prop := ∃ x y p q, ds = [x, y] ∧ isPr x p ∧ isPr y q ∧ PrOk p ∧ PrOk q ∧ k (f p q)
def plusI (p q : Int × Int) : Int × Int := fracI (p.1 * q.2 + q.1 * p.2) (p.2 * q.2)
def minusI (p q : Int × Int) : Int × Int := fracI (p.1 * q.2 - q.1 * p.2) (p.2 * q.2)
def timesI (p q : Int × Int) : Int × Int := fracI (p.1 * q.1) (p.2 * q.2)
def overI (p q : Int × Int) : Int × Int := fracI (p.1 * q.2) (p.2 * q.1)
def R_over (ds : List D) (k : D → Prop) : Prop := ∃ x y p q, ds = [x, y] ∧ isPr x p ∧ isPr y q ∧ PrOk p ∧ PrOk q ∧ q.1 ≠ 0 ∧ k (frD (overI p q))
def b2i (b : Bool) : Int := if b then 1 else 0
def signI (p : Int × Int) : Int := b2i (decide (0 < p.1)) - b2i (decide (p.1 < 0))
def R_sign (ds : List D) (k : D → Prop) : Prop := ∃ x p, ds = [x] ∧ isPr x p ∧ k (.int (signI p))
def R_pick (p : Addr) (n : Nat) (ds : List D) (k : Nat → D → Prop) : Prop := ∃ (xs : List D) (n0 : Nat), n = n0 + 1 ∧ ds = [.raw (.ref p), .lst xs] ∧ xs ≠ [] ∧ xs.length ≤ 1000 ∧ ∀ d ∈ xs, k n0 d
def R_fraction (p : Addr) (n : Nat) (ds : List D) (k : Nat → D → Prop) : Prop := ∃ n0 : Nat, n = n0 + 3 ∧ ds = [.raw (.ref p)] ∧ ∀ q, PrOk q → k n0 (frD q)
abbrev s_plus : Stmt := topS 3
abbrev s_minus : Stmt := topS 4
abbrev s_times : Stmt := topS 5
abbrev s_over : Stmt := topS 6
abbrev s_sign : Stmt := topS 7
abbrev s_less : Stmt := topS 8
abbrev s_pen : Stmt := topS 10
abbrev s_pick : Stmt := topS 12
abbrev s_shared : Stmt := topS 13
abbrev s_low : Stmt := topS 14
abbrev s_fraction : Stmt := topS 15
abbrev s_law : Stmt := topS 16
theorem sc_plus : FnScope ["one", "other"] ["one", "other"] (defScope s_plus) := ⟨rfl, rfl, rfl, by decide +kernel, rfl, by decide +kernel, by decide +kernel⟩
theorem sc_minus : FnScope ["one", "other"] ["one", "other"] (defScope s_minus) := ⟨rfl, rfl, rfl, by decide +kernel, rfl, by decide +kernel, by decide +kernel⟩
theorem sc_times : FnScope ["one", "other"] ["one", "other"] (defScope s_times) := ⟨rfl, rfl, rfl, by decide +kernel, rfl, by decide +kernel, by decide +kernel⟩
theorem sc_over : FnScope ["one", "other"] ["one", "other"] (defScope s_over) := ⟨rfl, rfl, rfl, by decide +kernel, rfl, by decide +kernel, by decide +kernel⟩
theorem sc_sign : FnScope ["one"] ["one"] (defScope s_sign) := ⟨rfl, rfl, rfl, by decide +kernel, rfl, by decide +kernel, by decide +kernel⟩
theorem sc_less : FnScope ["one", "other"] ["one", "other"] (defScope s_less) := ⟨rfl, rfl, rfl, by decide +kernel, rfl, by decide +kernel, by decide +kernel⟩
theorem sc_pen : FnScope ["script"] ["script"] (defScope s_pen) := ⟨rfl, rfl, rfl, by decide +kernel, rfl, by decide +kernel, by decide +kernel⟩
theorem sc_pick : FnScope ["pen", "some"] ["pen", "some"] (defScope s_pick) := ⟨rfl, rfl, rfl, by decide +kernel, rfl, by decide +kernel, by decide +kernel⟩
theorem sc_shared : FnScope ["one", "other", "turn"] ["one", "other"] (defScope s_shared) := ⟨rfl, rfl, rfl, by decide +kernel, rfl, by decide +kernel, by decide +kernel⟩
theorem sc_low : FnScope ["top", "bottom", "by"] ["top", "bottom"] (defScope s_low) := ⟨rfl, rfl, rfl, by decide +kernel, rfl, by decide +kernel, by decide +kernel⟩
theorem sc_fraction : FnScope ["pen", "far"] ["pen"] (defScope s_fraction) := ⟨rfl, rfl, rfl, by decide +kernel, rfl, by decide +kernel, by decide +kernel⟩
theorem sc_law : FnScope ["script", "pen", "turn", "top", "bottom", "one", "other", "told", "due", "cross"] ["script"] (defScope s_law) := ⟨rfl, rfl, rfl, by decide +kernel, rfl, by decide +kernel, by decide +kernel⟩
abbrev FnD (K : PySem.W.Frag) (x : Str) (st : Stmt) (dvs : List V) (f : Addr) (fd : FuncData) : Prop := FunD K x x (defArgs st) (defBody st) (defScope st) dvs [] f fd
/-- what the top has written -/
structure Tp (K : PySem.W.Frag) (mg : Str → Option Value) where
  f_frac : Addr
  d_frac : FuncData
  F_frac : FnD K "frac" s_frac [.int 1] f_frac d_frac
  m_frac : mg "frac" = some (.ref f_frac)
  f_plus : Addr
  d_plus : FuncData
  F_plus : FnD K "plus" s_plus [] f_plus d_plus
  m_plus : mg "plus" = some (.ref f_plus)
  f_minus : Addr
  d_minus : FuncData
  F_minus : FnD K "minus" s_minus [] f_minus d_minus
  m_minus : mg "minus" = some (.ref f_minus)
  f_times : Addr
  d_times : FuncData
  F_times : FnD K "times" s_times [] f_times d_times
  m_times : mg "times" = some (.ref f_times)
  f_over : Addr
  d_over : FuncData
  F_over : FnD K "over" s_over [] f_over d_over
  m_over : mg "over" = some (.ref f_over)
  f_sign : Addr
  d_sign : FuncData
  F_sign : FnD K "sign_of" s_sign [] f_sign d_sign
  m_sign : mg "sign_of" = some (.ref f_sign)
  f_less : Addr
  d_less : FuncData
  F_less : FnD K "less" s_less [] f_less d_less
  m_less : mg "less" = some (.ref f_less)
  f_pen : Addr
  d_pen : FuncData
  F_pen : FnD K "_law_pen" s_pen [] f_pen d_pen
  m_pen : mg "_law_pen" = some (.ref f_pen)
  f_draw : Addr
  d_draw : FuncData
  F_draw : FnD K "_law_draw" s_draw [] f_draw d_draw
  m_draw : mg "_law_draw" = some (.ref f_draw)
  f_pick : Addr
  d_pick : FuncData
  F_pick : FnD K "_law_pick" s_pick [] f_pick d_pick
  m_pick : mg "_law_pick" = some (.ref f_pick)
  f_shared : Addr
  d_shared : FuncData
  F_shared : FnD K "_law_shared" s_shared [] f_shared d_shared
  m_shared : mg "_law_shared" = some (.ref f_shared)
  f_low : Addr
  d_low : FuncData
  F_low : FnD K "_law_low" s_low [] f_low d_low
  m_low : mg "_law_low" = some (.ref f_low)
  f_fraction : Addr
  d_fraction : FuncData
  F_fraction : FnD K "_law_fraction" s_fraction [] f_fraction d_fraction
  m_fraction : mg "_law_fraction" = some (.ref f_fraction)
  f_law : Addr
  d_law : FuncData
  F_law : FnD K "law" s_law [] f_law d_law
  b_gcd : mg "gcd" = some (.builtin "math.gcd")
  b_int : mg "int" = none
  b_len : mg "len" = none
  b_abs : mg "abs" = none
  b_list : mg "list" = none
  b_range : mg "range" = none
  b_repr : mg "repr" = none
section
variable {P : Program} {w : World} {K : PySem.W.Frag} {mg : Str → Option Value} {base : Heap}
theorem cdz {j : Int} {b : Nat} (h : j ≠ 0) (hb : j.natAbs < 2 ^ b) (h0 : 0 < b) (h9 : b ≤ 9000) {i : Int} : CDivZ i j := ⟨h, Nat.lt_of_lt_of_le (log_of h0 hb) h9⟩
theorem ok_frac (T : Tp K mg) : Fn P w K mg base CX0 1 T.f_frac T.d_frac ["top", "bottom"] (spF K R_frac) := by
  refine fn_pure T.F_frac sc_frac (fun ds k h => ?_) fun cdv A0 outer s H E A ds k rm hp h => ?_
  · obtain ⟨a, b, rfl, _⟩ := h
    rfl
  · obtain ⟨a, b, rfl, hb, hz, hk⟩ := h
    refine ws_cons (ws_set 2 sc_frac.nd (WE.mono (k := fun n' ρ' d => n' = 0 ∧ ρ' = startD ["top", "bottom", "by"] [.int a, .int b] ∧ d = .int (gI a b)) ?_ ?_))
    · refine we_if (wb_cmp op_gt (we_name 1 rfl (we_int (od_gt ⟨_, rfl, fun hc => ?_, fun hc => ?_⟩))))
      · refine we_callBf cr_gcd T.b_gcd (wa_cons (we_name 0 rfl (wa_cons (we_name 1 rfl (wa_nil (cd_gcd ⟨rfl, rfl, ?_⟩))))))
        unfold gI
        rw [if_pos (of_decide_eq_true hc)]
      · refine we_un un_neg (we_callBf cr_gcd T.b_gcd (wa_cons (we_name 0 rfl (wa_cons (we_name 1 rfl (wa_nil (cd_gcd (ud_neg ⟨rfl, rfl, ?_⟩))))))))
        unfold gI
        rw [if_neg (of_decide_eq_false hc)]
    · rintro _ _ _ ⟨rfl, rfl, rfl⟩
      have hd : ∀ i, CDivZ i (gI a b) := fun i => cdz (gI_ne hb) (Nat.lt_of_le_of_lt (gI_abs hb) hz) (by decide) (by decide)
      exact ws_one (ws_ret (we_tup (wa_cons (we_op op_fdivZ (we_name 0 rfl (we_name 2 rfl (od_fdivZ (hd _) (wa_cons (we_op op_fdivZ (we_name 1 rfl (we_name 2 rfl (od_fdivZ (hd _) (wa_nil ⟨Nat.le_add_left 2 99998, hk⟩)))))))))))))
theorem b_frac (T : Tp K mg) : Binds K T.d_frac ["top", "bottom"] [] := by
  obtain ⟨ds, h1, h2⟩ := T.F_frac.binds1 (ps := ["top", "bottom"]) 2 1 (by simp) rfl fun TT kV doc pm an cdv ct us its l1 l2 => match us, its, l1, l2 with | [_, _], [_], _, _ => ⟨_, rfl, rfl⟩
  cases h1
  exact h2
theorem b_frac1 (T : Tp K mg) : ∃ ds, Vals [.int 1] ds ∧ Binds K T.d_frac ["top", "bottom"] ds :=
  T.F_frac.binds1 (ps := ["top", "bottom"]) 1 0 (by simp) rfl fun TT kV doc pm an cdv ct us its l1 l2 => match us, its, l1, l2 with | [_], [_], _, _ => ⟨_, rfl, rfl⟩
/-- frac(bottom = b, top = a) -/
def g_bt {α : Type} (_us _ds ws : List α) : List α := ws.reverse
theorem kb_frac_bt (T : Tp K mg) : ∃ its : List Value, KBn K T.d_frac ["top", "bottom"] 0 ["bottom", "top"] (fun us ws => g_bt us its ws) (fun vs zs => g_bt vs [.int 1] zs) :=
  kb_dfl T.F_frac (by simp) 0 ["bottom", "top"] g_bt (fun r1 r2 r3 => r3.reverse) fun TT kV doc pm an cdv ct us its ws l1 l2 l3 => match us, its, ws, l1, l2, l3 with | [], [_], [_, _], _, _, _ => ⟨_, rfl, rfl⟩
/-- frac(top = a) -/
def g_t {α : Type} (_us ds ws : List α) : List α := ws ++ ds
theorem kb_frac_t (T : Tp K mg) : ∃ its : List Value, KBn K T.d_frac ["top", "bottom"] 0 ["top"] (fun us ws => g_t us its ws) (fun vs zs => g_t vs [.int 1] zs) :=
  kb_dfl T.F_frac (by simp) 0 ["top"] g_t (fun r1 r2 r3 => r3.append r2) fun TT kV doc pm an cdv ct us its ws l1 l2 l3 => match us, its, ws, l1, l2, l3 with | [], [_], [_], _, _, _ => ⟨_, rfl, rfl⟩
theorem b_two {x : Str} {st : Stmt} {f : Addr} {fd : FuncData} {ps : List Str} (F : FnD K x st [] f fd) (h : ∀ (kV doc pm : Value) (an : Option Addr) (cdv ct : Value) (us : List Value), us.length = ps.length → bindArgs (PySem.W.fnOf x x (defArgs st) (defBody st) (defScope st) .none kV doc pm an cdv ct) ⟨us, []⟩ = pure (ps.zip us)) : Binds K fd ps [] := F.bindsN h
theorem b_plus (T : Tp K mg) : Binds K T.d_plus ["one", "other"] [] := T.F_plus.bindsN fun _ _ _ _ _ _ us hl => match us, hl with | [_, _], _ => rfl
theorem b_minus (T : Tp K mg) : Binds K T.d_minus ["one", "other"] [] := T.F_minus.bindsN fun _ _ _ _ _ _ us hl => match us, hl with | [_, _], _ => rfl
theorem b_times (T : Tp K mg) : Binds K T.d_times ["one", "other"] [] := T.F_times.bindsN fun _ _ _ _ _ _ us hl => match us, hl with | [_, _], _ => rfl
theorem b_over (T : Tp K mg) : Binds K T.d_over ["one", "other"] [] := T.F_over.bindsN fun _ _ _ _ _ _ us hl => match us, hl with | [_, _], _ => rfl
theorem b_less (T : Tp K mg) : Binds K T.d_less ["one", "other"] [] := T.F_less.bindsN fun _ _ _ _ _ _ us hl => match us, hl with | [_, _], _ => rfl
theorem b_sign (T : Tp K mg) : Binds K T.d_sign ["one"] [] := T.F_sign.bindsN fun _ _ _ _ _ _ us hl => match us, hl with | [_], _ => rfl
theorem b_pen (T : Tp K mg) : Binds K T.d_pen ["script"] [] := T.F_pen.bindsN fun _ _ _ _ _ _ us hl => match us, hl with | [_], _ => rfl
theorem b_draw (T : Tp K mg) : Binds K T.d_draw ["pen", "many"] [] := T.F_draw.bindsN fun _ _ _ _ _ _ us hl => match us, hl with | [_, _], _ => rfl
theorem b_pick (T : Tp K mg) : Binds K T.d_pick ["pen", "some"] [] := T.F_pick.bindsN fun _ _ _ _ _ _ us hl => match us, hl with | [_, _], _ => rfl
theorem b_shared (T : Tp K mg) : Binds K T.d_shared ["one", "other"] [] := T.F_shared.bindsN fun _ _ _ _ _ _ us hl => match us, hl with | [_, _], _ => rfl
theorem b_low (T : Tp K mg) : Binds K T.d_low ["top", "bottom"] [] := T.F_low.bindsN fun _ _ _ _ _ _ us hl => match us, hl with | [_, _], _ => rfl
theorem b_fraction (T : Tp K mg) : Binds K T.d_fraction ["pen"] [] := T.F_fraction.bindsN fun _ _ _ _ _ _ us hl => match us, hl with | [_], _ => rfl
/-- x(other = b, one = a) -/
def g_sw {α : Type} (_us ws : List α) : List α := ws.reverse
def g_id {α : Type} (_us ws : List α) : List α := ws
theorem kb_plus (T : Tp K mg) : KBn K T.d_plus ["one", "other"] 0 ["other", "one"] (fun us ws => g_sw us ws) (fun vs zs => g_sw vs zs) :=
  kb_none T.F_plus 0 ["other", "one"] g_sw (fun r1 r2 => r2.reverse) fun kV doc pm an cdv ct us ws l1 l2 => match us, ws, l1, l2 with | [], [_, _], _, _ => rfl
theorem kb_minus (T : Tp K mg) : KBn K T.d_minus ["one", "other"] 0 ["other", "one"] (fun us ws => g_sw us ws) (fun vs zs => g_sw vs zs) :=
  kb_none T.F_minus 0 ["other", "one"] g_sw (fun r1 r2 => r2.reverse) fun kV doc pm an cdv ct us ws l1 l2 => match us, ws, l1, l2 with | [], [_, _], _, _ => rfl
theorem kb_times (T : Tp K mg) : KBn K T.d_times ["one", "other"] 0 ["other", "one"] (fun us ws => g_sw us ws) (fun vs zs => g_sw vs zs) :=
  kb_none T.F_times 0 ["other", "one"] g_sw (fun r1 r2 => r2.reverse) fun kV doc pm an cdv ct us ws l1 l2 => match us, ws, l1, l2 with | [], [_, _], _, _ => rfl
theorem kb_over (T : Tp K mg) : KBn K T.d_over ["one", "other"] 0 ["other", "one"] (fun us ws => g_sw us ws) (fun vs zs => g_sw vs zs) :=
  kb_none T.F_over 0 ["other", "one"] g_sw (fun r1 r2 => r2.reverse) fun kV doc pm an cdv ct us ws l1 l2 => match us, ws, l1, l2 with | [], [_, _], _, _ => rfl
theorem kb_less (T : Tp K mg) : KBn K T.d_less ["one", "other"] 0 ["other", "one"] (fun us ws => g_sw us ws) (fun vs zs => g_sw vs zs) :=
  kb_none T.F_less 0 ["other", "one"] g_sw (fun r1 r2 => r2.reverse) fun kV doc pm an cdv ct us ws l1 l2 => match us, ws, l1, l2 with | [], [_, _], _, _ => rfl
theorem kb_sign (T : Tp K mg) : KBn K T.d_sign ["one"] 0 ["one"] (fun us ws => g_id us ws) (fun vs zs => g_id vs zs) :=
  kb_none T.F_sign 0 ["one"] g_id (fun r1 r2 => r2) fun kV doc pm an cdv ct us ws l1 l2 => match us, ws, l1, l2 with | [], [_], _, _ => rfl
end
end K

namespace K
open PySem PySem.Spec PyProof.Rows L2 RD
section
variable {P : Program} {w : World} {K : PySem.W.Frag} {mg : Str → Option Value} {base : Heap}
/-! ### how great -/
theorem t25 : (10 : Nat) ^ 25 < 2 ^ 84 := by decide +kernel
theorem mul_abs {a b : Int} {m n : Nat} (ha : a.natAbs ≤ m) (hb : b.natAbs ≤ n) : (a * b).natAbs ≤ m * n := by
  rw [Int.natAbs_mul]
  exact Nat.mul_le_mul ha hb
theorem cmw {a b : Int} (ha : a.natAbs ≤ 10 ^ 25) (hb : b.natAbs ≤ 10 ^ 25) : CMul a b ∨ CMulW a b := .inr (wide_mul (a := 84) (b := 84) (Nat.lt_of_le_of_lt ha t25) (Nat.lt_of_le_of_lt hb t25) (by decide) (by decide) (by decide))
theorem t50 : (10 : Nat) ^ 25 * 10 ^ 25 + 10 ^ 25 * 10 ^ 25 < 2 ^ 170 := by decide +kernel
theorem t50' : (10 : Nat) ^ 25 * 10 ^ 25 < 2 ^ 170 := by decide +kernel
theorem lt8 {x : Nat} (h : x < 2 ^ 170) : x < 2 ^ 8000 := Nat.lt_trans h (Nat.pow_lt_pow_right (by decide) (by decide))
theorem cross_abs {p q : Int × Int} (hp : PrOk p) (hq : PrOk q) : (p.1 * q.2 + q.1 * p.2).natAbs < 2 ^ 170 ∧ (p.1 * q.2 - q.1 * p.2).natAbs < 2 ^ 170 ∧ (p.2 * q.2).natAbs < 2 ^ 170 ∧ (p.1 * q.1).natAbs < 2 ^ 170 ∧ (p.1 * q.2).natAbs < 2 ^ 170 ∧ (p.2 * q.1).natAbs < 2 ^ 170 ∧ 0 < p.2 * q.2 := by
  have h1 := mul_abs hp.a hq.c
  have h2 := mul_abs hq.a hp.c
  have h3 := mul_abs hp.c hq.c
  have h4 := mul_abs hp.a hq.a
  have h5 : (p.2 * q.1).natAbs ≤ 10 ^ 25 * 10 ^ 25 := mul_abs hp.c hq.a
  have z1 := t50
  have z2 := t50'
  have h6 := Int.mul_pos hp.b hq.b
  have e1 := Int.natAbs_add_le (p.1 * q.2) (q.1 * p.2)
  have e2 := Int.natAbs_sub_le (p.1 * q.2) (q.1 * p.2)
  generalize (10 : Nat) ^ 25 * 10 ^ 25 = m at *
  generalize (2 : Nat) ^ 170 = n at *
  refine ⟨?_, ?_, ?_, ?_, ?_, ?_, h6⟩ <;> omega
theorem ne_pos {x : Int} (h : 0 < x) : x ≠ 0 := by omega
/-! ### the fractions' defs -/
theorem ok_plus (T : Tp K mg) : Fn P w K mg base CX0 2 T.f_plus T.d_plus ["one", "other"] (spF K (R_two fun p q => frD (plusI p q))) := by
  refine fn_pure T.F_plus sc_plus (fun ds k h => ?_) fun cdv A0 outer s H E A ds k rm hpn h => ?_
  · obtain ⟨x, y, p, q, rfl, _⟩ := h
    rfl
  · obtain ⟨x, y, p, q, rfl, hx, hy, hp, hq, hk⟩ := h
    obtain ⟨c1, c2, c3, c4, c5, c6, c7⟩ := cross_abs hp hq
    have nd := sc_plus.nd
    -- return frac(one[0] * other[1] + other[0] * one[1], one[1] * other[1])
    refine ws_cons ?_
    refine ws_ret ?_
    refine we_call (ok_frac T) (rm.mono (by decide)) T.m_frac T.F_frac.kp (b_frac T) .nil (fun _ _ => .nil) ?_ -- frac(
    refine wa_cons ?_
    refine we_op op_addU ?_ -- one[0] * other[1] + other[0] * one[1]
    refine we_op op_mulU ?_ -- one[0] * other[1]
    refine we_ix ix_seq ?_ -- one[0]
    refine we_name 0 rfl ?_ -- one
    refine we_int ?_ -- 0
    refine od_p0 hx ?_
    refine we_ix ix_seq ?_ -- other[1]
    refine we_name 1 rfl ?_ -- other
    refine we_int ?_ -- 1
    refine od_p1 hy ?_
    refine od_mulI ?_ (cmw hp.a hq.c)
    refine we_op op_mulU ?_ -- other[0] * one[1]
    refine we_ix ix_seq ?_ -- other[0]
    refine we_name 1 rfl ?_ -- other
    refine we_int ?_ -- 0
    refine od_p0 hy ?_
    refine we_ix ix_seq ?_ -- one[1]
    refine we_name 0 rfl ?_ -- one
    refine we_int ?_ -- 1
    refine od_p1 hx ?_
    refine od_mulI ?_ (cmw hq.a hp.c)
    refine od_addI ?_
    refine wa_cons ?_
    refine we_op op_mulU ?_ -- one[1] * other[1]
    refine we_ix ix_seq ?_ -- one[1]
    refine we_name 0 rfl ?_ -- one
    refine we_int ?_ -- 1
    refine od_p1 hx ?_
    refine we_ix ix_seq ?_ -- other[1]
    refine we_name 1 rfl ?_ -- other
    refine we_int ?_ -- 1
    refine od_p1 hy ?_
    refine od_mulI ?_ (cmw hp.c hq.c)
    refine wa_nil ?_
    exact ⟨_, _, rfl, ne_pos c7, lt8 c3, hk⟩
theorem ok_minus (T : Tp K mg) : Fn P w K mg base CX0 2 T.f_minus T.d_minus ["one", "other"] (spF K (R_two fun p q => frD (minusI p q))) := by
  refine fn_pure T.F_minus sc_minus (fun ds k h => ?_) fun cdv A0 outer s H E A ds k rm hpn h => ?_
  · obtain ⟨x, y, p, q, rfl, _⟩ := h
    rfl
  · obtain ⟨x, y, p, q, rfl, hx, hy, hp, hq, hk⟩ := h
    obtain ⟨c1, c2, c3, c4, c5, c6, c7⟩ := cross_abs hp hq
    have nd := sc_minus.nd
    -- return frac(one[0] * other[1] - other[0] * one[1], one[1] * other[1])
    refine ws_cons ?_
    refine ws_ret ?_
    refine we_call (ok_frac T) (rm.mono (by decide)) T.m_frac T.F_frac.kp (b_frac T) .nil (fun _ _ => .nil) ?_ -- frac(
    refine wa_cons ?_
    refine we_op op_sub ?_ -- one[0] * other[1] - other[0] * one[1]
    refine we_op op_mulU ?_ -- one[0] * other[1]
    refine we_ix ix_seq ?_ -- one[0]
    refine we_name 0 rfl ?_ -- one
    refine we_int ?_ -- 0
    refine od_p0 hx ?_
    refine we_ix ix_seq ?_ -- other[1]
    refine we_name 1 rfl ?_ -- other
    refine we_int ?_ -- 1
    refine od_p1 hy ?_
    refine od_mulI ?_ (cmw hp.a hq.c)
    refine we_op op_mulU ?_ -- other[0] * one[1]
    refine we_ix ix_seq ?_ -- other[0]
    refine we_name 1 rfl ?_ -- other
    refine we_int ?_ -- 0
    refine od_p0 hy ?_
    refine we_ix ix_seq ?_ -- one[1]
    refine we_name 0 rfl ?_ -- one
    refine we_int ?_ -- 1
    refine od_p1 hx ?_
    refine od_mulI ?_ (cmw hq.a hp.c)
    refine od_sub ?_
    refine wa_cons ?_
    refine we_op op_mulU ?_ -- one[1] * other[1]
    refine we_ix ix_seq ?_ -- one[1]
    refine we_name 0 rfl ?_ -- one
    refine we_int ?_ -- 1
    refine od_p1 hx ?_
    refine we_ix ix_seq ?_ -- other[1]
    refine we_name 1 rfl ?_ -- other
    refine we_int ?_ -- 1
    refine od_p1 hy ?_
    refine od_mulI ?_ (cmw hp.c hq.c)
    refine wa_nil ?_
    exact ⟨_, _, rfl, ne_pos c7, lt8 c3, hk⟩
theorem ok_times (T : Tp K mg) : Fn P w K mg base CX0 2 T.f_times T.d_times ["one", "other"] (spF K (R_two fun p q => frD (timesI p q))) := by
  refine fn_pure T.F_times sc_times (fun ds k h => ?_) fun cdv A0 outer s H E A ds k rm hpn h => ?_
  · obtain ⟨x, y, p, q, rfl, _⟩ := h
    rfl
  · obtain ⟨x, y, p, q, rfl, hx, hy, hp, hq, hk⟩ := h
    obtain ⟨c1, c2, c3, c4, c5, c6, c7⟩ := cross_abs hp hq
    have nd := sc_times.nd
    -- return frac(one[0] * other[0], one[1] * other[1])
    refine ws_cons ?_
    refine ws_ret ?_
    refine we_call (ok_frac T) (rm.mono (by decide)) T.m_frac T.F_frac.kp (b_frac T) .nil (fun _ _ => .nil) ?_ -- frac(
    refine wa_cons ?_
    refine we_op op_mulU ?_ -- one[0] * other[0]
    refine we_ix ix_seq ?_ -- one[0]
    refine we_name 0 rfl ?_ -- one
    refine we_int ?_ -- 0
    refine od_p0 hx ?_
    refine we_ix ix_seq ?_ -- other[0]
    refine we_name 1 rfl ?_ -- other
    refine we_int ?_ -- 0
    refine od_p0 hy ?_
    refine od_mulI ?_ (cmw hp.a hq.a)
    refine wa_cons ?_
    refine we_op op_mulU ?_ -- one[1] * other[1]
    refine we_ix ix_seq ?_ -- one[1]
    refine we_name 0 rfl ?_ -- one
    refine we_int ?_ -- 1
    refine od_p1 hx ?_
    refine we_ix ix_seq ?_ -- other[1]
    refine we_name 1 rfl ?_ -- other
    refine we_int ?_ -- 1
    refine od_p1 hy ?_
    refine od_mulI ?_ (cmw hp.c hq.c)
    refine wa_nil ?_
    exact ⟨_, _, rfl, ne_pos c7, lt8 c3, hk⟩
theorem ok_over (T : Tp K mg) : Fn P w K mg base CX0 2 T.f_over T.d_over ["one", "other"] (spF K (R_over)) := by
  refine fn_pure T.F_over sc_over (fun ds k h => ?_) fun cdv A0 outer s H E A ds k rm hpn h => ?_
  · obtain ⟨x, y, p, q, rfl, _⟩ := h
    rfl
  · obtain ⟨x, y, p, q, rfl, hx, hy, hp, hq, hz, hk⟩ := h
    obtain ⟨c1, c2, c3, c4, c5, c6, c7⟩ := cross_abs hp hq
    have nd := sc_over.nd
    have c8 : p.2 * q.1 ≠ 0 := Int.mul_ne_zero (ne_pos hp.b) hz
    -- return frac(one[0] * other[1], one[1] * other[0])
    refine ws_cons ?_
    refine ws_ret ?_
    refine we_call (ok_frac T) (rm.mono (by decide)) T.m_frac T.F_frac.kp (b_frac T) .nil (fun _ _ => .nil) ?_ -- frac(
    refine wa_cons ?_
    refine we_op op_mulU ?_ -- one[0] * other[1]
    refine we_ix ix_seq ?_ -- one[0]
    refine we_name 0 rfl ?_ -- one
    refine we_int ?_ -- 0
    refine od_p0 hx ?_
    refine we_ix ix_seq ?_ -- other[1]
    refine we_name 1 rfl ?_ -- other
    refine we_int ?_ -- 1
    refine od_p1 hy ?_
    refine od_mulI ?_ (cmw hp.a hq.c)
    refine wa_cons ?_
    refine we_op op_mulU ?_ -- one[1] * other[0]
    refine we_ix ix_seq ?_ -- one[1]
    refine we_name 0 rfl ?_ -- one
    refine we_int ?_ -- 1
    refine od_p1 hx ?_
    refine we_ix ix_seq ?_ -- other[0]
    refine we_name 1 rfl ?_ -- other
    refine we_int ?_ -- 0
    refine od_p0 hy ?_
    refine od_mulI ?_ (cmw hp.c hq.a)
    refine wa_nil ?_
    exact ⟨_, _, rfl, c8, lt8 c6, hk⟩
theorem ok_less (T : Tp K mg) : Fn P w K mg base CX0 2 T.f_less T.d_less ["one", "other"] (spF K (R_two fun p q => .bl (decide (p.1 * q.2 < q.1 * p.2)))) := by
  refine fn_pure T.F_less sc_less (fun ds k h => ?_) fun cdv A0 outer s H E A ds k rm hpn h => ?_
  · obtain ⟨x, y, p, q, rfl, _⟩ := h
    rfl
  · obtain ⟨x, y, p, q, rfl, hx, hy, hp, hq, hk⟩ := h
    obtain ⟨c1, c2, c3, c4, c5, c6, c7⟩ := cross_abs hp hq
    have nd := sc_less.nd
    -- return one[0] * other[1] < other[0] * one[1]
    refine ws_cons ?_
    refine ws_ret ?_
    refine we_cmp op_lt ?_ -- one[0] * other[1] < other[0] * one[1]
    refine we_op op_mulU ?_ -- one[0] * other[1]
    refine we_ix ix_seq ?_ -- one[0]
    refine we_name 0 rfl ?_ -- one
    refine we_int ?_ -- 0
    refine od_p0 hx ?_
    refine we_ix ix_seq ?_ -- other[1]
    refine we_name 1 rfl ?_ -- other
    refine we_int ?_ -- 1
    refine od_p1 hy ?_
    refine od_mulI ?_ (cmw hp.a hq.c)
    refine we_op op_mulU ?_ -- other[0] * one[1]
    refine we_ix ix_seq ?_ -- other[0]
    refine we_name 1 rfl ?_ -- other
    refine we_int ?_ -- 0
    refine od_p0 hy ?_
    refine we_ix ix_seq ?_ -- one[1]
    refine we_name 0 rfl ?_ -- one
    refine we_int ?_ -- 1
    refine od_p1 hx ?_
    refine od_mulI ?_ (cmw hq.a hp.c)
    exact od_lt hk
theorem ok_sign (T : Tp K mg) : Fn P w K mg base CX0 1 T.f_sign T.d_sign ["one"] (spF K R_sign) := by
  refine fn_pure T.F_sign sc_sign (fun ds k h => ?_) fun cdv A0 outer s H E A ds k rm hpn h => ?_
  · obtain ⟨x, p, rfl, _⟩ := h
    rfl
  · obtain ⟨x, p, rfl, hx, hk⟩ := h
    -- return int(one[0] > 0) - int(one[0] < 0)
    refine ws_cons ?_
    refine ws_ret ?_
    refine we_op op_sub ?_ -- int(one[0] > 0) - int(one[0] < 0)
    refine we_callTy call_int1 T.b_int boot_int ?_ -- int(
    refine wa_cons ?_
    refine we_cmp op_gt ?_ -- one[0] > 0
    refine we_ix ix_seq ?_ -- one[0]
    refine we_name 0 rfl ?_ -- one
    refine we_int ?_ -- 0
    refine od_p0 hx ?_
    refine we_int ?_ -- 0
    refine od_gt ?_
    refine wa_nil ?_
    refine cd_intb ?_
    refine we_callTy call_int1 T.b_int boot_int ?_ -- int(
    refine wa_cons ?_
    refine we_cmp op_lt ?_ -- one[0] < 0
    refine we_ix ix_seq ?_ -- one[0]
    refine we_name 0 rfl ?_ -- one
    refine we_int ?_ -- 0
    refine od_p0 hx ?_
    refine we_int ?_ -- 0
    refine od_lt ?_
    refine wa_nil ?_
    refine cd_intb ?_
    exact od_sub hk
/-! ### the law's own -/
theorem many_lt {l : Nat} (h : l ≤ 1000) : ((l : Nat) : Int) < 2 ^ 9000 := by
  have z : (2 : Int) ^ 10 ≤ 2 ^ 9000 := by
    have : ((2 ^ 10 : Nat) : Int) ≤ ((2 ^ 9000 : Nat) : Int) := Int.ofNat_le.mpr (Nat.pow_le_pow_right (by decide) (by decide))
    rwa [Int.natCast_pow, Int.natCast_pow] at this
  have : ((l : Nat) : Int) < 2 ^ 10 := by
    have : (2 : Int) ^ 10 = 1024 := rfl
    omega
  exact Int.lt_of_lt_of_le this z
theorem ok_pick (T : Tp K mg) : Fn P w K mg base CX0 2 T.f_pick T.d_pick ["pen", "some"] (spP K R_pick) := by
  refine fn_pen T.F_pick sc_pick (fun p n ds k h => ?_) fun cdv A0 outer s H E A p c n ds k rm hpn h => ?_
  · obtain ⟨xs, n0, _, rfl, _⟩ := h
    rfl
  · obtain ⟨xs, n0, rfl, rfl, h1, h2, hk⟩ := h
    -- return some[_law_draw(pen, len(some))]
    refine ws_cons ?_
    refine ws_ret ?_
    refine we_ix ix_seq ?_ -- some[_law_draw(pen, len(some))]
    refine we_name 1 rfl ?_ -- some
    refine we_pen (Fn.of_ok (ok_draw T.F_draw T.b_int T.b_len T.b_abs)) (rm.mono (by decide)) T.m_draw T.F_draw.kp (b_draw T) .nil (fun _ _ => .nil) hpn ?_ -- _law_draw(
    refine wa_cons ?_
    refine we_name 0 rfl ?_ -- pen
    refine wa_cons ?_
    refine we_callB call_len_seq T.b_len PySem.boot_len ?_ -- len(
    refine wa_cons ?_
    refine we_name 1 rfl ?_ -- some
    refine wa_nil ?_
    refine cd_len ?_ (.inl rfl)
    refine wa_nil ?_
    refine ⟨_, n0, rfl, rfl, many_lt h2, fun v v0 v1 => ?_⟩
    have hl : 0 < xs.length := List.length_pos_iff.mpr h1
    have hv : v.toNat < xs.length := by omega
    have e : v = ((v.toNat : Nat) : Int) := by omega
    rw [e]
    exact od_xL (hk xs[v.toNat] (List.getElem_mem hv)) (atI_nat (List.getElem?_eq_getElem hv))
/-! Euclid -/
def I_sh (g : Nat) (i : Nat) (ρ : En) : Prop := ∃ (a b : Nat) (s3 : Option S), ρ = [some (.dat (.int (a : Int))), some (.dat (.int (b : Int))), s3] ∧ owns ρ = [] ∧ Nat.gcd a b = g ∧ (i = 0 ∨ b < a) ∧ a * b * 2 ^ (i - 1) < 2 ^ 340
theorem sh_step {a b : Nat} (hb : 0 < b) {i : Nat} (h : i = 0 ∨ b < a) (hp : a * b * 2 ^ (i - 1) < 2 ^ 340) : b * (a % b) * 2 ^ (i + 1 - 1) < 2 ^ 340 := by
  have hm : a % b < b := Nat.mod_lt _ hb
  rcases h with rfl | h
  · have h1 : a % b ≤ a := Nat.mod_le _ _
    have h2 : b * (a % b) ≤ a * b := by rw [Nat.mul_comm a b]; exact Nat.mul_le_mul_left _ h1
    have e : 2 ^ (0 - 1) = 1 := rfl
    have e2 : 2 ^ (0 + 1 - 1) = 1 := rfl
    rw [e] at hp; rw [e2]
    generalize 2 ^ 340 = z at *
    omega
  · -- 2 * (a % b) <= a
    have hd : b * (a / b) + a % b = a := Nat.div_add_mod a b
    have hq : 1 ≤ a / b := Nat.div_pos (Nat.le_of_lt h) hb
    have h1 : b * 1 ≤ b * (a / b) := Nat.mul_le_mul_left _ hq
    have h2 : 2 * (a % b) ≤ a := by omega
    have h3 : b * (2 * (a % b)) ≤ b * a := Nat.mul_le_mul_left _ h2
    cases i with
    | zero =>
      have e : 2 ^ (0 - 1) = 1 := rfl
      have e2 : 2 ^ (0 + 1 - 1) = 1 := rfl
      have h4 : b * (a % b) ≤ b * (2 * (a % b)) := Nat.mul_le_mul_left _ (by omega)
      rw [e] at hp; rw [e2]
      rw [Nat.mul_comm a b] at hp
      generalize 2 ^ 340 = z at *
      omega
    | succ i =>
      have e : 2 ^ (i + 1 + 1 - 1) = 2 * 2 ^ i := by rw [show i + 1 + 1 - 1 = i + 1 from rfl, Nat.pow_succ, Nat.mul_comm]
      have e2 : 2 ^ (i + 1 - 1) = 2 ^ i := rfl
      rw [e]; rw [e2] at hp
      have e3 : b * (a % b) * (2 * 2 ^ i) = b * (2 * (a % b)) * 2 ^ i := by
        rw [← Nat.mul_assoc, Nat.mul_assoc b, Nat.mul_comm (a % b) 2]
      rw [e3]
      refine Nat.lt_of_le_of_lt (Nat.mul_le_mul_right _ h3) ?_
      rw [Nat.mul_comm b a]
      exact hp
theorem sh_end {a b i : Nat} (h : i = 0 ∨ b < a) (hp : a * b * 2 ^ (i - 1) < 2 ^ 340) (hi : 341 ≤ i) : b = 0 := by
  rcases Nat.eq_zero_or_pos b with z | z
  · exact z
  · have ha : 0 < a := by omega
    have h1 : 1 ≤ a * b := Nat.mul_pos ha z
    have h2 : 2 ^ 340 ≤ 2 ^ (i - 1) := Nat.pow_le_pow_right (by decide) (by omega)
    have h3 : 1 * 2 ^ (i - 1) ≤ a * b * 2 ^ (i - 1) := Nat.mul_le_mul_right _ h1
    generalize 2 ^ 340 = z at *
    omega
theorem ok_shared (T : Tp K mg) : Fn P w K mg base CX0 1 T.f_shared T.d_shared ["one", "other"] (spF K R_shared) := by
  refine fn_pure T.F_shared sc_shared (fun ds k h => ?_) fun cdv A0 outer s H E A ds k rm hpn h => ?_
  · obtain ⟨a, b, rfl, _⟩ := h
    rfl
  · obtain ⟨a, b, rfl, ha, hb, hk⟩ := h
    have nd := sc_shared.nd
    -- one, other = (abs(one), abs(other))
    refine ws_cons ?_
    refine ws_par 0 1 rfl nd ?_
    refine wa_cons ?_
    refine we_callB call_abs T.b_abs boot_abs ?_ -- abs(
    refine wa_cons ?_
    refine we_name 0 rfl ?_ -- one
    refine wa_nil ?_
    refine cd_abs ?_
    refine wa_cons ?_
    refine we_callB call_abs T.b_abs boot_abs ?_ -- abs(
    refine wa_cons ?_
    refine we_name 1 rfl ?_ -- other
    refine wa_nil ?_
    refine cd_abs ?_
    refine wa_nil ?_
    refine ⟨_, _, rfl, ?_⟩
    have abs_ : ∀ x : Int, (if x < 0 then -x else x) = ((x.natAbs : Nat) : Int) := fun x => by split <;> omega
    rw [abs_ a, abs_ b]
    refine ws_cut (fun _ ρ => ∃ s2 s3, ρ = [some (.dat (.int ((Nat.gcd a.natAbs b.natAbs : Nat) : Int))), s2, s3]) ?_ ?_
    · refine ws_for (fun i _ ρ => I_sh (Nat.gcd a.natAbs b.natAbs) i ρ) rfl .never (wi_range1 T.b_range (wa_cons (we_int (wa_nil ⟨900, rfl, by decide, by decide, ?_, ?_, ?_⟩))))
      · refine ⟨a.natAbs, b.natAbs, none, rfl, rfl, rfl, .inl rfl, ?_⟩
        show a.natAbs * b.natAbs * 1 < 2 ^ 340
        rw [Nat.mul_one]
        calc a.natAbs * b.natAbs ≤ a.natAbs * 2 ^ 170 := Nat.mul_le_mul_left _ (Nat.le_of_lt hb)
          _ < 2 ^ 170 * 2 ^ 170 := Nat.mul_lt_mul_of_pos_right ha (Nat.two_pow_pos _)
          _ = 2 ^ 340 := by rw [← Nat.pow_add]
      · rintro i d n ρ hd ⟨x, y, s3, rfl, how, hg, h1, h2⟩
        refine wg_name 2 nd ?_
        -- if other == 0:
        refine ws_cons ?_
        refine ws_if ?_
        refine wb_cmp op_eq ?_ -- other == 0
        refine we_name 1 rfl ?_ -- other
        refine we_int ?_ -- 0
        refine od_eqI ⟨_, rfl, ?_⟩
        refine ⟨fun hc => ?_, fun hc => ?_⟩
        · -- then
          -- break
          refine ws_cons ?_
          refine ws_break ?_
          have : y = 0 := by have := of_decide_eq_true hc; omega
          subst this
          refine ⟨some (.dat (.int ((0 : Nat) : Int))), some (.dat d), ?_⟩
          rw [← hg, Nat.gcd_zero_right]
          rfl
        refine ws_nil ?_
        have hy : 0 < y := by have := of_decide_eq_false hc; omega
        -- one, other = (other, int(one) % int(other))
        refine ws_cons ?_
        refine ws_par 0 1 rfl nd ?_
        refine wa_cons ?_
        refine we_name 1 rfl ?_ -- other
        refine wa_cons ?_
        refine we_op op_modU ?_ -- int(one) % int(other)
        refine we_callTy call_int1 T.b_int boot_int ?_ -- int(
        refine wa_cons ?_
        refine we_name 0 rfl ?_ -- one
        refine wa_nil ?_
        refine cd_int ?_
        refine we_callTy call_int1 T.b_int boot_int ?_ -- int(
        refine wa_cons ?_
        refine we_name 1 rfl ?_ -- other
        refine wa_nil ?_
        refine cd_int ?_
        refine od_modP ?_ (by omega)
        refine wa_nil ?_
        refine ⟨_, _, rfl, ?_⟩
        refine ws_nil ?_
        refine ⟨y, x % y, some (.dat d), ?_, rfl, ?_, .inr (Nat.mod_lt _ hy), sh_step hy h1 h2⟩
        · show _ = _
          rw [Int.natCast_emod]
          rfl
        · rw [← hg, Nat.gcd_comm x y, Nat.gcd_comm y (x % y)]
          exact (Nat.gcd_rec y x).symm
      · rintro n ρ ⟨x, y, s3, rfl, how, hg, h1, h2⟩
        have e : y = 0 := sh_end h1 h2 (by rw [List.length_map, List.length_range]; decide)
        subst e
        rw [Nat.gcd_zero_right] at hg
        exact ⟨_, _, by rw [hg]⟩
    · rintro n ρ ⟨s2, s3, rfl⟩
      exact ws_one (ws_ret (we_name 0 rfl hk))
theorem log9 {g : Nat} {b : Nat} (h : g < 2 ^ b) (h0 : 0 < b) (h9 : b ≤ 9000) : ((g : Nat) : Int).natAbs.log2 < 9000 := Nat.lt_of_lt_of_le (log_of h0 (by simpa using h)) h9
theorem ok_low (T : Tp K mg) : Fn P w K mg base CX0 2 T.f_low T.d_low ["top", "bottom"] (spF K R_low) := by
  refine fn_pure T.F_low sc_low (fun ds k h => ?_) fun cdv A0 outer s H E A ds k rm hpn h => ?_
  · obtain ⟨a, b, rfl, _⟩ := h
    rfl
  · obtain ⟨a, b, rfl, hz, ha, hb, hk⟩ := h
    have nd := sc_low.nd
    rw [← low_frac hz] at hk
    have hg := gcd_pos (a := a) hz
    have hg1 : 0 < ((Nat.gcd a.natAbs b.natAbs : Nat) : Int) := by omega
    have hg2 : ((Nat.gcd a.natAbs b.natAbs : Nat) : Int).natAbs.log2 < 9000 := log9 (Nat.lt_of_le_of_lt (Nat.gcd_le_right _ (by omega)) hb) (by decide) (by decide)
    unfold lowI at hk
    -- by = _law_shared(top, bottom)
    refine ws_cons ?_
    refine ws_set 2 nd ?_
    refine we_call (ok_shared T) (rm.mono (by decide)) T.m_shared T.F_shared.kp (b_shared T) .nil (fun _ _ => .nil) ?_ -- _law_shared(
    refine wa_cons ?_
    refine we_name 0 rfl ?_ -- top
    refine wa_cons ?_
    refine we_name 1 rfl ?_ -- bottom
    refine wa_nil ?_
    refine ⟨_, _, rfl, ha, hb, ?_⟩
    -- return (int(top) // by, int(bottom) // by) if bottom > 0 else (0 - int(top) // by, 0 - int(bottom) // by)
    refine ws_cons ?_
    refine ws_ret ?_
    refine we_if ?_
    refine wb_cmp op_gt ?_ -- bottom > 0
    refine we_name 1 rfl ?_ -- bottom
    refine we_int ?_ -- 0
    refine od_gt ⟨_, rfl, ?_⟩
    refine ⟨fun hc => ?_, fun hc => ?_⟩
    · -- then
      refine we_tup ?_ -- (
      refine wa_cons ?_
      refine we_op op_fdU ?_ -- int(top) // by
      refine we_callTy call_int1 T.b_int boot_int ?_ -- int(
      refine wa_cons ?_
      refine we_name 0 rfl ?_ -- top
      refine wa_nil ?_
      refine cd_int ?_
      refine we_name 2 rfl ?_ -- by
      refine od_fdP ?_ hg1 hg2
      refine wa_cons ?_
      refine we_op op_fdU ?_ -- int(bottom) // by
      refine we_callTy call_int1 T.b_int boot_int ?_ -- int(
      refine wa_cons ?_
      refine we_name 1 rfl ?_ -- bottom
      refine wa_nil ?_
      refine cd_int ?_
      refine we_name 2 rfl ?_ -- by
      refine od_fdP ?_ hg1 hg2
      refine wa_nil ?_
      refine ⟨Nat.le_of_ble_eq_true rfl, ?_⟩ -- )
      rw [if_pos (of_decide_eq_true hc)] at hk
      exact hk
    · -- else
      refine we_tup ?_ -- (
      refine wa_cons ?_
      refine we_op op_sub ?_ -- 0 - int(top) // by
      refine we_int ?_ -- 0
      refine we_op op_fdU ?_ -- int(top) // by
      refine we_callTy call_int1 T.b_int boot_int ?_ -- int(
      refine wa_cons ?_
      refine we_name 0 rfl ?_ -- top
      refine wa_nil ?_
      refine cd_int ?_
      refine we_name 2 rfl ?_ -- by
      refine od_fdP ?_ hg1 hg2
      refine od_sub ?_
      refine wa_cons ?_
      refine we_op op_sub ?_ -- 0 - int(bottom) // by
      refine we_int ?_ -- 0
      refine we_op op_fdU ?_ -- int(bottom) // by
      refine we_callTy call_int1 T.b_int boot_int ?_ -- int(
      refine wa_cons ?_
      refine we_name 1 rfl ?_ -- bottom
      refine wa_nil ?_
      refine cd_int ?_
      refine we_name 2 rfl ?_ -- by
      refine od_fdP ?_ hg1 hg2
      refine od_sub ?_
      refine wa_nil ?_
      refine ⟨Nat.le_of_ble_eq_true rfl, ?_⟩ -- )
      rw [if_neg (of_decide_eq_false hc)] at hk
      exact hk
theorem ten25 : (10 : Int) ^ (25 : Int).toNat = 10000000000000000000000000 := by decide +kernel
theorem ten25' : (10 : Nat) ^ 25 = 10000000000000000000000000 := by decide +kernel
theorem big9000 : (2 : Int) ^ 100 < 2 ^ 9000 := by
  have : ((2 ^ 100 : Nat) : Int) < ((2 ^ 9000 : Nat) : Int) := Int.ofNat_lt.mpr (Nat.pow_lt_pow_right (by decide) (by decide))
  rwa [Int.natCast_pow, Int.natCast_pow] at this
theorem lt9000 {x : Int} (h : x ≤ 100000000000000000000000000) : x < 2 ^ 9000 := by
  refine Int.lt_trans (Int.lt_of_le_of_lt h ?_) big9000
  decide
theorem ok_fraction (T : Tp K mg) : Fn P w K mg base CX0 3 T.f_fraction T.d_fraction ["pen"] (spP K R_fraction) := by
  refine fn_pen T.F_fraction sc_fraction (fun p n ds k h => ?_) fun cdv A0 outer s H E A p c n ds k rm hpn h => ?_
  · obtain ⟨n0, _, rfl, _⟩ := h
    rfl
  · obtain ⟨n0, rfl, rfl, hk⟩ := h
    have nd := sc_fraction.nd
    -- far = _law_pick(pen, [9, 9, 40, 10 ** 25])
    refine ws_cons ?_
    refine ws_set 1 nd ?_
    refine we_pen (ok_pick T) (rm.mono (by decide)) T.m_pick T.F_pick.kp (b_pick T) .nil (fun _ _ => .nil) hpn ?_ -- _law_pick(
    refine wa_cons ?_
    refine we_name 0 rfl ?_ -- pen
    refine wa_cons ?_
    refine we_lst ?_ -- [
    refine wa_cons ?_
    refine we_int ?_ -- 9
    refine wa_cons ?_
    refine we_int ?_ -- 9
    refine wa_cons ?_
    refine we_int ?_ -- 40
    refine wa_cons ?_
    refine we_op op_pow ?_ -- 10 ** 25
    refine we_int ?_ -- 10
    refine we_int ?_ -- 25
    refine od_powI ?_ (by unfold CPow; decide)
    refine wa_nil ?_
    refine ⟨Nat.le_of_ble_eq_true rfl, ?_⟩ -- ]
    refine wa_nil ?_
    refine ⟨_, n0 + 2, rfl, rfl, by simp, by simp, ?_⟩
    intro d hd
    rw [ten25] at hd
    obtain ⟨far, rfl, h1, h2⟩ : ∃ far : Int, d = .int far ∧ 9 ≤ far ∧ far ≤ 10000000000000000000000000 := by
      simp only [List.mem_cons, List.mem_singleton, List.not_mem_nil, or_false] at hd
      rcases hd with rfl | rfl | rfl | rfl <;> exact ⟨_, rfl, by decide, by decide⟩
    -- return _law_low(_law_draw(pen, 2 * far) - far, 1 + _law_draw(pen, far))
    refine ws_cons ?_
    refine ws_ret ?_
    refine we_call (ok_low T) (rm.mono (by decide)) T.m_low T.F_low.kp (b_low T) .nil (fun _ _ => .nil) ?_ -- _law_low(
    refine wa_cons ?_
    refine we_op op_sub ?_ -- _law_draw(pen, 2 * far) - far
    refine we_pen (Fn.of_ok (ok_draw T.F_draw T.b_int T.b_len T.b_abs)) (rm.mono (by decide)) T.m_draw T.F_draw.kp (b_draw T) .nil (fun _ _ => .nil) hpn ?_ -- _law_draw(
    refine wa_cons ?_
    refine we_name 0 rfl ?_ -- pen
    refine wa_cons ?_
    refine we_op op_mulU ?_ -- 2 * far
    refine we_int ?_ -- 2
    refine we_name 1 rfl ?_ -- far
    refine od_mulI ?_ (.inl (.inl ⟨by decide, by decide⟩))
    refine wa_nil ?_
    refine ⟨_, n0 + 1, rfl, rfl, lt9000 (by omega), fun v v0 v1 => ?_⟩
    refine we_name 1 rfl ?_ -- far
    refine od_sub ?_
    refine wa_cons ?_
    refine we_op op_addU ?_ -- 1 + _law_draw(pen, far)
    refine we_int ?_ -- 1
    refine we_pen (Fn.of_ok (ok_draw T.F_draw T.b_int T.b_len T.b_abs)) (rm.mono (by decide)) T.m_draw T.F_draw.kp (b_draw T) .nil (fun _ _ => .nil) hpn ?_ -- _law_draw(
    refine wa_cons ?_
    refine we_name 0 rfl ?_ -- pen
    refine wa_cons ?_
    refine we_name 1 rfl ?_ -- far
    refine wa_nil ?_
    refine ⟨_, n0, rfl, rfl, lt9000 (by omega), fun u u0 u1 => ?_⟩
    refine od_addI ?_
    refine wa_nil ?_
    have e := ten25'
    have z1 : (v - far).natAbs ≤ 10 ^ 25 := by omega
    have z2 : (1 + u).natAbs ≤ 10 ^ 25 := by omega
    have b170 : (10 : Nat) ^ 25 < 2 ^ 170 := Nat.lt_trans t25 (Nat.pow_lt_pow_right (by decide) (by decide))
    refine ⟨_, _, rfl, by omega, Nat.lt_of_le_of_lt z1 b170, Nat.lt_of_le_of_lt z2 b170, hk _ ?_⟩
    obtain ⟨q1, q2, q3⟩ := frac_abs (a := v - far) (b := 1 + u) (by omega) z1 z2
    exact ⟨q1, q2, q3⟩
/-! the pen -/
theorem ok_pen (T : Tp K mg) : FnOk P w K mg base CX0 1 T.f_pen T.d_pen ["script"] (spPen K) := by
  refine T.F_pen.ok sc_pen (fun vs H Q E h => ?_) fun cdv A outer s H vs Q E hr h => ?_
  · obtain ⟨a, ns, rfl, _⟩ := h
    rfl
  · obtain ⟨a, ns, rfl, hS, hl, hb, q⟩ := h
    refine ⟨_, PSs.nox (pss_one (ps_ret (pe_lst (pa_cons (pe_callTy call_list_of (by rfl) T.b_list boot_list (pa_cons (pe_slice sl_list (pv 0) po_none (po_some pe_int)) pa_nil)) (pa_cons pe_int (pa_cons pe_int pa_nil)))))), ?_⟩
    refine ⟨.ref a, rfl, 63, rfl, a, ns.map V.int, rfl, hS, fun d hd => ?_⟩
    rw [cut_all (by rw [List.length_map]; exact hl)]
    refine ⟨d, ns.map V.int, rfl, .inl (.of upd_same), fun c hc => ?_⟩
    refine ⟨by rw [sizeLine_eq]; exact Nat.le_of_ble_eq_true rfl, fun p hp => ?_⟩
    have hd' : ∀ b o, H b = some o → upd H d (.lst (ns.map V.int)) b = some o := fun b o e => by rw [upd_ne (ne_of_none e hd)]; exact e
    obtain ⟨z1, z2, z3, z4⟩ := pen_made hc hp hl hb
    refine q p c _ (fun b o e => z1 b o (hd' b o e)) ?_ ?_ z3 z4
    · cases e : H p with
      | none => rfl
      | some o => rw [hd' _ _ e] at z2; cases z2
    · cases e : H c with
      | none => rfl
      | some o => rw [hd' _ _ e] at hc; cases hc
theorem shI {e' : Nat} {i : Int} {m : Nat} (h : i.natAbs ≤ m) (hm : m < 10 ^ 120) : Sh e' 400 (.int i) := Sh.int (Nat.lt_of_le_of_lt h hm) (Nat.le_refl _)
theorem shF {q : Int × Int} {m : Nat} (h1 : q.1.natAbs ≤ m) (h2 : q.2.natAbs ≤ m) (hm : m < 10 ^ 120) : Sh 1 802 (frD q) := Sh.two (e := 0) (w := 400) (shI h1 hm) (shI h2 hm) (by decide) (by decide)
theorem n51 : (10 : Nat) ^ 51 < 10 ^ 120 := by decide +kernel
theorem n50 : (10 : Nat) ^ 25 * 10 ^ 25 + 10 ^ 25 * 10 ^ 25 ≤ 10 ^ 51 := by decide +kernel
theorem sh_ops {p q : Int × Int} (hp : PrOk p) (hq : PrOk q) : Sh 1 802 (frD (plusI p q)) ∧ Sh 1 802 (frD (minusI p q)) ∧ Sh 1 802 (frD (timesI p q)) ∧ (q.1 ≠ 0 → Sh 1 802 (frD (overI p q))) := by
  have h1 := mul_abs hp.a hq.c
  have h2 := mul_abs hq.a hp.c
  have h3 := mul_abs hp.c hq.c
  have h4 := mul_abs hp.a hq.a
  have h5 : (p.2 * q.1).natAbs ≤ 10 ^ 25 * 10 ^ 25 := mul_abs hp.c hq.a
  have z1 := n50
  have h6 := Int.mul_pos hp.b hq.b
  have e1 := Int.natAbs_add_le (p.1 * q.2) (q.1 * p.2)
  have e2 := Int.natAbs_sub_le (p.1 * q.2) (q.1 * p.2)
  have c8 : q.1 ≠ 0 → p.2 * q.1 ≠ 0 := Int.mul_ne_zero (ne_pos hp.b)
  generalize (10 : Nat) ^ 25 * 10 ^ 25 = m at *
  have n51' := n51
  have key : ∀ a b : Int, b ≠ 0 → a.natAbs ≤ 10 ^ 51 → b.natAbs ≤ 10 ^ 51 → Sh 1 802 (frD (fracI a b)) := fun a b h0 ha hb => by
    obtain ⟨q1, _, q3⟩ := frac_abs h0 ha hb
    exact shF q1 q3 n51
  generalize (10 : Nat) ^ 51 = M at *
  exact ⟨key _ _ (by omega) (by omega) (by omega), key _ _ (by omega) (by omega) (by omega), key _ _ (by omega) (by omega) (by omega), fun h0 => key _ _ (c8 h0) (by omega) (by omega)⟩
theorem PrOk.pr (q : Int × Int) : isPr (frD q) q := .inl rfl
theorem cross_less {p q : Int × Int} : decide (p.1 * q.2 < q.1 * p.2) = decide (p.1 * q.2 - q.1 * p.2 < 0) ∧ decide (q.1 * p.2 < p.1 * q.2) = decide (0 < p.1 * q.2 - q.1 * p.2) := by
  constructor <;> (apply decide_eq_decide.mpr; omega)
def I_law (v : V) (p : Addr) (i n : Nat) (ρ : En) : Prop := ∃ s2 s3 s4 s5 s6 s7 s8 s9 : Option S, ρ = [some (.dat (.raw v)), some (.dat (.raw (.ref p))), s2, s3, s4, s5, s6, s7, s8, s9] ∧ n + 8 * i = 1000000
theorem ten20 : (10 : Int) ^ (20 : Int).toNat = 100000000000000000000 := by decide +kernel
theorem ok_law (T : Tp K mg) : Fn P w K mg base CX0 5 T.f_law T.d_law ["script"] (spLaw K) := by
  refine Fn.by_body T.F_law sc_law (fun vs H Q E h => ?_) fun cdv A0 outer s H vs Q E rm h => ?_
  · obtain ⟨a, ns, rfl, _⟩ := h
    rfl
  · obtain ⟨a, ns, rfl, hS, hlen, hbits, q⟩ := h
    refine canSs.of (X := cxOf CX0 P w K mg base _ "law" _ T.f_law cdv A0 outer s H E) (PSs.nox (pss_cons (ps_set (i := 1) sc_law.nd rfl (.inl rfl) (pg_call (Fn.of_ok (ok_pen T)) (rm.mono (by decide)) (by rfl) T.m_pen T.F_pen.kp (b_pen T) .nil pass0 (pa_cons (pv 0) pa_nil))) sscan)) ?_
    refine law_start (X := (cxOf CX0 P w K mg base ["script", "pen", "turn", "top", "bottom", "one", "other", "told", "due", "cross"] "law" (defScope s_law) T.f_law cdv A0 outer s H E).nox) (D := { nx := fun _ H' => Q .non H', rt := Q }) (m := 8) rfl hS hlen hbits (fun A p c v hpn => ?_) q
    have nd := sc_law.nd
    obtain ⟨_, kbt⟩ := kb_frac_bt T
    obtain ⟨_, kt⟩ := kb_frac_t T
    obtain ⟨_, v1, bf1⟩ := b_frac1 T
    have hu := rm.r.units
    refine ws_cut (fun _ _ => True) ?_ (fun n ρ _ => ws_one (ws_ret (we_bl rfl)))
    refine ws_for (I_law v p) rfl .never (wi_range1 T.b_range (wa_cons (we_int (wa_nil ⟨12, rfl, by decide, by decide, ?_, ?_, fun _ _ _ => trivial⟩))))
    · exact ⟨none, none, none, none, none, none, none, none, rfl, rfl⟩
    · rintro i d n ρ hd ⟨s2, s3, s4, s5, s6, s7, s8, s9, rfl, hn⟩
      have hi : i < 12 := by
        have := (List.getElem?_eq_some_iff.mp hd).1
        rw [List.length_map, List.length_range] at this
        exact this
      clear hd
      obtain ⟨m, rfl⟩ : ∃ m, n = m + 8 := ⟨n - 8, by omega⟩
      refine wg_name 2 nd ?_
      -- top, bottom = (_law_draw(pen, 99) - 49, _law_pick(pen, [1, -1, 2, -6, 12, 35, -10 ** 20]))
      refine ws_cons ?_
      refine ws_par 3 4 rfl nd ?_
      refine wa_cons ?_
      refine we_op op_sub ?_ -- _law_draw(pen, 99) - 49
      refine we_pen (Fn.of_ok (ok_draw T.F_draw T.b_int T.b_len T.b_abs)) (rm.mono (by decide)) T.m_draw T.F_draw.kp (b_draw T) .nil (fun _ _ => .nil) hpn ?_ -- _law_draw(
      refine wa_cons ?_
      refine we_name 1 rfl ?_ -- pen
      refine wa_cons ?_
      refine we_int ?_ -- 99
      refine wa_nil ?_
      refine ⟨99, m + 7, rfl, rfl, lt9000 (by decide), fun tp t0 t1 => ?_⟩
      refine we_int ?_ -- 49
      refine od_sub ?_
      refine wa_cons ?_
      refine we_pen (ok_pick T) (rm.mono (by decide)) T.m_pick T.F_pick.kp (b_pick T) .nil (fun _ _ => .nil) hpn ?_ -- _law_pick(
      refine wa_cons ?_
      refine we_name 1 rfl ?_ -- pen
      refine wa_cons ?_
      refine we_lst ?_ -- [
      refine wa_cons ?_
      refine we_int ?_ -- 1
      refine wa_cons ?_
      refine we_un un_neg ?_
      refine we_int ?_ -- 1
      refine ud_neg ?_
      refine wa_cons ?_
      refine we_int ?_ -- 2
      refine wa_cons ?_
      refine we_un un_neg ?_
      refine we_int ?_ -- 6
      refine ud_neg ?_
      refine wa_cons ?_
      refine we_int ?_ -- 12
      refine wa_cons ?_
      refine we_int ?_ -- 35
      refine wa_cons ?_
      refine we_un un_neg ?_
      refine we_op op_pow ?_ -- 10 ** 20
      refine we_int ?_ -- 10
      refine we_int ?_ -- 20
      refine od_powI ?_ (by unfold CPow; decide)
      refine ud_neg ?_
      refine wa_nil ?_
      refine ⟨Nat.le_of_ble_eq_true rfl, ?_⟩ -- ]
      refine wa_nil ?_
      refine ⟨_, m + 6, rfl, rfl, by simp, by simp, ?_⟩
      intro d' hd
      rw [ten20] at hd
      obtain ⟨bot, rfl, hb0, hb3⟩ : ∃ b : Int, d' = .int b ∧ b ≠ 0 ∧ b.natAbs ≤ 100000000000000000000 := by
        simp only [List.mem_cons, List.mem_singleton, List.not_mem_nil, or_false] at hd
        rcases hd with rfl | rfl | rfl | rfl | rfl | rfl | rfl <;> exact ⟨_, rfl, by decide, by decide⟩
      clear hd
      refine wa_nil ?_
      refine ⟨_, _, rfl, ?_⟩
      obtain ⟨top, htop⟩ : ∃ top : Int, top = tp - 49 := ⟨_, rfl⟩
      rw [← htop]
      have ht3 : top.natAbs ≤ 100 := by omega
      clear htop t0 t1
      have e67 : (100000000000000000000 : Nat) < 2 ^ 170 := by decide +kernel
      have e51 : (100000000000000000000 : Nat) < 10 ^ 120 := by decide +kernel
      have hb2 : bot.natAbs < 2 ^ 170 := Nat.lt_of_le_of_lt hb3 e67
      have ht2 : top.natAbs < 2 ^ 170 := Nat.lt_of_le_of_lt (by omega) e67
      have hb1 := lt8 hb2
      have hsf : Sh 1 802 (frD (fracI top bot)) := by
        obtain ⟨q1, _, q3⟩ := frac_abs (a := top) (A := 100000000000000000000) hb0 (by omega) hb3
        exact shF q1 q3 e51
      have hst : Sh 1 802 (frD (top, 1)) := shF (m := 100000000000000000000) (by show top.natAbs ≤ _; omega) (by show (1 : Int).natAbs ≤ _; decide) e51
      -- if frac(top, bottom) != _law_low(top, bottom) or frac(bottom=bottom, top=top) != _law_low(top, bottom) or frac(top) != (top, 1) or (repr(frac(top=top)) != repr((top, 1))):
      refine ws_cons ?_
      refine ws_if ?_
      refine ww_wb ?_
      refine ww_or ?_ -- frac(top, bottom) != _law_low(top, bottom)
      refine wb_cmp (op_neD hu) ?_ -- frac(top, bottom) != _law_low(top, bottom)
      refine we_call (ok_frac T) (rm.mono (by decide)) T.m_frac T.F_frac.kp (b_frac T) .nil (fun _ _ => .nil) ?_ -- frac(
      refine wa_cons ?_
      refine we_name 3 rfl ?_ -- top
      refine wa_cons ?_
      refine we_name 4 rfl ?_ -- bottom
      refine wa_nil ?_
      refine ⟨top, bot, rfl, hb0, hb1, ?_⟩
      refine we_call (ok_low T) (rm.mono (by decide)) T.m_low T.F_low.kp (b_low T) .nil (fun _ _ => .nil) ?_ -- _law_low(
      refine wa_cons ?_
      refine we_name 3 rfl ?_ -- top
      refine wa_cons ?_
      refine we_name 4 rfl ?_ -- bottom
      refine wa_nil ?_
      refine ⟨top, bot, rfl, hb0, ht2, hb2, ?_⟩
      refine od_ne_same ⟨false, rfl, ?_⟩ hsf rfl
      refine ⟨fun _ => ?_, fun hc => nomatch hc⟩
      refine ww_or ?_ -- frac(bottom=bottom, top=top) != _law_low(top, bottom)
      refine wb_cmp (op_neD hu) ?_ -- frac(bottom=bottom, top=top) != _law_low(top, bottom)
      refine we_callN0 (gD := (fun es => es.reverse)) (ok_frac T) (rm.mono (by decide)) T.m_frac T.F_frac.kp kbt (fun _ _ _ _ r _ => r.reverse) ?_
      refine wk_cons ?_ -- bottom =
      refine we_name 4 rfl ?_ -- bottom
      refine wk_cons ?_ -- top =
      refine we_name 3 rfl ?_ -- top
      refine wk_nil ?_
      refine ⟨rfl, ?_⟩
      refine ⟨top, bot, rfl, hb0, hb1, ?_⟩
      refine we_call (ok_low T) (rm.mono (by decide)) T.m_low T.F_low.kp (b_low T) .nil (fun _ _ => .nil) ?_ -- _law_low(
      refine wa_cons ?_
      refine we_name 3 rfl ?_ -- top
      refine wa_cons ?_
      refine we_name 4 rfl ?_ -- bottom
      refine wa_nil ?_
      refine ⟨top, bot, rfl, hb0, ht2, hb2, ?_⟩
      refine od_ne_same ⟨false, rfl, ?_⟩ hsf rfl
      refine ⟨fun _ => ?_, fun hc => nomatch hc⟩
      refine ww_or ?_ -- frac(top) != (top, 1)
      refine wb_cmp (op_neD hu) ?_ -- frac(top) != (top, 1)
      refine we_call (ok_frac T) (rm.mono (by decide)) T.m_frac T.F_frac.kp bf1 v1 (fun _ _ => .cons (.int 1) .nil) ?_ -- frac(
      refine wa_cons ?_
      refine we_name 3 rfl ?_ -- top
      refine wa_nil ?_
      refine ⟨top, 1, rfl, by decide, by decide +kernel, ?_⟩
      rw [frac_one]
      refine we_tup ?_ -- (
      refine wa_cons ?_
      refine we_name 3 rfl ?_ -- top
      refine wa_cons ?_
      refine we_int ?_ -- 1
      refine wa_nil ?_
      refine ⟨Nat.le_of_ble_eq_true rfl, ?_⟩ -- )
      refine od_ne_same ⟨false, rfl, ?_⟩ hst rfl
      refine ⟨fun _ => ?_, fun hc => nomatch hc⟩
      refine ww_or1 ?_
      refine wb_cmp op_ne ?_ -- repr(frac(top=top)) != repr((top, 1))
      refine we_callB (call_repr (rm.mono (Nat.zero_le _))) T.b_repr boot_repr ?_ -- repr(
      refine wa_cons ?_
      refine we_callN0 (gD := (fun es => es ++ [.int 1])) (ok_frac T) (rm.mono (by decide)) T.m_frac T.F_frac.kp kt (fun _ _ _ _ r _ => r.append (.cons (.int 1) .nil)) ?_
      refine wk_cons ?_ -- top =
      refine we_name 3 rfl ?_ -- top
      refine wk_nil ?_
      refine ⟨rfl, ?_⟩
      refine ⟨top, 1, rfl, by decide, by decide +kernel, ?_⟩
      rw [frac_one]
      refine wa_nil ?_
      refine cd_repr' ?_ hst
      refine we_callB (call_repr (rm.mono (Nat.zero_le _))) T.b_repr boot_repr ?_ -- repr(
      refine wa_cons ?_
      refine we_tup ?_ -- (
      refine wa_cons ?_
      refine we_name 3 rfl ?_ -- top
      refine wa_cons ?_
      refine we_int ?_ -- 1
      refine wa_nil ?_
      refine ⟨Nat.le_of_ble_eq_true rfl, ?_⟩ -- )
      refine wa_nil ?_
      refine cd_repr' ?_ hst
      refine od_ne_str ⟨false, rfl, ?_⟩ rfl
      refine ⟨fun hc => (nomatch hc), fun _ => ?_⟩
      refine ws_nil ?_
      clear hst hsf hb1 ht2 hb2 e67 e51 ht3
      -- one, other = (_law_fraction(pen), _law_fraction(pen))
      refine ws_cons ?_
      refine ws_par 5 6 rfl nd ?_
      refine wa_cons ?_
      refine we_pen (ok_fraction T) (rm.mono (by decide)) T.m_fraction T.F_fraction.kp (b_fraction T) .nil (fun _ _ => .nil) hpn ?_ -- _law_fraction(
      refine wa_cons ?_
      refine we_name 1 rfl ?_ -- pen
      refine wa_nil ?_
      refine ⟨m + 3, rfl, rfl, fun x hx => ?_⟩
      refine wa_cons ?_
      refine we_pen (ok_fraction T) (rm.mono (by decide)) T.m_fraction T.F_fraction.kp (b_fraction T) .nil (fun _ _ => .nil) hpn ?_ -- _law_fraction(
      refine wa_cons ?_
      refine we_name 1 rfl ?_ -- pen
      refine wa_nil ?_
      refine ⟨m, rfl, rfl, fun y hy => ?_⟩
      refine wa_nil ?_
      refine ⟨_, _, rfl, ?_⟩
      have px := PrOk.pr x
      have py := PrOk.pr y
      obtain ⟨sP, sM, sT, sO⟩ := sh_ops hx hy
      obtain ⟨c1, c2, c3, c4, c5, c6, c7⟩ := cross_abs hx hy

      -- told = [plus(one, other), minus(one, other), times(one, other), plus(other=other, one=one), minus(other=other, one=one), times(other=other, one=one)]
      refine ws_cons ?_
      refine ws_set 7 nd ?_
      refine we_lst ?_ -- [
      refine wa_cons ?_
      refine we_call (ok_plus T) (rm.mono (by decide)) T.m_plus T.F_plus.kp (b_plus T) .nil (fun _ _ => .nil) ?_ -- plus(
      refine wa_cons ?_
      refine we_name 5 rfl ?_ -- one
      refine wa_cons ?_
      refine we_name 6 rfl ?_ -- other
      refine wa_nil ?_
      refine ⟨_, _, x, y, rfl, px, py, hx, hy, ?_⟩
      refine wa_cons ?_
      refine we_call (ok_minus T) (rm.mono (by decide)) T.m_minus T.F_minus.kp (b_minus T) .nil (fun _ _ => .nil) ?_ -- minus(
      refine wa_cons ?_
      refine we_name 5 rfl ?_ -- one
      refine wa_cons ?_
      refine we_name 6 rfl ?_ -- other
      refine wa_nil ?_
      refine ⟨_, _, x, y, rfl, px, py, hx, hy, ?_⟩
      refine wa_cons ?_
      refine we_call (ok_times T) (rm.mono (by decide)) T.m_times T.F_times.kp (b_times T) .nil (fun _ _ => .nil) ?_ -- times(
      refine wa_cons ?_
      refine we_name 5 rfl ?_ -- one
      refine wa_cons ?_
      refine we_name 6 rfl ?_ -- other
      refine wa_nil ?_
      refine ⟨_, _, x, y, rfl, px, py, hx, hy, ?_⟩
      refine wa_cons ?_
      refine we_callN0 (gD := (fun es => es.reverse)) (ok_plus T) (rm.mono (by decide)) T.m_plus T.F_plus.kp (kb_plus T) (fun _ _ _ _ r _ => r.reverse) ?_
      refine wk_cons ?_ -- other =
      refine we_name 6 rfl ?_ -- other
      refine wk_cons ?_ -- one =
      refine we_name 5 rfl ?_ -- one
      refine wk_nil ?_
      refine ⟨rfl, ?_⟩
      refine ⟨_, _, x, y, rfl, px, py, hx, hy, ?_⟩
      refine wa_cons ?_
      refine we_callN0 (gD := (fun es => es.reverse)) (ok_minus T) (rm.mono (by decide)) T.m_minus T.F_minus.kp (kb_minus T) (fun _ _ _ _ r _ => r.reverse) ?_
      refine wk_cons ?_ -- other =
      refine we_name 6 rfl ?_ -- other
      refine wk_cons ?_ -- one =
      refine we_name 5 rfl ?_ -- one
      refine wk_nil ?_
      refine ⟨rfl, ?_⟩
      refine ⟨_, _, x, y, rfl, px, py, hx, hy, ?_⟩
      refine wa_cons ?_
      refine we_callN0 (gD := (fun es => es.reverse)) (ok_times T) (rm.mono (by decide)) T.m_times T.F_times.kp (kb_times T) (fun _ _ _ _ r _ => r.reverse) ?_
      refine wk_cons ?_ -- other =
      refine we_name 6 rfl ?_ -- other
      refine wk_cons ?_ -- one =
      refine we_name 5 rfl ?_ -- one
      refine wk_nil ?_
      refine ⟨rfl, ?_⟩
      refine ⟨_, _, x, y, rfl, px, py, hx, hy, ?_⟩
      refine wa_nil ?_
      refine ⟨Nat.le_of_ble_eq_true rfl, ?_⟩ -- ]
      -- due = [_law_low(one[0] * other[1] + other[0] * one[1], one[1] * other[1]), _law_low(one[0] * other[1] - other[0] * one[1], one[1] * other[1]), _law_low(one[0] * other[0], one[1] * other[1])]
      refine ws_cons ?_
      refine ws_set 8 nd ?_
      refine we_lst ?_ -- [
      refine wa_cons ?_
      refine we_call (ok_low T) (rm.mono (by decide)) T.m_low T.F_low.kp (b_low T) .nil (fun _ _ => .nil) ?_ -- _law_low(
      refine wa_cons ?_
      refine we_op op_addU ?_ -- one[0] * other[1] + other[0] * one[1]
      refine we_op op_mulU ?_ -- one[0] * other[1]
      refine we_ix ix_seq ?_ -- one[0]
      refine we_name 5 rfl ?_ -- one
      refine we_int ?_ -- 0
      refine od_p0 px ?_
      refine we_ix ix_seq ?_ -- other[1]
      refine we_name 6 rfl ?_ -- other
      refine we_int ?_ -- 1
      refine od_p1 py ?_
      refine od_mulI ?_ (cmw hx.a hy.c)
      refine we_op op_mulU ?_ -- other[0] * one[1]
      refine we_ix ix_seq ?_ -- other[0]
      refine we_name 6 rfl ?_ -- other
      refine we_int ?_ -- 0
      refine od_p0 py ?_
      refine we_ix ix_seq ?_ -- one[1]
      refine we_name 5 rfl ?_ -- one
      refine we_int ?_ -- 1
      refine od_p1 px ?_
      refine od_mulI ?_ (cmw hy.a hx.c)
      refine od_addI ?_
      refine wa_cons ?_
      refine we_op op_mulU ?_ -- one[1] * other[1]
      refine we_ix ix_seq ?_ -- one[1]
      refine we_name 5 rfl ?_ -- one
      refine we_int ?_ -- 1
      refine od_p1 px ?_
      refine we_ix ix_seq ?_ -- other[1]
      refine we_name 6 rfl ?_ -- other
      refine we_int ?_ -- 1
      refine od_p1 py ?_
      refine od_mulI ?_ (cmw hx.c hy.c)
      refine wa_nil ?_
      refine ⟨_, _, rfl, ne_pos c7, c1, c3, ?_⟩
      refine wa_cons ?_
      refine we_call (ok_low T) (rm.mono (by decide)) T.m_low T.F_low.kp (b_low T) .nil (fun _ _ => .nil) ?_ -- _law_low(
      refine wa_cons ?_
      refine we_op op_sub ?_ -- one[0] * other[1] - other[0] * one[1]
      refine we_op op_mulU ?_ -- one[0] * other[1]
      refine we_ix ix_seq ?_ -- one[0]
      refine we_name 5 rfl ?_ -- one
      refine we_int ?_ -- 0
      refine od_p0 px ?_
      refine we_ix ix_seq ?_ -- other[1]
      refine we_name 6 rfl ?_ -- other
      refine we_int ?_ -- 1
      refine od_p1 py ?_
      refine od_mulI ?_ (cmw hx.a hy.c)
      refine we_op op_mulU ?_ -- other[0] * one[1]
      refine we_ix ix_seq ?_ -- other[0]
      refine we_name 6 rfl ?_ -- other
      refine we_int ?_ -- 0
      refine od_p0 py ?_
      refine we_ix ix_seq ?_ -- one[1]
      refine we_name 5 rfl ?_ -- one
      refine we_int ?_ -- 1
      refine od_p1 px ?_
      refine od_mulI ?_ (cmw hy.a hx.c)
      refine od_sub ?_
      refine wa_cons ?_
      refine we_op op_mulU ?_ -- one[1] * other[1]
      refine we_ix ix_seq ?_ -- one[1]
      refine we_name 5 rfl ?_ -- one
      refine we_int ?_ -- 1
      refine od_p1 px ?_
      refine we_ix ix_seq ?_ -- other[1]
      refine we_name 6 rfl ?_ -- other
      refine we_int ?_ -- 1
      refine od_p1 py ?_
      refine od_mulI ?_ (cmw hx.c hy.c)
      refine wa_nil ?_
      refine ⟨_, _, rfl, ne_pos c7, c2, c3, ?_⟩
      refine wa_cons ?_
      refine we_call (ok_low T) (rm.mono (by decide)) T.m_low T.F_low.kp (b_low T) .nil (fun _ _ => .nil) ?_ -- _law_low(
      refine wa_cons ?_
      refine we_op op_mulU ?_ -- one[0] * other[0]
      refine we_ix ix_seq ?_ -- one[0]
      refine we_name 5 rfl ?_ -- one
      refine we_int ?_ -- 0
      refine od_p0 px ?_
      refine we_ix ix_seq ?_ -- other[0]
      refine we_name 6 rfl ?_ -- other
      refine we_int ?_ -- 0
      refine od_p0 py ?_
      refine od_mulI ?_ (cmw hx.a hy.a)
      refine wa_cons ?_
      refine we_op op_mulU ?_ -- one[1] * other[1]
      refine we_ix ix_seq ?_ -- one[1]
      refine we_name 5 rfl ?_ -- one
      refine we_int ?_ -- 1
      refine od_p1 px ?_
      refine we_ix ix_seq ?_ -- other[1]
      refine we_name 6 rfl ?_ -- other
      refine we_int ?_ -- 1
      refine od_p1 py ?_
      refine od_mulI ?_ (cmw hx.c hy.c)
      refine wa_nil ?_
      refine ⟨_, _, rfl, ne_pos c7, c4, c3, ?_⟩
      refine wa_nil ?_
      refine ⟨Nat.le_of_ble_eq_true rfl, ?_⟩ -- ]
      have sL : Sh 2 5000 (.lst [frD (plusI x y), frD (minusI x y), frD (timesI x y), frD (plusI x y), frD (minusI x y), frD (timesI x y)]) := Sh.lst (m := 6) (all_cons sP (all_cons sM (all_cons sT (all_cons sP (all_cons sM (all_cons sT all_nil)))))) (Nat.le_refl _)
      -- if repr(told) != repr(due * 2) or plus(list(one), list(other)) != due[0]:
      refine ws_cons ?_
      refine ws_if ?_
      refine ww_wb ?_
      refine ww_or ?_ -- repr(told) != repr(due * 2)
      refine wb_cmp op_ne ?_ -- repr(told) != repr(due * 2)
      refine we_callB (call_repr (rm.mono (Nat.zero_le _))) T.b_repr boot_repr ?_ -- repr(
      refine wa_cons ?_
      refine we_name 7 rfl ?_ -- told
      refine wa_nil ?_
      refine cd_repr' ?_ sL
      refine we_callB (call_repr (rm.mono (Nat.zero_le _))) T.b_repr boot_repr ?_ -- repr(
      refine wa_cons ?_
      refine we_op op_mulU ?_ -- due * 2
      refine we_name 8 rfl ?_ -- due
      refine we_int ?_ -- 2
      refine od_mulL ?_ (Nat.le_of_ble_eq_true rfl) (by decide) (by decide)
      refine wa_nil ?_
      refine cd_repr' ?_ sL
      refine od_ne_str ⟨false, rfl, ?_⟩ rfl
      refine ⟨fun _ => ?_, fun hc => nomatch hc⟩
      refine ww_or1 ?_
      refine wb_cmp (op_neD hu) ?_ -- plus(list(one), list(other)) != due[0]
      refine we_call (ok_plus T) (rm.mono (by decide)) T.m_plus T.F_plus.kp (b_plus T) .nil (fun _ _ => .nil) ?_ -- plus(
      refine wa_cons ?_
      refine we_callTy call_list_of T.b_list boot_list ?_ -- list(
      refine wa_cons ?_
      refine we_name 5 rfl ?_ -- one
      refine wa_nil ?_
      refine cd_list (.inr rfl) ?_
      refine wa_cons ?_
      refine we_callTy call_list_of T.b_list boot_list ?_ -- list(
      refine wa_cons ?_
      refine we_name 6 rfl ?_ -- other
      refine wa_nil ?_
      refine cd_list (.inr rfl) ?_
      refine wa_nil ?_
      refine ⟨_, _, x, y, rfl, .inr rfl, .inr rfl, hx, hy, ?_⟩
      refine we_ix ix_seq ?_ -- due[0]
      refine we_name 8 rfl ?_ -- due
      refine we_int ?_ -- 0
      refine od_xL ?_ rfl
      refine od_ne_same ⟨false, rfl, ?_⟩ sP rfl
      refine ⟨fun hc => (nomatch hc), fun _ => ?_⟩
      refine ws_nil ?_
      refine ws_stay ?_ ?_
      · refine ws_if ?_
        refine ww_wb ?_
        refine ww_and ?_ -- other[0] != 0
        refine wb_cmp op_ne ?_ -- other[0] != 0
        refine we_ix ix_seq ?_ -- other[0]
        refine we_name 6 rfl ?_ -- other
        refine we_int ?_ -- 0
        refine od_p0 py ?_
        refine we_int ?_ -- 0
        refine od_neI ⟨_, rfl, ?_⟩
        refine ⟨fun hc => ?_, fun _ => ⟨fun hc => (nomatch hc), fun _ => ws_nil ⟨rfl, rfl⟩⟩⟩
        have hz : y.1 ≠ 0 := by simpa using hc
        refine ww_and1 ?_
        refine ww_wb ?_
        refine ww_or ?_ -- over(one, other) != _law_low(one[0] * other[1], one[1] * other[0])
        refine wb_cmp (op_neD hu) ?_ -- over(one, other) != _law_low(one[0] * other[1], one[1] * other[0])
        refine we_call (ok_over T) (rm.mono (by decide)) T.m_over T.F_over.kp (b_over T) .nil (fun _ _ => .nil) ?_ -- over(
        refine wa_cons ?_
        refine we_name 5 rfl ?_ -- one
        refine wa_cons ?_
        refine we_name 6 rfl ?_ -- other
        refine wa_nil ?_
        refine ⟨_, _, x, y, rfl, px, py, hx, hy, hz, ?_⟩
        refine we_call (ok_low T) (rm.mono (by decide)) T.m_low T.F_low.kp (b_low T) .nil (fun _ _ => .nil) ?_ -- _law_low(
        refine wa_cons ?_
        refine we_op op_mulU ?_ -- one[0] * other[1]
        refine we_ix ix_seq ?_ -- one[0]
        refine we_name 5 rfl ?_ -- one
        refine we_int ?_ -- 0
        refine od_p0 px ?_
        refine we_ix ix_seq ?_ -- other[1]
        refine we_name 6 rfl ?_ -- other
        refine we_int ?_ -- 1
        refine od_p1 py ?_
        refine od_mulI ?_ (cmw hx.a hy.c)
        refine wa_cons ?_
        refine we_op op_mulU ?_ -- one[1] * other[0]
        refine we_ix ix_seq ?_ -- one[1]
        refine we_name 5 rfl ?_ -- one
        refine we_int ?_ -- 1
        refine od_p1 px ?_
        refine we_ix ix_seq ?_ -- other[0]
        refine we_name 6 rfl ?_ -- other
        refine we_int ?_ -- 0
        refine od_p0 py ?_
        refine od_mulI ?_ (cmw hx.c hy.a)
        refine wa_nil ?_
        refine ⟨_, _, rfl, Int.mul_ne_zero (ne_pos hx.b) hz, c5, c6, ?_⟩
        refine od_ne_same ⟨false, rfl, ?_⟩ (sO hz) rfl
        refine ⟨fun _ => ?_, fun hc => nomatch hc⟩
        refine ww_or1 ?_
        refine wb_cmp (op_neD hu) ?_ -- over(other=other, one=one) != over(one, other)
        refine we_callN0 (gD := (fun es => es.reverse)) (ok_over T) (rm.mono (by decide)) T.m_over T.F_over.kp (kb_over T) (fun _ _ _ _ r _ => r.reverse) ?_
        refine wk_cons ?_ -- other =
        refine we_name 6 rfl ?_ -- other
        refine wk_cons ?_ -- one =
        refine we_name 5 rfl ?_ -- one
        refine wk_nil ?_
        refine ⟨rfl, ?_⟩
        refine ⟨_, _, x, y, rfl, px, py, hx, hy, hz, ?_⟩
        refine we_call (ok_over T) (rm.mono (by decide)) T.m_over T.F_over.kp (b_over T) .nil (fun _ _ => .nil) ?_ -- over(
        refine wa_cons ?_
        refine we_name 5 rfl ?_ -- one
        refine wa_cons ?_
        refine we_name 6 rfl ?_ -- other
        refine wa_nil ?_
        refine ⟨_, _, x, y, rfl, px, py, hx, hy, hz, ?_⟩
        exact od_ne_same ⟨false, rfl, fun hc => (nomatch hc), fun _ => ws_nil ⟨rfl, rfl⟩⟩ (sO hz) rfl
      -- cross = one[0] * other[1] - other[0] * one[1]
      refine ws_cons ?_
      refine ws_set 9 nd ?_
      refine we_op op_sub ?_ -- one[0] * other[1] - other[0] * one[1]
      refine we_op op_mulU ?_ -- one[0] * other[1]
      refine we_ix ix_seq ?_ -- one[0]
      refine we_name 5 rfl ?_ -- one
      refine we_int ?_ -- 0
      refine od_p0 px ?_
      refine we_ix ix_seq ?_ -- other[1]
      refine we_name 6 rfl ?_ -- other
      refine we_int ?_ -- 1
      refine od_p1 py ?_
      refine od_mulI ?_ (cmw hx.a hy.c)
      refine we_op op_mulU ?_ -- other[0] * one[1]
      refine we_ix ix_seq ?_ -- other[0]
      refine we_name 6 rfl ?_ -- other
      refine we_int ?_ -- 0
      refine od_p0 py ?_
      refine we_ix ix_seq ?_ -- one[1]
      refine we_name 5 rfl ?_ -- one
      refine we_int ?_ -- 1
      refine od_p1 px ?_
      refine od_mulI ?_ (cmw hy.a hx.c)
      refine od_sub ?_
      have sB : Sh 1 2000 (.lst [.int (signI x), .int (signI y), .bl (decide (x.1 * y.2 - y.1 * x.2 < 0)), .bl (decide (0 < x.1 * y.2 - y.1 * x.2))]) := by
        have hs : ∀ z : Int × Int, (signI z).natAbs ≤ 1 := fun z => by
          unfold signI b2i
          split <;> split <;> decide
        exact Sh.lst (m := 4) (e := 0) (w := 400) (all_cons (shI (hs x) (by decide +kernel)) (all_cons (shI (hs y) (by decide +kernel)) (all_cons (.bl _) (all_cons (.bl _) all_nil)))) (Nat.le_refl _)
      -- if repr([sign_of(one), sign_of(one=other), less(one, other), less(other=one, one=other)]) != repr([int(one[0] > 0) - int(one[0] < 0), int(other[0] > 0) - int(other[0] < 0), cross < 0, cross > 0]):
      refine ws_cons ?_
      refine ws_if ?_
      refine wb_cmp op_ne ?_ -- repr([sign_of(one), sign_of(one=other), less(one, other), less(other=one, one=other)]) != repr([int(one[0] > 0) - int(one[0] < 0), int(other[0] > 0) - int(other[0] < 0), cross < 0, cross > 0])
      refine we_callB (call_repr (rm.mono (Nat.zero_le _))) T.b_repr boot_repr ?_ -- repr(
      refine wa_cons ?_
      refine we_lst ?_ -- [
      refine wa_cons ?_
      refine we_call (ok_sign T) (rm.mono (by decide)) T.m_sign T.F_sign.kp (b_sign T) .nil (fun _ _ => .nil) ?_ -- sign_of(
      refine wa_cons ?_
      refine we_name 5 rfl ?_ -- one
      refine wa_nil ?_
      refine ⟨_, x, rfl, px, ?_⟩
      refine wa_cons ?_
      refine we_callN0 (gD := (fun es => es)) (ok_sign T) (rm.mono (by decide)) T.m_sign T.F_sign.kp (kb_sign T) (fun _ _ _ _ r _ => r) ?_
      refine wk_cons ?_ -- one =
      refine we_name 6 rfl ?_ -- other
      refine wk_nil ?_
      refine ⟨rfl, ?_⟩
      refine ⟨_, y, rfl, py, ?_⟩
      refine wa_cons ?_
      refine we_call (ok_less T) (rm.mono (by decide)) T.m_less T.F_less.kp (b_less T) .nil (fun _ _ => .nil) ?_ -- less(
      refine wa_cons ?_
      refine we_name 5 rfl ?_ -- one
      refine wa_cons ?_
      refine we_name 6 rfl ?_ -- other
      refine wa_nil ?_
      refine ⟨_, _, x, y, rfl, px, py, hx, hy, ?_⟩
      dsimp only
      rw [cross_less.1]
      refine wa_cons ?_
      refine we_callN0 (gD := (fun es => es.reverse)) (ok_less T) (rm.mono (by decide)) T.m_less T.F_less.kp (kb_less T) (fun _ _ _ _ r _ => r.reverse) ?_
      refine wk_cons ?_ -- other =
      refine we_name 5 rfl ?_ -- one
      refine wk_cons ?_ -- one =
      refine we_name 6 rfl ?_ -- other
      refine wk_nil ?_
      refine ⟨rfl, ?_⟩
      refine ⟨_, _, y, x, rfl, py, px, hy, hx, ?_⟩
      dsimp only
      rw [cross_less.2]
      refine wa_nil ?_
      refine ⟨Nat.le_of_ble_eq_true rfl, ?_⟩ -- ]
      refine wa_nil ?_
      refine cd_repr' ?_ sB
      refine we_callB (call_repr (rm.mono (Nat.zero_le _))) T.b_repr boot_repr ?_ -- repr(
      refine wa_cons ?_
      refine we_lst ?_ -- [
      refine wa_cons ?_
      refine we_op op_sub ?_ -- int(one[0] > 0) - int(one[0] < 0)
      refine we_callTy call_int1 T.b_int boot_int ?_ -- int(
      refine wa_cons ?_
      refine we_cmp op_gt ?_ -- one[0] > 0
      refine we_ix ix_seq ?_ -- one[0]
      refine we_name 5 rfl ?_ -- one
      refine we_int ?_ -- 0
      refine od_p0 px ?_
      refine we_int ?_ -- 0
      refine od_gt ?_
      refine wa_nil ?_
      refine cd_intb ?_
      refine we_callTy call_int1 T.b_int boot_int ?_ -- int(
      refine wa_cons ?_
      refine we_cmp op_lt ?_ -- one[0] < 0
      refine we_ix ix_seq ?_ -- one[0]
      refine we_name 5 rfl ?_ -- one
      refine we_int ?_ -- 0
      refine od_p0 px ?_
      refine we_int ?_ -- 0
      refine od_lt ?_
      refine wa_nil ?_
      refine cd_intb ?_
      refine od_sub ?_
      refine wa_cons ?_
      refine we_op op_sub ?_ -- int(other[0] > 0) - int(other[0] < 0)
      refine we_callTy call_int1 T.b_int boot_int ?_ -- int(
      refine wa_cons ?_
      refine we_cmp op_gt ?_ -- other[0] > 0
      refine we_ix ix_seq ?_ -- other[0]
      refine we_name 6 rfl ?_ -- other
      refine we_int ?_ -- 0
      refine od_p0 py ?_
      refine we_int ?_ -- 0
      refine od_gt ?_
      refine wa_nil ?_
      refine cd_intb ?_
      refine we_callTy call_int1 T.b_int boot_int ?_ -- int(
      refine wa_cons ?_
      refine we_cmp op_lt ?_ -- other[0] < 0
      refine we_ix ix_seq ?_ -- other[0]
      refine we_name 6 rfl ?_ -- other
      refine we_int ?_ -- 0
      refine od_p0 py ?_
      refine we_int ?_ -- 0
      refine od_lt ?_
      refine wa_nil ?_
      refine cd_intb ?_
      refine od_sub ?_
      refine wa_cons ?_
      refine we_cmp op_lt ?_ -- cross < 0
      refine we_name 9 rfl ?_ -- cross
      refine we_int ?_ -- 0
      refine od_lt ?_
      refine wa_cons ?_
      refine we_cmp op_gt ?_ -- cross > 0
      refine we_name 9 rfl ?_ -- cross
      refine we_int ?_ -- 0
      refine od_gt ?_
      refine wa_nil ?_
      refine ⟨Nat.le_of_ble_eq_true rfl, ?_⟩ -- ]
      refine wa_nil ?_
      refine cd_repr' ?_ sB
      refine od_ne_str ⟨false, rfl, ?_⟩ rfl
      refine ⟨fun hc => (nomatch hc), fun _ => ?_⟩
      refine ws_nil ?_
      refine ws_nil ?_
      exact ⟨_, _, _, _, _, _, _, _, rfl, by omega⟩
end
end K

namespace K
open PySem PySem.Spec PyProof.Rows L2 RD
theorem all_mk {l : PySem.W.OpenLaw} {w : World} {K : PySem.W.Frag} {h : Heap} {mg : Str → Option Value} {fa : Addr} (X : K.In h) (G : h.Ns mainGlobals mg) (hfa : mg "law" = some (.ref fa))
    {od0 an0 : Option Addr} {sl0 : Array (Option Value)} {oc0 kV0 dc0 pm0 cd0 ct0 : Value} {f0 : Addr}
    {T0 : Addr} {tn0 : Nat} {od20 : Option Addr} {sl20 : Array (Option Value)} {oc20 : Value} {its0 : Array Value}
    {od1 an1 : Option Addr} {sl1 : Array (Option Value)} {oc1 kV1 dc1 pm1 cd1 ct1 : Value} {f1 : Addr}
    {od2 an2 : Option Addr} {sl2 : Array (Option Value)} {oc2 kV2 dc2 pm2 cd2 ct2 : Value} {f2 : Addr}
    {od3 an3 : Option Addr} {sl3 : Array (Option Value)} {oc3 kV3 dc3 pm3 cd3 ct3 : Value} {f3 : Addr}
    {od4 an4 : Option Addr} {sl4 : Array (Option Value)} {oc4 kV4 dc4 pm4 cd4 ct4 : Value} {f4 : Addr}
    {od5 an5 : Option Addr} {sl5 : Array (Option Value)} {oc5 kV5 dc5 pm5 cd5 ct5 : Value} {f5 : Addr}
    {od6 an6 : Option Addr} {sl6 : Array (Option Value)} {oc6 kV6 dc6 pm6 cd6 ct6 : Value} {f6 : Addr}
    {od7 an7 : Option Addr} {sl7 : Array (Option Value)} {oc7 kV7 dc7 pm7 cd7 ct7 : Value} {f7 : Addr}
    {od8 an8 : Option Addr} {sl8 : Array (Option Value)} {oc8 kV8 dc8 pm8 cd8 ct8 : Value} {f8 : Addr}
    {od9 an9 : Option Addr} {sl9 : Array (Option Value)} {oc9 kV9 dc9 pm9 cd9 ct9 : Value} {f9 : Addr}
    {od10 an10 : Option Addr} {sl10 : Array (Option Value)} {oc10 kV10 dc10 pm10 cd10 ct10 : Value} {f10 : Addr}
    {od11 an11 : Option Addr} {sl11 : Array (Option Value)} {oc11 kV11 dc11 pm11 cd11 ct11 : Value} {f11 : Addr}
    {od12 an12 : Option Addr} {sl12 : Array (Option Value)} {oc12 kV12 dc12 pm12 cd12 ct12 : Value} {f12 : Addr}
    {od13 an13 : Option Addr} {sl13 : Array (Option Value)} {oc13 kV13 dc13 pm13 cd13 ct13 : Value} {f13 : Addr}
    (a0 : PySem.W.nsIn K mainGlobals "frac" = some (some (.ref f0)))
    (l0 : K.lookup f0 = some ⟨oc0, od0, .func (PySem.W.fnOf "frac" "frac" (defArgs s_frac) (defBody s_frac) (defScope s_frac) (.ref T0) kV0 dc0 pm0 an0 cd0 ct0), sl0⟩)
    (c0 : PySem.W.codeIn K cd0 "frac" = true)
    (k0 : PySem.W.keepIn K (.ref f0) = true)
    (t0 : K.lookup T0 = some ⟨oc20, od20, .seq its0 tn0, sl20⟩)
    (v0 : Vals [.int 1] its0.toList)
    (a1 : PySem.W.nsIn K mainGlobals "plus" = some (some (.ref f1)))
    (l1 : K.lookup f1 = some ⟨oc1, od1, .func (PySem.W.fnOf "plus" "plus" (defArgs s_plus) (defBody s_plus) (defScope s_plus) .none kV1 dc1 pm1 an1 cd1 ct1), sl1⟩)
    (c1 : PySem.W.codeIn K cd1 "plus" = true)
    (k1 : PySem.W.keepIn K (.ref f1) = true)
    (a2 : PySem.W.nsIn K mainGlobals "minus" = some (some (.ref f2)))
    (l2 : K.lookup f2 = some ⟨oc2, od2, .func (PySem.W.fnOf "minus" "minus" (defArgs s_minus) (defBody s_minus) (defScope s_minus) .none kV2 dc2 pm2 an2 cd2 ct2), sl2⟩)
    (c2 : PySem.W.codeIn K cd2 "minus" = true)
    (k2 : PySem.W.keepIn K (.ref f2) = true)
    (a3 : PySem.W.nsIn K mainGlobals "times" = some (some (.ref f3)))
    (l3 : K.lookup f3 = some ⟨oc3, od3, .func (PySem.W.fnOf "times" "times" (defArgs s_times) (defBody s_times) (defScope s_times) .none kV3 dc3 pm3 an3 cd3 ct3), sl3⟩)
    (c3 : PySem.W.codeIn K cd3 "times" = true)
    (k3 : PySem.W.keepIn K (.ref f3) = true)
    (a4 : PySem.W.nsIn K mainGlobals "over" = some (some (.ref f4)))
    (l4 : K.lookup f4 = some ⟨oc4, od4, .func (PySem.W.fnOf "over" "over" (defArgs s_over) (defBody s_over) (defScope s_over) .none kV4 dc4 pm4 an4 cd4 ct4), sl4⟩)
    (c4 : PySem.W.codeIn K cd4 "over" = true)
    (k4 : PySem.W.keepIn K (.ref f4) = true)
    (a5 : PySem.W.nsIn K mainGlobals "sign_of" = some (some (.ref f5)))
    (l5 : K.lookup f5 = some ⟨oc5, od5, .func (PySem.W.fnOf "sign_of" "sign_of" (defArgs s_sign) (defBody s_sign) (defScope s_sign) .none kV5 dc5 pm5 an5 cd5 ct5), sl5⟩)
    (c5 : PySem.W.codeIn K cd5 "sign_of" = true)
    (k5 : PySem.W.keepIn K (.ref f5) = true)
    (a6 : PySem.W.nsIn K mainGlobals "less" = some (some (.ref f6)))
    (l6 : K.lookup f6 = some ⟨oc6, od6, .func (PySem.W.fnOf "less" "less" (defArgs s_less) (defBody s_less) (defScope s_less) .none kV6 dc6 pm6 an6 cd6 ct6), sl6⟩)
    (c6 : PySem.W.codeIn K cd6 "less" = true)
    (k6 : PySem.W.keepIn K (.ref f6) = true)
    (a7 : PySem.W.nsIn K mainGlobals "_law_pen" = some (some (.ref f7)))
    (l7 : K.lookup f7 = some ⟨oc7, od7, .func (PySem.W.fnOf "_law_pen" "_law_pen" (defArgs s_pen) (defBody s_pen) (defScope s_pen) .none kV7 dc7 pm7 an7 cd7 ct7), sl7⟩)
    (c7 : PySem.W.codeIn K cd7 "_law_pen" = true)
    (k7 : PySem.W.keepIn K (.ref f7) = true)
    (a8 : PySem.W.nsIn K mainGlobals "_law_draw" = some (some (.ref f8)))
    (l8 : K.lookup f8 = some ⟨oc8, od8, .func (PySem.W.fnOf "_law_draw" "_law_draw" (defArgs s_draw) (defBody s_draw) (defScope s_draw) .none kV8 dc8 pm8 an8 cd8 ct8), sl8⟩)
    (c8 : PySem.W.codeIn K cd8 "_law_draw" = true)
    (k8 : PySem.W.keepIn K (.ref f8) = true)
    (a9 : PySem.W.nsIn K mainGlobals "_law_pick" = some (some (.ref f9)))
    (l9 : K.lookup f9 = some ⟨oc9, od9, .func (PySem.W.fnOf "_law_pick" "_law_pick" (defArgs s_pick) (defBody s_pick) (defScope s_pick) .none kV9 dc9 pm9 an9 cd9 ct9), sl9⟩)
    (c9 : PySem.W.codeIn K cd9 "_law_pick" = true)
    (k9 : PySem.W.keepIn K (.ref f9) = true)
    (a10 : PySem.W.nsIn K mainGlobals "_law_shared" = some (some (.ref f10)))
    (l10 : K.lookup f10 = some ⟨oc10, od10, .func (PySem.W.fnOf "_law_shared" "_law_shared" (defArgs s_shared) (defBody s_shared) (defScope s_shared) .none kV10 dc10 pm10 an10 cd10 ct10), sl10⟩)
    (c10 : PySem.W.codeIn K cd10 "_law_shared" = true)
    (k10 : PySem.W.keepIn K (.ref f10) = true)
    (a11 : PySem.W.nsIn K mainGlobals "_law_low" = some (some (.ref f11)))
    (l11 : K.lookup f11 = some ⟨oc11, od11, .func (PySem.W.fnOf "_law_low" "_law_low" (defArgs s_low) (defBody s_low) (defScope s_low) .none kV11 dc11 pm11 an11 cd11 ct11), sl11⟩)
    (c11 : PySem.W.codeIn K cd11 "_law_low" = true)
    (k11 : PySem.W.keepIn K (.ref f11) = true)
    (a12 : PySem.W.nsIn K mainGlobals "_law_fraction" = some (some (.ref f12)))
    (l12 : K.lookup f12 = some ⟨oc12, od12, .func (PySem.W.fnOf "_law_fraction" "_law_fraction" (defArgs s_fraction) (defBody s_fraction) (defScope s_fraction) .none kV12 dc12 pm12 an12 cd12 ct12), sl12⟩)
    (c12 : PySem.W.codeIn K cd12 "_law_fraction" = true)
    (k12 : PySem.W.keepIn K (.ref f12) = true)
    (a13 : PySem.W.nsIn K mainGlobals "law" = some (some (.ref f13)))
    (l13 : K.lookup f13 = some ⟨oc13, od13, .func (PySem.W.fnOf "law" "law" (defArgs s_law) (defBody s_law) (defScope s_law) .none kV13 dc13 pm13 an13 cd13 ct13), sl13⟩)
    (c13 : PySem.W.codeIn K cd13 "law" = true)
    (k13 : PySem.W.keepIn K (.ref f13) = true)
    (z_int : PySem.W.nsIn K mainGlobals "int" = some none)
    (z_len : PySem.W.nsIn K mainGlobals "len" = some none)
    (z_abs : PySem.W.nsIn K mainGlobals "abs" = some none)
    (z_list : PySem.W.nsIn K mainGlobals "list" = some none)
    (z_range : PySem.W.nsIn K mainGlobals "range" = some none)
    (z_repr : PySem.W.nsIn K mainGlobals "repr" = some none)
    (y_gcd : PySem.W.nsIn K mainGlobals "gcd" = some (some (.builtin "math.gcd"))) :
    ∃ fd : FuncData, (∀ (s : Shared) (u : Value), BindsTo s fd ⟨[u], []⟩ [("script", u)]) ∧ ∀ base : Heap, K.In base → base.Ns mainGlobals mg → Fn l.prog w K mg base CX0 5 fa fd ["script"] (spLaw K) := by
  have e := hfa.symm.trans (PySem.W.mg_of X G a13)
  cases e
  let T : Tp K mg := { f_frac := _, d_frac := _, F_frac := fd_mkD l0 c0 k0 t0 v0, m_frac := PySem.W.mg_of X G a0, f_plus := _, d_plus := _, F_plus := fd_mk l1 c1 k1, m_plus := PySem.W.mg_of X G a1, f_minus := _, d_minus := _, F_minus := fd_mk l2 c2 k2, m_minus := PySem.W.mg_of X G a2, f_times := _, d_times := _, F_times := fd_mk l3 c3 k3, m_times := PySem.W.mg_of X G a3, f_over := _, d_over := _, F_over := fd_mk l4 c4 k4, m_over := PySem.W.mg_of X G a4, f_sign := _, d_sign := _, F_sign := fd_mk l5 c5 k5, m_sign := PySem.W.mg_of X G a5, f_less := _, d_less := _, F_less := fd_mk l6 c6 k6, m_less := PySem.W.mg_of X G a6, f_pen := _, d_pen := _, F_pen := fd_mk l7 c7 k7, m_pen := PySem.W.mg_of X G a7, f_draw := _, d_draw := _, F_draw := fd_mk l8 c8 k8, m_draw := PySem.W.mg_of X G a8, f_pick := _, d_pick := _, F_pick := fd_mk l9 c9 k9, m_pick := PySem.W.mg_of X G a9, f_shared := _, d_shared := _, F_shared := fd_mk l10 c10 k10, m_shared := PySem.W.mg_of X G a10, f_low := _, d_low := _, F_low := fd_mk l11 c11 k11, m_low := PySem.W.mg_of X G a11, f_fraction := _, d_fraction := _, F_fraction := fd_mk l12 c12 k12, m_fraction := PySem.W.mg_of X G a12, f_law := _, d_law := _, F_law := fd_mk l13 c13 k13, b_int := PySem.W.mg_none_of X G z_int, b_len := PySem.W.mg_none_of X G z_len, b_abs := PySem.W.mg_none_of X G z_abs, b_list := PySem.W.mg_none_of X G z_list, b_range := PySem.W.mg_none_of X G z_range, b_repr := PySem.W.mg_none_of X G z_repr, b_gcd := PySem.W.mg_of X G y_gcd }
  exact ⟨_, fun s u => T.F_law.bindsA (ps := ["script"]) (fun _ _ _ _ _ _ us hl => match us, hl with | [_], _ => rfl) s [u] rfl, fun base _ _ => ok_law T⟩
end K
open PySem PySem.W PyProof.Rows
set_option maxHeartbeats 0 in
theorem PySem.Challenge.cw_replycuts_k03_fractions_holds : PySem.Challenge.rw_replycuts_k03_fractions.Holds := by
  w_on; o_law; k_head; (case hw => w_witness2)
  k_fill
  refine RD.law_end (l := PySem.Challenge.rw_replycuts_k03_fractions) (n := 63) (k := 5) (x := "script") (sp := fun w => RD.spLaw _) rfl (by decide) rfl ⟨rfl, by decide, by decide⟩ (fun w h Y => PySem.W.kIn_of Y) ?F (fun w H a ns hl hb hS _ _ => ⟨a, ns, rfl, hS, hl, fun z hz => RD.bits_abs (hb z hz), fun _ => rfl⟩)
  case F =>
    intro w mg fa h KX G hmg
    refine' K.all_mk KX G hmg ?a0 ?l0 ?c0 ?k0 ?t0 ?v0 ?a1 ?l1 ?c1 ?k1 ?a2 ?l2 ?c2 ?k2 ?a3 ?l3 ?c3 ?k3 ?a4 ?l4 ?c4 ?k4 ?a5 ?l5 ?c5 ?k5 ?a6 ?l6 ?c6 ?k6 ?a7 ?l7 ?c7 ?k7 ?a8 ?l8 ?c8 ?k8 ?a9 ?l9 ?c9 ?k9 ?a10 ?l10 ?c10 ?k10 ?a11 ?l11 ?c11 ?k11 ?a12 ?l12 ?c12 ?k12 ?a13 ?l13 ?c13 ?k13 ?z_int ?z_len ?z_abs ?z_list ?z_range ?z_repr ?y_gcd
    (case a0 => k_is); (case l0 => k_is); (case c0 => k_is); (case k0 => k_is); (case t0 => k_is); (case v0 => first | k_is | exact .cons ⟨_, rfl⟩ .nil); (case a1 => k_is); (case l1 => k_is); (case c1 => k_is); (case k1 => k_is); (case a2 => k_is); (case l2 => k_is); (case c2 => k_is); (case k2 => k_is); (case a3 => k_is); (case l3 => k_is); (case c3 => k_is); (case k3 => k_is); (case a4 => k_is); (case l4 => k_is); (case c4 => k_is); (case k4 => k_is); (case a5 => k_is); (case l5 => k_is); (case c5 => k_is); (case k5 => k_is); (case a6 => k_is); (case l6 => k_is); (case c6 => k_is); (case k6 => k_is); (case a7 => k_is); (case l7 => k_is); (case c7 => k_is); (case k7 => k_is); (case a8 => k_is); (case l8 => k_is); (case c8 => k_is); (case k8 => k_is); (case a9 => k_is); (case l9 => k_is); (case c9 => k_is); (case k9 => k_is); (case a10 => k_is); (case l10 => k_is); (case c10 => k_is); (case k10 => k_is); (case a11 => k_is); (case l11 => k_is); (case c11 => k_is); (case k11 => k_is); (case a12 => k_is); (case l12 => k_is); (case c12 => k_is); (case k12 => k_is); (case a13 => k_is); (case l13 => k_is); (case c13 => k_is); (case k13 => k_is); (case z_int => k_is); (case z_len => k_is); (case z_abs => k_is); (case z_list => k_is); (case z_range => k_is); (case z_repr => k_is); (case y_gcd => k_is)

