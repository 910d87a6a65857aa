import PyProof.Rows.All
import Wide.All
import OpenK.AllK
import Wide.FinOn
import HandS.ForMost
import HandS.Defaults
import HandS.Wide
import HandS.Gcd
import HandS.EndBits
import HandS.RaiseMore
import HandS.TupAny
import HandS.TupMul
import KE.DataEq
import HandS.Codes
import HandS.Comp
import HandS.IsInst
import HandS.Zip
import PyProof.ReprRoads
import PyProof.ReprNest
import HandS.DeepEq
import HandS.Star
import HandS.OwnEq
import HandS.Records
import KE.KTypeName
import PySem.Challenge.RW_replycuts_k01_papers_and_likeness
set_option Elab.async false
set_option linter.all false
set_option maxRecDepth 100000
set_option maxHeartbeats 4000000
set_option exponentiation.threshold 10000
/-! RD: deep data over the hand layer. What an expression comes to is told as plain data; the heap is hidden. -/
namespace RD
open PySem PySem.Spec PyProof.Rows L2

/-- plain data of any depth -/
inductive D where
  | non
  | bl (b : Bool)
  | int (i : Int)
  | str (x : Str)
  | lst (xs : List D)
  | tup (xs : List D)
  | dct (kvs : List (Key × D))
  | obj (C : Addr) (fs : List (Str × D))
  | raw (v : V)

/-- a written tuple -/
def KT (K : PySem.W.Frag) (a : Addr) (xs : List V) : Prop :=
  ∃ (o : Obj) (its : Array Value) (n : Nat), K.lookup a = some o ∧ o.cls = .type "tuple" ∧ o.data = .seq its n ∧ its.size ≤ sizeLine ∧ Vals xs its.toList

mutual
/-- the value stands for the datum; M: the addresses that may still change, none of which is within it -/
inductive Rep (K : PySem.W.Frag) (M : Addr → Prop) (H : Hp) : V → D → Prop
  | non : Rep K M H .non .non
  | bl (b : Bool) : Rep K M H (.bl b) (.bl b)
  | int (i : Int) : Rep K M H (.int i) (.int i)
  | str (x : Str) : Rep K M H (.str x) (.str x)
  | lst {a : Addr} {xs : List V} {ds : List D} : ¬ M a → H a = some (.lst xs) → RepAll K M H xs ds → Rep K M H (.ref a) (.lst ds)
  | tup {a : Addr} {xs : List V} {ds : List D} : ((¬ M a ∧ Rd H a (.tup xs)) ∨ KT K a xs) → RepAll K M H xs ds → Rep K M H (.ref a) (.tup ds)
  | dct {a : Addr} {xs : List (Key × V)} {ds : List (Key × D)} : ¬ M a → H a = some (.dK xs) → RepKV K M H xs ds → Rep K M H (.ref a) (.dct ds)
  | obj {a C dx : Addr} {fs : List (Str × V)} {ds : List (Str × D)} : ¬ M a → H a = some (.ins C dx fs) → RepF K M H fs ds → Rep K M H (.ref a) (.obj C ds)
  | raw (v : V) : Rep K M H v (.raw v)
inductive RepAll (K : PySem.W.Frag) (M : Addr → Prop) (H : Hp) : List V → List D → Prop
  | nil : RepAll K M H [] []
  | cons {v : V} {vs : List V} {d : D} {ds : List D} : Rep K M H v d → RepAll K M H vs ds → RepAll K M H (v :: vs) (d :: ds)
inductive RepKV (K : PySem.W.Frag) (M : Addr → Prop) (H : Hp) : List (Key × V) → List (Key × D) → Prop
  | nil : RepKV K M H [] []
  | cons {k : Key} {v : V} {vs : List (Key × V)} {d : D} {ds : List (Key × D)} : Rep K M H v d → RepKV K M H vs ds → RepKV K M H ((k, v) :: vs) ((k, d) :: ds)
inductive RepF (K : PySem.W.Frag) (M : Addr → Prop) (H : Hp) : List (Str × V) → List (Str × D) → Prop
  | nil : RepF K M H [] []
  | cons {k : Str} {v : V} {vs : List (Str × V)} {d : D} {ds : List (Str × D)} : Rep K M H v d → RepF K M H vs ds → RepF K M H ((k, v) :: vs) ((k, d) :: ds)
end

section
variable {K : PySem.W.Frag} {M M' : Addr → Prop} {H H' : Hp}
theorem rd_mono {a : Addr} {u : HO} (h : ∀ a o, ¬ M a → H a = some o → H' a = some o ∧ ¬ M' a) (m : ¬ M a) (r : Rd H a u) : ¬ M' a ∧ Rd H' a u := by
  rcases r with r | ⟨o, r⟩
  · obtain ⟨e, m'⟩ := h a _ m r
    exact ⟨m', .inl e⟩
  · obtain ⟨e, m'⟩ := h a _ m r
    exact ⟨m', .inr ⟨o, e⟩⟩
mutual
theorem Rep.mono (h : ∀ a o, ¬ M a → H a = some o → H' a = some o ∧ ¬ M' a) : ∀ (d : D) {v : V}, Rep K M H v d → Rep K M' H' v d
  | .non, _, r => by cases r; exact .non
  | .bl b, _, r => by cases r; exact .bl b
  | .int i, _, r => by cases r; exact .int i
  | .str x, _, r => by cases r; exact .str x
  | .lst ds, _, r => by
    cases r with
    | lst m q ra =>
      obtain ⟨e, m'⟩ := h _ _ m q
      exact .lst m' e (RepAll.mono h ds ra)
  | .tup ds, _, r => by
    cases r with
    | tup q ra =>
      refine .tup ?_ (RepAll.mono h ds ra)
      rcases q with ⟨m, q⟩ | q
      · exact .inl (rd_mono h m q)
      · exact .inr q
  | .dct ds, _, r => by
    cases r with
    | dct m q ra =>
      obtain ⟨e, m'⟩ := h _ _ m q
      exact .dct m' e (RepKV.mono h ds ra)
  | .obj C ds, _, r => by
    cases r with
    | obj m q ra =>
      obtain ⟨e, m'⟩ := h _ _ m q
      exact .obj m' e (RepF.mono h ds ra)
  | .raw v, _, r => by cases r; exact .raw v
theorem RepAll.mono (h : ∀ a o, ¬ M a → H a = some o → H' a = some o ∧ ¬ M' a) : ∀ (ds : List D) {vs : List V}, RepAll K M H vs ds → RepAll K M' H' vs ds
  | [], _, r => by cases r; exact .nil
  | d :: ds, _, r => by
    cases r with
    | cons r1 r2 => exact .cons (Rep.mono h d r1) (RepAll.mono h ds r2)
theorem RepKV.mono (h : ∀ a o, ¬ M a → H a = some o → H' a = some o ∧ ¬ M' a) : ∀ (ds : List (Key × D)) {vs : List (Key × V)}, RepKV K M H vs ds → RepKV K M' H' vs ds
  | [], _, r => by cases r; exact .nil
  | (k, d) :: ds, _, r => by
    cases r with
    | cons r1 r2 => exact .cons (Rep.mono h d r1) (RepKV.mono h ds r2)
theorem RepF.mono (h : ∀ a o, ¬ M a → H a = some o → H' a = some o ∧ ¬ M' a) : ∀ (ds : List (Str × D)) {vs : List (Str × V)}, RepF K M H vs ds → RepF K M' H' vs ds
  | [], _, r => by cases r; exact .nil
  | (k, d) :: ds, _, r => by
    cases r with
    | cons r1 r2 => exact .cons (Rep.mono h d r1) (RepF.mono h ds r2)
end
theorem RepAll.length : ∀ {vs : List V} {ds : List D}, RepAll K M H vs ds → vs.length = ds.length
  | _, _, .nil => rfl
  | _, _, .cons _ t => congrArg Nat.succ (RepAll.length t)
theorem RepAll.get : ∀ {vs : List V} {ds : List D} {i : Nat} {d : D}, RepAll K M H vs ds → ds[i]? = some d → ∃ v, vs[i]? = some v ∧ Rep K M H v d
  | _, _, _, _, .nil, e => by simp at e
  | _, _, 0, _, .cons r _, e => by simp at e; subst e; exact ⟨_, rfl, r⟩
  | _, _, i + 1, d, .cons _ t, e => by
    obtain ⟨v, h1, h2⟩ := RepAll.get (i := i) (d := d) t (by simpa using e)
    exact ⟨v, by simpa using h1, h2⟩
theorem RepAll.get' : ∀ {vs : List V} {ds : List D} {i : Nat} {v : V}, RepAll K M H vs ds → vs[i]? = some v → ∃ d, ds[i]? = some d ∧ Rep K M H v d
  | _, _, _, _, .nil, e => by simp at e
  | _, _, 0, _, .cons r _, e => by simp at e; subst e; exact ⟨_, rfl, r⟩
  | _, _, i + 1, v, .cons _ t, e => by
    obtain ⟨d, h1, h2⟩ := RepAll.get' (i := i) (v := v) t (by simpa using e)
    exact ⟨d, by simpa using h1, h2⟩
theorem RepAll.append : ∀ {vs ws : List V} {ds es : List D}, RepAll K M H vs ds → RepAll K M H ws es → RepAll K M H (vs ++ ws) (ds ++ es)
  | _, _, _, _, .nil, s => s
  | _, _, _, _, .cons r t, s => .cons r (RepAll.append t s)
theorem RepAll.take : ∀ {vs : List V} {ds : List D} (n : Nat), RepAll K M H vs ds → RepAll K M H (vs.take n) (ds.take n)
  | _, _, 0, _ => .nil
  | _, _, _ + 1, .nil => .nil
  | _, _, n + 1, .cons r t => .cons r (RepAll.take n t)
theorem RepAll.drop : ∀ {vs : List V} {ds : List D} (n : Nat), RepAll K M H vs ds → RepAll K M H (vs.drop n) (ds.drop n)
  | _, _, 0, r => r
  | _, _, _ + 1, .nil => .nil
  | _, _, n + 1, .cons _ t => RepAll.drop n t
theorem RepAll.set {v : V} {d : D} (r : Rep K M H v d) : ∀ {vs : List V} {ds : List D} (i : Nat), RepAll K M H vs ds → RepAll K M H (vs.set i v) (ds.set i d)
  | _, _, _, .nil => .nil
  | _, _, 0, .cons _ t => .cons r t
  | _, _, i + 1, .cons q t => .cons q (RepAll.set r i t)
theorem RepAll.ints : ∀ (ns : List Int), RepAll K M H (ns.map V.int) (ns.map D.int)
  | [] => .nil
  | n :: ns => .cons (.int n) (RepAll.ints ns)
end

/-! ### a def's names -/
/-- what a name holds: a datum; a list (a dict) of its own at p, which may change -/
inductive S where
  | dat (d : D)
  | own (p : Addr) (ds : List D)
  | ownK (p : Addr) (kvs : List (Key × D))
abbrev En := List (Option S)
def addrs : Option S → List Addr
  | some (.own p _) => [p]
  | some (.ownK p _) => [p]
  | _ => []
def owns : En → List Addr
  | [] => []
  | s :: ρ => addrs s ++ owns ρ
/-- what stands around: W the addresses that are others', H0 how they stood; pen: the drawing pen and its cells -/
structure Amb where
  W : List Addr
  H0 : Hp
  pen : Option (Addr × Addr)
def Mt (A : Amb) (ρ : En) : Addr → Prop := fun a => a ∈ owns ρ ∨ a ∈ A.W
def SlotR (K : PySem.W.Frag) (M : Addr → Prop) (H : Hp) : Option S → Option V → Prop
  | none, _ => True
  | some (.dat d), some v => Rep K M H v d
  | some (.own p ds), some v => v = .ref p ∧ ∃ vs, H p = some (.lst vs) ∧ RepAll K M H vs ds
  | some (.ownK p ds), some v => v = .ref p ∧ ∃ vs, H p = some (.dK vs) ∧ RepKV K M H vs ds
  | some _, none => False
/-- a pen at p, its cells at c: n draws are left -/
def PenAt (p c : Addr) (n : Nat) (H : Hp) : Prop := ∃ (at_ rest : Int) (ns : List Int), H p = some (.lst [.ref c, .int at_, .int rest]) ∧ H c = some (.lst (ns.map V.int)) ∧
  0 ≤ at_ ∧ at_ + n ≤ 1000000 ∧ 0 ≤ rest ∧ rest.natAbs < 2 ^ 1048600 ∧ ns.length ≤ 63 ∧ ∀ x ∈ ns, x.natAbs < 2 ^ 1048576
def Amb.isPen (A : Amb) (a : Addr) : Prop := match A.pen with
  | some (p, _) => a = p
  | none => False
def J (A : Amb) (n : Nat) (H : Hp) : Prop := (∀ a ∈ A.W, ¬ A.isPen a → H a = A.H0 a) ∧ (∀ a ∈ A.W, H a ≠ none) ∧ match A.pen with
  | none => True
  | some (p, c) => p ∈ A.W ∧ c ∈ A.W ∧ p ≠ c ∧ PenAt p c n H
/-- what was there and is no one's to change stands as it stood -/
def Keeps (A : Amb) (ρ : En) (H : Hp) (ρ' : En) (H' : Hp) : Prop := ∀ a o, a ∉ owns ρ → ¬ A.isPen a → H a = some o → H' a = some o ∧ a ∉ owns ρ'
theorem Keeps.refl {A : Amb} {ρ : En} {H : Hp} : Keeps A ρ H ρ H := fun _ _ h _ e => ⟨e, h⟩
theorem Keeps.trans {A : Amb} {ρ ρ1 ρ2 : En} {H H1 H2 : Hp} (a : Keeps A ρ H ρ1 H1) (b : Keeps A ρ1 H1 ρ2 H2) : Keeps A ρ H ρ2 H2 := fun x o h1 h2 e => by
  obtain ⟨e1, h3⟩ := a x o h1 h2 e
  exact b x o h3 h2 e1
structure Sat (K : PySem.W.Frag) (A : Amb) (ρ : En) (σ : L2.St) (H : Hp) : Prop where
  sl : Paired (SlotR K (Mt A ρ) H) ρ σ
  nd : (owns ρ ++ A.W).Nodup
structure Here (K : PySem.W.Frag) (A : Amb) (ρ0 : En) (H0 : Hp) (n : Nat) (ρ : En) (σ : L2.St) (H : Hp) : Prop where
  kp : Keeps A ρ0 H0 ρ H
  j : J A n H
  sat : Sat K A ρ σ H

theorem mt_pen {A : Amb} {n : Nat} {H : Hp} {ρ : En} {a : Addr} (j : J A n H) (m : ¬ Mt A ρ a) : a ∉ owns ρ ∧ ¬ A.isPen a := by
  refine ⟨fun z => m (.inl z), fun z => ?_⟩
  unfold Amb.isPen at z
  obtain ⟨_, _, q⟩ := j
  cases hp : A.pen with
  | none => rw [hp] at z; exact z
  | some pc =>
    obtain ⟨p, c⟩ := pc
    rw [hp] at z q
    exact m (.inr (by rw [show a = p from z]; exact q.1))
theorem Keeps.up {A : Amb} {n : Nat} {ρ ρ' : En} {H H' : Hp} (j : J A n H) (k : Keeps A ρ H ρ' H') : ∀ a o, ¬ Mt A ρ a → H a = some o → H' a = some o ∧ ¬ Mt A ρ' a := fun a o m e => by
  obtain ⟨h1, h2⟩ := mt_pen j m
  obtain ⟨e1, h3⟩ := k a o h1 h2 e
  refine ⟨e1, fun z => ?_⟩
  rcases z with z | z
  · exact h3 z
  · exact m (.inr z)
/-- data stay -/
theorem Rep.up {K : PySem.W.Frag} {A : Amb} {n : Nat} {ρ ρ' : En} {H H' : Hp} {v : V} {d : D} (j : J A n H) (k : Keeps A ρ H ρ' H') (r : Rep K (Mt A ρ) H v d) : Rep K (Mt A ρ') H' v d := Rep.mono (k.up j) d r
theorem RepAll.up {K : PySem.W.Frag} {A : Amb} {n : Nat} {ρ ρ' : En} {H H' : Hp} {v : List V} {d : List D} (j : J A n H) (k : Keeps A ρ H ρ' H') (r : RepAll K (Mt A ρ) H v d) : RepAll K (Mt A ρ') H' v d := RepAll.mono (k.up j) d r

/-! ### a new object -/
theorem Keeps.alloc {A : Amb} {ρ : En} {H : Hp} {p : Addr} {o : HO} (hp : H p = none) : Keeps A ρ H ρ (upd H p o) := fun a u h _ e => ⟨by rw [upd_ne (ne_of_none e hp)]; exact e, h⟩
theorem J.alloc {A : Amb} {n : Nat} {H : Hp} {p : Addr} {o : HO} (j : J A n H) (hp : H p = none) : J A n (upd H p o) := by
  obtain ⟨j1, j2, j3⟩ := j
  have ne : ∀ a ∈ A.W, a ≠ p := fun a ha z => j2 a ha (by rw [z]; exact hp)
  refine ⟨fun a ha hn => by rw [upd_ne (ne a ha)]; exact j1 a ha hn, fun a ha => by rw [upd_ne (ne a ha)]; exact j2 a ha, ?_⟩
  cases hq : A.pen with
  | none => trivial
  | some pc =>
    obtain ⟨q, c⟩ := pc
    rw [hq] at j3
    obtain ⟨h1, h2, h0, at_, rest, ns, e1, e2, r⟩ := j3
    exact ⟨h1, h2, h0, at_, rest, ns, by rw [upd_ne (ne q h1)]; exact e1, by rw [upd_ne (ne c h2)]; exact e2, r⟩
theorem slotR_mono {K : PySem.W.Frag} {M : Addr → Prop} {H H' : Hp} (h : ∀ a o, H a = some o → H' a = some o) : ∀ {s : Option S} {v : Option V}, SlotR K M H s v → SlotR K M H' s v := fun {s v} r => by
  have h' : ∀ a o, ¬ M a → H a = some o → H' a = some o ∧ ¬ M a := fun a o m e => ⟨h a o e, m⟩
  cases s with
  | none => cases v <;> trivial
  | some s =>
    cases v with
    | none => cases s <;> exact r
    | some v =>
      cases s with
      | dat d => exact Rep.mono h' d r
      | own p ds =>
        obtain ⟨e, vs, e1, e2⟩ := r
        exact ⟨e, vs, h _ _ e1, RepAll.mono h' ds e2⟩
      | ownK p ds =>
        obtain ⟨e, vs, e1, e2⟩ := r
        exact ⟨e, vs, h _ _ e1, RepKV.mono h' ds e2⟩
theorem paired_mono {α β : Type} {F G : α → β → Prop} (h : ∀ a b, F a b → G a b) : ∀ {l : List α} {m : List β}, Paired F l m → Paired G l m
  | _, _, .nil => .nil
  | _, _, .cons r t => .cons (h _ _ r) (paired_mono h t)
theorem Sat.alloc {K : PySem.W.Frag} {A : Amb} {ρ : En} {σ : L2.St} {H : Hp} {p : Addr} {o : HO} (s : Sat K A ρ σ H) (hp : H p = none) : Sat K A ρ σ (upd H p o) :=
  ⟨paired_mono (fun _ _ r => slotR_mono (fun a u e => by rw [upd_ne (ne_of_none e hp)]; exact e) r) s.sl, s.nd⟩
theorem Here.alloc {K : PySem.W.Frag} {A : Amb} {ρ0 : En} {H0 : Hp} {n : Nat} {ρ : En} {σ : L2.St} {H : Hp} {p : Addr} {o : HO} (h : Here K A ρ0 H0 n ρ σ H) (hp : H p = none) : Here K A ρ0 H0 n ρ σ (upd H p o) :=
  ⟨h.kp.trans (.alloc hp), h.j.alloc hp, h.sat.alloc hp⟩
/-- a new address is no one's -/
theorem mt_new {A : Amb} {K : PySem.W.Frag} {n : Nat} {ρ : En} {σ : L2.St} {H : Hp} {p : Addr} (j : J A n H) (s : Sat K A ρ σ H) (hp : H p = none) : ¬ Mt A ρ p := by
  intro z
  rcases z with z | z
  · have : ∀ {ρ' : En} {σ' : L2.St}, Paired (SlotR K (Mt A ρ) H) ρ' σ' → p ∉ owns ρ' := by
      intro ρ' σ' r
      induction r with
      | nil => simp [owns]
      | @cons a b l m r t ih =>
        intro hm
        simp only [owns, List.mem_append] at hm
        rcases hm with hm | hm
        · cases a with
          | none => simp [addrs] at hm
          | some s =>
            cases b with
            | none => cases s <;> exact r
            | some v =>
              cases s with
              | dat d => simp [addrs] at hm
              | own q ds =>
                simp [addrs] at hm
                subst hm
                obtain ⟨_, vs, e, _⟩ := r
                rw [hp] at e; cases e
              | ownK q ds =>
                simp [addrs] at hm
                subst hm
                obtain ⟨_, vs, e, _⟩ := r
                rw [hp] at e; cases e
        · exact ih hm
    exact this s.sl z
  · exact j.2.1 p z hp
theorem Here.new {K : PySem.W.Frag} {A : Amb} {ρ0 : En} {H0 : Hp} {n : Nat} {ρ : En} {σ : L2.St} {H : Hp} {p : Addr} (h : Here K A ρ0 H0 n ρ σ H) (hp : H p = none) : ¬ Mt A ρ p := mt_new h.j h.sat hp
theorem Rep.alloc {K : PySem.W.Frag} {M : Addr → Prop} {H : Hp} {p : Addr} {o : HO} {v : V} {d : D} (hp : H p = none) (r : Rep K M H v d) : Rep K M (upd H p o) v d :=
  Rep.mono (fun a u m e => ⟨by rw [upd_ne (ne_of_none e hp)]; exact e, m⟩) d r
theorem RepAll.alloc {K : PySem.W.Frag} {M : Addr → Prop} {H : Hp} {p : Addr} {o : HO} {v : List V} {d : List D} (hp : H p = none) (r : RepAll K M H v d) : RepAll K M (upd H p o) v d :=
  RepAll.mono (fun a u m e => ⟨by rw [upd_ne (ne_of_none e hp)]; exact e, m⟩) d r
theorem RepKV.alloc {K : PySem.W.Frag} {M : Addr → Prop} {H : Hp} {p : Addr} {o : HO} {v : List (Key × V)} {d : List (Key × D)} (hp : H p = none) (r : RepKV K M H v d) : RepKV K M (upd H p o) v d :=
  RepKV.mono (fun a u m e => ⟨by rw [upd_ne (ne_of_none e hp)]; exact e, m⟩) d r
end RD

/-! RD1: the judgements. WE: an expression, by plain data; WA: arguments; WB: a test; WF: an expression that makes a list of its own; WI: what is walked; WG: a target; WS: statements. -/
namespace RD
open PySem PySem.Spec PyProof.Rows L2

/-! ### the strongest readings -/
def canE (X : Cx) (e : Expr) : TE := fun σ H Q => ∀ (pins : List (Addr × Obj)) (s : Shared), Inv X pins σ H s → wpAny (model X.prog X.w) X.A (eval e X.env) (EP X pins σ Q) X.xe s
def canT (X : Cx) (e : Expr) : TT := fun σ H Q => ∀ (pins : List (Addr × Obj)) (s : Shared), Inv X pins σ H s → wpAny (model X.prog X.w) X.A (isTrue e X.env (eval e X.env)) (TP X pins σ Q) X.xe s
def canW (X : Cx) (e : Expr) : TT := fun σ H Q => ∀ (whole : Sem Value) (pins : List (Addr × Obj)) (s : Shared), Inv X pins σ H s → wpAny (model X.prog X.w) X.A (isTrue e X.env whole) (TP X pins σ Q) X.xe s
def canA (X : Cx) (es : List Expr) : TA := fun σ H Q => ∀ (pos : Pos) (pins : List (Addr × Obj)) (s : Shared), Inv X pins σ H s → wpAny (model X.prog X.w) X.A (spliced (backTo pos (starEach es X.env))) (AP X pins σ Q) X.xe s
def canK (X : Cx) (kws : List Keyword) : TA := fun σ H Q => ∀ (pos : Pos) (pins : List (Addr × Obj)) (s : Shared), Inv X pins σ H s → wpAny (model X.prog X.w) X.A (evalAll ((backToKw pos (keywordEach kws X.env)).map (·.2))) (AP X pins σ Q) X.xe s
def canS (X : Cx) (st : Stmt) : TS := fun D σ H => ∀ (pins : List (Addr × Obj)) (s : Shared), Inv X pins σ H s → wpAny (model X.prog X.w) X.A (exec st X.env) (SP X pins D) X.xe s
def canSs (X : Cx) (st : List Stmt) : TS := fun D σ H => ∀ (pins : List (Addr × Obj)) (s : Shared), Inv X pins σ H s → wpAny (model X.prog X.w) X.A (execs st X.env) (SP X pins D) X.xe s
def canG (X : Cx) (tg : Expr) : TG := fun v σ H Q => ∀ (pins : List (Addr × Obj)) (s : Shared) (u : Value), Inv X pins σ H s → RelV v u →
    wpAny (model X.prog X.w) X.A (assign tg X.env u) (fun _ s' => ∃ σ' H', Inv X pins σ' H' s' ∧ Q σ' H') X.xe s
def canI (X : Cx) (tg iter : Expr) : TI := fun σ H R => ∀ (pins : List (Addr × Obj)) (s : Shared), Inv X pins σ H s →
    wpAny (model X.prog X.w) X.A (eval iter X.env) (fun v s1 => wpAny (model X.prog X.w) X.A (pyIter v) (PIE X pins σ tg R) X.xe s1) X.xe s
section
variable {X : Cx}
theorem pcan {e : Expr} : PE X e (canE X e) := ⟨fun pins s _ _ _ I h => h pins s I⟩
theorem tcan {e : Expr} : PT X e (canT X e) := ⟨fun pins s _ _ _ I h => h pins s I⟩
theorem wcan {e : Expr} : PW X e (canW X e) := ⟨fun whole pins s _ _ _ I h => h whole pins s I⟩
theorem acan {es : List Expr} : PA X es (canA X es) := ⟨fun pos pins s _ _ _ I h => h pos pins s I⟩
theorem kcan {es : List Keyword} : PK X es (canK X es) := ⟨fun pos pins s _ _ _ I h => h pos pins s I⟩
theorem scan {st : Stmt} : PS X st (canS X st) := ⟨fun pins s _ _ _ I h => h pins s I⟩
theorem sscan {st : List Stmt} : PSs X st (canSs X st) := ⟨fun pins s _ _ _ I h => h pins s I⟩
theorem gcan {tg : Expr} : PG X tg (canG X tg) := ⟨fun pins s _ _ _ u _ I r h => h pins s u I r⟩
theorem icanL {tg iter : Expr} : PI X tg iter (canI X tg iter) := ⟨fun pins s _ _ _ I h => h pins s I⟩
theorem canE.of {e : Expr} {t : TE} (p : PE X e t) {σ : L2.St} {H : Hp} {Q : VK} (h : t σ H Q) : canE X e σ H Q := fun pins s I => p.run pins s σ H Q I h
theorem canT.of {e : Expr} {t : TT} (p : PT X e t) {σ : L2.St} {H : Hp} {Q : Bool → Hp → Prop} (h : t σ H Q) : canT X e σ H Q := fun pins s I => p.run pins s σ H Q I h
theorem canW.of {e : Expr} {t : TT} (p : PW X e t) {σ : L2.St} {H : Hp} {Q : Bool → Hp → Prop} (h : t σ H Q) : canW X e σ H Q := fun whole pins s I => p.run whole pins s σ H Q I h
theorem canA.of {e : List Expr} {t : TA} (p : PA X e t) {σ : L2.St} {H : Hp} {Q : List V → Hp → Prop} (h : t σ H Q) : canA X e σ H Q := fun pos pins s I => p.run pos pins s σ H Q I h
theorem canK.of {e : List Keyword} {t : TA} (p : PK X e t) {σ : L2.St} {H : Hp} {Q : List V → Hp → Prop} (h : t σ H Q) : canK X e σ H Q := fun pos pins s I => p.run pos pins s σ H Q I h
theorem canS.of {e : Stmt} {t : TS} (p : PS X e t) {σ : L2.St} {H : Hp} {D : Ends} (h : t D σ H) : canS X e D σ H := fun pins s I => p.run pins s σ H D I h
theorem canSs.of {e : List Stmt} {t : TS} (p : PSs X e t) {σ : L2.St} {H : Hp} {D : Ends} (h : t D σ H) : canSs X e D σ H := fun pins s I => p.run pins s σ H D I h
theorem canG.of {e : Expr} {t : TG} (p : PG X e t) {v : V} {σ : L2.St} {H : Hp} {Q : L2.St → Hp → Prop} (h : t v σ H Q) : canG X e v σ H Q := fun pins s u I r => p.run pins s σ H v u Q I r h
theorem canI.of {tg e : Expr} {t : TI} (p : PI X tg e t) {σ : L2.St} {H : Hp} {Q : It → Hp → Prop} (h : t σ H Q) : canI X tg e σ H Q := fun pins s I => p.run pins s σ H Q I h
end

/-! ### the judgements -/
def WE (X : Cx) (A : Amb) (e : Expr) (ρ : En) (n : Nat) (k : Nat → En → D → Prop) : Prop :=
  ∀ ρ0 H0 σ H, Here X.K A ρ0 H0 n ρ σ H → ∀ Q : VK, (∀ n' ρ' d v H', k n' ρ' d → Here X.K A ρ0 H0 n' ρ' σ H' → Keeps A ρ H ρ' H' → Rep X.K (Mt A ρ') H' v d → Q v H') → canE X e σ H Q
/-- a list of its own, at p, just made -/
structure Own1 (K : PySem.W.Frag) (A : Amb) (ρ0 : En) (H0 : Hp) (ρ : En) (σ : L2.St) (H : Hp) (p : Addr) (vs : List V) (ds : List D) : Prop where
  ob : H p = some (.lst vs)
  nm : ¬ Mt A ρ p
  nw : ∀ o, p ∉ owns ρ0 → ¬ A.isPen p → H0 p ≠ some o
  sl : Paired (SlotR K (fun a => Mt A ρ a ∨ a = p) H) ρ σ
  rp : RepAll K (fun a => Mt A ρ a ∨ a = p) H vs ds
def WF (X : Cx) (A : Amb) (e : Expr) (ρ : En) (n : Nat) (k : Nat → En → List D → Prop) : Prop :=
  ∀ ρ0 H0 σ H, Here X.K A ρ0 H0 n ρ σ H → ∀ Q : VK, (∀ n' ρ' ds p vs H', k n' ρ' ds → Here X.K A ρ0 H0 n' ρ' σ H' → Keeps A ρ H ρ' H' → Own1 X.K A ρ0 H0 ρ' σ H' p vs ds → Q (.ref p) H') → canE X e σ H Q
def WA (X : Cx) (A : Amb) (es : List Expr) (ρ : En) (n : Nat) (k : Nat → En → List D → Prop) : Prop :=
  ∀ ρ0 H0 σ H, Here X.K A ρ0 H0 n ρ σ H → ∀ Q : List V → Hp → Prop, (∀ n' ρ' ds vs H', k n' ρ' ds → Here X.K A ρ0 H0 n' ρ' σ H' → Keeps A ρ H ρ' H' → RepAll X.K (Mt A ρ') H' vs ds → Q vs H') → canA X es σ H Q
def WK (X : Cx) (A : Amb) (es : List Keyword) (ρ : En) (n : Nat) (k : Nat → En → List D → Prop) : Prop :=
  ∀ ρ0 H0 σ H, Here X.K A ρ0 H0 n ρ σ H → ∀ Q : List V → Hp → Prop, (∀ n' ρ' ds vs H', k n' ρ' ds → Here X.K A ρ0 H0 n' ρ' σ H' → Keeps A ρ H ρ' H' → RepAll X.K (Mt A ρ') H' vs ds → Q vs H') → canK X es σ H Q
def WB (X : Cx) (A : Amb) (e : Expr) (ρ : En) (n : Nat) (k : Nat → En → Bool → Prop) : Prop :=
  ∀ ρ0 H0 σ H, Here X.K A ρ0 H0 n ρ σ H → ∀ Q : Bool → Hp → Prop, (∀ n' ρ' b H', k n' ρ' b → Here X.K A ρ0 H0 n' ρ' σ H' → Keeps A ρ H ρ' H' → Q b H') → canT X e σ H Q
/-- the same for any whole (and, or) -/
def WW (X : Cx) (A : Amb) (e : Expr) (ρ : En) (n : Nat) (k : Nat → En → Bool → Prop) : Prop :=
  ∀ ρ0 H0 σ H, Here X.K A ρ0 H0 n ρ σ H → ∀ Q : Bool → Hp → Prop, (∀ n' ρ' b H', k n' ρ' b → Here X.K A ρ0 H0 n' ρ' σ H' → Keeps A ρ H ρ' H' → Q b H') → canW X e σ H Q
/-- what an iterator yields -/
def Src (K : PySem.W.Frag) (M : Addr → Prop) (H : Hp) (Jt : It) (ds : List D) : Prop := ∀ (M' : Addr → Prop) (H' : Hp), (∀ a o, ¬ M a → H a = some o → H' a = some o ∧ ¬ M' a) →
  (∀ i, i < ds.length → Jt.go i H') ∧ Jt.stop ds.length H' ∧ ∀ i d x H'', ds[i]? = some d → Jt.yld i H' x H'' → (∀ T, H' T = none → ¬ M' T) → (H'' = H' ∨ ∃ T o, H' T = none ∧ H'' = upd H' T o) ∧ Rep K M' H'' x d
def WI (X : Cx) (A : Amb) (tg iter : Expr) (ρ : En) (n : Nat) (k : Nat → En → List D → Prop) : Prop :=
  ∀ ρ0 H0 σ H, Here X.K A ρ0 H0 n ρ σ H → ∀ R : It → Hp → Prop, (∀ n' ρ' ds Jt H', k n' ρ' ds → Here X.K A ρ0 H0 n' ρ' σ H' → Keeps A ρ H ρ' H' → Src X.K (Mt A ρ') H' Jt ds → R Jt H') → canI X tg iter σ H R
def WG (X : Cx) (A : Amb) (tg : Expr) (d : D) (ρ : En) (n : Nat) (k : Nat → En → Prop) : Prop :=
  ∀ ρ0 H0 σ H v, Here X.K A ρ0 H0 n ρ σ H → Rep X.K (Mt A ρ) H v d → ∀ Q : L2.St → Hp → Prop, (∀ n' ρ' σ' H', k n' ρ' → Here X.K A ρ0 H0 n' ρ' σ' H' → Keeps A ρ H ρ' H' → Q σ' H') → canG X tg v σ H Q
/-- several targets -/
def canGs (X : Cx) (ts : List Expr) : TGs := fun vs σ H Q => ∀ (pins : List (Addr × Obj)) (s : Shared) (us : List Value), Inv X pins σ H s → Vals vs us →
    wpAny (model X.prog X.w) X.A (assignInOrder ((assignEach ts X.env).map (·.2)) us) (fun _ s' => ∃ σ' H', Inv X pins σ' H' s' ∧ Q σ' H') X.xe s
theorem gscan {X : Cx} {ts : List Expr} : PGs X ts (canGs X ts) := ⟨fun pins s _ _ _ us _ I r h => h pins s us I r⟩
theorem canGs.of {X : Cx} {e : List Expr} {t : TGs} (p : PGs X e t) {v : List V} {σ : L2.St} {H : Hp} {Q : L2.St → Hp → Prop} (h : t v σ H Q) : canGs X e v σ H Q := fun pins s u I r => p.run pins s σ H v u Q I r h
def WGs (X : Cx) (A : Amb) (ts : List Expr) (ds : List D) (ρ : En) (n : Nat) (k : Nat → En → Prop) : Prop :=
  ∀ ρ0 H0 σ H vs, Here X.K A ρ0 H0 n ρ σ H → RepAll X.K (Mt A ρ) H vs ds → ∀ Q : L2.St → Hp → Prop, (∀ n' ρ' σ' H', k n' ρ' → Here X.K A ρ0 H0 n' ρ' σ' H' → Keeps A ρ H ρ' H' → Q σ' H') → canGs X ts vs σ H Q
/-- what is wanted behind statements -/
structure En4 where
  nx : Nat → En → Prop
  rt : Nat → En → D → Prop
  bk : Nat → En → Prop := fun _ _ => False
  ct : Nat → En → Prop := fun _ _ => False
structure Fits (X : Cx) (A : Amb) (ρ0 : En) (H0 : Hp) (E : En4) (D : Ends) : Prop where
  nx : ∀ n ρ σ H, E.nx n ρ → Here X.K A ρ0 H0 n ρ σ H → D.nx σ H
  rt : ∀ n ρ σ H d v, E.rt n ρ d → Here X.K A ρ0 H0 n ρ σ H → Rep X.K (Mt A ρ) H v d → D.rt v H
  bk : ∀ n ρ σ H, E.bk n ρ → Here X.K A ρ0 H0 n ρ σ H → D.bk σ H
  ct : ∀ n ρ σ H, E.ct n ρ → Here X.K A ρ0 H0 n ρ σ H → D.ct σ H
def WS1 (X : Cx) (A : Amb) (st : Stmt) (ρ : En) (n : Nat) (E : En4) : Prop :=
  ∀ ρ0 H0 σ H, Here X.K A ρ0 H0 n ρ σ H → ∀ D : Ends, Fits X A ρ0 H0 E D → canS X st D σ H
def WS (X : Cx) (A : Amb) (sts : List Stmt) (ρ : En) (n : Nat) (E : En4) : Prop :=
  ∀ ρ0 H0 σ H, Here X.K A ρ0 H0 n ρ σ H → ∀ D : Ends, Fits X A ρ0 H0 E D → canSs X sts D σ H

/-! ### weakening -/
section
variable {X : Cx} {A : Amb} {ρ : En} {n : Nat} {e : Expr}
theorem WE.mono {k k' : Nat → En → D → Prop} (h : WE X A e ρ n k) (m : ∀ n ρ d, k n ρ d → k' n ρ d) : WE X A e ρ n k' := fun ρ0 H0 σ H hh Q q => h ρ0 H0 σ H hh Q fun n' ρ' d v H' kk => q n' ρ' d v H' (m _ _ _ kk)
theorem WB.mono {k k' : Nat → En → Bool → Prop} (h : WB X A e ρ n k) (m : ∀ n ρ d, k n ρ d → k' n ρ d) : WB X A e ρ n k' := fun ρ0 H0 σ H hh Q q => h ρ0 H0 σ H hh Q fun n' ρ' d H' kk => q n' ρ' d H' (m _ _ _ kk)
theorem WA.mono {es : List Expr} {k k' : Nat → En → List D → Prop} (h : WA X A es ρ n k) (m : ∀ n ρ d, k n ρ d → k' n ρ d) : WA X A es ρ n k' := fun ρ0 H0 σ H hh Q q => h ρ0 H0 σ H hh Q fun n' ρ' d v H' kk => q n' ρ' d v H' (m _ _ _ kk)
theorem WF.mono {k k' : Nat → En → List D → Prop} (h : WF X A e ρ n k) (m : ∀ n ρ d, k n ρ d → k' n ρ d) : WF X A e ρ n k' := fun ρ0 H0 σ H hh Q q => h ρ0 H0 σ H hh Q fun n' ρ' d p v H' kk => q n' ρ' d p v H' (m _ _ _ kk)
theorem Fits.mono {ρ0 : En} {H0 : Hp} {E E' : En4} {D : Ends} (f : Fits X A ρ0 H0 E D) (h1 : ∀ n ρ, E'.nx n ρ → E.nx n ρ) (h2 : ∀ n ρ d, E'.rt n ρ d → E.rt n ρ d) (h3 : ∀ n ρ, E'.bk n ρ → E.bk n ρ) (h4 : ∀ n ρ, E'.ct n ρ → E.ct n ρ) : Fits X A ρ0 H0 E' D :=
  ⟨fun n ρ σ H h => f.nx n ρ σ H (h1 _ _ h), fun n ρ σ H d v h => f.rt n ρ σ H d v (h2 _ _ _ h), fun n ρ σ H h => f.bk n ρ σ H (h3 _ _ h), fun n ρ σ H h => f.ct n ρ σ H (h4 _ _ h)⟩
theorem WS.mono {sts : List Stmt} {E E' : En4} (h : WS X A sts ρ n E) (h1 : ∀ n ρ, E.nx n ρ → E'.nx n ρ) (h2 : ∀ n ρ d, E.rt n ρ d → E'.rt n ρ d) (h3 : ∀ n ρ, E.bk n ρ → E'.bk n ρ := by intros; assumption) (h4 : ∀ n ρ, E.ct n ρ → E'.ct n ρ := by intros; assumption) : WS X A sts ρ n E' :=
  fun ρ0 H0 σ H hh D f => h ρ0 H0 σ H hh D (f.mono h1 h2 h3 h4)
/-- a list of one's own is data, too -/
theorem WF.we {k : Nat → En → D → Prop} (h : WF X A e ρ n fun n ρ ds => k n ρ (.lst ds)) : WE X A e ρ n k := by
  intro ρ0 H0 σ H hh Q q
  refine h ρ0 H0 σ H hh Q fun n' ρ' ds p vs H' kk h' kp o => q n' ρ' _ _ H' kk h' kp ?_
  exact .lst o.nm o.ob (RepAll.mono (fun a o ha ea => ⟨ea, fun z => ha (.inl z)⟩) _ o.rp)

/-! ### names, constants -/
theorem slot_get {K : PySem.W.Frag} {M : Addr → Prop} {H : Hp} : ∀ {ρ : En} {σ : L2.St} {i : Nat} {s : S}, Paired (SlotR K M H) ρ σ → ρ[i]? = some (some s) → ∃ v, σ[i]? = some (some v) ∧ SlotR K M H (some s) (some v)
  | _, _, _, _, .nil, e => by simp at e
  | _, _, 0, s, .cons (b := b) r _, e => by
    have e' := Option.some.inj (show some _ = some (some s) from e)
    subst e'
    cases b with
    | none => cases s <;> exact r.elim
    | some v => exact ⟨v, rfl, r⟩
  | _, _, i + 1, s, .cons _ t, e => by
    obtain ⟨v, h1, h2⟩ := slot_get (i := i) (s := s) t (by simpa using e)
    exact ⟨v, by simpa using h1, h2⟩
theorem we_name (i : Nat) {x : Str} {pos : Pos} {d : D} {k : Nat → En → D → Prop} (hd : ρ[i]? = some (some (.dat d))) (h : k n ρ d) (hN : X.N[i]? = some x := by rfl) (hv : Vis X.env.scope x := by first | exact Or.inl rfl | exact Or.inr (Or.inl rfl) | exact Or.inr (Or.inr rfl)) (hdb : (x == ("__debug__" : Str)) = false := by decide)
    (hcd : (x == ("__classdict__" : Str)) = false := by decide) : WE X A (.Name x pos) ρ n k := by
  intro ρ0 H0 σ H hh Q q
  obtain ⟨v, e, r⟩ := slot_get hh.sat.sl hd
  exact canE.of (pe_var hN hv hdb hcd) ⟨v, e, q n ρ d v H h hh .refl r⟩
theorem we_int {i : Int} {j pos} {k : Nat → En → D → Prop} (h : k n ρ (.int i)) : WE X A (.Constant (.int i) j pos) ρ n k := fun ρ0 H0 σ H hh Q q => canE.of pe_int (q n ρ _ _ H h hh .refl (.int i))
theorem we_bl {i : Bool} {j pos} {k : Nat → En → D → Prop} (h : k n ρ (.bl i)) : WE X A (.Constant (.bool i) j pos) ρ n k := fun ρ0 H0 σ H hh Q q => canE.of pe_bl (q n ρ _ _ H h hh .refl (.bl i))
theorem we_non {j pos} {k : Nat → En → D → Prop} (h : k n ρ .non) : WE X A (.Constant .none j pos) ρ n k := fun ρ0 H0 σ H hh Q q => canE.of pe_non (q n ρ _ _ H h hh .refl .non)
theorem we_str {i : Str} {j pos} {k : Nat → En → D → Prop} (h : k n ρ (.str i)) : WE X A (.Constant (.str i) j pos) ρ n k := fun ρ0 H0 σ H hh Q q => canE.of pe_str (q n ρ _ _ H h hh .refl (.str i))
/-- a name of the module, of a builtin, as it is -/
theorem we_glob {x : Str} {v : V} {u : Value} {pos : Pos} {k : Nat → En → D → Prop} (hm : X.mg x = some u) (r : RelV v u) (h : k n ρ (.raw v)) (hg : Gl X x := by rfl) (hd : (x == ("__debug__" : Str)) = false := by decide) : WE X A (.Name x pos) ρ n k :=
  fun ρ0 H0 σ H hh Q q => canE.of (pe_glob hg hm r hd) (q n ρ _ _ H h hh .refl (.raw v))

/-! ### operators -/
/-- an operation by values on data -/
def OpD (K : PySem.W.Frag) (A : Amb) (r : R2) (ρ : En) (x y : D) (k : D → Prop) : Prop := ∀ n σ ρ0 H0 H vx vy (Q : VK), Here K A ρ0 H0 n ρ σ H → Rep K (Mt A ρ) H vx x → Rep K (Mt A ρ) H vy y →
  (∀ d v H', k d → Here K A ρ0 H0 n ρ σ H' → Keeps A ρ H ρ H' → Rep K (Mt A ρ) H' v d → Q v H') → r vx vy H Q
def UnD (K : PySem.W.Frag) (A : Amb) (r : V → Hp → VK → Prop) (ρ : En) (x : D) (k : D → Prop) : Prop := ∀ n σ ρ0 H0 H vx (Q : VK), Here K A ρ0 H0 n ρ σ H → Rep K (Mt A ρ) H vx x →
  (∀ d v H', k d → Here K A ρ0 H0 n ρ σ H' → Keeps A ρ H ρ H' → Rep K (Mt A ρ) H' v d → Q v H') → r vx H Q
def CallD (K : PySem.W.Frag) (A : Amb) (r : List V → Hp → VK → Prop) (ρ : En) (xs : List D) (k : D → Prop) : Prop := ∀ n σ ρ0 H0 H vs (Q : VK), Here K A ρ0 H0 n ρ σ H → RepAll K (Mt A ρ) H vs xs →
  (∀ d v H', k d → Here K A ρ0 H0 n ρ σ H' → Keeps A ρ H ρ H' → Rep K (Mt A ρ) H' v d → Q v H') → r vs H Q
variable {a b c : Expr} {k : Nat → En → D → Prop} {pos : Pos}
theorem t2_can {r : R2} (h : WE X A a ρ n fun n1 ρ1 x => WE X A b ρ1 n1 fun n2 ρ2 y => OpD X.K A r ρ2 x y (k n2 ρ2)) : ∀ ρ0 H0 σ H, Here X.K A ρ0 H0 n ρ σ H → ∀ Q : VK, (∀ n' ρ' d v H', k n' ρ' d → Here X.K A ρ0 H0 n' ρ' σ H' → Keeps A ρ H ρ' H' → Rep X.K (Mt A ρ') H' v d → Q v H') →
    tOp r (canE X a) (canE X b) σ H Q := by
  intro ρ0 H0 σ H hh Q q
  refine h ρ0 H0 σ H hh _ fun n1 ρ1 x vx H1 h1 hh1 k1 r1 => ?_
  refine h1 ρ0 H0 σ H1 hh1 _ fun n2 ρ2 y vy H2 h2 hh2 k2 r2 => ?_
  exact h2 n2 σ ρ0 H0 H2 vx vy Q hh2 (r1.up hh1.j k2) r2 fun d v H' kk hh' k3 r3 => q n2 ρ2 d v H' kk hh' ((k1.trans k2).trans k3) r3
theorem we_op {op : Operator} {r : R2} (ho : OpR X (binaryOp op) r) (h : WE X A a ρ n fun n1 ρ1 x => WE X A b ρ1 n1 fun n2 ρ2 y => OpD X.K A r ρ2 x y (k n2 ρ2)) : WE X A (.BinOp a op b pos) ρ n k :=
  fun ρ0 H0 σ H hh Q q => canE.of (pe_op ho pcan pcan) (t2_can h ρ0 H0 σ H hh Q q)
theorem we_cmp {op : CmpOp} {r : R2} (ho : OpR X (compareOp op) r) (h : WE X A a ρ n fun n1 ρ1 x => WE X A b ρ1 n1 fun n2 ρ2 y => OpD X.K A r ρ2 x y (k n2 ρ2)) (hm : behindInMarks op b = false := by first | exact nomark _ | rfl) : WE X A (.Compare a [op] [b] pos) ρ n k :=
  fun ρ0 H0 σ H hh Q q => canE.of (pe_cmpR ho pcan pcan hm) (t2_can h ρ0 H0 σ H hh Q q)
theorem we_un {op : UnaryOp} {r : V → Hp → VK → Prop} (ho : UnR X (unaryOp op) r) (h : WE X A a ρ n fun n1 ρ1 x => UnD X.K A r ρ1 x (k n1 ρ1)) : WE X A (.UnaryOp op a pos) ρ n k := by
  intro ρ0 H0 σ H hh Q q
  refine canE.of (pe_un ho pcan) ?_
  refine h ρ0 H0 σ H hh _ fun n1 ρ1 x vx H1 h1 hh1 k1 r1 => ?_
  exact h1 n1 σ ρ0 H0 H1 vx Q hh1 r1 fun d v H' kk hh' k3 r3 => q n1 ρ1 d v H' kk hh' (k1.trans k3) r3
theorem we_ix {r : R2} (hr : IxR X r) (h : WE X A a ρ n fun n1 ρ1 x => WE X A b ρ1 n1 fun n2 ρ2 y => OpD X.K A r ρ2 x y (k n2 ρ2)) (hs : PlainIx b := by exact fun _ _ => rfl) : WE X A (.Subscript a b pos) ρ n k :=
  fun ρ0 H0 σ H hh Q q => canE.of (pe_ix hr pcan pcan hs) (t2_can h ρ0 H0 σ H hh Q q)
/-- two ints -/
theorem od_I0 {g : Int → Int → V} {d : Int → Int → D} {i j : Int} {k : D → Prop} (hg : ∀ (K : PySem.W.Frag) M H, Rep K M H (g i j) (d i j)) (h : k (d i j)) {K : PySem.W.Frag} : OpD K A (rI0 g) ρ (.int i) (.int j) k := by
  intro n σ ρ0 H0 H vx vy Q hh r1 r2 q
  cases r1; cases r2
  exact ⟨i, j, rfl, rfl, q _ _ H h hh .refl (hg _ _ _)⟩
theorem od_I {C : Int → Int → Prop} {g : Int → Int → V} {d : Int → Int → D} {i j : Int} {k : D → Prop} (hg : ∀ (K : PySem.W.Frag) M H, Rep K M H (g i j) (d i j)) (hc : C i j) (h : k (d i j)) {K : PySem.W.Frag} : OpD K A (rI C g) ρ (.int i) (.int j) k := by
  intro n σ ρ0 H0 H vx vy Q hh r1 r2 q
  cases r1; cases r2
  exact ⟨i, j, rfl, rfl, hc, q _ _ H h hh .refl (hg _ _ _)⟩
end
end RD

/-! RD2: rules: arguments, displays, tests, statements, loops. -/
namespace RD
open PySem PySem.Spec PyProof.Rows L2

/-! ### slots -/
theorem owns_set_dat : ∀ {ρ : En} {i : Nat} {s : Option S}, addrs s = [] → (owns (ρ.set i s)).Sublist (owns ρ)
  | [], _, _, _ => by simp [owns]
  | x :: ρ, 0, s, h => by
    show (addrs s ++ owns ρ).Sublist (addrs x ++ owns ρ)
    rw [h]
    exact List.sublist_append_right _ _
  | x :: ρ, i + 1, s, h => by
    show (addrs x ++ owns (ρ.set i s)).Sublist (addrs x ++ owns ρ)
    exact List.Sublist.append (List.Sublist.refl _) (owns_set_dat h)
theorem slotR_anti {K : PySem.W.Frag} {M M' : Addr → Prop} {H : Hp} (h : ∀ a, M' a → M a) : ∀ {s : Option S} {v : Option V}, SlotR K M H s v → SlotR K M' H s v := fun {s v} r => by
  have h' : ∀ a o, ¬ M a → H a = some o → H a = some o ∧ ¬ M' a := fun a o m e => ⟨e, fun z => m (h a z)⟩
  cases s with
  | none => cases v <;> trivial
  | some s =>
    cases v with
    | none => cases s <;> exact r
    | some v =>
      cases s with
      | dat d => exact Rep.mono h' d r
      | own p ds =>
        obtain ⟨e, vs, e1, e2⟩ := r
        exact ⟨e, vs, e1, RepAll.mono h' ds e2⟩
      | ownK p ds =>
        obtain ⟨e, vs, e1, e2⟩ := r
        exact ⟨e, vs, e1, RepKV.mono h' ds e2⟩
theorem paired_set {α β : Type} {F : α → β → Prop} {a : α} {b : β} (r : F a b) : ∀ {l : List α} {m : List β} (i : Nat), Paired F l m → Paired F (l.set i a) (m.set i b)
  | _, _, _, .nil => .nil
  | _, _, 0, .cons _ t => .cons r t
  | _, _, i + 1, .cons q t => .cons q (paired_set r i t)
theorem mt_sub {A : Amb} {ρ ρ' : En} (h : (owns ρ').Sublist (owns ρ)) : ∀ a, Mt A ρ' a → Mt A ρ a := fun a m => m.elim (fun z => .inl (h.subset z)) .inr
theorem Keeps.sub {A : Amb} {ρ ρ' : En} {H : Hp} (h : (owns ρ').Sublist (owns ρ)) : Keeps A ρ H ρ' H := fun a o m _ e => ⟨e, fun z => m (h.subset z)⟩
section
variable {K : PySem.W.Frag} {A : Amb} {ρ0 ρ : En} {H0 H : Hp} {n : Nat} {σ : L2.St} {v : V} {d : D}
/-- a name is given a datum -/
theorem Here.set (h : Here K A ρ0 H0 n ρ σ H) (i : Nat) (r : Rep K (Mt A ρ) H v d) : Here K A ρ0 H0 n (ρ.set i (some (.dat d))) (σ.set i (some v)) H := by
  have hs : (owns (ρ.set i (some (.dat d)))).Sublist (owns ρ) := owns_set_dat rfl
  have hm := mt_sub (A := A) hs
  refine ⟨h.kp.trans (.sub hs), h.j, ⟨paired_set (F := SlotR K (Mt A (ρ.set i (some (.dat d)))) H) ?_ i (paired_mono (fun _ _ z => slotR_anti hm z) h.sat.sl), ?_⟩⟩
  · exact Rep.mono (fun a o m e => ⟨e, fun z => m (hm a z)⟩) d r
  · exact h.sat.nd.sublist (List.Sublist.append hs (List.Sublist.refl _))
theorem owns_set_own : ∀ {ρ : En} {i : Nat} {s : Option S} {p : Addr}, addrs s = [p] → i < ρ.length → ∃ l1 l2, owns (ρ.set i s) = l1 ++ p :: l2 ∧ (l1 ++ l2).Sublist (owns ρ)
  | [], _, _, _, _, hi => absurd hi (Nat.not_lt_zero _)
  | x :: ρ, 0, s, p, h, _ => ⟨[], owns ρ, by show addrs s ++ owns ρ = _; rw [h]; rfl, by show (owns ρ).Sublist (addrs x ++ owns ρ); exact List.sublist_append_right _ _⟩
  | x :: ρ, i + 1, s, p, h, hi => by
    obtain ⟨l1, l2, e, hs⟩ := owns_set_own (ρ := ρ) (i := i) h (Nat.lt_of_succ_lt_succ hi)
    refine ⟨addrs x ++ l1, l2, ?_, ?_⟩
    · show addrs x ++ owns (ρ.set i s) = _
      rw [e, List.append_assoc]
    · show (addrs x ++ l1 ++ l2).Sublist (addrs x ++ owns ρ)
      rw [List.append_assoc]
      exact List.Sublist.append (List.Sublist.refl _) hs
theorem paired_len {α β : Type} {F : α → β → Prop} : ∀ {l : List α} {m : List β}, Paired F l m → l.length = m.length
  | _, _, .nil => rfl
  | _, _, .cons _ t => congrArg Nat.succ (paired_len t)
/-- a slot is given a list (a dict) of its own at p -/
theorem Here.setAt (h : Here K A ρ0 H0 n ρ σ H) (i : Nat) {p : Addr} {s : S} (ha : addrs (some s) = [p]) (hi : i < ρ.length) (hp : ¬ Mt A ρ p) (hf : ∀ o, p ∉ owns ρ0 → ¬ A.isPen p → H0 p ≠ some o) (r : SlotR K (fun a => Mt A ρ a ∨ a = p) H (some s) (some (.ref p)))
    (hu : Paired (SlotR K (fun a => Mt A ρ a ∨ a = p) H) ρ σ) : Here K A ρ0 H0 n (ρ.set i (some s)) (σ.set i (some (.ref p))) H := by
  obtain ⟨l1, l2, e, hs⟩ := owns_set_own (s := some s) ha hi
  have mem : ∀ a, a ∈ owns (ρ.set i (some s)) → a ∈ owns ρ ∨ a = p := fun a m => by
    rw [e] at m
    rcases List.mem_append.mp m with z | z
    · exact .inl (hs.subset (List.mem_append_left _ z))
    · rcases List.mem_cons.mp z with z | z
      · exact .inr z
      · exact .inl (hs.subset (List.mem_append_right _ z))
  have hm : ∀ a, Mt A (ρ.set i (some s)) a → Mt A ρ a ∨ a = p := fun a m => by
    rcases m with m | m
    · rcases mem a m with z | z
      · exact .inl (.inl z)
      · exact .inr z
    · exact .inl (.inr m)
  refine ⟨fun a o h1 h2 e1 => ?_, h.j, ⟨paired_set (F := SlotR K (Mt A (ρ.set i (some s))) H) (slotR_anti hm r) i (paired_mono (fun _ _ z => slotR_anti hm z) hu), ?_⟩⟩
  · obtain ⟨e2, h3⟩ := h.kp a o h1 h2 e1
    refine ⟨e2, fun z => ?_⟩
    rcases mem a z with z | z
    · exact h3 z
    · subst z; exact hf o h1 h2 e1
  · rw [e]
    have nd := h.sat.nd
    have hpO : p ∉ owns ρ := fun z => hp (.inl z)
    have hpW : p ∉ A.W := fun z => hp (.inr z)
    have nd2 : ((l1 ++ l2) ++ A.W).Nodup := nd.sublist (List.Sublist.append hs (List.Sublist.refl _))
    have hp12 : p ∉ l1 ++ l2 := fun z => hpO (hs.subset z)
    rw [List.nodup_append] at nd2 ⊢
    obtain ⟨n1, n2, n3⟩ := nd2
    refine ⟨?_, n2, ?_⟩
    · rw [List.nodup_append] at n1 ⊢
      obtain ⟨m1, m2, m3⟩ := n1
      refine ⟨m1, List.nodup_cons.mpr ⟨fun z => hp12 (List.mem_append_right _ z), m2⟩, fun a ha b hb z => ?_⟩
      rcases List.mem_cons.mp hb with q | q
      · exact hp12 (List.mem_append_left _ (by rw [← q, ← z]; exact ha))
      · exact m3 a ha b q z
    · intro a ha b hb z
      rcases List.mem_append.mp ha with q | q
      · exact n3 a (List.mem_append_left _ q) b hb z
      · rcases List.mem_cons.mp q with q | q
        · exact hpW (by rw [← q, z]; exact hb)
        · exact n3 a (List.mem_append_right _ q) b hb z
end

/-! ### arguments -/
section
variable {X : Cx} {A : Amb} {ρ : En} {n : Nat} {e a b c : Expr} {es : List Expr} {k : Nat → En → D → Prop} {kl : Nat → En → List D → Prop} {kb : Nat → En → Bool → Prop} {pos : Pos}
theorem wa_nil (h : kl n ρ []) : WA X A [] ρ n kl := fun ρ0 H0 σ H hh Q q => canA.of pa_nil (q n ρ [] [] H h hh .refl .nil)
theorem wa_cons (h : WE X A e ρ n fun n1 ρ1 d => WA X A es ρ1 n1 fun n2 ρ2 ds => kl n2 ρ2 (d :: ds)) (hs : starEach (e :: es) X.env = (false, eval e X.env) :: starEach es X.env := by rfl) : WA X A (e :: es) ρ n kl := by
  intro ρ0 H0 σ H hh Q q
  refine canA.of (pa_cons pcan acan hs) ?_
  refine h ρ0 H0 σ H hh _ fun n1 ρ1 d v H1 h1 hh1 k1 r1 => ?_
  refine h1 ρ0 H0 σ H1 hh1 _ fun n2 ρ2 ds vs H2 h2 hh2 k2 r2 => ?_
  exact q n2 ρ2 _ _ H2 h2 hh2 (k1.trans k2) (.cons (r1.up hh1.j k2) r2)
theorem wk_nil (h : kl n ρ []) : WK X A [] ρ n kl := fun ρ0 H0 σ H hh Q q => canK.of pk_nil (q n ρ [] [] H h hh .refl .nil)
theorem wk_cons {nm : Option Str} {kpos : Pos} {kws : List Keyword} (h : WE X A e ρ n fun n1 ρ1 d => WK X A kws ρ1 n1 fun n2 ρ2 ds => kl n2 ρ2 (d :: ds)) : WK X A (⟨nm, e, kpos⟩ :: kws) ρ n kl := by
  intro ρ0 H0 σ H hh Q q
  refine canK.of (pk_cons pcan kcan) ?_
  refine h ρ0 H0 σ H hh _ fun n1 ρ1 d v H1 h1 hh1 k1 r1 => ?_
  refine h1 ρ0 H0 σ H1 hh1 _ fun n2 ρ2 ds vs H2 h2 hh2 k2 r2 => ?_
  exact q n2 ρ2 _ _ H2 h2 hh2 (k1.trans k2) (.cons (r1.up hh1.j k2) r2)
theorem sz_le {m : Nat} (h : m ≤ 100000) : m ≤ sizeLine := Nat.le_trans h (by decide)
/-- (a, b, ..) -/
theorem we_tup {x1} (h : WA X A es ρ n fun n ρ ds => ds.length ≤ 100000 ∧ k n ρ (.tup ds)) : WE X A (.Tuple es x1 pos) ρ n k := by
  intro ρ0 H0 σ H hh Q q
  refine canE.of (pe_tup acan) ?_
  refine h ρ0 H0 σ H hh _ fun n1 ρ1 ds vs H1 h1 hh1 k1 r1 => ⟨?_, fun p hp => ?_⟩
  · rw [r1.length]; exact sz_le h1.1
  · exact q n1 ρ1 _ _ _ h1.2 (hh1.alloc hp) (k1.trans (.alloc hp)) (.tup (.inl ⟨hh1.new hp, .inl upd_same⟩) (r1.alloc hp))
/-- a list just made -/
theorem slotR_new {K : PySem.W.Frag} {M : Addr → Prop} {H : Hp} {p : Addr} {o : HO} (hp : H p = none) : ∀ {s : Option S} {v : Option V}, SlotR K M H s v → SlotR K (fun a => M a ∨ a = p) (upd H p o) s v := fun {s v} r => by
  have h' : ∀ a u, ¬ M a → H a = some u → upd H p o a = some u ∧ ¬ (M a ∨ a = p) := fun a u m e => ⟨by rw [upd_ne (ne_of_none e hp)]; exact e, fun z => z.elim m fun z => ne_of_none e hp z⟩
  cases s with
  | none => cases v <;> trivial
  | some s =>
    cases v with
    | none => cases s <;> exact r
    | some v =>
      cases s with
      | dat d => exact Rep.mono h' d r
      | own q ds =>
        obtain ⟨e, vs, e1, e2⟩ := r
        exact ⟨e, vs, by rw [upd_ne (ne_of_none e1 hp)]; exact e1, RepAll.mono h' ds e2⟩
      | ownK q ds =>
        obtain ⟨e, vs, e1, e2⟩ := r
        exact ⟨e, vs, by rw [upd_ne (ne_of_none e1 hp)]; exact e1, RepKV.mono h' ds e2⟩
theorem repAll_new {K : PySem.W.Frag} {M : Addr → Prop} {H : Hp} {p : Addr} {o : HO} {vs : List V} {ds : List D} (hp : H p = none) (r : RepAll K M H vs ds) : RepAll K (fun a => M a ∨ a = p) (upd H p o) vs ds :=
  RepAll.mono (fun a u m e => ⟨by rw [upd_ne (ne_of_none e hp)]; exact e, fun z => z.elim m fun z => ne_of_none e hp z⟩) ds r
theorem Here.own1 {K : PySem.W.Frag} {ρ0 : En} {H0 H : Hp} {σ : L2.St} {p : Addr} {vs : List V} {ds : List D} (h : Here K A ρ0 H0 n ρ σ H) (hp : H p = none) (r : RepAll K (Mt A ρ) H vs ds) : Own1 K A ρ0 H0 ρ σ (upd H p (.lst vs)) p vs ds :=
  ⟨upd_same, h.new hp, fun o h1 h2 e => (by
    have := (h.kp p o h1 h2 e).1
    rw [hp] at this; cases this), paired_mono (fun _ _ z => slotR_new hp z) h.sat.sl, repAll_new hp r⟩
/-- [a, b, ..] -/
theorem wf_lst (h : WA X A es ρ n fun n ρ ds => ds.length ≤ 100000 ∧ kl n ρ ds) : WF X A (.List es pos) ρ n kl := by
  intro ρ0 H0 σ H hh Q q
  refine canE.of (pe_lst acan) ?_
  refine h ρ0 H0 σ H hh _ fun n1 ρ1 ds vs H1 h1 hh1 k1 r1 => ⟨?_, fun p hp => ?_⟩
  · rw [r1.length]; exact sz_le h1.1
  · exact q n1 ρ1 _ p vs _ h1.2 (hh1.alloc hp) (k1.trans (.alloc hp)) (hh1.own1 hp r1)
theorem we_lst (h : WA X A es ρ n fun n ρ ds => ds.length ≤ 100000 ∧ k n ρ (.lst ds)) : WE X A (.List es pos) ρ n k := (wf_lst (kl := fun n ρ ds => k n ρ (.lst ds)) h).we

/-! ### tests -/
/-- a value that is a truth (a name, a call, ..) -/
theorem wb_val (h : WE X A e ρ n fun n ρ d => ∃ c, d = .bl c ∧ kb n ρ c) (he : ∀ whole, isTrue e X.env whole = (do let v ← whole; standAt e.pos; holding [v] (truthy v)) := by intro _; rfl) : WB X A e ρ n kb := by
  intro ρ0 H0 σ H hh Q q
  refine canT.of (pt_val pcan he) ?_
  refine h ρ0 H0 σ H hh _ fun n1 ρ1 d v H1 h1 hh1 k1 r1 => ?_
  obtain ⟨c, rfl, h1⟩ := h1
  cases r1
  exact ⟨c, rfl, q n1 ρ1 c H1 h1 hh1 k1⟩
theorem wb_cmp {op : CmpOp} {r : R2} (ho : OpR X (compareOp op) r) (h : WE X A a ρ n fun n1 ρ1 x => WE X A b ρ1 n1 fun n2 ρ2 y => OpD X.K A r ρ2 x y fun d => ∃ c, d = .bl c ∧ kb n2 ρ2 c) (hm : behindInMarks op b = false := by first | exact nomark _ | rfl) : WB X A (.Compare a [op] [b] pos) ρ n kb := by
  intro ρ0 H0 σ H hh Q q
  refine canT.of (pt_cmpR ho pcan pcan hm) ?_
  refine t2_can (k := fun n ρ d => ∃ c, d = .bl c ∧ kb n ρ c) h ρ0 H0 σ H hh _ fun n1 ρ1 d v H1 h1 hh1 k1 r1 => ?_
  obtain ⟨c, rfl, h1⟩ := h1
  cases r1
  exact ⟨c, rfl, q n1 ρ1 c H1 h1 hh1 k1⟩
theorem ww_wb (h : WW X A e ρ n kb) : WB X A e ρ n kb := fun ρ0 H0 σ H hh Q q => canT.of (wcan (X := X) (e := e)).pt (h ρ0 H0 σ H hh Q q)
theorem ww_and1 (h : WB X A a ρ n kb) : WW X A (.BoolOp .And [a] pos) ρ n kb := fun ρ0 H0 σ H hh Q q => canW.of (pw_and1 tcan) (h ρ0 H0 σ H hh Q q)
theorem ww_or1 (h : WB X A a ρ n kb) : WW X A (.BoolOp .Or [a] pos) ρ n kb := fun ρ0 H0 σ H hh Q q => canW.of (pw_or1 tcan) (h ρ0 H0 σ H hh Q q)
theorem ww_and (h : WB X A a ρ n fun n ρ x => (x = true → WW X A (.BoolOp .And (b :: es) pos) ρ n kb) ∧ (x = false → kb n ρ false)) : WW X A (.BoolOp .And (a :: b :: es) pos) ρ n kb := by
  intro ρ0 H0 σ H hh Q q
  refine canW.of (pw_and tcan wcan) ?_
  refine h ρ0 H0 σ H hh _ fun n1 ρ1 c H1 h1 hh1 k1 => ?_
  cases c with
  | true => rw [if_pos rfl]; exact h1.1 rfl ρ0 H0 σ H1 hh1 Q fun n2 ρ2 x H2 h2 hh2 k2 => q n2 ρ2 x H2 h2 hh2 (k1.trans k2)
  | false => rw [if_neg Bool.false_ne_true]; exact q n1 ρ1 false H1 (h1.2 rfl) hh1 k1
theorem ww_or (h : WB X A a ρ n fun n ρ x => (x = false → WW X A (.BoolOp .Or (b :: es) pos) ρ n kb) ∧ (x = true → kb n ρ true)) : WW X A (.BoolOp .Or (a :: b :: es) pos) ρ n kb := by
  intro ρ0 H0 σ H hh Q q
  refine canW.of (pw_or tcan wcan) ?_
  refine h ρ0 H0 σ H hh _ fun n1 ρ1 c H1 h1 hh1 k1 => ?_
  cases c with
  | false => rw [if_neg Bool.false_ne_true]; exact h1.1 rfl ρ0 H0 σ H1 hh1 Q fun n2 ρ2 x H2 h2 hh2 k2 => q n2 ρ2 x H2 h2 hh2 (k1.trans k2)
  | true => rw [if_pos rfl]; exact q n1 ρ1 true H1 (h1.2 rfl) hh1 k1
theorem wb_not (h : WB X A a ρ n fun n ρ x => kb n ρ (!x)) : WB X A (.UnaryOp .Not a pos) ρ n kb := by
  intro ρ0 H0 σ H hh Q q
  refine canT.of (pt_not tcan) ?_
  exact h ρ0 H0 σ H hh _ fun n1 ρ1 c H1 h1 hh1 k1 => q n1 ρ1 (!c) H1 h1 hh1 k1
/-- what is true of a value -/
def tru : D → Option Bool
  | .non => some false
  | .bl b => some b
  | .int i => some (i != 0)
  | .lst xs => some (!xs.isEmpty)
  | .tup xs => some (!xs.isEmpty)
  | .dct xs => some (!xs.isEmpty)
  | _ => none
theorem wb_truth (h : WE X A e ρ n fun n ρ d => ∃ c, tru d = some c ∧ kb n ρ c) (he : ∀ whole, isTrue e X.env whole = (do let v ← whole; standAt e.pos; holding [v] (truthy v)) := by intro _; rfl) : WB X A e ρ n kb := by
  intro ρ0 H0 σ H hh Q q
  refine canT.of (pt_truth pcan he) ?_
  refine h ρ0 H0 σ H hh _ fun n1 ρ1 d v H1 h1 hh1 k1 r1 => ?_
  obtain ⟨c, e, h1⟩ := h1
  refine ⟨c, ?_, q n1 ρ1 c H1 h1 hh1 k1⟩
  have emp : ∀ {vs : List V} {ds : List D}, RepAll X.K (Mt A ρ1) H1 vs ds → vs.isEmpty = ds.isEmpty := fun r => by cases r <;> rfl
  have empK : ∀ {vs : List (Key × V)} {ds : List (Key × D)}, RepKV X.K (Mt A ρ1) H1 vs ds → vs.isEmpty = ds.isEmpty := fun r => by cases r <;> rfl
  cases d with
  | non => cases r1; cases e; exact rfl
  | bl b => cases r1; cases e; exact rfl
  | int i => cases r1; cases e; exact rfl
  | str x => cases e
  | lst xs =>
    cases r1 with
    | lst _ hq ha =>
      cases e
      rw [← emp ha]
      exact .inl ⟨_, .of hq, rfl⟩
  | tup xs =>
    cases r1 with
    | tup hq ha =>
      cases e
      rw [← emp ha]
      rcases hq with ⟨_, hq⟩ | hq
      · exact .inr (.inl ⟨_, .inl hq, rfl⟩)
      · exact .inr (.inl ⟨_, .inr hq, rfl⟩)
  | dct xs =>
    cases r1 with
    | dct _ hq ha =>
      cases e
      rw [← empK ha]
      exact .inr (.inr ⟨_, hq, rfl⟩)
  | obj C fs => cases e
  | raw v => cases e

/-! ### and, or, not, if as values -/
theorem we_one {op} (h : WE X A a ρ n k) : WE X A (.BoolOp op [a] pos) ρ n k := fun ρ0 H0 σ H hh Q q => canE.of (pe_one pcan) (h ρ0 H0 σ H hh Q q)
theorem we_and (h : WE X A a ρ n fun n ρ x => ∃ c, x = .bl c ∧ (c = true → WE X A (.BoolOp .And (b :: es) pos) ρ n k) ∧ (c = false → k n ρ (.bl false))) : WE X A (.BoolOp .And (a :: b :: es) pos) ρ n k := by
  intro ρ0 H0 σ H hh Q q
  refine canE.of (pe_and pcan pcan) ?_
  refine h ρ0 H0 σ H hh _ fun n1 ρ1 d v H1 h1 hh1 k1 r1 => ?_
  obtain ⟨c, rfl, h1⟩ := h1
  cases r1
  refine ⟨c, rfl, ?_⟩
  cases c with
  | true => rw [if_pos rfl]; exact h1.1 rfl ρ0 H0 σ H1 hh1 Q fun n2 ρ2 x v H2 h2 hh2 k2 => q n2 ρ2 x v H2 h2 hh2 (k1.trans k2)
  | false => rw [if_neg Bool.false_ne_true]; exact q n1 ρ1 _ _ H1 (h1.2 rfl) hh1 k1 (.bl false)
theorem we_or (h : WE X A a ρ n fun n ρ x => ∃ c, x = .bl c ∧ (c = false → WE X A (.BoolOp .Or (b :: es) pos) ρ n k) ∧ (c = true → k n ρ (.bl true))) : WE X A (.BoolOp .Or (a :: b :: es) pos) ρ n k := by
  intro ρ0 H0 σ H hh Q q
  refine canE.of (pe_or pcan pcan) ?_
  refine h ρ0 H0 σ H hh _ fun n1 ρ1 d v H1 h1 hh1 k1 r1 => ?_
  obtain ⟨c, rfl, h1⟩ := h1
  cases r1
  refine ⟨c, rfl, ?_⟩
  cases c with
  | false => rw [if_neg Bool.false_ne_true]; exact h1.1 rfl ρ0 H0 σ H1 hh1 Q fun n2 ρ2 x v H2 h2 hh2 k2 => q n2 ρ2 x v H2 h2 hh2 (k1.trans k2)
  | true => rw [if_pos rfl]; exact q n1 ρ1 _ _ H1 (h1.2 rfl) hh1 k1 (.bl true)
theorem we_not (h : WE X A a ρ n fun n ρ x => ∃ c, x = .bl c ∧ k n ρ (.bl !c)) : WE X A (.UnaryOp .Not a pos) ρ n k := by
  intro ρ0 H0 σ H hh Q q
  refine canE.of (pe_not pcan) ?_
  refine h ρ0 H0 σ H hh _ fun n1 ρ1 d v H1 h1 hh1 k1 r1 => ?_
  obtain ⟨c, rfl, h1⟩ := h1
  cases r1
  exact ⟨c, rfl, q n1 ρ1 _ _ H1 h1 hh1 k1 (.bl !c)⟩
theorem we_if (h : WB X A c ρ n fun n ρ x => (x = true → WE X A a ρ n k) ∧ (x = false → WE X A b ρ n k)) : WE X A (.IfExp c a b pos) ρ n k := by
  intro ρ0 H0 σ H hh Q q
  refine canE.of (pe_ifExp tcan pcan pcan) ?_
  refine h ρ0 H0 σ H hh _ fun n1 ρ1 x H1 h1 hh1 k1 => ?_
  cases x with
  | true => rw [if_pos rfl]; exact h1.1 rfl ρ0 H0 σ H1 hh1 Q fun n2 ρ2 x v H2 h2 hh2 k2 => q n2 ρ2 x v H2 h2 hh2 (k1.trans k2)
  | false => rw [if_neg Bool.false_ne_true]; exact h1.2 rfl ρ0 H0 σ H1 hh1 Q fun n2 ρ2 x v H2 h2 hh2 k2 => q n2 ρ2 x v H2 h2 hh2 (k1.trans k2)
/-- a op b op' c -/
theorem we_chain {op op' : CmpOp} {r r' : R2} (ho : OpR X (compareOp op) r) (ho' : OpR X (compareOp op') r')
    (h : WE X A a ρ n fun n1 ρ1 x => WE X A b ρ1 n1 fun n2 ρ2 y => OpD X.K A r ρ2 x y fun d => ∃ z, d = .bl z ∧ (z = true → WE X A c ρ2 n2 fun n3 ρ3 w => OpD X.K A r' ρ3 y w (k n3 ρ3)) ∧ (z = false → k n2 ρ2 (.bl false)))
    (hm : lastMarks [op, op'] [b, c] = false := by rfl) : WE X A (.Compare a [op, op'] [b, c] pos) ρ n k := by
  intro ρ0 H0 σ H hh Q q
  refine canE.of (pe_chain ho ho' pcan pcan pcan hm) ?_
  refine h ρ0 H0 σ H hh _ fun n1 ρ1 x vx H1 h1 hh1 k1 r1 => ?_
  refine h1 ρ0 H0 σ H1 hh1 _ fun n2 ρ2 y vy H2 h2 hh2 k2 r2 => ?_
  refine h2 n2 σ ρ0 H0 H2 vx vy _ hh2 (r1.up hh1.j k2) r2 fun d v H3 kk hh3 k3 r3 => ?_
  obtain ⟨z, rfl, k4, k5⟩ := kk
  cases r3
  refine ⟨z, rfl, ?_⟩
  cases z with
  | true =>
    rw [if_pos rfl]
    refine k4 rfl ρ0 H0 σ H3 hh3 _ fun n4 ρ4 w vw H4 h4 hh4 k6 r4 => ?_
    exact h4 n4 σ ρ0 H0 H4 vy vw Q hh4 ((r2.up hh2.j k3).up hh3.j k6) r4 fun d v H' kk hh' k7 r7 => q n4 ρ4 d v H' kk hh' ((((k1.trans k2).trans k3).trans k6).trans k7) r7
  | false => rw [if_neg Bool.false_ne_true]; exact q n2 ρ2 _ _ H3 (k5 rfl) hh3 ((k1.trans k2).trans k3) (.bl false)
end

/-! ### statements -/
section
variable {X : Cx} {A : Amb} {ρ : En} {n : Nat} {e a b c : Expr} {es : List Expr} {st : Stmt} {sts body orelse : List Stmt} {E : En4} {pos : Pos}
theorem ws_nil (h : E.nx n ρ) : WS X A [] ρ n E := fun ρ0 H0 σ H hh D f => canSs.of pss_nil (f.nx n ρ σ H h hh)
theorem ws_cons (h : WS1 X A st ρ n { E with nx := fun n ρ => WS X A sts ρ n E }) : WS X A (st :: sts) ρ n E := by
  intro ρ0 H0 σ H hh D f
  refine canSs.of (pss_cons scan sscan) ?_
  exact h ρ0 H0 σ H hh _ ⟨fun n ρ σ H h1 hh1 => h1 ρ0 H0 σ H hh1 D f, f.rt, f.bk, f.ct⟩
theorem ws_one (h : WS1 X A st ρ n E) : WS X A [st] ρ n E := fun ρ0 H0 σ H hh D f => canSs.of (pss_one scan) (h ρ0 H0 σ H hh D f)
theorem ws_pass (h : E.nx n ρ) : WS1 X A (.Pass pos) ρ n E := fun ρ0 H0 σ H hh D f => canS.of ps_pass (f.nx n ρ σ H h hh)
theorem ws_break (h : E.bk n ρ) : WS1 X A (.Break pos) ρ n E := fun ρ0 H0 σ H hh D f => canS.of ps_break (f.bk n ρ σ H h hh)
theorem ws_cont (h : E.ct n ρ) : WS1 X A (.Continue pos) ρ n E := fun ρ0 H0 σ H hh D f => canS.of ps_continue (f.ct n ρ σ H h hh)
theorem ws_ret (h : WE X A e ρ n E.rt) : WS1 X A (.Return (some e) pos) ρ n E := by
  intro ρ0 H0 σ H hh D f
  refine canS.of (ps_ret pcan) ?_
  exact h ρ0 H0 σ H hh _ fun n1 ρ1 d v H1 h1 hh1 k1 r1 => f.rt n1 ρ1 σ H1 d v h1 hh1 r1
theorem ws_retN (h : E.rt n ρ .non) : WS1 X A (.Return none pos) ρ n E := fun ρ0 H0 σ H hh D f => canS.of ps_retN (f.rt n ρ σ H .non .non h hh .non)
theorem ws_expr (h : WE X A e ρ n fun n ρ _ => E.nx n ρ) (hs : swapsWith e none pos.line X.env = pure false := by rfl) : WS1 X A (.Expr e pos) ρ n E := by
  intro ρ0 H0 σ H hh D f
  refine canS.of (ps_expr pcan hs) ?_
  exact h ρ0 H0 σ H hh _ fun n1 ρ1 d v H1 h1 hh1 k1 r1 => f.nx n1 ρ1 σ H1 h1 hh1
/-- x = e -/
theorem ws_set (i : Nat) {x : Str} {pos' : Pos} (hN : X.N.Nodup) (h : WE X A e ρ n fun n ρ d => E.nx n (ρ.set i (some (.dat d)))) (hi : X.N[i]? = some x := by rfl) (hx : Loc X.env.scope x := by first | exact Or.inl rfl | exact Or.inr rfl)
    (hs : swapsWith e (some (.Name x pos')) pos.line X.env = pure false := by rfl) (hf : X.fn x = true ∨ X.env.scope.names.lookup x = some .local := by first | exact .inl rfl | exact .inr rfl) : WS1 X A (.Assign [.Name x pos'] e pos) ρ n E := by
  intro ρ0 H0 σ H hh D f
  refine canS.of (ps_set hN hi hx pcan hs hf) ?_
  exact h ρ0 H0 σ H hh _ fun n1 ρ1 d v H1 h1 hh1 k1 r1 => f.nx _ _ _ _ h1 (hh1.set i r1)
/-- x = a list of its own -/
theorem ws_setF (i : Nat) {x : Str} {pos' : Pos} (hN : X.N.Nodup) (h : WF X A e ρ n fun n ρ ds => i < ρ.length ∧ ∀ p, E.nx n (ρ.set i (some (.own p ds)))) (hi : X.N[i]? = some x := by rfl) (hx : Loc X.env.scope x := by first | exact Or.inl rfl | exact Or.inr rfl)
    (hs : swapsWith e (some (.Name x pos')) pos.line X.env = pure false := by rfl) (hf : X.fn x = true ∨ X.env.scope.names.lookup x = some .local := by first | exact .inl rfl | exact .inr rfl) : WS1 X A (.Assign [.Name x pos'] e pos) ρ n E := by
  intro ρ0 H0 σ H hh D f
  refine canS.of (ps_set hN hi hx pcan hs hf) ?_
  refine h ρ0 H0 σ H hh _ fun n1 ρ1 ds p vs H1 h1 hh1 k1 o => f.nx _ _ _ _ (h1.2 p) ?_
  exact hh1.setAt i rfl h1.1 o.nm o.nw ⟨rfl, vs, o.ob, o.rp⟩ o.sl
end
end RD

/-! RD3: if, for, targets, lists of one's own changed, list comprehensions. -/
namespace RD
open PySem PySem.Spec PyProof.Rows L2
section
variable {X : Cx} {A : Amb} {ρ : En} {n : Nat} {e a b c tg iter : Expr} {es ts : List Expr} {st : Stmt} {sts body orelse : List Stmt} {E : En4} {pos : Pos} {k : Nat → En → D → Prop} {kl : Nat → En → List D → Prop} {kb : Nat → En → Bool → Prop}
theorem ws_if (h : WB X A c ρ n fun n ρ x => (x = true → WS X A body ρ n E) ∧ (x = false → WS X A orelse ρ n E)) : WS1 X A (.If c body orelse pos) ρ n E := by
  intro ρ0 H0 σ H hh D f
  refine canS.of (ps_if tcan sscan sscan) ?_
  refine h ρ0 H0 σ H hh _ fun n1 ρ1 x H1 h1 hh1 k1 => ?_
  cases x with
  | true => rw [if_pos rfl]; exact h1.1 rfl ρ0 H0 σ H1 hh1 D f
  | false => rw [if_neg Bool.false_ne_true]; exact h1.2 rfl ρ0 H0 σ H1 hh1 D f

/-! ### targets: V the places that may be stored to -/
def WG' (X : Cx) (A : Amb) (tg : Expr) (V_ : Nat → Prop) (d : D) (ρ : En) (n : Nat) (k : Nat → En → Prop) : Prop :=
  ∀ ρ0 H0 σ H v, Here X.K A ρ0 H0 n ρ σ H → Rep X.K (Mt A ρ) H v d → ∀ Q : L2.St → Hp → Prop, (∀ n' ρ' σ' H', k n' ρ' → Here X.K A ρ0 H0 n' ρ' σ' H' → Keeps A ρ H ρ' H' → σ'.length = σ.length → (∀ j, ¬ V_ j → σ'[j]? = σ[j]?) → Q σ' H') → canG X tg v σ H Q
def WGs' (X : Cx) (A : Amb) (ts : List Expr) (V_ : Nat → Prop) (ds : List D) (ρ : En) (n : Nat) (k : Nat → En → Prop) : Prop :=
  ∀ ρ0 H0 σ H vs, Here X.K A ρ0 H0 n ρ σ H → RepAll X.K (Mt A ρ) H vs ds → ∀ Q : L2.St → Hp → Prop, (∀ n' ρ' σ' H', k n' ρ' → Here X.K A ρ0 H0 n' ρ' σ' H' → Keeps A ρ H ρ' H' → σ'.length = σ.length → (∀ j, ¬ V_ j → σ'[j]? = σ[j]?) → Q σ' H') → canGs X ts vs σ H Q
abbrev AnyV : Nat → Prop := fun _ => True
theorem wg_name (i : Nat) {x : Str} {V_ : Nat → Prop} {d : D} {k : Nat → En → Prop} (hN : X.N.Nodup) (h : k n (ρ.set i (some (.dat d)))) (hi : X.N[i]? = some x := by rfl) (hx : Loc X.env.scope x := by first | exact Or.inl rfl | exact Or.inr rfl)
    (hf : X.fn x = true ∨ X.env.scope.names.lookup x = some .local := by first | exact .inl rfl | exact .inr rfl) (hv : V_ i := by first | trivial | decide) : WG' X A (.Name x pos) V_ d ρ n k := by
  intro ρ0 H0 σ H v hh r Q q
  refine canG.of (pg_name hN hi hx hf) ?_
  refine q n _ _ H h (hh.set i r) (.sub (owns_set_dat rfl)) (by rw [List.length_set]) fun j hj => ?_
  rw [List.getElem?_set_ne]
  rintro rfl
  exact hj hv
theorem wgs_nil {V_ : Nat → Prop} {k : Nat → En → Prop} (h : k n ρ) : WGs' X A [] V_ [] ρ n k := by
  intro ρ0 H0 σ H vs hh r Q q
  cases r
  exact canGs.of pgs_nil ⟨rfl, q n ρ σ H h hh .refl rfl fun _ _ => rfl⟩
theorem wgs_cons {V_ : Nat → Prop} {d : D} {ds : List D} {k : Nat → En → Prop} (h : WG' X A e V_ d ρ n fun n ρ => WGs' X A es V_ ds ρ n k) (hs : (assignEach (e :: es) X.env).map (·.2) = assign e X.env :: (assignEach es X.env).map (·.2) := by rfl) : WGs' X A (e :: es) V_ (d :: ds) ρ n k := by
  intro ρ0 H0 σ H vs hh r Q q
  refine canGs.of (pgs_cons gcan gscan hs) ?_
  cases r with
  | cons r1 r2 =>
    refine ⟨_, _, rfl, h ρ0 H0 σ H _ hh r1 _ fun n1 ρ1 σ1 H1 h1 hh1 k1 l1 s1 => ?_⟩
    refine h1 ρ0 H0 σ1 H1 _ hh1 (r2.up hh.j k1) Q fun n2 ρ2 σ2 H2 h2 hh2 k2 l2 s2 => q n2 ρ2 σ2 H2 h2 hh2 (k1.trans k2) (l2.trans l1) fun j hj => (s2 j hj).trans (s1 j hj)
/-- (a, b, ..) = a tuple -/
theorem wg_tup {V_ : Nat → Prop} {ds : List D} {kk : Nat} {k : Nat → En → Prop} (hc : X.calm = true) (h : WGs' X A ts V_ ds ρ n k) (hn : (assignEach ts X.env).length = ds.length := by rfl) (hst : (assignEach ts X.env).findIdx? (·.1) = none := by rfl) : WG' X A (.Tuple ts kk pos) V_ (.tup ds) ρ n k := by
  intro ρ0 H0 σ H v hh r Q q
  refine canG.of (pg_tup hc gscan hn hst) ?_
  cases r with
  | tup hq ha =>
    refine ⟨_, _, rfl, ?_, ha.length, h ρ0 H0 σ H _ hh ha Q q⟩
    rcases hq with ⟨_, hq⟩ | hq
    · exact .inl hq
    · exact .inr hq

/-! ### for -/
theorem wi_range1 {p : Pos} (hm : X.mg "range" = none) (h : WA X A [a] ρ n fun n ρ ds => ∃ j : Int, ds = [.int j] ∧ -(2 ^ 62) ≤ j ∧ j < 2 ^ 62 ∧ kl n ρ ((List.range j.toNat).map fun i : Nat => .int ((i : Nat) : Int))) (hg : Gl X "range" := by rfl) (hs : starEach [a] X.env = [(false, eval a X.env)] := by rfl) : WI X A tg (.Call (.Name "range" p) [a] [] pos) ρ n kl := by
  intro ρ0 H0 σ H hh R q
  refine canI.of (pi_range1 hg hm acan hs) ?_
  refine h ρ0 H0 σ H hh _ fun n1 ρ1 ds vs H1 h1 hh1 k1 r1 => ?_
  obtain ⟨j, rfl, b1, b2, h1⟩ := h1
  cases r1 with
  | cons r1 r2 =>
    cases r1; cases r2
    refine ⟨j, rfl, b1, b2, q n1 ρ1 _ _ H1 h1 hh1 k1 ?_⟩
    intro M' H' _
    simp only [List.length_map, List.length_range]
    refine ⟨fun i hi => hi, Nat.le_refl _, fun i d x H'' hd y _ => ?_⟩
    obtain ⟨e1, e2⟩ := y
    subst e1
    refine ⟨.inl rfl, ?_⟩
    rw [e2]
    rw [List.getElem?_map] at hd
    cases z : (List.range j.toNat)[i]? with
    | none => rw [z] at hd; cases hd
    | some w =>
      rw [z] at hd
      have hi : i < j.toNat := by
        have := (List.getElem?_eq_some_iff.mp z).1
        simpa using this
      rw [List.getElem?_range hi] at z
      cases z
      cases hd
      rw [Int.zero_add]
      exact .int _
theorem wi_range2 {p : Pos} (hm : X.mg "range" = none) (h : WA X A [a, b] ρ n fun n ρ ds => ∃ i j : Int, ds = [.int i, .int j] ∧ (-(2 ^ 62) ≤ i ∧ i < 2 ^ 62 ∧ -(2 ^ 62) ≤ j ∧ j < 2 ^ 62) ∧ kl n ρ ((List.range (j - i).toNat).map fun m : Nat => .int (i + ((m : Nat) : Int)))) (hg : Gl X "range" := by rfl)
    (hs : starEach [a, b] X.env = [(false, eval a X.env), (false, eval b X.env)] := by rfl) (hs2 : starEach [b] X.env = [(false, eval b X.env)] := by rfl) : WI X A tg (.Call (.Name "range" p) [a, b] [] pos) ρ n kl := by
  intro ρ0 H0 σ H hh R q
  refine canI.of (pi_range2 hg hm acan hs hs2) ?_
  refine h ρ0 H0 σ H hh _ fun n1 ρ1 ds vs H1 h1 hh1 k1 r1 => ?_
  obtain ⟨i, j, rfl, bd, h1⟩ := h1
  cases r1 with
  | cons r1 r2 =>
    cases r1
    cases r2 with
    | cons r2 r3 =>
    cases r2; cases r3
    refine ⟨i, j, rfl, bd, q n1 ρ1 _ _ H1 h1 hh1 k1 ?_⟩
    intro M' H' _
    simp only [List.length_map, List.length_range]
    refine ⟨fun i hi => hi, Nat.le_refl _, fun m d x H'' hd y _ => ?_⟩
    obtain ⟨e1, e2⟩ := y
    subst e1
    refine ⟨.inl rfl, ?_⟩
    rw [e2]
    rw [List.getElem?_map] at hd
    cases z : (List.range (j - i).toNat)[m]? with
    | none => rw [z] at hd; cases hd
    | some w =>
      rw [z] at hd
      have hi : m < (j - i).toNat := by
        have := (List.getElem?_eq_some_iff.mp z).1
        simpa using this
      rw [List.getElem?_range hi] at z
      cases z
      cases hd
      exact .int _
theorem wi_lst (h : WE X A e ρ n fun n ρ d => ∃ ds, d = .lst ds ∧ kl n ρ ds) : WI X A tg e ρ n kl := by
  intro ρ0 H0 σ H hh R q
  refine canI.of (pi_list pcan) ?_
  refine h ρ0 H0 σ H hh _ fun n1 ρ1 d v H1 h1 hh1 k1 r1 => ?_
  obtain ⟨ds, rfl, h1⟩ := h1
  cases r1 with
  | lst m hq ha =>
    rename_i a xs
    have hL : ∀ (M' : Addr → Prop) (H' : Hp), (∀ a o, ¬ Mt A ρ1 a → H1 a = some o → H' a = some o ∧ ¬ M' a) → SqL X.K H' a xs := fun M' H' up => .of (up a _ m hq).1
    refine ⟨a, rfl, ⟨xs, hL _ H1 fun a o m e => ⟨e, m⟩⟩, q n1 ρ1 ds _ H1 h1 hh1 k1 ?_⟩
    intro M' H' up
    have hl := hL M' H' up
    have ln := ha.length
    refine ⟨fun i hi => ⟨xs, xs[i]'(by omega), hl, by simp [show i < xs.length by omega]⟩, ⟨xs, hl, by omega⟩, fun i d x H'' hd y _ => ?_⟩
    obtain ⟨e1, y⟩ := y
    subst e1
    obtain ⟨v, hv, rv⟩ := ha.get hd
    have e2 := y xs hl
    rw [hv] at e2
    cases e2
    exact ⟨.inl rfl, Rep.mono up d rv⟩
theorem wi_tup (h : WE X A e ρ n fun n ρ d => ∃ ds, d = .tup ds ∧ kl n ρ ds) : WI X A tg e ρ n kl := by
  intro ρ0 H0 σ H hh R q
  refine canI.of (pi_tup pcan) ?_
  refine h ρ0 H0 σ H hh _ fun n1 ρ1 d v H1 h1 hh1 k1 r1 => ?_
  obtain ⟨ds, rfl, h1⟩ := h1
  cases r1 with
  | tup hq ha =>
    rename_i a xs
    have hL : ∀ (M' : Addr → Prop) (H' : Hp), (∀ a o, ¬ Mt A ρ1 a → H1 a = some o → H' a = some o ∧ ¬ M' a) → SqT X.K H' a xs := fun M' H' up => by
      rcases hq with ⟨m, hq⟩ | hq
      · exact .inl (rd_mono up m hq).2
      · exact .inr hq
    refine ⟨a, rfl, ⟨xs, hL _ H1 fun a o m e => ⟨e, m⟩⟩, q n1 ρ1 ds _ H1 h1 hh1 k1 ?_⟩
    intro M' H' up
    have hl := hL M' H' up
    have ln := ha.length
    refine ⟨fun i hi => ⟨xs, xs[i]'(by omega), hl, by simp [show i < xs.length by omega]⟩, ⟨xs, hl, by omega⟩, fun i d x H'' hd y _ => ?_⟩
    obtain ⟨e1, y⟩ := y
    subst e1
    obtain ⟨v, hv, rv⟩ := ha.get hd
    have e2 := y xs hl
    rw [hv] at e2
    cases e2
    exact ⟨.inl rfl, Rep.mono up d rv⟩
theorem Here.rebase {K : PySem.W.Frag} {ρ0 ρ1 : En} {H0 H1 : Hp} {σ : L2.St} {H : Hp} (h : Here K A ρ0 H0 n ρ σ H) : Here K A ρ H n ρ σ H := ⟨.refl, h.j, h.sat⟩
theorem Here.back {K : PySem.W.Frag} {ρ0 ρ1 : En} {H0 H1 : Hp} {σ : L2.St} {H : Hp} (kp : Keeps A ρ0 H0 ρ1 H1) (h : Here K A ρ1 H1 n ρ σ H) : Here K A ρ0 H0 n ρ σ H := ⟨kp.trans h.kp, h.j, h.sat⟩
theorem ws_for (I : Nat → Nat → En → Prop) (hc : X.calm = true) (hp : PassesOwn (model X.prog X.w) X.A X.env X.xe)
    (h : WI X A tg iter ρ n fun n' ρ' ds => I 0 n' ρ' ∧ (∀ i d n ρ, ds[i]? = some d → I i n ρ → WG' X A tg AnyV d ρ n fun n ρ => WS X A body ρ n { E with nx := I (i + 1), ct := I (i + 1), bk := E.nx }) ∧ ∀ n ρ, I ds.length n ρ → E.nx n ρ)
    (hs : ∀ x, foldedSetIterable iter X.env x = pure x := by intro _; rfl) : WS1 X A (.For tg iter body [] pos) ρ n E := by
  intro ρ0 H0 σ H hh D f
  refine canS.of (ps_for hp hc icanL gcan sscan hs) ?_
  refine h ρ0 H0 σ H hh _ fun n1 ρ1 ds Jt H1 h1 hh1 k1 src => ?_
  obtain ⟨i0, turn, fin⟩ := h1
  refine ⟨fun i m σ H => m = ds.length - i ∧ i ≤ ds.length ∧ ∃ n ρ, I i n ρ ∧ Here X.K A ρ1 H1 n ρ σ H, ⟨ds.length, by simp, Nat.zero_le _, n1, ρ1, i0, hh1.rebase (ρ1 := ρ1) (H1 := H1)⟩, ?_⟩
  rintro i m σ2 H2 ⟨rfl, hi, n2, ρ2, i2, hh2⟩
  obtain ⟨go, stop, yld⟩ := src (Mt A ρ2) H2 (hh2.kp.up hh1.j)
  by_cases hlt : i < ds.length
  · refine .inr ⟨go i hlt, fun σ H => ∃ n ρ, I (i + 1) n ρ ∧ Here X.K A ρ1 H1 n ρ σ H, fun σ' H' ⟨n', ρ', z1, z2⟩ => ⟨ds.length - (i + 1), by omega, rfl, hlt, n', ρ', z1, z2⟩, fun x H3 y => ?_⟩
    have hd : ds[i]? = some ds[i] := List.getElem?_eq_getElem hlt
    obtain ⟨z, rx⟩ := yld i _ x H3 hd y (fun T hT => hh2.new hT)
    have hh3 : Here X.K A ρ1 H1 n2 ρ2 σ2 H3 := by
      rcases z with rfl | ⟨T, o, hT, rfl⟩
      · exact hh2
      · exact hh2.alloc hT
    refine turn i _ n2 ρ2 hd i2 ρ1 H1 σ2 H3 x hh3 rx _ fun n4 ρ4 σ4 H4 h4 hh4 k4 _ _ => ?_
    refine h4 ρ1 H1 σ4 H4 hh4 _ ⟨fun n ρ σ H z1 z2 => ⟨n, ρ, z1, z2⟩, fun n ρ σ H d v z1 z2 => f.rt n ρ σ H d v z1 (z2.back hh1.kp), fun n ρ σ H z1 z2 => f.nx n ρ σ H z1 (z2.back hh1.kp), fun n ρ σ H z1 z2 => ⟨n, ρ, z1, z2⟩⟩
  · have e : i = ds.length := by omega
    subst e
    exact .inl ⟨stop, f.nx n2 ρ2 σ2 H2 (fin n2 ρ2 i2) (hh2.back hh1.kp)⟩

/-! ### a, b = x, y -/
theorem ws_par (i j : Nat) {x y : Str} {px py pt : Pos} {kt k2 pt2} (hc : X.calm = true) (hN : X.N.Nodup) (h : WA X A [a, b] ρ n fun n ρ ds => ∃ d1 d2, ds = [d1, d2] ∧ E.nx n ((ρ.set i (some (.dat d1))).set j (some (.dat d2))))
    (hi : X.N[i]? = some x := by rfl) (hj : X.N[j]? = some y := by rfl) (hij : i ≠ j := by decide) (hx : X.env.scope.names.lookup x = some .local := by rfl) (hy : X.env.scope.names.lookup y = some .local := by rfl)
    (hw : swappedStores [.Tuple [.Name x px, .Name y py] kt pt] (.Tuple [a, b] k2 pt2) X.env = pure (some [x, y]) := by rfl)
    (hs : swapsWithSole [.Tuple [.Name x px, .Name y py] kt pt] (.Tuple [a, b] k2 pt2) pos.line X.env = pure false := by rfl) : WS1 X A (.Assign [.Tuple [.Name x px, .Name y py] kt pt] (.Tuple [a, b] k2 pt2) pos) ρ n E := by
  intro ρ0 H0 σ H hh D f
  refine canS.of (ps_par hc hN hi hj hij hx hy acan hw hs) ?_
  refine h ρ0 H0 σ H hh _ fun n1 ρ1 ds vs H1 h1 hh1 k1 r1 => ?_
  obtain ⟨d1, d2, rfl, h1⟩ := h1
  cases r1 with
  | cons r1 r2 =>
    cases r2 with
    | cons r2 r3 =>
      cases r3
      refine ⟨_, _, rfl, f.nx _ _ _ _ h1 ((hh1.set i r1).set j ?_)⟩
      exact Rep.mono (fun a o m e => ⟨e, fun z => m (mt_sub (owns_set_dat rfl) a z)⟩) d2 r2
/-- any target -/
theorem ws_asg (h : WE X A e ρ n fun n ρ d => WG' X A tg AnyV d ρ n E.nx) (hs : swapsWithSole [tg] e pos.line X.env = pure false := by rfl) (hw : swappedStores [tg] e X.env = pure none := by rfl)
    (h1 : (assignEach [tg] X.env).map (·.2) = [assign tg X.env] := by rfl) : WS1 X A (.Assign [tg] e pos) ρ n E := by
  intro ρ0 H0 σ H hh D f
  refine canS.of (ps_asg pcan gcan hs hw h1) ?_
  refine h ρ0 H0 σ H hh _ fun n1 ρ1 d v H1 z1 hh1 k1 r1 => ?_
  exact z1 ρ0 H0 σ H1 v hh1 r1 _ fun n2 ρ2 σ2 H2 z2 hh2 k2 _ _ => f.nx _ _ _ _ z2 hh2
/-- name op= e, ints -/
theorem ws_aug (i : Nat) {x : Str} {op : Operator} {g : Int → Int → Int} {pos' : Pos} {a : Int} (ho : PIp X op (ipI g)) (hN : X.N.Nodup) (hd : ρ[i]? = some (some (.dat (.int a)))) (h : WE X A e ρ n fun n ρ' d => ρ' = ρ ∧ ∃ b, d = .int b ∧ E.nx n (ρ.set i (some (.dat (.int (g a b))))))
    (hi : X.N[i]? = some x := by rfl) (hx : Loc X.env.scope x := by first | exact Or.inl rfl | exact Or.inr rfl) (hf : X.fn x = true ∨ X.env.scope.names.lookup x = some .local := by first | exact .inl rfl | exact .inr rfl) : WS1 X A (.AugAssign (.Name x pos') op e pos) ρ n E := by
  intro ρ0 H0 σ H hh D f
  refine canS.of (ps_aug hN hi hx pcan ho hf) ?_
  obtain ⟨v, e1, r⟩ := slot_get hh.sat.sl hd
  refine ⟨v, e1, h ρ0 H0 σ H hh _ fun n1 ρ1 d w H1 h1 hh1 k1 r1 => ?_⟩
  obtain ⟨rfl, b, rfl, h1⟩ := h1
  cases (show Rep X.K (Mt A ρ1) H v (.int a) from r)
  cases r1
  exact ⟨a, b, rfl, rfl, f.nx _ _ _ _ h1 (hh1.set i (.int _))⟩
end
end RD

/-! RDG: promises of defs that also know that no container is being shown (so repr may be told). -/
namespace RD
open PySem PySem.Spec PyProof.Rows L2

/-- room for k calls, and nothing is being shown -/
structure Rm (k : Nat) (A : Around) : Prop where
  r : Room k A
  g : A.guards = some []
theorem Rm.mono {j k : Nat} {A : Around} (h : Rm k A) (l : j ≤ k) : Rm j A := ⟨h.r.mono l, h.g⟩
/-- a def keeps its promise -/
structure Fn (P : Program) (w : World) (K : PySem.W.Frag) (mg : Str → Option Value) (base : Heap) (CX : CXT) (k : Nat) (f : Addr) (fd : FuncData) (ps : List Str) (sp : Sp) : Prop where
  arity : ∀ vs H Q E, sp vs H Q E → vs.length = ps.length
  goes : ∀ A outer s H args us vs Q E, Rm k A → Env0 P w K mg base A outer s H → BindsTo s fd args (ps.zip us) → Vals vs us → sp vs H Q E →
    codeAny (model P w) A (.call (.ref f) args) (CR CX outer P w H s Q E) s
section
variable {P : Program} {w : World} {K : PySem.W.Frag} {mg : Str → Option Value} {base : Heap} {CX : CXT} {k : Nat} {f : Addr} {fd : FuncData} {ps : List Str} {sp : Sp}
theorem Fn.mono {j : Nat} (F : Fn P w K mg base CX j f fd ps sp) (h : j ≤ k) : Fn P w K mg base CX k f fd ps sp :=
  ⟨F.arity, fun A outer s H args us vs Q E r => F.goes A outer s H args us vs Q E (r.mono h)⟩
theorem Fn.of_ok (F : FnOk P w K mg base CX k f fd ps sp) : Fn P w K mg base CX k f fd ps sp := ⟨F.len, fun A outer s H args us vs Q E r => F.run A outer s H args us vs Q E r.r⟩
/-- by its body -/
theorem Fn.by_body {x qual : Str} {params : Arguments} {body : List Stmt} {scope : Scope} {dvs : List V} {kws : List (Str × V)} {N : List Str} (F : FunD K x qual params body scope dvs kws f fd) (S : FnScope N ps scope) (len : ∀ vs H Q E, sp vs H Q E → vs.length = ps.length)
    (hb : ∀ (cdv : Value) (A : Around) (outer : List Env) (s : Shared) (H : Hp) (vs : List V) (Q : VK) (E : XK), Rm k (A.deeper (envOfC qual scope s.heap.objs.size f cdv)) → sp vs H Q E →
      canSs (cxOf CX P w K mg base N qual scope f cdv A outer s H E) body { nx := fun _ H' => Q .non H', rt := Q } (L2.start N vs) H) : Fn P w K mg base CX (k + 1) f fd ps sp := by
  obtain ⟨oc, od, dV, kV, doc, pm, an, cdv, ct, osl, rfl, lk, hcd, -, -⟩ := F.ex
  constructor
  · exact len
  · intro A outer s H args us vs Q E rm e0 bnd rv hsp
    have there := fun (b : Addr) (o : Obj) (e : base.get? b = some o) => (e0.bs b o e).1
    have kin := e0.mod.kin.keeps there
    refine codeAny_call_function rm.r.depth (kin _ _ lk) rfl S.co S.gen rfl (PySem.W.codeRec_of kin hcd) (bnd _ _ _ _ ?_)
    refine wpAny_newFunctionEnv_cells S.kind ?kinds ?go
    case kinds =>
      rintro ⟨nm, vv⟩ hm
      have hmem := (List.of_mem_zip hm).1
      cases S.par nm hmem with
      | inl z => exact Or.inl z
      | inr z => exact Or.inr ⟨z, PySem.W.cellsFrom_some _ _ _ (Or.inl z)⟩
    case go =>
      rintro env rfl s1 ent
      have st : Inv (cxOf CX P w K mg base N qual scope f cdv A outer s H E) [] (L2.start N vs) H s1 := inv_start S rm.r.hd e0 (len vs H Q E hsp) rv ent
      refine ⟨(e0.mod.nolimit.keeps there).keeps ent.toInCall.keep, codeAny_func ?_⟩
      have run := hb cdv A outer s H vs Q E ⟨rm.r.deeper _, rm.g⟩ hsp [] s1 st
      refine wpAny_mono run ?ok fun e s' z => z
      case ok =>
        intro fl s' z
        have out : ∀ {σ' H' v u}, Inv (cxOf CX P w K mg base N qual scope f cdv A outer s H E) [] σ' H' s' → RelV v u → Q v H' → CE outer P w H s Q u s' := by
          intro σ' H' v u i rr q
          exact ⟨v, H', i.os, i.bare, i.base, i.hok, rr, q⟩
        match fl, z with
        | .ret _, ⟨_, _, _, i, rr, q⟩ => exact out i rr q
        | .next, ⟨_, _, i, q⟩ => exact out (v := V.non) (u := Value.none) i rfl q
        | .brk, ⟨_, _, _, q⟩ => exact q.elim
        | .cont, ⟨_, _, _, q⟩ => exact q.elim
end
section
variable {X : Cx} {CX : CXT} {k n : Nat} {f : Addr} {fd : FuncData} {ps ks : List Str} {sp : Sp} {E : XK} {x : Str} {p pos : Pos} {e : Expr} {es : List Expr} {kws : List Keyword} {t tk : TA} {g : List Value → List Value → List Value} {gV : List V → List V → List V}
  {pins : List (Addr × Obj)} {σ : L2.St} {H : Hp} {s : Shared} {Q : VK} {us ws ds : List Value} {vs zs dvs : List V}
/-- what comes back of a call -/
theorem came {args : Args} (hx : Passes CX X E) (I : Inv X pins σ H s) (h : codeAny (model X.prog X.w) X.A (.call (.ref f) args) (CR CX X.stack X.prog X.w H s Q E) s) :
    codeAny (model X.prog X.w) X.A (.call (.ref f) args) (fun r s' => match r with | .ok (.ret u) => EP X pins σ Q u s' | .ok _ => False | .error e => X.xe e s') s := by
  refine codeAny_mono h ?_
  intro r s' z
  match r, z with
  | .error e, z => exact hx pins σ H s e s' I z
  | .ok (.ret u), z => exact I.after z
  | .ok .next, z => exact z.elim
  | .ok .brk, z => exact z.elim
  | .ok .cont, z => exact z.elim
theorem Fn.at_ (F : Fn X.prog X.w X.K X.mg X.base CX k f fd ps sp) (rm : Rm k X.A) (hb : Binds X.K fd ps ds) (hd : Vals dvs ds) (hx : Passes CX X E) (I : Inv X pins σ H s) (r : Vals vs us) (h : sp (vs ++ dvs) H Q E) :
    wpAny (model X.prog X.w) X.A (call (.ref f) us) (EP X pins σ Q) X.xe s := by
  have rr := r.append hd
  have bnd := hb s us I.kIn (rr.length.symm.trans (F.arity _ _ _ _ h))
  have z := came (args := ⟨us, []⟩) hx I (F.goes _ _ _ _ _ _ _ _ _ rm I.env0 bnd rr h)
  refine wpAny_call (codeAny_mono z ?_)
  rintro (_ | _ | _ | _ | _) s' q <;> exact q
theorem Fn.atN (F : Fn X.prog X.w X.K X.mg X.base CX k f fd ps sp) (rm : Rm k X.A) (hb : KBn X.K fd ps n ks g gV) (hx : Passes CX X E) (I : Inv X pins σ H s) (r : Vals vs us) (rz : Vals zs ws) (l1 : vs.length = n) (l2 : zs.length = ks.length) (h : sp (gV vs zs) H Q E) :
    wpAny (model X.prog X.w) X.A (call (.ref f) us (ks.zip ws)) (EP X pins σ Q) X.xe s := by
  have bnd := hb.to s us ws I.kIn (r.length.symm.trans l1) (rz.length.symm.trans l2)
  have z := came (args := ⟨us, ks.zip ws⟩) hx I (F.goes _ _ _ _ _ _ _ _ _ rm I.env0 bnd (hb.rel r rz) h)
  refine wpAny_call (codeAny_mono z ?_)
  rintro (_ | _ | _ | _ | _) s' q <;> exact q
/-- f(e, ..) -/
theorem pg_call (F : Fn X.prog X.w X.K X.mg X.base CX k f fd ps sp) (rm : Rm k X.A) (hg : Gl X x) (hm : X.mg x = some (.ref f)) (hk : PySem.W.keepIn X.K (.ref f) = true) (hb : Binds X.K fd ps ds) (hd : Vals dvs ds) (hx : Passes CX X E)
    (ha : PA X (e :: es) t) (hdb : (x == ("__debug__" : Str)) = false := by decide) (he : starEach (e :: es) X.env = (false, eval e X.env) :: starEach es X.env := by rfl) (hpl : (backTo pos (starEach es X.env)).any (·.1) = false := by rfl) :
    PE X (.Call (.Name x p) (e :: es) [] pos) (tCall sp dvs E t) := by
  constructor
  intro pins s σ H Q I h
  refine wpAny_Call_Name_kw (ld_glob I hg hm ?_ hdb)
  have args := ha.run pos pins s σ H _ I h
  refine PySem.W.callWith_K (h₀ := X.base) I.ok.mod.kin hk (thn args ?_) he hpl
  rintro us s1 ⟨vs, H1, I1, r, q⟩
  exact ⟨I1.kIn, F.at_ rm hb hd hx I1 r q⟩
/-- f() -/
theorem pg_call0 (F : Fn X.prog X.w X.K X.mg X.base CX k f fd ps sp) (rm : Rm k X.A) (hg : Gl X x) (hm : X.mg x = some (.ref f)) (hk : PySem.W.keepIn X.K (.ref f) = true) (hb : Binds X.K fd ps ds) (hd : Vals dvs ds) (hx : Passes CX X E) (hdb : (x == ("__debug__" : Str)) = false := by decide) :
    PE X (.Call (.Name x p) [] [] pos) (tCall sp dvs E tNil) := by
  constructor
  intro pins s σ H Q I h
  refine wpAny_Call_Name_kw (ld_glob I hg hm ?_ hdb)
  exact PySem.W.callWith_K0 I.kIn hk (F.at_ (us := []) (vs := []) rm hb hd hx I .nil h)
/-- f(e, .., k = v, ..) -/
theorem pg_callN (F : Fn X.prog X.w X.K X.mg X.base CX k f fd ps sp) (rm : Rm k X.A) (hg : Gl X x) (hm : X.mg x = some (.ref f)) (hk : PySem.W.keepIn X.K (.ref f) = true) (hb : KBn X.K fd ps n ks g gV) (hx : Passes CX X E)
    (ha : PA X (e :: es) t) (hkw : PK X kws tk) (hall : (backToKw pos (keywordEach kws X.env)).all (·.1.isSome) = true := by rfl) (hks : (backToKw pos (keywordEach kws X.env)).filterMap (·.1) = ks := by rfl)
    (hdb : (x == ("__debug__" : Str)) = false := by decide) (he : starEach (e :: es) X.env = (false, eval e X.env) :: starEach es X.env := by rfl)
    (hpl : ((backTo pos (starEach (e :: es) X.env)).any (·.1) || (backToKw pos (keywordEach kws X.env)).any (·.1.isNone)) = false := by rfl) :
    PE X (.Call (.Name x p) (e :: es) kws pos) (tCallN n ks.length sp gV E t tk) := by
  constructor
  intro pins s σ H Q I h
  refine wpAny_Call_Name_kw (ld_glob I hg hm ?_ hdb)
  have args := ha.run pos pins s σ H _ I h
  refine PySem.W.callWith_KW (h₀ := X.base) I.ok.mod.kin hk hall (thn args ?_) hpl he
  rintro us s1 ⟨vs, H1, I1, r, q⟩
  have more := hkw.run pos pins s1 σ H1 _ I1 q
  refine thn more ?_
  rintro ws s2 ⟨zs, H2, I2, rz, l1, l2, q2⟩
  refine ⟨I2.kIn, ?_⟩
  rw [hks]
  exact F.atN rm hb hx I2 r rz l1 l2 q2
/-- f(k = v, ..): no value by place -/
def tCallN0 (m : Nat) (sp : Sp) (gV : List V → List V → List V) (E : XK) (tk : TA) : TE := fun σ H Q => tk σ H fun zs H2 => zs.length = m ∧ sp (gV [] zs) H2 Q E
theorem pg_callN0 (F : Fn X.prog X.w X.K X.mg X.base CX k f fd ps sp) (rm : Rm k X.A) (hg : Gl X x) (hm : X.mg x = some (.ref f)) (hk : PySem.W.keepIn X.K (.ref f) = true) (hb : KBn X.K fd ps 0 ks g gV) (hx : Passes CX X E)
    (hkw : PK X kws tk) (hall : (backToKw pos (keywordEach kws X.env)).all (·.1.isSome) = true := by rfl) (hks : (backToKw pos (keywordEach kws X.env)).filterMap (·.1) = ks := by rfl)
    (hdb : (x == ("__debug__" : Str)) = false := by decide) (hpl : ((backTo pos (starEach [] X.env)).any (·.1) || (backToKw pos (keywordEach kws X.env)).any (·.1.isNone)) = false := by rfl) :
    PE X (.Call (.Name x p) [] kws pos) (tCallN0 ks.length sp gV E tk) := by
  constructor
  intro pins s σ H Q I h
  refine wpAny_Call_Name_kw (ld_glob I hg hm ?_ hdb)
  refine PySem.W.callWith_KW0 (h₀ := X.base) I.ok.mod.kin hk hall ?_ hpl
  have more := hkw.run pos pins s σ H _ I h
  refine thn more ?_
  rintro ws s2 ⟨zs, H2, I2, rz, l2, q2⟩
  refine ⟨I2.kIn, ?_⟩
  rw [hks]
  exact F.atN (us := []) (vs := []) rm hb hx I2 .nil rz rfl l2 q2
end

/-! ### the end of a law -/
section
variable {P : Program} {w : World} {K : PySem.W.Frag} {mg mb : Str → Option Value} {k : Nat} {fa a : Addr} {fd : FuncData} {x : Str} {sp : Sp} {s₁ : Shared} {vs : List Value} {ns : List Int}
/-- from a heap where at most the script is tracked -/
theorem law_from (KX : K.In s₁.heap) (hns : s₁.heap.Ns mainGlobals mg) (hb : s₁.heap.Ns builtinsNs mb) (hbb : ∀ y : Str, y ≠ "__name__" → mb y = bootBuiltins y) (hlim : s₁.heap.NoLimit) (hg : s₁.gens = #[])
    (ha : s₁.heap.get? a = some { cls := .type "list", data := .seq vs.toArray }) (rm : Rm k callerA)
    (F : ∀ base : Heap, K.In base → base.Ns mainGlobals mg → Fn P w K mg base CX0 k fa fd [x] sp) (bnd : ∀ (s : Shared) (u : Value), BindsTo s fd ⟨[u], []⟩ [(x, u)])
    (H : Hp) (only : ∀ b, H b = none ∨ (b = a ∧ ∃ o xs, H b = some (.frz o (.lst xs)))) (hok : HOk P w H s₁.heap) (hK : H a ≠ none → K.lookup a = none) (hsp : sp [.ref a] H (fun v _ => v = .bl true) fun _ _ _ => False) :
    codeAny (model P w) callerA (.call (.ref fa) ⟨[.ref a], []⟩) (fun r s' => r = .ok (.ret (.bool true)) ∧ OldK s₁.heap s'.heap ∧ s'.os = s₁.os ∧ AllBare s'.gens) s₁ := by
  have isA : ∀ b, H b ≠ none → b = a := fun b z => (only b).elim (fun y => absurd y z) fun y => y.1
  have off : ∀ b o, s₁.heap.get? b = some o → (b = a → False) → (hidT s₁.heap H).get? b = some o := fun b o e z => hidT_get e (by
    cases q : H b with
    | none => rfl
    | some u => exact (z (isA b (by simp [q]))).elim)
  have ns' : ∀ {b : Addr} {m : Str → Option Value}, s₁.heap.Ns b m → (hidT s₁.heap H).Ns b m := by
    rintro b m ⟨o, es, ep, e, d, r⟩
    refine ⟨o, es, ep, off b o e ?_, d, r⟩
    rintro rfl
    cases ha.symm.trans e
    cases d
  have kin' : K.In (hidT s₁.heap H) := fun b o e => by
    cases q : H b with
    | none => exact hidT_get (KX b o e) q
    | some u =>
      have e' := isA b (by simp [q])
      subst e'
      cases (hK (by simp [q])).symm.trans e
  have md : Mod K mg (hidT s₁.heap H) := by
    obtain ⟨mc, l1, l2⟩ := hlim
    exact ⟨kin', ns' hns, ⟨mb, ns' hb, hbb⟩, ⟨mc, ns' l1, l2⟩⟩
  have e0 : Env0 P w K mg (hidT s₁.heap H) callerA [] s₁ H := by
    refine ⟨rfl, md, fun b o => of_hidT, Nat.le_of_eq (hidT_size _ _), trivial, ?_, hok, .of_eq hg⟩
    intro b z
    cases z
  have run := (F _ kin' (ns' hns)).goes callerA [] s₁ H ⟨[.ref a], []⟩ [.ref a] [.ref a] _ _ rm e0 (bnd s₁ (.ref a)) (.cons rfl .nil) hsp
  refine codeAny_mono run ?_
  intro r s' z
  match r, z with
  | .error _, z => exact z.elim
  | .ok .next, z => exact z.elim
  | .ok .brk, z => exact z.elim
  | .ok .cont, z => exact z.elim
  | .ok (.ret u), ⟨v, H', os, bare, un, hok', rv, q⟩ =>
    cases (show v = .bl true from q)
    cases (show u = Value.bool true from rv)
    refine ⟨rfl, .of_keep ?_, os, bare⟩
    intro b o e
    rcases only b with q | ⟨_, ob, xs, q⟩
    · exact un.keep b o e q (fun y => nomatch y) (fun y => nomatch y)
    · have e1 := (hok b _ q).1
      have e2 := (hok' b _ (un.frzs b ob _ q)).1
      cases e1.symm.trans e
      exact e2
theorem law_all (KX : K.In s₁.heap) (hns : s₁.heap.Ns mainGlobals mg) (hb : s₁.heap.Ns builtinsNs mb) (hbb : ∀ y : Str, y ≠ "__name__" → mb y = bootBuiltins y) (hlim : s₁.heap.NoLimit) (hg : s₁.gens = #[])
    (ha : s₁.heap.get? a = some { cls := .type "list", data := .seq vs.toArray }) (hi : IntsAre vs ns) (hl : ns.length ≤ sizeLine) (rm : Rm k callerA)
    (F : ∀ base : Heap, K.In base → base.Ns mainGlobals mg → Fn P w K mg base CX0 k fa fd [x] sp) (bnd : ∀ (s : Shared) (u : Value), BindsTo s fd ⟨[u], []⟩ [(x, u)])
    (hsp : ∀ H : Hp, SqL K H a (ns.map V.int) → (H a = none ∨ ∃ o xs, H a = some (.frz o (.lst xs))) → (∀ b, b ≠ a → H b = none) → sp [.ref a] H (fun v _ => v = .bl true) fun _ _ _ => False) :
    codeAny (model P w) callerA (.call (.ref fa) ⟨[.ref a], []⟩) (fun r s' => r = .ok (.ret (.bool true)) ∧ OldK s₁.heap s'.heap ∧ s'.os = s₁.os ∧ AllBare s'.gens) s₁ := by
  have rv := vals_ints hi
  cases hk : K.lookup a with
  | some o =>
    have e := KX a o hk
    cases ha.symm.trans e
    have sq : SqL K (fun _ => none) a (ns.map V.int) := Or.inr ⟨_, vs.toArray, _, hk, rfl, rfl, rfl, by rw [List.size_toArray, hi.length]; exact hl, by simpa using rv⟩
    exact law_from KX hns hb hbb hlim hg ha rm F bnd (fun _ => none) (fun _ => Or.inl rfl) (fun _ _ z => nomatch z) (fun z => absurd rfl z) (hsp _ sq (Or.inl rfl) fun _ _ => rfl)
  | none =>
    let H1 : Hp := fun b => if b = a then some (.frz { cls := .type "list", data := .seq vs.toArray } (.lst (ns.map V.int))) else none
    have at_a : H1 a = some (.frz { cls := .type "list", data := .seq vs.toArray } (.lst (ns.map V.int))) := if_pos rfl
    have at_b : ∀ b, b ≠ a → H1 b = none := fun b z => if_neg z
    refine law_from KX hns hb hbb hlim hg ha rm F bnd H1 ?_ ?_ (fun _ => hk) (hsp H1 (Or.inl (Or.inr ⟨_, at_a⟩)) (Or.inr ⟨_, _, at_a⟩) at_b)
    · intro b
      by_cases z : b = a
      · subst z; exact Or.inr ⟨rfl, _, _, at_a⟩
      · exact Or.inl (at_b b z)
    · intro b u e
      by_cases z : b = a
      · subst z
        cases at_a.symm.trans e
        refine ⟨ha, ?_, vs, _, rv, ha⟩
        rw [List.length_map]; exact hl
      · cases (at_b b z).symm.trans e
end
/-- the goal that the head leaves, from the law's promise; the script's bits are told -/
theorem law_end {l : PySem.W.OpenLaw} {n k : Nat} {q : Program} {loose : List Str} {XP : (Str → Option Value) → Heap → Prop} {YP : World → Heap → Prop} {d : DefRec} {K : Params → PySem.W.Frag} {sp : World → Sp} {x : Str}
    (hn : l.most = some n) (hn2 : n ≤ sizeLine) (hdf : d.params.defaults = []) (hr : Room k callerA) (hY : ∀ w h, YP w h → (K w.params).In h)
    (F : ∀ (w : World) (mg : Str → Option Value) (fa : Addr) (h : Heap), (K w.params).In h → h.Ns mainGlobals mg → mg d.name = some (.ref fa) → ∃ fd : FuncData, (∀ (s : Shared) (u : Value), BindsTo s fd ⟨[u], []⟩ [(x, u)]) ∧ ∀ base : Heap, (K w.params).In base → base.Ns mainGlobals mg → Fn l.prog w (K w.params) mg base CX0 k fa fd [x] (sp w))
    (hsp : ∀ (w : World) (H : Hp) (a : Addr) (ns : List Int), ns.length ≤ n → (∀ z ∈ ns, Builtin.Int.intBits z ≤ 1048576) → SqL (K w.params) H a (ns.map V.int) → (H a = none ∨ ∃ o xs, H a = some (.frz o (.lst xs))) → (∀ b, b ≠ a → H b = none) → sp w [.ref a] H (fun v _ => v = .bl true) fun _ _ _ => False) :
    PySem.W.WalkO q loose XP YP l.row.toRowW d [] (fun f vs => PySem.call f vs) := by
  refine Att.attach_callB hn hdf ?_
  intro w s₀ s₁ mg mb fa o pm cd doc a vs ns G Y _ _ _ hmg hobj hints hlen hbits hg
  obtain ⟨fd, bnd, hF⟩ := F w mg fa _ (hY w _ Y) G.T.g hmg
  exact law_all (hY w _ Y) G.T.g G.T.b G.T.builtins G.T.nolimit hg hobj hints (Nat.le_trans hlen hn2) ⟨hr, rfl⟩ hF bnd fun H h1 h2 h3 => hsp w H a ns hlen hbits h1 h2 h3
end RD

/-! RD4: calls, defs; lists of one's own changed; list comprehensions. -/
namespace RD
open PySem PySem.Spec PyProof.Rows L2

/-! ### the promise of a def -/
/-- a def that changes nothing: R tells what it may come to, from its arguments -/
def spF (K : PySem.W.Frag) (R : List D → (D → Prop) → Prop) : Sp := fun vs H Q _ => ∃ (W : List Addr) (ds : List D) (k : D → Prop), (∀ a ∈ W, H a ≠ none) ∧ W.Nodup ∧ RepAll K (· ∈ W) H vs ds ∧ R ds k ∧
  ∀ d v H', k d → (∀ a o, H a = some o → H' a = some o) → Rep K (· ∈ W) H' v d → Q v H'
/-- a def that draws: p the pen, n the draws that are left -/
def spP (K : PySem.W.Frag) (R : Addr → Nat → List D → (Nat → D → Prop) → Prop) : Sp := fun vs H Q _ => ∃ (W : List Addr) (p c : Addr) (n : Nat) (ds : List D) (k : Nat → D → Prop), (∀ a ∈ W, H a ≠ none) ∧ W.Nodup ∧ p ∈ W ∧ c ∈ W ∧ p ≠ c ∧ PenAt p c n H ∧
  RepAll K (· ∈ W) H vs ds ∧ R p n ds k ∧ ∀ n' d v H', k n' d → (∀ a o, a ≠ p → H a = some o → H' a = some o) → PenAt p c n' H' → Rep K (· ∈ W) H' v d → Q v H'

/-- the names at the entry -/
def startD (N : List Str) (ds : List D) : En := ds.map (fun d => some (.dat d)) ++ List.replicate (N.length - ds.length) none
theorem owns_startD (N : List Str) (ds : List D) : owns (startD N ds) = [] := by
  unfold startD
  have h1 : ∀ m, owns (List.replicate m none) = [] := by
    intro m
    induction m with
    | zero => rfl
    | succ m ih => rw [List.replicate_succ]; show [] ++ owns (List.replicate m none) = []; rw [ih]; rfl
  induction ds generalizing N with
  | nil => exact h1 _
  | cons d ds ih =>
    show [] ++ owns (ds.map (fun d => some (.dat d)) ++ List.replicate (N.length - (ds.length + 1)) none) = []
    rw [List.nil_append]
    cases N with
    | nil => simpa [startD] using ih []
    | cons x N => have := ih N; simpa [startD] using this
theorem paired_startD {K : PySem.W.Frag} {M : Addr → Prop} {H : Hp} (N : List Str) : ∀ {ds : List D} {vs : List V}, RepAll K M H vs ds → Paired (SlotR K M H) (startD N ds) (L2.start N vs) := fun {ds vs} r => by
  unfold startD L2.start
  have h1 : ∀ m, Paired (SlotR K M H) (List.replicate m none) (List.replicate m none) := by
    intro m
    induction m with
    | zero => exact .nil
    | succ m ih => exact .cons trivial ih
  rw [r.length]
  have : ∀ {ds : List D} {vs : List V} (l : En) (m : L2.St), RepAll K M H vs ds → Paired (SlotR K M H) l m → Paired (SlotR K M H) (ds.map (fun d => some (.dat d)) ++ l) (vs.map some ++ m) := by
    intro ds vs l m r hl
    induction vs generalizing ds with
    | nil => cases r; exact hl
    | cons v vs ih =>
      cases r with
      | cons r1 r2 => exact .cons r1 (ih r2)
  exact this _ _ r (h1 _)
theorem mt_start {A : Amb} {N : List Str} {ds : List D} : ∀ a, Mt A (startD N ds) a ↔ a ∈ A.W := fun a => by
  unfold Mt
  rw [owns_startD]
  simp
section
variable {P : Program} {w : World} {K : PySem.W.Frag} {mg : Str → Option Value} {base : Heap} {x qual : Str} {params : Arguments} {body : List Stmt} {scope : Scope} {dvs : List V} {kws : List (Str × V)} {f : Addr} {fd : FuncData} {N ps : List Str} {k : Nat}
/-- THE RULE for a def that changes nothing -/
theorem fn_pure {R : List D → (D → Prop) → Prop} (F : FunD K x qual params body scope dvs kws f fd) (S : FnScope N ps scope) (len : ∀ ds kk, R ds kk → ds.length = ps.length)
    (hbody : ∀ (cdv : Value) (A0 : Around) (outer : List Env) (s : Shared) (H : Hp) (E : XK) (A : Amb) (ds : List D) (kk : D → Prop), Rm k (A0.deeper (envOfC qual scope s.heap.objs.size f cdv)) → A.pen = none → R ds kk →
      WS (cxOf CX0 P w K mg base N qual scope f cdv A0 outer s H E).nox A body (startD N ds) 0 { nx := fun _ _ => kk .non, rt := fun _ _ d => kk d }) : Fn P w K mg base CX0 (k + 1) f fd ps (spF K R) := by
  refine Fn.by_body F S (fun vs H Q E h => ?_) fun cdv A0 outer s H vs Q E hr h => ?_
  · obtain ⟨W, ds, kk, _, _, r, hR, _⟩ := h
    rw [r.length]
    exact len ds kk hR
  · obtain ⟨W, ds, kk, htr, hnd, r, hR, q⟩ := h
    have hA : ∀ {D_ : Ends}, D_ = ({ nx := fun _ H' => Q .non H', rt := Q } : Ends) → canSs (cxOf CX0 P w K mg base N qual scope f cdv A0 outer s H E).nox body D_ (L2.start N vs) H := by
      rintro _ rfl
      have mt : ∀ a, Mt { W := W, H0 := H, pen := none } (startD N ds) a ↔ a ∈ W := mt_start
      have r' : RepAll K (Mt { W := W, H0 := H, pen := none } (startD N ds)) H vs ds := RepAll.mono (fun a o m e => ⟨e, fun z => m ((mt a).mp z)⟩) ds r
      have fin : ∀ {n : Nat} {ρ : En} {σ : L2.St} {H' : Hp} {v : V} {d : D}, kk d → Here K { W := W, H0 := H, pen := none } (startD N ds) H n ρ σ H' → Rep K (Mt { W := W, H0 := H, pen := none } ρ) H' v d → Q v H' := fun {n ρ σ H' v d} hk hh rr => by
        refine q d v H' hk (fun a o e => (hh.kp a o ?_ (fun z => z) e).1) (Rep.mono (fun a o m e => ⟨e, fun z => m (.inr z)⟩) d rr)
        rw [owns_startD]; simp
      refine hbody cdv A0 outer s H E { W := W, H0 := H, pen := none } ds kk hr rfl hR (startD N ds) H (L2.start N vs) H ⟨.refl, ⟨fun _ _ _ => rfl, htr, trivial⟩, ⟨paired_startD N r', ?_⟩⟩ _ ⟨?_, ?_, ?_, ?_⟩
      · rw [owns_startD]; simpa using hnd
      · intro n ρ σ H' h1 hh
        exact fin h1 hh .non
      · intro n ρ σ H' d v h1 hh rr
        exact fin h1 hh rr
      · intro n ρ σ H' h1 _
        exact h1
      · intro n ρ σ H' h1 _
        exact h1
    exact canSs.of (sscan (X := (cxOf CX0 P w K mg base N qual scope f cdv A0 outer s H E).nox) (st := body)).nox (hA rfl)
/-- THE RULE for a def that draws -/
theorem fn_pen {R : Addr → Nat → List D → (Nat → D → Prop) → Prop} (F : FunD K x qual params body scope dvs kws f fd) (S : FnScope N ps scope) (len : ∀ p n ds kk, R p n ds kk → ds.length = ps.length)
    (hbody : ∀ (cdv : Value) (A0 : Around) (outer : List Env) (s : Shared) (H : Hp) (E : XK) (A : Amb) (p c : Addr) (n : Nat) (ds : List D) (kk : Nat → D → Prop), Rm k (A0.deeper (envOfC qual scope s.heap.objs.size f cdv)) → A.pen = some (p, c) → R p n ds kk →
      WS (cxOf CX0 P w K mg base N qual scope f cdv A0 outer s H E).nox A body (startD N ds) n { nx := fun n _ => kk n .non, rt := fun n _ d => kk n d }) : Fn P w K mg base CX0 (k + 1) f fd ps (spP K R) := by
  refine Fn.by_body F S (fun vs H Q E h => ?_) fun cdv A0 outer s H vs Q E hr h => ?_
  · obtain ⟨W, p, c, n, ds, kk, _, _, _, _, _, _, r, hR, _⟩ := h
    rw [r.length]
    exact len p n ds kk hR
  · obtain ⟨W, p, c, n, ds, kk, htr, hnd, hp, hc, hpc, pen, r, hR, q⟩ := h
    have hA : ∀ {D_ : Ends}, D_ = ({ nx := fun _ H' => Q .non H', rt := Q } : Ends) → canSs (cxOf CX0 P w K mg base N qual scope f cdv A0 outer s H E).nox body D_ (L2.start N vs) H := by
      rintro _ rfl
      have mt : ∀ a, Mt { W := W, H0 := H, pen := some (p, c) } (startD N ds) a ↔ a ∈ W := mt_start
      have r' : RepAll K (Mt { W := W, H0 := H, pen := some (p, c) } (startD N ds)) H vs ds := RepAll.mono (fun a o m e => ⟨e, fun z => m ((mt a).mp z)⟩) ds r
      have fin : ∀ {n : Nat} {ρ : En} {σ : L2.St} {H' : Hp} {v : V} {d : D}, kk n d → Here K { W := W, H0 := H, pen := some (p, c) } (startD N ds) H n ρ σ H' → Rep K (Mt { W := W, H0 := H, pen := some (p, c) } ρ) H' v d → Q v H' := fun {n ρ σ H' v d} hk hh rr => by
        refine q n d v H' hk (fun a o hne e => (hh.kp a o ?_ hne e).1) hh.j.2.2.2.2.2 (Rep.mono (fun a o m e => ⟨e, fun z => m (.inr z)⟩) d rr)
        rw [owns_startD]; simp
      refine hbody cdv A0 outer s H E { W := W, H0 := H, pen := some (p, c) } p c n ds kk hr rfl hR (startD N ds) H (L2.start N vs) H ⟨.refl, ⟨fun _ _ _ => rfl, htr, hp, hc, hpc, pen⟩, ⟨paired_startD N r', ?_⟩⟩ _ ⟨?_, ?_, ?_, ?_⟩
      · rw [owns_startD]; simpa using hnd
      · intro n ρ σ H' h1 hh
        exact fin h1 hh .non
      · intro n ρ σ H' d v h1 hh rr
        exact fin h1 hh rr
      · intro n ρ σ H' h1 _
        exact h1
      · intro n ρ σ H' h1 _
        exact h1
    exact canSs.of (sscan (X := (cxOf CX0 P w K mg base N qual scope f cdv A0 outer s H E).nox) (st := body)).nox (hA rfl)
end

/-! ### the calls -/
theorem owns_there {K : PySem.W.Frag} {M : Addr → Prop} {H : Hp} : ∀ {ρ : En} {σ : L2.St}, Paired (SlotR K M H) ρ σ → ∀ a ∈ owns ρ, H a ≠ none := by
  intro ρ σ r
  induction r with
  | nil => intro a h; simp [owns] at h
  | @cons s v l m r t ih =>
    intro a h
    rcases List.mem_append.mp (show a ∈ addrs s ++ owns l from h) with h | h
    · cases s with
      | none => simp [addrs] at h
      | some s =>
        cases v with
        | none => cases s <;> exact r.elim
        | some v =>
          cases s with
          | dat d => simp [addrs] at h
          | own q ds =>
            simp [addrs] at h
            subst h
            obtain ⟨_, vs, e, _⟩ := r
            rw [e]; simp
          | ownK q ds =>
            simp [addrs] at h
            subst h
            obtain ⟨_, vs, e, _⟩ := r
            rw [e]; simp
    · exact ih a h
/-- all that was there stands -/
theorem Here.stay {K : PySem.W.Frag} {A : Amb} {ρ0 : En} {H0 H H' : Hp} {n : Nat} {ρ : En} {σ : L2.St} (h : Here K A ρ0 H0 n ρ σ H) (e : ∀ a o, H a = some o → H' a = some o) : Here K A ρ0 H0 n ρ σ H' ∧ Keeps A ρ H ρ H' := by
  have kp : Keeps A ρ H ρ H' := fun a o m _ q => ⟨e a o q, m⟩
  have same : ∀ a, H a ≠ none → H' a = H a := fun a z => by
    cases q : H a with
    | none => exact absurd q z
    | some o => exact e a o q
  refine ⟨⟨h.kp.trans kp, ⟨fun a ha hp => (same a (h.j.2.1 a ha)).trans (h.j.1 a ha hp), fun a ha => by rw [same a (h.j.2.1 a ha)]; exact h.j.2.1 a ha, ?_⟩, ⟨paired_mono (fun _ _ r => slotR_mono e r) h.sat.sl, h.sat.nd⟩⟩, kp⟩
  have j := h.j.2.2
  cases hq : A.pen with
  | none => trivial
  | some pc =>
    obtain ⟨p, c⟩ := pc
    rw [hq] at j
    obtain ⟨h1, h2, h3, at_, rest, ns, e1, e2, r⟩ := j
    exact ⟨h1, h2, h3, at_, rest, ns, e _ _ e1, e _ _ e2, r⟩
/-- all but the pen stands -/
theorem Here.drawn {K : PySem.W.Frag} {A : Amb} {ρ0 : En} {H0 H H' : Hp} {n n' : Nat} {ρ : En} {σ : L2.St} {p c : Addr} (h : Here K A ρ0 H0 n ρ σ H) (hp : A.pen = some (p, c)) (e : ∀ a o, a ≠ p → H a = some o → H' a = some o) (pen : PenAt p c n' H') : Here K A ρ0 H0 n' ρ σ H' ∧ Keeps A ρ H ρ H' := by
  have isp : ∀ a, A.isPen a ↔ a = p := fun a => by unfold Amb.isPen; rw [hp]
  have kp : Keeps A ρ H ρ H' := fun a o m z q => ⟨e a o (fun y => z ((isp a).mpr y)) q, m⟩
  have same : ∀ a, a ≠ p → H a ≠ none → H' a = H a := fun a y z => by
    cases q : H a with
    | none => exact absurd q z
    | some o => exact e a o y q
  have j := h.j.2.2
  rw [hp] at j
  obtain ⟨h1, h2, h3, _⟩ := j
  have pnone : H' p ≠ none := by
    obtain ⟨at_, rest, ns, e1, _⟩ := pen
    rw [e1]; simp
  refine ⟨⟨h.kp.trans kp, ⟨fun a ha hn => (same a (fun z => hn ((isp a).mpr z)) (h.j.2.1 a ha)).trans (h.j.1 a ha hn), fun a ha => ?_, ?_⟩, ⟨?_, h.sat.nd⟩⟩, kp⟩
  · by_cases z : a = p
    · rw [z]; exact pnone
    · rw [same a z (h.j.2.1 a ha)]; exact h.j.2.1 a ha
  · rw [hp]; exact ⟨h1, h2, h3, pen⟩
  · have hM : Mt A ρ p := .inr h1
    have hno : ∀ a ∈ owns ρ, a ≠ p := fun a ha z => by
      have := h.sat.nd
      rw [List.nodup_append] at this
      exact this.2.2 a ha p h1 z
    have up : ∀ a o, ¬ Mt A ρ a → H a = some o → H' a = some o ∧ ¬ Mt A ρ a := fun a o m q => ⟨e a o (fun z => m (by rw [z]; exact hM)) q, m⟩
    have : ∀ {ρ' : En} {σ' : L2.St}, Paired (SlotR K (Mt A ρ) H) ρ' σ' → (∀ a ∈ owns ρ', a ≠ p) → Paired (SlotR K (Mt A ρ) H') ρ' σ' := by
      intro ρ' σ' r
      induction r with
      | nil => intro _; exact .nil
      | @cons s v l m r t ih =>
        intro hn
        refine .cons ?_ (ih fun a ha => hn a (by show a ∈ addrs s ++ owns l; exact List.mem_append_right _ ha))
        cases s with
        | none => cases v <;> trivial
        | some s =>
          cases v with
          | none => cases s <;> exact r
          | some v =>
            cases s with
            | dat d => exact Rep.mono up d r
            | own q ds =>
              obtain ⟨e0, vs, e1, e2⟩ := r
              exact ⟨e0, vs, e _ _ (hn q (by show q ∈ [q] ++ owns l; simp)) e1, RepAll.mono up ds e2⟩
            | ownK q ds =>
              obtain ⟨e0, vs, e1, e2⟩ := r
              exact ⟨e0, vs, e _ _ (hn q (by show q ∈ [q] ++ owns l; simp)) e1, RepKV.mono up ds e2⟩
    exact this h.sat.sl hno
theorem mt_mem {A : Amb} {ρ : En} : ∀ a, Mt A ρ a ↔ a ∈ owns ρ ++ A.W := fun a => List.mem_append.symm
theorem Here.tracked {K : PySem.W.Frag} {A : Amb} {ρ0 : En} {H0 H : Hp} {n : Nat} {ρ : En} {σ : L2.St} (h : Here K A ρ0 H0 n ρ σ H) : ∀ a ∈ owns ρ ++ A.W, H a ≠ none := fun a ha => by
  rcases List.mem_append.mp ha with z | z
  · exact owns_there h.sat.sl a z
  · exact h.j.2.1 a z
section
variable {X : Cx} {A : Amb} {ρ : En} {n lv : Nat} {e : Expr} {es : List Expr} {kws : List Keyword} {x : Str} {p pos : Pos} {f : Addr} {fd : FuncData} {ps ks : List Str} {R : List D → (D → Prop) → Prop} {RP : Addr → Nat → List D → (Nat → D → Prop) → Prop} {k : Nat → En → D → Prop} {dvs : List V} {dds : List D} {us : List Value}
theorem spF_of {Q : VK} {E : XK} {ρ0 : En} {H0 H1 : Hp} {σ : L2.St} {vs : List V} {ds : List D} {kk : D → Prop} (hh : Here X.K A ρ0 H0 n ρ σ H1) (r : RepAll X.K (Mt A ρ) H1 vs ds) (hR : R ds kk)
    (q : ∀ d v H', kk d → Here X.K A ρ0 H0 n ρ σ H' → Keeps A ρ H1 ρ H' → Rep X.K (Mt A ρ) H' v d → Q v H') : spF X.K R vs H1 Q E := by
  refine ⟨owns ρ ++ A.W, ds, kk, hh.tracked, hh.sat.nd, RepAll.mono (fun a o m e => ⟨e, fun z => m ((mt_mem a).mpr z)⟩) ds r, hR, fun d v H' hk st rr => ?_⟩
  obtain ⟨h1, h2⟩ := hh.stay st
  exact q d v H' hk h1 h2 (Rep.mono (fun a o m e => ⟨e, fun z => m ((mt_mem a).mp z)⟩) d rr)
/-- f(e, ..); dds: the defaults that fill up -/
theorem we_call (F : Fn X.prog X.w X.K X.mg X.base CX0 lv f fd ps (spF X.K R)) (hr : Rm lv X.A) (hm : X.mg x = some (.ref f)) (hk : PySem.W.keepIn X.K (.ref f) = true) (hb : Binds X.K fd ps us) (hd : Vals dvs us) (hdd : ∀ M H, RepAll X.K M H dvs dds)
    (h : WA X A (e :: es) ρ n fun n ρ ds => R (ds ++ dds) (k n ρ)) (hg : Gl X x := by rfl) (hdb : (x == ("__debug__" : Str)) = false := by decide) (he : starEach (e :: es) X.env = (false, eval e X.env) :: starEach es X.env := by rfl) (hpl : (backTo pos (starEach es X.env)).any (·.1) = false := by rfl) :
    WE X A (.Call (.Name x p) (e :: es) [] pos) ρ n k := by
  intro ρ0 H0 σ H hh Q q
  refine canE.of (pg_call F hr hg hm hk hb hd pass0 acan hdb he hpl) ?_
  refine h ρ0 H0 σ H hh _ fun n1 ρ1 ds vs H1 h1 hh1 k1 r1 => ?_
  exact spF_of hh1 (r1.append (hdd _ _)) h1 fun d v H' hk hh' kp rr => q n1 ρ1 d v H' hk hh' (k1.trans kp) rr
/-- f(e, .., k = v, ..) -/
theorem we_callN {gV : List V → List V → List V} {g : List Value → List Value → List Value} {m : Nat} (gD : List D → List D → List D) (F : Fn X.prog X.w X.K X.mg X.base CX0 lv f fd ps (spF X.K R)) (hr : Rm lv X.A) (hm : X.mg x = some (.ref f)) (hk : PySem.W.keepIn X.K (.ref f) = true) (hb : KBn X.K fd ps m ks g gV)
    (hgD : ∀ M H vs ds zs es, RepAll X.K M H vs ds → RepAll X.K M H zs es → vs.length = m → zs.length = ks.length → RepAll X.K M H (gV vs zs) (gD ds es))
    (h : WA X A (e :: es) ρ n fun n ρ ds => ds.length = m ∧ WK X A kws ρ n fun n ρ zs => zs.length = ks.length ∧ R (gD ds zs) (k n ρ)) (hg : Gl X x := by rfl) (hall : (backToKw pos (keywordEach kws X.env)).all (·.1.isSome) = true := by rfl) (hks : (backToKw pos (keywordEach kws X.env)).filterMap (·.1) = ks := by rfl)
    (hdb : (x == ("__debug__" : Str)) = false := by decide) (he : starEach (e :: es) X.env = (false, eval e X.env) :: starEach es X.env := by rfl)
    (hpl : ((backTo pos (starEach (e :: es) X.env)).any (·.1) || (backToKw pos (keywordEach kws X.env)).any (·.1.isNone)) = false := by rfl) : WE X A (.Call (.Name x p) (e :: es) kws pos) ρ n k := by
  intro ρ0 H0 σ H hh Q q
  refine canE.of (pg_callN F hr hg hm hk hb pass0 acan kcan hall hks hdb he hpl) ?_
  refine h ρ0 H0 σ H hh _ fun n1 ρ1 ds vs H1 h1 hh1 k1 r1 => ?_
  refine h1.2 ρ0 H0 σ H1 hh1 _ fun n2 ρ2 es' zs H2 h2 hh2 k2 r2 => ?_
  have l1 : vs.length = m := r1.length.trans h1.1
  have l2 : zs.length = ks.length := r2.length.trans h2.1
  refine ⟨l1, l2, ?_⟩
  exact spF_of hh2 (hgD _ _ _ _ _ _ (r1.up hh1.j k2) r2 l1 l2) h2.2 fun d v H' hk hh' kp rr => q n2 ρ2 d v H' hk hh' ((k1.trans k2).trans kp) rr
/-- f(k = v, ..): no value by place -/
theorem we_callN0 {gV : List V → List V → List V} {g : List Value → List Value → List Value} (gD : List D → List D) (F : Fn X.prog X.w X.K X.mg X.base CX0 lv f fd ps (spF X.K R)) (hr : Rm lv X.A) (hm : X.mg x = some (.ref f)) (hk : PySem.W.keepIn X.K (.ref f) = true) (hb : KBn X.K fd ps 0 ks g gV)
    (hgD : ∀ M H zs es, RepAll X.K M H zs es → zs.length = ks.length → RepAll X.K M H (gV [] zs) (gD es))
    (h : WK X A kws ρ n fun n ρ zs => zs.length = ks.length ∧ R (gD zs) (k n ρ)) (hg : Gl X x := by rfl) (hall : (backToKw pos (keywordEach kws X.env)).all (·.1.isSome) = true := by rfl) (hks : (backToKw pos (keywordEach kws X.env)).filterMap (·.1) = ks := by rfl)
    (hdb : (x == ("__debug__" : Str)) = false := by decide)
    (hpl : ((backTo pos (starEach [] X.env)).any (·.1) || (backToKw pos (keywordEach kws X.env)).any (·.1.isNone)) = false := by rfl) : WE X A (.Call (.Name x p) [] kws pos) ρ n k := by
  intro ρ0 H0 σ H hh Q q
  refine canE.of (pg_callN0 F hr hg hm hk hb pass0 kcan hall hks hdb hpl) ?_
  refine h ρ0 H0 σ H hh _ fun n2 ρ2 es' zs H2 h2 hh2 k2 r2 => ?_
  have l2 : zs.length = ks.length := r2.length.trans h2.1
  refine ⟨l2, ?_⟩
  exact spF_of hh2 (hgD _ _ _ _ r2 l2) h2.2 fun d v H' hk hh' kp rr => q n2 ρ2 d v H' hk hh' (k2.trans kp) rr
/-- f(pen, ..) -/
theorem we_pen {pn cn : Addr} (F : Fn X.prog X.w X.K X.mg X.base CX0 lv f fd ps (spP X.K RP)) (hr : Rm lv X.A) (hm : X.mg x = some (.ref f)) (hk : PySem.W.keepIn X.K (.ref f) = true) (hb : Binds X.K fd ps us) (hd : Vals dvs us) (hdd : ∀ M H, RepAll X.K M H dvs dds) (hA : A.pen = some (pn, cn))
    (h : WA X A (e :: es) ρ n fun n ρ ds => RP pn n (ds ++ dds) (fun n' d => k n' ρ d)) (hg : Gl X x := by rfl) (hdb : (x == ("__debug__" : Str)) = false := by decide) (he : starEach (e :: es) X.env = (false, eval e X.env) :: starEach es X.env := by rfl) (hpl : (backTo pos (starEach es X.env)).any (·.1) = false := by rfl) :
    WE X A (.Call (.Name x p) (e :: es) [] pos) ρ n k := by
  intro ρ0 H0 σ H hh Q q
  refine canE.of (pg_call F hr hg hm hk hb hd pass0 acan hdb he hpl) ?_
  refine h ρ0 H0 σ H hh _ fun n1 ρ1 ds vs H1 h1 hh1 k1 r1 => ?_
  have j := hh1.j.2.2
  rw [hA] at j
  obtain ⟨j1, j2, j3, pen⟩ := j
  refine ⟨owns ρ1 ++ A.W, pn, cn, n1, ds ++ dds, _, hh1.tracked, hh1.sat.nd, List.mem_append_right _ j1, List.mem_append_right _ j2, j3, pen, RepAll.mono (fun a o m e => ⟨e, fun z => m ((mt_mem a).mpr z)⟩) _ (r1.append (hdd _ _)), h1, fun n' d v H' hk st pen' rr => ?_⟩
  obtain ⟨z1, z2⟩ := hh1.drawn hA st pen'
  exact q n' ρ1 d v H' hk z1 (k1.trans z2) (Rep.mono (fun a o m e => ⟨e, fun z => m ((mt_mem a).mp z)⟩) d rr)
/-- a built-in function, a built-in type, by values -/
theorem we_callB {id : String} {r : List V → Hp → VK → Prop} (hc : CallR X (.builtin id) r) (hm : X.mg x = none) (hv : bootBuiltins x = some (.builtin id)) (h : WA X A (e :: es) ρ n fun n ρ ds => CallD X.K A r ρ ds (k n ρ)) (hg : Gl X x := by rfl) (hn : x ≠ "__name__" := by decide) (hdb : (x == ("__debug__" : Str)) = false := by decide)
    (he : starEach (e :: es) X.env = (false, eval e X.env) :: starEach es X.env := by rfl) (hpl : (backTo pos (starEach es X.env)).any (·.1) = false := by rfl) : WE X A (.Call (.Name x p) (e :: es) [] pos) ρ n k := by
  intro ρ0 H0 σ H hh Q q
  refine canE.of (pe_callB hc hg hm hv acan hn hdb he hpl) ?_
  refine h ρ0 H0 σ H hh _ fun n1 ρ1 ds vs H1 h1 hh1 k1 r1 => ?_
  exact h1 n1 σ ρ0 H0 H1 vs Q hh1 r1 fun d v H' hk hh' kp rr => q n1 ρ1 d v H' hk hh' (k1.trans kp) rr
theorem we_callTy {id : String} {r : List V → Hp → VK → Prop} (hc : CallR X (.type id) r) (hm : X.mg x = none) (hv : bootBuiltins x = some (.type id)) (h : WA X A (e :: es) ρ n fun n ρ ds => CallD X.K A r ρ ds (k n ρ)) (hg : Gl X x := by rfl) (hn : x ≠ "__name__" := by decide) (hdb : (x == ("__debug__" : Str)) = false := by decide)
    (he : starEach (e :: es) X.env = (false, eval e X.env) :: starEach es X.env := by rfl) (hpl : (backTo pos (starEach es X.env)).any (·.1) = false := by rfl) : WE X A (.Call (.Name x p) (e :: es) [] pos) ρ n k := by
  intro ρ0 H0 σ H hh Q q
  refine canE.of (pe_callTy hc hg hm hv acan hn hdb he hpl) ?_
  refine h ρ0 H0 σ H hh _ fun n1 ρ1 ds vs H1 h1 hh1 k1 r1 => ?_
  exact h1 n1 σ ρ0 H0 H1 vs Q hh1 r1 fun d v H' hk hh' kp rr => q n1 ρ1 d v H' hk hh' (k1.trans kp) rr
/-- a module's name for a built-in function -/
theorem we_callBf {id : String} {r : List V → Hp → VK → Prop} (hc : CallR X (.builtin id) r) (hm : X.mg x = some (.builtin id)) (h : WA X A (e :: es) ρ n fun n ρ ds => CallD X.K A r ρ ds (k n ρ)) (hg : Gl X x := by rfl) (hdb : (x == ("__debug__" : Str)) = false := by decide)
    (he : starEach (e :: es) X.env = (false, eval e X.env) :: starEach es X.env := by rfl) (hpl : (backTo pos (starEach es X.env)).any (·.1) = false := by rfl) : WE X A (.Call (.Name x p) (e :: es) [] pos) ρ n k := by
  intro ρ0 H0 σ H hh Q q
  refine canE.of (pe_callBfun hc hg hm acan hdb he hpl) ?_
  refine h ρ0 H0 σ H hh _ fun n1 ρ1 ds vs H1 h1 hh1 k1 r1 => ?_
  exact h1 n1 σ ρ0 H0 H1 vs Q hh1 r1 fun d v H' hk hh' kp rr => q n1 ρ1 d v H' hk hh' (k1.trans kp) rr
end
end RD

/-! RD5: operations on data: ==, repr, len, subscripts, int(), abs(), list(), + of lists, math.gcd. -/
namespace RD
open PySem PySem.Spec PyProof.Rows L2

/-! ### as the library's data -/
mutual
def py : D → PyData
  | .non => .none
  | .bl b => .bool b
  | .int i => .int i
  | .str x => .str x
  | .lst xs => .list (pys xs)
  | .tup xs => .tuple (pys xs)
  | .dct kvs => .dict (pyk kvs)
  | .obj _ _ => .none
  | .raw _ => .none
def pys : List D → List PyData
  | [] => []
  | x :: xs => py x :: pys xs
def pyk : List (Key × D) → List (PyData × PyData)
  | [] => []
  | (.inl i, x) :: xs => (.int i, py x) :: pyk xs
  | (.inr s, x) :: xs => (.str s, py x) :: pyk xs
end
mutual
/-- no dict, no object, nothing raw within -/
def plain : D → Bool
  | .lst xs => plains xs
  | .tup xs => plains xs
  | .dct _ => false
  | .obj _ _ => false
  | .raw _ => false
  | _ => true
def plains : List D → Bool
  | [] => true
  | x :: xs => plain x && plains xs
end
section
variable {K : PySem.W.Frag} {M : Addr → Prop} {H : Hp}
mutual
theorem Rep.dp : ∀ (d : D) {v : V}, plain d = true → Rep K M H v d → Dp K H v (py d)
  | .non, _, _, r => by cases r; exact .non
  | .bl b, _, _, r => by cases r; exact .bl b
  | .int i, _, _, r => by cases r; exact .int i
  | .str x, _, _, r => by cases r; exact .str x
  | .lst xs, _, h, r => by
    cases r with
    | lst _ q ra => exact .lst (.of q) (RepAll.dp xs h ra)
  | .tup xs, _, h, r => by
    cases r with
    | tup q ra =>
      refine .tup ?_ (RepAll.dp xs h ra)
      rcases q with ⟨_, q⟩ | q
      · exact .inl q
      · exact .inr q
  | .dct _, _, h, _ => by simp [plain] at h
  | .obj _ _, _, h, _ => by simp [plain] at h
  | .raw _, _, h, _ => by simp [plain] at h
theorem RepAll.dp : ∀ (ds : List D) {vs : List V}, plains ds = true → RepAll K M H vs ds → DpAll K H vs (pys ds)
  | [], _, _, r => by cases r; exact .nil
  | d :: ds, _, h, r => by
    have h' : plain d = true ∧ plains ds = true := by simpa [plains] using h
    cases r with
    | cons r1 r2 => exact .cons (Rep.dp d h'.1 r1) (RepAll.dp ds h'.2 r2)
end
end
/-- == of data -/
def eqD (x y : D) : Bool := PyData.eqv (py x) (py y)
/-- of few levels, the texts in it well -/
def shp (x : D) : Bool := SeqAt.shaped (py x)
theorem of_ints (ns : List Int) : pys (ns.map D.int) = ns.map PyData.int := by
  induction ns with
  | nil => simp [pys]
  | cons n ns ih => simp [pys, py, ih]
section
variable {X : Cx} {K : PySem.W.Frag} {A : Amb} {ρ : En} {x y : D} {k : D → Prop}
theorem od_eq (px : plain x = true) (py_ : plain y = true) (sx : shp x = true) (sy : shp y = true) (h : k (.bl (eqD x y))) : OpD K A (rEqD K) ρ x y k := by
  intro n σ ρ0 H0 H vx vy Q hh r1 r2 q
  exact ⟨_, _, r1.dp _ px, r2.dp _ py_, sx, sy, q _ _ H h hh .refl (.bl _)⟩
theorem od_ne (px : plain x = true) (py_ : plain y = true) (sx : shp x = true) (sy : shp y = true) (h : k (.bl (!eqD x y))) : OpD K A (rNeD K) ρ x y k := by
  intro n σ ρ0 H0 H vx vy Q hh r1 r2 q
  exact ⟨_, _, r1.dp _ px, r2.dp _ py_, sx, sy, q _ _ H h hh .refl (.bl _)⟩

/-! ### repr -/
def rRepr (K : PySem.W.Frag) : List V → Hp → VK → Prop := fun xs H Q => ∃ x d, xs = [x] ∧ Dp K H x d ∧ d.showable = true ∧ d.hasDict = false ∧ d.depth ≤ 60 ∧ d.shown.length ≤ sizeLine ∧ Q (.str d.shown) H
theorem call_repr (rm : Rm 0 X.A) : CallR X (.builtin "repr") (rRepr X.K) := by
  intro pins s σ H xs us Q I r h
  obtain ⟨x, d, rfl, hd, hs, hk, hdep, hz, q⟩ := h
  obtain ⟨u, rfl, rx⟩ := vals1 r
  have un := rm.r.units
  cases hd with
  | non =>
    cases rx
    exact PySem.P.repr_of_none ⟨.str _, H, I.tok _, ⟨s.toks, by simp only [PyData.shown]⟩, q⟩
  | bl b =>
    cases rx
    exact PySem.P.repr_of_bool ⟨.str _, H, I.tok _, ⟨s.toks, by simp only [PyData.shown]⟩, q⟩
  | int i =>
    obtain ⟨t, rfl⟩ := rx
    exact PySem.P.repr_of_int (by simpa [PyData.showable] using hs) ⟨.str _, H, I.tok _, ⟨s.toks, by simp only [PyData.shown]⟩, q⟩
  | str z =>
    obtain ⟨t, rfl⟩ := rx
    exact PySem.P.repr_of_str ⟨.str _, H, I.tok _, ⟨s.toks, by simp only [PyData.shown]⟩, q⟩ (by simpa only [PyData.shown] using hz)
  | lst hq ha =>
    cases rx
    obtain ⟨as, rd⟩ := Dp.reads I _ _ _ (.lst hq ha) rfl
    refine repr_of_reads' rd hs (fun z => by rw [hk] at z; cases z) rm.g (by omega) (fun _ _ e => e) (fun h' u tk kp => ⟨.str _, H, I.kept kp, ⟨u, rfl⟩, q⟩) hz
  | tup hq ha =>
    cases rx
    obtain ⟨as, rd⟩ := Dp.reads I _ _ _ (.tup hq ha) rfl
    refine repr_of_reads' rd hs (fun z => by rw [hk] at z; cases z) rm.g (by omega) (fun _ _ e => e) (fun h' u tk kp => ⟨.str _, H, I.kept kp, ⟨u, rfl⟩, q⟩) hz
/-- what may be shown -/
def shw (d : D) : Bool := plain d && (py d).showable && !(py d).hasDict && decide ((py d).depth ≤ 60)
theorem cd_repr {d : D} (hp : shw d = true) (hz : (py d).shown.length ≤ sizeLine) (h : k (.str (py d).shown)) : CallD K A (rRepr K) ρ [d] k := by
  intro n σ ρ0 H0 H vs Q hh r q
  cases r with
  | cons r1 r2 =>
    cases r2
    unfold shw at hp
    simp only [Bool.and_eq_true, Bool.not_eq_true', decide_eq_true_eq] at hp
    obtain ⟨⟨⟨h1, h2⟩, h3⟩, h4⟩ := hp
    exact ⟨_, _, rfl, r1.dp _ h1, h2, h3, h4, hz, q _ _ H h hh .refl (.str _)⟩

/-! ### built-ins -/
theorem Rep.sqT {M : Addr → Prop} {H : Hp} {v : V} {ds : List D} (r : Rep K M H v (.tup ds)) : ∃ a xs, v = .ref a ∧ SqT K H a xs ∧ RepAll K M H xs ds := by
  cases r with
  | tup e ra =>
    refine ⟨_, _, rfl, ?_, ra⟩
    rcases e with ⟨_, e⟩ | e
    · exact .inl e
    · exact .inr e
theorem cd_len {ds : List D} (h : k (.int (ds.length : Int))) (hx : x = .lst ds ∨ x = .tup ds) : CallD K A (fun xs H Q => ∃ p ys, xs = [.ref p] ∧ (SqL K H p ys ∨ SqT K H p ys) ∧ Q (.int ys.length) H) ρ [x] k := by
  intro n σ ρ0 H0 H vs Q hh r q
  cases r with
  | cons r1 r2 =>
    cases r2
    rcases hx with rfl | rfl
    · cases r1 with
      | lst m e ra =>
        refine ⟨_, _, rfl, .inl (.of e), ?_⟩
        rw [ra.length]
        exact q _ _ H h hh .refl (.int _)
    · obtain ⟨a, zs, rfl, e, ra⟩ := r1.sqT
      refine ⟨a, zs, rfl, .inr e, ?_⟩
      rw [ra.length]
      exact q _ _ H h hh .refl (.int _)
theorem cd_int {i : Int} (h : k (.int i)) : CallD K A (fun xs H Q => (∃ i, xs = [.int i] ∧ Q (.int i) H) ∨ ∃ b, xs = [.bl b] ∧ Q (.int (if b then 1 else 0)) H) ρ [.int i] k := by
  intro n σ ρ0 H0 H vs Q hh r q
  cases r with
  | cons r1 r2 =>
    cases r1; cases r2
    exact .inl ⟨i, rfl, q _ _ H h hh .refl (.int _)⟩
theorem cd_intb {b : Bool} (h : k (.int (if b then 1 else 0))) : CallD K A (fun xs H Q => (∃ i, xs = [.int i] ∧ Q (.int i) H) ∨ ∃ b, xs = [.bl b] ∧ Q (.int (if b then 1 else 0)) H) ρ [.bl b] k := by
  intro n σ ρ0 H0 H vs Q hh r q
  cases r with
  | cons r1 r2 =>
    cases r1; cases r2
    exact .inr ⟨b, rfl, q _ _ H h hh .refl (.int _)⟩
theorem cd_abs {i : Int} (h : k (.int (if i < 0 then -i else i))) : CallD K A (fun xs H Q => ∃ i, xs = [.int i] ∧ Q (.int (if i < 0 then -i else i)) H) ρ [.int i] k := by
  intro n σ ρ0 H0 H vs Q hh r q
  cases r with
  | cons r1 r2 =>
    cases r1; cases r2
    exact ⟨i, rfl, q _ _ H h hh .refl (.int _)⟩
theorem cd_gcd {i j : Int} (h : k (.int ((Nat.gcd i.natAbs j.natAbs : Nat) : Int))) : CallD K A rGcd ρ [.int i, .int j] k := by
  intro n σ ρ0 H0 H vs Q hh r q
  cases r with
  | cons r1 r2 =>
    cases r1
    cases r2 with
    | cons r2 r3 =>
      cases r2; cases r3
      exact ⟨i, j, rfl, q _ _ H h hh .refl (.int _)⟩
theorem cd_list {ds : List D} (hx : x = .lst ds ∨ x = .tup ds) (h : k (.lst ds)) : CallD K A (fun xs H Q => ∃ p ys, xs = [.ref p] ∧ (SqL K H p ys ∨ SqT K H p ys) ∧ ∀ l, H l = none → Q (.ref l) (upd H l (.lst ys))) ρ [x] k := by
  intro n σ ρ0 H0 H vs Q hh r q
  cases r with
  | cons r1 r2 =>
    cases r2
    rcases hx with rfl | rfl
    · cases r1 with
      | lst m e ra => exact ⟨_, _, rfl, .inl (.of e), fun l hl => q _ _ _ h (hh.alloc hl) (.alloc hl) (.lst (hh.new hl) upd_same (ra.alloc hl))⟩
    · obtain ⟨a, zs, rfl, e, ra⟩ := r1.sqT
      exact ⟨a, zs, rfl, .inr e, fun l hl => q _ _ _ h (hh.alloc hl) (.alloc hl) (.lst (hh.new hl) upd_same (ra.alloc hl))⟩

/-! ### subscripts, + and * of lists -/
theorem RepAll.atI {M : Addr → Prop} {H : Hp} {vs : List V} {ds : List D} {i : Int} {d : D} (r : RepAll K M H vs ds) (h : L2.atI ds i = some d) : ∃ v, L2.atI vs i = some v ∧ Rep K M H v d := by
  unfold L2.atI at h ⊢
  rw [r.length]
  cases e : ixN ds.length i with
  | none => rw [e] at h; cases h
  | some j =>
    rw [e] at h
    exact r.get h
theorem od_ixL {ds : List D} {i : Int} {d : D} (hi : L2.atI ds i = some d) (h : k d) : OpD K A (rIxL K) ρ (.lst ds) (.int i) k := by
  intro n σ ρ0 H0 H vx vy Q hh r1 r2 q
  cases r2
  cases r1 with
  | lst m e ra =>
    obtain ⟨v, hv, rv⟩ := ra.atI hi
    exact ⟨_, _, i, v, rfl, rfl, .of e, hv, q _ _ H h hh .refl rv⟩
theorem od_ixT {ds : List D} {i : Int} {d : D} (hi : L2.atI ds i = some d) (h : k d) : OpD K A (rIxT K) ρ (.tup ds) (.int i) k := by
  intro n σ ρ0 H0 H vx vy Q hh r1 r2 q
  cases r2
  obtain ⟨a, zs, rfl, e, ra⟩ := r1.sqT
  obtain ⟨v, hv, rv⟩ := ra.atI hi
  exact ⟨a, zs, i, v, rfl, rfl, e, hv, q _ _ H h hh .refl rv⟩
theorem od_cat {xs ys : List D} (hz : xs.length + ys.length ≤ 100000) (h : k (.lst (xs ++ ys))) : OpD K A rCat ρ (.lst xs) (.lst ys) k := by
  intro n σ ρ0 H0 H vx vy Q hh r1 r2 q
  cases r1 with
  | lst m e ra =>
    cases r2 with
    | lst m' e' ra' =>
      refine ⟨_, _, _, _, rfl, rfl, e, e', by rw [ra.length, ra'.length]; exact sz_le hz, fun p hp => q _ _ _ h (hh.alloc hp) (.alloc hp) (.lst (hh.new hp) upd_same ((ra.append ra').alloc hp))⟩
theorem repAll_flat {M : Addr → Prop} {H : Hp} {vs : List V} {ds : List D} (r : RepAll K M H vs ds) : ∀ m : Nat, RepAll K M H (List.replicate m vs).flatten (List.replicate m ds).flatten
  | 0 => .nil
  | m + 1 => by
    rw [List.replicate_succ, List.replicate_succ, List.flatten_cons, List.flatten_cons]
    exact r.append (repAll_flat r m)
theorem od_rep {xs : List D} {m : Int} (h1 : -(2 ^ 63) ≤ m) (h2 : m < 2 ^ 63) (hz : xs.length * m.toNat ≤ 100000) (h : k (.lst (List.replicate m.toNat xs).flatten)) : OpD K A rRep ρ (.lst xs) (.int m) k := by
  intro n σ ρ0 H0 H vx vy Q hh r1 r2 q
  cases r2
  cases r1 with
  | lst _ e ra =>
    refine ⟨_, m, _, rfl, rfl, e, h1, h2, by rw [ra.length]; exact sz_le hz, fun p hp => q _ _ _ h (hh.alloc hp) (.alloc hp) (.lst (hh.new hp) upd_same ((repAll_flat ra _).alloc hp))⟩

/-! ### whole numbers -/
theorem rep_int {M : Addr → Prop} {H : Hp} {i : Int} : Rep K M H (.int i) (.int i) := .int i
theorem od_add {i j : Int} (h : k (.int (i + j))) : OpD K A (rI0 fun i j => .int (i + j)) ρ (.int i) (.int j) k := od_I0 (d := fun i j => .int (i + j)) (fun _ _ _ => .int _) h
theorem od_sub {i j : Int} (h : k (.int (i - j))) : OpD K A (rI0 fun i j => .int (i - j)) ρ (.int i) (.int j) k := od_I0 (d := fun i j => .int (i - j)) (fun _ _ _ => .int _) h
theorem od_mulW {i j : Int} (hc : CMulW i j) (h : k (.int (i * j))) : OpD K A (rI CMulW fun i j => .int (i * j)) ρ (.int i) (.int j) k := od_I (d := fun i j => .int (i * j)) (fun _ _ _ => .int _) hc h
theorem od_mul {i j : Int} (hc : CMul i j) (h : k (.int (i * j))) : OpD K A (rI CMul fun i j => .int (i * j)) ρ (.int i) (.int j) k := od_I (d := fun i j => .int (i * j)) (fun _ _ _ => .int _) hc h
theorem od_mod {i j : Int} (hc : 0 < j) (h : k (.int (i % j))) : OpD K A (rI (fun _ j => 0 < j) fun i j => .int (i % j)) ρ (.int i) (.int j) k := od_I (C := fun _ j => 0 < j) (d := fun i j => .int (i % j)) (fun _ _ _ => .int _) hc h
theorem od_pow {i j : Int} (hc : CPow i j) (h : k (.int (i ^ j.toNat))) : OpD K A (rI CPow fun i j => .int (i ^ j.toNat)) ρ (.int i) (.int j) k := od_I (d := fun i j => .int (i ^ j.toNat)) (fun _ _ _ => .int _) hc h
/-- // by any divisor but 0, of at most 9000 bits -/
def CDivZ (_ j : Int) : Prop := j ≠ 0 ∧ j.natAbs.log2 < 9000
theorem op_fdivZ : OpR X (binaryOp .FloorDiv) (rI CDivZ fun i j => .int (i.fdiv j)) := opI fun _ _ _ _ _ _ _ hc q => floordiv_int hc.1 q (Or.inl (PyProof.noPylong_of_log2 hc.2))
theorem od_fdivZ {i j : Int} (hc : CDivZ i j) (h : k (.int (i.fdiv j))) : OpD K A (rI CDivZ fun i j => .int (i.fdiv j)) ρ (.int i) (.int j) k := od_I (d := fun i j => .int (i.fdiv j)) (fun _ _ _ => .int _) hc h
theorem od_lt {i j : Int} (h : k (.bl (decide (i < j)))) : OpD K A (rI0 fun i j => .bl (decide (i < j))) ρ (.int i) (.int j) k := od_I0 (d := fun i j => .bl (decide (i < j))) (fun _ _ _ => .bl _) h
theorem od_le {i j : Int} (h : k (.bl (decide (i ≤ j)))) : OpD K A (rI0 fun i j => .bl (decide (i ≤ j))) ρ (.int i) (.int j) k := od_I0 (d := fun i j => .bl (decide (i ≤ j))) (fun _ _ _ => .bl _) h
theorem od_gt {i j : Int} (h : k (.bl (decide (j < i)))) : OpD K A (rI0 fun i j => .bl (decide (j < i))) ρ (.int i) (.int j) k := od_I0 (d := fun i j => .bl (decide (j < i))) (fun _ _ _ => .bl _) h
theorem od_ge {i j : Int} (h : k (.bl (decide (j ≤ i)))) : OpD K A (rI0 fun i j => .bl (decide (j ≤ i))) ρ (.int i) (.int j) k := od_I0 (d := fun i j => .bl (decide (j ≤ i))) (fun _ _ _ => .bl _) h
theorem ud_neg {i : Int} (h : k (.int (-i))) : UnD K A (rU fun i => .int (-i)) ρ (.int i) k := by
  intro n σ ρ0 H0 H vx Q hh r1 q
  cases r1
  exact ⟨i, rfl, q _ _ H h hh .refl (.int _)⟩
/-- == of scalars (ints, texts, truths, of one kind) -/
theorem od_eqI {i j : Int} (h : k (.bl (decide (i = j)))) : OpD K A rEq ρ (.int i) (.int j) k := by
  intro n σ ρ0 H0 H vx vy Q hh r1 r2 q
  cases r1; cases r2
  refine ⟨rfl, ?_⟩
  rw [show decide (V.int i = V.int j) = decide (i = j) by rw [dec_int]; rfl]
  exact q _ _ H h hh .refl (.bl _)
theorem od_neI {i j : Int} (h : k (.bl (!decide (i = j)))) : OpD K A rNe ρ (.int i) (.int j) k := by
  intro n σ ρ0 H0 H vx vy Q hh r1 r2 q
  cases r1; cases r2
  refine ⟨rfl, ?_⟩
  rw [show decide (V.int i = V.int j) = decide (i = j) by rw [dec_int]; rfl]
  exact q _ _ H h hh .refl (.bl _)
theorem od_eqS {i j : Str} (h : k (.bl (decide (i = j)))) : OpD K A rEq ρ (.str i) (.str j) k := by
  intro n σ ρ0 H0 H vx vy Q hh r1 r2 q
  cases r1; cases r2
  refine ⟨rfl, ?_⟩
  rw [show decide (V.str i = V.str j) = decide (i = j) by rw [dec_str]; exact Bool.beq_eq_decide_eq i j]
  exact q _ _ H h hh .refl (.bl _)
theorem od_neS {i j : Str} (h : k (.bl (!decide (i = j)))) : OpD K A rNe ρ (.str i) (.str j) k := by
  intro n σ ρ0 H0 H vx vy Q hh r1 r2 q
  cases r1; cases r2
  refine ⟨rfl, ?_⟩
  rw [show decide (V.str i = V.str j) = decide (i = j) by rw [dec_str]; exact Bool.beq_eq_decide_eq i j]
  exact q _ _ H h hh .refl (.bl _)
end
end RD

/-! RD6: each operator once, whatever its operands; slices. -/
namespace RD
open PySem PySem.Spec PyProof.Rows L2

def rAddS : R2 := fun x y H Q => ∃ i j, x = .str i ∧ y = .str j ∧ i.length + j.length ≤ sizeLine ∧ Q (.str (i ++ j)) H
def rAddU (K : PySem.W.Frag) : R2 := fun x y H Q => (rI0 fun i j => .int (i + j)) x y H Q ∨ (rCat x y H Q ∨ (rAddS x y H Q ∨ rCatA K x y H Q))
def rMulU : R2 := fun x y H Q => (rI CMul fun i j => .int (i * j)) x y H Q ∨ ((rI CMulW fun i j => .int (i * j)) x y H Q ∨ rRep x y H Q)
def rFdU : R2 := fun x y H Q => (rI CDivW fun i j => .int (i / j)) x y H Q ∨ (rI CDivZ fun i j => .int (i.fdiv j)) x y H Q
def rModU : R2 := fun x y H Q => (rI (fun _ j => 0 < j) fun i j => .int (i % j)) x y H Q ∨ (rI (fun _ j => j ≠ 0) fun i j => .int (i.fmod j)) x y H Q
def rLtU (K : PySem.W.Frag) : R2 := fun x y H Q => (rI0 fun i j => .bl (decide (i < j))) x y H Q ∨ rLtT K x y H Q
section
variable {X : Cx}
theorem op_addU : OpR X (binaryOp .Add) (rAddU X.K) := op_add.or (op_cat.or (op_add_str.or op_catA))
theorem op_mulU : OpR X (binaryOp .Mult) rMulU := op_mul.or (op_mulW.or op_rep)
theorem op_fdU : OpR X (binaryOp .FloorDiv) rFdU := op_fdivW.or op_fdivZ
theorem op_modU : OpR X (binaryOp .Mod) rModU := op_mod.or op_modN
variable {K : PySem.W.Frag} {A : Amb} {ρ : En} {x y : D} {k : D → Prop}
theorem od_or1 {r r' : R2} (h : OpD K A r ρ x y k) : OpD K A (fun x y H Q => r x y H Q ∨ r' x y H Q) ρ x y k := fun n σ ρ0 H0 H vx vy Q hh r1 r2 q => .inl (h n σ ρ0 H0 H vx vy Q hh r1 r2 q)
theorem od_or2 {r r' : R2} (h : OpD K A r' ρ x y k) : OpD K A (fun x y H Q => r x y H Q ∨ r' x y H Q) ρ x y k := fun n σ ρ0 H0 H vx vy Q hh r1 r2 q => .inr (h n σ ρ0 H0 H vx vy Q hh r1 r2 q)
theorem od_addI {i j : Int} (h : k (.int (i + j))) : OpD K A (rAddU K) ρ (.int i) (.int j) k := od_or1 (od_add h)
theorem od_addL {xs ys : List D} (h : k (.lst (xs ++ ys))) (hz : xs.length + ys.length ≤ 100000) : OpD K A (rAddU K) ρ (.lst xs) (.lst ys) k := od_or2 (r := rI0 fun i j => .int (i + j)) (od_or1 (od_cat hz h))
theorem od_addS0 {i j : Str} (hz : i.length + j.length ≤ 100000) (h : k (.str (i ++ j))) : OpD K A rAddS ρ (.str i) (.str j) k := by
  intro n σ ρ0 H0 H vx vy Q hh r1 r2 q
  cases r1; cases r2
  exact ⟨i, j, rfl, rfl, sz_le hz, q _ _ H h hh .refl (.str _)⟩
theorem od_addS {i j : Str} (h : k (.str (i ++ j))) (hz : i.length + j.length ≤ 100000) : OpD K A (rAddU K) ρ (.str i) (.str j) k := od_or2 (r := rI0 fun i j => .int (i + j)) (od_or2 (r := rCat) (od_or1 (od_addS0 hz h)))
theorem od_addT0 {xs ys : List D} (hz : xs.length + ys.length ≤ 100000) (h : k (.tup (xs ++ ys))) : OpD K A (rCatA K) ρ (.tup xs) (.tup ys) k := by
  intro n σ ρ0 H0 H vx vy Q hh r1 r2 q
  have r1' := r1
  have r2' := r2
  obtain ⟨a, vs, rfl, e1, q1⟩ := r1.sqT
  obtain ⟨b, ws, rfl, e2, q2⟩ := r2.sqT
  refine ⟨a, b, vs, ws, rfl, rfl, e1, e2, by rw [q1.length, q2.length]; exact sz_le hz, fun z => ?_, fun z1 z2 => ?_, fun z1 z2 p hp => ?_⟩
  · have : xs = [] := by
      subst z
      cases q1; rfl
    subst this
    exact q _ _ H h hh .refl r2'
  · have : ys = [] := by
      subst z2
      cases q2; rfl
    subst this
    rw [List.append_nil] at h
    exact q _ _ H h hh .refl r1'
  · exact q _ _ _ h (hh.alloc hp) (.alloc hp) (.tup (.inl ⟨hh.new hp, .inl upd_same⟩) ((q1.append q2).alloc hp))
theorem od_addT {xs ys : List D} (h : k (.tup (xs ++ ys))) (hz : xs.length + ys.length ≤ 100000) : OpD K A (rAddU K) ρ (.tup xs) (.tup ys) k := od_or2 (r := rI0 fun i j => .int (i + j)) (od_or2 (r := rCat) (od_or2 (r := rAddS) (od_addT0 hz h)))
theorem od_mulI {i j : Int} (h : k (.int (i * j))) (hc : CMul i j ∨ CMulW i j) : OpD K A rMulU ρ (.int i) (.int j) k := hc.elim (fun c => od_or1 (od_mul c h)) fun c => od_or2 (r := rI CMul fun i j => .int (i * j)) (od_or1 (od_mulW c h))
theorem od_mulL {xs : List D} {m : Int} (h : k (.lst (List.replicate m.toNat xs).flatten)) (hz : xs.length * m.toNat ≤ 100000) (h1 : -(2 ^ 63) ≤ m) (h2 : m < 2 ^ 63) : OpD K A rMulU ρ (.lst xs) (.int m) k := od_or2 (r := rI CMul fun i j => .int (i * j)) (od_or2 (r := rI CMulW fun i j => .int (i * j)) (od_rep h1 h2 hz h))
theorem od_fdP {i j : Int} (h : k (.int (i / j))) (h1 : 0 < j) (h2 : j.natAbs.log2 < 9000) : OpD K A rFdU ρ (.int i) (.int j) k := od_or1 (od_I (d := fun i j => .int (i / j)) (fun _ _ _ => .int _) ⟨h1, h2⟩ h)
theorem od_fdN {i j : Int} (h : k (.int (i.fdiv j))) (h1 : j ≠ 0) (h2 : j.natAbs.log2 < 9000) : OpD K A rFdU ρ (.int i) (.int j) k := od_or2 (r := rI CDivW fun i j => .int (i / j)) (od_fdivZ ⟨h1, h2⟩ h)
theorem od_modP {i j : Int} (h : k (.int (i % j))) (h1 : 0 < j) : OpD K A rModU ρ (.int i) (.int j) k := od_or1 (od_mod h1 h)
theorem od_powI {i j : Int} (h : k (.int (i ^ j.toNat))) (h1 : CPow i j) : OpD K A (rI CPow fun i j => .int (i ^ j.toNat)) ρ (.int i) (.int j) k := od_pow h1 h
theorem od_xL {ds : List D} {i : Int} {d : D} (h : k d) (hi : L2.atI ds i = some d) : OpD K A (rIx K) ρ (.lst ds) (.int i) k := od_or1 (od_ixL hi h)
theorem od_xT {ds : List D} {i : Int} {d : D} (h : k d) (hi : L2.atI ds i = some d) : OpD K A (rIx K) ρ (.tup ds) (.int i) k := od_or2 (r := rIxL K) (od_or1 (od_ixT hi h))
theorem od_xS0 {z : Str} {i : Int} {c : Nat} (hz : z.length ≤ 100000) (hi : L2.atI z.cps.toList i = some c) (h : k (.str ⟨#[c]⟩)) : OpD K A rIxS ρ (.str z) (.int i) k := by
  intro n σ ρ0 H0 H vx vy Q hh r1 r2 q
  cases r1; cases r2
  exact ⟨z, i, c, rfl, rfl, sz_le hz, hi, q _ _ H h hh .refl (.str _)⟩
theorem od_xS {z : Str} {i : Int} {c : Nat} (h : k (.str ⟨#[c]⟩)) (hz : z.length ≤ 100000) (hi : L2.atI z.cps.toList i = some c) : OpD K A (rIx K) ρ (.str z) (.int i) k := od_or2 (r := rIxL K) (od_or2 (r := rIxT K) (od_xS0 hz hi h))

/-! ### slices -/
/-- xs[lo:hi] by data -/
def cutD (xs : List D) (lo hi : Option Int) : List D := (xs.drop (HT.sIx xs.length 0 lo)).take (HT.sIx xs.length xs.length hi - HT.sIx xs.length 0 lo)
theorem RepAll.cut {M : Addr → Prop} {H : Hp} {vs : List V} {ds : List D} (r : RepAll K M H vs ds) (lo hi : Option Int) : RepAll K M H (cutV vs lo hi) (cutD ds lo hi) := by
  unfold cutV cutD
  rw [r.length]
  exact (r.drop _).take _
/-- a part of a slice: none, or an int -/
def WO (X : Cx) (A : Amb) (e : Option Expr) (ρ : En) (n : Nat) (k : Nat → En → Option Int → Prop) : Prop := match e with
  | none => k n ρ none
  | some e => WE X A e ρ n fun n ρ d => ∃ i, d = .int i ∧ k n ρ (some i)
def SlD (K : PySem.W.Frag) (A : Amb) (r : V → Option Int → Option Int → Hp → VK → Prop) (ρ : En) (x : D) (lo hi : Option Int) (k : D → Prop) : Prop := ∀ n σ ρ0 H0 H vx (Q : VK), Here K A ρ0 H0 n ρ σ H → Rep K (Mt A ρ) H vx x →
  (∀ d v H', k d → Here K A ρ0 H0 n ρ σ H' → Keeps A ρ H ρ H' → Rep K (Mt A ρ) H' v d → Q v H') → r vx lo hi H Q
theorem wo_none {n : Nat} {k : Nat → En → Option Int → Prop} (h : k n ρ none) : WO X A none ρ n k := h
theorem wo_some {n : Nat} {e : Expr} {k : Nat → En → Option Int → Prop} (h : WE X A e ρ n fun n ρ d => ∃ i, d = .int i ∧ k n ρ (some i)) : WO X A (some e) ρ n k := h
/-- what po_none, po_some tell of a part -/
def tO (X : Cx) (e : Option Expr) : TO := match e with
  | none => tNoPart
  | some e => tPart (canE X e)
theorem po_any {e : Option Expr} : PO X e (tO X e) := by
  cases e with
  | none => exact po_none
  | some e => exact po_some pcan
theorem tO_of {e : Option Expr} {n : Nat} {k : Nat → En → Option Int → Prop} (h : WO X A e ρ n k) : ∀ ρ0 H0 σ H, Here X.K A ρ0 H0 n ρ σ H → ∀ Q : Option Int → Hp → Prop, (∀ n' ρ' i H', k n' ρ' i → Here X.K A ρ0 H0 n' ρ' σ H' → Keeps A ρ H ρ' H' → Q i H') → tO X e σ H Q := by
  intro ρ0 H0 σ H hh Q q
  cases e with
  | none => exact q n ρ none H h hh .refl
  | some e =>
    refine h ρ0 H0 σ H hh _ fun n1 ρ1 d v H1 h1 hh1 k1 r1 => ?_
    obtain ⟨i, rfl, h1⟩ := h1
    cases r1
    exact ⟨i, rfl, q n1 ρ1 _ H1 h1 hh1 k1⟩
theorem we_slice {n : Nat} {e : Expr} {lo hi : Option Expr} {p2 pos : Pos} {k : Nat → En → D → Prop} {r : V → Option Int → Option Int → Hp → VK → Prop} (hr : SlR X r) (h : WE X A e ρ n fun n1 ρ1 x => WO X A lo ρ1 n1 fun n2 ρ2 l => WO X A hi ρ2 n2 fun n3 ρ3 u => SlD X.K A r ρ3 x l u (k n3 ρ3)) :
    WE X A (.Subscript e (.Slice lo hi none p2) pos) ρ n k := by
  intro ρ0 H0 σ H hh Q q
  refine canE.of (pe_slice hr pcan po_any po_any) ?_
  refine h ρ0 H0 σ H hh _ fun n1 ρ1 x v H1 h1 hh1 k1 r1 => ?_
  refine tO_of h1 ρ0 H0 σ H1 hh1 _ fun n2 ρ2 l H2 h2 hh2 k2 => ?_
  refine tO_of h2 ρ0 H0 σ H2 hh2 _ fun n3 ρ3 u H3 h3 hh3 k3 => ?_
  exact h3 n3 σ ρ0 H0 H3 v Q hh3 ((r1.up hh1.j k2).up hh2.j k3) fun d v H' kk hh' k4 r4 => q n3 ρ3 d v H' kk hh' (((k1.trans k2).trans k3).trans k4) r4
def rSlU (K : PySem.W.Frag) : V → Option Int → Option Int → Hp → VK → Prop := fun x lo hi H Q => rSlL K x lo hi H Q ∨ (rSlA K x lo hi H Q ∨ rSlS x lo hi H Q)
theorem sl_U : SlR X (rSlU X.K) := sl_list.or (sl_tupA.or sl_str)
theorem sd_L {ds : List D} {lo hi : Option Int} (h : k (.lst (cutD ds lo hi))) : SlD K A (rSlU K) ρ (.lst ds) lo hi k := by
  intro n σ ρ0 H0 H vx Q hh r1 q
  cases r1 with
  | lst m e ra => exact .inl ⟨_, _, rfl, .of e, fun p hp => q _ _ _ h (hh.alloc hp) (.alloc hp) (.lst (hh.new hp) upd_same ((ra.cut lo hi).alloc hp))⟩
theorem sd_T {ds : List D} {lo hi : Option Int} (h : k (.tup (cutD ds lo hi))) : SlD K A (rSlU K) ρ (.tup ds) lo hi k := by
  intro n σ ρ0 H0 H vx Q hh r1 q
  have r0 := r1
  obtain ⟨a, vs, rfl, e, ra⟩ := r1.sqT
  refine .inr (.inl ⟨a, vs, rfl, e, fun z => ?_, fun z p hp => q _ _ _ h (hh.alloc hp) (.alloc hp) (.tup (.inl ⟨hh.new hp, .inl upd_same⟩) ((ra.cut lo hi).alloc hp))⟩)
  have : cutD ds lo hi = ds := by
    unfold cutD
    rw [← ra.length, z.1, z.2, List.drop_zero, Nat.sub_zero, ra.length]
    exact List.take_length
  rw [this] at h
  exact q _ _ H h hh .refl r0
theorem sd_S {z : Str} {lo hi : Option Int} (h : k (.str (cutS z lo hi))) (hz : z.length ≤ 100000) : SlD K A (rSlU K) ρ (.str z) lo hi k := by
  intro n σ ρ0 H0 H vx Q hh r1 q
  cases r1
  exact .inr (.inr ⟨z, rfl, sz_le hz, q _ _ H h hh .refl (.str _)⟩)
end
end RD

/-! RD7: how arguments bind; the law's pen. -/
namespace RD
open PySem PySem.Spec PyProof.Rows L2
section
variable {K : PySem.W.Frag} {x qual : Str} {params : Arguments} {body : List Stmt} {scope : Scope} {dvs : List V} {f : Addr} {fd : FuncData} {ps : List Str}
/-- f(.., k = v): no defaults; g puts the values in the parameters' order -/
theorem kb_none (F : FunD K x qual params body scope [] [] f fd) (n : Nat) (ks : List Str) (g : {α : Type} → List α → List α → List α) (hrel : ∀ {vs zs : List V} {us ws : List Value}, Vals vs us → Vals zs ws → Vals (g vs zs) (g us ws))
    (h : ∀ (kV doc pm : Value) (an : Option Addr) (cdv ct : Value) (us ws : List Value), us.length = n → ws.length = ks.length → bindArgs (PySem.W.fnOf x qual params body scope .none kV doc pm an cdv ct) ⟨us, ks.zip ws⟩ = pure (ps.zip (g us ws))) :
    KBn K fd ps n ks (fun us ws => g us ws) (fun vs zs => g vs zs) := by
  obtain ⟨oc, od, dV, kV, doc, pm, an, cdv, ct, osl, rfl, lk, hcd, hD, hK⟩ := F.ex
  rcases hD with ⟨_, rfl⟩ | ⟨e, _⟩
  · exact ⟨fun s us ws _ l1 l2 => .of_eq (h kV doc pm an cdv ct us ws l1 l2), fun r1 r2 => hrel r1 r2⟩
  · exact absurd rfl e
/-- the same where defaults stand -/
theorem kb_dfl (F : FunD K x qual params body scope dvs [] f fd) (hd : dvs ≠ []) (n : Nat) (ks : List Str) (g : {α : Type} → List α → List α → List α → List α) (hrel : ∀ {vs ds zs : List V} {us its ws : List Value}, Vals vs us → Vals ds its → Vals zs ws → Vals (g vs ds zs) (g us its ws))
    (h : ∀ (T : Addr) (kV doc pm : Value) (an : Option Addr) (cdv ct : Value) (us its ws : List Value), us.length = n → its.length = dvs.length → ws.length = ks.length →
      ∃ k, bindArgs (PySem.W.fnOf x qual params body scope (.ref T) kV doc pm an cdv ct) ⟨us, ks.zip ws⟩ = seqItems? (.ref T) >>= k ∧ k (some its.toArray) = pure (ps.zip (g us its ws))) :
    ∃ its : List Value, KBn K fd ps n ks (fun us ws => g us its ws) (fun vs zs => g vs dvs zs) := by
  obtain ⟨oc, od, dV, kV, doc, pm, an, cdv, ct, osl, rfl, lk, hcd, hD, hK⟩ := F.ex
  rcases hD with ⟨e, _⟩ | ⟨_, T, o, its, m, rfl, lT, oT, rT⟩
  · exact absurd e hd
  · refine ⟨its, fun s us ws kin l1 l2 => ?_, fun r1 r2 => hrel r1 rT r2⟩
    obtain ⟨k, e1, e2⟩ := h T kV doc pm an cdv ct us its ws l1 rT.length.symm l2
    refine BindsTo.of_looks fun M => ?_
    rw [e1]
    exact looks_items kin lT oT (.of_pure e2)
end
section
variable {M : Addr → Prop} {H : Hp} {K : PySem.W.Frag}
theorem RepAll.two {a b : V} {ds : List D} (r : RepAll K M H [a, b] ds) : ∃ x y, ds = [x, y] ∧ Rep K M H a x ∧ Rep K M H b y := by
  cases r with
  | cons r1 r2 =>
    cases r2 with
    | cons r2 r3 => cases r3; exact ⟨_, _, rfl, r1, r2⟩
end
theorem two_of {α : Type} {l : List α} (h : l.length = 2) : ∃ a b, l = [a, b] := by
  match l, h with
  | [a, b], _ => exact ⟨a, b, rfl⟩
theorem one_of {α : Type} {l : List α} (h : l.length = 1) : ∃ a, l = [a] := by
  match l, h with
  | [a], _ => exact ⟨a, rfl⟩
theorem nil_of {α : Type} {l : List α} (h : l.length = 0) : l = [] := List.length_eq_zero_iff.mp h

/-! ### the pen is made -/
section
variable {P : Program} {w : World} {K : PySem.W.Frag} {mg : Str → Option Value} {base : Heap}
/-- the pen of a script of ints -/
def spPen (K : PySem.W.Frag) : Sp := fun vs H Q _ => ∃ (a : Addr) (ns : List Int), vs = [.ref a] ∧ SqL K H a (ns.map V.int) ∧ ns.length ≤ 63 ∧ (∀ z ∈ ns, z.natAbs < 2 ^ 1048576) ∧
  ∀ p c H', (∀ b o, H b = some o → H' b = some o) → H p = none → H c = none → p ≠ c → PenAt p c 1000000 H' → Q (.ref p) H'
end
theorem cut_all {xs : List V} (h : xs.length ≤ 63) : cutV xs none (some 63) = xs := by
  unfold cutV
  have e1 : HT.sIx xs.length 0 none = 0 := HT.sIx_none ..
  have e2 : HT.sIx xs.length xs.length (some 63) = xs.length := by
    have := HT.sIx_nat xs.length xs.length 63
    rw [show (some (63 : Int)) = some ((63 : Nat) : Int) from rfl, this]
    omega
  rw [e1, e2, List.drop_zero, Nat.sub_zero]
  exact List.take_length
theorem bits_abs {z : Int} (h : Builtin.Int.intBits z ≤ 1048576) : z.natAbs < 2 ^ 1048576 := by
  unfold Builtin.Int.intBits at h
  split at h
  · rename_i h0
    have : z = 0 := by simpa using h0
    subst this
    exact Nat.pow_pos (by decide)
  · have h1 : z.natAbs.log2 < 1048576 := by omega
    have hz : z.natAbs ≠ 0 := by
      rename_i h0
      intro e
      have : z = 0 := by omega
      subst this
      simp at h0
    exact (Nat.log2_lt hz).mp h1
end RD

/-! RD8: data that may be shown and compared: how deep, how great. -/
namespace RD
open PySem PySem.Spec PyProof.Rows L2
/-- of at most e levels, of weight at most w, the ints of at most 120 digits -/
structure Sh (e w : Nat) (x : D) : Prop where
  pl : plain x = true
  sb : (py x).showable = true
  cl : (py x).canLay0 = true
  dp : (py x).depth ≤ e
  wt : (py x).weight ≤ w
  ls : (py x).intsShort 121 = true
theorem Sh.mono {e w e' w' : Nat} {x : D} (h : Sh e w x) (h1 : e ≤ e') (h2 : w ≤ w') : Sh e' w' x := ⟨h.pl, h.sb, h.cl, Nat.le_trans h.dp h1, Nat.le_trans h.wt h2, h.ls⟩
theorem log_of {n k : Nat} (hk : 0 < k) (h : n < 2 ^ k) : n.log2 < k := PySem.Flt.log2_lt_of hk h
theorem ten120 : (10 : Nat) ^ 120 < 2 ^ 399 := by decide +kernel
theorem Sh.int {e w : Nat} {i : Int} (h : i.natAbs < 10 ^ 120) (hw : 400 ≤ w := by omega) : Sh e w (.int i) := by
  have h1 : i.natAbs < 2 ^ 399 := Nat.lt_trans h ten120
  have h2 : i.natAbs.log2 < 399 := log_of (by decide) h1
  refine ⟨rfl, ?_, rfl, ?_, ?_, ?_⟩
  · show decide (i.natAbs.log2 < 1920) = true
    exact decide_eq_true (by omega)
  · exact Nat.zero_le _
  · show (if i == 0 then 0 else i.natAbs.log2 + 1) ≤ w
    split <;> omega
  · show decide ((PyData.shown (.int i)).length ≤ 121) = true
    have e := int_text_length_le10 (k := 120) (by decide) h
    refine decide_eq_true ?_
    show (Str.ofString (toString i)).length ≤ 121
    rw [PySem.ofString_length]; exact e
theorem Sh.bl {e w : Nat} (b : Bool) : Sh e w (.bl b) := ⟨rfl, rfl, rfl, Nat.zero_le _, Nat.zero_le _, rfl⟩
theorem Sh.non {e w : Nat} : Sh e w .non := ⟨rfl, rfl, rfl, Nat.zero_le _, Nat.zero_le _, rfl⟩
theorem Sh.str {e w : Nat} {x : Str} (h : PyData.canLay0 (.str x) = true) (hw : x.length ≤ w) : Sh e w (.str x) := ⟨rfl, rfl, h, Nat.zero_le _, hw, rfl⟩
theorem Sh.all {e w : Nat} : ∀ {xs : List D}, (∀ x ∈ xs, Sh e w x) → plains xs = true ∧ PyData.showableAll (pys xs) = true ∧ PyData.canLayAll0 (pys xs) = true ∧ PyData.depthAll (pys xs) ≤ e ∧ PyData.weightAll (pys xs) ≤ xs.length * (w + 1) ∧ PyData.intsShortAll 121 (pys xs) = true
  | [], _ => ⟨rfl, rfl, rfl, Nat.zero_le _, Nat.zero_le _, rfl⟩
  | x :: xs, h => by
    have h0 := h x (List.mem_cons_self ..)
    obtain ⟨h1, h2, h3, h4, h5, h6⟩ := Sh.all (xs := xs) fun y hy => h y (List.mem_cons_of_mem _ hy)
    refine ⟨?_, ?_, ?_, ?_, ?_, ?_⟩
    · show (plain x && plains xs) = true
      rw [h0.pl, h1]; rfl
    · show (PyData.showable (py x) && PyData.showableAll (pys xs)) = true
      rw [h0.sb, h2]; rfl
    · show (PyData.canLay0 (py x) && PyData.canLayAll0 (pys xs)) = true
      rw [h0.cl, h3]; rfl
    · have := h0.dp
      simp only [pys, PyData.depthAll]
      omega
    · have := h0.wt
      simp only [pys, PyData.weightAll, List.length_cons]
      rw [Nat.succ_mul]
      omega
    · show (PyData.intsShort 121 (py x) && PyData.intsShortAll 121 (pys xs)) = true
      rw [h0.ls, h6]; rfl
theorem Sh.lst {e w m e' w' : Nat} {xs : List D} (h : ∀ x ∈ xs, Sh e w x) (hm : xs.length ≤ m) (he : e + 1 ≤ e' := by omega) (hw : m * (w + 1) ≤ w' := by omega) : Sh e' w' (.lst xs) := by
  obtain ⟨h1, h2, h3, h4, h5, h6⟩ := Sh.all h
  refine ⟨h1, h2, h3, ?_, Nat.le_trans h5 (Nat.le_trans (Nat.mul_le_mul_right _ hm) hw), h6⟩
  simp only [py, PyData.depth]
  omega
theorem Sh.tup {e w m e' w' : Nat} {xs : List D} (h : ∀ x ∈ xs, Sh e w x) (hm : xs.length ≤ m) (he : e + 1 ≤ e' := by omega) (hw : m * (w + 1) ≤ w' := by omega) : Sh e' w' (.tup xs) := by
  obtain ⟨h1, h2, h3, h4, h5, h6⟩ := Sh.all h
  refine ⟨h1, h2, h3, ?_, Nat.le_trans h5 (Nat.le_trans (Nat.mul_le_mul_right _ hm) hw), h6⟩
  simp only [py, PyData.depth]
  omega
theorem Sh.hp {e w : Nat} {x : D} (h : Sh e w x) (he : e ≤ 60) : shp x = true := by
  unfold shp SeqAt.shaped
  rw [h.cl]
  exact decide_eq_true (Nat.le_trans h.dp (by omega))
theorem Sh.shw {e w : Nat} {x : D} (h : Sh e w x) (he : e ≤ 60) : shw x = true := by
  unfold RD.shw
  rw [h.pl, h.sb, PyData.hasDict_of_canLay _ h.cl]
  exact decide_eq_true (Nat.le_trans h.dp he)
theorem Sh.len {e w : Nat} {x : D} (h : Sh e w x) (hw : w ≤ 100000) : (py x).shown.length ≤ sizeLine := by
  have h1 := PyData.shown_le 121 (by decide) _ (PyData.leavesShort_of_canLay0 121 _ h.cl h.ls)
  have h2 := h.wt
  rw [sizeLine_eq]
  omega
section
variable {X : Cx} {K : PySem.W.Frag} {A : Amb} {ρ : En} {x y : D} {k : D → Prop}
/-- the text of a datum -/
def rp (x : D) : Str := (py x).shown
theorem cd_repr' {e w : Nat} (h : k (.str (rp x))) (hx : Sh e w x) (he : e ≤ 60 := by decide) (hw : w ≤ 100000 := by decide) : CallD K A (rRepr K) ρ [x] k := cd_repr (hx.shw he) (hx.len hw) h
theorem od_eq' {e w e' w' : Nat} (h : k (.bl (eqD x y))) (hx : Sh e w x) (hy : Sh e' w' y) (he : e ≤ 60 := by decide) (he' : e' ≤ 60 := by decide) : OpD K A (rEqD K) ρ x y k := od_eq hx.pl hy.pl (hx.hp he) (hy.hp he') h
theorem od_ne' {e w e' w' : Nat} (h : k (.bl (!eqD x y))) (hx : Sh e w x) (hy : Sh e' w' y) (he : e ≤ 60 := by decide) (he' : e' ≤ 60 := by decide) : OpD K A (rNeD K) ρ x y k := od_ne hx.pl hy.pl (hx.hp he) (hy.hp he') h
/-- the same datum on both sides -/
theorem eqD_self {e w : Nat} {x : D} (h : Sh e w x) : eqD x x = true := PySem.SeqAt.eqv_refl_plain _ (PyData.plain_of_canLay0 _ h.cl)
end
end RD
namespace RD
open PySem PySem.Spec PyProof.Rows L2
section
variable {X : Cx} {A : Amb} {ρ : En} {n : Nat} {st : Stmt} {sts : List Stmt} {E : En4}
/-- ways that join again -/
theorem ws_cut (I : Nat → En → Prop) (h : WS1 X A st ρ n { E with nx := I }) (h2 : ∀ n ρ, I n ρ → WS X A sts ρ n E) : WS X A (st :: sts) ρ n E := by
  refine ws_cons ?_
  intro ρ0 H0 σ H hh D f
  exact h ρ0 H0 σ H hh D (f.mono h2 (fun _ _ _ z => z) (fun _ _ z => z) fun _ _ z => z)
end
end RD

/-! RD9: the law's def: the pen is made, then all is deep data. -/
namespace RD
open PySem PySem.Spec PyProof.Rows L2
/-- the law's promise -/
def spLaw (K : PySem.W.Frag) : Sp := fun vs H Q _ => ∃ (a : Addr) (ns : List Int), vs = [.ref a] ∧ SqL K H a (ns.map V.int) ∧ ns.length ≤ 63 ∧ (∀ z ∈ ns, z.natAbs < 2 ^ 1048576) ∧ ∀ H', Q (.bl true) H'
theorem paired_none {K : PySem.W.Frag} {M : Addr → Prop} {H : Hp} : ∀ m : Nat, Paired (SlotR K M H) (List.replicate m none) (List.replicate m none)
  | 0 => .nil
  | m + 1 => .cons trivial (paired_none m)
theorem owns_none : ∀ m : Nat, owns (List.replicate m none) = []
  | 0 => rfl
  | m + 1 => by rw [List.replicate_succ]; show [] ++ owns (List.replicate m none) = []; rw [owns_none m]; rfl
/-- the names behind the pen's making; script at 0, pen at 1 -/
def startL (m : Nat) (v : V) (p : Addr) : En := some (.dat (.raw v)) :: some (.dat (.raw (.ref p))) :: List.replicate m none
section
variable {X : Cx} {K : PySem.W.Frag} {rest : List Stmt} {D : Ends} {H : Hp} {m : Nat} {N : List Str} {a : Addr} {ns : List Int}
theorem law_start (hN : N.length = m + 2) (hS : SqL X.K H a (ns.map V.int)) (hlen : ns.length ≤ 63) (hbits : ∀ z ∈ ns, z.natAbs < 2 ^ 1048576)
    (hrest : ∀ (A : Amb) (p c : Addr) (v : V), A.pen = some (p, c) → WS X A rest (startL m v p) 1000000 { nx := fun _ _ => False, rt := fun _ _ d => d = .bl true }) (hD : ∀ H', D.rt (.bl true) H') :
    tSeq (tAsg (tCall (spPen X.K) [] E0 (tCons (tVar 0) tNil)) (gName 1)) (canSs X rest) D (L2.start N [.ref a]) H := by
  refine ⟨.ref a, ?_, a, ns, rfl, hS, hlen, hbits, fun p c H' old hp hc hpc pen => ?_⟩
  · rfl
  · obtain ⟨at_, rst, cs, e1, e2, r⟩ := pen
    have hs : (L2.start N [.ref a]).set 1 (some (.ref p)) = some (.ref a) :: some (.ref p) :: List.replicate m none := by
      unfold L2.start
      rw [hN]
      rfl
    show canSs X rest D ((L2.start N [.ref a]).set 1 (some (.ref p))) H'
    rw [hs]
    have ho : owns (startL m (.ref a) p) = [] := by
      show [] ++ ([] ++ owns (List.replicate m none)) = []
      rw [owns_none]; rfl
    refine hrest ⟨[p, c], H', some (p, c)⟩ p c (.ref a) rfl (startL m (.ref a) p) H' (some (.ref a) :: some (.ref p) :: List.replicate m none) H' ⟨.refl, ⟨fun _ _ _ => rfl, ?_, by simp, by simp, hpc, at_, rst, cs, e1, e2, r⟩, ⟨.cons (Rep.raw _) (.cons (Rep.raw _) (paired_none m)), ?_⟩⟩ D ⟨?_, ?_, ?_, ?_⟩
    · intro b hb
      rcases List.mem_cons.mp hb with rfl | hb
      · rw [e1]; simp
      · rw [List.mem_singleton.mp hb, e2]; simp
    · rw [ho]
      simpa using hpc
    · intro n ρ σ H h _
      exact h.elim
    · intro n ρ σ H d v h _ rr
      cases h
      cases rr
      exact hD _
    · intro n ρ σ H h _
      exact h.elim
    · intro n ρ σ H h _
      exact h.elim
end
/-- what the pen's making leaves -/
theorem pen_made {H : Hp} {p c : Addr} {ns : List Int} (h1 : H c = none) (h2 : upd H c (.lst (ns.map V.int)) p = none) (hl : ns.length ≤ 63) (hb : ∀ z ∈ ns, z.natAbs < 2 ^ 1048576) :
    (∀ b o, H b = some o → upd (upd H c (.lst (ns.map V.int))) p (.lst [.ref c, .int 0, .int 0]) b = some o) ∧ H p = none ∧ p ≠ c ∧ PenAt p c 1000000 (upd (upd H c (.lst (ns.map V.int))) p (.lst [.ref c, .int 0, .int 0])) := by
  have hpc : p ≠ c := fun e => by rw [e, upd_same] at h2; cases h2
  have hp : H p = none := by rwa [upd_ne hpc] at h2
  refine ⟨fun b o e => ?_, hp, hpc, 0, 0, ns, upd_same, by rw [upd_ne hpc.symm, upd_same], by decide, by decide, by decide, by show 0 < 2 ^ 1048600; exact Nat.two_pow_pos _, hl, hb⟩
  rw [upd_ne (ne_of_none e hp), upd_ne (ne_of_none e h1)]
  exact e
end RD
namespace RD
open PySem PySem.Spec PyProof.Rows L2
theorem RepAll.reverse {K : PySem.W.Frag} {M : Addr → Prop} {H : Hp} : ∀ {vs : List V} {ds : List D}, RepAll K M H vs ds → RepAll K M H vs.reverse ds.reverse
  | _, _, .nil => .nil
  | _, _, .cons r t => by
    rw [List.reverse_cons, List.reverse_cons]
    exact (RepAll.reverse t).append (.cons r .nil)
section
variable {X : Cx} {A : Amb} {ρ : En} {n : Nat} {st : Stmt} {sts : List Stmt} {E : En4} {K : PySem.W.Frag} {x y : D} {k : D → Prop}
/-- a statement that changes nothing if it goes on -/
theorem ws_stay (h : WS1 X A st ρ n { E with nx := fun n' ρ' => n' = n ∧ ρ' = ρ }) (h2 : WS X A sts ρ n E) : WS X A (st :: sts) ρ n E :=
  ws_cut (fun n' ρ' => n' = n ∧ ρ' = ρ) h fun _ _ z => by
    obtain ⟨rfl, rfl⟩ := z
    exact h2
/-- two of the same -/
theorem od_ne_same {e w : Nat} (h : k (.bl false)) (hx : Sh e w x) (hy : y = x) (he : e ≤ 60 := by decide) : OpD K A (rNeD K) ρ x y k := by
  subst hy
  refine od_ne' ?_ hx hx he he
  rw [eqD_self hx]
  exact h
theorem od_eq_same {e w : Nat} (h : k (.bl true)) (hx : Sh e w x) (hy : y = x) (he : e ≤ 60 := by decide) : OpD K A (rEqD K) ρ x y k := by
  subst hy
  refine od_eq' ?_ hx hx he he
  rw [eqD_self hx]
  exact h
theorem od_ne_str {i j : Str} (h : k (.bl false)) (e : i = j) : OpD K A rNe ρ (.str i) (.str j) k := by
  subst e
  refine od_neS ?_
  rw [decide_eq_true rfl]
  exact h
end
theorem Sh.two {e w e' w' : Nat} {x y : D} (hx : Sh e w x) (hy : Sh e w y) (he : e + 1 ≤ e' := by omega) (hw : 2 * (w + 1) ≤ w' := by omega) : Sh e' w' (.tup [x, y]) := Sh.tup (m := 2) (e := e) (w := w) (fun z hz => by
  rcases List.mem_cons.mp hz with rfl | hz
  · exact hx
  · rw [List.mem_singleton.mp hz]; exact hy) (Nat.le_refl _) he hw
theorem all_nil {α : Type} {p : α → Prop} : ∀ x ∈ ([] : List α), p x := fun x h => nomatch h
theorem all_cons {α : Type} {p : α → Prop} {a : α} {l : List α} (h : p a) (t : ∀ x ∈ l, p x) : ∀ x ∈ a :: l, p x := fun x hx => by
  rcases List.mem_cons.mp hx with rfl | hx
  · exact h
  · exact t x hx
end RD
namespace RD
open PySem PySem.Spec PyProof.Rows L2
section
variable {K : PySem.W.Frag} {x q : Str} {params : Arguments} {body : List Stmt} {scope : Scope} {f T : Addr} {oc kV doc pm cdv ct oc2 : Value} {od an od2 : Option Addr} {osl sl2 : Array (Option Value)} {fd : FuncData}
/-- a def without defaults -/
theorem fd_mk (l : K.lookup f = some ⟨oc, od, .func (PySem.W.fnOf x q params body scope .none kV doc pm an cdv ct), osl⟩) (c : PySem.W.codeIn K cdv q = true) (k : PySem.W.keepIn K (.ref f) = true) : FunD K x q params body scope [] [] f (PySem.W.fnOf x q params body scope .none kV doc pm an cdv ct) :=
  ⟨⟨oc, od, .none, kV, doc, pm, an, cdv, ct, osl, rfl, l, c, .inl ⟨rfl, rfl⟩, .inl rfl⟩, k⟩
/-- a def with defaults -/
theorem fd_mkD {v : V} {dvs : List V} {its : Array Value} {n : Nat} (l : K.lookup f = some ⟨oc, od, .func (PySem.W.fnOf x q params body scope (.ref T) kV doc pm an cdv ct), osl⟩) (c : PySem.W.codeIn K cdv q = true) (k : PySem.W.keepIn K (.ref f) = true)
    (lT : K.lookup T = some ⟨oc2, od2, .seq its n, sl2⟩) (r : Vals (v :: dvs) its.toList) : FunD K x q params body scope (v :: dvs) [] f (PySem.W.fnOf x q params body scope (.ref T) kV doc pm an cdv ct) :=
  ⟨⟨oc, od, .ref T, kV, doc, pm, an, cdv, ct, osl, rfl, l, c, .inr ⟨List.cons_ne_nil _ _, T, _, its.toList, n, rfl, lT, by simp, r⟩, .inl rfl⟩, k⟩
end
end RD

/-! RD10: list comprehensions. -/
namespace RD
open PySem PySem.Spec PyProof.Rows L2
/-- what the block may read: one's own lists are hidden, the block's own names are unset -/
def hid : En → En := List.map fun s => match s with
  | some (.dat d) => some (.dat d)
  | _ => none
def wipeD (ρ : En) : List Nat → En
  | [] => ρ
  | v :: vs => (wipeD ρ vs).set v none
theorem owns_hid : ∀ ρ : En, owns (hid ρ) = []
  | [] => rfl
  | s :: ρ => by
    show addrs _ ++ owns (hid ρ) = []
    rw [owns_hid ρ, List.append_nil]
    match s with
    | none => rfl
    | some (.dat d) => rfl
    | some (.own p ds) => rfl
    | some (.ownK p ds) => rfl
theorem owns_wipeD (ρ : En) (h : owns ρ = []) : ∀ vs : List Nat, owns (wipeD ρ vs) = []
  | [] => h
  | v :: vs => by
    have h1 := owns_wipeD ρ h vs
    have h2 : (owns ((wipeD ρ vs).set v none)).Sublist (owns (wipeD ρ vs)) := owns_set_dat rfl
    rw [h1] at h2
    exact List.sublist_nil.mp h2
section
variable {K : PySem.W.Frag} {M : Addr → Prop} {H : Hp}
theorem paired_hid : ∀ {ρ : En} {σ : L2.St}, Paired (SlotR K M H) ρ σ → Paired (SlotR K M H) (hid ρ) σ
  | _, _, .nil => .nil
  | _, _, .cons (a := s) (b := v) r t => by
    refine .cons ?_ (paired_hid t)
    match s, v, r with
    | none, _, _ => trivial
    | some (.dat d), some v, r => exact r
    | some (.dat d), none, r => exact r
    | some (.own p ds), _, _ => trivial
    | some (.ownK p ds), _, _ => trivial
theorem paired_wipe {ρ : En} {σ : L2.St} (h : Paired (SlotR K M H) ρ σ) : ∀ vs : List Nat, Paired (SlotR K M H) (wipeD ρ vs) (L2.wipe σ vs)
  | [] => h
  | v :: vs => paired_set (F := SlotR K M H) (a := none) (b := none) trivial v (paired_wipe h vs)
end
theorem wipe_same : ∀ {σ τ : L2.St} {vs : List Nat}, σ.length = τ.length → (∀ j, ¬ j ∈ vs → σ[j]? = τ[j]?) → L2.wipe σ vs = L2.wipe τ vs := fun {σ τ vs} hl h => by
  have key : ∀ (vs : List Nat) (j : Nat) (σ : L2.St), (L2.wipe σ vs)[j]? = if j ∈ vs then (if j < σ.length then some none else none) else σ[j]? := by
    intro vs
    induction vs with
    | nil => intro j σ; rfl
    | cons v vs ih =>
      intro j σ
      unfold L2.wipe
      by_cases e : v = j
      · subst e
        rw [if_pos (List.mem_cons_self ..)]
        by_cases hv : v < σ.length
        · rw [if_pos hv, List.getElem?_set_self (by rw [L2.wipe_length]; exact hv)]
        · rw [if_neg hv, List.getElem?_eq_none (by rw [List.length_set, L2.wipe_length]; omega)]
      · rw [List.getElem?_set_ne e, ih]
        by_cases hm : j ∈ vs
        · rw [if_pos hm, if_pos (List.mem_cons_of_mem _ hm)]
        · rw [if_neg hm, if_neg (fun z => (List.mem_cons.mp z).elim (fun q => e q.symm) hm)]
  apply List.ext_getElem?
  intro j
  rw [key, key, hl]
  by_cases hm : j ∈ vs
  · rw [if_pos hm, if_pos hm]
  · rw [if_neg hm, if_neg hm]; exact h j hm
theorem wipe_idem (σ : L2.St) (vs : List Nat) : L2.wipe (L2.wipe σ vs) vs = L2.wipe σ vs := by
  refine wipe_same (L2.wipe_length σ vs) fun j hj => ?_
  have : ∀ (vs : List Nat), ¬ j ∈ vs → (L2.wipe σ vs)[j]? = σ[j]? := by
    intro vs
    induction vs with
    | nil => intro _; rfl
    | cons v vs ih =>
      intro h
      unfold L2.wipe
      rw [List.getElem?_set_ne (fun z => h (by rw [z]; exact List.mem_cons_self ..)), ih fun z => h (List.mem_cons_of_mem _ z)]
  exact this vs hj
/-- a clause's tests: none, one -/
def WTs (X : Cx) (A : Amb) (ifs : List Expr) (ρ : En) (n : Nat) (k : Nat → En → Bool → Prop) : Prop := match ifs with
  | [] => k n ρ true
  | [c] => WB X A c ρ n k
  | _ => False
section
variable {X : Cx} {A : Amb} {ρ : En} {n : Nat} {elt tg iter : Expr} {ifs : List Expr} {scope : Scope} {own : List (Str × Nat)} {pos : Pos} {kl : Nat → En → List D → Prop}
abbrev Blk (X : Cx) (scope : Scope) (s : Shared) (H : Hp) (C : Addr) (cl : List (Str × Addr)) (fp : List Addr) : Cx := X.blk s H scope (compEnvC scope cl C X.env) fp
theorem wts_nil {k : Nat → En → Bool → Prop} (h : k n ρ true) : WTs X A [] ρ n k := h
theorem wts_one {c : Expr} {k : Nat → En → Bool → Prop} (h : WB X A c ρ n k) : WTs X A [c] ρ n k := h
def tIfs (X : Cx) (scope : Scope) (ifs : List Expr) : TT := match ifs with
  | [] => tYes
  | [c] => fun σ H Q => ∀ s H0 C cl fp, canT (Blk X scope s H0 C cl fp) c σ H Q
  | _ => fun _ _ _ => False
theorem pts_any (s : Shared) (H : Hp) (C : Addr) (cl : List (Str × Addr)) (fp : List Addr) : PTs (Blk X scope s H C cl fp) ifs (tIfs X scope ifs) := by
  match ifs with
  | [] => exact pts_nil
  | [c] => exact pts_one ⟨fun pins s' σ H' Q I h => (tcan (X := Blk X scope s H C cl fp) (e := c)).run pins s' σ H' Q I (h s H C cl fp)⟩
  | a :: b :: r => exact ⟨fun _ _ _ _ _ _ h => h.elim⟩
/-- all contexts of the block -/
def AllB (X : Cx) (scope : Scope) (P : Cx → Prop) : Prop := ∀ (s : Shared) (H : Hp) (C : Addr) (cl : List (Str × Addr)) (fp : List Addr), P (Blk X scope s H C cl fp)
/-- the state in which a turn of the block begins -/
theorem Here.block {K : PySem.W.Frag} {ρ1 ρ0 : En} {H1 H0 H : Hp} {σ : L2.St} {D : Addr} {ds : List RD.D} {vs : List V} (h : Here K A ρ1 H1 n ρ σ H) (o : Own1 K A ρ0 H0 ρ σ H D vs ds) (ws : List Nat) :
    Here K { W := D :: (owns ρ ++ A.W), H0 := H, pen := A.pen } (wipeD (hid ρ) ws) H n (wipeD (hid ρ) ws) (L2.wipe σ ws) H ∧ ∀ a, Mt { W := D :: (owns ρ ++ A.W), H0 := H, pen := A.pen } (wipeD (hid ρ) ws) a ↔ (Mt A ρ a ∨ a = D) := by
  have ho : owns (wipeD (hid ρ) ws) = [] := owns_wipeD _ (owns_hid ρ) ws
  have hm : ∀ a, Mt { W := D :: (owns ρ ++ A.W), H0 := H, pen := A.pen } (wipeD (hid ρ) ws) a ↔ (Mt A ρ a ∨ a = D) := fun a => by
    unfold Mt
    rw [ho]
    simp only [List.not_mem_nil, false_or, List.mem_cons, List.mem_append]
    constructor
    · rintro (z | z | z)
      · exact .inr z
      · exact .inl (.inl z)
      · exact .inl (.inr z)
    · rintro ((z | z) | z)
      · exact .inr (.inl z)
      · exact .inr (.inr z)
      · exact .inl z
  refine ⟨⟨.refl, ⟨fun _ _ _ => rfl, fun a ha => ?_, ?_⟩, ⟨?_, ?_⟩⟩, hm⟩
  · rcases List.mem_cons.mp ha with rfl | ha
    · rw [o.ob]; simp
    · exact h.tracked a ha
  · have j := h.j.2.2
    show match A.pen with
      | none => True
      | some (p, c) => p ∈ D :: (owns ρ ++ A.W) ∧ c ∈ D :: (owns ρ ++ A.W) ∧ p ≠ c ∧ PenAt p c n H
    cases hp : A.pen with
    | none => trivial
    | some pc =>
      obtain ⟨p, c⟩ := pc
      rw [hp] at j
      obtain ⟨j1, j2, j3, j4⟩ := j
      exact ⟨List.mem_cons_of_mem _ (List.mem_append_right _ j1), List.mem_cons_of_mem _ (List.mem_append_right _ j2), j3, j4⟩
  · refine paired_mono (fun a b r => slotR_anti (fun x hx => (hm x).mp hx) r) (paired_wipe (paired_hid o.sl) ws)
  · rw [ho, List.nil_append]
    exact List.nodup_cons.mpr ⟨fun z => o.nm (List.mem_append.mp z), h.sat.nd⟩
/-- the list one longer, behind a turn of the block -/
theorem Here.grown {K : PySem.W.Frag} {ρ1 ρ0 ρ4 : En} {H1 H0 H H4 : Hp} {σ σ4 : L2.St} {D : Addr} {ds : List RD.D} {vs : List V} {n' : Nat} {y : V} {d : RD.D} (h : Here K A ρ1 H1 n ρ σ H) (o : Own1 K A ρ0 H0 ρ σ H D vs ds) (hD : H1 D = none) (ws : List Nat)
    (h4 : Here K { W := D :: (owns ρ ++ A.W), H0 := H, pen := A.pen } (wipeD (hid ρ) ws) H n' ρ4 σ4 H4) (r : Rep K (Mt { W := D :: (owns ρ ++ A.W), H0 := H, pen := A.pen } ρ4) H4 y d) :
    H4 D = some (.lst vs) ∧ Here K A ρ1 H1 n' ρ σ (upd H4 D (.lst (vs ++ [y]))) ∧ Own1 K A ρ0 H0 ρ σ (upd H4 D (.lst (vs ++ [y]))) D (vs ++ [y]) (ds ++ [d]) ∧ (Here K A ρ1 H1 n' ρ σ H4 ∧ Own1 K A ρ0 H0 ρ σ H4 D vs ds) := by
  have isp : ∀ a, Amb.isPen { W := D :: (owns ρ ++ A.W), H0 := H, pen := A.pen } a ↔ A.isPen a := fun a => Iff.rfl
  have ho : owns (wipeD (hid ρ) ws) = [] := owns_wipeD _ (owns_hid ρ) ws
  have penM : ∀ a, A.isPen a → a ∈ A.W := fun a z => by
    have j := h.j.2.2
    unfold Amb.isPen at z
    cases hp : A.pen with
    | none => rw [hp] at z; exact z.elim
    | some pc =>
      obtain ⟨p, c⟩ := pc
      rw [hp] at z j
      rw [show a = p from z]; exact j.1
  have nd := h.sat.nd
  have ownP : ∀ a ∈ owns ρ, ¬ A.isPen a := fun a ha z => (List.nodup_append.mp nd).2.2 a ha a (penM a z) rfl
  have dP : ¬ A.isPen D := fun z => o.nm (.inr (penM D z))
  have st : ∀ a u, ¬ A.isPen a → H a = some u → H4 a = some u := fun a u hp e => (h4.kp a u (by rw [ho]; simp) hp e).1
  have hDv : H4 D = some (.lst vs) := st _ _ dP o.ob
  have up : ∀ a u, ¬ (Mt A ρ a ∨ a = D) → H a = some u → upd H4 D (.lst (vs ++ [y])) a = some u ∧ ¬ (Mt A ρ a ∨ a = D) := fun a u m e => by
    refine ⟨?_, m⟩
    rw [upd_ne fun z => m (.inr z)]
    exact st a u (fun z => m (.inl (.inr (penM a z)))) e
  have up4 : ∀ a u, ¬ (Mt A ρ a ∨ a = D) → H a = some u → H4 a = some u ∧ ¬ (Mt A ρ a ∨ a = D) := fun a u m e => ⟨st a u (fun z => m (.inl (.inr (penM a z)))) e, m⟩
  have slots : ∀ {H' : Hp}, (∀ a u, ¬ (Mt A ρ a ∨ a = D) → H a = some u → H' a = some u ∧ ¬ (Mt A ρ a ∨ a = D)) → (∀ a ∈ owns ρ, H' a = H a) → Paired (SlotR K (fun a => Mt A ρ a ∨ a = D) H') ρ σ := fun {H'} upp same => by
    have : ∀ {ρ' : En} {σ' : L2.St}, Paired (SlotR K (fun a => Mt A ρ a ∨ a = D) H) ρ' σ' → (∀ a ∈ owns ρ', H' a = H a) → Paired (SlotR K (fun a => Mt A ρ a ∨ a = D) H') ρ' σ' := by
      intro ρ' σ' r
      induction r with
      | nil => intro _; exact .nil
      | @cons s v l m r t ih =>
        intro hn
        refine .cons ?_ (ih fun a ha => hn a (by show a ∈ addrs s ++ owns l; exact List.mem_append_right _ ha))
        cases s with
        | none => cases v <;> trivial
        | some s =>
          cases v with
          | none => cases s <;> exact r
          | some v =>
            cases s with
            | dat d => exact Rep.mono upp d r
            | own q ds =>
              obtain ⟨e0, vs, e1, e2⟩ := r
              exact ⟨e0, vs, by rw [hn q (by show q ∈ [q] ++ owns l; simp)]; exact e1, RepAll.mono upp ds e2⟩
            | ownK q ds =>
              obtain ⟨e0, vs, e1, e2⟩ := r
              exact ⟨e0, vs, by rw [hn q (by show q ∈ [q] ++ owns l; simp)]; exact e1, RepKV.mono upp ds e2⟩
    exact this o.sl same
  have same4 : ∀ a ∈ owns ρ, H4 a = H a := fun a ha => by
    have := h4.j.1 a (List.mem_cons_of_mem _ (List.mem_append_left _ ha)) (ownP a ha)
    exact this
  have ownD : ∀ a ∈ owns ρ, a ≠ D := fun a ha z => o.nm (.inl (z ▸ ha))
  have wD : ∀ a ∈ A.W, a ≠ D := fun a ha z => o.nm (.inr (z ▸ ha))
  have sl4 := slots up4 same4
  have slU := slots up (fun a ha => by rw [upd_ne (ownD a ha)]; exact same4 a ha)
  have here : ∀ {H' : Hp}, (∀ a u, a ≠ D → ¬ A.isPen a → H a = some u → H' a = some u) → (∀ a ∈ A.W, H' a = H4 a) → Paired (SlotR K (fun a => Mt A ρ a ∨ a = D) H') ρ σ → Here K A ρ1 H1 n' ρ σ H' := fun {H'} k w sl => by
    refine ⟨fun a u h1 h2 e => ?_, ⟨fun a ha hp => ?_, fun a ha => ?_, ?_⟩, ⟨paired_mono (fun _ _ r => slotR_anti (fun x hx => .inl hx) r) sl, nd⟩⟩
    · obtain ⟨e1, h3⟩ := h.kp a u h1 h2 e
      exact ⟨k a u (fun z => by rw [z, hD] at e; cases e) h2 e1, h3⟩
    · rw [w a ha, h4.j.1 a (List.mem_cons_of_mem _ (List.mem_append_right _ ha)) hp]
      exact h.j.1 a ha hp
    · rw [w a ha]
      exact h4.j.2.1 a (List.mem_cons_of_mem _ (List.mem_append_right _ ha))
    · have j4 := h4.j.2.2
      have j := h.j.2.2
      cases hp : A.pen with
      | none => trivial
      | some pc =>
        obtain ⟨p, c⟩ := pc
        rw [hp] at j
        have j4' : p ∈ D :: (owns ρ ++ A.W) ∧ c ∈ D :: (owns ρ ++ A.W) ∧ p ≠ c ∧ PenAt p c n' H4 := by
          have z := j4
          simp only [hp] at z
          exact z
        obtain ⟨at_, rest, ns, e1, e2, rr⟩ := j4'.2.2.2
        exact ⟨j.1, j.2.1, j.2.2.1, at_, rest, ns, by rw [w p j.1]; exact e1, by rw [w c j.2.1]; exact e2, rr⟩
  have mtU : ∀ a, (Mt A ρ a ∨ a = D) → Mt { W := D :: (owns ρ ++ A.W), H0 := H, pen := A.pen } ρ4 a := fun a z => by
    refine .inr ?_
    rcases z with (z | z) | z
    · exact List.mem_cons_of_mem _ (List.mem_append_left _ z)
    · exact List.mem_cons_of_mem _ (List.mem_append_right _ z)
    · rw [z]; exact List.mem_cons_self ..
  have upR : ∀ a u, ¬ Mt { W := D :: (owns ρ ++ A.W), H0 := H, pen := A.pen } ρ4 a → H4 a = some u → upd H4 D (.lst (vs ++ [y])) a = some u ∧ ¬ (Mt A ρ a ∨ a = D) := fun a u m e => ⟨by rw [upd_ne fun z => m (mtU a (.inr z))]; exact e, fun z => m (mtU a z)⟩
  refine ⟨hDv, here (fun a u h1 h2 e => by rw [upd_ne h1]; exact st a u h2 e) (fun a ha => upd_ne (wD a ha)) slU, ⟨upd_same, o.nm, o.nw, slU, ?_⟩, here (fun a u _ h2 e => st a u h2 e) (fun _ _ => rfl) sl4, ⟨hDv, o.nm, o.nw, sl4, RepAll.mono up4 ds o.rp⟩⟩
  exact (RepAll.mono up ds o.rp).append (.cons (Rep.mono upR d r) .nil)
theorem lc_run (own : List (Str × Nat)) (I : Nat → Nat → List D → Prop)
    (h : WI X A tg iter ρ n fun n' ρ' ds => I 0 n' [] ∧ (∀ (i : Nat) (d : D) (n : Nat) (acc : List D), ds[i]? = some d → I i n acc → ∀ (A' : Amb), A'.pen = A.pen →
        AllB X scope fun Y => WG' Y A' tg (fun j => j ∈ own.map (·.2)) d (wipeD (hid ρ') (own.map (·.2))) n fun n ρ2 => AllB X scope fun Y => WTs Y A' ifs ρ2 n fun n ρ3 b =>
          (b = true → AllB X scope fun Y => WE Y A' elt ρ3 n fun n _ y => acc.length < 100000 ∧ I (i + 1) n (acc ++ [y])) ∧ (b = false → I (i + 1) n acc)) ∧ ∀ n acc, I ds.length n acc → kl n ρ' acc)
    {ρ0 : En} {H0 : Hp} {σ : L2.St} {H : Hp} (hh : Here X.K A ρ0 H0 n ρ σ H) (Q : VK) (q : ∀ n' ρ' ds p vs H', kl n' ρ' ds → Here X.K A ρ0 H0 n' ρ' σ H' → Keeps A ρ H ρ' H' → Own1 X.K A ρ0 H0 ρ' σ H' p vs ds → Q (.ref p) H') :
    tLc (canI X tg iter) (fun v σ H Q => ∀ s H0 C cl fp, canG (Blk X scope s H0 C cl fp) tg v σ H Q) (tIfs X scope ifs) (fun σ H Q => ∀ s H0 C cl fp, canE (Blk X scope s H0 C cl fp) elt σ H Q) (own.map (·.2)) σ H Q := by
  refine h ρ0 H0 σ H hh _ fun n1 ρ1 ds Jt H1 h1 hh1 k1 src => ?_
  obtain ⟨i0, turn, fin⟩ := h1
  intro D hD
  have o1 : Own1 X.K A ρ0 H0 ρ1 σ (upd H1 D (.lst [])) D [] [] := hh1.own1 hD .nil
  refine ⟨fun i m H => m = ds.length - i ∧ i ≤ ds.length ∧ ∃ n acc vs, I i n acc ∧ Here X.K A ρ1 H1 n ρ1 σ H ∧ Own1 X.K A ρ0 H0 ρ1 σ H D vs acc, ⟨ds.length, by simp, Nat.zero_le _, n1, [], [], i0, hh1.rebase (ρ1 := ρ1) (H1 := H1) |>.alloc hD, o1⟩, ?_⟩
  rintro i m H2 ⟨rfl, hi, n2, acc, vs, i2, hh2, o2⟩
  obtain ⟨go, stop, yld⟩ := src (Mt A ρ1) H2 (hh2.kp.up hh1.j)
  by_cases hlt : i < ds.length
  · refine .inr ⟨go i hlt, fun H => ∃ n acc vs, I (i + 1) n acc ∧ Here X.K A ρ1 H1 n ρ1 σ H ∧ Own1 X.K A ρ0 H0 ρ1 σ H D vs acc, fun H' ⟨n', acc', vs', z1, z2, z3⟩ => ⟨ds.length - (i + 1), by omega, rfl, hlt, n', acc', vs', z1, z2, z3⟩, fun x H3 y => ?_⟩
    have hd : ds[i]? = some ds[i] := List.getElem?_eq_getElem hlt
    have yy := src (fun a => Mt A ρ1 a ∨ a = D) H2 (fun a u m e => by
      obtain ⟨e1, m1⟩ := hh2.kp.up hh1.j a u m e
      refine ⟨e1, fun z => ?_⟩
      rcases z with z | z
      · exact m1 z
      · rw [z, hD] at e; cases e)
    obtain ⟨z, rx⟩ := yy.2.2 i _ x H3 hd y (fun T hT zz => by
      rcases zz with zz | zz
      · exact hh2.new hT zz
      · rw [zz, o2.ob] at hT; cases hT)
    have hh3 : Here X.K A ρ1 H1 n2 ρ1 σ H3 ∧ Own1 X.K A ρ0 H0 ρ1 σ H3 D vs acc := by
      rcases z with rfl | ⟨T, u, hT, rfl⟩
      · exact ⟨hh2, o2⟩
      · refine ⟨hh2.alloc hT, ⟨by rw [upd_ne (ne_of_none o2.ob hT)]; exact o2.ob, o2.nm, o2.nw, paired_mono (fun _ _ r => slotR_mono (fun a v e => by rw [upd_ne (ne_of_none e hT)]; exact e) r) o2.sl, o2.rp.alloc hT⟩⟩
    obtain ⟨hh3, o3⟩ := hh3
    obtain ⟨hb, hm⟩ := hh3.block o3 (own.map (·.2))
    intro s4 H4 C4 cl4 fp4
    refine turn i _ n2 acc hd i2 { W := D :: (owns ρ1 ++ A.W), H0 := H3, pen := A.pen } rfl s4 H4 C4 cl4 fp4 _ _ _ _ x hb (Rep.mono (fun a u m e => ⟨e, fun w => m ((hm a).mp w)⟩) _ rx) _ fun n5 ρ5 σ5 H5 h5 hh5 k5 l5 s5 => ?_
    refine ⟨(wipe_same l5 s5).trans (wipe_idem _ _), ?_⟩
    have step : ∀ (b : Bool) (n6 : Nat) (ρ6 : En) (H6 : Hp), ((b = true → AllB X scope fun Y => WE Y { W := D :: (owns ρ1 ++ A.W), H0 := H3, pen := A.pen } elt ρ6 n6 fun n _ y => acc.length < 100000 ∧ I (i + 1) n (acc ++ [y])) ∧ (b = false → I (i + 1) n6 acc)) →
        Here X.K { W := D :: (owns ρ1 ++ A.W), H0 := H3, pen := A.pen } (wipeD (hid ρ1) (own.map (·.2))) H3 n6 ρ6 σ5 H6 →
        if b = true then (∀ s Hz C cl fp, canE (Blk X scope s Hz C cl fp) elt σ5 H6 fun y H4 => ∃ acc, H4 D = some (.lst acc) ∧ acc.length < sizeLine ∧ ∃ n acc' vs, I (i + 1) n acc' ∧ Here X.K A ρ1 H1 n ρ1 σ (upd H4 D (.lst (acc ++ [y]))) ∧ Own1 X.K A ρ0 H0 ρ1 σ (upd H4 D (.lst (acc ++ [y]))) D vs acc') else
          (∃ n acc vs, I (i + 1) n acc ∧ Here X.K A ρ1 H1 n ρ1 σ H6 ∧ Own1 X.K A ρ0 H0 ρ1 σ H6 D vs acc) := by
      intro b n6 ρ6 H6 hb6 hh6
      cases b with
      | true =>
        rw [if_pos rfl]
        intro s7 H7 C7 cl7 fp7
        refine hb6.1 rfl s7 H7 C7 cl7 fp7 _ _ _ _ hh6 _ fun n8 ρ8 d8 v8 H8 h8 hh8 k8 r8 => ?_
        obtain ⟨g1, g2, g3, _⟩ := hh3.grown o3 hD (own.map (·.2)) hh8 r8
        exact ⟨vs, g1, by rw [o3.rp.length]; exact Nat.lt_of_lt_of_le h8.1 (sz_le (Nat.le_refl _)), n8, acc ++ [d8], vs ++ [v8], h8.2, g2, g3⟩
      | false =>
        rw [if_neg Bool.false_ne_true]
        obtain ⟨_, _, _, g4, g5⟩ := hh3.grown o3 hD (own.map (·.2)) hh6 (.int 0)
        exact ⟨n6, acc, vs, hb6.2 rfl, g4, g5⟩
    match ifs, h5 with
    | [], h5 => exact step true n5 ρ5 H5 (h5 s4 H4 C4 cl4 fp4) hh5
    | [c], h5 =>
      intro s6 H6 C6 cl6 fp6
      refine h5 s6 H6 C6 cl6 fp6 _ _ _ _ hh5 _ fun n7 ρ7 b H7 h7 hh7 k7 => ?_
      exact step b n7 ρ7 H7 h7 hh7
    | a :: b :: r, h5 => exact (h5 s4 H4 C4 cl4 fp4).elim
  · have e : i = ds.length := by omega
    subst e
    exact .inl ⟨stop, q n2 ρ1 acc D vs H2 (fin n2 acc i2) (hh2.back hh1.kp) (k1.trans hh2.kp) o2⟩
/-- THE RULE for [elt for tg in iter if ..]: I what is so ahead of turn i, with the new list's data so far -/
theorem wf_lc (own : List (Str × Nat)) (I : Nat → Nat → List D → Prop) (hc : X.calm = true) (hN : X.N.Nodup)
    (h : WI X A tg iter ρ n fun n' ρ' ds => I 0 n' [] ∧ (∀ (i : Nat) (d : D) (n : Nat) (acc : List D), ds[i]? = some d → I i n acc → ∀ (A' : Amb), A'.pen = A.pen →
        AllB X scope fun Y => WG' Y A' tg (fun j => j ∈ own.map (·.2)) d (wipeD (hid ρ') (own.map (·.2))) n fun n ρ2 => AllB X scope fun Y => WTs Y A' ifs ρ2 n fun n ρ3 b =>
          (b = true → AllB X scope fun Y => WE Y A' elt ρ3 n fun n _ y => acc.length < 100000 ∧ I (i + 1) n (acc ++ [y])) ∧ (b = false → I (i + 1) n acc)) ∧ ∀ n acc, I ds.length n acc → kl n ρ' acc)
    (hok : blkC X.N X.env.scope scope own = true := by rfl) (hs : ∀ x, foldedSetIterable iter X.env x = pure x := by intro _; rfl) : WF X A (.ListComp elt [⟨tg, iter, ifs, 0⟩] scope pos) ρ n kl := by
  intro ρ0 H0 σ H hh Q q
  refine canE.of (pe_lc (own := own) (tt := tIfs X scope ifs) (g := fun v σ H Q => ∀ s H0 C cl fp, canG (Blk X scope s H0 C cl fp) tg v σ H Q) (te := fun σ H Q => ∀ s H0 C cl fp, canE (Blk X scope s H0 C cl fp) elt σ H Q) hc hN icanL (blkOk_by hok)
    (fun s H C cl fp => ⟨fun pins s' σ H' v u Q I r h => (gcan (X := Blk X scope s H C cl fp) (tg := tg)).run pins s' σ H' v u Q I r (h s H C cl fp)⟩)
    (fun s H C cl fp => pts_any s H C cl fp) (fun s H C cl fp => ⟨fun pins s' σ H' Q I h => (pcan (X := Blk X scope s H C cl fp) (e := elt)).run pins s' σ H' Q I (h s H C cl fp)⟩) hs) ?_
  exact lc_run own I h hh Q q
/-- name = [..] on one line -/
theorem ws_setLc (i : Nat) {y : Str} {py spos : Pos} {E : En4} (own : List (Str × Nat)) (I : Nat → Nat → List D → Prop) (hc : X.calm = true) (hN : X.N.Nodup)
    (h : WI X A tg iter ρ n fun n' ρ' ds => I 0 n' [] ∧ (∀ (i : Nat) (d : D) (n : Nat) (acc : List D), ds[i]? = some d → I i n acc → ∀ (A' : Amb), A'.pen = A.pen →
        AllB X scope fun Y => WG' Y A' tg (fun j => j ∈ own.map (·.2)) d (wipeD (hid ρ') (own.map (·.2))) n fun n ρ2 => AllB X scope fun Y => WTs Y A' ifs ρ2 n fun n ρ3 b =>
          (b = true → AllB X scope fun Y => WE Y A' elt ρ3 n fun n _ y => acc.length < 100000 ∧ I (i + 1) n (acc ++ [y])) ∧ (b = false → I (i + 1) n acc)) ∧ ∀ n acc, I ds.length n acc → E.nx n (ρ'.set i (some (.dat (.lst acc)))))
    (hy : X.N[i]? = some y := by rfl) (hyl : X.env.scope.names.lookup y = some .local := by rfl) (hsw : swapsWith (.ListComp elt [⟨tg, iter, ifs, 0⟩] scope pos) (some (.Name y py)) spos.line X.env = pure true := by rfl)
    (hok : blkC X.N X.env.scope scope own = true := by rfl) (hs : ∀ x, foldedSetIterable iter X.env x = pure x := by intro _; rfl) : WS1 X A (.Assign [.Name y py] (.ListComp elt [⟨tg, iter, ifs, 0⟩] scope pos) spos) ρ n E := by
  intro ρ0 H0 σ H hh D f
  refine canS.of (ps_setLc (own := own) (tt := tIfs X scope ifs) (g := fun v σ H Q => ∀ s H0 C cl fp, canG (Blk X scope s H0 C cl fp) tg v σ H Q) (te := fun σ H Q => ∀ s H0 C cl fp, canE (Blk X scope s H0 C cl fp) elt σ H Q) hc hN hy hyl hsw icanL (blkOk_by hok)
    (fun s H C cl fp => ⟨fun pins s' σ H' v u Q I r h => (gcan (X := Blk X scope s H C cl fp) (tg := tg)).run pins s' σ H' v u Q I r (h s H C cl fp)⟩)
    (fun s H C cl fp => pts_any s H C cl fp) (fun s H C cl fp => ⟨fun pins s' σ H' Q I h => (pcan (X := Blk X scope s H C cl fp) (e := elt)).run pins s' σ H' Q I (h s H C cl fp)⟩) hs) ?_
  refine lc_run (kl := fun n ρ' acc => E.nx n (ρ'.set i (some (.dat (.lst acc))))) own I h hh _ fun n' ρ' ds p vs H' kk h' kp o => f.nx _ _ _ _ kk (h'.set i (.lst o.nm o.ob (RepAll.mono (fun a o ha ea => ⟨ea, fun z => ha (.inl z)⟩) _ o.rp)))
end
end RD

/-! RD11: isinstance by built-in types; tuple(), bool(), all(); zip, enumerate. -/
namespace RD
open PySem PySem.Spec PyProof.Rows L2
/-- the built-in type of a datum -/
def tyD : D → Option String
  | .non => some "NoneType"
  | .bl _ => some "bool"
  | .int _ => some "int"
  | .str _ => some "str"
  | .lst _ => some "list"
  | .tup _ => some "tuple"
  | .dct _ => some "dict"
  | _ => none
theorem Rep.ty {K : PySem.W.Frag} {M : Addr → Prop} {H : Hp} {v : V} {d : D} {t : String} (r : Rep K M H v d) (h : tyD d = some t) : TyX K H v (.type t) := by
  cases r with
  | non => cases h; exact .base .non
  | bl b => cases h; exact .base (.bl b)
  | int i => cases h; exact .base (.int i)
  | str x => cases h; exact .base (.str x)
  | lst m q ra => cases h; exact .base (.lst q)
  | tup q ra =>
    cases h
    rcases q with ⟨_, q | ⟨o, q⟩⟩ | ⟨o, its, n, q, c, _⟩
    · exact .base (.tup q)
    · exact .fTuple q
    · exact .kTuple q c
  | dct m q ra => cases h; exact .base (.dK q)
  | obj m q ra => cases h
  | raw v => cases h
section
variable {X : Cx} {A : Amb} {ρ : En} {n : Nat} {e a b : Expr} {es : List Expr} {p p2 pos tpos : Pos} {k : Nat → En → D → Prop} {kl : Nat → En → List D → Prop}
/-- a built-in name -/
theorem we_bltn {x : Str} {v : V} {u : Value} (hm : X.mg x = none) (hv : bootBuiltins x = some u) (r : RelV v u) (h : k n ρ (.raw v)) (hg : Gl X x := by rfl) (hn : x ≠ "__name__" := by decide) (hd : (x == ("__debug__" : Str)) = false := by decide) : WE X A (.Name x pos) ρ n k :=
  fun ρ0 H0 σ H hh Q q => canE.of (pe_bltn hg hm hv r hn hd) (q n ρ _ _ H h hh .refl (.raw v))
/-- isinstance(e, T), T a built-in type -/
theorem we_isi {T : Str} {N : String} (hm : X.mg "isinstance" = none) (hT : X.mg T = none) (hv : bootBuiltins T = some (.type N)) (h : WE X A e ρ n fun n ρ d => ∃ t c, tyD d = some t ∧ kitB t N = some c ∧ k n ρ (.bl c)) (hg : Gl X "isinstance" := by rfl) (hgT : Gl X T := by rfl) (hnT : T ≠ "__name__" := by decide) (hdT : (T == ("__debug__" : Str)) = false := by decide)
    (he : starEach [e, .Name T p2] X.env = (false, eval e X.env) :: starEach [.Name T p2] X.env := by rfl) (he2 : starEach [.Name T p2] X.env = (false, eval (.Name T p2) X.env) :: starEach [] X.env := by rfl) (hpl : (backTo pos (starEach [.Name T p2] X.env)).any (·.1) = false := by rfl) :
    WE X A (.Call (.Name "isinstance" p) [e, .Name T p2] [] pos) ρ n k := by
  intro ρ0 H0 σ H hh Q q
  refine canE.of (pe_callB call_isi hg hm boot_isinstance (pa_cons pcan (pa_cons (pe_bltn (v := .ty N) hgT hT hv rfl hnT hdT) pa_nil he2) he) (by decide) (by decide) he hpl) ?_
  refine h ρ0 H0 σ H hh _ fun n1 ρ1 d v H1 h1 hh1 k1 r1 => ?_
  obtain ⟨t, c, e1, e2, h1⟩ := h1
  exact ⟨v, .ty N, .type t, .type N, c, rfl, .ty N, r1.ty e1, kit_ty e2, q n1 ρ1 _ _ H1 h1 hh1 k1 (.bl _)⟩
/-- isinstance(e, (S, T)) -/
theorem we_isi2 {S T : Str} {NS NT : String} {pS pT : Pos} {kk : Nat} (hm : X.mg "isinstance" = none) (hS : X.mg S = none) (hT : X.mg T = none) (hvS : bootBuiltins S = some (.type NS)) (hvT : bootBuiltins T = some (.type NT))
    (h : WE X A e ρ n fun n ρ d => ∃ t c c', tyD d = some t ∧ kitB t NS = some c ∧ kitB t NT = some c' ∧ k n ρ (.bl (c || c'))) (hg : Gl X "isinstance" := by rfl) (hgS : Gl X S := by rfl) (hgT : Gl X T := by rfl) (hnS : S ≠ "__name__" := by decide) (hdS : (S == ("__debug__" : Str)) = false := by decide) (hnT : T ≠ "__name__" := by decide) (hdT : (T == ("__debug__" : Str)) = false := by decide)
    (he : starEach [e, .Tuple [.Name S pS, .Name T pT] kk tpos] X.env = (false, eval e X.env) :: starEach [.Tuple [.Name S pS, .Name T pT] kk tpos] X.env := by rfl)
    (he2 : starEach [.Tuple [.Name S pS, .Name T pT] kk tpos] X.env = (false, eval (.Tuple [.Name S pS, .Name T pT] kk tpos) X.env) :: starEach [] X.env := by rfl) (hpl : (backTo pos (starEach [.Tuple [.Name S pS, .Name T pT] kk tpos] X.env)).any (·.1) = false := by rfl)
    (he3 : starEach [.Name S pS, .Name T pT] X.env = (false, eval (.Name S pS) X.env) :: starEach [.Name T pT] X.env := by rfl) (he4 : starEach [.Name T pT] X.env = (false, eval (.Name T pT) X.env) :: starEach [] X.env := by rfl) :
    WE X A (.Call (.Name "isinstance" p) [e, .Tuple [.Name S pS, .Name T pT] kk tpos] [] pos) ρ n k := by
  intro ρ0 H0 σ H hh Q q
  refine canE.of (pe_callB call_isiT hg hm boot_isinstance (pa_cons pcan (pa_cons (pe_tup (pa_cons (pe_bltn (v := .ty NS) hgS hS hvS rfl hnS hdS) (pa_cons (pe_bltn (v := .ty NT) hgT hT hvT rfl hnT hdT) pa_nil he4) he3)) pa_nil he2) he) (by decide) (by decide) he hpl) ?_
  refine h ρ0 H0 σ H hh _ fun n1 ρ1 d v H1 h1 hh1 k1 r1 => ?_
  obtain ⟨t, c, c', e1, e2, e3, h1⟩ := h1
  refine ⟨sz_le (Nat.le_of_ble_eq_true rfl), fun tp htp => ?_⟩
  refine ⟨v, tp, [.ty NS, .ty NT], .type t, [.type NS, .type NT], c || c', rfl, upd_same, .cons (.ty _) (.cons (.ty _) .nil), (r1.alloc htp).ty e1, ?_, q n1 ρ1 _ _ _ h1 (hh1.alloc htp) (k1.trans (.alloc htp)) (.bl _)⟩
  refine kitAny_cons (kit_ty e2) (fun hc => ?_) (fun hc => by rw [hc]; rfl)
  refine kitAny_cons (kit_ty e3) (fun hc' => by rw [hc, hc']; rfl) (fun hc' => by rw [hc']; simp)
end
section
variable {K : PySem.W.Frag} {A : Amb} {ρ : En} {x : D} {k : D → Prop}
/-- tuple(list) -/
theorem cd_tupL {ds : List D} (h : k (.tup ds)) : CallD K A (fun xs H Q => ∃ p ys, xs = [.ref p] ∧ ((SqL K H p ys ∧ ∀ l, H l = none → Q (.ref l) (upd H l (.tup ys))) ∨ (SqT K H p ys ∧ Q (.ref p) H))) ρ [.lst ds] k := by
  intro n σ ρ0 H0 H vs Q hh r q
  cases r with
  | cons r1 r2 =>
    cases r2
    cases r1 with
    | lst m e ra => exact ⟨_, _, rfl, .inl ⟨.of e, fun l hl => q _ _ _ h (hh.alloc hl) (.alloc hl) (.tup (.inl ⟨hh.new hl, .inl upd_same⟩) (ra.alloc hl))⟩⟩
theorem cd_tupT {ds : List D} (h : k (.tup ds)) : CallD K A (fun xs H Q => ∃ p ys, xs = [.ref p] ∧ ((SqL K H p ys ∧ ∀ l, H l = none → Q (.ref l) (upd H l (.tup ys))) ∨ (SqT K H p ys ∧ Q (.ref p) H))) ρ [.tup ds] k := by
  intro n σ ρ0 H0 H vs Q hh r q
  cases r with
  | cons r1 r2 =>
    cases r2
    have r0 := r1
    obtain ⟨a, zs, rfl, e, ra⟩ := r1.sqT
    exact ⟨a, zs, rfl, .inr ⟨e, q _ _ H h hh .refl r0⟩⟩
theorem cd_boolB {b : Bool} (h : k (.bl b)) : CallD K A (fun xs H Q => (∃ i, xs = [.int i] ∧ Q (.bl (i != 0)) H) ∨ ∃ k, xs = [.bl k] ∧ Q (.bl k) H) ρ [.bl b] k := by
  intro n σ ρ0 H0 H vs Q hh r q
  cases r with
  | cons r1 r2 =>
    cases r1; cases r2
    exact .inr ⟨b, rfl, q _ _ H h hh .refl (.bl _)⟩
theorem cd_boolI {i : Int} (h : k (.bl (i != 0))) : CallD K A (fun xs H Q => (∃ i, xs = [.int i] ∧ Q (.bl (i != 0)) H) ∨ ∃ k, xs = [.bl k] ∧ Q (.bl k) H) ρ [.int i] k := by
  intro n σ ρ0 H0 H vs Q hh r q
  cases r with
  | cons r1 r2 =>
    cases r1; cases r2
    exact .inl ⟨i, rfl, q _ _ H h hh .refl (.bl _)⟩
theorem bools_of {M : Addr → Prop} {H : Hp} : ∀ {vs : List V} {bs : List Bool}, RepAll K M H vs (bs.map D.bl) → vs = bs.map V.bl
  | _, [], .nil => rfl
  | _, b :: bs, .cons r t => by
    cases r
    rw [bools_of t]; rfl
theorem cd_all {bs : List Bool} (h : k (.bl (bs.all id))) : CallD K A (rAll K) ρ [.lst (bs.map D.bl)] k := by
  intro n σ ρ0 H0 H vs Q hh r q
  cases r with
  | cons r1 r2 =>
    cases r2
    cases r1 with
    | lst m e ra =>
      rw [bools_of ra] at e
      exact ⟨_, bs, rfl, .of e, q _ _ H h hh .refl (.bl _)⟩
theorem cd_any {bs : List Bool} (h : k (.bl (bs.any id))) : CallD K A (rAny K) ρ [.lst (bs.map D.bl)] k := by
  intro n σ ρ0 H0 H vs Q hh r q
  cases r with
  | cons r1 r2 =>
    cases r2
    cases r1 with
    | lst m e ra =>
      rw [bools_of ra] at e
      exact ⟨_, bs, rfl, .of e, q _ _ H h hh .refl (.bl _)⟩
end
section
variable {X : Cx} {A : Amb} {ρ : En} {n : Nat} {e a b : Expr} {elts : List Expr} {kk : Nat} {p pos tpos : Pos} {kl : Nat → En → List D → Prop}
def zipD (xs ys : List D) : List D := List.zipWith (fun x y => .tup [x, y]) xs ys
theorem zipD_get {xs ys : List D} {i : Nat} {d : D} (h : (zipD xs ys)[i]? = some d) : ∃ x y, xs[i]? = some x ∧ ys[i]? = some y ∧ d = .tup [x, y] := by
  unfold zipD at h
  rw [List.getElem?_zipWith] at h
  cases e1 : xs[i]? with
  | none => rw [e1] at h; cases h
  | some x =>
    cases e2 : ys[i]? with
    | none => rw [e1, e2] at h; cases h
    | some y =>
      rw [e1, e2] at h
      exact ⟨x, y, rfl, rfl, (Option.some.inj h).symm⟩
/-- for a, b in zip(x, y): two lists, two tuples -/
theorem wi_zip (hm : X.mg "zip" = none) (h : WA X A [a, b] ρ n fun n ρ ds => ∃ xs ys, (ds = [.lst xs, .lst ys] ∨ ds = [.tup xs, .tup ys]) ∧ kl n ρ (zipD xs ys)) (hg : Gl X "zip" := by rfl)
    (hs : starEach [a, b] X.env = (false, eval a X.env) :: starEach [b] X.env := by rfl) (hpl : (backTo pos (starEach [b] X.env)).any (·.1) = false := by rfl) : WI X A (.Tuple elts kk tpos) (.Call (.Name "zip" p) [a, b] [] pos) ρ n kl := by
  intro ρ0 H0 σ H hh R q
  refine canI.of (RZ.pi_zipA hg hm acan hs hpl) ?_
  refine h ρ0 H0 σ H hh _ fun n1 ρ1 ds vs H1 h1 hh1 k1 r1 => ?_
  obtain ⟨xs, ys, hd, h1⟩ := h1
  have two : ∃ x y, vs = [x, y] := by
    rcases hd with rfl | rfl <;> exact two_of r1.length
  obtain ⟨vx, vy, rfl⟩ := two
  have last : ∀ {vxs vys : List V} {M' : Addr → Prop} {H' H'' : Hp} {i : Nat} {d : D} {T : Addr} {x y : V}, RepAll X.K M' H' vxs xs → RepAll X.K M' H' vys ys → (zipD xs ys)[i]? = some d → H' T = none → H'' = upd H' T (.tup [x, y]) → vxs[i]? = some x → vys[i]? = some y → (∀ T, H' T = none → ¬ M' T) → (H'' = H' ∨ ∃ T o, H' T = none ∧ H'' = upd H' T o) ∧ Rep X.K M' H'' (.ref T) d := by
    intro vxs vys M' H' H'' i d T x y rx ry hdd hT e1 gx gy hn
    subst e1
    obtain ⟨dx, dy, g1, g2, rfl⟩ := zipD_get hdd
    obtain ⟨v1, z1, w1⟩ := rx.get g1
    obtain ⟨v2, z2, w2⟩ := ry.get g2
    rw [gx] at z1; rw [gy] at z2
    cases z1; cases z2
    exact ⟨.inr ⟨T, _, hT, rfl⟩, .tup (.inl ⟨hn T hT, .inl upd_same⟩) (.cons (w1.alloc hT) (.cons (w2.alloc hT) .nil))⟩
  have hlen : (zipD xs ys).length = min xs.length ys.length := by unfold zipD; rw [List.length_zipWith]
  rcases hd with rfl | rfl
  · obtain ⟨ra, rb⟩ : Rep X.K (Mt A ρ1) H1 vx (.lst xs) ∧ Rep X.K (Mt A ρ1) H1 vy (.lst ys) := by
      cases r1 with
      | cons r1 r2 => cases r2 with
        | cons r2 r3 => exact ⟨r1, r2⟩
    cases ra with
    | @lst pa vxs _ ma ea rra =>
      cases rb with
      | @lst pb vys _ mb eb rrb =>
        refine ⟨pa, pb, vxs, vys, rfl, .inl ⟨.of ea, .of eb, q n1 ρ1 _ _ H1 h1 hh1 k1 ?_⟩⟩
        intro M' H' up
        have la := (up pa _ ma ea).1
        have lb := (up pb _ mb eb).1
        have l1 := rra.length
        have l2 := rrb.length
        refine ⟨fun i hi => ⟨vxs, vys, vxs[i]'(by omega), vys[i]'(by omega), .of la, .of lb, List.getElem?_eq_getElem _, List.getElem?_eq_getElem _⟩, ⟨vxs, vys, .of la, .of lb, by omega⟩, fun i d x H'' hdd y hn => ?_⟩
        obtain ⟨T, x1, y1, rfl, hT, e1, gx, gy⟩ := y
        exact last (RepAll.mono up _ rra) (RepAll.mono up _ rrb) hdd hT e1 (gx _ (.of la)) (gy _ (.of lb)) hn
  · obtain ⟨ra, rb⟩ : Rep X.K (Mt A ρ1) H1 vx (.tup xs) ∧ Rep X.K (Mt A ρ1) H1 vy (.tup ys) := by
      cases r1 with
      | cons r1 r2 => cases r2 with
        | cons r2 r3 => exact ⟨r1, r2⟩
    cases ra with
    | @tup pa vxs _ qa rra =>
      cases rb with
      | @tup pb vys _ qb rrb =>
        have sq : ∀ {pp : Addr} {zs : List V} {M' : Addr → Prop} {H' : Hp}, (∀ a o, ¬ Mt A ρ1 a → H1 a = some o → H' a = some o ∧ ¬ M' a) → ((¬ Mt A ρ1 pp ∧ Rd H1 pp (.tup zs)) ∨ KT X.K pp zs) → SqT X.K H' pp zs := fun {pp zs M' H'} up z => by
          rcases z with ⟨m, z⟩ | z
          · exact .inl (rd_mono up m z).2
          · exact .inr z
        refine ⟨pa, pb, vxs, vys, rfl, .inr ⟨sq (M' := Mt A ρ1) (fun a o m e => ⟨e, m⟩) qa, sq (M' := Mt A ρ1) (fun a o m e => ⟨e, m⟩) qb, q n1 ρ1 _ _ H1 h1 hh1 k1 ?_⟩⟩
        intro M' H' up
        have la := sq up qa
        have lb := sq up qb
        have l1 := rra.length
        have l2 := rrb.length
        refine ⟨fun i hi => ⟨vxs, vys, vxs[i]'(by omega), vys[i]'(by omega), la, lb, List.getElem?_eq_getElem _, List.getElem?_eq_getElem _⟩, ⟨vxs, vys, la, lb, by omega⟩, fun i d x H'' hdd y hn => ?_⟩
        obtain ⟨T, x1, y1, rfl, hT, e1, gx, gy⟩ := y
        exact last (RepAll.mono up _ rra) (RepAll.mono up _ rrb) hdd hT e1 (gx _ la) (gy _ lb) hn
end
end RD

/-! RD12: repr of data with dicts in it. -/
namespace RD
open PySem PySem.Spec PyProof.Rows L2
mutual
/-- no object, nothing raw within -/
def plk : D → Bool
  | .lst xs => plks xs
  | .tup xs => plks xs
  | .dct kvs => plkv kvs
  | .obj _ _ => false
  | .raw _ => false
  | _ => true
def plks : List D → Bool
  | [] => true
  | x :: xs => plk x && plks xs
def plkv : List (Key × D) → Bool
  | [] => true
  | (_, x) :: xs => plk x && plkv xs
end
theorem pyk_keys : ∀ kvs : List (Key × D), (pyk kvs).map (·.1) = kvs.map fun q => match q.1 with
    | .inl i => PyData.int i
    | .inr s => PyData.str s
  | [] => rfl
  | (.inl i, x) :: r => by simp only [pyk, List.map_cons, pyk_keys r]
  | (.inr s, x) :: r => by simp only [pyk, List.map_cons, pyk_keys r]
theorem pyk_vals : ∀ kvs : List (Key × D), (pyk kvs).map (·.2) = pys (kvs.map (·.2))
  | [] => rfl
  | (.inl i, x) :: r => by simp only [pyk, List.map_cons, pys, pyk_vals r]
  | (.inr s, x) :: r => by simp only [pyk, List.map_cons, pys, pyk_vals r]
theorem plkv_vals : ∀ kvs : List (Key × D), plkv kvs = true → plks (kvs.map (·.2)) = true
  | [], _ => rfl
  | (_, x) :: r, h => by
    have h' : plk x = true ∧ plkv r = true := by simpa [plkv] using h
    simp only [List.map_cons, plks, h'.1, plkv_vals r h'.2, Bool.and_self]
theorem repKV_vals {K : PySem.W.Frag} {M : Addr → Prop} {H : Hp} : ∀ {xs : List (Key × V)} {ds : List (Key × D)}, RepKV K M H xs ds → RepAll K M H (xs.map (·.2)) (ds.map (·.2)) ∧ xs.map (·.1) = ds.map (·.1)
  | _, _, .nil => ⟨.nil, rfl⟩
  | _, _, .cons r t => ⟨.cons r (repKV_vals t).1, by simp only [List.map_cons, (repKV_vals t).2]⟩
section
variable {X : Cx} {pins : List (Addr × Obj)} {σ : L2.St} {H : Hp} {s : Shared} {M : Addr → Prop}
/-- the keys of a dict -/
theorem keys_read {prog : Program} {w : World} {h : Heap} : ∀ {es : List DictEntry} {vs : List (Key × Value)} {ks : List Key}, Pairs (mixKind prog w) es vs → vs.map (·.1) = ks →
    ∃ as, ReadsAll h (es.map (·.key)) (ks.map fun k => match k with
      | .inl i => PyData.int i
      | .inr z => PyData.str z) as ∧ ((PyData.showableAll (ks.map fun k => match k with
      | .inl i => PyData.int i
      | .inr z => PyData.str z) = true) → (∀ t ∈ PyData.shownAll (ks.map fun k => match k with
      | .inl i => PyData.int i
      | .inr z => PyData.str z), t.length ≤ sizeLine) → ReprAllK prog w [] h (PyData.depthAll (ks.map fun k => match k with
      | .inl i => PyData.int i
      | .inr z => PyData.str z)) (es.map (·.key)) (PyData.shownAll (ks.map fun k => match k with
      | .inl i => PyData.int i
      | .inr z => PyData.str z)))
  | _, _, [], .nil, _ => ⟨[], .nil, fun _ _ => by simp only [List.map_nil, PyData.shownAll]; exact .nil⟩
  | _, _, _ :: _, .nil, e => by cases e
  | _, _, [], .cons _ _ _, e => by cases e
  | _, _, k :: ks, .cons (e := en) (kv := kv) h1 h2 t, e => by
    simp only [List.map_cons, List.cons.injEq] at e
    obtain ⟨e1, e2⟩ := e
    obtain ⟨as, r1, r2⟩ := keys_read t e2
    subst e1
    rcases keyIs_shape (show keyIs kv.1 en.key = true from h1) with ⟨i, tk, e3, e4⟩ | ⟨z, tk, e3, e4⟩
    · refine ⟨[] ++ as, ?_, fun hs hz => ?_⟩
      · simp only [List.map_cons, e3, e4]
        exact .cons (.int i tk) r1
      · have hs' : PyData.showable (.int i) = true ∧ PyData.showableAll (ks.map fun k => match k with
            | .inl i => PyData.int i
            | .inr z => PyData.str z) = true := by simpa only [List.map_cons, e3, PyData.showableAll, Bool.and_eq_true] using hs
        have r3 := r2 hs'.2 fun t ht => hz t (by simp only [List.map_cons, PyData.shownAll]; exact List.mem_cons_of_mem _ ht)
        simp only [List.map_cons, e3, e4, PyData.shownAll, PyData.depthAll]
        refine .cons ?_ (r3.more_le (fun _ q => q) (Nat.le_max_right _ _))
        simp only [PyData.shown]
        exact .of_is (ReprIs.int tk (by simpa [PyData.showable] using hs'.1)) _ _ _
    · refine ⟨[] ++ as, ?_, fun hs hz => ?_⟩
      · simp only [List.map_cons, e3, e4]
        exact .cons (.str z tk) r1
      · have hs' : PyData.showable (.str z) = true ∧ PyData.showableAll (ks.map fun k => match k with
            | .inl i => PyData.int i
            | .inr z => PyData.str z) = true := by simpa only [List.map_cons, e3, PyData.showableAll, Bool.and_eq_true] using hs
        have r3 := r2 hs'.2 fun t ht => hz t (by simp only [List.map_cons, PyData.shownAll]; exact List.mem_cons_of_mem _ ht)
        have hz0 := hz (PyData.shown (.str z)) (by simp only [List.map_cons, e3, PyData.shownAll]; exact List.mem_cons_self ..)
        simp only [List.map_cons, e3, e4, PyData.shownAll, PyData.depthAll]
        refine .cons ?_ (r3.more_le (fun _ q => q) (Nat.le_max_right _ _))
        simp only [PyData.shown] at hz0 ⊢
        exact .of_is (ReprIs.str z tk hz0) _ _ _
theorem vals_of_pairs {prog : Program} {w : World} : ∀ {es : List DictEntry} {vs : List (Key × Value)} {kvs : List (Key × V)}, Pairs (mixKind prog w) es vs → KV kvs vs → Vals (kvs.map (·.2)) (es.map (·.val)) ∧ vs.map (·.1) = kvs.map (·.1)
  | _, _, _, .nil, .nil => ⟨.nil, rfl⟩
  | _, _, _, .cons h1 h2 t, .cons r rs => by
    obtain ⟨q1, q2⟩ := vals_of_pairs t rs
    refine ⟨.cons (by show L2.RelV _ (DictEntry.val _); rw [h2]; exact r.2) q1, ?_⟩
    simp only [List.map_cons, q2, r.1]
mutual
theorem repr_core (I : Inv X pins σ H s) : ∀ (d : D) {v : V} {u : Value}, plk d = true → Rep X.K M H v d → RelV v u → ∃ as, Reads s.heap u (py d) as ∧
    ((py d).showable = true → (py d).shown.length ≤ sizeLine → ∃ bs, ReadAtMost s.heap (py d).depth bs ∧ ReprK X.prog X.w bs s.heap (py d).depth u (py d).shown)
  | .non, _, _, _, r, z => by
    cases r; cases z
    exact ⟨_, Reads.none, fun _ _ => ⟨[], (fun _ h => nomatch h), by simp only [py, PyData.shown]; exact .of_is ReprIs.none _ _ _⟩⟩
  | .bl b, _, _, _, r, z => by
    cases r; cases z
    exact ⟨_, Reads.bool b, fun _ _ => ⟨[], (fun _ h => nomatch h), by simp only [py, PyData.shown]; exact .of_is (ReprIs.bool b) _ _ _⟩⟩
  | .int i, _, _, _, r, z => by
    cases r
    obtain ⟨t, rfl⟩ := z
    exact ⟨_, Reads.int i t, fun hs _ => ⟨[], (fun _ h => nomatch h), by simp only [py, PyData.shown]; exact .of_is (ReprIs.int t (by simpa [py, PyData.showable] using hs)) _ _ _⟩⟩
  | .str x, _, _, _, r, z => by
    cases r
    obtain ⟨t, rfl⟩ := z
    exact ⟨_, Reads.str x t, fun _ hz => ⟨[], (fun _ h => nomatch h), by simp only [py, PyData.shown] at hz ⊢; exact .of_is (ReprIs.str x t hz) _ _ _⟩⟩
  | .lst ds, _, _, hp, r, z => by
    cases r with
    | lst m q ra =>
      cases z
      obtain ⟨its, rv, ⟨o, n, ho, hc, _, hd⟩, _⟩ := I.list (.of q)
      obtain ⟨as, r4, kk⟩ := repr_all I ds hp ra rv
      have rr : Reads s.heap (.ref _) (.list (pys ds)) _ := Reads.list ho hc hd r4
      refine ⟨_, rr, fun hs hz => ?_⟩
      have hz' : (listText (PyData.shownAll (pys ds))).length ≤ sizeLine := by simpa only [py, PyData.shown] using hz
      obtain ⟨bs, hb, hk⟩ := kk (by simpa [py, PyData.showable] using hs) fun t ht => Nat.le_trans (listText_mem_le ht) hz'
      have hna := not_mem_of_deeper rr (n := PyData.depthAll (pys ds)) (Nat.lt_succ_self _) hb
      refine ⟨_ :: bs, ReadAtMost.cons rr (Nat.le_succ _) hb, ?_⟩
      simp only [py, PyData.depth, PyData.shown]
      cases its with
      | nil =>
        have hds : ds = [] := by
          cases rv
          cases ra
          rfl
        rw [hds]
        simp only [pys, PyData.shownAll, listText_nil]
        exact ReprK.listEmpty ho hc hd
      | cons x l => exact ReprK.list ho hc hd hna (by simpa using hk.length_eq) (fun i y e => hk.item i y (by simpa using e))
  | .tup ds, _, _, hp, r, z => by
    obtain ⟨a, vs, rfl, q, ra⟩ := r.sqT
    cases z
    obtain ⟨its, rv, ⟨o, ho, hc, n, hd⟩, _⟩ := I.tuple q
    obtain ⟨as, r4, kk⟩ := repr_all I ds hp ra rv
    have rr : Reads s.heap (.ref a) (.tuple (pys ds)) _ := Reads.tuple ho hc hd r4
    refine ⟨_, rr, fun hs hz => ?_⟩
    have hz' : (tupleText (PyData.shownAll (pys ds))).length ≤ sizeLine := by simpa only [py, PyData.shown] using hz
    obtain ⟨bs, hb, hk⟩ := kk (by simpa [py, PyData.showable] using hs) fun t ht => Nat.le_trans (tupleText_mem_le ht) hz'
    have hna := not_mem_of_deeper rr (n := PyData.depthAll (pys ds)) (Nat.lt_succ_self _) hb
    refine ⟨a :: bs, ReadAtMost.cons rr (Nat.le_succ _) hb, ?_⟩
    simp only [py, PyData.depth, PyData.shown]
    exact ReprK.tuple ho hc hd hna hk
  | .dct kvs, _, _, hp, r, z => by
    cases r with
    | @dct a xs _ m q ra =>
      cases z
      obtain ⟨_, hsys, vs, rel, o, es, ep, ho, hx, hd, _, pr, _⟩ := I.hok a _ q
      obtain ⟨rv, ek⟩ := vals_of_pairs pr rel
      obtain ⟨rw1, rk⟩ := repKV_vals ra
      have ev : kvs.map (·.2) = kvs.map (·.2) := rfl
      obtain ⟨as, r5, kk⟩ := repr_vals I kvs hp rw1 rv
      obtain ⟨as1, r4, k1⟩ := keys_read (h := s.heap) pr (ek.trans rk)
      have e1 : (pyk kvs).map (·.1) = (kvs.map (·.1)).map fun k => match k with
          | .inl i => PyData.int i
          | .inr z => PyData.str z := by rw [pyk_keys, List.map_map]; rfl
      have rr : Reads s.heap (.ref a) (.dict (pyk kvs)) _ := Reads.dict ho hx.1 hd (by rw [e1]; exact r4) (by rw [pyk_vals]; exact r5)
      refine ⟨_, rr, fun hs hz => ?_⟩
      have hz' : (dictText (PyData.shownKv (pyk kvs))).length ≤ sizeLine := by simpa only [py, PyData.shown] using hz
      obtain ⟨hs1, hs2⟩ := PyData.showableKv_split (pyk kvs) (by simpa [py, PyData.showable] using hs)
      have keys := k1 (by rw [← e1]; exact hs1) fun t ht => by
        obtain ⟨p, hp1, hl⟩ := PyData.shownKv_key_le (pyk kvs) t (by rw [e1]; exact ht)
        exact Nat.le_trans hl (Nat.le_trans (dictText_mem_le hp1) hz')
      rw [← e1] at keys
      rw [pyk_vals] at hs2
      obtain ⟨b2, hb2, vals⟩ := kk hs2 fun t ht => by
        obtain ⟨p, hp1, hl⟩ := PyData.shownKv_val_le (pyk kvs) t (by rw [pyk_vals]; exact ht)
        exact Nat.le_trans hl (Nat.le_trans (dictText_mem_le hp1) hz')
      rw [← pyk_vals] at vals hb2
      have hb : ReadAtMost s.heap (PyData.depthKv (pyk kvs)) b2 := hb2.mono (PyData.depthAll_vals_le _)
      have hna := not_mem_of_deeper rr (n := PyData.depthKv (pyk kvs)) (Nat.lt_succ_self _) hb
      refine ⟨a :: b2, ReadAtMost.cons rr (Nat.le_succ _) hb, ?_⟩
      simp only [py, PyData.depth, PyData.shown, PyData.shownKv_eq]
      exact ReprK.dict ho hx.1 hd hsys hna (ReprEntriesK.of_two es.toList _ _ (keys.more_le (fun b hb => by simp at hb) (PyData.depthAll_keys_le _)) (vals.more_le (fun b hb => hb) (PyData.depthAll_vals_le _)))
  | .obj _ _, _, _, hp, _, _ => by simp [plk] at hp
  | .raw _, _, _, hp, _, _ => by simp [plk] at hp
theorem repr_all (I : Inv X pins σ H s) : ∀ (ds : List D) {vs : List V} {us : List Value}, plks ds = true → RepAll X.K M H vs ds → Vals vs us → ∃ as, ReadsAll s.heap us (pys ds) as ∧
    (PyData.showableAll (pys ds) = true → (∀ t ∈ PyData.shownAll (pys ds), t.length ≤ sizeLine) → ∃ bs, ReadAtMost s.heap (PyData.depthAll (pys ds)) bs ∧ ReprAllK X.prog X.w bs s.heap (PyData.depthAll (pys ds)) us (PyData.shownAll (pys ds)))
  | [], _, _, _, r, z => by
    cases r; cases z
    exact ⟨_, ReadsAll.nil, fun _ _ => ⟨[], (fun _ h => nomatch h), by simp only [pys, PyData.shownAll]; exact .nil⟩⟩
  | d :: ds, _, _, hp, r, z => by
    have hp' : plk d = true ∧ plks ds = true := by simpa [plks] using hp
    cases r with
    | cons r1 r2 =>
      cases z with
      | cons z1 z2 =>
        obtain ⟨as, q1, f1⟩ := repr_core I d hp'.1 r1 z1
        obtain ⟨bs, q2, f2⟩ := repr_all I ds hp'.2 r2 z2
        refine ⟨_, ReadsAll.cons q1 q2, fun hs hz => ?_⟩
        have hs' : (py d).showable = true ∧ PyData.showableAll (pys ds) = true := by simpa [pys, PyData.showableAll] using hs
        obtain ⟨b1, h1, k1⟩ := f1 hs'.1 (hz _ (by simp only [pys, PyData.shownAll]; exact List.mem_cons_self ..))
        obtain ⟨b2, h2, k2⟩ := f2 hs'.2 fun t ht => hz t (by simp only [pys, PyData.shownAll]; exact List.mem_cons_of_mem _ ht)
        refine ⟨b1 ++ b2, (h1.mono (by simp only [pys, PyData.depthAll]; exact Nat.le_max_left _ _)).append (h2.mono (by simp only [pys, PyData.depthAll]; exact Nat.le_max_right _ _)), ?_⟩
        simp only [pys, PyData.depthAll, PyData.shownAll]
        exact .cons ((k1.more fun b hb => List.mem_append_left _ hb).level_le (Nat.le_max_left _ _)) (k2.more_le (fun b hb => List.mem_append_right _ hb) (Nat.le_max_right _ _))
theorem repr_vals (I : Inv X pins σ H s) : ∀ (kvs : List (Key × D)) {vs : List V} {us : List Value}, plkv kvs = true → RepAll X.K M H vs (kvs.map (·.2)) → Vals vs us → ∃ as, ReadsAll s.heap us (pys (kvs.map (·.2))) as ∧
    (PyData.showableAll (pys (kvs.map (·.2))) = true → (∀ t ∈ PyData.shownAll (pys (kvs.map (·.2))), t.length ≤ sizeLine) → ∃ bs, ReadAtMost s.heap (PyData.depthAll (pys (kvs.map (·.2)))) bs ∧ ReprAllK X.prog X.w bs s.heap (PyData.depthAll (pys (kvs.map (·.2)))) us (PyData.shownAll (pys (kvs.map (·.2)))))
  | [], _, _, _, r, z => by
    cases r; cases z
    exact ⟨_, ReadsAll.nil, fun _ _ => ⟨[], (fun _ h => nomatch h), by simp only [List.map_nil, pys, PyData.shownAll]; exact .nil⟩⟩
  | (_, d) :: ds, _, _, hp, r, z => by
    have hp' : plk d = true ∧ plkv ds = true := by simpa [plkv] using hp
    cases r with
    | cons r1 r2 =>
      cases z with
      | cons z1 z2 =>
        obtain ⟨as, q1, f1⟩ := repr_core I d hp'.1 r1 z1
        obtain ⟨bs, q2, f2⟩ := repr_vals I ds hp'.2 r2 z2
        refine ⟨_, ReadsAll.cons q1 q2, fun hs hz => ?_⟩
        have hs' : (py d).showable = true ∧ PyData.showableAll (pys (ds.map (·.2))) = true := by simpa [pys, PyData.showableAll] using hs
        obtain ⟨b1, h1, k1⟩ := f1 hs'.1 (hz _ (by simp only [List.map_cons, pys, PyData.shownAll]; exact List.mem_cons_self ..))
        obtain ⟨b2, h2, k2⟩ := f2 hs'.2 fun t ht => hz t (by simp only [List.map_cons, pys, PyData.shownAll]; exact List.mem_cons_of_mem _ ht)
        refine ⟨b1 ++ b2, (h1.mono (by simp only [List.map_cons, pys, PyData.depthAll]; exact Nat.le_max_left _ _)).append (h2.mono (by simp only [List.map_cons, pys, PyData.depthAll]; exact Nat.le_max_right _ _)), ?_⟩
        simp only [List.map_cons, pys, PyData.depthAll, PyData.shownAll]
        exact .cons ((k1.more fun b hb => List.mem_append_left _ hb).level_le (Nat.le_max_left _ _)) (k2.more_le (fun b hb => List.mem_append_right _ hb) (Nat.le_max_right _ _))
end
end
end RD
namespace RD
open PySem PySem.Spec PyProof.Rows L2
/-- repr of a datum -/
def rReprP (K : PySem.W.Frag) : List V → Hp → VK → Prop := fun xs H Q => ∃ x d M, xs = [x] ∧ Rep K M H x d ∧ plk d = true ∧ tyD d ≠ some "dict" ∧ (py d).showable = true ∧ (py d).depth ≤ 60 ∧ (py d).shown.length ≤ sizeLine ∧ Q (.str (py d).shown) H
theorem call_reprP {X : Cx} (rm : Rm 0 X.A) : CallR X (.builtin "repr") (rReprP X.K) := by
  intro pins s σ H xs us Q I r h
  obtain ⟨x, d, M, rfl, hd, hp, hk, hs, hdep, hz, q⟩ := h
  obtain ⟨u, rfl, rx⟩ := vals1 r
  have un := rm.r.units
  cases d with
  | non =>
    cases hd; cases rx
    exact PySem.P.repr_of_none ⟨.str _, H, I.tok _, ⟨s.toks, by simp only [py, PyData.shown]⟩, q⟩
  | bl b =>
    cases hd; cases rx
    exact PySem.P.repr_of_bool ⟨.str _, H, I.tok _, ⟨s.toks, by simp only [py, PyData.shown]⟩, q⟩
  | int i =>
    cases hd
    obtain ⟨t, rfl⟩ := rx
    exact PySem.P.repr_of_int (by simpa [py, PyData.showable] using hs) ⟨.str _, H, I.tok _, ⟨s.toks, by simp only [py, PyData.shown]⟩, q⟩
  | str z =>
    cases hd
    obtain ⟨t, rfl⟩ := rx
    exact PySem.P.repr_of_str ⟨.str _, H, I.tok _, ⟨s.toks, by simp only [py, PyData.shown]⟩, q⟩ (by simpa only [py, PyData.shown] using hz)
  | lst ds =>
    cases hd with
    | @lst a vs _ m e ra =>
      cases rx
      obtain ⟨its, rv, ⟨o, n, ho, hc, _, hdat⟩, _⟩ := I.list (.of e)
      obtain ⟨as, r4, kk⟩ := repr_all I ds hp ra rv
      have hz' : (listText (PyData.shownAll (pys ds))).length ≤ sizeLine := by simpa only [py, PyData.shown] using hz
      obtain ⟨bs, hb, hkk⟩ := kk (by simpa [py, PyData.showable] using hs) fun t ht => Nat.le_trans (listText_mem_le ht) hz'
      have hna := not_mem_of_deeper (Reads.list ho hc hdat r4) (n := PyData.depthAll (pys ds)) (Nat.lt_succ_self _) hb
      have hdp : PyData.depthAll (pys ds) + 1 ≤ 60 := hdep
      refine PySem.call_repr_slot (by omega) ⟨o, ho, hc⟩ PySem.F.slot_list_repr.toG ?_
      cases its with
      | nil =>
        have hds : ds = [] := by
          cases rv
          cases ra
          rfl
        subst hds
        exact PySem.call_list_repr_empty ⟨o, ho, hc⟩ ho hdat ⟨_, _, rfl, .str _, H, I.tok _, ⟨s.toks, by simp only [py, pys, PyData.shown, PyData.shownAll, listText_nil]⟩, q⟩
      | cons y l =>
        refine PySem.call_list_reprK ho hc hdat hna (by simpa using hkk.length_eq) (fun i y e => hkk.item i y (by simpa using e)) rm.g (fun b _ => Clear.nil b) (by show X.A.units + 1 + _ < cLine; omega) (fun _ _ e => e) (fun h' u tk kp => ⟨_, _, rfl, .str _, H, I.kept kp, ⟨u, rfl⟩, q⟩) hz'
  | tup ds =>
    obtain ⟨a, vs, rfl, e, ra⟩ := hd.sqT
    cases rx
    obtain ⟨its, rv, ⟨o, ho, hc, n, hdat⟩, _⟩ := I.tuple e
    obtain ⟨as, r4, kk⟩ := repr_all I ds hp ra rv
    have hz' : (tupleText (PyData.shownAll (pys ds))).length ≤ sizeLine := by simpa only [py, PyData.shown] using hz
    obtain ⟨bs, hb, hkk⟩ := kk (by simpa [py, PyData.showable] using hs) fun t ht => Nat.le_trans (tupleText_mem_le ht) hz'
    have hna := not_mem_of_deeper (Reads.tuple ho hc hdat r4) (n := PyData.depthAll (pys ds)) (Nat.lt_succ_self _) hb
    have hdp : PyData.depthAll (pys ds) + 1 ≤ 60 := hdep
    refine PySem.call_repr_slot (by omega) ⟨o, ho, hc⟩ PySem.F.slot_tuple_repr ?_
    exact PySem.call_tuple_reprK ho hc hdat hna hkk rm.g (fun b _ => Clear.nil b) (by show X.A.units + 1 + _ < cLine; omega) (fun _ _ e => e) (fun h' u tk kp => ⟨_, _, rfl, .str _, H, I.kept kp, ⟨u, rfl⟩, q⟩) hz'
  | dct kvs => exact absurd rfl hk
  | obj C fs => cases hp
  | raw v => cases hp
/-- what may be shown: the ints small, the texts well, few levels, not too great; dicts may stand in it -/
structure Shk (e w : Nat) (x : D) : Prop where
  pl : plk x = true
  sb : (py x).showable = true
  dp : (py x).depth ≤ e
  wt : (py x).weight ≤ w
  ls : (py x).leavesShort 121 = true
mutual
theorem plk_of : ∀ d : D, plain d = true → plk d = true
  | .non, _ => rfl
  | .bl _, _ => rfl
  | .int _, _ => rfl
  | .str _, _ => rfl
  | .lst xs, h => plks_of xs h
  | .tup xs, h => plks_of xs h
  | .dct _, h => by simp [plain] at h
  | .obj _ _, h => by simp [plain] at h
  | .raw _, h => by simp [plain] at h
theorem plks_of : ∀ xs : List D, plains xs = true → plks xs = true
  | [], _ => rfl
  | x :: xs, h => by
    have h' : plain x = true ∧ plains xs = true := by simpa [plains] using h
    show (plk x && plks xs) = true
    rw [plk_of x h'.1, plks_of xs h'.2]; rfl
end
theorem Sh.k {e w : Nat} {x : D} (h : Sh e w x) : Shk e w x := ⟨plk_of x h.pl, h.sb, h.dp, h.wt, PyData.leavesShort_of_canLay0 121 _ h.cl h.ls⟩
theorem Shk.mono {e w e' w' : Nat} {x : D} (h : Shk e w x) (h1 : e ≤ e') (h2 : w ≤ w') : Shk e' w' x := ⟨h.pl, h.sb, Nat.le_trans h.dp h1, Nat.le_trans h.wt h2, h.ls⟩
theorem Shk.all {e w : Nat} : ∀ {xs : List D}, (∀ x ∈ xs, Shk e w x) → plks xs = true ∧ PyData.showableAll (pys xs) = true ∧ PyData.depthAll (pys xs) ≤ e ∧ PyData.weightAll (pys xs) ≤ xs.length * (w + 1) ∧ PyData.leavesShortAll 121 (pys xs) = true
  | [], _ => ⟨rfl, rfl, Nat.zero_le _, Nat.zero_le _, rfl⟩
  | x :: xs, h => by
    have h0 := h x (List.mem_cons_self ..)
    obtain ⟨h1, h2, h4, h5, h6⟩ := Shk.all (xs := xs) fun y hy => h y (List.mem_cons_of_mem _ hy)
    refine ⟨?_, ?_, ?_, ?_, ?_⟩
    · show (plk x && plks xs) = true
      rw [h0.pl, h1]; rfl
    · show (PyData.showable (py x) && PyData.showableAll (pys xs)) = true
      rw [h0.sb, h2]; rfl
    · have := h0.dp
      simp only [pys, PyData.depthAll]
      omega
    · have := h0.wt
      simp only [pys, PyData.weightAll, List.length_cons]
      rw [Nat.succ_mul]
      omega
    · show (PyData.leavesShort 121 (py x) && PyData.leavesShortAll 121 (pys xs)) = true
      rw [h0.ls, h6]; rfl
theorem Shk.lst {e w m e' w' : Nat} {xs : List D} (h : ∀ x ∈ xs, Shk e w x) (hm : xs.length ≤ m) (he : e + 1 ≤ e' := by omega) (hw : m * (w + 1) ≤ w' := by omega) : Shk e' w' (.lst xs) := by
  obtain ⟨h1, h2, h4, h5, h6⟩ := Shk.all h
  refine ⟨h1, h2, ?_, Nat.le_trans h5 (Nat.le_trans (Nat.mul_le_mul_right _ hm) hw), h6⟩
  simp only [py, PyData.depth]
  omega
theorem Shk.tup {e w m e' w' : Nat} {xs : List D} (h : ∀ x ∈ xs, Shk e w x) (hm : xs.length ≤ m) (he : e + 1 ≤ e' := by omega) (hw : m * (w + 1) ≤ w' := by omega) : Shk e' w' (.tup xs) := by
  obtain ⟨h1, h2, h4, h5, h6⟩ := Shk.all h
  refine ⟨h1, h2, ?_, Nat.le_trans h5 (Nat.le_trans (Nat.mul_le_mul_right _ hm) hw), h6⟩
  simp only [py, PyData.depth]
  omega
theorem Shk.len {e w : Nat} {x : D} (h : Shk e w x) (hw : w ≤ 100000) : (py x).shown.length ≤ sizeLine := by
  have h1 := PyData.shown_le 121 (by decide) _ h.ls
  have h2 := h.wt
  rw [sizeLine_eq]
  omega
section
variable {K : PySem.W.Frag} {A : Amb} {ρ : En} {x : D} {k : D → Prop}
theorem cd_reprP {e w : Nat} (h : k (.str (rp x))) (hx : Shk e w x) (hk : tyD x ≠ some "dict" := by simp [tyD]) (he : e ≤ 60 := by decide) (hw : w ≤ 100000 := by decide) : CallD K A (rReprP K) ρ [x] k := by
  intro n σ ρ0 H0 H vs Q hh r q
  cases r with
  | cons r1 r2 =>
    cases r2
    exact ⟨_, x, _, rfl, r1, hx.pl, hk, hx.sb, Nat.le_trans hx.dp he, hx.len hw, q _ _ H h hh .refl (.str _)⟩
end
end RD

/-! RD13: == where one of the two is a dict. -/
namespace PySem.SeqAt
open AutoSeq1 (wpAny_loadPart')
open MeetsSeq PySem.Calls
section
variable {prog : Program} {w : World} {M : Model} {A : Around} {E : Value → Shared → Prop} {s : Shared}
theorem tuple_vs_dict (l a : Addr) (items : Array Value) (n : Nat) (dd : Option Addr) (sl : Array (Option Value)) (es : Array DictEntry) (m : Nat) (d2 : Option Addr) (s2 : Array (Option Value)) :
    Meets (Builtin.«tuple.__eq__» ⟨[.ref l, .ref a], []⟩) (fun _ R s => s.heap.get? l = some { cls := .type "tuple", dict := dd, data := .seq items n, slots := sl } ∧ s.heap.get? a = some { cls := .type "dict", dict := d2, data := .dict es m, slots := s2 } ∧ R (.ok (.ret .notImplemented)) s) :=
  .of_wp fun prog w A R s h => by obtain ⟨hp, g, d, tk, os⟩ := s; obtain ⟨hl, ha, h⟩ := h; have f1 := F.sub_dict_tuple; wp_walk using wpAny_loadPart' hl, wpAny_loadPart' ha, wpAny_load ha; exact ⟨_, rfl, h⟩
theorem int_vs_dict (i : Int) (u : Tok) (a : Addr) (es : Array DictEntry) (m : Nat) (d2 : Option Addr) (s2 : Array (Option Value)) :
    Meets (Builtin.«int.__eq__» ⟨[.int i u, .ref a], []⟩) (fun _ R s => s.heap.get? a = some { cls := .type "dict", dict := d2, data := .dict es m, slots := s2 } ∧ R (.ok (.ret .notImplemented)) s) :=
  .of_wp fun prog w A R s h => by obtain ⟨hp, g, d, tk, os⟩ := s; obtain ⟨ha, h⟩ := h; wp_walk using wpAny_loadPart' ha, wpAny_load ha; exact ⟨_, rfl, h⟩
theorem bool_vs_dict (b : Bool) (a : Addr) (es : Array DictEntry) (m : Nat) (d2 : Option Addr) (s2 : Array (Option Value)) :
    Meets (Builtin.«int.__eq__» ⟨[.bool b, .ref a], []⟩) (fun _ R s => s.heap.get? a = some { cls := .type "dict", dict := d2, data := .dict es m, slots := s2 } ∧ R (.ok (.ret .notImplemented)) s) :=
  .of_wp fun prog w A R s h => by obtain ⟨hp, g, d, tk, os⟩ := s; obtain ⟨ha, h⟩ := h; wp_walk using wpAny_loadPart' ha, wpAny_load ha; exact ⟨_, rfl, h⟩
theorem str_vs_dict (x : Str) (u : Tok) (a : Addr) (es : Array DictEntry) (m : Nat) (d2 : Option Addr) (s2 : Array (Option Value)) :
    Meets (Builtin.«str.__eq__» ⟨[.str x u, .ref a], []⟩) (fun _ R s => s.heap.get? a = some { cls := .type "dict", dict := d2, data := .dict es m, slots := s2 } ∧ R (.ok (.ret .notImplemented)) s) :=
  .of_wp fun prog w A R s h => by obtain ⟨hp, g, d, tk, os⟩ := s; obtain ⟨ha, h⟩ := h; wp_walk using wpAny_loadPart' ha, wpAny_load ha; exact ⟨_, rfl, h⟩
theorem dict_vs {a : Addr} {v : Value} {T : String} {Q : Value → Shared → Prop} (ta : s.TypeIs (.ref a) "dict") (tv : s.TypeIs v T) (hs : isSubtype (.type T) (.type "dict") = pure false) (q : Q .notImplemented s) :
    wpAny (model prog w) A (call (.builtin "dict.__eq__") [.ref a, v]) Q E s := by
  refine wpAny_call_entry PySem.F.slot_dict_eq ta PySem.F.entry_dict_eq ?_ (PySem.F.args_dict_eq_2 _ _)
  show wpAny _ _ (Builtin.Dict.dictSlotArgs "__eq__" ⟨[.ref a, v], []⟩ >>= _) _ _ s
  refine wpAny_bind ?_
  unfold Builtin.Dict.dictSlotArgs
  refine wpAny_bind (wpAny_notOrdered_dict ta ?_)
  show wpAny _ _ (pure (Value.ref a, v)) _ _ s
  refine wpAny_pure ?_
  refine wpAny_bind (wpAny_isInstance (T := T) tv hs ?_)
  simp only [Bool.not_false, if_true]
  exact wpAny_bind (wpAny_rule (wpAny_pure ⟨_, rfl, q⟩))
/-- what is no dict, and how it stands in the heap -/
inductive Oth (h : Heap) : Value → String → Prop
  | non : Oth h .none "NoneType"
  | bl (b : Bool) : Oth h (.bool b) "bool"
  | int (i : Int) (t : Tok) : Oth h (.int i t) "int"
  | str (x : Str) (t : Tok) : Oth h (.str x t) "str"
  | tup {l : Addr} {items : Array Value} {n : Nat} {dd : Option Addr} {sl : Array (Option Value)} : h.get? l = some { cls := .type "tuple", dict := dd, data := .seq items n, slots := sl } → Oth h (.ref l) "tuple"
theorem rc_dict_oth {a : Addr} {es : Array DictEntry} {m : Nat} {d2 : Option Addr} {s2 : Array (Option Value)} {v : Value} {T : String} (ha : s.heap.get? a = some { cls := .type "dict", dict := d2, data := .dict es m, slots := s2 }) (o : Oth s.heap v T) (hu : A.units < cLine) :
    RcAt A s (.ref a) v false ∧ RcAt A s v (.ref a) false := by
  have ta : s.TypeIs (.ref a) "dict" := ⟨_, ha, rfl⟩
  cases o with
  | non =>
    exact ⟨fun prog w E Q h => rc_eq_decline_or (k := false) ta rfl (by decide) F.sub_NoneType_dict F.slot_dict_eq F.slot_NoneType_eq_refl (fun _ hq => dict_vs ta rfl F.sub_NoneType_dict hq)
        (fun _ hq => call_gives F.slot_NoneType_eq_refl rfl F.entry_NoneType_eq (F.args_NoneType_eq_2 _ _) (NoneType___eq___none_ref_0 a) hq) (fun _ hq => wpAny_of_eq (rfl : isSame (.ref a) .none = pure false) hq) (.inr hu) h,
      fun prog w E Q h => rc_eq_decline_or (k := false) rfl ta (by decide) F.sub_dict_NoneType F.slot_NoneType_eq F.slot_dict_eq_refl (fun _ hq => call_gives F.slot_NoneType_eq rfl F.entry_NoneType_eq (F.args_NoneType_eq_2 _ _) (NoneType___eq___none_ref_0 a) hq)
        (fun _ hq => dict_vs ta rfl F.sub_NoneType_dict hq) (fun _ hq => wpAny_of_eq (rfl : isSame .none (.ref a) = pure false) hq) (.inr hu) h⟩
  | bl b =>
    exact ⟨fun prog w E Q h => rc_eq_decline_or (k := false) ta rfl (by decide) F.sub_bool_dict F.slot_dict_eq F.slot_bool_eq_refl (fun _ hq => dict_vs ta rfl F.sub_bool_dict hq)
        (fun _ hq => call_meets F.slot_bool_eq_refl rfl F.entry_int_eq (F.args_int_eq_2 _ _) (bool_vs_dict b a es m d2 s2) ⟨ha, hq⟩) (fun _ hq => wpAny_of_eq (rfl : isSame (.ref a) (.bool b) = pure false) hq) (.inr hu) h,
      fun prog w E Q h => rc_eq_decline_or (k := false) rfl ta (by decide) F.sub_dict_bool F.slot_bool_eq F.slot_dict_eq_refl (fun _ hq => call_meets F.slot_bool_eq rfl F.entry_int_eq (F.args_int_eq_2 _ _) (bool_vs_dict b a es m d2 s2) ⟨ha, hq⟩)
        (fun _ hq => dict_vs ta rfl F.sub_bool_dict hq) (fun _ hq => wpAny_of_eq (rfl : isSame (.bool b) (.ref a) = pure false) hq) (.inr hu) h⟩
  | int i t =>
    exact ⟨fun prog w E Q h => rc_eq_decline_or (k := false) ta (typeIs_int s i t) (by decide) F.sub_int_dict F.slot_dict_eq F.slot_int_eq_refl (fun _ hq => dict_vs ta (typeIs_int s i t) F.sub_int_dict hq)
        (fun _ hq => call_meets F.slot_int_eq_refl (typeIs_int s i t) F.entry_int_eq (F.args_int_eq_2 _ _) (int_vs_dict i t a es m d2 s2) ⟨ha, hq⟩) (fun _ hq => wpAny_of_eq (rfl : isSame (.ref a) (.int i t) = pure false) hq) (.inr hu) h,
      fun prog w E Q h => rc_eq_decline_or (k := false) (typeIs_int s i t) ta (by decide) F.sub_dict_int F.slot_int_eq F.slot_dict_eq_refl (fun _ hq => call_meets F.slot_int_eq (typeIs_int s i t) F.entry_int_eq (F.args_int_eq_2 _ _) (int_vs_dict i t a es m d2 s2) ⟨ha, hq⟩)
        (fun _ hq => dict_vs ta (typeIs_int s i t) F.sub_int_dict hq) (fun _ hq => wpAny_of_eq (rfl : isSame (.int i t) (.ref a) = pure false) hq) (.inr hu) h⟩
  | str x t =>
    exact ⟨fun prog w E Q h => rc_eq_decline_or (k := false) ta (typeIs_str s x t) (by decide) F.sub_str_dict F.slot_dict_eq F.slot_str_eq_refl (fun _ hq => dict_vs ta (typeIs_str s x t) F.sub_str_dict hq)
        (fun _ hq => call_meets F.slot_str_eq_refl (typeIs_str s x t) F.entry_str_eq (F.args_str_eq_2 _ _) (str_vs_dict x t a es m d2 s2) ⟨ha, hq⟩) (fun _ hq => wpAny_of_eq (rfl : isSame (.ref a) (.str x t) = pure false) hq) (.inr hu) h,
      fun prog w E Q h => rc_eq_decline_or (k := false) (typeIs_str s x t) ta (by decide) F.sub_dict_str F.slot_str_eq F.slot_dict_eq_refl (fun _ hq => call_meets F.slot_str_eq (typeIs_str s x t) F.entry_str_eq (F.args_str_eq_2 _ _) (str_vs_dict x t a es m d2 s2) ⟨ha, hq⟩)
        (fun _ hq => dict_vs ta (typeIs_str s x t) F.sub_str_dict hq) (fun _ hq => wpAny_of_eq (rfl : isSame (.str x t) (.ref a) = pure false) hq) (.inr hu) h⟩
  | @tup l items n dd sl hl =>
    have tl : s.TypeIs (.ref l) "tuple" := ⟨_, hl, rfl⟩
    have hne : a ≠ l := fun e => by rw [e, hl] at ha; simp at ha
    exact ⟨fun prog w E Q h => rc_eq_decline_or (k := false) ta tl (by decide) F.sub_tuple_dict F.slot_dict_eq F.slot_tuple_eq_refl (fun _ hq => dict_vs ta tl F.sub_tuple_dict hq)
        (fun _ hq => call_meets F.slot_tuple_eq_refl tl F.entry_tuple_eq (F.args_tuple_eq_2 _ _) (tuple_vs_dict l a items n dd sl es m d2 s2) ⟨hl, ha, hq⟩) (fun _ hq => wpAny_isSame_ref_other hne ha hl (by simp) hq) (.inr hu) h,
      fun prog w E Q h => rc_eq_decline_or (k := false) tl ta (by decide) F.sub_dict_tuple F.slot_tuple_eq F.slot_dict_eq_refl (fun _ hq => call_meets F.slot_tuple_eq tl F.entry_tuple_eq (F.args_tuple_eq_2 _ _) (tuple_vs_dict l a items n dd sl es m d2 s2) ⟨hl, ha, hq⟩)
        (fun _ hq => dict_vs ta tl F.sub_tuple_dict hq) (fun _ hq => wpAny_isSame_ref_other' hne.symm hl ha (by simp) hq) (.inr hu) h⟩
end
end PySem.SeqAt
namespace RD
open PySem PySem.Spec PyProof.Rows L2
/-- a dict and something else that is none, either way about -/
def rDictOth (K : PySem.W.Frag) : R2 := fun x y H Q => ∃ (a : Addr) (kvs : List (Key × V)) (z : V), ((x = .ref a ∧ y = z) ∨ (x = z ∧ y = .ref a)) ∧ H a = some (.dK kvs) ∧ (z = .non ∨ (∃ b, z = .bl b) ∨ (∃ i, z = .int i) ∨ (∃ t, z = .str t) ∨ ∃ l xs, z = .ref l ∧ SqT K H l xs) ∧ Q (.bl false) H
theorem op_dictOth {X : Cx} (hu : X.A.units + 64 < cLine) : OpR X (compareOp .Eq) (rDictOth X.K) := by
  intro pins s σ H x y v u Q I rx ry h
  obtain ⟨a, kvs, z, hxy, ha, hz, q⟩ := h
  obtain ⟨_, hsys, vs, rel, ⟨oc, od, dt, sl⟩, es, ep, ho, hx, hd, _, pr, _⟩ := I.hok a _ ha
  have hc : oc = .type "dict" := hx.1
  simp only at hd
  subst hc hd
  have oth : ∀ {uz : Value}, RelV z uz → ∃ T, SeqAt.Oth s.heap uz T := fun {uz} rz => by
    rcases hz with rfl | ⟨b, rfl⟩ | ⟨i, rfl⟩ | ⟨t, rfl⟩ | ⟨l, xs, rfl, hl⟩
    · cases rz; exact ⟨_, .non⟩
    · cases rz; exact ⟨_, .bl b⟩
    · obtain ⟨tk, rfl⟩ := rz; exact ⟨_, .int i tk⟩
    · obtain ⟨tk, rfl⟩ := rz; exact ⟨_, .str t tk⟩
    · cases rz
      obtain ⟨its, rv, ⟨⟨oc2, od2, dt2, sl2⟩, ho2, hc2, n, hd2⟩, _⟩ := I.tuple hl
      simp only at hc2 hd2
      subst hc2 hd2
      exact ⟨_, .tup ho2⟩
  rcases hxy with ⟨rfl, rfl⟩ | ⟨rfl, rfl⟩
  · cases rx
    obtain ⟨T, o⟩ := oth ry
    exact (SeqAt.rc_dict_oth ho o (A := X.A) (by omega)).1 _ _ _ _ ⟨.bl false, H, I, rfl, q⟩
  · cases ry
    obtain ⟨T, o⟩ := oth rx
    exact (SeqAt.rc_dict_oth ho o (A := X.A) (by omega)).2 _ _ _ _ ⟨.bl false, H, I, rfl, q⟩
/-- == of any two data: no dict; two equal dicts; a dict and no dict -/
def rEqK (K : PySem.W.Frag) : R2 := fun x y H Q => rEqD K x y H Q ∨ (rEqV K x y H Q ∨ rDictOth K x y H Q)
theorem op_eqK {X : Cx} (hu : X.A.units + 64 < cLine) : OpR X (compareOp .Eq) (rEqK X.K) := (op_eqD hu).or ((op_eqV hu).or (op_dictOth hu))
section
variable {K : PySem.W.Frag} {M : Addr → Prop} {H : Hp}
mutual
/-- atoms and lists of such -/
def lsD : D → Bool
  | .non => true
  | .bl _ => true
  | .int _ => true
  | .str _ => true
  | .lst xs => lsDs xs
  | _ => false
def lsDs : List D → Bool
  | [] => true
  | x :: xs => lsD x && lsDs xs
end
/-- equal data are equal -/
theorem eqV_refl : ∀ (n : Nat) (d : D) {v u : V}, lsD d = true → (py d).depth < n → Rep K M H v d → Rep K M H u d → EqV K H n v u
  | 0, _, _, _, _, h, _, _ => absurd h (Nat.not_lt_zero _)
  | n + 1, d, v, u, hp, h, r, z => by
    have all : ∀ (ds : List D) {vs us : List V}, lsDs ds = true → PyData.depthAll (pys ds) < n → RepAll K M H vs ds → RepAll K M H us ds → Paired (EqV K H n) vs us := by
      intro ds
      induction ds with
      | nil => intro vs us _ _ a b; cases a; cases b; exact .nil
      | cons x xs ih =>
        intro vs us hp hd a b
        have hp' : lsD x = true ∧ lsDs xs = true := by simpa [lsDs] using hp
        have hd' : (py x).depth < n ∧ PyData.depthAll (pys xs) < n := by
          simp only [pys, PyData.depthAll] at hd
          omega
        cases a with
        | cons a1 a2 => cases b with
          | cons b1 b2 => exact .cons (eqV_refl n x hp'.1 hd'.1 a1 b1) (ih hp'.2 hd'.2 a2 b2)
    cases d with
    | non => cases r; cases z; exact .inl ⟨rfl, rfl⟩
    | bl b => cases r; cases z; exact .inl ⟨rfl, rfl⟩
    | int i => cases r; cases z; exact .inl ⟨rfl, rfl⟩
    | str x => cases r; cases z; exact .inl ⟨rfl, rfl⟩
    | lst ds =>
      cases r with
      | lst m e ra =>
        cases z with
        | lst m' e' ra' =>
          have hd : PyData.depthAll (pys ds) + 1 < n + 1 := h
          exact .inr (.inr (.inl ⟨_, _, _, _, rfl, rfl, .of e, .of e', all ds hp (by omega) ra ra'⟩))
    | tup ds => cases hp
    | dct kvs => cases hp
    | obj C fs => cases hp
    | raw v => cases hp
end
section
variable {K : PySem.W.Frag} {A : Amb} {ρ : En} {x y : D} {k : D → Prop}
/-- a dict of one key and its like -/
theorem od_eqD1 {key : Key} {d : D} (h : k (.bl true)) (hl : lsD d = true) (hd : (py d).depth ≤ 50) : OpD K A (rEqK K) ρ (.dct [(key, d)]) (.dct [(key, d)]) k := by
  intro n σ ρ0 H0 H vx vy Q hh r1 r2 q
  cases r1 with
  | dct m e ra =>
    cases r2 with
    | dct m' e' ra' =>
      cases ra with
      | cons a1 a2 =>
        cases a2
        cases ra' with
        | cons b1 b2 =>
          cases b2
          refine .inr (.inl ⟨51, by decide, .inr ⟨_, _, _, _, rfl, rfl, e, e', rfl, fun p hp => ?_⟩, q _ _ H h hh .refl (.bl _)⟩)
          rw [List.mem_singleton.mp hp]
          exact ⟨_, by simp [valV], eqV_refl 51 d hl (by omega) a1 b1⟩
/-- no dict -/
def othD : D → Bool
  | .non => true
  | .bl _ => true
  | .int _ => true
  | .str _ => true
  | .tup _ => true
  | _ => false
theorem oth_rep {M : Addr → Prop} {H : Hp} {z : V} {d : D} (r : Rep K M H z d) (h : othD d = true) : z = .non ∨ (∃ b, z = .bl b) ∨ (∃ i, z = .int i) ∨ (∃ t, z = .str t) ∨ ∃ l xs, z = .ref l ∧ SqT K H l xs := by
  cases d with
  | non => cases r; exact .inl rfl
  | bl b => cases r; exact .inr (.inl ⟨_, rfl⟩)
  | int i => cases r; exact .inr (.inr (.inl ⟨_, rfl⟩))
  | str x => cases r; exact .inr (.inr (.inr (.inl ⟨_, rfl⟩)))
  | tup ds =>
    obtain ⟨a, vs, rfl, q, ra⟩ := r.sqT
    exact .inr (.inr (.inr (.inr ⟨a, vs, rfl, q⟩)))
  | lst ds => cases h
  | dct kvs => cases h
  | obj C fs => cases h
  | raw v => cases h
theorem od_eqDX {kvs : List (Key × D)} (h : k (.bl false)) (ho : othD y = true) : OpD K A (rEqK K) ρ (.dct kvs) y k := by
  intro n σ ρ0 H0 H vx vy Q hh r1 r2 q
  cases r1 with
  | dct m e ra => exact .inr (.inr ⟨_, _, vy, .inl ⟨rfl, rfl⟩, e, oth_rep r2 ho, q _ _ H h hh .refl (.bl _)⟩)
theorem od_eqXD {kvs : List (Key × D)} (h : k (.bl false)) (ho : othD x = true) : OpD K A (rEqK K) ρ x (.dct kvs) k := by
  intro n σ ρ0 H0 H vx vy Q hh r1 r2 q
  cases r2 with
  | dct m e ra => exact .inr (.inr ⟨_, _, vx, .inr ⟨rfl, rfl⟩, e, oth_rep r1 ho, q _ _ H h hh .refl (.bl _)⟩)
theorem od_eqK {e w e' w' : Nat} (h : k (.bl (eqD x y))) (hx : Sh e w x) (hy : Sh e' w' y) (he : e ≤ 60 := by decide) (he' : e' ≤ 60 := by decide) : OpD K A (rEqK K) ρ x y k := od_or1 (od_eq' h hx hy he he')
end
end RD

/-! RD14: promises of defs where a container may be being shown (no repr in them); objects. -/
namespace RD
open PySem PySem.Spec PyProof.Rows L2
section
variable {P : Program} {w : World} {K : PySem.W.Frag} {mg : Str → Option Value} {base : Heap} {x qual : Str} {params : Arguments} {body : List Stmt} {scope : Scope} {dvs : List V} {kws : List (Str × V)} {f : Addr} {fd : FuncData} {N ps : List Str} {k : Nat}
/-- a def that changes nothing, by its body, where there is room alone -/
theorem fn_pureR {R : List D → (D → Prop) → Prop} (F : FunD K x qual params body scope dvs kws f fd) (S : FnScope N ps scope) (len : ∀ ds kk, R ds kk → ds.length = ps.length)
    (hbody : ∀ (cdv : Value) (A0 : Around) (outer : List Env) (s : Shared) (H : Hp) (E : XK) (A : Amb) (ds : List D) (kk : D → Prop), Room k (A0.deeper (envOfC qual scope s.heap.objs.size f cdv)) → A.pen = none → R ds kk →
      WS (cxOf CX0 P w K mg base N qual scope f cdv A0 outer s H E).nox A body (startD N ds) 0 { nx := fun _ _ => kk .non, rt := fun _ _ d => kk d }) : FnOk P w K mg base CX0 (k + 1) f fd ps (spF K R) := by
  refine F.ok S (fun vs H Q E h => ?_) fun cdv A0 outer s H vs Q E hr h => ?_
  · obtain ⟨W, ds, kk, _, _, r, hR, _⟩ := h
    rw [r.length]
    exact len ds kk hR
  · obtain ⟨W, ds, kk, htr, hnd, r, hR, q⟩ := h
    refine ⟨_, PSs.nox sscan, ?_⟩
    have mt : ∀ a, Mt { W := W, H0 := H, pen := none } (startD N ds) a ↔ a ∈ W := mt_start
    have r' : RepAll K (Mt { W := W, H0 := H, pen := none } (startD N ds)) H vs ds := RepAll.mono (fun a o m e => ⟨e, fun z => m ((mt a).mp z)⟩) ds r
    have fin : ∀ {n : Nat} {ρ : En} {σ : L2.St} {H' : Hp} {v : V} {d : D}, kk d → Here K { W := W, H0 := H, pen := none } (startD N ds) H n ρ σ H' → Rep K (Mt { W := W, H0 := H, pen := none } ρ) H' v d → Q v H' := fun {n ρ σ H' v d} hk hh rr => by
      refine q d v H' hk (fun a o e => (hh.kp a o ?_ (fun z => z) e).1) (Rep.mono (fun a o m e => ⟨e, fun z => m (.inr z)⟩) d rr)
      rw [owns_startD]; simp
    refine hbody cdv A0 outer s H E { W := W, H0 := H, pen := none } ds kk hr rfl hR (startD N ds) H (L2.start N vs) H ⟨.refl, ⟨fun _ _ _ => rfl, htr, trivial⟩, ⟨paired_startD N r', ?_⟩⟩ _ ⟨?_, ?_, ?_, ?_⟩
    · rw [owns_startD]; simpa using hnd
    · intro n ρ σ H' h1 hh
      exact fin h1 hh .non
    · intro n ρ σ H' d v h1 hh rr
      exact fin h1 hh rr
    · intro n ρ σ H' h1 _
      exact h1
    · intro n ρ σ H' h1 _
      exact h1
end
section
variable {X : Cx} {A : Amb} {ρ : En} {n lv : Nat} {e : Expr} {es : List Expr} {x : Str} {p pos : Pos} {f : Addr} {fd : FuncData} {ps : List Str} {R : List D → (D → Prop) → Prop} {k : Nat → En → D → Prop} {dvs : List V} {dds : List D} {us : List Value}
/-- f(e, ..) by such a promise -/
theorem we_callR (F : FnOk X.prog X.w X.K X.mg X.base CX0 lv f fd ps (spF X.K R)) (hr : Room lv X.A) (hm : X.mg x = some (.ref f)) (hk : PySem.W.keepIn X.K (.ref f) = true) (hb : Binds X.K fd ps us) (hd : Vals dvs us) (hdd : ∀ M H, RepAll X.K M H dvs dds)
    (h : WA X A (e :: es) ρ n fun n ρ ds => R (ds ++ dds) (k n ρ)) (hg : Gl X x := by rfl) (hdb : (x == ("__debug__" : Str)) = false := by decide) (he : starEach (e :: es) X.env = (false, eval e X.env) :: starEach es X.env := by rfl) (hpl : (backTo pos (starEach es X.env)).any (·.1) = false := by rfl) :
    WE X A (.Call (.Name x p) (e :: es) [] pos) ρ n k := by
  intro ρ0 H0 σ H hh Q q
  refine canE.of (pe_call F hr hg hm hk hb hd pass0 acan hdb he hpl) ?_
  refine h ρ0 H0 σ H hh _ fun n1 ρ1 ds vs H1 h1 hh1 k1 r1 => ?_
  exact spF_of hh1 (r1.append (hdd _ _)) h1 fun d v H' hk hh' kp rr => q n1 ρ1 d v H' hk hh' (k1.trans kp) rr
end

/-! ### fields -/
section
variable {K : PySem.W.Frag} {M : Addr → Prop} {H : Hp}
theorem repF_get : ∀ {fs : List (Str × V)} {ds : List (Str × D)} {f : Str} {d : D}, RepF K M H fs ds → ds.lookup f = some d → ∃ v, fs.lookup f = some v ∧ Rep K M H v d
  | _, _, f, d, .nil, e => by simp at e
  | _, _, f, d, .cons (k := g) r t, e => by
    rw [List.lookup_cons] at e ⊢
    cases hb : f == g with
    | true => rw [hb] at e; cases e; exact ⟨_, rfl, r⟩
    | false => rw [hb] at e; exact repF_get t e
end
section
variable {X : Cx} {A : Amb} {ρ : En} {n : Nat} {e : Expr} {f : Str} {pos : Pos} {k : Nat → En → D → Prop}
/-- e.f -/
theorem we_fld (h : WE X A e ρ n fun n ρ x => ∃ C fs d, x = .obj C fs ∧ Cls X.K C ∧ NoAttr X.K C f ∧ fs.lookup f = some d ∧ k n ρ d) (hb : attributeBase e f X.env (eval e X.env) = eval e X.env := by rfl) : WE X A (.Attribute e f pos) ρ n k := by
  intro ρ0 H0 σ H hh Q q
  refine canE.of (pe_fld pcan hb) ?_
  refine h ρ0 H0 σ H hh _ fun n1 ρ1 d v H1 h1 hh1 k1 r1 => ?_
  obtain ⟨C, fs, d', rfl, hc, hn, hl, h1⟩ := h1
  cases r1 with
  | @obj a _ dx vs _ m ea ra =>
    obtain ⟨v', e1, r'⟩ := repF_get ra hl
    exact ⟨a, C, dx, vs, v', rfl, ea, hc, hn, e1, q n1 ρ1 _ _ H1 h1 hh1 k1 r'⟩
end
end RD

namespace PySem.W
open PySem PySem.Calls PyProof.Rows Builtin
section
variable {prog : Program} {w : World} {A A₀ : Around} {E : Value → Shared → Prop} {s : Shared} {K : Frag} {x y C C' L f : Addr} {h₀ : Heap} {m : Str → Option Value} {ox oy : Obj} {od od' : Option Obj}
/-- the right one's class is below the left one's: the right one's method is asked first -/
theorem rd_first {op : CmpOp} {Q : Value → Shared → Prop} (hu : A.units < cLine) (X : K.In s.heap) (I : InstAt s.heap x ox C od) (J : InstAt s.heap y oy C' od') (hne : C' ≠ C) (hsub : subIn K (.ref C') (.ref C) = some true)
    (hs : findIn K (.ref C') (cmpInfo op).2.2 = some (some (.ref f))) (hf : isFn K (.ref f) = true)
    (h : wpAny (model prog w) A (call (.ref f) [.ref y, .ref x]) (CmpBack Q) E s) : wpAny (model prog w) A (richCompare op (.ref x) (.ref y)) Q E s := by
  have one : wpAny (model prog w) A (tryCompare (.ref y) (cmpInfo op).2.2 (.ref x)) (fun r s' => ∃ v, r = some v ∧ Q v s') E s := by
    unfold tryCompare
    refine wpAny_bind (ifBound_K X J hs hf (wpAny_mono h (fun v s' hv => ?_) fun _ _ e => e))
    cases v <;> first | exact hv.elim | exact wpAny_pure ⟨_, rfl, hv⟩
  unfold richCompare
  simp only [oneThing_ref]
  refine wpAny_holding (wpAny_bind (wpAny_cRoomFor hu ?_))
  refine wpAny_bind (I.type.here (wpAny_bind (J.type.here ?_)))
  split
  · refine wpAny_bind ((looks_subIn X hsub).here ?_)
    simp only [if_true]
    refine wpAny_bind (wpAny_mono one (fun r s' z => ?_) fun _ _ e => e)
    obtain ⟨v, rfl, hq⟩ := z
    exact wpAny_bind (wpAny_rule (wpAny_pure hq))
  · rename_i q
    exact absurd (by simpa using fun e => hne e.symm) q
theorem rd_neBound {args : List Value} {Q : Option Value → Shared → Prop} {M : Model} (X : K.In s.heap) (I : InstAt s.heap x ox C od) (hs : findIn K (.ref C) "__ne__" = some (some (.builtin "object.__ne__")))
    (h : wpAny M A (call (.builtin "object.__ne__") (.ref x :: args)) (fun v => Q (some v)) E s) : wpAny M A (callSpecialIfBound? (.ref x) "__ne__" args) Q E s := by
  simp only [callSpecialIfBound?, bindSpecialIfBound?]
  refine wpAny_holding (wpAny_bind (wpAny_bind (wpAny_bind (I.type.here ((looks_findIn X hs).here ?_)))))
  refine wpAny_bind (wpAny_askSetting (wpAny_ite ?_))
  have fin : wpAny M A (call (.builtin "object.__ne__") ([.ref x] ++ args) >>= fun v => pure (some v)) Q E s := wpAny_bind (wpAny_mono h (fun v s' h' => wpAny_pure h') fun _ _ h' => h')
  split
  · exact wpAny_bind (wpAny_of_eq (F.cmp_object.ne.bind _) (wpAny_pure (by exact fin)))
  · exact wpAny_tryCatch (wpAny_bind (wpAny_of_eq (F.cmp_object.ne.bind _) (wpAny_pure (by exact fin))))
/-- x != y of two of one class with an own == and no own != -/
theorem rd_ne {Q : Value → Shared → Prop} (hu : A.units + 1 < cLine) (X : K.In s.heap) (I : InstAt s.heap x ox C od) (J : InstAt s.heap y oy C od') (hm : mroIn K C (.type "object") = some true) (hn : findIn K (.ref C) "__ne__" = some (some (.builtin "object.__ne__")))
    (hs : findIn K (.ref C) "__eq__" = some (some (.ref f))) (hf : isFn K (.ref f) = true)
    (h : wpAny (model prog w) A.in1 (call (.ref f) [.ref x, .ref y]) (fun v s' => ∃ b, v = .bool b ∧ Q (.bool (!b)) s') E s) : wpAny (model prog w) A (richCompare .NotEq (.ref x) (.ref y)) Q E s := by
  have entry : ∀ {R : Fin → Shared → Prop}, (∀ b s', Q (.bool (!b)) s' → R (.done (.ret (.bool (!b)))) s') → wpAny (model prog w) A.in1 (Builtin.«object.__ne__» ⟨[.ref x, .ref y], []⟩) R E s := fun {R} hR => by
    unfold Builtin.«object.__ne__»
    repeat (first
      | with_reducible refine wpAny_cRoomFor (show A.in1.units < cLine from hu) ?_
      | (refine wpAny_bind (m := callSpecialIfBound? (.ref x) (Str.ofString "__eq__") [.ref y]) (ifBound_K X I hs hf (wpAny_mono h (fun r s' hr => by
          obtain ⟨b, rfl, hq⟩ := hr
          repeat (first | exact hR b _ hq | exact wpAny_pure (hR b _ hq) | exact wpAny_truthy_bool (hR b _ hq) | (refine wpAny_bind (m := truthy (.bool _)) (wpAny_truthy_bool ?_)) | wp_step)) fun _ _ e => e)))
      | wp_step)
  have one : wpAny (model prog w) A (tryCompare (.ref x) "__ne__" (.ref y)) (fun r s' => ∃ v, r = some v ∧ Q v s') E s := by
    unfold tryCompare
    refine wpAny_bind (rd_neBound X I hn (wpAny_call (codeAny_call_builtin F.cmp_object.ne.plain F.cmpEntry_ne (check_slot F.cmpKind_ne F.cmpSplit_ne (I.type.andThen (looks_mroIn X hm)) (F.cmpArgs_ne _ _) (entry fun b s' hq => ?_)))))
    exact wpAny_pure ⟨_, rfl, hq⟩
  unfold richCompare
  simp only [oneThing_ref]
  refine wpAny_holding (wpAny_bind (wpAny_cRoomFor (by omega) ?_))
  refine wpAny_bind (I.type.here (wpAny_bind (J.type.here ?_)))
  split
  · rename_i q
    exact absurd q (by simp)
  · refine wpAny_bind (wpAny_pure ?_)
    simp only [Bool.false_eq_true, if_false]
    refine wpAny_bind (m := tryCompare (.ref x) _ (.ref y)) (wpAny_mono one (fun r s' z => ?_) fun _ _ e => e)
    obtain ⟨v, rfl, hq⟩ := z
    exact wpAny_pure hq
end
end PySem.W

/-! RD15: ==, != and the truth of instances by the text's own methods; isinstance of instances. -/
namespace RD
open PySem PySem.Spec PyProof.Rows L2
theorem vr1 (a : Addr) : Vals [V.ref a] [Value.ref a] := .cons rfl .nil
theorem vr2 (a b : Addr) : Vals [V.ref a, V.ref b] [Value.ref a, Value.ref b] := .cons rfl (.cons rfl .nil)
section
variable {X : Cx} {n : Nat} {f : Addr} {fd : FuncData} {ps : List Str} {sp : Sp}
/-- a call from within a built-in -/
theorem run_at {A : Around} {pins : List (Addr × Obj)} {σ : L2.St} {H : Hp} {s : Shared} {Q : VK} {us : List Value} {vs : List V} (F : FnOk X.prog X.w X.K X.mg X.base CX0 n f fd ps sp) (sb : Sub X n A) (hb : Binds X.K fd ps []) (I : Inv X pins σ H s) (r : Vals vs us) (h : sp vs H Q E0) :
    wpAny (model X.prog X.w) A (call (.ref f) us) (EP X pins σ Q) X.xe s := by
  have e0 : Env0 X.prog X.w X.K X.mg X.base A X.stack s H := by
    have e := I.env0
    exact ⟨by rw [sb.fr]; exact e.frames, e.mod, e.bs, e.bsz, e.funs, e.frf, e.hok, e.bare⟩
  have hl := F.len _ _ _ _ h
  refine wpAny_call (codeAny_mono (F.run A X.stack s H ⟨us, []⟩ us vs _ E0 sb.room e0 (by
    have := hb s us I.kIn (by rw [List.append_nil, ← r.length]; exact hl)
    simpa using this) r h) fun r s' hq => ?_)
  cases r with
  | error e => exact hq.elim
  | ok fl =>
    cases fl with
    | ret w => exact I.after hq
    | next => exact False.elim hq
    | brk => exact False.elim hq
    | cont => exact False.elim hq
/-- x == y: x an instance with an own ==; y an instance of a class that is not below x's, a tuple; or y's class is below x's, and y's own == is asked -/
def rEqOwn (K : PySem.W.Frag) (f : Addr) (sp : Sp) : R2 := fun x y H Q => ∃ a C dx fs, x = .ref a ∧ H a = some (.ins C dx fs) ∧ PySem.W.findIn K (.ref C) "__eq__" = some (some (.ref f)) ∧
  ((∃ b C' dy gs, y = .ref b ∧ H b = some (.ins C' dy gs) ∧ PySem.W.notFirst K C (.ref C') = true ∧ sp [x, y] H (fun v H' => ∃ c, v = .bl c ∧ Q (.bl c) H') E0) ∨
   (∃ b ys, y = .ref b ∧ SqT K H b ys ∧ PySem.W.notFirst K C (.type "tuple") = true ∧ sp [x, y] H (fun v H' => ∃ c, v = .bl c ∧ Q (.bl c) H') E0) ∨
   ∃ b C' dy gs, y = .ref b ∧ H b = some (.ins C' dy gs) ∧ C' ≠ C ∧ PySem.W.subIn K (.ref C') (.ref C) = some true ∧ PySem.W.findIn K (.ref C') "__eq__" = some (some (.ref f)) ∧ sp [y, x] H (fun v H' => ∃ c, v = .bl c ∧ Q (.bl c) H') E0)
theorem op_eqOwn (F : FnOk X.prog X.w X.K X.mg X.base CX0 n f fd ps sp) (hr : Room n X.A) (hb : Binds X.K fd ps []) (hf : PySem.W.isFn X.K (.ref f) = true) : OpR X (compareOp .Eq) (rEqOwn X.K f sp) := by
  intro pins s σ H x y v u Q I rx ry h
  obtain ⟨a, C, dx, fs, rfl, ha, hs, h⟩ := h
  cases rx
  obtain ⟨mA, J, _⟩ := ins_get I.hok ha
  obtain ⟨od, J, _⟩ := J.look
  obtain ⟨m, hF⟩ := I.fr
  have back : ∀ {us : List Value} {vs : List V}, Vals vs us → sp vs H (fun v H' => ∃ c, v = .bl c ∧ Q (.bl c) H') E0 → wpAny (model X.prog X.w) X.A (call (.ref f) us) (PySem.W.CmpBack (EP X pins σ Q)) X.xe s := fun {us vs} r hsp => by
    refine wpAny_mono (run_at F ⟨hr, rfl⟩ hb I r hsp) (fun w s' hw => ?_) fun _ _ e => e
    obtain ⟨v, H', I', rv, c, rfl, q⟩ := hw
    cases rv
    exact ⟨.bl c, H', I', rfl, q⟩
  rcases h with ⟨b, C', dy, gs, rfl, hb', hn, hsp⟩ | ⟨b, ys, rfl, hb', hn, hsp⟩ | ⟨b, C', dy, gs, rfl, hb', hne, hsub, hs', hsp⟩
  · cases ry
    obtain ⟨mB, J', _⟩ := ins_get I.hok hb'
    obtain ⟨od', J', _⟩ := J'.look
    exact PySem.W.cmp_K (op := .Eq) (tb := .ref C') hr.units0 hF I.ok.mod.kin J J'.type hn hs hf (back (vr2 a b) hsp)
  · cases ry
    obtain ⟨its, rv, ⟨o, ho, hc, _, _⟩, _⟩ := I.tuple hb'
    have L : PySem.W.Looks (model X.prog X.w) s.heap (typeOf (.ref b)) (.type "tuple") := fun A Q E s k q => wpAny_typeOf_ref (k _ _ ho) (by rw [hc]; exact q)
    exact PySem.W.cmp_K (op := .Eq) (tb := .type "tuple") hr.units0 hF I.ok.mod.kin J L hn hs hf (back (vr2 a b) hsp)
  · cases ry
    obtain ⟨mB, J', _⟩ := ins_get I.hok hb'
    obtain ⟨od', J', _⟩ := J'.look
    exact PySem.W.rd_first (op := .Eq) hr.units0 I.kIn J J' hne hsub hs' hf (back (vr2 b a) hsp)
/-- x != y, both of one class with an own == and no own != -/
def rNeOwn (K : PySem.W.Frag) (f : Addr) (sp : Sp) : R2 := fun x y H Q => ∃ a b C dx dy fs gs, x = .ref a ∧ y = .ref b ∧ H a = some (.ins C dx fs) ∧ H b = some (.ins C dy gs) ∧ PySem.W.mroIn K C (.type "object") = some true ∧
  PySem.W.findIn K (.ref C) "__ne__" = some (some (.builtin "object.__ne__")) ∧ PySem.W.findIn K (.ref C) "__eq__" = some (some (.ref f)) ∧ sp [x, y] H (fun v H' => ∃ c, v = .bl c ∧ Q (.bl (!c)) H') E0
theorem op_neOwn (F : FnOk X.prog X.w X.K X.mg X.base CX0 n f fd ps sp) (hr : Room (n + 1) X.A) (hb : Binds X.K fd ps []) (hf : PySem.W.isFn X.K (.ref f) = true) : OpR X (compareOp .NotEq) (rNeOwn X.K f sp) := by
  intro pins s σ H x y v u Q I rx ry h
  obtain ⟨a, b, C, dx, dy, fs, gs, rfl, rfl, ha, hb', hm, hn, hs, hsp⟩ := h
  cases rx
  cases ry
  obtain ⟨mA, J, _⟩ := ins_get I.hok ha
  obtain ⟨od, J, _⟩ := J.look
  obtain ⟨mB, J', _⟩ := ins_get I.hok hb'
  obtain ⟨od', J', _⟩ := J'.look
  have un := hr.units
  refine PySem.W.rd_ne (by omega) I.kIn J J' hm hn hs hf ?_
  have sb : Sub X (n + 1) X.A := ⟨hr, rfl⟩
  refine wpAny_mono (run_at F sb.in1 hb I (vr2 a b) hsp) (fun w s' hw => ?_) fun _ _ e => e
  obtain ⟨v, H', I', rv, c, rfl, q⟩ := hw
  cases rv
  exact ⟨c, rfl, .bl _, H', I', rfl, q⟩
/-- the truth by an own __bool__ -/
def rTruOwn (K : PySem.W.Frag) (C f : Addr) (sp : Sp) : V → Hp → (Bool → Hp → Prop) → Prop := fun x H Q => ∃ a dx fs, x = .ref a ∧ H a = some (.ins C dx fs) ∧ sp [x] H (fun v H' => ∃ c, v = .bl c ∧ Q c H') E0
theorem tru_own {C : Addr} (F : FnOk X.prog X.w X.K X.mg X.base CX0 n f fd ps sp) (hr : Room n X.A) (hb : Binds X.K fd ps []) (hf : PySem.W.isFn X.K (.ref f) = true) (hs : PySem.W.findIn X.K (.ref C) "__bool__" = some (some (.ref f))) : TruR X (rTruOwn X.K C f sp) := by
  intro pins s σ H x v Q I rx h
  obtain ⟨a, dx, fs, rfl, ha, hsp⟩ := h
  cases rx
  obtain ⟨mA, J, _⟩ := ins_get I.hok ha
  obtain ⟨od, J, _⟩ := J.look
  obtain ⟨m, hF⟩ := I.fr
  refine PySem.W.truthy_K hF I.ok.mod.kin J hs hf ?_
  refine wpAny_mono (run_at F ⟨hr, rfl⟩ hb I (vr1 a) hsp) (fun w s' hw => ?_) fun _ _ e => e
  obtain ⟨v, H', I', rv, c, rfl, q⟩ := hw
  cases rv
  exact ⟨H', I', q⟩
end

/-! ### by data -/
section
variable {K : PySem.W.Frag} {A : Amb} {ρ : En} {x y : D} {k : D → Prop} {f : Addr} {R : List D → (D → Prop) → Prop}
theorem spF_at {n : Nat} {σ : L2.St} {ρ0 : En} {H0 H1 : Hp} {Q : VK} {E : XK} {vs : List V} {ds : List D} {kk : D → Prop} (hh : Here K A ρ0 H0 n ρ σ H1) (r : RepAll K (Mt A ρ) H1 vs ds) (hR : R ds kk)
    (q : ∀ d v H', kk d → Here K A ρ0 H0 n ρ σ H' → Keeps A ρ H1 ρ H' → Rep K (Mt A ρ) H' v d → Q v H') : spF K R vs H1 Q E := by
  refine ⟨owns ρ ++ A.W, ds, kk, hh.tracked, hh.sat.nd, RepAll.mono (fun a o m e => ⟨e, fun z => m ((mt_mem a).mpr z)⟩) ds r, hR, fun d v H' hk st rr => ?_⟩
  obtain ⟨h1, h2⟩ := hh.stay st
  exact q d v H' hk h1 h2 (Rep.mono (fun a o m e => ⟨e, fun z => m ((mt_mem a).mp z)⟩) d rr)
/-- an instance against an instance, a tuple -/
theorem od_eqOwn {C : Addr} {fs : List (Str × D)} (hs : PySem.W.findIn K (.ref C) "__eq__" = some (some (.ref f))) (hy : (∃ C' gs, y = .obj C' gs ∧ PySem.W.notFirst K C (.ref C') = true) ∨ ((∃ ds, y = .tup ds) ∧ PySem.W.notFirst K C (.type "tuple") = true)) (h : R [.obj C fs, y] fun d => ∃ c, d = .bl c ∧ k (.bl c)) : OpD K A (rEqOwn K f (spF K R)) ρ (.obj C fs) y k := by
  intro n σ ρ0 H0 H vx vy Q hh r1 r2 q
  have rr := RepAll.cons r1 (.cons r2 .nil)
  have sp : spF K R [vx, vy] H (fun v H' => ∃ c, v = .bl c ∧ Q (.bl c) H') E0 := spF_at hh rr h fun d v H' hk hh' kp rv => by
    obtain ⟨c, rfl, hk⟩ := hk
    cases rv
    exact ⟨c, rfl, q _ _ H' hk hh' kp (.bl c)⟩
  cases r1 with
  | @obj a _ dx vs _ m ea ra =>
    refine ⟨a, C, dx, vs, rfl, ea, hs, ?_⟩
    rcases hy with ⟨C', gs, rfl, hn⟩ | ⟨⟨ds, rfl⟩, hn⟩
    · cases r2 with
      | @obj b _ dy ws _ m' eb rb => exact .inl ⟨b, C', dy, ws, rfl, eb, hn, sp⟩
    · obtain ⟨b, ws, rfl, e, _⟩ := r2.sqT
      exact .inr (.inl ⟨b, ws, rfl, e, hn, sp⟩)
/-- the right one's class is below -/
theorem od_eqOwnR {C C' : Addr} {fs gs : List (Str × D)} (hs : PySem.W.findIn K (.ref C) "__eq__" = some (some (.ref f))) (hs' : PySem.W.findIn K (.ref C') "__eq__" = some (some (.ref f))) (hne : C' ≠ C) (hsub : PySem.W.subIn K (.ref C') (.ref C) = some true)
    (h : R [.obj C' gs, .obj C fs] fun d => ∃ c, d = .bl c ∧ k (.bl c)) : OpD K A (rEqOwn K f (spF K R)) ρ (.obj C fs) (.obj C' gs) k := by
  intro n σ ρ0 H0 H vx vy Q hh r1 r2 q
  have rr := RepAll.cons r2 (.cons r1 .nil)
  have sp : spF K R [vy, vx] H (fun v H' => ∃ c, v = .bl c ∧ Q (.bl c) H') E0 := spF_at hh rr h fun d v H' hk hh' kp rv => by
    obtain ⟨c, rfl, hk⟩ := hk
    cases rv
    exact ⟨c, rfl, q _ _ H' hk hh' kp (.bl c)⟩
  cases r1 with
  | @obj a _ dx vs _ m ea ra =>
    cases r2 with
    | @obj b _ dy ws _ m' eb rb => exact ⟨a, C, dx, vs, rfl, ea, hs, .inr (.inr ⟨b, C', dy, ws, rfl, eb, hne, hsub, hs', sp⟩)⟩
theorem od_neOwn {C : Addr} {fs gs : List (Str × D)} (hm : PySem.W.mroIn K C (.type "object") = some true) (hn : PySem.W.findIn K (.ref C) "__ne__" = some (some (.builtin "object.__ne__"))) (hs : PySem.W.findIn K (.ref C) "__eq__" = some (some (.ref f)))
    (h : R [.obj C fs, .obj C gs] fun d => ∃ c, d = .bl c ∧ k (.bl (!c))) : OpD K A (rNeOwn K f (spF K R)) ρ (.obj C fs) (.obj C gs) k := by
  intro n σ ρ0 H0 H vx vy Q hh r1 r2 q
  have rr := RepAll.cons r1 (.cons r2 .nil)
  have sp : spF K R [vx, vy] H (fun v H' => ∃ c, v = .bl c ∧ Q (.bl (!c)) H') E0 := spF_at hh rr h fun d v H' hk hh' kp rv => by
    obtain ⟨c, rfl, hk⟩ := hk
    cases rv
    exact ⟨c, rfl, q _ _ H' hk hh' kp (.bl _)⟩
  cases r1 with
  | @obj a _ dx vs _ m ea ra =>
    cases r2 with
    | @obj b _ dy ws _ m' eb rb => exact ⟨a, b, C, dx, dy, vs, ws, rfl, rfl, ea, eb, hm, hn, hs, sp⟩
end
section
variable {X : Cx} {A : Amb} {ρ : En} {n lv : Nat} {e : Expr} {kb : Nat → En → Bool → Prop} {f : Addr} {fd : FuncData} {ps : List Str} {R : List D → (D → Prop) → Prop} {C : Addr}
/-- a test of an instance -/
theorem wb_own (F : FnOk X.prog X.w X.K X.mg X.base CX0 lv f fd ps (spF X.K R)) (hr : Room lv X.A) (hb : Binds X.K fd ps []) (hf : PySem.W.isFn X.K (.ref f) = true) (hs : PySem.W.findIn X.K (.ref C) "__bool__" = some (some (.ref f)))
    (h : WE X A e ρ n fun n ρ d => ∃ fs, d = .obj C fs ∧ R [d] fun d => ∃ c, d = .bl c ∧ kb n ρ c) (he : ∀ whole, isTrue e X.env whole = (do let v ← whole; standAt e.pos; holding [v] (truthy v)) := by intro _; rfl) : WB X A e ρ n kb := by
  intro ρ0 H0 σ H hh Q q
  refine canT.of (pt_truthR pcan (tru_own (C := C) F hr hb hf hs) he) ?_
  refine h ρ0 H0 σ H hh _ fun n1 ρ1 d v H1 h1 hh1 k1 r1 => ?_
  obtain ⟨fs, rfl, hR⟩ := h1
  have rr := RepAll.cons r1 .nil
  have sp : spF X.K R [v] H1 (fun v H' => ∃ c, v = .bl c ∧ Q c H') E0 := spF_at hh1 rr hR fun d v H' hk hh' kp rv => by
    obtain ⟨c, rfl, hk⟩ := hk
    cases rv
    exact ⟨c, rfl, q _ _ c H' hk hh' (k1.trans kp)⟩
  cases r1 with
  | @obj a _ dx vs _ m ea ra => exact ⟨a, dx, vs, rfl, ea, sp⟩
end
end RD

/-! RD16: e.__class__.__name__, isinstance by own classes, instances made. -/
namespace PySem.W
open Lean PySem PySem.Calls PyProof.Rows Builtin Builtin.ObjectAttr Builtin.Getset_descriptor
section
variable {prog : Program} {w : World} {A : Around} {E : Value → Shared → Prop} {s : Shared} {K : Frag} {R : Result → Shared → Prop} {C : Addr}
/-- what an own class must have that its name is read -/
structure RdNm (K : Frag) (C : Addr) (nm : Str) : Prop where
  op : nsIn K cStatics "thirdparty.any" = some none
  ty : typeIn K (.ref C) = some (.type "type")
  sl : ∃ o t, K.lookup C = some o ∧ o.slots[2]? = some (some (.str nm t))
theorem rd_dga (d tp : Value) (C : Addr) : descrGetArgs ⟨[d, .ref C, tp], []⟩ = pure (d, some (.ref C), given tp) := by kernel_rfl
theorem rd_nameGet {tp : Value} {nm : Str} (X : K.In s.heap) (T : RdNm K C nm) (h : ∀ t, R (.ok (.ret (.str nm t))) s) :
    codeAny (model prog w) A (.call (.builtin "getset_descriptor.__get__") ⟨[.builtin "type.__name__", .ref C, tp], []⟩) R s := by
  obtain ⟨o, t, hk, hsl⟩ := T.sl
  have ho := X _ _ hk
  have L0 : Looks (model prog w) s.heap (typeOf (.ref C)) (.type "type") := looks_typeIn X T.ty
  obtain ⟨hh, g, dr, t, os⟩ := s
  have L1 : Looks (model prog w) hh (isSubtype (.type "type") (.type "type")) true := Looks.of_pure (by rw [isSubtype_type]; kernel_rfl)
  refine codeAny_call_builtin KF.slot_gs.plain KF.entry_gs (KF.slot_gs.check _ _ _ _ _ _ _ _ ktyn_type (KF.args_gs _ _ _) ?_)
  unfold Builtin.«getset_descriptor.__get__» descrGet
  rw [rd_dga]
  refine wpAny_bind (wpAny_pure ?_)
  unfold descrGetter descrCheckInstance descrNameAndClass isInstance
  simp only [ktyn_owner]
  repeat lk
  refine ⟨Code.quiet_builtin _ (by decide +kernel), codeAny_builtin ktyn_entry ?_⟩
  unfold Builtin.«type.__name__» keptObject slotAt
  dsimp only
  refine wpAny_bind (wpAny_bind (wpAny_loadPart ho ?_))
  rw [hsl]
  exact wpAny_pure (wpAny_pure (h _))
theorem rd_findName {K : Frag} {C : Addr} : findCls K (.ref C) (.type "type") "__name__" = some (.get (.builtin "getset_descriptor.__get__") (.builtin "type.__name__") (.ref C) (.type "type")) := by
  first | rfl | kernel_rfl
theorem rd_className {expr : Bool} {nm : Str} {Q : Value → Shared → Prop} (X : K.In s.heap) (T : RdNm K C nm) (h : ∀ t u, Q (.str nm t) { s with toks := u }) : wpAny (model prog w) A (getAttr (.ref C) "__name__" expr) Q E s := by
  have hg : findIn K (.type "type") "__getattribute__" = some (some (.builtin "type.__getattribute__")) := type_tga
  refine cls_open X (looks_opaque X T.op) (looks_typeIn X T.ty) hg (looks_hook X (r := none) (by rfl)) (by show subIn K _ _ = _; rfl) rd_findName ?_
  show wpAny _ _ (do ret (← holding [Value.builtin "type.__name__"] (call (.builtin "getset_descriptor.__get__") [.builtin "type.__name__", .ref C, .type "type"]))) _ _ _
  refine wpAny_bind (wpAny_holding (wpAny_call (rd_nameGet (s := { s with toks := s.toks + 1 }) X T fun t => ?_)))
  exact wpAny_pure (handed_on rfl (h _ _))
end
end PySem.W
namespace RD
open PySem PySem.Spec PyProof.Rows L2
section
variable {X : Cx} {A : Amb} {ρ : En} {n lv : Nat} {e : Expr} {es : List Expr} {p p2 pos apos : Pos} {k : Nat → En → D → Prop} {C : Addr}
/-- e.__class__.__name__ -/
theorem we_clsName (h : WE X A e ρ n fun n ρ d => ∃ C fs nm, d = .obj C fs ∧ C8.InsC X.K C ∧ PySem.W.RdNm X.K C nm ∧ k n ρ (.str nm)) (hb : attributeBase e "__class__" X.env (eval e X.env) = eval e X.env := by rfl)
    (hb2 : attributeBase (.Attribute e "__class__" apos) "__name__" X.env (eval (.Attribute e "__class__" apos) X.env) = eval (.Attribute e "__class__" apos) X.env := by rfl) : WE X A (.Attribute (.Attribute e "__class__" apos) "__name__" pos) ρ n k := by
  intro ρ0 H0 σ H hh Q q
  intro pins s I
  refine attr_of hb2 ?_
  refine attr_of hb ?_
  refine thn ((h ρ0 H0 σ H hh (fun v H' => ∃ a C dx fs nm, v = .ref a ∧ H' a = some (.ins C dx fs) ∧ C8.InsC X.K C ∧ PySem.W.RdNm X.K C nm ∧ Q (.str nm) H') fun n1 ρ1 d v H1 h1 hh1 k1 r1 => ?_) pins s I) fun u s1 ⟨v, H1, I1, rv, a, C, dx, fs, nm, ev, ea, ci, nmF, q1⟩ => ?_
  · obtain ⟨C, fs, nm, rfl, ci, nmF, h1⟩ := h1
    cases r1 with
    | @obj a _ dx vs _ m ea ra => exact ⟨a, C, dx, vs, nm, rfl, ea, ci, nmF, q n1 ρ1 _ _ H1 h1 hh1 k1 (.str _)⟩
  · subst ev
    cases rv
    obtain ⟨mA, J, _⟩ := ins_get I1.hok ea
    obtain ⟨od, J, _⟩ := J.look
    obtain ⟨m, hF⟩ := I1.fr
    refine PySem.W.get_class hF I1.ok.mod.kin J (ci.cl.get _) ci.cl.hd ci.ha ci.hn ci.htk ci.hm ?_
    exact PySem.W.rd_className (s := { s1 with toks := s1.toks + 1 }) I1.kIn nmF fun t u => ⟨.str nm, H1, I1.tok _, ⟨t, rfl⟩, q1⟩
/-- isinstance(e, C), C an own class -/
theorem we_isC {T : Str} (hm : X.mg "isinstance" = none) (hT : X.mg T = some (.ref C))
    (h : WE X A e ρ n fun n ρ d => ∃ c, ((∃ t, tyD d = some t ∧ PySem.W.kitOne X.K (.type t) (.ref C) = some c) ∨ ∃ C' fs, d = .obj C' fs ∧ C8.InsC X.K C' ∧ PySem.W.kitOne X.K (.ref C') (.ref C) = some c) ∧ k n ρ (.bl c)) (hg : Gl X "isinstance" := by rfl) (hgT : Gl X T := by rfl) (hdT : (T == ("__debug__" : Str)) = false := by decide)
    (he : starEach [e, .Name T p2] X.env = (false, eval e X.env) :: starEach [.Name T p2] X.env := by rfl) (he2 : starEach [.Name T p2] X.env = (false, eval (.Name T p2) X.env) :: starEach [] X.env := by rfl) (hpl : (backTo pos (starEach [.Name T p2] X.env)).any (·.1) = false := by rfl) :
    WE X A (.Call (.Name "isinstance" p) [e, .Name T p2] [] pos) ρ n k := by
  intro ρ0 H0 σ H hh Q q
  refine canE.of (pe_callB call_isi hg hm boot_isinstance (pa_cons pcan (pa_cons (pe_glob (v := .ref C) hgT hT rfl hdT) pa_nil he2) he) (by decide) (by decide) he hpl) ?_
  refine h ρ0 H0 σ H hh _ fun n1 ρ1 d v H1 h1 hh1 k1 r1 => ?_
  obtain ⟨c, h0, h1⟩ := h1
  rcases h0 with ⟨t, e1, e2⟩ | ⟨C', fs, rfl, ci, e2⟩
  · exact ⟨v, .ref C, .type t, .ref C, c, rfl, .own C, r1.ty e1, e2, q n1 ρ1 _ _ H1 h1 hh1 k1 (.bl _)⟩
  · cases r1 with
    | @obj a _ dx vs _ m ea ra => exact ⟨.ref a, .ref C, .ref C', .ref C, c, rfl, .own C, .base (.ins ea ci.cl ci.ha ci.hn ci.htk ci.hm), e2, q n1 ρ1 _ _ H1 h1 hh1 k1 (.bl _)⟩
/-- the promise of an __init__(self, a, *b) by data: what the instance then is -/
def spNew (K : PySem.W.Frag) (C : Addr) (R : List D → (List (Str × D) → Prop) → Prop) : Sp := fun vs H Q _ => ∃ (x dx : Addr) (ws : List V) (W : List Addr) (ds : List D) (k : List (Str × D) → Prop), vs = .ref x :: ws ∧ H x = some (.ins C dx []) ∧ H dx = some (.own x) ∧ x ∉ W ∧ (∀ a ∈ W, H a ≠ none) ∧ W.Nodup ∧ RepAll K (· ∈ W) H ws ds ∧
  RepAll K (fun a => a ∈ W ∨ a = x) H ws ds ∧ R ds k ∧ ∀ fs gs H', k gs → (∀ a o, a ≠ x → H a = some o → H' a = some o) → H' x = some (.ins C dx fs) → RepF K (fun a => a ∈ W ∨ a = x) H' fs gs → Q .non H'
end
end RD

/-! RD17: == and != of any data without dicts; a tuple and an atom; truths. -/
namespace RD
open PySem PySem.Spec PyProof.Rows L2
mutual
theorem py_plain : ∀ d : D, plain d = true → (py d).plain = true
  | .non, _ => rfl
  | .bl _, _ => rfl
  | .int _, _ => rfl
  | .str _, _ => rfl
  | .lst xs, h => pys_plain xs h
  | .tup xs, h => pys_plain xs h
  | .dct _, h => by simp [plain] at h
  | .obj _ _, h => by simp [plain] at h
  | .raw _, h => by simp [plain] at h
theorem pys_plain : ∀ xs : List D, plains xs = true → PyData.plainAll (pys xs) = true
  | [], _ => rfl
  | x :: xs, h => by
    have h' : plain x = true ∧ plains xs = true := by simpa [plains] using h
    show ((py x).plain && PyData.plainAll (pys xs)) = true
    rw [py_plain x h'.1, pys_plain xs h'.2]; rfl
end
def rEqP (K : PySem.W.Frag) : R2 := fun x y H Q => ∃ d e, Dp K H x d ∧ Dp K H y e ∧ d.plain = true ∧ e.plain = true ∧ min d.depth e.depth ≤ 60 ∧ Q (.bl (PyData.eqv d e)) H
def rNeP (K : PySem.W.Frag) : R2 := fun x y H Q => ∃ d e, Dp K H x d ∧ Dp K H y e ∧ d.plain = true ∧ e.plain = true ∧ min d.depth e.depth ≤ 60 ∧ Q (.bl (!PyData.eqv d e)) H
/-- a tuple and an atom, either way about -/
def rTupAt (K : PySem.W.Frag) : R2 := fun x y H Q => ∃ (l : Addr) (xs : List V) (z : V), ((x = .ref l ∧ y = z) ∨ (x = z ∧ y = .ref l)) ∧ SqT K H l xs ∧ (z = .non ∨ (∃ b, z = .bl b) ∨ (∃ i, z = .int i) ∨ ∃ t, z = .str t) ∧ Q (.bl false) H
section
variable {X : Cx}
theorem op_eqP (hu : X.A.units + 64 < cLine) : OpR X (compareOp .Eq) (rEqP X.K) := by
  intro pins s σ H x y v u Q I rx ry h
  obtain ⟨d, e, hd, he, sd, se, hm, q⟩ := h
  obtain ⟨as, r1⟩ := Dp.reads I d x v hd rx
  obtain ⟨bs, r2⟩ := Dp.reads I e y u he ry
  exact SeqAt.rcAt_plain r1 r2 sd se (A := X.A) (by omega) _ _ _ _ ⟨.bl _, H, I, rfl, q⟩
theorem op_neP (hu : X.A.units + 64 < cLine) : OpR X (compareOp .NotEq) (rNeP X.K) := by
  intro pins s σ H x y v u Q I rx ry h
  obtain ⟨d, e, hd, he, sd, se, hm, q⟩ := h
  obtain ⟨as, r1⟩ := Dp.reads I d x v hd rx
  obtain ⟨bs, r2⟩ := Dp.reads I e y u he ry
  exact SeqAt.rcNe_plain r1 r2 sd se (A := X.A) (by omega) _ _ _ _ ⟨.bl _, H, I, rfl, q⟩
theorem op_tupAt (hu : X.A.units + 64 < cLine) : OpR X (compareOp .Eq) (rTupAt X.K) := by
  intro pins s σ H x y v u Q I rx ry h
  obtain ⟨l, xs, z, hxy, hl, hz, q⟩ := h
  obtain ⟨its, rv, ⟨o, ho, hc, n, hd⟩, _⟩ := I.tuple hl
  have ht : s.heap.IsTuple l its.toArray := ⟨o, ho, hc, n, hd⟩
  have hu' : X.A.units < cLine := by omega
  have both : ∀ {uz : Value}, RelV z uz → SeqAt.RcAt X.A s (.ref l) uz false ∧ SeqAt.RcAt X.A s uz (.ref l) false := fun {uz} rz => by
    rcases hz with rfl | ⟨b, rfl⟩ | ⟨i, rfl⟩ | ⟨t, rfl⟩
    · cases rz; exact ⟨SeqAt.RcAt.tuple_none ht hu', SeqAt.RcAt.none_tuple ht hu'⟩
    · cases rz; exact ⟨SeqAt.RcAt.tuple_bool b ht hu', SeqAt.RcAt.bool_tuple b ht hu'⟩
    · obtain ⟨tk, rfl⟩ := rz; exact ⟨SeqAt.RcAt.tuple_int i tk ht hu', SeqAt.RcAt.int_tuple i tk ht hu'⟩
    · obtain ⟨tk, rfl⟩ := rz; exact ⟨SeqAt.RcAt.tuple_str t tk ht hu', SeqAt.RcAt.str_tuple t tk ht hu'⟩
  rcases hxy with ⟨rfl, rfl⟩ | ⟨rfl, rfl⟩
  · cases rx
    exact (both ry).1 _ _ _ _ ⟨.bl false, H, I, rfl, q⟩
  · cases ry
    exact (both rx).2 _ _ _ _ ⟨.bl false, H, I, rfl, q⟩
/-- == of any two data -/
def rEqL (K : PySem.W.Frag) : R2 := fun x y H Q => rEqP K x y H Q ∨ (rTupAt K x y H Q ∨ (rEqV K x y H Q ∨ rDictOth K x y H Q))
theorem op_eqL (hu : X.A.units + 64 < cLine) : OpR X (compareOp .Eq) (rEqL X.K) := (op_eqP hu).or ((op_tupAt hu).or ((op_eqV hu).or (op_dictOth hu)))
end
section
variable {K : PySem.W.Frag} {A : Amb} {ρ : En} {x y : D} {k : D → Prop}
theorem od_eqP (h : k (.bl (eqD x y))) (hx : plain x = true) (hy : plain y = true) (hd : min (py x).depth (py y).depth ≤ 60) : OpD K A (rEqP K) ρ x y k := by
  intro n σ ρ0 H0 H vx vy Q hh r1 r2 q
  exact ⟨_, _, r1.dp _ hx, r2.dp _ hy, py_plain _ hx, py_plain _ hy, hd, q _ _ H h hh .refl (.bl _)⟩
theorem od_neP (h : k (.bl (!eqD x y))) (hx : plain x = true) (hy : plain y = true) (hd : min (py x).depth (py y).depth ≤ 60) : OpD K A (rNeP K) ρ x y k := by
  intro n σ ρ0 H0 H vx vy Q hh r1 r2 q
  exact ⟨_, _, r1.dp _ hx, r2.dp _ hy, py_plain _ hx, py_plain _ hy, hd, q _ _ H h hh .refl (.bl _)⟩
theorem eqD_refl {x : D} (h : plain x = true) : eqD x x = true := PySem.SeqAt.eqv_refl_plain _ (py_plain x h)
theorem od_neP_same (h : k (.bl false)) (hx : plain x = true) (e : y = x) (hd : (py x).depth ≤ 60) : OpD K A (rNeP K) ρ x y k := by
  subst e
  refine od_neP ?_ hx hx (by omega)
  rw [eqD_refl hx]
  exact h
/-- atoms -/
def atm : D → Bool
  | .non => true
  | .bl _ => true
  | .int _ => true
  | .str _ => true
  | _ => false
theorem atm_rep {M : Addr → Prop} {H : Hp} {z : V} {d : D} (r : Rep K M H z d) (h : atm d = true) : z = .non ∨ (∃ b, z = .bl b) ∨ (∃ i, z = .int i) ∨ ∃ t, z = .str t := by
  cases d with
  | non => cases r; exact .inl rfl
  | bl b => cases r; exact .inr (.inl ⟨_, rfl⟩)
  | int i => cases r; exact .inr (.inr (.inl ⟨_, rfl⟩))
  | str x => cases r; exact .inr (.inr (.inr ⟨_, rfl⟩))
  | tup ds => cases h
  | lst ds => cases h
  | dct kvs => cases h
  | obj C fs => cases h
  | raw v => cases h
theorem od_L_at (h : k (.bl (eqD x y))) (hx : atm x = true) (hy : atm y = true) : OpD K A (rEqL K) ρ x y k := by
  have px : ∀ z : D, atm z = true → plain z = true ∧ (py z).depth = 0 := fun z hz => by cases z <;> first | exact ⟨rfl, rfl⟩ | cases hz
  exact od_or1 (od_eqP h (px x hx).1 (px y hy).1 (by rw [(px x hx).2]; exact Nat.le_trans (Nat.min_le_left _ _) (Nat.zero_le _)))
theorem od_L_TX {xs : List D} (h : k (.bl false)) (hy : atm y = true) : OpD K A (rEqL K) ρ (.tup xs) y k := by
  intro n σ ρ0 H0 H vx vy Q hh r1 r2 q
  obtain ⟨a, vs, rfl, e, _⟩ := r1.sqT
  exact .inr (.inl ⟨a, vs, vy, .inl ⟨rfl, rfl⟩, e, atm_rep r2 hy, q _ _ H h hh .refl (.bl _)⟩)
theorem od_L_XT {ys : List D} (h : k (.bl false)) (hx : atm x = true) : OpD K A (rEqL K) ρ x (.tup ys) k := by
  intro n σ ρ0 H0 H vx vy Q hh r1 r2 q
  obtain ⟨a, vs, rfl, e, _⟩ := r2.sqT
  exact .inr (.inl ⟨a, vs, vx, .inr ⟨rfl, rfl⟩, e, atm_rep r1 hx, q _ _ H h hh .refl (.bl _)⟩)
theorem od_L_K {r : R2} (h : OpD K A (rEqK K) ρ x y k) (hq : ∀ vx vy H Q, rEqD K vx vy H Q → False) : OpD K A (rEqL K) ρ x y k := fun n σ ρ0 H0 H vx vy Q hh r1 r2 q => by
  rcases h n σ ρ0 H0 H vx vy Q hh r1 r2 q with z | z | z
  · exact (hq _ _ _ _ z).elim
  · exact .inr (.inr (.inl z))
  · exact .inr (.inr (.inr z))
theorem od_L_D1 {key : Key} {d : D} (h : k (.bl true)) (hl : lsD d = true) (hd : (py d).depth ≤ 50) : OpD K A (rEqL K) ρ (.dct [(key, d)]) (.dct [(key, d)]) k := by
  intro n σ ρ0 H0 H vx vy Q hh r1 r2 q
  have z := od_eqD1 (K := K) (A := A) (ρ := ρ) (k := fun d => d = .bl true) rfl hl hd n σ ρ0 H0 H vx vy (fun v H' => v = .bl true ∧ H' = H) hh r1 r2
  cases r1 with
  | dct m e ra =>
    cases r2 with
    | dct m' e' ra' =>
      cases ra with
      | cons a1 a2 =>
        cases a2
        cases ra' with
        | cons b1 b2 =>
          cases b2
          refine .inr (.inr (.inl ⟨51, by decide, .inr ⟨_, _, _, _, rfl, rfl, e, e', rfl, fun p hp => ?_⟩, q _ _ H h hh .refl (.bl _)⟩))
          rw [List.mem_singleton.mp hp]
          exact ⟨_, by simp [valV], eqV_refl 51 d hl (by omega) a1 b1⟩
theorem od_L_DX {kvs : List (Key × D)} (h : k (.bl false)) (ho : othD y = true) : OpD K A (rEqL K) ρ (.dct kvs) y k := by
  intro n σ ρ0 H0 H vx vy Q hh r1 r2 q
  cases r1 with
  | dct m e ra => exact .inr (.inr (.inr ⟨_, _, vy, .inl ⟨rfl, rfl⟩, e, oth_rep r2 ho, q _ _ H h hh .refl (.bl _)⟩))
theorem od_L_XD {kvs : List (Key × D)} (h : k (.bl false)) (ho : othD x = true) : OpD K A (rEqL K) ρ x (.dct kvs) k := by
  intro n σ ρ0 H0 H vx vy Q hh r1 r2 q
  cases r2 with
  | dct m e ra => exact .inr (.inr (.inr ⟨_, _, vx, .inr ⟨rfl, rfl⟩, e, oth_rep r1 ho, q _ _ H h hh .refl (.bl _)⟩))
/-- truths -/
theorem od_eqB {b c : Bool} (h : k (.bl (b == c))) : OpD K A rEq ρ (.bl b) (.bl c) k := by
  intro n σ ρ0 H0 H vx vy Q hh r1 r2 q
  cases r1; cases r2
  refine ⟨rfl, ?_⟩
  rw [show decide (V.bl b = V.bl c) = (b == c) by cases b <;> cases c <;> decide]
  exact q _ _ H h hh .refl (.bl _)
theorem od_neB {b c : Bool} (h : k (.bl (!(b == c)))) : OpD K A rNe ρ (.bl b) (.bl c) k := by
  intro n σ ρ0 H0 H vx vy Q hh r1 r2 q
  cases r1; cases r2
  refine ⟨rfl, ?_⟩
  rw [show decide (V.bl b = V.bl c) = (b == c) by cases b <;> cases c <;> decide]
  exact q _ _ H h hh .refl (.bl _)
end
end RD

/-! RD18: a small dict display; the law's last statements (a list changed); instances with a star parameter. -/
namespace RD
open PySem PySem.Spec PyProof.Rows L2
section
variable {X : Cx} {A : Amb} {ρ : En} {n : Nat} {k : Nat → En → D → Prop} {pos p1 p2 p3 : Pos} {j1 j2 : Nat}
/-- {'z': [i]} -/
theorem we_dict1 {z : Str} {i : Int} (h : k n ρ (.dct [(.inr z, .lst [.int i])])) : WE X A (.Dict [some (.Constant (.str z) j1 p1)] [.List [.Constant (.int i) j2 p2] p3] pos) ρ n k := by
  intro ρ0 H0 σ H hh Q q
  refine canE.of (pe_disp (pps_cons pe_str (pe_lst (pa_cons pe_int pa_nil)) pps_nil) rfl rfl (by simp) (Nat.le_of_ble_eq_true rfl)) ?_
  intro p hp
  refine ⟨sz_le (Nat.le_of_ble_eq_true rfl), fun r hr => ?_⟩
  have hpr : p ≠ r := fun e => by rw [e, upd_same] at hr; cases hr
  have hr' : H r = none := by rwa [upd_ne hpr.symm] at hr
  have e : upd (upd (upd H p (.dK [])) r (.lst [.int i])) p (.dK (mergeK [] [(.inr z, .ref r)])) = upd (upd H r (.lst [.int i])) p (.dK [(.inr z, .ref r)]) := by
    funext b
    by_cases h1 : b = p
    · subst h1; rw [upd_same, upd_same]; rfl
    · rw [upd_ne h1, upd_ne h1]
      by_cases h2 : b = r
      · subst h2; rw [upd_same, upd_same]
      · rw [upd_ne h2, upd_ne h2, upd_ne h1]
  refine ⟨by rw [upd_ne hpr, upd_same], [(.inr z, .ref r)], rfl, Nat.le_of_ble_eq_true rfl, ?_⟩
  rw [e]
  have hp2 : upd H r (.lst [.int i]) p = none := by rw [upd_ne hpr]; exact hp
  have h1 := hh.alloc (o := .lst [.int i]) hr'
  have h2 := h1.alloc (o := .dK [(.inr z, .ref r)]) hp2
  refine q n ρ _ _ _ h h2 ((Keeps.alloc hr').trans (.alloc hp2)) (.dct (h1.new hp2) upd_same (.cons (.lst (hh.new hr') (by rw [upd_ne hpr.symm, upd_same]) (.cons (.int i) .nil)) .nil))
/-! ### the law's statements: only that it ends in True is asked -/
def WSL (X : Cx) (A : Amb) (sts : List Stmt) (ρ : En) (n : Nat) : Prop := ∀ ρ0 H0 σ H, Here X.K A ρ0 H0 n ρ σ H → ∀ D : Ends, (∀ H', D.rt (.bl true) H') → canSs X sts D σ H
def LawE (I : Nat → En → Prop) : En4 := { nx := I, rt := fun _ _ d => d = .bl true }
theorem wsl_of {sts : List Stmt} (h : WS X A sts ρ n (LawE fun _ _ => False)) : WSL X A sts ρ n := fun ρ0 H0 σ H hh D hD => h ρ0 H0 σ H hh D
  ⟨fun _ _ _ _ z _ => z.elim, fun _ _ _ H' d v z _ r => by cases z; cases r; exact hD H', fun _ _ _ _ z _ => z.elim, fun _ _ _ _ z _ => z.elim⟩
theorem wsl_cons {st : Stmt} {sts : List Stmt} (h : WS1 X A st ρ n (LawE fun n ρ => WSL X A sts ρ n)) : WSL X A (st :: sts) ρ n := fun ρ0 H0 σ H hh D hD => by
  refine canSs.of (pss_cons scan sscan) ?_
  exact h ρ0 H0 σ H hh _ ⟨fun n' ρ' σ' H' z hh' => z ρ0 H0 σ' H' hh' D hD, fun _ _ _ H' d v z _ r => by cases z; cases r; exact hD H', fun _ _ _ _ z _ => z.elim, fun _ _ _ _ z _ => z.elim⟩
mutual
/-- no list within -/
def noL : D → Bool
  | .lst _ => false
  | .tup xs => noLs xs
  | .dct kvs => noLk kvs
  | .obj _ fs => noLf fs
  | _ => true
def noLs : List D → Bool
  | [] => true
  | x :: xs => noL x && noLs xs
def noLk : List (Key × D) → Bool
  | [] => true
  | (_, x) :: xs => noL x && noLk xs
def noLf : List (Str × D) → Bool
  | [] => true
  | (_, x) :: xs => noL x && noLf xs
end
section
variable {K : PySem.W.Frag} {M : Addr → Prop} {H H' : Hp} {q : Addr} {vs : List V}
mutual
theorem Rep.noL (hq : H q = some (.lst vs)) (hH : ∀ a, a ≠ q → H' a = H a) : ∀ (d : D) {v : V}, RD.noL d = true → Rep K M H v d → Rep K M H' v d
  | .non, _, _, r => by cases r; exact .non
  | .bl b, _, _, r => by cases r; exact .bl b
  | .int i, _, _, r => by cases r; exact .int i
  | .str x, _, _, r => by cases r; exact .str x
  | .raw v, _, _, r => by cases r; exact .raw v
  | .lst ds, _, h, r => by simp [RD.noL] at h
  | .tup ds, _, h, r => by
    cases r with
    | @tup a xs _ e ra =>
      refine .tup ?_ (RepAll.noL hq hH ds h ra)
      rcases e with ⟨m, e⟩ | e
      · have ne : a ≠ q := fun z => by
          rcases e with e | ⟨o, e⟩ <;> (rw [z, hq] at e; cases e)
        refine .inl ⟨m, ?_⟩
        rcases e with e | ⟨o, e⟩
        · exact .inl (by rw [hH a ne]; exact e)
        · exact .inr ⟨o, by rw [hH a ne]; exact e⟩
      · exact .inr e
  | .dct ds, _, h, r => by
    cases r with
    | @dct a xs _ m e ra => exact .dct m (by rw [hH a fun z => by rw [z, hq] at e; cases e]; exact e) (RepKV.noL hq hH ds h ra)
  | .obj C ds, _, h, r => by
    cases r with
    | @obj a _ dx xs _ m e ra => exact .obj m (by rw [hH a fun z => by rw [z, hq] at e; cases e]; exact e) (RepF.noL hq hH ds h ra)
theorem RepAll.noL (hq : H q = some (.lst vs)) (hH : ∀ a, a ≠ q → H' a = H a) : ∀ (ds : List D) {ws : List V}, noLs ds = true → RepAll K M H ws ds → RepAll K M H' ws ds
  | [], _, _, r => by cases r; exact .nil
  | d :: ds, _, h, r => by
    have h' : RD.noL d = true ∧ noLs ds = true := by simpa [noLs] using h
    cases r with
    | cons r1 r2 => exact .cons (Rep.noL hq hH d h'.1 r1) (RepAll.noL hq hH ds h'.2 r2)
theorem RepKV.noL (hq : H q = some (.lst vs)) (hH : ∀ a, a ≠ q → H' a = H a) : ∀ (ds : List (Key × D)) {ws : List (Key × V)}, noLk ds = true → RepKV K M H ws ds → RepKV K M H' ws ds
  | [], _, _, r => by cases r; exact .nil
  | (_, d) :: ds, _, h, r => by
    have h' : RD.noL d = true ∧ noLk ds = true := by simpa [noLk] using h
    cases r with
    | cons r1 r2 => exact .cons (Rep.noL hq hH d h'.1 r1) (RepKV.noL hq hH ds h'.2 r2)
theorem RepF.noL (hq : H q = some (.lst vs)) (hH : ∀ a, a ≠ q → H' a = H a) : ∀ (ds : List (Str × D)) {ws : List (Str × V)}, noLf ds = true → RepF K M H ws ds → RepF K M H' ws ds
  | [], _, _, r => by cases r; exact .nil
  | (_, d) :: ds, _, h, r => by
    have h' : RD.noL d = true ∧ noLf ds = true := by simpa [noLf] using h
    cases r with
    | cons r1 r2 => exact .cons (Rep.noL hq hH d h'.1 r1) (RepF.noL hq hH ds h'.2 r2)
end
end
/-- the names that no change of a list can touch -/
def keepL : En → En := List.map fun s => match s with
  | some (.dat d) => if noL d then some (.dat d) else none
  | _ => none
theorem owns_keepL : ∀ ρ : En, owns (keepL ρ) = []
  | [] => rfl
  | s :: ρ => by
    show addrs _ ++ owns (keepL ρ) = []
    rw [owns_keepL ρ, List.append_nil]
    match s with
    | none => rfl
    | some (.dat d) => dsimp only; split <;> rfl
    | some (.own p ds) => rfl
    | some (.ownK p ds) => rfl
theorem paired_keepL {K : PySem.W.Frag} {M M' : Addr → Prop} {H H' : Hp} {q : Addr} {vs : List V} (hM : ∀ a, M' a → M a) (hq : H q = some (.lst vs)) (hH : ∀ a, a ≠ q → H' a = H a) : ∀ {ρ : En} {σ : L2.St}, Paired (SlotR K M H) ρ σ → Paired (SlotR K M' H') (keepL ρ) σ
  | _, _, .nil => .nil
  | _, _, .cons (a := s) (b := v) r t => by
    refine .cons ?_ (paired_keepL hM hq hH t)
    match s, v, r with
    | none, _, _ => trivial
    | some (.own p ds), _, _ => trivial
    | some (.ownK p ds), _, _ => trivial
    | some (.dat d), none, r => exact r.elim
    | some (.dat d), some v, r =>
      show SlotR K M' H' (if noL d = true then some (.dat d) else none) (some v)
      by_cases h : noL d = true
      · rw [if_pos h]
        exact Rep.mono (fun a o m e => ⟨e, fun z => m (hM a z)⟩) d (Rep.noL hq hH d h r)
      · rw [if_neg h]; trivial
/-- o.append(e), o a list within other data; the names that hold no list stay -/
theorem wsl_append {o e : Expr} {apos cpos spos : Pos} {sts : List Stmt} (hl : WE X A o ρ n fun n' ρ' d => ∃ xs, d = .lst xs ∧ xs.length ≤ 1000 ∧ WE X A e ρ' n' fun n'' ρ'' y => WSL X A sts (keepL ρ'') n'')
    (hbase : attributeBase o "append" X.env (eval o X.env) = eval o X.env := by rfl)
    (hfew : ((backTo cpos (starEach [e] X.env)).all (fun x => !x.1) && (backToKw cpos (keywordEach [] X.env)).all (fun x => x.1.isSome)
      && decide (([e] : List Expr).length + ([] : List Keyword).length + (if ([] : List Keyword).isEmpty then 0 else 1) < 30)) = true := by rfl)
    (hline : (apos.endLine == cpos.line) = true := by rfl) (hs : starEach [e] X.env = (false, eval e X.env) :: starEach [] X.env := by rfl) (hplain : (backTo cpos (starEach [] X.env)).any (·.1) = false := by rfl)
    (hsw : swapsWith (.Call (.Attribute o "append" apos) [e] [] cpos) none spos.line X.env = pure false := by rfl) : WSL X A (.Expr (.Call (.Attribute o "append" apos) [e] [] cpos) spos :: sts) ρ n := by
  intro ρ0 H0 σ H hh D hD
  refine canSs.of (pss_cons (ps_expr (pe_bm PySem.F.plainAttrs_list PySem.F.slot_list_append PySem.F.type_list_append mt_append pcan (pa_cons pcan pa_nil hs) hbase hfew hline hs hplain) hsw) sscan) ?_
  refine hl ρ0 H0 σ H hh _ fun n1 ρ1 d v H1 h1 hh1 k1 r1 => ?_
  obtain ⟨xs, rfl, hz, h1⟩ := h1
  have r1' := r1
  cases r1 with
  | @lst q vs _ m e1 ra =>
    refine ⟨?_, ?_⟩
    · exact Or.inl ⟨rfl, vs, .of e1⟩
    · refine h1 ρ0 H0 σ H1 hh1 _ fun n2 ρ2 y w H2 h2 hh2 k2 r2 => ?_
      have e2 := (k2.up hh1.j q _ m e1)
      refine ⟨q, vs, w, rfl, rfl, e2.1, ?_, ?_⟩
      · rw [ra.length]; exact Nat.lt_of_le_of_lt hz (by rw [sizeLine_eq]; decide)
      · have same : ∀ a, a ≠ q → upd H2 q (.lst (vs ++ [w])) a = H2 a := fun a ha => upd_ne ha
        have hqW : ∀ a ∈ A.W, a ≠ q := fun a ha z => e2.2 (.inr (z ▸ ha))
        have mt : ∀ a, Mt A (keepL ρ2) a → Mt A ρ2 a := fun a z => by
          rcases z with z | z
          · rw [owns_keepL] at z; cases z
          · exact .inr z
        refine h2 (keepL ρ2) (upd H2 q (.lst (vs ++ [w]))) σ _ ⟨.refl, ⟨fun a ha hp => ?_, fun a ha => ?_, ?_⟩, ⟨paired_keepL mt e2.1 same hh2.sat.sl, ?_⟩⟩ D hD
        · rw [same a (hqW a ha)]; exact hh2.j.1 a ha hp
        · rw [same a (hqW a ha)]; exact hh2.j.2.1 a ha
        · have j := hh2.j.2.2
          cases hp : A.pen with
          | none => trivial
          | some pc =>
            obtain ⟨p, c⟩ := pc
            rw [hp] at j
            obtain ⟨j1, j2, j3, at_, rest, ns, f1, f2, rr⟩ := j
            exact ⟨j1, j2, j3, at_, rest, ns, by rw [same p (hqW p j1)]; exact f1, by rw [same c (hqW c j2)]; exact f2, rr⟩
        · rw [owns_keepL, List.nil_append]
          have := hh2.sat.nd
          rw [List.nodup_append] at this
          exact this.2.1
/-- the law behind the pen's making -/
theorem law_startL {rest : List Stmt} {D : Ends} {H : Hp} {m : Nat} {N : List Str} {a : Addr} {ns : List Int} (hN : N.length = m + 2) (hS : SqL X.K H a (ns.map V.int)) (hlen : ns.length ≤ 63) (hbits : ∀ z ∈ ns, z.natAbs < 2 ^ 1048576)
    (hrest : ∀ (A : Amb) (p c : Addr) (v : V), A.pen = some (p, c) → WSL X A rest (startL m v p) 1000000) (hD : ∀ H', D.rt (.bl true) H') :
    tSeq (tAsg (tCall (spPen X.K) [] E0 (tCons (tVar 0) tNil)) (gName 1)) (canSs X rest) D (L2.start N [.ref a]) H := by
  refine ⟨.ref a, ?_, a, ns, rfl, hS, hlen, hbits, fun p c H' old hp hc hpc pen => ?_⟩
  · rfl
  · obtain ⟨at_, rst, cs, e1, e2, r⟩ := pen
    have hs : (L2.start N [.ref a]).set 1 (some (.ref p)) = some (.ref a) :: some (.ref p) :: List.replicate m none := by
      unfold L2.start
      rw [hN]
      rfl
    show canSs X rest D ((L2.start N [.ref a]).set 1 (some (.ref p))) H'
    rw [hs]
    have ho : owns (startL m (.ref a) p) = [] := by
      show [] ++ ([] ++ owns (List.replicate m none)) = []
      rw [owns_none]; rfl
    refine hrest ⟨[p, c], H', some (p, c)⟩ p c (.ref a) rfl (startL m (.ref a) p) H' (some (.ref a) :: some (.ref p) :: List.replicate m none) H' ⟨.refl, ⟨fun _ _ _ => rfl, ?_, by simp, by simp, hpc, at_, rst, cs, e1, e2, r⟩, ⟨.cons (Rep.raw _) (.cons (Rep.raw _) (paired_none m)), ?_⟩⟩ D hD
    · intro b hb
      rcases List.mem_cons.mp hb with rfl | hb
      · rw [e1]; simp
      · rw [List.mem_singleton.mp hb, e2]; simp
    · rw [ho]
      simpa using hpc
end
end RD

namespace K1
open PySem PySem.Spec PyProof.Rows L2 RD
def topS (i : Nat) : Stmt := PySem.Challenge.pw_replycuts_k01_papers_and_likeness.main.body.getD i (.Pass ⟨0, 0, 0, 0⟩)
abbrev s_draw : Stmt := topS 7
theorem sc_draw : FnScope ["pen", "many", "digit", "at", "cell", "great", "mixed"] ["pen", "many"] (defScope s_draw) := ⟨rfl, rfl, rfl, by decide +kernel, rfl, by decide +kernel, by decide +kernel⟩
/-- what is drawn -/
def R_draw (p : Addr) (n : Nat) (ds : List D) (k : Nat → D → Prop) : Prop := ∃ (many : Int) (n0 : Nat), n = n0 + 1 ∧ ds = [.raw (.ref p), .int many] ∧ many < 2 ^ 9000 ∧ ∀ v : Int, 0 ≤ v → (v < many ∨ v = 0) → k n0 (.int v)
theorem shaped_ints (ns : List Int) : SeqAt.shaped (.list (ns.map PyData.int)) = true := by
  have h1 : ∀ ns : List Int, PyData.canLayAll0 (ns.map PyData.int) = true := fun ns => by
    induction ns with
    | nil => simp [PyData.canLayAll0]
    | cons n ns ih => simp [PyData.canLayAll0, PyData.canLay0, ih]
  have h2 : ∀ ns : List Int, PyData.depthAll (ns.map PyData.int) = 0 := fun ns => by
    induction ns with
    | nil => simp [PyData.depthAll]
    | cons n ns ih => simp [PyData.depthAll, PyData.depth, ih]
  unfold SeqAt.shaped
  rw [Bool.and_eq_true]
  exact ⟨by simp only [PyData.canLay0]; exact h1 ns, decide_eq_true (by simp only [PyData.depth]; rw [h2]; decide)⟩
theorem dp_ints {K : PySem.W.Frag} {H : Hp} : ∀ (ns : List Int), DpAll K H (ns.map V.int) (ns.map PyData.int)
  | [] => .nil
  | n :: ns => .cons (.int n) (dp_ints ns)
theorem pow_split {x : Int} {b c : Nat} (h : x.natAbs < 2 ^ b) (hbc : b ≤ c) : x.natAbs < 2 ^ c := Nat.lt_of_lt_of_le h (Nat.pow_le_pow_right (by decide) hbc)
theorem div_abs {x m : Int} {b : Nat} (h0 : 0 ≤ x) (hm : 0 < m) (h : x.natAbs < 2 ^ b) : 0 ≤ x / m ∧ (x / m).natAbs < 2 ^ b := by
  have h1 : 0 ≤ x / m := Int.ediv_nonneg h0 (by omega)
  have h2 : x / m ≤ x := Int.ediv_le_self _ h0
  exact ⟨h1, Nat.lt_of_le_of_lt (by omega) h⟩
theorem cdw {i j : Int} (h : 0 < j) (hb : j < 2 ^ 9000) : CDivW i j := wide_div h (b := 9000) (by
  have : (j.natAbs : Int) = j := by omega
  have h2 : ((j.natAbs : Nat) : Int) < ((2 ^ 9000 : Nat) : Int) := by
    rw [this]
    have e : ((2 ^ 9000 : Nat) : Int) = (2 : Int) ^ 9000 := by
      rw [Int.natCast_pow] <;> rfl
    rw [e]; exact hb
  exact Int.ofNat_lt.mp h2) (by decide) (by decide)
theorem mod_lt' {x m : Int} (hm : 0 < m) : 0 ≤ x % m ∧ x % m < m := ⟨Int.emod_nonneg _ (by omega), Int.emod_lt_of_pos _ hm⟩
section
variable {P : Program} {w : World} {K : PySem.W.Frag} {mg : Str → Option Value} {base : Heap}
theorem ok_draw {f : Addr} {fd : FuncData} (F : FunD K "_law_draw" "_law_draw" (defArgs s_draw) (defBody s_draw) (defScope s_draw) [] [] f fd) (m1 : mg "int" = none) (m2 : mg "len" = none) (m3 : mg "abs" = none) : FnOk P w K mg base CX0 1 f fd ["pen", "many"] (spP K R_draw) := by
  refine F.ok sc_draw (fun vs H Q E h => ?_) fun cdv A outer s H vs Q E hr h => ?_
  · obtain ⟨W, p, c, n, ds, k, _, _, _, _, _, _, r, ⟨many, n0, _, e, _⟩, _⟩ := h
    rw [r.length, e]; rfl
  · obtain ⟨W, p, c, n, ds, k, htr, hnd, hp, hc, hpc, pen, r, ⟨many, n0, rfl, rfl, hmany, hk⟩, q⟩ := h
    obtain ⟨at_, rest, ns, e1, e2, h0, h1, h2, h3, h4, h5⟩ := pen
    cases r with
    | cons r1 r2 =>
    cases r1
    cases r2 with
    | cons r2 r3 =>
    cases r2; cases r3
    -- how it ends
    have fin : ∀ (v : Int) (H' : Hp) (at' rest' : Int), 0 ≤ v → (v < many ∨ v = 0) → (∀ a o, a ≠ p → H a = some o → H' a = some o) → H' p = some (.lst [.ref c, .int at', .int rest']) → 0 ≤ at' → at' + n0 ≤ 1000000 → 0 ≤ rest' → rest'.natAbs < 2 ^ 1048600 → Q (.int v) H' :=
      fun v H' at' rest' a1 a2 a3 a4 a5 a6 a7 a8 => q n0 (.int v) (.int v) H' (hk v a1 a2) a3 ⟨at', rest', ns, a4, a3 c _ (Ne.symm hpc) e2, a5, a6, a7, a8, h4, h5⟩ (.int v)
    have hu := hr.units
    refine ⟨_, PSs.nox (pss_cons (ps_if (pt_cmpR op_lt (pv 1) pe_int (nomark _)) (pss_one (ps_ret pe_int)) pss_nil)
      (pss_cons (ps_if (pt_cmpR op_gt (pe_ix ix_list (pv 0) pe_int (fun _ _ => rfl)) pe_int (nomark _))
          (pss_cons (ps_set (i := 2) sc_draw.nd rfl (.inl rfl) (pe_op op_mod (pe_callTy call_int1 (by rfl) m1 boot_int (pa_cons (pe_ix ix_list (pv 0) pe_int (fun _ _ => rfl)) pa_nil)) (pv 1)))
          (pss_cons (ps_asg (pe_op op_fdivW (pe_callTy call_int1 (by rfl) m1 boot_int (pa_cons (pe_ix ix_list (pv 0) pe_int (fun _ _ => rfl)) pa_nil)) (pv 1)) (pg_sub (pv 0) pe_int set_list))
          (pss_one (ps_ret (pv 2))))) pss_nil)
      (pss_cons (ps_set (i := 3) sc_draw.nd rfl (.inl rfl) (pe_ix ix_list (pv 0) pe_int (fun _ _ => rfl)))
      (pss_cons (ps_asg (pe_op op_add (pv 3) pe_int) (pg_sub (pv 0) pe_int set_list))
      (pss_cons (ps_set (i := 4) sc_draw.nd rfl (.inl rfl) (pe_op op_add (pe_op op_mul pe_int (pv 3)) pe_int))
      (C8.pss_cut (ps_if (pt_cmpR (op_neD hu) (pe_ix ix_list (pv 0) pe_int (fun _ _ => rfl)) (pe_lst pa_nil) (nomark _))
          (pss_one (ps_set (i := 4) sc_draw.nd rfl (.inl rfl) (pe_ix ix_list (pe_ix ix_list (pv 0) pe_int (fun _ _ => rfl)) (pe_op op_mod (pe_callTy call_int1 (by rfl) m1 boot_int (pa_cons (pv 3) pa_nil)) (pe_callB call_len_seq (by rfl) m2 PySem.boot_len (pa_cons (pe_ix ix_list (pv 0) pe_int (fun _ _ => rfl)) pa_nil))) (fun _ _ => rfl)))) pss_nil)
      (C8.pss_cut (ps_if (pw_and (pt_cmpR op_lt (pv 3) (pe_callB call_len_seq (by rfl) m2 PySem.boot_len (pa_cons (pe_ix ix_list (pv 0) pe_int (fun _ _ => rfl)) pa_nil)) (nomark _)) (pw_and1 (pt_cmpR op_ge (pe_callB call_abs (by rfl) m3 boot_abs (pa_cons (pv 4) pa_nil)) (pe_op op_pow pe_int pe_int) (nomark _)))).pt
          (pss_cons (ps_set (i := 5) sc_draw.nd rfl (.inl rfl) (pe_op op_add (pe_op op_mul pe_int (pe_op op_sub (pe_callB call_abs (by rfl) m3 boot_abs (pa_cons (pv 4) pa_nil)) (pe_op op_pow pe_int pe_int))) (pe_callTy call_int1 (by rfl) m1 boot_int (pa_cons (pe_cmpR op_lt (pv 4) pe_int (nomark _)) pa_nil))))
          (pss_cons (ps_asg (pe_op op_fdivW (pe_callTy call_int1 (by rfl) m1 boot_int (pa_cons (pv 5) pa_nil)) (pv 1)) (pg_sub (pv 0) pe_int set_list))
          (pss_one (ps_ret (pe_op op_mod (pe_callTy call_int1 (by rfl) m1 boot_int (pa_cons (pv 5) pa_nil)) (pv 1)))))) pss_nil)
      (pss_cons (ps_set (i := 6) sc_draw.nd rfl (.inl rfl) (pe_op op_mod (pe_callTy call_int1 (by rfl) m1 boot_int (pa_cons (pe_op op_pow (pe_op op_add (pe_op op_add (pe_op op_mod (pe_callTy call_int1 (by rfl) m1 boot_int (pa_cons (pv 4) pa_nil)) pe_int) (pe_op op_mul pe_int (pv 3))) pe_int) pe_int) pa_nil)) pe_int))
      (pss_cons (ps_set (i := 6) sc_draw.nd rfl (.inl rfl) (pe_op op_mod (pe_callTy call_int1 (by rfl) m1 boot_int (pa_cons (pe_op op_pow (pe_op op_add (pe_op op_add (pe_op op_mul (pv 6) (pe_op op_add (pe_op op_mul pe_int (pv 3)) pe_int)) (pe_op op_mul (pe_op op_mul pe_int (pv 3)) (pv 3))) pe_int) pe_int) pa_nil)) pe_int))
      (pss_one (ps_ret (pe_op op_mod (pe_callTy call_int1 (by rfl) m1 boot_int (pa_cons (pe_op op_fdiv (pv 6) pe_int) pa_nil)) (pv 1))))))))))))), ?_⟩
    have eP : SqL K H p [.ref c, .int at_, .int rest] := .of e1
    have eC : SqL K H c (ns.map V.int) := .of e2
    -- many < 2
    refine ⟨.int many, rfl, many, 2, rfl, rfl, _, rfl, ite2 (fun e => ?_) (fun e => ?_)⟩
    · exact fin 0 H at_ rest (by omega) (.inr rfl) (fun _ _ _ z => z) e1 h0 (by omega) h2 h3
    have hm2 : 2 ≤ many := by
      have := e
      simp at this
      omega
    -- pen[2] > 0
    refine ⟨.ref p, rfl, p, _, 2, .int rest, rfl, rfl, eP, atI_nat (j := 2) rfl, rest, 0, rfl, rfl, _, rfl, ite2 (fun e => ?_) (fun e => ?_)⟩
    · refine ⟨.ref p, rfl, p, _, 2, .int rest, rfl, rfl, eP, atI_nat (j := 2) rfl, .inl ⟨rest, rfl, .int many, rfl, rest, many, rfl, rfl, (by omega : 0 < many), ?_⟩⟩
      refine ⟨.ref p, rfl, p, _, 2, .int rest, rfl, rfl, eP, atI_nat (j := 2) rfl, .inl ⟨rest, rfl, .int many, rfl, rest, many, rfl, rfl, cdw (by omega) hmany, ?_⟩⟩
      refine ⟨.ref p, rfl, p, _, 2, 2, rfl, rfl, e1, rfl, .int (rest % many), rfl, ?_⟩
      obtain ⟨b1, b2⟩ := mod_lt' (x := rest) (m := many) (by omega)
      obtain ⟨b3, b4⟩ := div_abs h2 (by omega : 0 < many) h3
      exact fin _ _ at_ (rest / many) b1 (.inl b2) (fun a o z y => by rw [upd_ne z]; exact y) upd_same h0 (by omega) b3 b4
    -- at = pen[1]; pen[1] = at + 1
    refine ⟨.ref p, rfl, p, _, 1, .int at_, rfl, rfl, eP, atI_nat (j := 1) rfl, ?_⟩
    refine ⟨.int at_, rfl, at_, 1, rfl, rfl, .ref p, rfl, p, _, 1, 1, rfl, rfl, e1, rfl, ?_⟩
    have nec : c ≠ p := Ne.symm hpc
    have e1' : (upd H p (.lst [.ref c, .int (at_ + 1), .int rest])) p = some (.lst [.ref c, .int (at_ + 1), .int rest]) := upd_same
    have e2' : (upd H p (.lst [.ref c, .int (at_ + 1), .int rest])) c = some (.lst (ns.map V.int)) := by rw [upd_ne nec]; exact e2
    have st1 : ∀ a o, a ≠ p → H a = some o → (upd H p (.lst [.ref c, .int (at_ + 1), .int rest])) a = some o := fun a o z y => by rw [upd_ne z]; exact y
    have eP1 : SqL K (upd H p (.lst [.ref c, .int (at_ + 1), .int rest])) p [.ref c, .int (at_ + 1), .int rest] := .of e1'
    -- cell
    have hat : at_.natAbs ≤ 1000000 := by omega
    refine ⟨_, rfl, _, _, rfl, rfl, .inl ⟨by decide, by decide⟩, _, _, rfl, rfl, ?_⟩
    -- if pen[0] != []
    refine ⟨fun σ' H2 => ∃ cell : Int, cell.natAbs < 2 ^ 1048576 ∧ σ' = [some (.ref p), some (.int many), none, some (.int at_), some (.int cell), none, none] ∧ H2 p = some (.lst [.ref c, .int (at_ + 1), .int rest]) ∧ H2 c = some (.lst (ns.map V.int)) ∧ ∀ a o, a ≠ p → H a = some o → H2 a = some o, ?_, ?_⟩
    · have hsmall : (70853 * at_ + 8123).natAbs < 2 ^ 1048576 := Nat.lt_of_lt_of_le (show (70853 * at_ + 8123).natAbs < 2 ^ 40 by omega) (Nat.pow_le_pow_right (by decide) (by decide))
      refine ⟨_, rfl, p, _, 0, .ref c, rfl, rfl, eP1, atI_nat (j := 0) rfl, Nat.zero_le _, fun g ng => ?_⟩
      have ngp : p ≠ g := ne_of_none e1' ng
      have ngc : c ≠ g := ne_of_none e2' ng
      have e1'' : (upd (upd H p (.lst [.ref c, .int (at_ + 1), .int rest])) g (.lst [])) p = some (.lst [.ref c, .int (at_ + 1), .int rest]) := by rw [upd_ne ngp]; exact e1'
      have e2'' : (upd (upd H p (.lst [.ref c, .int (at_ + 1), .int rest])) g (.lst [])) c = some (.lst (ns.map V.int)) := by rw [upd_ne ngc]; exact e2'
      have st2 : ∀ a o, a ≠ p → H a = some o → (upd (upd H p (.lst [.ref c, .int (at_ + 1), .int rest])) g (.lst [])) a = some o := fun a o z y => by
        have y1 := st1 a o z y
        rw [upd_ne (ne_of_none y1 ng)]; exact y1
      have eP2 : SqL K (upd (upd H p (.lst [.ref c, .int (at_ + 1), .int rest])) g (.lst [])) p [.ref c, .int (at_ + 1), .int rest] := .of e1''
      have eC2 : SqL K (upd (upd H p (.lst [.ref c, .int (at_ + 1), .int rest])) g (.lst [])) c (ns.map V.int) := .of e2''
      refine ⟨.list (ns.map PyData.int), .list [], .lst eC2 (dp_ints ns), .lst (.of upd_same) .nil, shaped_ints ns, shaped_ints [], _, rfl, ite2 (fun e => ?_) (fun e => ?_)⟩
      · have hne : ns ≠ [] := fun z => by
          subst z
          simp [PyData.eqv, PyData.eqvAll] at e
        have hpos : 0 < ns.length := List.length_pos_iff.mpr hne
        obtain ⟨b1, b2⟩ := mod_lt' (x := at_) (m := (ns.length : Int)) (by omega)
        have hlt : (at_ % (ns.length : Int)).toNat < ns.length := by omega
        have hix : atI (ns.map V.int) (at_ % (ns.length : Int)) = some (.int ns[(at_ % (ns.length : Int)).toNat]) := by
          have := atI_nat (xs := ns.map V.int) (j := (at_ % (ns.length : Int)).toNat) (v := .int ns[(at_ % (ns.length : Int)).toNat]) (by rw [List.getElem?_map, List.getElem?_eq_getElem hlt]; rfl)
          rw [Int.toNat_of_nonneg b1] at this
          exact this
        refine ⟨.ref p, rfl, p, _, 0, .ref c, rfl, rfl, eP2, atI_nat (j := 0) rfl, .int at_, rfl, .inl ⟨at_, rfl, .ref p, rfl, p, _, 0, .ref c, rfl, rfl, eP2, atI_nat (j := 0) rfl, c, _, rfl, .inl eC2, ?_⟩⟩
        refine ⟨at_, ((ns.map V.int).length : Int), rfl, rfl, by rw [List.length_map]; omega, c, _, _, _, rfl, rfl, eC2, by rw [List.length_map]; exact hix, ?_⟩
        exact ⟨_, h5 _ (List.getElem_mem hlt), rfl, e1'', e2'', st2⟩
      · exact ⟨_, hsmall, rfl, e1'', e2'', st2⟩
    rintro _ H2 ⟨cell, hcell, rfl, g1, g2, st2⟩
    have eP2 : SqL K H2 p [.ref c, .int (at_ + 1), .int rest] := .of g1
    have eC2 : SqL K H2 c (ns.map V.int) := .of g2
    have habs : 0 ≤ (if cell < 0 then -cell else cell) ∧ (if cell < 0 then -cell else cell).natAbs < 2 ^ 1048576 := by
      split <;> constructor <;> omega
    -- a great cell
    refine ⟨fun σ' H' => σ' = [some (.ref p), some (.int many), none, some (.int at_), some (.int cell), none, none] ∧ H' = H2, ?_, ?_⟩
    · refine ⟨.int at_, rfl, .ref p, rfl, p, _, 0, .ref c, rfl, rfl, eP2, atI_nat (j := 0) rfl, c, _, rfl, .inl eC2, at_, _, rfl, rfl, _, rfl, ite2 (fun e => ?_) (fun e => ?_)⟩
      · refine ⟨.int cell, rfl, cell, rfl, 10, 18, rfl, rfl, ⟨by decide, by decide, by decide⟩, _, _, rfl, rfl, _, rfl, ite2 (fun e => ?_) (fun e => ?_)⟩
        · have hge : (10 : Int) ^ 18 ≤ (if cell < 0 then -cell else cell) := of_decide_eq_true e
          refine ⟨.int cell, rfl, cell, rfl, 10, 18, rfl, rfl, ⟨by decide, by decide, by decide⟩, _, _, rfl, rfl, 2, _, rfl, rfl, .inl ⟨by decide, by decide⟩, .int cell, rfl, cell, 0, rfl, rfl, .inr ⟨_, rfl, _, _, rfl, rfl, ?_⟩⟩
          have hg : ∀ great : Int, great = 2 * ((if cell < 0 then -cell else cell) - 10 ^ 18) + (if decide (cell < 0) = true then 1 else 0) → 0 ≤ great ∧ great.natAbs < 2 ^ 1048578 := fun great hgr => by
            have b1 : (0 : Int) ≤ (if decide (cell < 0) = true then 1 else 0) ∧ (if decide (cell < 0) = true then (1 : Int) else 0) ≤ 1 := by split <;> constructor <;> decide
            have b2 : (10 : Int) ^ 18 = 1000000000000000000 := by decide
            rw [b2] at hge hgr
            obtain ⟨x1, x2⟩ := habs
            have p2 : (2 : Nat) ^ 1048578 = 4 * 2 ^ 1048576 := by rw [show (1048578 : Nat) = 1048576 + 2 from rfl, Nat.pow_add]; omega
            rw [p2]
            generalize (2 : Nat) ^ 1048576 = TT at x2 ⊢
            omega
          obtain ⟨great, hgr⟩ : ∃ great : Int, great = 2 * ((if cell < 0 then -cell else cell) - 10 ^ 18) + (if decide (cell < 0) = true then 1 else 0) := ⟨_, rfl⟩
          obtain ⟨g3, g4⟩ := hg great hgr
          have hgr' : (fun i j => V.int (i + j)) ((fun i j => i * j) 2 ((fun i j => i - j) (if cell < 0 then -cell else cell) (10 ^ (18 : Int).toNat))) (if decide (cell < 0) = true then 1 else 0) = V.int great := by rw [hgr]; rfl
          obtain ⟨d1, d2⟩ := div_abs g3 (by omega : 0 < many) g4
          obtain ⟨b1, b2⟩ := mod_lt' (x := great) (m := many) (by omega)
          refine ⟨_, rfl, .inl ⟨great, by first | rfl | (rw [hgr]; rfl), .int many, rfl, great, many, rfl, rfl, cdw (by omega) hmany, .ref p, rfl, p, _, 2, 2, rfl, rfl, g1, rfl, ?_⟩⟩
          refine ⟨_, rfl, .inl ⟨great, by first | rfl | (rw [hgr]; rfl), .int many, rfl, great, many, rfl, rfl, (by omega : 0 < many), ?_⟩⟩
          exact fin _ _ (at_ + 1) (great / many) b1 (.inl b2) (fun a o z y => by rw [upd_ne z]; exact st2 a o z y) upd_same (by omega) (by omega) d1 (pow_split d2 (by decide))
        · exact ⟨rfl, rfl⟩
      · exact iteF ⟨rfl, rfl⟩
    rintro _ _ ⟨rfl, rfl⟩
    -- a mixed one
    have bat : 0 ≤ at_ ∧ at_ ≤ 1000000 := ⟨h0, by omega⟩
    obtain ⟨x1, x2⟩ := mod_lt' (x := cell) (m := 2147483549) (by decide)
    refine ⟨.int cell, rfl, .inl ⟨cell, rfl, cell, 2147483549, rfl, rfl, (by decide : (0 : Int) < 2147483549), .int at_, rfl, _, at_, rfl, rfl, .inl ⟨by decide, by decide⟩, _, _, rfl, rfl, _, _, rfl, rfl, _, 3, rfl, rfl, ⟨by decide, by decide, ?_⟩, .inl ⟨_, rfl, _, _, rfl, rfl, (by decide : (0 : Int) < 2147483629), ?_⟩⟩⟩
    · show (cell % 2147483549 + _ * at_ + _).natAbs < 2 ^ 64
      omega
    dsimp only
    generalize (cell % 2147483549 + _ * at_ + _) ^ (3 : Int).toNat = cube
    obtain ⟨x3, x4⟩ := mod_lt' (x := cube) (m := 2147483629) (by decide)
    generalize cube % 2147483629 = mixed at x3 x4
    have q1 : 0 ≤ mixed * (2 * at_ + 10000) ∧ mixed * (2 * at_ + 10000) ≤ 2147483629 * 2010000 := ⟨Int.mul_nonneg x3 (by omega), Int.mul_le_mul (by omega) (by omega) (by omega) (by decide)⟩
    have q2 : ∀ c0 : Int, 0 ≤ c0 → c0 ≤ 100000 → 0 ≤ c0 * at_ * at_ ∧ c0 * at_ * at_ ≤ 100000 * 1000000 * 1000000 := fun c0 z1 z2 => ⟨Int.mul_nonneg (Int.mul_nonneg z1 bat.1) bat.1, Int.mul_le_mul (Int.mul_le_mul z2 bat.2 bat.1 (by decide)) bat.2 bat.1 (by decide)⟩
    have q3 : ∀ c0 : Int, 0 ≤ c0 → c0 ≤ 10000 → 0 ≤ mixed * (2 * at_ + c0) ∧ mixed * (2 * at_ + c0) ≤ mixed * (2 * at_ + 10000) := fun c0 z1 z2 => ⟨Int.mul_nonneg x3 (by omega), Int.mul_le_mul_of_nonneg_left (by omega) x3⟩
    refine ⟨.int mixed, rfl, .int at_, rfl, _, at_, rfl, rfl, .inl ⟨by decide, by decide⟩, _, _, rfl, rfl, mixed, _, rfl, rfl, .inl ⟨by omega, by omega⟩, .int at_, rfl, _, at_, rfl, rfl, .inl ⟨by decide, by decide⟩, .int at_, rfl, _, at_, rfl, rfl, .inr ⟨by omega, by omega⟩, _, _, rfl, rfl, _, _, rfl, rfl, _, 5, rfl, rfl, ⟨by decide, by decide, ?_⟩, .inl ⟨_, rfl, _, _, rfl, rfl, (by decide : (0 : Int) < 2147483563), ?_⟩⟩
    · show (mixed * (2 * at_ + _) + _ * at_ * at_ + _).natAbs < 2 ^ 64
      have z1 := q3 _ (by decide : (0 : Int) ≤ 6007) (by decide)
      have z2 := q2 _ (by decide : (0 : Int) ≤ 70853) (by decide)
      omega
    dsimp only
    generalize (mixed * (2 * at_ + _) + _ * at_ * at_ + _) ^ (5 : Int).toNat = five
    obtain ⟨x5, x6⟩ := mod_lt' (x := five) (m := 2147483563) (by decide)
    generalize five % 2147483563 = m2' at x5 x6
    refine ⟨.int m2', rfl, m2', 16, rfl, rfl, ⟨by decide, by decide⟩, .inl ⟨_, rfl, .int many, rfl, _, many, rfl, rfl, (by omega : 0 < many), ?_⟩⟩
    obtain ⟨b1, b2⟩ := mod_lt' (x := m2' / 16) (m := many) (by omega)
    exact fin _ _ (at_ + 1) rest b1 (.inl b2) st2 g1 (by omega) (by omega) h2 h3
end
end K1

namespace K1
open PySem PySem.Spec PyProof.Rows L2 RD
/-! ### the plain law -/
def dk0 : D := .dct [(.inr "a", .lst [.int 1])]
inductive Atm : D → Prop
  | non : Atm .non
  | bl (b : Bool) : Atm (.bl b)
  | int (i : Int) (h : i.natAbs ≤ 10 ^ 30) : Atm (.int i)
  | str (x : Str) (h : ∀ c ∈ x.cps.toList, c < 16 ^ 8) (h2 : x.length ≤ 10) : Atm (.str x)
  | dct : Atm dk0
/-- values drawn, of at most n levels -/
def Gd : Nat → D → Prop
  | 0, d => Atm d
  | n + 1, d => Atm d ∨ ∃ xs, (d = .lst xs ∨ d = .tup xs) ∧ xs.length ≤ 3 ∧ ∀ x ∈ xs, Gd n x
/-- the same with tuples alone -/
def Fx : Nat → D → Prop
  | 0, d => Atm d
  | n + 1, d => Atm d ∨ ∃ xs, d = .tup xs ∧ xs.length ≤ 3 ∧ ∀ x ∈ xs, Fx n x
mutual
def fixD : D → D
  | .lst xs => .tup (fixDs xs)
  | .tup xs => .tup (fixDs xs)
  | d => d
def fixDs : List D → List D
  | [] => []
  | x :: xs => fixD x :: fixDs xs
end
mutual
def lisD : D → D
  | .lst xs => .lst (lisDs xs)
  | .tup xs => .lst (lisDs xs)
  | d => d
def lisDs : List D → List D
  | [] => []
  | x :: xs => lisD x :: lisDs xs
end
theorem fixDs_map : ∀ xs : List D, fixDs xs = xs.map fixD
  | [] => rfl
  | x :: xs => by rw [fixDs, fixDs_map xs]; rfl
theorem lisDs_map : ∀ xs : List D, lisDs xs = xs.map lisD
  | [] => rfl
  | x :: xs => by rw [lisDs, lisDs_map xs]; rfl
theorem fix_atm {d : D} (h : Atm d) : fixD d = d := by cases h <;> rfl
theorem lis_atm {d : D} (h : Atm d) : lisD d = d := by cases h <;> rfl
theorem Gd.atm {n : Nat} {d : D} (h : Atm d) : Gd n d := by cases n with
  | zero => exact h
  | succ n => exact .inl h
theorem Fx.atm {n : Nat} {d : D} (h : Atm d) : Fx n d := by cases n with
  | zero => exact h
  | succ n => exact .inl h
theorem Gd.up : ∀ {n : Nat} {d : D}, Gd n d → Gd (n + 1) d
  | 0, d, h => .inl h
  | n + 1, d, h => by
    rcases h with h | ⟨xs, e, hl, h⟩
    · exact .inl h
    · exact .inr ⟨xs, e, hl, fun x hx => Gd.up (h x hx)⟩
theorem Gd.mono {n m : Nat} (h : n ≤ m) {d : D} (g : Gd n d) : Gd m d := by
  induction h with
  | refl => exact g
  | step _ ih => exact ih.up
theorem Fx.up : ∀ {n : Nat} {d : D}, Fx n d → Fx (n + 1) d
  | 0, d, h => .inl h
  | n + 1, d, h => by
    rcases h with h | ⟨xs, e, hl, h⟩
    · exact .inl h
    · exact .inr ⟨xs, e, hl, fun x hx => Fx.up (h x hx)⟩
theorem Fx.mono {n m : Nat} (h : n ≤ m) {d : D} (g : Fx n d) : Fx m d := by
  induction h with
  | refl => exact g
  | step _ ih => exact ih.up
theorem Gd.fix : ∀ {n : Nat} {d : D}, Gd n d → Fx n (fixD d)
  | 0, d, h => by rw [fix_atm h]; exact h
  | n + 1, d, h => by
    rcases h with h | ⟨xs, e, hl, h⟩
    · rw [fix_atm h]; exact .inl h
    · refine .inr ⟨fixDs xs, by rcases e with rfl | rfl <;> rfl, by rw [fixDs_map, List.length_map]; exact hl, fun x hx => ?_⟩
      rw [fixDs_map] at hx
      obtain ⟨y, hy, rfl⟩ := List.mem_map.mp hx
      exact Gd.fix (h y hy)
theorem Gd.lis : ∀ {n : Nat} {d : D}, Gd n d → Gd n (lisD d) ∧ fixD (lisD d) = fixD d
  | 0, d, h => by rw [lis_atm h]; exact ⟨h, rfl⟩
  | n + 1, d, h => by
    rcases h with h | ⟨xs, e, hl, h⟩
    · rw [lis_atm h]; exact ⟨.inl h, rfl⟩
    · have e1 : lisD d = .lst (lisDs xs) := by rcases e with rfl | rfl <;> rfl
      have e2 : fixD d = .tup (fixDs xs) := by rcases e with rfl | rfl <;> rfl
      rw [e1, e2]
      refine ⟨.inr ⟨lisDs xs, .inl rfl, by rw [lisDs_map, List.length_map]; exact hl, fun x hx => ?_⟩, ?_⟩
      · rw [lisDs_map] at hx
        obtain ⟨y, hy, rfl⟩ := List.mem_map.mp hx
        exact (Gd.lis (h y hy)).1
      · show D.tup (fixDs (lisDs xs)) = .tup (fixDs xs)
        rw [fixDs_map, fixDs_map, lisDs_map, List.map_map]
        congr 1
        exact List.map_congr_left fun y hy => (Gd.lis (h y hy)).2
/-- a tuple -/
def isT : D → Bool
  | .tup _ => true
  | _ => false
def isB : D → Bool
  | .bl _ => true
  | _ => false
/-- == of two that are not both tuples -/
def eqX : D → D → Bool
  | .dct _, .dct _ => true
  | .dct _, _ => false
  | _, .dct _ => false
  | .tup _, _ => false
  | _, .tup _ => false
  | x, y => eqD x y
mutual
def likeD : D → D → Bool
  | .tup xs, y => match y with
    | .tup ys => decide (xs.length = ys.length) && likeDs xs ys
    | y => (isB (.tup xs) == isB y) && eqX (.tup xs) y
  | x, y => (isB x == isB y) && eqX x y
def likeDs : List D → List D → Bool
  | x :: xs, y :: ys => likeD x y && likeDs xs ys
  | _, _ => true
end
theorem like_tt (xs ys : List D) : likeD (.tup xs) (.tup ys) = (decide (xs.length = ys.length) && likeDs xs ys) := rfl
theorem like_x {x y : D} (h : (isT x && isT y) = false) : likeD x y = ((isB x == isB y) && eqX x y) := by
  cases x <;> cases y <;> first | rfl | cases h
theorem likeDs_all : ∀ xs ys : List D, likeDs xs ys = (List.zipWith likeD xs ys).all id
  | [], ys => by cases ys <;> rfl
  | x :: xs, [] => rfl
  | x :: xs, y :: ys => by
    show (likeD x y && likeDs xs ys) = _
    rw [likeDs_all xs ys]; rfl
theorem eqX_self {d : D} (h : Atm d) : eqX d d = true := by
  cases h with
  | non => rfl
  | bl b => exact eqD_refl (x := .bl b) rfl
  | int i _ => exact eqD_refl (x := .int i) rfl
  | str x _ _ => exact eqD_refl (x := .str x) rfl
  | dct => rfl
theorem like_self : ∀ {n : Nat} {d : D}, Fx n d → likeD d d = true
  | 0, d, h => by
    have : isT d = false := by cases h <;> rfl
    rw [like_x (by rw [this]; rfl), eqX_self h]
    cases isB d <;> rfl
  | n + 1, d, h => by
    rcases h with h | ⟨xs, rfl, hl, h⟩
    · have : isT d = false := by cases h <;> rfl
      rw [like_x (by rw [this]; rfl), eqX_self h]
      cases isB d <;> rfl
    · rw [like_tt, decide_eq_true rfl, Bool.true_and]
      clear hl
      induction xs with
      | nil => rfl
      | cons x xs ih =>
        show (likeD x x && likeDs xs xs) = true
        rw [like_self (h x (List.mem_cons_self ..)), ih fun y hy => h y (List.mem_cons_of_mem _ hy)]
        rfl
/-! kinds -/
theorem atm_kinds {d : D} (h : Atm d) : ∃ t, tyD d = some t ∧ kitB t "list" = some false ∧ kitB t "tuple" = some false ∧ kitB t "bool" = some (isB d) ∧ isT d = false := by
  cases h with
  | non => exact ⟨"NoneType", rfl, by decide +kernel, by decide +kernel, by decide +kernel, rfl⟩
  | bl b => exact ⟨"bool", rfl, by decide +kernel, by decide +kernel, by show kitB "bool" "bool" = some true; decide +kernel, rfl⟩
  | int i _ => exact ⟨"int", rfl, by decide +kernel, by decide +kernel, by show kitB "int" "bool" = some false; decide +kernel, rfl⟩
  | str x _ _ => exact ⟨"str", rfl, by decide +kernel, by decide +kernel, by show kitB "str" "bool" = some false; decide +kernel, rfl⟩
  | dct => exact ⟨"dict", rfl, by decide +kernel, by decide +kernel, by show kitB "dict" "bool" = some false; decide +kernel, rfl⟩
theorem fx_kinds {n : Nat} {d : D} (h : Fx n d) : ∃ t, tyD d = some t ∧ kitB t "tuple" = some (isT d) ∧ kitB t "bool" = some (isB d) := by
  have a : ∀ {d : D}, Atm d → ∃ t, tyD d = some t ∧ kitB t "tuple" = some (isT d) ∧ kitB t "bool" = some (isB d) := fun h => by
    obtain ⟨t, h1, h2, h3, h4, h5⟩ := atm_kinds h
    exact ⟨t, h1, by rw [h5]; exact h3, h4⟩
  cases n with
  | zero => exact a h
  | succ n =>
    rcases h with h | ⟨xs, rfl, _, _⟩
    · exact a h
    · exact ⟨"tuple", rfl, by show kitB "tuple" "tuple" = some true; decide +kernel, by show kitB "tuple" "bool" = some false; decide +kernel⟩
theorem fx_tup {n : Nat} {d : D} (h : Fx n d) (ht : isT d = true) : ∃ xs m, n = m + 1 ∧ d = .tup xs ∧ xs.length ≤ 3 ∧ ∀ x ∈ xs, Fx m x := by
  cases n with
  | zero => obtain ⟨t, _, _, _, _, h5⟩ := atm_kinds h; rw [ht] at h5; cases h5
  | succ n =>
    rcases h with h | ⟨xs, rfl, h1, h2⟩
    · obtain ⟨t, _, _, _, _, h5⟩ := atm_kinds h; rw [ht] at h5; cases h5
    · exact ⟨xs, n, rfl, rfl, h1, h2⟩
theorem fx_atm {n : Nat} {d : D} (h : Fx n d) (ht : isT d = false) : Atm d := by
  cases n with
  | zero => exact h
  | succ n =>
    rcases h with h | ⟨xs, rfl, _, _⟩
    · exact h
    · cases ht
section
variable {K : PySem.W.Frag} {A : Amb} {ρ : En} {x y : D} {k : D → Prop} {n m : Nat}
/-- == of two that are not both tuples -/
theorem od_leaf (h : k (.bl (eqX x y))) (hx : Fx n x) (hy : Fx m y) (ht : (isT x && isT y) = false) : OpD K A (rEqL K) ρ x y k := by
  have oth : ∀ {z : D}, Atm z → z = dk0 ∨ (RD.atm z = true ∧ othD z = true) := fun hz => by cases hz <;> first | exact .inl rfl | exact .inr ⟨rfl, rfl⟩
  cases tx : isT x with
  | true =>
    obtain ⟨xs, _, _, rfl, _, _⟩ := fx_tup hx tx
    rw [tx, Bool.true_and] at ht
    rcases oth (fx_atm hy ht) with rfl | ⟨ha, _⟩
    · exact od_L_XD h rfl
    · refine od_L_TX ?_ ha
      cases y <;> first | exact h | cases ha
  | false =>
    have ax := fx_atm hx tx
    cases ty : isT y with
    | true =>
      obtain ⟨ys, _, _, rfl, _, _⟩ := fx_tup hy ty
      rcases oth ax with rfl | ⟨ha, _⟩
      · exact od_L_DX h rfl
      · refine od_L_XT ?_ ha
        cases x <;> first | exact h | cases ha
    | false =>
      have ay := fx_atm hy ty
      rcases oth ax with rfl | ⟨ha, oa⟩
      · rcases oth ay with rfl | ⟨hb, ob⟩
        · exact od_L_D1 h rfl (by decide)
        · refine od_L_DX ?_ ob
          cases y <;> first | exact h | cases hb
      · rcases oth ay with rfl | ⟨hb, ob⟩
        · refine od_L_XD ?_ oa
          cases x <;> first | exact h | cases ha
        · refine od_L_at ?_ ha hb
          cases x <;> cases y <;> first | exact h | cases ha | cases hb
end
end K1

namespace K1
open PySem PySem.Spec PyProof.Rows L2 RD
abbrev s_fixed : Stmt := topS 1
theorem sc_fixed : FnScope ["value", "part"] ["value"] (defScope s_fixed) := ⟨rfl, rfl, rfl, by decide +kernel, rfl, by decide +kernel, by decide +kernel⟩
abbrev s_alike : Stmt := topS 2
theorem sc_alike : FnScope ["one", "other", "here", "there"] ["one", "other"] (defScope s_alike) := ⟨rfl, rfl, rfl, by decide +kernel, rfl, by decide +kernel, by decide +kernel⟩
abbrev s_init : Stmt := inClass (topS 3) 0
theorem sc_init : FnScope ["self", "word", "parts"] ["self", "word", "parts"] (defScope s_init) := ⟨rfl, rfl, rfl, by decide +kernel, rfl, by decide +kernel, by decide +kernel⟩
abbrev s_pbool : Stmt := inClass (topS 3) 1
theorem sc_pbool : FnScope ["self"] ["self"] (defScope s_pbool) := ⟨rfl, rfl, rfl, by decide +kernel, rfl, by decide +kernel, by decide +kernel⟩
abbrev s_peq : Stmt := inClass (topS 3) 2
theorem sc_peq : FnScope ["self", "other"] ["self", "other"] (defScope s_peq) := ⟨rfl, rfl, rfl, by decide +kernel, rfl, by decide +kernel, by decide +kernel⟩
abbrev s_dbool : Stmt := inClass (topS 4) 0
theorem sc_dbool : FnScope ["self"] ["self"] (defScope s_dbool) := ⟨rfl, rfl, rfl, by decide +kernel, rfl, by decide +kernel, by decide +kernel⟩
abbrev s_pen : Stmt := topS 6
theorem sc_pen : FnScope ["script"] ["script"] (defScope s_pen) := ⟨rfl, rfl, rfl, by decide +kernel, rfl, by decide +kernel, by decide +kernel⟩
abbrev s_pick : Stmt := topS 8
theorem sc_pick : FnScope ["pen", "some"] ["pen", "some"] (defScope s_pick) := ⟨rfl, rfl, rfl, by decide +kernel, rfl, by decide +kernel, by decide +kernel⟩
abbrev s_value : Stmt := topS 9
theorem sc_value : FnScope ["pen", "deep", "way", "some", "turn"] ["pen", "deep"] (defScope s_value) := ⟨rfl, rfl, rfl, by decide +kernel, rfl, by decide +kernel, by decide +kernel⟩
abbrev s_tupled : Stmt := topS 10
theorem sc_tupled : FnScope ["value", "one"] ["value"] (defScope s_tupled) := ⟨rfl, rfl, rfl, by decide +kernel, rfl, by decide +kernel, by decide +kernel⟩
abbrev s_listed : Stmt := topS 11
theorem sc_listed : FnScope ["value", "one"] ["value"] (defScope s_listed) := ⟨rfl, rfl, rfl, by decide +kernel, rfl, by decide +kernel, by decide +kernel⟩
abbrev s_like : Stmt := topS 12
theorem sc_like : FnScope ["one", "other", "at"] ["one", "other"] (defScope s_like) := ⟨rfl, rfl, rfl, by decide +kernel, rfl, by decide +kernel, by decide +kernel⟩
abbrev s_law : Stmt := topS 13
theorem sc_law : FnScope ["script", "pen", "turn", "one", "other", "mine", "its", "paper", "denial", "deep", "due", "lap", "some"] ["script"] (defScope s_law) := ⟨rfl, rfl, rfl, by decide +kernel, rfl, by decide +kernel, by decide +kernel⟩
abbrev FnD (K : PySem.W.Frag) (x q : Str) (st : Stmt) (f : Addr) (fd : FuncData) : Prop := FunD K x q (defArgs st) (defBody st) (defScope st) [] [] f fd
/-- what an own class must have -/
structure ClsT (K : PySem.W.Frag) (C : Addr) (nm : Str) (f_init f_eq f_bool : Addr) : Prop where
  ins : C8.InsC K C
  nw : NoAttr K C "word"
  np : NoAttr K C "parts"
  rn : PySem.W.RdNm K C nm
  made : Mk K C f_init
  eq : PySem.W.findIn K (.ref C) "__eq__" = some (some (.ref f_eq))
  ne : PySem.W.findIn K (.ref C) "__ne__" = some (some (.builtin "object.__ne__"))
  bo : PySem.W.findIn K (.ref C) "__bool__" = some (some (.ref f_bool))
/-- what the top has written -/
structure Tp (K : PySem.W.Frag) (mg : Str → Option Value) where
  f_fixed : Addr
  d_fixed : FuncData
  F_fixed : FnD K "fixed" "fixed" s_fixed f_fixed d_fixed
  m_fixed : mg "fixed" = some (.ref f_fixed)
  f_alike : Addr
  d_alike : FuncData
  F_alike : FnD K "are_like" "are_like" s_alike f_alike d_alike
  m_alike : mg "are_like" = some (.ref f_alike)
  f_init : Addr
  d_init : FuncData
  F_init : FnD K "__init__" "Paper.__init__" s_init f_init d_init
  f_pbool : Addr
  d_pbool : FuncData
  F_pbool : FnD K "__bool__" "Paper.__bool__" s_pbool f_pbool d_pbool
  f_peq : Addr
  d_peq : FuncData
  F_peq : FnD K "__eq__" "Paper.__eq__" s_peq f_peq d_peq
  f_dbool : Addr
  d_dbool : FuncData
  F_dbool : FnD K "__bool__" "Denial.__bool__" s_dbool f_dbool d_dbool
  f_pen : Addr
  d_pen : FuncData
  F_pen : FnD K "_law_pen" "_law_pen" s_pen f_pen d_pen
  m_pen : mg "_law_pen" = some (.ref f_pen)
  f_pick : Addr
  d_pick : FuncData
  F_pick : FnD K "_law_pick" "_law_pick" s_pick f_pick d_pick
  m_pick : mg "_law_pick" = some (.ref f_pick)
  f_value : Addr
  d_value : FuncData
  F_value : FnD K "_law_value" "_law_value" s_value f_value d_value
  m_value : mg "_law_value" = some (.ref f_value)
  f_tupled : Addr
  d_tupled : FuncData
  F_tupled : FnD K "_law_tupled" "_law_tupled" s_tupled f_tupled d_tupled
  m_tupled : mg "_law_tupled" = some (.ref f_tupled)
  f_listed : Addr
  d_listed : FuncData
  F_listed : FnD K "_law_listed" "_law_listed" s_listed f_listed d_listed
  m_listed : mg "_law_listed" = some (.ref f_listed)
  f_like : Addr
  d_like : FuncData
  F_like : FnD K "_law_like" "_law_like" s_like f_like d_like
  m_like : mg "_law_like" = some (.ref f_like)
  f_law : Addr
  d_law : FuncData
  F_law : FnD K "law" "law" s_law f_law d_law
  f_draw : Addr
  d_draw : FuncData
  F_draw : FnD K "_law_draw" "_law_draw" s_draw f_draw d_draw
  m_draw : mg "_law_draw" = some (.ref f_draw)
  c_P : Addr
  c_D : Addr
  C_P : ClsT K c_P "Paper" f_init f_peq f_pbool
  C_D : ClsT K c_D "Denial" f_init f_peq f_dbool
  m_P : mg "Paper" = some (.ref c_P)
  m_D : mg "Denial" = some (.ref c_D)
  sDP : PySem.W.subIn K (.ref c_D) (.ref c_P) = some true
  sPD : PySem.W.subIn K (.ref c_P) (.ref c_D) = some false
  tPP : PySem.W.notFirst K c_P (.type "tuple") = true
  kDP : PySem.W.kitOne K (.ref c_D) (.ref c_P) = some true
  kTP : PySem.W.kitOne K (.type "tuple") (.ref c_P) = some false
  b_int : mg "int" = none
  b_len : mg "len" = none
  b_abs : mg "abs" = none
  b_list : mg "list" = none
  b_tuple : mg "tuple" = none
  b_bool : mg "bool" = none
  b_all : mg "all" = none
  b_zip : mg "zip" = none
  b_range : mg "range" = none
  b_repr : mg "repr" = none
  b_isinstance : mg "isinstance" = none
section
variable {P : Program} {w : World} {K : PySem.W.Frag} {mg : Str → Option Value} {base : Heap}
theorem b_fixed (T : Tp K mg) : Binds K T.d_fixed ["value"] [] := T.F_fixed.bindsN fun _ _ _ _ _ _ us hl => match us, hl with | [_], _ => rfl
theorem b_alike (T : Tp K mg) : Binds K T.d_alike ["one", "other"] [] := T.F_alike.bindsN fun _ _ _ _ _ _ us hl => match us, hl with | [_, _], _ => rfl
theorem b_pbool (T : Tp K mg) : Binds K T.d_pbool ["self"] [] := T.F_pbool.bindsN fun _ _ _ _ _ _ us hl => match us, hl with | [_], _ => rfl
theorem b_peq (T : Tp K mg) : Binds K T.d_peq ["self", "other"] [] := T.F_peq.bindsN fun _ _ _ _ _ _ us hl => match us, hl with | [_, _], _ => rfl
theorem b_dbool (T : Tp K mg) : Binds K T.d_dbool ["self"] [] := T.F_dbool.bindsN fun _ _ _ _ _ _ us hl => match us, hl with | [_], _ => rfl
theorem b_pen (T : Tp K mg) : Binds K T.d_pen ["script"] [] := T.F_pen.bindsN fun _ _ _ _ _ _ us hl => match us, hl with | [_], _ => rfl
theorem b_draw (T : Tp K mg) : Binds K T.d_draw ["pen", "many"] [] := T.F_draw.bindsN fun _ _ _ _ _ _ us hl => match us, hl with | [_, _], _ => rfl
theorem b_pick (T : Tp K mg) : Binds K T.d_pick ["pen", "some"] [] := T.F_pick.bindsN fun _ _ _ _ _ _ us hl => match us, hl with | [_, _], _ => rfl
theorem b_value (T : Tp K mg) : Binds K T.d_value ["pen", "deep"] [] := T.F_value.bindsN fun _ _ _ _ _ _ us hl => match us, hl with | [_, _], _ => rfl
theorem b_tupled (T : Tp K mg) : Binds K T.d_tupled ["value"] [] := T.F_tupled.bindsN fun _ _ _ _ _ _ us hl => match us, hl with | [_], _ => rfl
theorem b_listed (T : Tp K mg) : Binds K T.d_listed ["value"] [] := T.F_listed.bindsN fun _ _ _ _ _ _ us hl => match us, hl with | [_], _ => rfl
theorem b_like (T : Tp K mg) : Binds K T.d_like ["one", "other"] [] := T.F_like.bindsN fun _ _ _ _ _ _ us hl => match us, hl with | [_, _], _ => rfl
theorem kb_bool : kitB "bool" "bool" = some true := by decide +kernel
theorem kl_l : kitB "list" "list" = some true := by decide +kernel
theorem kl_t : kitB "list" "tuple" = some false := by decide +kernel
theorem kt_l : kitB "tuple" "list" = some false := by decide +kernel
theorem kt_t : kitB "tuple" "tuple" = some true := by decide +kernel
/-- a list, a tuple -/
def isLT : D → Bool
  | .lst _ => true
  | .tup _ => true
  | _ => false
theorem gd_kinds {n : Nat} {d : D} (h : Gd n d) : ∃ t c c', tyD d = some t ∧ kitB t "list" = some c ∧ kitB t "tuple" = some c' ∧ (c || c') = isLT d := by
  have a : ∀ {d : D}, Atm d → ∃ t c c', tyD d = some t ∧ kitB t "list" = some c ∧ kitB t "tuple" = some c' ∧ (c || c') = isLT d := fun h => by
    obtain ⟨t, h1, h2, h3, _, _⟩ := atm_kinds h
    refine ⟨t, _, _, h1, h2, h3, ?_⟩
    cases h <;> rfl
  cases n with
  | zero => exact a h
  | succ n =>
    rcases h with h | ⟨xs, rfl | rfl, _, _⟩
    · exact a h
    · exact ⟨"list", _, _, rfl, kl_l, kl_t, rfl⟩
    · exact ⟨"tuple", _, _, rfl, kt_l, kt_t, rfl⟩
theorem gd_lt {n : Nat} {d : D} (h : Gd n d) (ht : isLT d = true) : ∃ xs m, n = m + 1 ∧ (d = .lst xs ∨ d = .tup xs) ∧ xs.length ≤ 3 ∧ ∀ x ∈ xs, Gd m x := by
  cases n with
  | zero => cases h <;> cases ht
  | succ n =>
    rcases h with h | ⟨xs, e, h1, h2⟩
    · cases h <;> cases ht
    · exact ⟨xs, n, rfl, e, h1, h2⟩
theorem gd_atm {n : Nat} {d : D} (h : Gd n d) (ht : isLT d = false) : Atm d := by
  cases n with
  | zero => exact h
  | succ n =>
    rcases h with h | ⟨xs, rfl | rfl, _, _⟩
    · exact h
    · cases ht
    · cases ht
/-- for over a list or a tuple -/
theorem wi_lt {X : Cx} {A : Amb} {ρ : En} {n : Nat} {tg e : Expr} {kl : Nat → En → List D → Prop} {xs : List D} {d : D} (hd : d = .lst xs ∨ d = .tup xs) (h : WE X A e ρ n fun n ρ z => z = d ∧ kl n ρ xs) : WI X A tg e ρ n kl := by
  rcases hd with rfl | rfl
  · exact wi_lst (h.mono fun _ _ _ z => ⟨xs, z.1, z.2⟩)
  · exact wi_tup (h.mono fun _ _ _ z => ⟨xs, z.1, z.2⟩)
/-- [f(x) for x in value] -/
theorem take_map {α β : Type} {f : α → β} {xs : List α} {i : Nat} {d : α} (h : xs[i]? = some d) : (xs.map f).take (i + 1) = (xs.map f).take i ++ [f d] := by
  rw [List.take_succ, List.getElem?_map, h]; rfl
def R_fix (n : Nat) (ds : List D) (k : D → Prop) : Prop := ∃ d, ds = [d] ∧ Gd n d ∧ k (fixD d)
def R_lis (n : Nat) (ds : List D) (k : D → Prop) : Prop := ∃ d, ds = [d] ∧ Gd n d ∧ k (lisD d)
def R_like (n : Nat) (ds : List D) (k : D → Prop) : Prop := ∃ x y, ds = [x, y] ∧ Fx n x ∧ Fx n y ∧ k (.bl (likeD x y))
theorem ok_fixed (T : Tp K mg) (n : Nat) : FnOk P w K mg base CX0 (n + 1) T.f_fixed T.d_fixed ["value"] (spF K (R_fix n)) := by
  induction n using Nat.strongRecOn with
  | _ n ih =>
  refine fn_pureR T.F_fixed sc_fixed (fun ds k h => ?_) fun cdv A0 outer s H E A ds k hr hp h => ?_
  · obtain ⟨d, rfl, _⟩ := h
    rfl
  · obtain ⟨d, rfl, hgd, hk⟩ := h
    have nd := sc_fixed.nd
    obtain ⟨t, c, c', e1, e2, e3, e4⟩ := gd_kinds hgd
    refine ws_cons (ws_if (wb_val (we_isi2 T.b_isinstance T.b_list T.b_tuple boot_list boot_tuple (we_name 0 rfl ⟨t, c, c', e1, e2, e3, c || c', rfl, fun hc => ?_, fun hc => ?_⟩))))
    · rw [e4] at hc
      obtain ⟨xs, m, rfl, hd, hl, hg⟩ := gd_lt hgd hc
      have e5 : fixD d = .tup (fixDs xs) := by rcases hd with rfl | rfl <;> rfl
      rw [e5, fixDs_map] at hk
      refine ws_one (ws_ret (we_callTy call_tuple_of T.b_tuple boot_tuple (wa_cons (WF.we ?_))))
      refine wf_lc [("part", 1)] (fun i n acc => n = 0 ∧ acc = (xs.map fixD).take i) rfl nd ?_
      refine wi_lt hd (we_name 0 rfl ⟨rfl, ⟨rfl, rfl⟩, ?_, ?_⟩)
      · rintro i x n acc hx ⟨rfl, rfl⟩ A' hA' s1 H1 C1 cl1 fp1
        refine wg_name 1 nd ?_
        intro s1 H1 C1 cl1 fp1
        refine wts_nil ⟨fun _ => ?_, fun z => nomatch z⟩
        intro s1 H1 C1 cl1 fp1
        refine we_callR (ih m (Nat.lt_succ_self m)) (hr.mono (Nat.le_refl _)) T.m_fixed T.F_fixed.kp (b_fixed T) .nil (fun _ _ => .nil) ?_
        refine wa_cons (we_name 1 rfl (wa_nil ⟨x, rfl, hg x (List.mem_of_getElem? hx), ?_⟩))
        refine ⟨?_, rfl, (take_map hx).symm⟩
        rw [List.length_take]
        have := Nat.min_le_right i (xs.map fixD).length
        rw [List.length_map] at this
        rw [List.length_map]
        omega
      · rintro n acc ⟨rfl, rfl⟩
        rw [List.take_of_length_le (by rw [List.length_map]; exact Nat.le_refl _)]
        exact wa_nil (cd_tupL hk)
    · rw [e4] at hc
      rw [fix_atm (gd_atm hgd hc)] at hk
      exact ws_nil (ws_one (ws_ret (we_name 0 rfl hk)))
theorem ok_tupled (T : Tp K mg) (n : Nat) : FnOk P w K mg base CX0 (n + 1) T.f_tupled T.d_tupled ["value"] (spF K (R_fix n)) := by
  induction n using Nat.strongRecOn with
  | _ n ih =>
  refine fn_pureR T.F_tupled sc_tupled (fun ds k h => ?_) fun cdv A0 outer s H E A ds k hr hp h => ?_
  · obtain ⟨d, rfl, _⟩ := h
    rfl
  · obtain ⟨d, rfl, hgd, hk⟩ := h
    have nd := sc_tupled.nd
    obtain ⟨t, c, c', e1, e2, e3, e4⟩ := gd_kinds hgd
    refine ws_one (ws_ret (we_if (wb_val (we_isi2 T.b_isinstance T.b_list T.b_tuple boot_list boot_tuple (we_name 0 rfl ⟨t, c, c', e1, e2, e3, c || c', rfl, fun hc => ?_, fun hc => ?_⟩)))))
    · rw [e4] at hc
      obtain ⟨xs, m, rfl, hd, hl, hg⟩ := gd_lt hgd hc
      have e5 : fixD d = .tup (fixDs xs) := by rcases hd with rfl | rfl <;> rfl
      rw [e5, fixDs_map] at hk
      refine we_callTy call_tuple_of T.b_tuple boot_tuple (wa_cons (WF.we ?_))
      refine wf_lc [("one", 1)] (fun i n acc => n = 0 ∧ acc = (xs.map fixD).take i) rfl nd ?_
      refine wi_lt hd (we_name 0 rfl ⟨rfl, ⟨rfl, rfl⟩, ?_, ?_⟩)
      · rintro i x n acc hx ⟨rfl, rfl⟩ A' hA' s1 H1 C1 cl1 fp1
        refine wg_name 1 nd ?_
        intro s1 H1 C1 cl1 fp1
        refine wts_nil ⟨fun _ => ?_, fun z => nomatch z⟩
        intro s1 H1 C1 cl1 fp1
        refine we_callR (ih m (Nat.lt_succ_self m)) (hr.mono (Nat.le_refl _)) T.m_tupled T.F_tupled.kp (b_tupled T) .nil (fun _ _ => .nil) ?_
        refine wa_cons (we_name 1 rfl (wa_nil ⟨x, rfl, hg x (List.mem_of_getElem? hx), ?_⟩))
        refine ⟨?_, rfl, (take_map hx).symm⟩
        rw [List.length_take]
        have := Nat.min_le_right i (xs.map fixD).length
        rw [List.length_map] at this
        rw [List.length_map]
        omega
      · rintro n acc ⟨rfl, rfl⟩
        rw [List.take_of_length_le (by rw [List.length_map]; exact Nat.le_refl _)]
        exact wa_nil (cd_tupL hk)
    · rw [e4] at hc
      rw [fix_atm (gd_atm hgd hc)] at hk
      exact we_name 0 rfl hk
theorem ok_listed (T : Tp K mg) (n : Nat) : FnOk P w K mg base CX0 (n + 1) T.f_listed T.d_listed ["value"] (spF K (R_lis n)) := by
  induction n using Nat.strongRecOn with
  | _ n ih =>
  refine fn_pureR T.F_listed sc_listed (fun ds k h => ?_) fun cdv A0 outer s H E A ds k hr hp h => ?_
  · obtain ⟨d, rfl, _⟩ := h
    rfl
  · obtain ⟨d, rfl, hgd, hk⟩ := h
    have nd := sc_listed.nd
    obtain ⟨t, c, c', e1, e2, e3, e4⟩ := gd_kinds hgd
    refine ws_one (ws_ret (we_if (wb_val (we_isi2 T.b_isinstance T.b_list T.b_tuple boot_list boot_tuple (we_name 0 rfl ⟨t, c, c', e1, e2, e3, c || c', rfl, fun hc => ?_, fun hc => ?_⟩)))))
    · rw [e4] at hc
      obtain ⟨xs, m, rfl, hd, hl, hg⟩ := gd_lt hgd hc
      have e5 : lisD d = .lst (lisDs xs) := by rcases hd with rfl | rfl <;> rfl
      rw [e5, lisDs_map] at hk
      refine WF.we ?_
      refine wf_lc [("one", 1)] (fun i n acc => n = 0 ∧ acc = (xs.map lisD).take i) rfl nd ?_
      refine wi_lt hd (we_name 0 rfl ⟨rfl, ⟨rfl, rfl⟩, ?_, ?_⟩)
      · rintro i x n acc hx ⟨rfl, rfl⟩ A' hA' s1 H1 C1 cl1 fp1
        refine wg_name 1 nd ?_
        intro s1 H1 C1 cl1 fp1
        refine wts_nil ⟨fun _ => ?_, fun z => nomatch z⟩
        intro s1 H1 C1 cl1 fp1
        refine we_callR (ih m (Nat.lt_succ_self m)) (hr.mono (Nat.le_refl _)) T.m_listed T.F_listed.kp (b_listed T) .nil (fun _ _ => .nil) ?_
        refine wa_cons (we_name 1 rfl (wa_nil ⟨x, rfl, hg x (List.mem_of_getElem? hx), ?_⟩))
        refine ⟨?_, rfl, (take_map hx).symm⟩
        rw [List.length_take]
        have := Nat.min_le_right i (xs.map lisD).length
        rw [List.length_map] at this
        rw [List.length_map]
        omega
      · rintro n acc ⟨rfl, rfl⟩
        rw [List.take_of_length_le (by rw [List.length_map]; exact Nat.le_refl _)]
        exact hk
    · rw [e4] at hc
      rw [lis_atm (gd_atm hgd hc)] at hk
      exact we_name 0 rfl hk
/-! likeness -/
theorem take_bl {L : List Bool} {i : Nat} {b : Bool} (h : L[i]? = some b) : (L.map D.bl).take (i + 1) = (L.map D.bl).take i ++ [.bl b] := take_map h
theorem ok_alike (T : Tp K mg) (n : Nat) : FnOk P w K mg base CX0 (n + 1) T.f_alike T.d_alike ["one", "other"] (spF K (R_like n)) := by
  induction n using Nat.strongRecOn with
  | _ n ih =>
  refine fn_pureR T.F_alike sc_alike (fun ds k h => ?_) fun cdv A0 outer s H E A ds k hr hp h => ?_
  · obtain ⟨x, y, rfl, _⟩ := h
    rfl
  · obtain ⟨x, y, rfl, hx, hy, hk⟩ := h
    have nd := sc_alike.nd
    have hu := hr.units
    obtain ⟨t, a1, a2, a3⟩ := fx_kinds hx
    obtain ⟨u, b1, b2, b3⟩ := fx_kinds hy
    refine ws_cut (fun n' ρ' => n' = 0 ∧ ρ' = startD ["one", "other", "here", "there"] [x, y] ∧ (isT x && isT y) = false) ?_ ?_
    · refine ws_if (ww_wb (ww_and (wb_val (we_isi T.b_isinstance T.b_tuple boot_tuple (we_name 0 rfl ⟨t, _, a1, a2, _, rfl, fun h1 => ?_, fun h1 => ?_⟩)))))
      · refine ww_and1 (wb_val (we_isi T.b_isinstance T.b_tuple boot_tuple (we_name 1 rfl ⟨u, _, b1, b2, _, rfl, fun h2 => ?_, fun h2 => ?_⟩)))
        · obtain ⟨xs, m, rfl, rfl, lx, gx⟩ := fx_tup hx h1
          obtain ⟨ys, m', em, rfl, ly, gy⟩ := fx_tup hy h2
          cases em
          rw [like_tt] at hk
          refine ws_one (ws_ret (we_and ?_))
          refine we_cmp op_eq ?_
          refine we_callB call_len_seq T.b_len PySem.boot_len (wa_cons (we_name 0 rfl (wa_nil (cd_len ?_ (.inr rfl)))))
          refine we_callB call_len_seq T.b_len PySem.boot_len (wa_cons (we_name 1 rfl (wa_nil (cd_len ?_ (.inr rfl)))))
          refine od_eqI ⟨_, rfl, fun h3 => ?_, fun h3 => ?_⟩
          · have hlen : xs.length = ys.length := by have := of_decide_eq_true h3; omega
            rw [decide_eq_true hlen, Bool.true_and, likeDs_all] at hk
            refine we_one (we_callB (cr_all rfl) T.b_all boot_all (wa_cons (WF.we ?_)))
            refine wf_lc [("here", 2), ("there", 3)] (fun i n acc => n = 0 ∧ acc = ((List.zipWith likeD xs ys).map D.bl).take i) rfl nd ?_
            refine wi_zip T.b_zip (wa_cons (we_name 0 rfl (wa_cons (we_name 1 rfl (wa_nil ⟨xs, ys, .inr rfl, ⟨rfl, rfl⟩, ?_, ?_⟩)))))
            · rintro i d n acc hd ⟨rfl, rfl⟩ A' hA' s1 H1 C1 cl1 fp1
              obtain ⟨x', y', g1, g2, rfl⟩ := zipD_get hd
              refine wg_tup rfl (wgs_cons (wg_name 2 nd (wgs_cons (wg_name 3 nd (wgs_nil ?_)))))
              intro s1 H1 C1 cl1 fp1
              refine wts_nil ⟨fun _ => ?_, fun z => nomatch z⟩
              intro s1 H1 C1 cl1 fp1
              refine we_callR (ih m (Nat.lt_succ_self m)) (hr.mono (Nat.le_refl _)) T.m_alike T.F_alike.kp (b_alike T) .nil (fun _ _ => .nil) ?_
              refine wa_cons (we_name 2 rfl (wa_cons (we_name 3 rfl (wa_nil ⟨x', y', rfl, gx _ (List.mem_of_getElem? g1), gy _ (List.mem_of_getElem? g2), ?_⟩))))
              refine ⟨?_, rfl, (take_bl ?_).symm⟩
              · rw [List.length_take]
                have := Nat.min_le_right i ((List.zipWith likeD xs ys).map D.bl).length
                rw [List.length_map, List.length_zipWith] at this
                rw [List.length_map, List.length_zipWith]
                omega
              · rw [List.getElem?_zipWith, g1, g2]
            · rintro n acc ⟨rfl, rfl⟩
              rw [List.take_of_length_le (by rw [List.length_map, List.length_zipWith]; unfold zipD; rw [List.length_zipWith]; exact Nat.le_refl _)]
              exact wa_nil (cd_all hk)
          · have hlen : ¬ xs.length = ys.length := by have := of_decide_eq_false h3; omega
            rw [decide_eq_false hlen, Bool.false_and] at hk
            exact hk
        · exact ws_nil ⟨rfl, rfl, by rw [h2, Bool.and_false]⟩
      · exact ⟨fun z => (nomatch z), fun _ => ws_nil ⟨rfl, rfl, by rw [h1, Bool.false_and]⟩⟩
    · rintro _ _ ⟨rfl, rfl, ht⟩
      rw [like_x ht] at hk
      refine ws_one (ws_ret (we_and ?_))
      refine we_cmp op_eq (we_isi T.b_isinstance T.b_bool boot_bool (we_name 0 rfl ⟨t, _, a1, a3, ?_⟩))
      refine we_isi T.b_isinstance T.b_bool boot_bool (we_name 1 rfl ⟨u, _, b1, b3, ?_⟩)
      refine od_eqB ⟨_, rfl, fun h => ?_, fun h => ?_⟩
      · rw [h, Bool.true_and] at hk
        exact we_one (we_callTy call_bool1 T.b_bool boot_bool (wa_cons (we_cmp (op_eqL hu) (we_name 0 rfl (we_name 1 rfl (od_leaf (wa_nil (cd_boolB hk)) hx hy ht))))))
      · rw [h, Bool.false_and] at hk
        exact hk
/-- the places where two rows are unlike -/
def flt (L : List Bool) (i : Nat) : List D := ((List.range i).filter fun j => !(L.getD j true)).map fun j : Nat => .int (j : Int)
theorem flt_succ (L : List Bool) (i : Nat) : flt L (i + 1) = flt L i ++ if L.getD i true then [] else [.int (i : Int)] := by
  unfold flt
  rw [List.range_succ, List.filter_append, List.map_append]
  congr 1
  cases h : L.getD i true with
  | true => rw [List.filter_cons_of_neg (by show ¬ (!(L.getD i true)) = true; rw [h]; decide), List.filter_nil]; rfl
  | false => rw [List.filter_cons_of_pos (by show (!(L.getD i true)) = true; rw [h]; rfl), List.filter_nil]; rfl
theorem flt_plain (L : List Bool) (i : Nat) : plain (.lst (flt L i)) = true ∧ (py (.lst (flt L i))).depth ≤ 1 ∧ (flt L i).length ≤ i := by
  have key : ∀ l : List Nat, plains (l.map fun j : Nat => D.int (j : Int)) = true ∧ PyData.depthAll (pys (l.map fun j : Nat => D.int (j : Int))) = 0 := by
    intro l
    induction l with
    | nil => exact ⟨rfl, rfl⟩
    | cons a l ih =>
      refine ⟨?_, ?_⟩
      · show (plain (.int a) && plains _) = true
        rw [ih.1]; rfl
      · simp only [List.map_cons, pys, PyData.depthAll, ih.2, py, PyData.depth]
        rfl
  refine ⟨(key _).1, ?_, ?_⟩
  · show PyData.depthAll (pys (flt L i)) + 1 ≤ 1
    have := (key ((List.range i).filter fun j => !(L.getD j true))).2
    unfold flt
    omega
  · unfold flt
    rw [List.length_map]
    have := List.length_filter_le (fun j => !(L.getD j true)) (List.range i)
    rw [List.length_range] at this
    exact this
theorem eq_nil (xs : List D) : eqD (.lst xs) (.lst []) = xs.isEmpty := by
  unfold eqD
  cases xs with
  | nil => simp [py, pys, PyData.eqv, PyData.eqvAll]
  | cons x xs => simp [py, pys, PyData.eqv, PyData.eqvAll]
theorem flt_end (L : List Bool) : (flt L L.length).isEmpty = L.all id := by
  have key : flt L L.length = [] ↔ ∀ b ∈ L, b = true := by
    unfold flt
    rw [List.map_eq_nil_iff, List.filter_eq_nil_iff]
    constructor
    · intro h b hb
      obtain ⟨j, hj, rfl⟩ := List.getElem_of_mem hb
      have := h j (List.mem_range.mpr hj)
      simpa [List.getD, List.getElem?_eq_getElem hj] using this
    · intro h j hj
      have hj' := List.mem_range.mp hj
      have := h L[j] (List.getElem_mem hj')
      simp [List.getD, List.getElem?_eq_getElem hj', this]
  cases hb : (flt L L.length).isEmpty with
  | true =>
    have := key.mp (List.isEmpty_iff.mp hb)
    exact (List.all_eq_true.mpr fun b hb => this b hb).symm
  | false =>
    cases ha : L.all id with
    | false => rfl
    | true =>
      have h2 := key.mpr fun b hb => (List.all_eq_true.mp ha) b hb
      rw [h2] at hb; cases hb
theorem ok_like (T : Tp K mg) (n : Nat) : FnOk P w K mg base CX0 (n + 1) T.f_like T.d_like ["one", "other"] (spF K (R_like n)) := by
  induction n using Nat.strongRecOn with
  | _ n ih =>
  refine fn_pureR T.F_like sc_like (fun ds k h => ?_) fun cdv A0 outer s H E A ds k hr hp h => ?_
  · obtain ⟨x, y, rfl, _⟩ := h
    rfl
  · obtain ⟨x, y, rfl, hx, hy, hk⟩ := h
    have nd := sc_like.nd
    have hu := hr.units
    obtain ⟨t, a1, a2, a3⟩ := fx_kinds hx
    obtain ⟨u, b1, b2, b3⟩ := fx_kinds hy
    refine ws_cut (fun n' ρ' => n' = 0 ∧ ρ' = startD ["one", "other", "at"] [x, y] ∧ (isT x && isT y) = false) ?_ ?_
    · refine ws_if (ww_wb (ww_and (wb_val (we_isi T.b_isinstance T.b_tuple boot_tuple (we_name 0 rfl ⟨t, _, a1, a2, _, rfl, fun h1 => ?_, fun h1 => ?_⟩)))))
      · refine ww_and1 (wb_val (we_isi T.b_isinstance T.b_tuple boot_tuple (we_name 1 rfl ⟨u, _, b1, b2, _, rfl, fun h2 => ?_, fun h2 => ?_⟩)))
        · obtain ⟨xs, m, rfl, rfl, lx, gx⟩ := fx_tup hx h1
          obtain ⟨ys, m', em, rfl, ly, gy⟩ := fx_tup hy h2
          cases em
          rw [like_tt] at hk
          refine ws_one (ws_ret (we_and ?_))
          refine we_cmp op_eq ?_
          refine we_callB call_len_seq T.b_len PySem.boot_len (wa_cons (we_name 0 rfl (wa_nil (cd_len ?_ (.inr rfl)))))
          refine we_callB call_len_seq T.b_len PySem.boot_len (wa_cons (we_name 1 rfl (wa_nil (cd_len ?_ (.inr rfl)))))
          refine od_eqI ⟨_, rfl, fun h3 => ?_, fun h3 => ?_⟩
          · have hlen : xs.length = ys.length := by have := of_decide_eq_true h3; omega
            rw [decide_eq_true hlen, Bool.true_and, likeDs_all] at hk
            have hL : (List.zipWith likeD xs ys).length = xs.length := by rw [List.length_zipWith, hlen, Nat.min_self]
            obtain ⟨L, eL⟩ : ∃ L, L = List.zipWith likeD xs ys := ⟨_, rfl⟩
            rw [← eL] at hk hL
            refine we_one (we_cmp (op_eqP hu) (WF.we ?_))
            refine wf_lc [("at", 2)] (fun i n acc => n = 0 ∧ acc = flt L i) rfl nd ?_
            refine wi_range1 T.b_range (wa_cons (we_callB call_len_seq T.b_len PySem.boot_len (wa_cons (we_name 0 rfl (wa_nil (cd_len (wa_nil ⟨_, rfl, by omega, by omega, ⟨rfl, rfl⟩, ?_, ?_⟩) (.inr rfl)))))))
            · rintro i d n acc hd ⟨rfl, rfl⟩ A' hA' s1 H1 C1 cl1 fp1
              have hi : i < xs.length := by
                have := (List.getElem?_eq_some_iff.mp hd).1
                rw [List.length_map, List.length_range] at this
                omega
              have ed : d = .int (i : Int) := by
                rw [List.getElem?_map, List.getElem?_range (by omega)] at hd
                exact (Option.some.inj hd).symm
              subst ed
              have g1 : xs[i]? = some xs[i] := List.getElem?_eq_getElem hi
              have hi' : i < ys.length := by omega
              have g2 : ys[i]? = some ys[i] := List.getElem?_eq_getElem hi'
              have gL : L.getD i true = likeD xs[i] ys[i] := by
                rw [eL, List.getD, List.getElem?_zipWith, g1, g2]; rfl
              refine wg_name 2 nd ?_
              intro s1 H1 C1 cl1 fp1
              refine wts_one (wb_not (wb_val ?_))
              refine we_callR (ih m (Nat.lt_succ_self m)) (hr.mono (Nat.le_refl _)) T.m_like T.F_like.kp (b_like T) .nil (fun _ _ => .nil) ?_
              refine wa_cons (we_ix ix_seq (we_name 0 rfl (we_name 2 rfl (od_xT ?_ (atI_nat g1)))))
              refine wa_cons (we_ix ix_seq (we_name 1 rfl (we_name 2 rfl (od_xT ?_ (atI_nat g2)))))
              refine wa_nil ⟨_, _, rfl, gx _ (List.mem_of_getElem? g1), gy _ (List.mem_of_getElem? g2), _, rfl, fun hb => ?_, fun hb => ?_⟩
              · intro s1 H1 C1 cl1 fp1
                refine we_name 2 rfl ⟨?_, rfl, ?_⟩
                · have := (flt_plain L i).2.2
                  omega
                · rw [flt_succ, gL]
                  have hb' : likeD xs[i] ys[i] = false := by simpa using hb
                  rw [hb']; rfl
              · refine ⟨rfl, ?_⟩
                rw [flt_succ, gL]
                have hb' : likeD xs[i] ys[i] = true := by simpa using hb
                rw [hb', if_pos rfl, List.append_nil]
            · rintro n acc ⟨rfl, rfl⟩
              rw [List.length_map, List.length_range, show ((xs.length : Nat) : Int).toNat = L.length by rw [hL]; rfl]
              refine we_lst (wa_nil ⟨Nat.zero_le _, ?_⟩)
              obtain ⟨p1, p2, _⟩ := flt_plain L L.length
              refine od_eqP ?_ p1 rfl (Nat.le_trans (Nat.min_le_left _ _) (Nat.le_trans p2 (by decide)))
              rw [eq_nil, flt_end]
              exact hk
          · have hlen : ¬ xs.length = ys.length := by have := of_decide_eq_false h3; omega
            rw [decide_eq_false hlen, Bool.false_and] at hk
            exact hk
        · exact ws_nil ⟨rfl, rfl, by rw [h2, Bool.and_false]⟩
      · exact ⟨fun z => (nomatch z), fun _ => ws_nil ⟨rfl, rfl, by rw [h1, Bool.false_and]⟩⟩
    · rintro _ _ ⟨rfl, rfl, ht⟩
      rw [like_x ht] at hk
      refine ws_one (ws_ret (we_and ?_))
      refine we_cmp op_eq (we_isi T.b_isinstance T.b_bool boot_bool (we_name 0 rfl ⟨t, _, a1, a3, ?_⟩))
      refine we_isi T.b_isinstance T.b_bool boot_bool (we_name 1 rfl ⟨u, _, b1, b3, ?_⟩)
      refine od_eqB ⟨_, rfl, fun h => ?_, fun h => ?_⟩
      · rw [h, Bool.true_and] at hk
        exact we_one (we_cmp (op_eqL hu) (we_name 0 rfl (we_name 1 rfl (od_leaf hk hx hy ht))))
      · rw [h, Bool.false_and] at hk
        exact hk
end
end K1

namespace K1
open PySem PySem.Spec PyProof.Rows L2 RD
/-! ### Paper -/
/-- __init__ by values: n the levels of what is told -/
def spI (K : PySem.W.Frag) (n : Nat) : Sp := fun vs H Q _ => ∃ (x C dx p : Addr) (wv : V) (rest : List V) (ds : List D) (W : List Addr), vs = [.ref x, wv, .ref p] ∧ Cls K C ∧ NoAttr K C "word" ∧ NoAttr K C "parts" ∧ H x = some (.ins C dx []) ∧ H p = some (.tup rest) ∧ p ∉ x :: W ∧
  (∀ a ∈ x :: W, H a ≠ none) ∧ (x :: W).Nodup ∧ RepAll K (· ∈ x :: W) H rest ds ∧ Gd n (.tup ds) ∧
  ∀ v H', (∀ a o, a ≠ x → H a = some o → H' a = some o) → Rep K (· ∈ x :: W) H' v (fixD (.tup ds)) → H' x = some (.ins C dx [("word", wv), ("parts", v)]) → Q .non H'
theorem putF2 (wv v : V) : putF "parts" v [(("word" : Str), wv)] = [(("word" : Str), wv), (("parts" : Str), v)] := by
  unfold putF
  rw [if_neg (by decide)]
  rfl
section
variable {P : Program} {w : World} {K : PySem.W.Frag} {mg : Str → Option Value} {base : Heap}
theorem ok_init (T : Tp K mg) (n : Nat) : FnR P w K mg base CX0 (n + 2) T.f_init (fun vs H Q E => ∃ ws rest, vs = ws ++ rest ∧ ws.length = ([("self" : Str), "word"]).length ∧ rest.length ≤ sizeLine ∧ ∀ p, H p = none → spI K n (ws ++ [V.ref p]) (upd H p (.tup rest)) Q E) := by
  obtain ⟨oc, od, dV, kV, doc, pm, an, cdv, ct, osl, e, lk, hcd, hD, hK⟩ := T.F_init.ex
  rcases hD with ⟨_, rfl⟩ | ⟨h, _⟩
  · rw [e] at lk
    refine StX.fn_star (sp := spI K n) (ps := ["self", "word"]) (pv := "parts") lk hcd sc_init StX.cxUp_none (StX.bind_star2 (B := fun us => bindArgs (PySem.W.fnOf "__init__" "Paper.__init__" (defArgs s_init) (defBody s_init) (defScope s_init) .none kV doc pm an cdv ct) ⟨us, []⟩) (fun _ _ => rfl) (fun _ _ _ _ => rfl)) fun A outer s H vs Q E hr h => ?_
    obtain ⟨x, C, dx, p, wv, rest, ds, W, rfl, cl, nw, np, hx, hp, hpW, htr, hnd, ra, hg, q⟩ := h
    refine ⟨_, PSs.nox (pss_cons (ps_fld (pv 0) (pv 1) (by rfl)) (pss_one (ps_fld (pv 0) (pe_call (ok_fixed T n) (hr.mono (Nat.le_refl _)) (by rfl) T.m_fixed T.F_fixed.kp (b_fixed T) .nil pass0 (pa_cons (pv 2) pa_nil)) (by rfl)))), ?_⟩
    refine ⟨wv, rfl, .ref x, rfl, x, C, dx, [], rfl, hx, cl, nw, by decide, ?_⟩
    have hpx : p ≠ x := fun z => hpW (z ▸ List.mem_cons_self ..)
    have e1 : putF "word" wv [] = [(("word" : Str), wv)] := rfl
    rw [e1]
    have keep1 : ∀ a o, a ≠ x → H a = some o → upd H x (.ins C dx [(("word" : Str), wv)]) a = some o := fun a o h e => by rw [upd_ne h]; exact e
    refine ⟨.ref p, rfl, x :: W, [.tup ds], fun d => d = fixD (.tup ds), fun a ha => ?_, hnd, .cons (.tup (.inl ⟨hpW, .inl (keep1 _ _ hpx hp)⟩) (RepAll.mono (fun a o m e => ⟨keep1 a o (fun z => m (z ▸ List.mem_cons_self ..)) e, m⟩) _ ra)) .nil, ⟨_, rfl, hg, rfl⟩, ?_⟩
    · by_cases z : a = x
      · rw [z, upd_same]; simp
      · rw [upd_ne z]; exact htr a ha
    · rintro d v H' rfl st rv
      refine ⟨.ref x, rfl, x, C, dx, _, rfl, st _ _ upd_same, cl, np, by simp, ?_⟩
      rw [putF2]
      refine q v _ (fun a o h e => ?_) (Rep.mono (fun a o m e => ⟨?_, m⟩) _ rv) upd_same
      · rw [upd_ne h]; exact st a o (keep1 a o h e)
      · rw [upd_ne (show a ≠ x from fun z => m (by rw [z]; exact List.mem_cons_self ..))]; exact e
  · exact absurd rfl h
/-- what an instance is -/
def pap (C : Addr) (wd pt : D) : D := .obj C [("word", wd), ("parts", pt)]
end
section
variable {X : Cx} {A : Amb} {ρ : En} {m : Nat} {e : Expr} {es : List Expr} {x : Str} {p pos : Pos} {k : Nat → En → D → Prop} {C fb : Addr} {nm : Str}
/-- Paper(word, part, ..) -/
theorem we_new (T : Tp X.K X.mg) (CT : ClsT X.K C nm T.f_init T.f_peq fb) (hm : X.mg x = some (.ref C)) (n : Nat) (hr : Room (n + 3) X.A) (h : WA X A (e :: es) ρ m fun m ρ ds => ∃ dw ps, ds = dw :: ps ∧ ps.length ≤ 3 ∧ Gd n (.tup ps) ∧ k m ρ (pap C dw (fixD (.tup ps))))
    (hg : Gl X x := by rfl) (hdb : (x == ("__debug__" : Str)) = false := by decide) (he : starEach (e :: es) X.env = (false, eval e X.env) :: starEach es X.env := by rfl) (hpl : (backTo pos (starEach es X.env)).any (·.1) = false := by rfl) : WE X A (.Call (.Name x p) (e :: es) [] pos) ρ m k := by
  intro ρ0 H0 σ H hh Q q
  refine canE.of (StX.pe_makeR CT.made (ok_init T n) hr hg hm pass0 acan hdb he hpl) ?_
  refine h ρ0 H0 σ H hh _ fun n1 ρ1 ds vs H1 h1 hh1 k1 r1 => ?_
  obtain ⟨dw, ps, rfl, hl, hgd, h1⟩ := h1
  cases r1 with
  | @cons vw vps _ _ rw1 rps =>
    intro x' dx hx hdx hne
    refine ⟨[.ref x', vw], vps, rfl, rfl, by rw [rps.length]; exact Nat.le_trans hl (sz_le (by decide)), fun pp hp => ?_⟩
    have hpx : pp ≠ x' := fun z => by rw [z, upd_same] at hp; cases hp
    rw [upd_ne hpx] at hp
    have hpd : pp ≠ dx := fun z => by rw [z, upd_same] at hp; cases hp
    rw [upd_ne hpd] at hp
    have keep : ∀ a o, H1 a = some o → upd (upd (upd H1 dx (.own x')) x' (.ins C dx [])) pp (.tup vps) a = some o := fun a o e => by
      rw [upd_ne (ne_of_none e hp), upd_ne (ne_of_none e hx), upd_ne (ne_of_none e hdx)]; exact e
    have tr := hh1.tracked
    have nx : x' ∉ owns ρ1 ++ A.W := fun z => tr x' z hx
    have up : ∀ a o, ¬ Mt A ρ1 a → H1 a = some o → upd (upd (upd H1 dx (.own x')) x' (.ins C dx [])) pp (.tup vps) a = some o ∧ ¬ (a ∈ x' :: (owns ρ1 ++ A.W)) := fun a o mm e => by
      refine ⟨keep a o e, fun z => ?_⟩
      rcases List.mem_cons.mp z with z | z
      · rw [z, hx] at e; cases e
      · exact mm ((mt_mem a).mpr z)
    refine ⟨x', C, dx, pp, vw, vps, ps, owns ρ1 ++ A.W, rfl, CT.ins.cl, CT.nw, CT.np, by rw [upd_ne hpx.symm, upd_same], upd_same, ?_, fun a ha => ?_, List.nodup_cons.mpr ⟨nx, hh1.sat.nd⟩, RepAll.mono up _ rps, hgd, fun v H'' st rv hxv => ?_⟩
    · intro z
      rcases List.mem_cons.mp z with z | z
      · exact hpx z
      · exact tr pp z hp
    · rcases List.mem_cons.mp ha with rfl | ha
      · rw [upd_ne hpx.symm, upd_same]; simp
      · cases ea : H1 a with
        | none => exact absurd ea (tr a ha)
        | some o => rw [keep a o ea]; simp
    · have st1 : ∀ a o, H1 a = some o → H'' a = some o := fun a o e => st a o (ne_of_none e hx) (keep a o e)
      obtain ⟨hh2, k2⟩ := hh1.stay st1
      refine ⟨rfl, q n1 ρ1 _ _ H'' h1 hh2 (k1.trans k2) (.obj (fun z => nx ((mt_mem x').mp z)) hxv (.cons (Rep.mono (fun a o mm e => ⟨st1 a o e, mm⟩) _ rw1) (.cons (Rep.mono (fun a o mm e => ⟨e, fun z => mm (List.mem_cons_of_mem _ ((mt_mem a).mp z))⟩) _ rv) .nil)))⟩
end
section
variable {P : Program} {w : World} {K : PySem.W.Frag} {mg : Str → Option Value} {base : Heap}
/-- the two classes -/
def CN (T : Tp K mg) (C : Addr) (nm : Str) : Prop := (C = T.c_P ∧ nm = "Paper") ∨ (C = T.c_D ∧ nm = "Denial")
theorem CN.txt {T : Tp K mg} {C : Addr} {nm : Str} (h : CN T C nm) : ∃ fb, ClsT K C nm T.f_init T.f_peq fb := by
  rcases h with ⟨rfl, rfl⟩ | ⟨rfl, rfl⟩
  · exact ⟨_, T.C_P⟩
  · exact ⟨_, T.C_D⟩
theorem CN.kit {T : Tp K mg} {C : Addr} {nm : Str} (h : CN T C nm) : PySem.W.kitOne K (.ref C) (.ref T.c_P) = some true := by
  rcases h with ⟨rfl, rfl⟩ | ⟨rfl, rfl⟩
  · exact T.C_P.ins.me
  · exact T.kDP
/-- what == comes to -/
def R_eq (T : Tp K mg) (n : Nat) (ds : List D) (k : D → Prop) : Prop := ∃ C nm wd pt y, CN T C nm ∧ ds = [pap C wd pt, y] ∧ Atm wd ∧ Fx n pt ∧
  ((∃ xs, y = .tup xs ∧ k (.bl false)) ∨ ∃ C' nm' wd' pt', CN T C' nm' ∧ y = pap C' wd' pt' ∧ Atm wd' ∧ Fx n pt' ∧ k (.bl (decide (nm = nm') && likeD (.tup [wd, pt]) (.tup [wd', pt']))))
def R_tru (b : Bool) (ds : List D) (k : D → Prop) : Prop := ∃ d, ds = [d] ∧ k (.bl b)
theorem ok_pbool (T : Tp K mg) : FnOk P w K mg base CX0 1 T.f_pbool T.d_pbool ["self"] (spF K (R_tru true)) := by
  refine fn_pureR T.F_pbool sc_pbool (fun ds k h => ?_) fun cdv A0 outer s H E A ds k hr hp h => ?_
  · obtain ⟨d, rfl, _⟩ := h
    rfl
  · obtain ⟨d, rfl, hk⟩ := h
    exact ws_one (ws_ret (we_bl hk))
theorem ok_dbool (T : Tp K mg) : FnOk P w K mg base CX0 1 T.f_dbool T.d_dbool ["self"] (spF K (R_tru false)) := by
  refine fn_pureR T.F_dbool sc_dbool (fun ds k h => ?_) fun cdv A0 outer s H E A ds k hr hp h => ?_
  · obtain ⟨d, rfl, _⟩ := h
    rfl
  · obtain ⟨d, rfl, hk⟩ := h
    exact ws_one (ws_ret (we_bl hk))
theorem fx_two {n : Nat} {x y : D} (hx : Fx n x) (hy : Fx n y) : Fx (n + 1) (.tup [x, y]) := .inr ⟨[x, y], rfl, by simp, fun z hz => by
  rcases List.mem_cons.mp hz with rfl | hz
  · exact hx
  · rw [List.mem_singleton.mp hz]; exact hy⟩
theorem ok_peq (T : Tp K mg) (n : Nat) : FnOk P w K mg base CX0 (n + 3) T.f_peq T.d_peq ["self", "other"] (spF K (R_eq T n)) := by
  refine fn_pureR T.F_peq sc_peq (fun ds k h => ?_) fun cdv A0 outer s H E A ds k hr hp h => ?_
  · obtain ⟨C, nm, wd, pt, y, _, rfl, _⟩ := h
    rfl
  · obtain ⟨C, nm, wd, pt, y, hC, rfl, hw, hpt, h⟩ := h
    obtain ⟨fb, ct⟩ := hC.txt
    rcases h with ⟨xs, rfl, hk⟩ | ⟨C', nm', wd', pt', hC', rfl, hw', hpt', hk⟩
    · refine ws_cons (ws_if (ww_wb (ww_or (wb_not (wb_val (we_isC T.b_isinstance T.m_P (we_name 1 rfl ⟨false, .inl ⟨"tuple", rfl, T.kTP⟩, false, rfl, ?_⟩))))))) 
      exact ⟨fun z => (nomatch z), fun _ => ⟨fun _ => ws_one (ws_ret (we_bl hk)), fun z => nomatch z⟩⟩
    · obtain ⟨fb', ct'⟩ := hC'.txt
      refine ws_cons (ws_if (ww_wb (ww_or (wb_not (wb_val (we_isC T.b_isinstance T.m_P (we_name 1 rfl ⟨true, .inr ⟨C', _, rfl, ct'.ins, hC'.kit⟩, true, rfl, ?_⟩)))))))
      refine ⟨fun _ => ?_, fun z => nomatch z⟩
      refine ww_or1 (wb_cmp op_ne (we_clsName (we_name 0 rfl ⟨C, _, nm, rfl, ct.ins, ct.rn, ?_⟩)))
      refine we_clsName (we_name 1 rfl ⟨C', _, nm', rfl, ct'.ins, ct'.rn, ?_⟩)
      refine od_neS ⟨_, rfl, fun hc => ?_, fun hc => ?_⟩
      · have hne : decide (nm = nm') = false := by simpa using hc
        rw [hne, Bool.false_and] at hk
        exact ws_one (ws_ret (we_bl hk))
      · have heq : decide (nm = nm') = true := by simpa using hc
        rw [heq, Bool.true_and] at hk
        refine ws_nil (ws_one (ws_ret ?_))
        refine we_callR (ok_alike T (n + 1)) (hr.mono (Nat.le_refl _)) T.m_alike T.F_alike.kp (b_alike T) .nil (fun _ _ => .nil) ?_
        refine wa_cons (we_tup (wa_cons (we_fld (we_name 0 rfl ⟨C, _, wd, rfl, ct.ins.cl, ct.nw, rfl, ?_⟩))))
        refine wa_cons (we_fld (we_name 0 rfl ⟨C, _, pt, rfl, ct.ins.cl, ct.np, rfl, wa_nil ⟨Nat.le_of_ble_eq_true rfl, ?_⟩⟩))
        refine wa_cons (we_tup (wa_cons (we_fld (we_name 1 rfl ⟨C', _, wd', rfl, ct'.ins.cl, ct'.nw, rfl, ?_⟩))))
        refine wa_cons (we_fld (we_name 1 rfl ⟨C', _, pt', rfl, ct'.ins.cl, ct'.np, rfl, wa_nil ⟨Nat.le_of_ble_eq_true rfl, ?_⟩⟩))
        exact wa_nil ⟨_, _, rfl, fx_two (.atm hw) hpt, fx_two (.atm hw') hpt', hk⟩
end
end K1

namespace K1
open PySem PySem.Spec PyProof.Rows L2 RD
/-! ### drawing -/
def R_pick (p : Addr) (n : Nat) (ds : List D) (k : Nat → D → Prop) : Prop := ∃ (xs : List D) (n0 : Nat), n = n0 + 1 ∧ ds = [.raw (.ref p), .lst xs] ∧ xs ≠ [] ∧ xs.length ≤ 1000 ∧ ∀ d ∈ xs, k n0 d
def cost : Nat → Nat
  | 0 => 2
  | n + 1 => 2 + 3 * cost n
def R_value (d : Nat) (p : Addr) (n : Nat) (ds : List D) (k : Nat → D → Prop) : Prop := ∃ n0 : Nat, n = n0 + cost d ∧ ds = [.raw (.ref p), .int (d : Int)] ∧ ∀ v n', n0 ≤ n' → Gd d v → k n' v
theorem many_lt {l : Nat} (h : l ≤ 1000) : ((l : Nat) : Int) < 2 ^ 9000 := by
  have z : (2 : Int) ^ 10 ≤ 2 ^ 9000 := by
    have : ((2 ^ 10 : Nat) : Int) ≤ ((2 ^ 9000 : Nat) : Int) := Int.ofNat_le.mpr (Nat.pow_le_pow_right (by decide) (by decide))
    rwa [Int.natCast_pow, Int.natCast_pow] at this
  have : ((l : Nat) : Int) < 2 ^ 10 := by
    have : (2 : Int) ^ 10 = 1024 := rfl
    omega
  exact Int.lt_of_lt_of_le this z
theorem cost_pos : ∀ d, 2 ≤ cost d
  | 0 => Nat.le_refl _
  | n + 1 => by show 2 ≤ 2 + 3 * cost n; omega
theorem ten30 : (10 : Int) ^ (30 : Int).toNat = 1000000000000000000000000000000 := by decide +kernel
theorem ten30n : (10 : Nat) ^ 30 = 1000000000000000000000000000000 := by decide +kernel
section
variable {P : Program} {w : World} {K : PySem.W.Frag} {mg : Str → Option Value} {base : Heap}
theorem ok_pick (T : Tp K mg) : Fn P w K mg base CX0 2 T.f_pick T.d_pick ["pen", "some"] (spP K R_pick) := by
  refine fn_pen T.F_pick sc_pick (fun p n ds k h => ?_) fun cdv A0 outer s H E A p c n ds k rm hpn h => ?_
  · obtain ⟨xs, n0, _, rfl, _⟩ := h
    rfl
  · obtain ⟨xs, n0, rfl, rfl, h1, h2, hk⟩ := h
    refine ws_one (ws_ret (we_ix ix_seq (we_name 1 rfl (we_pen (Fn.of_ok (ok_draw T.F_draw T.b_int T.b_len T.b_abs)) (rm.mono (by decide)) T.m_draw T.F_draw.kp (b_draw T) .nil (fun _ _ => .nil) hpn ?_))))
    refine wa_cons (we_name 0 rfl (wa_cons (we_callB call_len_seq T.b_len PySem.boot_len (wa_cons (we_name 1 rfl (wa_nil (cd_len (wa_nil ?_) (.inl rfl))))))))
    refine ⟨_, n0, rfl, rfl, many_lt h2, fun v v0 v1 => ?_⟩
    have hl : 0 < xs.length := List.length_pos_iff.mpr h1
    have hv : v.toNat < xs.length := by omega
    have e : v = ((v.toNat : Nat) : Int) := by omega
    rw [e]
    exact od_xL (hk xs[v.toNat] (List.getElem_mem hv)) (atI_nat (List.getElem?_eq_getElem hv))
/-! the pen -/
theorem ok_pen (T : Tp K mg) : FnOk P w K mg base CX0 1 T.f_pen T.d_pen ["script"] (spPen K) := by
  refine T.F_pen.ok sc_pen (fun vs H Q E h => ?_) fun cdv A outer s H vs Q E hr h => ?_
  · obtain ⟨a, ns, rfl, _⟩ := h
    rfl
  · obtain ⟨a, ns, rfl, hS, hl, hb, q⟩ := h
    refine ⟨_, PSs.nox (pss_one (ps_ret (pe_lst (pa_cons (pe_callTy call_list_of (by rfl) T.b_list boot_list (pa_cons (pe_slice sl_list (pv 0) po_none (po_some pe_int)) pa_nil)) (pa_cons pe_int (pa_cons pe_int pa_nil)))))), ?_⟩
    refine ⟨.ref a, rfl, 63, rfl, a, ns.map V.int, rfl, hS, fun d hd => ?_⟩
    rw [cut_all (by rw [List.length_map]; exact hl)]
    refine ⟨d, ns.map V.int, rfl, .inl (.of upd_same), fun c hc => ?_⟩
    refine ⟨by rw [sizeLine_eq]; exact Nat.le_of_ble_eq_true rfl, fun p hp => ?_⟩
    have hd' : ∀ b o, H b = some o → upd H d (.lst (ns.map V.int)) b = some o := fun b o e => by rw [upd_ne (ne_of_none e hd)]; exact e
    obtain ⟨z1, z2, z3, z4⟩ := pen_made hc hp hl hb
    refine q p c _ (fun b o e => z1 b o (hd' b o e)) ?_ ?_ z3 z4
    · cases e : H p with
      | none => rfl
      | some o => rw [hd' _ _ e] at z2; cases z2
    · cases e : H c with
      | none => rfl
      | some o => rw [hd' _ _ e] at hc; cases hc
theorem ok_value (T : Tp K mg) (d : Nat) : Fn P w K mg base CX0 (d + 3) T.f_value T.d_value ["pen", "deep"] (spP K (R_value d)) := by
  induction d using Nat.strongRecOn with
  | _ d ih =>
  refine fn_pen T.F_value sc_value (fun p n ds k h => ?_) fun cdv A0 outer s H E A p c n ds k rm hpn h => ?_
  · obtain ⟨n0, _, rfl, _⟩ := h
    rfl
  · obtain ⟨n0, rfl, rfl, hk⟩ := h
    have nd := sc_value.nd
    have c2 := cost_pos d
    have dr := Fn.of_ok (P := P) (w := w) (base := base) (ok_draw T.F_draw T.b_int T.b_len T.b_abs)
    refine ws_cons (ws_set 2 nd (WE.mono (k := fun n' ρ' v => n' = n0 + cost d - 1 ∧ ρ' = startD ["pen", "deep", "way", "some", "turn"] [.raw (.ref p), .int (d : Int)] ∧ ∃ wv : Int, v = .int wv ∧ (d = 0 → wv < 5)) ?_ ?_))
    · refine we_if (wb_cmp op_gt (we_name 1 rfl (we_int (od_gt ⟨_, rfl, fun hc => ?_, fun hc => ?_⟩))))
      · refine we_pen dr (rm.mono (by omega)) T.m_draw T.F_draw.kp (b_draw T) .nil (fun _ _ => .nil) hpn (wa_cons (we_name 0 rfl (wa_cons (we_int (wa_nil ⟨8, n0 + cost d - 1, by omega, rfl, many_lt (l := 8) (by decide), fun v v0 v1 => ⟨rfl, rfl, v, rfl, fun h0 => ?_⟩⟩)))))
        have := of_decide_eq_true hc
        omega
      · exact we_pen dr (rm.mono (by omega)) T.m_draw T.F_draw.kp (b_draw T) .nil (fun _ _ => .nil) hpn (wa_cons (we_name 0 rfl (wa_cons (we_int (wa_nil ⟨5, n0 + cost d - 1, by omega, rfl, many_lt (l := 5) (by decide), fun v v0 v1 => ⟨rfl, rfl, v, rfl, fun _ => by omega⟩⟩)))))
    · rintro _ _ _ ⟨rfl, rfl, wv, rfl, hw⟩
      refine ws_cons (ws_if (wb_cmp op_lt (we_name 2 rfl (we_int (od_lt ⟨_, rfl, fun hc => ?_, fun hc => ?_⟩)))))
      · refine ws_one (ws_ret ?_)
        refine we_pen (ok_pick T) (rm.mono (by omega)) T.m_pick T.F_pick.kp (b_pick T) .nil (fun _ _ => .nil) hpn ?_
        refine wa_cons (we_name 0 rfl (wa_cons (we_lst ?_)))
        refine wa_cons (we_int (wa_cons (we_int (wa_cons (we_bl (wa_cons (we_bl (wa_cons (we_non (wa_cons (we_str (wa_cons (we_str (wa_cons ?_)))))))))))))) 
        refine we_op op_pow (we_int (we_int (od_powI ?_ (by unfold CPow; decide))))
        rw [ten30]
        refine wa_cons (we_dict1 (wa_cons (we_int (wa_cons (we_bl (wa_nil ⟨Nat.le_of_ble_eq_true rfl, wa_nil ?_⟩))))))
        refine ⟨_, n0 + cost d - 2, by omega, rfl, by simp, Nat.le_of_ble_eq_true rfl, fun v hv => hk _ _ (by omega) (Gd.atm ?_)⟩
        have z30 : (1000000000000000000000000000000 : Int).natAbs ≤ 10 ^ 30 := by rw [ten30n]; decide
        simp only [List.mem_cons, List.mem_singleton, List.not_mem_nil, or_false] at hv
        rcases hv with rfl | rfl | rfl | rfl | rfl | rfl | rfl | rfl | rfl | rfl | rfl
        · exact .int _ (Nat.zero_le _)
        · exact .int _ (by rw [ten30n]; decide)
        · exact .bl _
        · exact .bl _
        · exact .non
        · exact .str _ (by decide +kernel) (by decide +kernel)
        · exact .str _ (by decide +kernel) (by decide +kernel)
        · exact .int _ z30
        · exact .dct
        · exact .int _ (by rw [ten30n]; decide)
        · exact .bl _
      · have hd0 : d ≠ 0 := fun z => by
          have h1 := hw z
          have h2 := of_decide_eq_false hc
          omega
        obtain ⟨m, rfl⟩ : ∃ m, d = m + 1 := ⟨d - 1, by omega⟩
        have ec : cost (m + 1) = 2 + 3 * cost m := rfl
        refine ws_nil (ws_cons ?_)
        refine ws_setLc 3 [("turn", 4)] (fun i n acc => acc.length = i ∧ i ≤ 3 ∧ n0 + (3 - i) * cost m ≤ n ∧ ∀ x ∈ acc, Gd m x) rfl nd ?_
        refine wi_range1 T.b_range (wa_cons ?_)
        refine we_pen dr (rm.mono (by omega)) T.m_draw T.F_draw.kp (b_draw T) .nil (fun _ _ => .nil) hpn (wa_cons (we_name 0 rfl (wa_cons (we_int (wa_nil ⟨4, n0 + 3 * cost m, by omega, rfl, many_lt (l := 4) (by decide), fun cv c0 c1 => ?_⟩)))))
        refine wa_nil ⟨cv, rfl, by omega, by omega, ⟨rfl, by omega, by omega, fun x hx => nomatch hx⟩, ?_, ?_⟩
        · rintro i dd n acc hdd ⟨hl, hi, hn, hx⟩ A' hA' s1 H1 C1 cl1 fp1
          have hi2 : i < cv.toNat := by
            have := (List.getElem?_eq_some_iff.mp hdd).1
            rw [List.length_map, List.length_range] at this
            exact this
          refine wg_name 4 nd ?_
          intro s1 H1 C1 cl1 fp1
          refine wts_nil ⟨fun _ => ?_, fun z => nomatch z⟩
          intro s1 H1 C1 cl1 fp1
          have e3 : (3 - i) * cost m = (3 - (i + 1)) * cost m + cost m := by
            rw [show 3 - i = (3 - (i + 1)) + 1 by omega, Nat.succ_mul]
          refine we_pen (ih m (Nat.lt_succ_self m)) (rm.mono (by omega)) T.m_value T.F_value.kp (b_value T) .nil (fun _ _ => .nil) (hA'.trans hpn) ?_
          refine wa_cons (we_name 0 rfl (wa_cons (we_op op_sub (we_name 1 rfl (we_int (od_sub ?_))))))
          rw [show ((m + 1 : Nat) : Int) - 1 = (m : Int) by omega]
          refine wa_nil ⟨n - cost m, by omega, rfl, fun v n' hn' hv => ⟨by omega, by rw [List.length_append, hl]; rfl, by omega, by omega, fun x hx' => ?_⟩⟩
          rcases List.mem_append.mp hx' with z | z
          · exact hx x z
          · rw [List.mem_singleton.mp z]; exact hv
        · rintro n acc ⟨hl, hi, hn, hx⟩
          refine ws_one (ws_ret (we_if (wb_cmp op_lt (we_name 2 rfl (we_int (od_lt ⟨_, rfl, fun h7 => ?_, fun h7 => ?_⟩))))))
          · exact we_name 3 rfl (hk _ _ (by omega) (.inr ⟨acc, .inl rfl, by omega, hx⟩))
          · exact we_callTy call_tuple_of T.b_tuple boot_tuple (wa_cons (we_name 3 rfl (wa_nil (cd_tupL (hk _ _ (by omega) (.inr ⟨acc, .inr rfl, by omega, hx⟩))))))
end
end K1

namespace K1
open PySem PySem.Spec PyProof.Rows L2 RD
/-! ### what may be shown -/
theorem Atm.shk {d : D} (h : Atm d) : Shk 2 500 d := by
  cases h with
  | non => exact (Sh.non (e := 2) (w := 500)).k
  | bl b => exact (Sh.bl (e := 2) (w := 500) b).k
  | int i h => exact (Sh.int (e := 2) (w := 500) (Nat.lt_of_le_of_lt h (by decide +kernel)) (by decide)).k
  | str x h h2 =>
    refine ⟨rfl, rfl, Nat.zero_le _, ?_, ?_⟩
    · show x.cps.size ≤ 500
      have : x.cps.size ≤ 10 := h2
      omega
    · show (x.cps.toList.all fun c => decide (c < 16 ^ 8)) = true
      exact List.all_eq_true.mpr fun c hc => decide_eq_true (h c hc)
  | dct => exact ⟨by decide +kernel, by decide +kernel, by decide +kernel, by decide +kernel, by decide +kernel⟩
def wt : Nat → Nat
  | 0 => 500
  | n + 1 => 3 * (wt n + 1)
theorem wt_le : ∀ n, 500 ≤ wt n
  | 0 => Nat.le_refl _
  | n + 1 => by have := wt_le n; show 500 ≤ 3 * (wt n + 1); omega
theorem Fx.shk : ∀ {n : Nat} {d : D}, Fx n d → Shk (n + 2) (wt n) d
  | 0, d, h => Atm.shk h
  | n + 1, d, h => by
    rcases h with h | ⟨xs, rfl, hl, h⟩
    · exact (Atm.shk h).mono (by omega) (wt_le _)
    · exact Shk.tup (e := n + 2) (w := wt n) (m := 3) (fun x hx => Fx.shk (h x hx)) hl (by omega) (Nat.le_refl _)
theorem Shk.two {e w1 w2 e' w' : Nat} {x y : D} (hx : Shk e w1 x) (hy : Shk e w2 y) (he : e + 1 ≤ e') (hw : w1 + w2 + 2 ≤ w') : Shk e' w' (.tup [x, y]) := by
  refine ⟨?_, ?_, ?_, ?_, ?_⟩
  · show (plk x && (plk y && true)) = true
    rw [hx.pl, hy.pl]; rfl
  · show (PyData.showable (py x) && (PyData.showable (py y) && true)) = true
    rw [hx.sb, hy.sb]; rfl
  · have h1 := hx.dp
    have h2 := hy.dp
    simp only [py, pys, PyData.depth, PyData.depthAll]
    omega
  · have h1 := hx.wt
    have h2 := hy.wt
    simp only [py, pys, PyData.weight, PyData.weightAll]
    omega
  · show (PyData.leavesShort 121 (py x) && (PyData.leavesShort 121 (py y) && true)) = true
    rw [hx.ls, hy.ls]; rfl
theorem Shk.one {e w e' w' : Nat} {x : D} (hx : Shk e w x) (he : e + 1 ≤ e') (hw : w + 1 ≤ w') : Shk e' w' (.tup [x]) :=
  Shk.tup (e := e) (w := w) (m := 1) (all_cons hx all_nil) (Nat.le_refl _) he (by omega)
theorem shk_small {i : Int} (h : i.natAbs ≤ 100) (e : Nat) : Shk e 400 (.int i) := (Sh.int (e := e) (w := 400) (Nat.lt_of_le_of_lt h (by decide +kernel)) (Nat.le_refl _)).k
theorem ten30p : (100 : Nat) ≤ 10 ^ 30 := by rw [ten30n]; decide
/-! ### likeness of two papers -/
theorem atm_told : Atm (.str "told") := .str _ (by decide +kernel) (by decide +kernel)
theorem atm_tell : Atm (.str "tell") := .str _ (by decide +kernel) (by decide +kernel)
theorem atm_a : Atm (.str "a") := .str _ (by decide +kernel) (by decide +kernel)
theorem like_pair {wd : D} (hw : Atm wd) (xs ys : List D) : likeD (.tup [wd, .tup xs]) (.tup [wd, .tup ys]) = (decide (xs.length = ys.length) && likeDs xs ys) := by
  rw [like_tt]
  show (decide ((2 : Nat) = 2) && (likeD wd wd && (likeD (.tup xs) (.tup ys) && true))) = _
  rw [like_self (n := 0) hw, like_tt, decide_eq_true rfl]
  simp
theorem like_words {a b p q : D} (h : likeD a b = false) : likeD (.tup [a, p]) (.tup [b, q]) = false := by
  rw [like_tt]
  show (decide ((2 : Nat) = 2) && (likeD a b && (likeD p q && true))) = false
  rw [h]
  simp
theorem tell_told : likeD (.str "told") (.str "tell") = false := by decide +kernel
theorem int_bl : likeD (.int 1) (.bl true) = false := by decide +kernel
theorem gd_two {n : Nat} {x y : D} (hx : Gd n x) (hy : Gd n y) : Gd (n + 1) (.tup [x, y]) ∧ Gd (n + 1) (.lst [x, y]) := by
  have h : ∀ z ∈ [x, y], Gd n z := fun z hz => by
    rcases List.mem_cons.mp hz with rfl | hz
    · exact hx
    · rw [List.mem_singleton.mp hz]; exact hy
  exact ⟨.inr ⟨_, .inr rfl, by simp, h⟩, .inr ⟨_, .inl rfl, by simp, h⟩⟩
theorem gd_one {n : Nat} {x : D} (hx : Gd n x) : Gd (n + 1) (.tup [x]) ∧ Gd (n + 1) (.lst [x]) := by
  have h : ∀ z ∈ [x], Gd n z := fun z hz => by rw [List.mem_singleton.mp hz]; exact hx
  exact ⟨.inr ⟨_, .inr rfl, by simp, h⟩, .inr ⟨_, .inl rfl, by simp, h⟩⟩
theorem gd_int {n : Nat} {i : Int} (h : i.natAbs ≤ 100) : Gd n (.int i) := .atm (.int i (Nat.le_trans h ten30p))
theorem Fx.gd : ∀ {n : Nat} {d : D}, Fx n d → Gd n d
  | 0, d, h => h
  | n + 1, d, h => by
    rcases h with h | ⟨xs, rfl, hl, h⟩
    · exact .inl h
    · exact .inr ⟨xs, .inr rfl, hl, fun x hx => Fx.gd (h x hx)⟩
theorem fix_fix : ∀ {n : Nat} {d : D}, Fx n d → fixD d = d
  | 0, d, h => fix_atm h
  | n + 1, d, h => by
    rcases h with h | ⟨xs, rfl, hl, h⟩
    · exact fix_atm h
    · show D.tup (fixDs xs) = .tup xs
      rw [fixDs_map]
      congr 1
      exact (List.map_congr_left fun x hx => fix_fix (h x hx)).trans (List.map_id _)
theorem we_is {X : Cx} {A : Amb} {e : Expr} {ρ : En} {n : Nat} {k : Nat → En → D → Prop} (g : D) (h : WE X A e ρ n fun n' ρ' d => n' = n ∧ ρ' = ρ ∧ d = g) (h2 : k n ρ g) : WE X A e ρ n k := h.mono fun _ _ _ z => by
  obtain ⟨rfl, rfl, rfl⟩ := z
  exact h2
section
variable {P : Program} {w : World} {K : PySem.W.Frag} {mg : Str → Option Value} {base : Heap}
theorem nf_same (K : PySem.W.Frag) (C : Addr) : PySem.W.notFirst K C (.ref C) = true := by simp [PySem.W.notFirst]
theorem ne_DP (T : Tp K mg) : T.c_D ≠ T.c_P := fun e => by
  have h1 := T.sDP
  have h2 := T.sPD
  rw [e] at h1 h2
  rw [h1] at h2
  cases h2
theorem nf_DP (T : Tp K mg) : PySem.W.notFirst K T.c_D (.ref T.c_P) = true := by
  unfold PySem.W.notFirst
  rw [T.sPD]
  simp
def I_law (v : V) (p : Addr) (i n : Nat) (ρ : En) : Prop := ∃ s2 s3 s4 s5 s6 s7 s8 s9 s10 s11 s12 : Option S, ρ = [some (.dat (.raw v)), some (.dat (.raw (.ref p))), s2, s3, s4, s5, s6, s7, s8, s9, s10, s11, s12] ∧ 1000000 ≤ n + 160 * i
def I_lap (v : V) (p : Addr) (i : Nat) (ρ : En) : Prop := ∃ (s2 s3 s4 s5 s6 s7 s8 s11 s12 : Option S) (d : D), ρ = [some (.dat (.raw v)), some (.dat (.raw (.ref p))), s2, s3, s4, s5, s6, s7, s8, some (.dat d), some (.dat (fixD d)), s11, s12] ∧ Gd (i + 1) d ∧ Shk (i + 3) (402 * (i + 1)) (fixD d)
theorem ok_law (T : Tp K mg) (i1 : PySem.W.isFn K (.ref T.f_peq) = true) (i2 : PySem.W.isFn K (.ref T.f_pbool) = true) (i3 : PySem.W.isFn K (.ref T.f_dbool) = true) : Fn P w K mg base CX0 31 T.f_law T.d_law ["script"] (spLaw K) := by
  refine Fn.by_body T.F_law sc_law (fun vs H Q E h => ?_) fun cdv A0 outer s H vs Q E rm h => ?_
  · obtain ⟨a, ns, rfl, _⟩ := h
    rfl
  · obtain ⟨a, ns, rfl, hS, hlen, hbits, q⟩ := h
    refine canSs.of (X := cxOf CX0 P w K mg base _ "law" _ T.f_law cdv A0 outer s H E) (PSs.nox (pss_cons (ps_set (i := 1) sc_law.nd rfl (.inl rfl) (pg_call (Fn.of_ok (ok_pen T)) (rm.mono (by decide)) (by rfl) T.m_pen T.F_pen.kp (b_pen T) .nil pass0 (pa_cons (pv 0) pa_nil))) sscan)) ?_
    refine law_startL (X := (cxOf CX0 P w K mg base ["script", "pen", "turn", "one", "other", "mine", "its", "paper", "denial", "deep", "due", "lap", "some"] "law" (defScope s_law) T.f_law cdv A0 outer s H E).nox) (D := { nx := fun _ H' => Q .non H', rt := Q }) (m := 11) rfl hS hlen hbits (fun A p c v hpn => ?_) q
    have nd := sc_law.nd
    have hu := rm.r.units
    have dr := Fn.of_ok (P := P) (w := w) (base := base) (ok_draw T.F_draw T.b_int T.b_len T.b_abs)
    have eqO := op_eqOwn (X := (cxOf CX0 P w K mg base ["script", "pen", "turn", "one", "other", "mine", "its", "paper", "denial", "deep", "due", "lap", "some"] "law" (defScope s_law) T.f_law cdv A0 outer s H E).nox) (ok_peq T 4) (rm.r.mono (by decide)) (b_peq T) i1
    have neO := op_neOwn (X := (cxOf CX0 P w K mg base ["script", "pen", "turn", "one", "other", "mine", "its", "paper", "denial", "deep", "due", "lap", "some"] "law" (defScope s_law) T.f_law cdv A0 outer s H E).nox) (ok_peq T 4) (rm.r.mono (by decide)) (b_peq T) i1
    refine wsl_cons ?_
    refine ws_for (I_law v p) rfl .never (wi_range1 T.b_range (wa_cons (we_int (wa_nil ⟨10, rfl, by decide, by decide, ?_, ?_, ?_⟩))))
    · exact ⟨none, none, none, none, none, none, none, none, none, none, none, rfl, Nat.le_refl _⟩
    · rintro i d n ρ hd ⟨s2, s3, s4, s5, s6, s7, s8, s9, s10, s11, s12, rfl, hn⟩
      have hi : i < 10 := by
        have := (List.getElem?_eq_some_iff.mp hd).1
        rw [List.length_map, List.length_range] at this
        exact this
      refine wg_name 2 nd ?_
      -- one, other
      refine ws_cons (ws_par 3 4 rfl nd (wa_cons ?_))
      have c3 : cost 3 = 80 := rfl
      refine we_pen (ok_value T 3) (rm.mono (by decide)) T.m_value T.F_value.kp (b_value T) .nil (fun _ _ => .nil) hpn (wa_cons (we_name 1 rfl (wa_cons (we_int (wa_nil ⟨n - 80, by omega, rfl, fun x n1 hn1 hx => ?_⟩)))))
      refine wa_cons ?_
      refine we_pen (ok_value T 3) (rm.mono (by decide)) T.m_value T.F_value.kp (b_value T) .nil (fun _ _ => .nil) hpn (wa_cons (we_name 1 rfl (wa_cons (we_int (wa_nil ⟨n1 - 80, by omega, rfl, fun y n2 hn2 hy => ?_⟩)))))
      refine wa_nil ⟨_, _, rfl, ?_⟩
      have fx := hx.fix
      have fy := hy.fix
      have gxy := (gd_two hx hy).1
      have fxy := gxy.fix
      -- mine, its
      refine ws_cons (ws_par 5 6 rfl nd ?_)
      refine wa_cons (we_callR (ok_tupled T 3) (rm.r.mono (by decide)) T.m_tupled T.F_tupled.kp (b_tupled T) .nil (fun _ _ => .nil) (wa_cons (we_name 3 rfl (wa_nil ⟨_, rfl, hx, ?_⟩))))
      refine wa_cons (we_callR (ok_tupled T 3) (rm.r.mono (by decide)) T.m_tupled T.F_tupled.kp (b_tupled T) .nil (fun _ _ => .nil) (wa_cons (we_name 4 rfl (wa_nil ⟨_, rfl, hy, ?_⟩))))
      refine wa_nil ⟨_, _, rfl, ?_⟩
      -- paper, denial
      refine ws_cons (ws_par 7 8 rfl nd ?_)
      refine wa_cons (we_new T T.C_P T.m_P 4 (rm.r.mono (by decide)) (wa_cons (we_str (wa_cons (we_name 3 rfl (wa_cons (we_name 4 rfl (wa_nil ⟨_, [x, y], rfl, by simp, gxy, ?_⟩))))))))
      refine wa_cons (we_new T T.C_D T.m_D 4 (rm.r.mono (by decide)) (wa_cons (we_str (wa_cons (we_name 3 rfl (wa_cons (we_name 4 rfl (wa_nil ⟨_, [x, y], rfl, by simp, gxy, ?_⟩))))))))
      refine wa_nil ⟨_, _, rfl, ?_⟩
      have shp2 : Shk 7 60000 (fixD (.tup [x, y])) := Shk.two (e := 5) (w1 := wt 3) (w2 := wt 3) fx.shk fy.shk (by decide) (by decide)
      -- the first test
      refine ws_cons (ws_if (ww_wb (ww_or ?_)))
      refine wb_cmp (op_neP hu) ?_
      refine we_tup (wa_cons (we_fld (we_name 7 rfl ⟨_, _, _, rfl, T.C_P.ins.cl, T.C_P.nw, rfl, ?_⟩)))
      refine wa_cons (we_callB (call_reprP (rm.mono (Nat.zero_le _))) T.b_repr boot_repr (wa_cons (we_fld (we_name 7 rfl ⟨_, _, _, rfl, T.C_P.ins.cl, T.C_P.np, rfl, ?_⟩))))
      refine wa_nil (cd_reprP ?_ shp2 (by simp [tyD, fixD]))
      refine wa_nil ⟨Nat.le_of_ble_eq_true rfl, ?_⟩
      refine we_tup (wa_cons (we_str ?_))
      refine wa_cons (we_callB (call_reprP (rm.mono (Nat.zero_le _))) T.b_repr boot_repr (wa_cons (we_tup (wa_cons (we_name 5 rfl (wa_cons (we_name 6 rfl (wa_nil ⟨Nat.le_of_ble_eq_true rfl, ?_⟩))))))))
      refine wa_nil (cd_reprP ?_ shp2 (by simp [tyD, fixD]))
      refine wa_nil ⟨Nat.le_of_ble_eq_true rfl, ?_⟩
      refine od_neP_same ⟨false, rfl, fun _ => ?_, fun hc => nomatch hc⟩ rfl rfl (Nat.le_of_ble_eq_true rfl)
      refine ww_or (wb_not (wb_own (ok_pbool T) (rm.r.mono (by decide)) (b_pbool T) i2 T.C_P.bo (we_name 7 rfl ⟨_, rfl, _, rfl, true, rfl, fun _ => ?_, fun hc => nomatch hc⟩)))
      refine ww_or (wb_own (ok_dbool T) (rm.r.mono (by decide)) (b_dbool T) i3 T.C_D.bo (we_name 8 rfl ⟨_, rfl, _, rfl, false, rfl, fun _ => ?_, fun hc => nomatch hc⟩))
      refine ww_or1 (wb_not (wb_val (we_isC T.b_isinstance T.m_P (we_name 8 rfl ⟨true, .inr ⟨T.c_D, _, rfl, T.C_D.ins, T.kDP⟩, true, rfl, ?_⟩))))
      refine ⟨fun hc => (nomatch hc), fun _ => ws_nil ?_⟩
      -- the second test
      obtain ⟨gx', ex'⟩ := hx.lis
      obtain ⟨gy', ey'⟩ := hy.lis
      have fmi := (gd_two (n := 3) (x := fixD x) (y := fixD y) (Fx.gd fx) (Fx.gd fy)).1
      refine ws_cons (ws_if (ww_wb (ww_or ?_)))
      refine wb_not (wb_cmp eqO (we_name 7 rfl ?_))
      refine we_new T T.C_P T.m_P 4 (rm.r.mono (by decide)) ?_
      refine wa_cons (we_str ?_)
      refine wa_cons (we_callR (ok_listed T 3) (rm.r.mono (by decide)) T.m_listed T.F_listed.kp (b_listed T) .nil (fun _ _ => .nil) (wa_cons (we_name 3 rfl (wa_nil ⟨_, rfl, hx, ?_⟩))))
      refine wa_cons (we_callR (ok_listed T 3) (rm.r.mono (by decide)) T.m_listed T.F_listed.kp (b_listed T) .nil (fun _ _ => .nil) (wa_cons (we_name 4 rfl (wa_nil ⟨_, rfl, hy, ?_⟩))))
      refine wa_nil ⟨_, [lisD x, lisD y], rfl, by simp, (gd_two gx' gy').1, ?_⟩
      have e5 : fixD (.tup [lisD x, lisD y]) = fixD (.tup [x, y]) := by
        show D.tup [fixD (lisD x), fixD (lisD y)] = .tup [fixD x, fixD y]
        rw [ex', ey']
      rw [e5]
      refine od_eqOwn T.C_P.eq (.inl ⟨_, _, rfl, nf_same K T.c_P⟩) ⟨T.c_P, "Paper", _, _, _, .inl ⟨rfl, rfl⟩, rfl, atm_told, fxy, .inr ⟨T.c_P, "Paper", _, _, .inl ⟨rfl, rfl⟩, rfl, atm_told, fxy, ?_⟩⟩
      rw [decide_eq_true rfl, like_self (n := 5) (fx_two (.atm atm_told) fxy)]
      refine ⟨true, rfl, true, rfl, fun _ => ?_, fun hc => nomatch hc⟩
      refine ww_or (wb_cmp eqO (we_name 7 rfl (we_name 8 rfl ?_)))
      refine od_eqOwnR T.C_P.eq T.C_D.eq (ne_DP T) T.sDP ⟨T.c_D, "Denial", _, _, _, .inr ⟨rfl, rfl⟩, rfl, atm_told, fxy, .inr ⟨T.c_P, "Paper", _, _, .inl ⟨rfl, rfl⟩, rfl, atm_told, fxy, ?_⟩⟩
      rw [show decide (("Denial" : Str) = "Paper") = false by decide, Bool.false_and]
      refine ⟨false, rfl, false, rfl, fun _ => ?_, fun hc => nomatch hc⟩
      refine ww_or (wb_cmp eqO (we_name 8 rfl (we_name 7 rfl ?_)))
      refine od_eqOwn T.C_D.eq (.inl ⟨_, _, rfl, nf_DP T⟩) ⟨T.c_D, "Denial", _, _, _, .inr ⟨rfl, rfl⟩, rfl, atm_told, fxy, .inr ⟨T.c_P, "Paper", _, _, .inl ⟨rfl, rfl⟩, rfl, atm_told, fxy, ?_⟩⟩
      rw [show decide (("Denial" : Str) = "Paper") = false by decide, Bool.false_and]
      refine ⟨false, rfl, false, rfl, fun _ => ?_, fun hc => nomatch hc⟩
      refine ww_or1 (wb_cmp neO (we_name 7 rfl ?_))
      refine we_new T T.C_P T.m_P 4 (rm.r.mono (by decide)) (wa_cons (we_str (wa_cons (we_name 5 rfl (wa_cons (we_name 6 rfl (wa_nil ⟨_, [fixD x, fixD y], rfl, by simp, fmi, ?_⟩)))))))
      have e6 : fixD (.tup [fixD x, fixD y]) = fixD (.tup [x, y]) := by
        show D.tup [fixD (fixD x), fixD (fixD y)] = .tup [fixD x, fixD y]
        rw [fix_fix fx, fix_fix fy]
      rw [e6]
      refine od_neOwn T.C_P.ins.hm T.C_P.ne T.C_P.eq ⟨T.c_P, "Paper", _, _, _, .inl ⟨rfl, rfl⟩, rfl, atm_told, fxy, .inr ⟨T.c_P, "Paper", _, _, .inl ⟨rfl, rfl⟩, rfl, atm_told, fxy, ?_⟩⟩
      rw [decide_eq_true rfl, like_self (n := 5) (fx_two (.atm atm_told) fxy)]
      refine ⟨true, rfl, false, rfl, fun hc => (nomatch hc), fun _ => ws_nil ?_⟩
      -- the third test
      have gyx := (gd_two hy hx).1
      have fyx := gyx.fix
      refine ws_cons (ws_if (ww_wb (ww_or ?_)))
      refine wb_cmp op_ne (we_cmp eqO (we_name 7 rfl ?_))
      refine we_new T T.C_P T.m_P 4 (rm.r.mono (by decide)) (wa_cons (we_str (wa_cons (we_name 4 rfl (wa_cons (we_name 3 rfl (wa_nil ⟨_, [y, x], rfl, by simp, gyx, ?_⟩)))))))
      refine od_eqOwn T.C_P.eq (.inl ⟨_, _, rfl, nf_same K T.c_P⟩) ⟨T.c_P, "Paper", _, _, _, .inl ⟨rfl, rfl⟩, rfl, atm_told, fxy, .inr ⟨T.c_P, "Paper", _, _, .inl ⟨rfl, rfl⟩, rfl, atm_told, fyx, ?_⟩⟩
      have e7 : (decide (("Paper" : Str) = "Paper") && likeD (.tup [.str "told", fixD (.tup [x, y])]) (.tup [.str "told", fixD (.tup [y, x])])) = (likeD (fixD x) (fixD y) && likeD (fixD y) (fixD x)) := by
        rw [decide_eq_true rfl, Bool.true_and]
        show likeD (.tup [.str "told", .tup [fixD x, fixD y]]) (.tup [.str "told", .tup [fixD y, fixD x]]) = _
        rw [like_pair atm_told]
        show (decide ((2 : Nat) = 2) && (likeD (fixD x) (fixD y) && (likeD (fixD y) (fixD x) && true))) = _
        rw [decide_eq_true rfl, Bool.true_and, Bool.and_true]
      rw [e7]
      refine ⟨_, rfl, ?_⟩
      refine we_is (.bl (likeD (fixD x) (fixD y) && likeD (fixD y) (fixD x))) ?_ ?_
      · refine we_and (we_callR (ok_like T 3) (rm.r.mono (by decide)) T.m_like T.F_like.kp (b_like T) .nil (fun _ _ => .nil) (wa_cons (we_name 5 rfl (wa_cons (we_name 6 rfl (wa_nil ⟨_, _, rfl, fx, fy, _, rfl, fun hc => ?_, fun hc => ?_⟩))))))
        · refine we_one (we_callR (ok_like T 3) (rm.r.mono (by decide)) T.m_like T.F_like.kp (b_like T) .nil (fun _ _ => .nil) (wa_cons (we_name 6 rfl (wa_cons (we_name 5 rfl (wa_nil ⟨_, _, rfl, fy, fx, rfl, rfl, ?_⟩))))))
          rw [hc, Bool.true_and]
        · exact ⟨rfl, rfl, by rw [hc, Bool.false_and]⟩
      · refine od_neB ⟨false, by simp, fun _ => ?_, fun hc => nomatch hc⟩
        refine ww_or (wb_cmp eqO (we_name 7 rfl ?_))
        refine we_new T T.C_P T.m_P 4 (rm.r.mono (by decide)) (wa_cons (we_str (wa_cons (we_name 3 rfl (wa_cons (we_name 4 rfl (wa_nil ⟨_, [x, y], rfl, by simp, gxy, ?_⟩)))))))
        refine od_eqOwn T.C_P.eq (.inl ⟨_, _, rfl, nf_same K T.c_P⟩) ⟨T.c_P, "Paper", _, _, _, .inl ⟨rfl, rfl⟩, rfl, atm_told, fxy, .inr ⟨T.c_P, "Paper", _, _, .inl ⟨rfl, rfl⟩, rfl, atm_tell, fxy, ?_⟩⟩
        rw [like_words tell_told, Bool.and_false]
        refine ⟨false, rfl, false, rfl, fun _ => ?_, fun hc => nomatch hc⟩
        refine ww_or (wb_cmp eqO (we_name 7 rfl (we_tup (wa_cons (we_name 5 rfl (wa_cons (we_name 6 rfl (wa_nil ⟨Nat.le_of_ble_eq_true rfl, ?_⟩))))))))
        refine od_eqOwn T.C_P.eq (.inr ⟨⟨_, rfl⟩, T.tPP⟩) ⟨T.c_P, "Paper", _, _, _, .inl ⟨rfl, rfl⟩, rfl, atm_told, fxy, .inl ⟨_, rfl, ?_⟩⟩
        refine ⟨false, rfl, false, rfl, fun _ => ?_, fun hc => nomatch hc⟩
        refine ww_or1 (wb_cmp eqO (we_name 7 rfl ?_))
        refine we_new T T.C_P T.m_P 4 (rm.r.mono (by decide)) (wa_cons (we_str (wa_cons (we_name 3 rfl (wa_nil ⟨_, [x], rfl, by simp, (gd_one hx).1, ?_⟩)))))
        refine od_eqOwn T.C_P.eq (.inl ⟨_, _, rfl, nf_same K T.c_P⟩) ⟨T.c_P, "Paper", _, _, _, .inl ⟨rfl, rfl⟩, rfl, atm_told, fxy, .inr ⟨T.c_P, "Paper", _, _, .inl ⟨rfl, rfl⟩, rfl, atm_told, (gd_one hx).1.fix, ?_⟩⟩
        have e8 : likeD (.tup [.str "told", fixD (.tup [x, y])]) (.tup [.str "told", fixD (.tup [x])]) = false := by
          show likeD (.tup [.str "told", .tup [fixD x, fixD y]]) (.tup [.str "told", .tup [fixD x]]) = false
          rw [like_pair atm_told]
          rfl
        rw [e8, Bool.and_false]
        refine ⟨false, rfl, false, rfl, fun hc => (nomatch hc), fun _ => ws_nil (ws_nil ?_)⟩
        exact ⟨_, _, _, _, _, _, _, _, _, _, _, rfl, by omega⟩
    · rintro n ρ ⟨s2, s3, s4, s5, s6, s7, s8, s9, s10, s11, s12, rfl, _⟩
      -- deep, due
      refine wsl_cons (ws_par 9 10 rfl nd ?_)
      refine wa_cons (we_lst (wa_cons (we_int (wa_nil ⟨Nat.le_of_ble_eq_true rfl, ?_⟩))))
      refine wa_cons (we_tup (wa_cons (we_int (wa_nil ⟨Nat.le_of_ble_eq_true rfl, ?_⟩))))
      refine wa_nil ⟨_, _, rfl, ?_⟩
      refine wsl_cons (ws_for (fun i _ ρ => I_lap v p i ρ) rfl .never (wi_range1 T.b_range (wa_cons (we_int (wa_nil ⟨7, rfl, by decide, by decide, ?_, ?_, ?_⟩)))))
      · exact ⟨s2, s3, s4, s5, s6, s7, s8, s11, s12, .lst [.int 7], rfl, (gd_one (gd_int (by decide))).2, Shk.one (e := 0) (shk_small (by decide) 0) (by decide) (by decide)⟩
      · rintro i d n ρ hd ⟨s2, s3, s4, s5, s6, s7, s8, s11, s12, dd, rfl, hg, hs⟩
        have hi : i < 7 := by
          have := (List.getElem?_eq_some_iff.mp hd).1
          rw [List.length_map, List.length_range] at this
          exact this
        have ed : d = .int (i : Int) := by
          rw [List.getElem?_map, List.getElem?_range (by exact hi)] at hd
          exact (Option.some.inj hd).symm
        subst ed
        refine wg_name 11 nd ?_
        refine ws_one (ws_par 9 10 rfl nd ?_)
        refine wa_cons (we_lst (wa_cons (we_name 9 rfl (wa_cons (we_name 11 rfl (wa_nil ⟨Nat.le_of_ble_eq_true rfl, ?_⟩))))))
        refine wa_cons (we_tup (wa_cons (we_name 10 rfl (wa_cons (we_name 11 rfl (wa_nil ⟨Nat.le_of_ble_eq_true rfl, ?_⟩))))))
        refine wa_nil ⟨_, _, rfl, ?_⟩
        exact ⟨s2, s3, s4, s5, s6, s7, s8, _, s12, .lst [dd, .int (i : Int)], rfl, (gd_two hg (gd_int (by omega))).2, Shk.two (e := i + 3) hs (shk_small (by omega) _) (by omega) (by omega)⟩
      · rintro n ρ ⟨s2, s3, s4, s5, s6, s7, s8, s11, s12, dd, rfl, hg, hs⟩
        have hg8 : Gd 8 dd := hg
        have hs8 : Shk 10 3216 (fixD dd) := hs
        clear hg hs
        have g9 := gd_one hg8
        have g10 := (gd_two (n := 9) (gd_int (i := 1) (by decide)) g9.2).1
        have sh1 : Shk 11 5000 (fixD (.tup [dd])) := Shk.one (e := 10) (w := 3216) hs8 (by decide) (by decide)
        have sh2 : Shk 13 5000 (fixD (.tup [.tup [.int 1, .lst [dd]]])) := Shk.one (e := 12) (w := 3700) (Shk.two (e := 11) (w1 := 400) (w2 := 3250) (shk_small (by decide) 11) (Shk.one (e := 10) (w := 3216) hs8 (by decide) (by decide)) (by decide) (by decide)) (by decide) (by decide)
        -- the test
        refine wsl_cons (ws_if (ww_wb (ww_or (wb_cmp op_ne ?_))))
        refine we_callB (call_reprP (rm.mono (Nat.zero_le _))) T.b_repr boot_repr (wa_cons (we_fld (we_new T T.C_P T.m_P 9 (rm.r.mono (by decide)) (wa_cons (we_str (wa_cons (we_name 9 rfl (wa_nil ⟨_, [dd], rfl, by simp, g9.1, ?_⟩))))))))
        refine ⟨_, _, _, rfl, T.C_P.ins.cl, T.C_P.np, rfl, ?_⟩
        refine wa_nil (cd_reprP ?_ sh1 (by simp [tyD, fixD]))
        refine we_callB (call_reprP (rm.mono (Nat.zero_le _))) T.b_repr boot_repr (wa_cons (we_tup (wa_cons (we_name 10 rfl (wa_nil ⟨Nat.le_of_ble_eq_true rfl, ?_⟩)))))
        refine wa_nil (cd_reprP ?_ sh1 (by simp [tyD, fixD]))
        refine od_ne_str ⟨false, rfl, fun _ => ?_, fun hc => nomatch hc⟩ rfl
        refine ww_or1 (wb_cmp op_ne ?_)
        refine we_callB (call_reprP (rm.mono (Nat.zero_le _))) T.b_repr boot_repr (wa_cons (we_fld (we_new T T.C_D T.m_D 11 (rm.r.mono (by decide)) (wa_cons (we_str (wa_cons (we_tup (wa_cons (we_int (wa_cons (we_lst (wa_cons (we_name 9 rfl (wa_nil ⟨Nat.le_of_ble_eq_true rfl, ?_⟩))))))))))))))
        refine wa_nil ⟨Nat.le_of_ble_eq_true rfl, ?_⟩
        refine wa_nil ⟨_, [.tup [.int 1, .lst [dd]]], rfl, by simp, (gd_one g10).1, ?_⟩
        refine ⟨_, _, _, rfl, T.C_D.ins.cl, T.C_D.np, rfl, ?_⟩
        refine wa_nil (cd_reprP ?_ sh2 (by simp [tyD, fixD]))
        refine we_callB (call_reprP (rm.mono (Nat.zero_le _))) T.b_repr boot_repr (wa_cons (we_tup (wa_cons (we_tup (wa_cons (we_int (wa_cons (we_tup (wa_cons (we_name 10 rfl (wa_nil ⟨Nat.le_of_ble_eq_true rfl, ?_⟩)))))))))))
        refine wa_nil ⟨Nat.le_of_ble_eq_true rfl, ?_⟩
        refine wa_nil ⟨Nat.le_of_ble_eq_true rfl, ?_⟩
        refine wa_nil (cd_reprP ?_ sh2 (by simp [tyD, fixD]))
        refine od_ne_str ⟨false, rfl, fun hc => (nomatch hc), fun _ => ws_nil ?_⟩ rfl
        -- some, paper
        refine wsl_cons (ws_set 12 nd (we_lst (wa_cons (we_int (wa_cons (we_lst (wa_cons (we_int (wa_nil ⟨Nat.le_of_ble_eq_true rfl, ?_⟩)))))))))
        refine wa_nil ⟨Nat.le_of_ble_eq_true rfl, ?_⟩
        have gs : Gd 3 (.tup [.lst [.int 1, .lst [.int 2]]]) := (gd_one (gd_two (gd_int (by decide)) (gd_one (n := 0) (gd_int (by decide))).2).2).1
        refine wsl_cons (ws_set 7 nd (we_new T T.C_P T.m_P 3 (rm.r.mono (by decide)) (wa_cons (we_str (wa_cons (we_name 12 rfl (wa_nil ⟨_, [.lst [.int 1, .lst [.int 2]]], rfl, by simp, gs, ?_⟩)))))))
        refine wsl_append (we_ix ix_seq (we_name 12 rfl (we_int (od_xL ⟨[.int 2], rfl, by decide, we_int ?_⟩ rfl))))
        -- return
        refine wsl_cons (ws_ret ?_)
        refine we_and (we_cmp (op_eqP hu) (we_fld (we_name 7 rfl ⟨_, _, _, rfl, T.C_P.ins.cl, T.C_P.np, rfl, ?_⟩)))
        refine we_tup (wa_cons (we_tup (wa_cons (we_int (wa_cons (we_tup (wa_cons (we_int (wa_nil ⟨Nat.le_of_ble_eq_true rfl, ?_⟩)))))))))
        refine wa_nil ⟨Nat.le_of_ble_eq_true rfl, ?_⟩
        refine wa_nil ⟨Nat.le_of_ble_eq_true rfl, ?_⟩
        refine od_eqP ⟨true, congrArg D.bl (eqD_refl (x := .tup [.tup [.int 1, .tup [.int 2]]]) rfl), fun _ => ?_, fun hc => nomatch hc⟩ rfl rfl (by decide +kernel)
        refine we_and (we_cmp (op_eqP hu) (we_fld (we_new T T.C_P T.m_P 1 (rm.r.mono (by decide)) (wa_cons (we_str (wa_nil ⟨_, [], rfl, by simp, .inr ⟨[], .inr rfl, by simp, fun x hx => nomatch hx⟩, ?_⟩))))))
        refine ⟨_, _, _, rfl, T.C_P.ins.cl, T.C_P.np, rfl, ?_⟩
        refine we_tup (wa_nil ⟨Nat.le_of_ble_eq_true rfl, ?_⟩)
        refine od_eqP ⟨true, congrArg D.bl (eqD_refl (x := .tup []) rfl), fun _ => ?_, fun hc => nomatch hc⟩ rfl rfl (by decide +kernel)
        have gi : ∀ d : D, Atm d → Gd 1 (.tup [d]) := fun d h => (gd_one (n := 0) h).1
        have ai : Atm (.int 1) := .int _ (by rw [ten30n]; decide)
        refine we_one (we_cmp neO (we_new T T.C_P T.m_P 1 (rm.r.mono (by decide)) (wa_cons (we_str (wa_cons (we_int (wa_nil ⟨_, [.int 1], rfl, by simp, gi _ ai, ?_⟩)))))))
        refine we_new T T.C_P T.m_P 1 (rm.r.mono (by decide)) (wa_cons (we_str (wa_cons (we_bl (wa_nil ⟨_, [.bl true], rfl, by simp, gi _ (.bl true), ?_⟩)))))
        refine od_neOwn T.C_P.ins.hm T.C_P.ne T.C_P.eq ⟨T.c_P, "Paper", _, _, _, .inl ⟨rfl, rfl⟩, rfl, atm_a, ((gi _ ai).fix).mono (by decide), .inr ⟨T.c_P, "Paper", _, _, .inl ⟨rfl, rfl⟩, rfl, atm_a, ((gi _ (.bl true)).fix).mono (by decide), ?_⟩⟩
        refine ⟨false, ?_, rfl⟩
        rw [show likeD (.tup [.str "a", fixD (.tup [.int 1])]) (.tup [.str "a", fixD (.tup [.bl true])]) = false by decide +kernel, Bool.and_false]
end
end K1

namespace K1
open PySem PySem.Spec PyProof.Rows L2 RD
theorem kit_by {K : PySem.W.Frag} {C : Addr} {t : Value} {b : Bool} (hd : PySem.W.hasDictIn K C = true) (ty : PySem.W.typeIn K (.ref C) = some (.type "type")) (s : PySem.W.subIn K t (.ref C) = some b) : PySem.W.kitCls K t (.ref C) = some b := by
  obtain ⟨cd, hc, _⟩ := PySem.W.any_some hd
  show (if ((PySem.W.clsIn K C).isSome && PySem.W.typeIn K (.ref C) == some (.type "type")) = true then PySem.W.subIn K t (.ref C) else none) = some b
  rw [hc, ty, if_pos (by simp)]
  exact s
theorem all_mk {l : PySem.W.OpenLaw} {w : World} {K : PySem.W.Frag} {h : Heap} {mg : Str → Option Value} {fa : Addr} (X : K.In h) (G : h.Ns mainGlobals mg) (hfa : mg "law" = some (.ref fa))
    {od0 an0 : Option Addr} {sl0 : Array (Option Value)} {oc0 kV0 dc0 pm0 cd0 ct0 : Value} {f0 : Addr}
    {od1 an1 : Option Addr} {sl1 : Array (Option Value)} {oc1 kV1 dc1 pm1 cd1 ct1 : Value} {f1 : Addr}
    {od2 an2 : Option Addr} {sl2 : Array (Option Value)} {oc2 kV2 dc2 pm2 cd2 ct2 : Value} {f2 : Addr}
    {od3 an3 : Option Addr} {sl3 : Array (Option Value)} {oc3 kV3 dc3 pm3 cd3 ct3 : Value} {f3 : Addr}
    {od4 an4 : Option Addr} {sl4 : Array (Option Value)} {oc4 kV4 dc4 pm4 cd4 ct4 : Value} {f4 : Addr}
    {od5 an5 : Option Addr} {sl5 : Array (Option Value)} {oc5 kV5 dc5 pm5 cd5 ct5 : Value} {f5 : Addr}
    {od6 an6 : Option Addr} {sl6 : Array (Option Value)} {oc6 kV6 dc6 pm6 cd6 ct6 : Value} {f6 : Addr}
    {od7 an7 : Option Addr} {sl7 : Array (Option Value)} {oc7 kV7 dc7 pm7 cd7 ct7 : Value} {f7 : Addr}
    {od8 an8 : Option Addr} {sl8 : Array (Option Value)} {oc8 kV8 dc8 pm8 cd8 ct8 : Value} {f8 : Addr}
    {od9 an9 : Option Addr} {sl9 : Array (Option Value)} {oc9 kV9 dc9 pm9 cd9 ct9 : Value} {f9 : Addr}
    {od10 an10 : Option Addr} {sl10 : Array (Option Value)} {oc10 kV10 dc10 pm10 cd10 ct10 : Value} {f10 : Addr}
    {od11 an11 : Option Addr} {sl11 : Array (Option Value)} {oc11 kV11 dc11 pm11 cd11 ct11 : Value} {f11 : Addr}
    {od12 an12 : Option Addr} {sl12 : Array (Option Value)} {oc12 kV12 dc12 pm12 cd12 ct12 : Value} {f12 : Addr}
    {od13 an13 : Option Addr} {sl13 : Array (Option Value)} {oc13 kV13 dc13 pm13 cd13 ct13 : Value} {f13 : Addr}
    {cP cD : Addr} {oP oD : Obj} {tP tD : Tok}
    (a0 : PySem.W.nsIn K mainGlobals "fixed" = some (some (.ref f0)))
    (a1 : PySem.W.nsIn K mainGlobals "are_like" = some (some (.ref f1)))
    (a6 : PySem.W.nsIn K mainGlobals "_law_pen" = some (some (.ref f6)))
    (a7 : PySem.W.nsIn K mainGlobals "_law_pick" = some (some (.ref f7)))
    (a8 : PySem.W.nsIn K mainGlobals "_law_value" = some (some (.ref f8)))
    (a9 : PySem.W.nsIn K mainGlobals "_law_tupled" = some (some (.ref f9)))
    (a10 : PySem.W.nsIn K mainGlobals "_law_listed" = some (some (.ref f10)))
    (a11 : PySem.W.nsIn K mainGlobals "_law_like" = some (some (.ref f11)))
    (a12 : PySem.W.nsIn K mainGlobals "law" = some (some (.ref f12)))
    (a13 : PySem.W.nsIn K mainGlobals "_law_draw" = some (some (.ref f13)))
    (gP : PySem.W.nsIn K mainGlobals "Paper" = some (some (.ref cP)))
    (gD : PySem.W.nsIn K mainGlobals "Denial" = some (some (.ref cD)))
    (pI : PySem.W.findIn K (.ref cP) "__init__" = some (some (.ref f2)))
    (dI : PySem.W.findIn K (.ref cD) "__init__" = some (some (.ref f2)))
    (pE : PySem.W.findIn K (.ref cP) "__eq__" = some (some (.ref f4)))
    (dE : PySem.W.findIn K (.ref cD) "__eq__" = some (some (.ref f4)))
    (pB : PySem.W.findIn K (.ref cP) "__bool__" = some (some (.ref f3)))
    (dB : PySem.W.findIn K (.ref cD) "__bool__" = some (some (.ref f5)))
    (l0 : K.lookup f0 = some ⟨oc0, od0, .func (PySem.W.fnOf "fixed" "fixed" (defArgs s_fixed) (defBody s_fixed) (defScope s_fixed) .none kV0 dc0 pm0 an0 cd0 ct0), sl0⟩)
    (c0 : PySem.W.codeIn K cd0 "fixed" = true)
    (k0 : PySem.W.keepIn K (.ref f0) = true)
    (l1 : K.lookup f1 = some ⟨oc1, od1, .func (PySem.W.fnOf "are_like" "are_like" (defArgs s_alike) (defBody s_alike) (defScope s_alike) .none kV1 dc1 pm1 an1 cd1 ct1), sl1⟩)
    (c1 : PySem.W.codeIn K cd1 "are_like" = true)
    (k1 : PySem.W.keepIn K (.ref f1) = true)
    (l2 : K.lookup f2 = some ⟨oc2, od2, .func (PySem.W.fnOf "__init__" "Paper.__init__" (defArgs s_init) (defBody s_init) (defScope s_init) .none kV2 dc2 pm2 an2 cd2 ct2), sl2⟩)
    (c2 : PySem.W.codeIn K cd2 "Paper.__init__" = true)
    (k2 : PySem.W.keepIn K (.ref f2) = true)
    (l3 : K.lookup f3 = some ⟨oc3, od3, .func (PySem.W.fnOf "__bool__" "Paper.__bool__" (defArgs s_pbool) (defBody s_pbool) (defScope s_pbool) .none kV3 dc3 pm3 an3 cd3 ct3), sl3⟩)
    (c3 : PySem.W.codeIn K cd3 "Paper.__bool__" = true)
    (k3 : PySem.W.keepIn K (.ref f3) = true)
    (l4 : K.lookup f4 = some ⟨oc4, od4, .func (PySem.W.fnOf "__eq__" "Paper.__eq__" (defArgs s_peq) (defBody s_peq) (defScope s_peq) .none kV4 dc4 pm4 an4 cd4 ct4), sl4⟩)
    (c4 : PySem.W.codeIn K cd4 "Paper.__eq__" = true)
    (k4 : PySem.W.keepIn K (.ref f4) = true)
    (l5 : K.lookup f5 = some ⟨oc5, od5, .func (PySem.W.fnOf "__bool__" "Denial.__bool__" (defArgs s_dbool) (defBody s_dbool) (defScope s_dbool) .none kV5 dc5 pm5 an5 cd5 ct5), sl5⟩)
    (c5 : PySem.W.codeIn K cd5 "Denial.__bool__" = true)
    (k5 : PySem.W.keepIn K (.ref f5) = true)
    (l6 : K.lookup f6 = some ⟨oc6, od6, .func (PySem.W.fnOf "_law_pen" "_law_pen" (defArgs s_pen) (defBody s_pen) (defScope s_pen) .none kV6 dc6 pm6 an6 cd6 ct6), sl6⟩)
    (c6 : PySem.W.codeIn K cd6 "_law_pen" = true)
    (k6 : PySem.W.keepIn K (.ref f6) = true)
    (l7 : K.lookup f7 = some ⟨oc7, od7, .func (PySem.W.fnOf "_law_pick" "_law_pick" (defArgs s_pick) (defBody s_pick) (defScope s_pick) .none kV7 dc7 pm7 an7 cd7 ct7), sl7⟩)
    (c7 : PySem.W.codeIn K cd7 "_law_pick" = true)
    (k7 : PySem.W.keepIn K (.ref f7) = true)
    (l8 : K.lookup f8 = some ⟨oc8, od8, .func (PySem.W.fnOf "_law_value" "_law_value" (defArgs s_value) (defBody s_value) (defScope s_value) .none kV8 dc8 pm8 an8 cd8 ct8), sl8⟩)
    (c8 : PySem.W.codeIn K cd8 "_law_value" = true)
    (k8 : PySem.W.keepIn K (.ref f8) = true)
    (l9 : K.lookup f9 = some ⟨oc9, od9, .func (PySem.W.fnOf "_law_tupled" "_law_tupled" (defArgs s_tupled) (defBody s_tupled) (defScope s_tupled) .none kV9 dc9 pm9 an9 cd9 ct9), sl9⟩)
    (c9 : PySem.W.codeIn K cd9 "_law_tupled" = true)
    (k9 : PySem.W.keepIn K (.ref f9) = true)
    (l10 : K.lookup f10 = some ⟨oc10, od10, .func (PySem.W.fnOf "_law_listed" "_law_listed" (defArgs s_listed) (defBody s_listed) (defScope s_listed) .none kV10 dc10 pm10 an10 cd10 ct10), sl10⟩)
    (c10 : PySem.W.codeIn K cd10 "_law_listed" = true)
    (k10 : PySem.W.keepIn K (.ref f10) = true)
    (l11 : K.lookup f11 = some ⟨oc11, od11, .func (PySem.W.fnOf "_law_like" "_law_like" (defArgs s_like) (defBody s_like) (defScope s_like) .none kV11 dc11 pm11 an11 cd11 ct11), sl11⟩)
    (c11 : PySem.W.codeIn K cd11 "_law_like" = true)
    (k11 : PySem.W.keepIn K (.ref f11) = true)
    (l12 : K.lookup f12 = some ⟨oc12, od12, .func (PySem.W.fnOf "law" "law" (defArgs s_law) (defBody s_law) (defScope s_law) .none kV12 dc12 pm12 an12 cd12 ct12), sl12⟩)
    (c12 : PySem.W.codeIn K cd12 "law" = true)
    (k12 : PySem.W.keepIn K (.ref f12) = true)
    (l13 : K.lookup f13 = some ⟨oc13, od13, .func (PySem.W.fnOf "_law_draw" "_law_draw" (defArgs s_draw) (defBody s_draw) (defScope s_draw) .none kV13 dc13 pm13 an13 cd13 ct13), sl13⟩)
    (c13 : PySem.W.codeIn K cd13 "_law_draw" = true)
    (k13 : PySem.W.keepIn K (.ref f13) = true)
    (ppg : PySem.W.plainGet K cP Str.empty = true)
    (phd : PySem.W.hasDictIn K cP = true)
    (ppo : PySem.W.plainOver K cP = true)
    (psa : PySem.W.findIn K (.ref cP) "__setattr__" = some (some (.builtin "object.__setattr__")))
    (pha : PySem.W.findIn K (.ref cP) "__class__" = some (some (.builtin "object.__class__")))
    (phm : PySem.W.mroIn K cP (.type "object") = some true)
    (pnw : PySem.W.findIn K (.ref cP) "word" = some none)
    (pnp : PySem.W.findIn K (.ref cP) "parts" = some none)
    (pty : PySem.W.typeIn K (.ref cP) = some (.type "type"))
    (pne : PySem.W.findIn K (.ref cP) "__ne__" = some (some (.builtin "object.__ne__")))
    (pmk : PySem.W.makesIn K cP = true)
    (pkp : PySem.W.keepIn K (.ref cP) = true)
    (plo : K.lookup cP = some oP)
    (psl : oP.slots[2]? = some (some (.str "Paper" tP)))
    (dpg : PySem.W.plainGet K cD Str.empty = true)
    (dhd : PySem.W.hasDictIn K cD = true)
    (dpo : PySem.W.plainOver K cD = true)
    (dsa : PySem.W.findIn K (.ref cD) "__setattr__" = some (some (.builtin "object.__setattr__")))
    (dha : PySem.W.findIn K (.ref cD) "__class__" = some (some (.builtin "object.__class__")))
    (dhm : PySem.W.mroIn K cD (.type "object") = some true)
    (dnw : PySem.W.findIn K (.ref cD) "word" = some none)
    (dnp : PySem.W.findIn K (.ref cD) "parts" = some none)
    (dty : PySem.W.typeIn K (.ref cD) = some (.type "type"))
    (dne : PySem.W.findIn K (.ref cD) "__ne__" = some (some (.builtin "object.__ne__")))
    (dmk : PySem.W.makesIn K cD = true)
    (dkp : PySem.W.keepIn K (.ref cD) = true)
    (dlo : K.lookup cD = some oD)
    (dsl : oD.slots[2]? = some (some (.str "Denial" tD)))
    (hn : PySem.W.specialIn K (.builtin "object.__class__") "__get__" = some (some (.builtin "getset_descriptor.__get__")))
    (htk : PySem.W.takesIn K (.builtin "object.__class__") = some true)
    (op : PySem.W.nsIn K cStatics "thirdparty.any" = some none)
    (fnI : PySem.W.isFn K (.ref f2) = true)
    (fnE : PySem.W.isFn K (.ref f4) = true)
    (fnP : PySem.W.isFn K (.ref f3) = true)
    (fnD : PySem.W.isFn K (.ref f5) = true)
    (sDP : PySem.W.subIn K (.ref cD) (.ref cP) = some true)
    (sPD : PySem.W.subIn K (.ref cP) (.ref cD) = some false)
    (tPP : PySem.W.notFirst K cP (.type "tuple") = true)
    (sTP : PySem.W.subIn K (.type "tuple") (.ref cP) = some false)
    (z_int : PySem.W.nsIn K mainGlobals "int" = some none)
    (z_len : PySem.W.nsIn K mainGlobals "len" = some none)
    (z_abs : PySem.W.nsIn K mainGlobals "abs" = some none)
    (z_list : PySem.W.nsIn K mainGlobals "list" = some none)
    (z_tuple : PySem.W.nsIn K mainGlobals "tuple" = some none)
    (z_bool : PySem.W.nsIn K mainGlobals "bool" = some none)
    (z_all : PySem.W.nsIn K mainGlobals "all" = some none)
    (z_zip : PySem.W.nsIn K mainGlobals "zip" = some none)
    (z_range : PySem.W.nsIn K mainGlobals "range" = some none)
    (z_repr : PySem.W.nsIn K mainGlobals "repr" = some none)
    (z_isinstance : PySem.W.nsIn K mainGlobals "isinstance" = some none) :
    ∃ fd : FuncData, (∀ (s : Shared) (u : Value), BindsTo s fd ⟨[u], []⟩ [("script", u)]) ∧ ∀ base : Heap, K.In base → base.Ns mainGlobals mg → Fn l.prog w K mg base CX0 31 fa fd ["script"] (spLaw K) := by
  have e := hfa.symm.trans (PySem.W.mg_of X G a12)
  cases e
  have Cp : ClsT K cP "Paper" f2 f4 f3 := ⟨⟨⟨ppg, phd, ppo, psa⟩, pha, hn, htk, phm, by unfold PySem.W.kitOne; simp⟩, pnw, pnp, ⟨op, pty, _, tP, plo, psl⟩, ⟨pmk, pI, fnI, pkp⟩, pE, pne, pB⟩
  have Cd : ClsT K cD "Denial" f2 f4 f5 := ⟨⟨⟨dpg, dhd, dpo, dsa⟩, dha, hn, htk, dhm, by unfold PySem.W.kitOne; simp⟩, dnw, dnp, ⟨op, dty, _, tD, dlo, dsl⟩, ⟨dmk, dI, fnI, dkp⟩, dE, dne, dB⟩
  let T : Tp K mg := { f_fixed := f0, d_fixed := _, F_fixed := fd_mk l0 c0 k0, m_fixed := PySem.W.mg_of X G a0, f_alike := f1, d_alike := _, F_alike := fd_mk l1 c1 k1, m_alike := PySem.W.mg_of X G a1, f_init := f2, d_init := _, F_init := fd_mk l2 c2 k2, f_pbool := f3, d_pbool := _, F_pbool := fd_mk l3 c3 k3, f_peq := f4, d_peq := _, F_peq := fd_mk l4 c4 k4, f_dbool := f5, d_dbool := _, F_dbool := fd_mk l5 c5 k5, f_pen := f6, d_pen := _, F_pen := fd_mk l6 c6 k6, m_pen := PySem.W.mg_of X G a6, f_pick := f7, d_pick := _, F_pick := fd_mk l7 c7 k7, m_pick := PySem.W.mg_of X G a7, f_value := f8, d_value := _, F_value := fd_mk l8 c8 k8, m_value := PySem.W.mg_of X G a8, f_tupled := f9, d_tupled := _, F_tupled := fd_mk l9 c9 k9, m_tupled := PySem.W.mg_of X G a9, f_listed := f10, d_listed := _, F_listed := fd_mk l10 c10 k10, m_listed := PySem.W.mg_of X G a10, f_like := f11, d_like := _, F_like := fd_mk l11 c11 k11, m_like := PySem.W.mg_of X G a11, f_law := fa, d_law := _, F_law := fd_mk l12 c12 k12, f_draw := f13, d_draw := _, F_draw := fd_mk l13 c13 k13, m_draw := PySem.W.mg_of X G a13, b_int := PySem.W.mg_none_of X G z_int, b_len := PySem.W.mg_none_of X G z_len, b_abs := PySem.W.mg_none_of X G z_abs, b_list := PySem.W.mg_none_of X G z_list, b_tuple := PySem.W.mg_none_of X G z_tuple, b_bool := PySem.W.mg_none_of X G z_bool, b_all := PySem.W.mg_none_of X G z_all, b_zip := PySem.W.mg_none_of X G z_zip, b_range := PySem.W.mg_none_of X G z_range, b_repr := PySem.W.mg_none_of X G z_repr, b_isinstance := PySem.W.mg_none_of X G z_isinstance, c_P := cP, c_D := cD, C_P := Cp, C_D := Cd, m_P := PySem.W.mg_of X G gP, m_D := PySem.W.mg_of X G gD, sDP := sDP, sPD := sPD, tPP := tPP, kDP := by unfold PySem.W.kitOne; split <;> first | rfl | exact kit_by phd pty sDP, kTP := by unfold PySem.W.kitOne; rw [if_neg (by simp)]; exact kit_by phd pty sTP }
  exact ⟨_, fun s u => T.F_law.bindsA (ps := ["script"]) (fun _ _ _ _ _ _ us hl => match us, hl with | [_], _ => rfl) s [u] rfl, fun base _ _ => ok_law T fnE fnP fnD⟩
end K1
open PySem PySem.W PyProof.Rows
set_option maxHeartbeats 0 in
theorem PySem.Challenge.cw_replycuts_k01_papers_and_likeness_holds : PySem.Challenge.rw_replycuts_k01_papers_and_likeness.Holds := by
  w_on; o_law; k_head; (case hw => w_witness2)
  k_fill
  refine RD.law_end (l := PySem.Challenge.rw_replycuts_k01_papers_and_likeness) (n := 63) (k := 31) (x := "script") (sp := fun w => RD.spLaw _) rfl (by decide) rfl ⟨rfl, by decide, by decide⟩ (fun w h Y => PySem.W.kIn_of Y) ?F (fun w H a ns hl hb hS _ _ => ⟨a, ns, rfl, hS, hl, fun z hz => RD.bits_abs (hb z hz), fun _ => rfl⟩)
  case F =>
    intro w mg fa h KX G hmg
    refine' K1.all_mk KX G hmg ?a0 ?a1 ?a6 ?a7 ?a8 ?a9 ?a10 ?a11 ?a12 ?a13 ?gP ?gD ?pI ?dI ?pE ?dE ?pB ?dB ?l0 ?c0 ?k0 ?l1 ?c1 ?k1 ?l2 ?c2 ?k2 ?l3 ?c3 ?k3 ?l4 ?c4 ?k4 ?l5 ?c5 ?k5 ?l6 ?c6 ?k6 ?l7 ?c7 ?k7 ?l8 ?c8 ?k8 ?l9 ?c9 ?k9 ?l10 ?c10 ?k10 ?l11 ?c11 ?k11 ?l12 ?c12 ?k12 ?l13 ?c13 ?k13 ?ppg ?phd ?ppo ?psa ?pha ?phm ?pnw ?pnp ?pty ?pne ?pmk ?pkp ?plo ?psl ?dpg ?dhd ?dpo ?dsa ?dha ?dhm ?dnw ?dnp ?dty ?dne ?dmk ?dkp ?dlo ?dsl ?hn ?htk ?op ?fnI ?fnE ?fnP ?fnD ?sDP ?sPD ?tPP ?sTP ?z_int ?z_len ?z_abs ?z_list ?z_tuple ?z_bool ?z_all ?z_zip ?z_range ?z_repr ?z_isinstance
    (case a0 => k_is); (case a1 => k_is); (case a6 => k_is); (case a7 => k_is); (case a8 => k_is); (case a9 => k_is); (case a10 => k_is); (case a11 => k_is); (case a12 => k_is); (case a13 => k_is); (case gP => k_is); (case gD => k_is); (case pI => k_is); (case dI => k_is); (case pE => k_is); (case dE => k_is); (case pB => k_is); (case dB => k_is); (case l0 => k_is); (case c0 => k_is); (case k0 => k_is); (case l1 => k_is); (case c1 => k_is); (case k1 => k_is); (case l2 => k_is); (case c2 => k_is); (case k2 => k_is); (case l3 => k_is); (case c3 => k_is); (case k3 => k_is); (case l4 => k_is); (case c4 => k_is); (case k4 => k_is); (case l5 => k_is); (case c5 => k_is); (case k5 => k_is); (case l6 => k_is); (case c6 => k_is); (case k6 => k_is); (case l7 => k_is); (case c7 => k_is); (case k7 => k_is); (case l8 => k_is); (case c8 => k_is); (case k8 => k_is); (case l9 => k_is); (case c9 => k_is); (case k9 => k_is); (case l10 => k_is); (case c10 => k_is); (case k10 => k_is); (case l11 => k_is); (case c11 => k_is); (case k11 => k_is); (case l12 => k_is); (case c12 => k_is); (case k12 => k_is); (case l13 => k_is); (case c13 => k_is); (case k13 => k_is); (case ppg => k_is); (case phd => k_is); (case ppo => k_is); (case psa => k_is); (case pha => k_is); (case phm => k_is); (case pnw => k_is); (case pnp => k_is); (case pty => k_is); (case pne => k_is); (case pmk => k_is); (case pkp => k_is); (case plo => k_is); (case psl => first | k_is | rfl); (case dpg => k_is); (case dhd => k_is); (case dpo => k_is); (case dsa => k_is); (case dha => k_is); (case dhm => k_is); (case dnw => k_is); (case dnp => k_is); (case dty => k_is); (case dne => k_is); (case dmk => k_is); (case dkp => k_is); (case dlo => k_is); (case dsl => first | k_is | rfl); (case hn => k_is); (case htk => k_is); (case op => k_is); (case fnI => k_is); (case fnE => k_is); (case fnP => k_is); (case fnD => k_is); (case sDP => k_is); (case sPD => k_is); (case tPP => k_is); (case sTP => k_is); (case z_int => k_is); (case z_len => k_is); (case z_abs => k_is); (case z_list => k_is); (case z_tuple => k_is); (case z_bool => k_is); (case z_all => k_is); (case z_zip => k_is); (case z_range => k_is); (case z_repr => k_is); (case z_isinstance => k_is)

