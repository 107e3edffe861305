import PyProof.Rows.All
import Wide.All
import OpenK.AllK
import Wide.FinOn
import HandS.ForExc
import HandS.Evl
import HandS.Dict
import HandS.Iter
import HandS.Text
import HandS.Zip
import HandS.More
import HandS.Conv
import HandS.Flow
import HandS.Comp
import HandS.ExcCtx
import HandS.ExcInit
import HandS.ExcInitHot
import HandS.SuiteRaise
import HandS.ExcIs
import HandS.ExcField
import HandS.HotCalls
import HandS.CallSlots
import HandS.Defaults
import HandS.IsInst
import HandS.WordsDict
import HandS.Rev
import HandS.Words
import HandS.WordsExc
import HandS.HeadHook1
import HandS.HeadHook2
import HandS.HeadHook3
import PySem.Challenge.RW_layerdraw_k07_each_refusal_by_itself
import HandS.Head0
import HandS.Head1
import HandS.Head2
import HandS.HeadEnd
import KE.KStateDown
import HandS.RevTup
import KE.KExcIs
import KE.GoesRaise
import HandS.HeadHook4
set_option Elab.async false
set_option linter.all false
set_option maxRecDepth 100000
set_option maxHeartbeats 0
namespace AE
open PySem L2

/-! ### abstract values, objects, outcomes -/
inductive AV where
  | non | bl (b : Bool) | int (c k : Int) | str (l : List Nat) | ref (i : Nat)
  deriving DecidableEq
inductive AK where
  | i (n : Int) | s (l : List Nat)
  deriving DecidableEq
inductive FN where
  | halves | drawn_arrows | given | level_pairs | near_pairs | name | wide | net | old | number | ring
  deriving DecidableEq
inductive CN where
  | net | own | desk
  deriving DecidableEq
inductive XN where
  | noName | taken | noPoint | alone | noNumber | tooMany | noSuch | noLine | ring | noFlow | tooLong | stale
  deriving DecidableEq
inductive AO where
  | lst (xs : List AV) | tup (xs : List AV) | dic (kvs : List (AK × AV)) | ins (c : CN) (fs : List (FN × AV))
inductive Rs (α : Type) where
  | ok (a : α) (A : List AO) | ex (c : XN) (p : Option (FN × AV)) (A : List AO) | no
def Rs.bind {α β : Type} (r : Rs α) (f : α → List AO → Rs β) : Rs β :=
  match r with
  | .ok a A => f a A
  | .ex c p A => .ex c p A
  | .no => .no

def FN.str : FN → Str
  | .halves => "halves" | .drawn_arrows => "drawn_arrows" | .given => "given" | .level_pairs => "level_pairs" | .near_pairs => "near_pairs"
  | .name => "name" | .wide => "wide" | .net => "net" | .old => "old" | .number => "number" | .ring => "ring"
theorem FN.inj {a b : FN} (h : a.str = b.str) : a = b := by
  cases a <;> cases b <;> first | rfl | (exact absurd h (by decide))
def AK.key : AK → Key
  | .i n => .inl n
  | .s l => .inr ⟨l.toArray⟩
theorem AK.inj {a b : AK} (h : a.key = b.key) : a = b := by
  cases a with
  | i n => cases b with
    | i m => have e : (Sum.inl n : Key) = Sum.inl m := h
             injection e with e
             rw [e]
    | s l => exact nomatch (show (Sum.inl n : Key) = Sum.inr _ from h)
  | s l => cases b with
    | i m => exact nomatch (show (Sum.inr _ : Key) = Sum.inl m from h)
    | s m =>
      have e : (Sum.inr (⟨l.toArray⟩ : Str) : Key) = Sum.inr ⟨m.toArray⟩ := h
      injection e with e
      injection e with e
      have e2 : l = m := by simpa using congrArg Array.toList e
      rw [e2]

structure GP where
  q : Int
  q0 : 0 ≤ q
  cA : CN → Addr
  xA : XN → Addr

/-! ### lists side by side -/
inductive P2 {α β : Type} (R : α → β → Prop) : List α → List β → Prop
  | nil : P2 R [] []
  | cons {a : α} {b : β} {as : List α} {bs : List β} : R a b → P2 R as bs → P2 R (a :: as) (b :: bs)
namespace P2
variable {α β : Type} {R S : α → β → Prop} {as as' : List α} {bs bs' : List β} {a : α} {b : β} {i : Nat}
theorem len (h : P2 R as bs) : as.length = bs.length := by
  induction h with
  | nil => rfl
  | cons _ _ ih => rw [List.length_cons, List.length_cons, ih]
theorem mono (h : P2 R as bs) (f : ∀ a b, R a b → S a b) : P2 S as bs := by
  induction h with
  | nil => exact .nil
  | cons r _ ih => exact .cons (f _ _ r) ih
theorem get (h : P2 R as bs) : ∀ {i : Nat} {a : α}, as[i]? = some a → ∃ b, bs[i]? = some b ∧ R a b := by
  induction h with
  | nil => intro i a e; simp at e
  | cons r _ ih =>
    intro i a e
    cases i with
    | zero => simp at e; subst e; exact ⟨_, by simp, r⟩
    | succ i =>
      obtain ⟨b, e1, e2⟩ := ih (i := i) (a := a) (by simpa using e)
      exact ⟨b, by simpa using e1, e2⟩
theorem getR (h : P2 R as bs) : ∀ {i : Nat} {b : β}, bs[i]? = some b → ∃ a, as[i]? = some a ∧ R a b := by
  induction h with
  | nil => intro i a e; simp at e
  | cons r _ ih =>
    intro i a e
    cases i with
    | zero => simp at e; subst e; exact ⟨_, by simp, r⟩
    | succ i =>
      obtain ⟨b, e1, e2⟩ := ih (i := i) (b := a) (by simpa using e)
      exact ⟨b, by simpa using e1, e2⟩
theorem set (h : P2 R as bs) (r : R a b) : ∀ i : Nat, P2 R (as.set i a) (bs.set i b) := by
  induction h with
  | nil => intro i; exact .nil
  | cons q t ih =>
    intro i
    cases i with
    | zero => exact .cons r t
    | succ i => exact .cons q (ih i)
theorem append (h : P2 R as bs) (h' : P2 R as' bs') : P2 R (as ++ as') (bs ++ bs') := by
  induction h with
  | nil => exact h'
  | cons q _ ih => exact .cons q ih
theorem one (r : R a b) : P2 R [a] [b] := .cons r .nil
theorem take (h : P2 R as bs) : ∀ n : Nat, P2 R (as.take n) (bs.take n) := by
  induction h with
  | nil => intro n; simp; exact .nil
  | cons q _ ih =>
    intro n
    cases n with
    | zero => exact .nil
    | succ n => exact .cons q (ih n)
theorem drop (h : P2 R as bs) : ∀ n : Nat, P2 R (as.drop n) (bs.drop n) := by
  induction h with
  | nil => intro n; simp; exact .nil
  | cons q t ih =>
    intro n
    cases n with
    | zero => exact .cons q t
    | succ n => exact ih n
theorem rev (h : P2 R as bs) : P2 R as.reverse bs.reverse := by
  induction h with
  | nil => exact .nil
  | cons q _ ih =>
    rw [List.reverse_cons, List.reverse_cons]
    exact ih.append (.cons q .nil)
theorem eraseIdx (h : P2 R as bs) : ∀ n : Nat, P2 R (as.eraseIdx n) (bs.eraseIdx n) := by
  induction h with
  | nil => intro n; exact .nil
  | cons q t ih =>
    intro n
    cases n with
    | zero => exact t
    | succ n => exact .cons q (ih n)
end P2

/-! ### the relations -/
section
variable (G : GP)
def RV (ρ : List Addr) : AV → V → Prop
  | .non, v => v = .non
  | .bl b, v => v = .bl b
  | .int c k, v => v = .int (c + k * G.q)
  | .str l, v => v = .str ⟨l.toArray⟩
  | .ref i, v => ∃ p, ρ[i]? = some p ∧ v = .ref p
abbrev RVs (ρ : List Addr) : List AV → List V → Prop := P2 (RV G ρ)
def RSl (ρ : List Addr) : Option AV → Option V → Prop
  | none, _ => True
  | some a, o => ∃ v, o = some v ∧ RV G ρ a v
abbrev RS (ρ : List Addr) : List (Option AV) → St → Prop := P2 (RSl G ρ)
def RO (ρ : List Addr) : AO → HO → Prop
  | .lst xs, u => ∃ vs, u = .lst vs ∧ RVs G ρ xs vs
  | .tup xs, u => ∃ vs, u = .tup vs ∧ RVs G ρ xs vs
  | .dic kvs, u => ∃ vs, u = .dK vs ∧ P2 (fun (p : AK × AV) (r : Key × V) => p.1.key = r.1 ∧ RV G ρ p.2 r.2) kvs vs
  | .ins c fs, u => ∃ dx vs, u = .ins (G.cA c) dx vs ∧ P2 (fun (p : FN × AV) (r : Str × V) => p.1.str = r.1 ∧ RV G ρ p.2 r.2) fs vs
def Pre (ρ ρ' : List Addr) : Prop := ∃ t, ρ' = ρ ++ t
end
theorem Pre.refl (ρ : List Addr) : Pre ρ ρ := ⟨[], by simp⟩
theorem Pre.trans {a b c : List Addr} (h : Pre a b) (h' : Pre b c) : Pre a c := by
  obtain ⟨t, rfl⟩ := h
  obtain ⟨u, rfl⟩ := h'
  exact ⟨t ++ u, by rw [List.append_assoc]⟩
theorem Pre.snoc (ρ : List Addr) (p : Addr) : Pre ρ (ρ ++ [p]) := ⟨[p], rfl⟩
theorem Pre.get {a b : List Addr} (h : Pre a b) {i : Nat} {p : Addr} (e : a[i]? = some p) : b[i]? = some p := by
  obtain ⟨t, rfl⟩ := h
  rw [List.getElem?_append_left (List.getElem?_eq_some_iff.mp e).1]
  exact e

section
variable {G : GP} {ρ ρ' : List Addr}
theorem RV.mono {a : AV} {v : V} (h : RV G ρ a v) (p : Pre ρ ρ') : RV G ρ' a v := by
  cases a with
  | ref i => obtain ⟨x, e, r⟩ := h; exact ⟨x, p.get e, r⟩
  | _ => exact h
theorem RVs.mono {a : List AV} {v : List V} (h : RVs G ρ a v) (p : Pre ρ ρ') : RVs G ρ' a v := P2.mono h fun _ _ r => r.mono p
theorem RSl.mono {a : Option AV} {v : Option V} (h : RSl G ρ a v) (p : Pre ρ ρ') : RSl G ρ' a v := by
  cases a with
  | none => exact True.intro
  | some a => obtain ⟨x, e, r⟩ := h; exact ⟨x, e, r.mono p⟩
theorem RS.mono {a : List (Option AV)} {v : St} (h : RS G ρ a v) (p : Pre ρ ρ') : RS G ρ' a v := P2.mono h fun _ _ r => r.mono p
theorem RO.mono {o : AO} {u : HO} (h : RO G ρ o u) (p : Pre ρ ρ') : RO G ρ' o u := by
  cases o with
  | lst xs => obtain ⟨vs, e, r⟩ := h; exact ⟨vs, e, RVs.mono r p⟩
  | tup xs => obtain ⟨vs, e, r⟩ := h; exact ⟨vs, e, RVs.mono r p⟩
  | dic kvs => obtain ⟨vs, e, r⟩ := h; exact ⟨vs, e, r.mono fun _ _ z => ⟨z.1, z.2.mono p⟩⟩
  | ins c fs => obtain ⟨dx, vs, e, r⟩ := h; exact ⟨dx, vs, e, r.mono fun _ _ z => ⟨z.1, z.2.mono p⟩⟩
end

/-- the heap is described: F the frame (what else is known, and stays) -/
structure RH (G : GP) (F : Hp) (ρ : List Addr) (A : List AO) (H : Hp) : Prop where
  len : ρ.length = A.length
  obj : ∀ (i : Nat) (p : Addr) (o : AO), ρ[i]? = some p → A[i]? = some o → ∃ u, H p = some u ∧ RO G ρ o u
  nd : ρ.Nodup
  fr : ∀ a u, F a = some u → H a = some u
  nf : ∀ p ∈ ρ, F p = none
section
variable {G : GP} {F : Hp} {ρ : List Addr} {A : List AO} {H : Hp}
theorem RH.at (h : RH G F ρ A H) {i : Nat} {p : Addr} {o : AO} (e : ρ[i]? = some p) (ea : A[i]? = some o) : ∃ u, H p = some u ∧ RO G ρ o u := h.obj i p o e ea
theorem RH.some_mem (h : RH G F ρ A H) {p : Addr} (hp : p ∈ ρ) : ∃ u, H p = some u := by
  obtain ⟨i, hi⟩ := List.getElem?_of_mem hp
  have hl : i < A.length := by
    rw [← h.len]
    exact (List.getElem?_eq_some_iff.mp hi).1
  obtain ⟨u, e, _⟩ := h.obj i p A[i] hi (by simp [hl])
  exact ⟨u, e⟩
theorem RH.fresh (h : RH G F ρ A H) {p : Addr} (hp : H p = none) : p ∉ ρ := fun m => by
  obtain ⟨u, e⟩ := h.some_mem m
  rw [hp] at e
  cases e
theorem RH.freshF (h : RH G F ρ A H) {p : Addr} (hp : H p = none) : F p = none := by
  cases e : F p with
  | none => rfl
  | some u =>
    have := h.fr p u e
    rw [hp] at this
    cases this
/-- an object that is not told of is laid -/
theorem RH.other (h : RH G F ρ A H) {p : Addr} {u : HO} (hp : H p = none) : RH G F ρ A (upd H p u) := by
  refine ⟨h.len, fun i x o e ea => ?_, h.nd, fun a v e => ?_, h.nf⟩
  · obtain ⟨w, e1, r⟩ := h.obj i x o e ea
    exact ⟨w, by rw [upd_ne (ne_of_none e1 hp)]; exact e1, r⟩
  · have e1 := h.fr a v e
    rw [upd_ne (ne_of_none e1 hp)]
    exact e1
/-- a new object -/
theorem RH.new (h : RH G F ρ A H) {p : Addr} {u : HO} {o : AO} (hp : H p = none) (r : RO G (ρ ++ [p]) o u) : RH G F (ρ ++ [p]) (A ++ [o]) (upd H p u) := by
  have hn := h.fresh hp
  refine ⟨by rw [List.length_append, List.length_append, h.len]; rfl, fun i x o' e ea => ?_, ?_, fun a v e => ?_, fun x hx => ?_⟩
  · by_cases hi : i < ρ.length
    · rw [List.getElem?_append_left hi] at e
      rw [List.getElem?_append_left (by rw [← h.len]; exact hi)] at ea
      obtain ⟨w, e1, r1⟩ := h.obj i x o' e ea
      exact ⟨w, by rw [upd_ne (ne_of_none e1 hp)]; exact e1, r1.mono (Pre.snoc ρ p)⟩
    · have hi2 : i = ρ.length := by
        have := (List.getElem?_eq_some_iff.mp e).1
        rw [List.length_append] at this
        simp at this
        omega
      subst hi2
      rw [List.getElem?_append_right (Nat.le_refl _), Nat.sub_self] at e
      rw [h.len, List.getElem?_append_right (Nat.le_refl _), Nat.sub_self] at ea
      simp at e ea
      subst e ea
      exact ⟨u, upd_same, r⟩
  · rw [List.nodup_append]
    exact ⟨h.nd, by simp, fun a ha b hb => by
      have e : b = p := by simpa using hb
      subst e
      intro z
      subst z
      exact hn ha⟩
  · have e1 := h.fr a v e
    rw [upd_ne (ne_of_none e1 hp)]
    exact e1
  · rcases List.mem_append.mp hx with hx | hx
    · exact h.nf x hx
    · have e : x = p := by simpa using hx
      subst e
      exact h.freshF hp
/-- an object is changed -/
theorem RH.put (h : RH G F ρ A H) {i : Nat} {p : Addr} {u : HO} {o : AO} (e : ρ[i]? = some p) (r : RO G ρ o u) : RH G F ρ (A.set i o) (upd H p u) := by
  refine ⟨by rw [List.length_set]; exact h.len, fun j x o' ej ea => ?_, h.nd, fun a v ea => ?_, h.nf⟩
  · by_cases hj : j = i
    · subst hj
      rw [e] at ej
      cases ej
      have hl : j < A.length := by
        rw [← h.len]
        exact (List.getElem?_eq_some_iff.mp e).1
      rw [List.getElem?_set_self hl] at ea
      cases ea
      exact ⟨u, upd_same, r⟩
    · rw [List.getElem?_set_ne (Ne.symm hj)] at ea
      obtain ⟨w, e1, r1⟩ := h.obj j x o' ej ea
      refine ⟨w, ?_, r1⟩
      rw [upd_ne ?_]
      · exact e1
      · intro z
        subst z
        exact hj (by
          obtain ⟨h1, e1⟩ := List.getElem?_eq_some_iff.mp ej
          obtain ⟨h2, e2⟩ := List.getElem?_eq_some_iff.mp e
          exact (List.getElem_inj h.nd).mp (e1.trans e2.symm))
  · have hf : F p = none := h.nf p (List.mem_of_getElem? e)
    rw [upd_ne ?_]
    · exact h.fr a v ea
    · intro z
      subst z
      rw [hf] at ea
      cases ea
end

/-! ### what an outcome says -/
/-- an exception's dict and what it holds -/
def RX (G : GP) (ρ : List Addr) (p : Option (FN × AV)) (d : Option Addr) (H : Hp) : Prop :=
  match p with
  | none => d = none
  | some (f, a) => ∃ dd v, d = some dd ∧ H dd = some (.xd [(f.str, v)]) ∧ RV G ρ a v
def Post (G : GP) (E : XK) (F : Hp) (ρ : List Addr) {α : Type} (K : List Addr → α → List AO → Hp → Prop) : Rs α → Prop
  | .ok a A => ∀ ρ' H, Pre ρ ρ' → RH G F ρ' A H → K ρ' a A H
  | .ex c p A => ∀ ρ' H d, Pre ρ ρ' → RH G F ρ' A H → RX G ρ' p d H → E (.ref (G.xA c)) d H
  | .no => False
/-- from inside a run: the outcome has come -/
def Now (G : GP) (E : XK) (F : Hp) (ρ : List Addr) (H : Hp) {α : Type} (K : List Addr → α → List AO → Hp → Prop) : Prop := True
section
variable {G : GP} {E : XK} {F : Hp} {ρ ρ' : List Addr} {α β : Type} {K : List Addr → α → List AO → Hp → Prop} {r : Rs α}
theorem Post.pre (h : Post G E F ρ K r) (p : Pre ρ ρ') : Post G E F ρ' K r := by
  cases r with
  | ok a A => exact fun ρ2 H p2 rh => h ρ2 H (p.trans p2) rh
  | ex c x A => exact fun ρ2 H d p2 rh rx => h ρ2 H d (p.trans p2) rh rx
  | no => exact h
theorem Post.mono {K' : List Addr → α → List AO → Hp → Prop} (h : Post G E F ρ K r) (k : ∀ ρ' a A H, Pre ρ ρ' → RH G F ρ' A H → K ρ' a A H → K' ρ' a A H) : Post G E F ρ K' r := by
  cases r with
  | ok a A => exact fun ρ2 H p2 rh => k ρ2 a A H p2 rh (h ρ2 H p2 rh)
  | ex c x A => exact h
  | no => exact h
theorem Post.bind {f : α → List AO → Rs β} {K : List Addr → β → List AO → Hp → Prop} (h : Post G E F ρ K (r.bind f)) : Post G E F ρ (fun ρ' a A _ => Post G E F ρ' K (f a A)) r := by
  cases r with
  | ok a A => exact fun ρ2 H p2 rh => Post.pre h p2
  | ex c x A => exact h
  | no => exact h
end

/-! ### readings -/
abbrev EV := List (Option AV) → List AO → Rs AV
abbrev EA := List (Option AV) → List AO → Rs (List AV)
inductive Fl where
  | nx (σ : List (Option AV)) | rt (a : AV) | bk (σ : List (Option AV)) | ct (σ : List (Option AV))
abbrev EVS := List (Option AV) → List AO → Rs Fl
abbrev ETG := AV → List (Option AV) → List AO → Rs (List (Option AV))
section
variable (G : GP) (E : XK)
abbrev KV (Q : VK) : List Addr → AV → List AO → Hp → Prop := fun ρ a _ H => ∀ v, RV G ρ a v → Q v H
def tE (ev : EV) : TE := fun σ H Q => ∃ F ρ σa A, RS G ρ σa σ ∧ RH G F ρ A H ∧ Post G E F ρ (KV G Q) (ev σa A)
abbrev KB (Q : Bool → Hp → Prop) : List Addr → AV → List AO → Hp → Prop := fun ρ a _ H => ∃ b, a = .bl b ∧ Q b H
def tT (ev : EV) : TT := fun σ H Q => ∃ F ρ σa A, RS G ρ σa σ ∧ RH G F ρ A H ∧ Post G E F ρ (KB Q) (ev σa A)
abbrev KA (Q : List V → Hp → Prop) : List Addr → List AV → List AO → Hp → Prop := fun ρ a _ H => ∀ v, RVs G ρ a v → Q v H
def tA (ev : EA) : TA := fun σ H Q => ∃ F ρ σa A, RS G ρ σa σ ∧ RH G F ρ A H ∧ Post G E F ρ (KA G Q) (ev σa A)
abbrev KF (D : Ends) : List Addr → Fl → List AO → Hp → Prop := fun ρ f _ H => match f with
  | .nx σa => ∀ σ, RS G ρ σa σ → D.nx σ H
  | .rt a => ∀ v, RV G ρ a v → D.rt v H
  | .bk σa => ∀ σ, RS G ρ σa σ → D.bk σ H
  | .ct σa => ∀ σ, RS G ρ σa σ → D.ct σ H
def tS (ev : EVS) : TS := fun D σ H => ∃ F ρ σa A, RS G ρ σa σ ∧ RH G F ρ A H ∧ Post G E F ρ (KF G D) (ev σa A)
abbrev KS (Q : St → Hp → Prop) : List Addr → List (Option AV) → List AO → Hp → Prop := fun ρ σa _ H => ∀ σ, RS G ρ σa σ → Q σ H
def tG (ev : ETG) : TG := fun v σ H Q => ∃ F ρ σa A a, RS G ρ σa σ ∧ RH G F ρ A H ∧ RV G ρ a v ∧ Post G E F ρ (KS G Q) (ev a σa A)
end
section
variable {G : GP} {E : XK} {F : Hp} {ρ : List Addr} {σa : List (Option AV)} {A : List AO} {σ : St} {H : Hp}
/-- to run a reading from a state that is described -/
theorem tE_run {ev : EV} {Q : VK} (hs : RS G ρ σa σ) (hh : RH G F ρ A H) (h : Post G E F ρ (KV G Q) (ev σa A)) : tE G E ev σ H Q := ⟨F, ρ, σa, A, hs, hh, h⟩
theorem tT_run {ev : EV} {Q : Bool → Hp → Prop} (hs : RS G ρ σa σ) (hh : RH G F ρ A H) (h : Post G E F ρ (KB Q) (ev σa A)) : tT G E ev σ H Q := ⟨F, ρ, σa, A, hs, hh, h⟩
theorem tA_run {ev : EA} {Q : List V → Hp → Prop} (hs : RS G ρ σa σ) (hh : RH G F ρ A H) (h : Post G E F ρ (KA G Q) (ev σa A)) : tA G E ev σ H Q := ⟨F, ρ, σa, A, hs, hh, h⟩
theorem tS_run {ev : EVS} {D : Ends} (hs : RS G ρ σa σ) (hh : RH G F ρ A H) (h : Post G E F ρ (KF G D) (ev σa A)) : tS G E ev D σ H := ⟨F, ρ, σa, A, hs, hh, h⟩
/-- an expression, then the rest: the rest is told from what is described behind it -/
theorem tE_then {β : Type} {ev : EV} {Q : VK} {f : AV → List AO → Rs β} {K : List Addr → β → List AO → Hp → Prop} (hs : RS G ρ σa σ) (hh : RH G F ρ A H) (h : Post G E F ρ K ((ev σa A).bind f))
    (k : ∀ ρ' a A' v H', Pre ρ ρ' → RS G ρ' σa σ → RH G F ρ' A' H' → RV G ρ' a v → Post G E F ρ' K (f a A') → Q v H') : tE G E ev σ H Q :=
  ⟨F, ρ, σa, A, hs, hh, h.bind.mono fun ρ' a A' H' p rh q v rv => k ρ' a A' v H' p (RS.mono hs p) rh rv q⟩
theorem tA_then {β : Type} {ev : EA} {Q : List V → Hp → Prop} {f : List AV → List AO → Rs β} {K : List Addr → β → List AO → Hp → Prop} (hs : RS G ρ σa σ) (hh : RH G F ρ A H) (h : Post G E F ρ K ((ev σa A).bind f))
    (k : ∀ ρ' a A' v H', Pre ρ ρ' → RS G ρ' σa σ → RH G F ρ' A' H' → RVs G ρ' a v → Post G E F ρ' K (f a A') → Q v H') : tA G E ev σ H Q :=
  ⟨F, ρ, σa, A, hs, hh, h.bind.mono fun ρ' a A' H' p rh q v rv => k ρ' a A' v H' p (RS.mono hs p) rh rv q⟩
theorem tT_then {β : Type} {ev : EV} {Q : Bool → Hp → Prop} {f : AV → List AO → Rs β} {K : List Addr → β → List AO → Hp → Prop} (hs : RS G ρ σa σ) (hh : RH G F ρ A H) (h : Post G E F ρ K ((ev σa A).bind f))
    (hb : ∀ a A', (∀ b, a ≠ .bl b) → f a A' = .no)
    (k : ∀ ρ' b A' H', Pre ρ ρ' → RS G ρ' σa σ → RH G F ρ' A' H' → Post G E F ρ' K (f (.bl b) A') → Q b H') : tT G E ev σ H Q :=
  ⟨F, ρ, σa, A, hs, hh, h.bind.mono fun ρ' a A' H' p rh q => by
    cases a with
    | bl b => exact ⟨b, rfl, k ρ' b A' H' p (RS.mono hs p) rh q⟩
    | _ =>
      rw [hb _ _ (by intro b z; cases z)] at q
      exact q.elim⟩
/-- to be where an outcome is -/
theorem Post.now {α : Type} {K : List Addr → α → List AO → Hp → Prop} {a : α} (h : Post G E F ρ K (.ok a A)) (hh : RH G F ρ A H) : K ρ a A H := h ρ H (Pre.refl ρ) hh
theorem Post.at {α : Type} {K : List Addr → α → List AO → Hp → Prop} {a : α} {ρ' : List Addr} (h : Post G E F ρ K (.ok a A)) (p : Pre ρ ρ') (hh : RH G F ρ' A H) : K ρ' a A H := h ρ' H p hh
end
theorem PE.imp {X : Cx} {e : Expr} {t u : TE} (h : PE X e t) (k : ∀ σ H Q, u σ H Q → t σ H Q) : PE X e u := ⟨fun pins s σ H Q I hw => h.run pins s σ H Q I (k σ H Q hw)⟩
theorem PT.imp {X : Cx} {e : Expr} {t u : TT} (h : PT X e t) (k : ∀ σ H Q, u σ H Q → t σ H Q) : PT X e u := ⟨fun pins s σ H Q I hw => h.run pins s σ H Q I (k σ H Q hw)⟩
theorem PW.imp {X : Cx} {e : Expr} {t u : TT} (h : PW X e t) (k : ∀ σ H Q, u σ H Q → t σ H Q) : PW X e u := ⟨fun wh pins s σ H Q I hw => h.run wh pins s σ H Q I (k σ H Q hw)⟩
theorem PA.imp {X : Cx} {e : List Expr} {t u : TA} (h : PA X e t) (k : ∀ σ H Q, u σ H Q → t σ H Q) : PA X e u := ⟨fun pos pins s σ H Q I hw => h.run pos pins s σ H Q I (k σ H Q hw)⟩
theorem PS.imp {X : Cx} {e : Stmt} {t u : TS} (h : PS X e t) (k : ∀ D σ H, u D σ H → t D σ H) : PS X e u := ⟨fun pins s σ H D I hw => h.run pins s σ H D I (k D σ H hw)⟩
theorem PSs.imp {X : Cx} {e : List Stmt} {t u : TS} (h : PSs X e t) (k : ∀ D σ H, u D σ H → t D σ H) : PSs X e u := ⟨fun pins s σ H D I hw => h.run pins s σ H D I (k D σ H hw)⟩
theorem PG.imp {X : Cx} {e : Expr} {t u : TG} (h : PG X e t) (k : ∀ v σ H Q, u v σ H Q → t v σ H Q) : PG X e u := ⟨fun pins s σ H v w Q I r hw => h.run pins s σ H v w Q I r (k v σ H Q hw)⟩
end AE

namespace AE
open PySem L2
theorem szl {n : Nat} (h : n ≤ 100000) : n ≤ sizeLine := Nat.le_trans h (by decide)
theorem szlt {n : Nat} (h : n < 100000) : n < sizeLine := Nat.lt_of_lt_of_le h (by decide)

/-! ### ints c + k q -/
def lt0 (c k : Int) : Option Bool := if c < 0 ∧ k ≤ 0 then some true else if 0 ≤ c ∧ 0 ≤ k then some false else none
def eq0 (c k : Int) : Option Bool := if k = 0 then some (decide (c = 0)) else if 0 < c ∧ 0 ≤ k then some false else if c < 0 ∧ k ≤ 0 then some false else none
section
variable {G : GP} {c k d l : Int} {b : Bool}
theorem lt0_ok (h : lt0 c k = some b) : decide (c + k * G.q < 0) = b := by
  have hq := G.q0
  unfold lt0 at h
  split at h
  · rename_i hc
    have : k * G.q ≤ 0 := Int.mul_nonpos_of_nonpos_of_nonneg hc.2 hq
    cases h
    exact decide_eq_true (by omega)
  · split at h
    · rename_i hc
      have : 0 ≤ k * G.q := Int.mul_nonneg hc.2 hq
      cases h
      exact decide_eq_false (by omega)
    · cases h
theorem eq0_ok (h : eq0 c k = some b) : decide (c + k * G.q = 0) = b := by
  have hq := G.q0
  unfold eq0 at h
  split at h
  · rename_i hc
    subst hc
    cases h
    rw [Int.zero_mul, Int.add_zero]
  · split at h
    · rename_i hc
      have : 0 ≤ k * G.q := Int.mul_nonneg hc.2 hq
      cases h
      exact decide_eq_false (by omega)
    · split at h
      · rename_i hc
        have : k * G.q ≤ 0 := Int.mul_nonpos_of_nonpos_of_nonneg hc.2 hq
        cases h
        exact decide_eq_false (by omega)
      · cases h
theorem sub_q : (c + k * G.q) - (d + l * G.q) = (c - d) + (k - l) * G.q := by rw [Int.sub_mul]; omega
theorem add_q : (c + k * G.q) + (d + l * G.q) = (c + d) + (k + l) * G.q := by rw [Int.add_mul]; omega
theorem lt_q (h : lt0 (c - d) (k - l) = some b) : decide (c + k * G.q < d + l * G.q) = b := by
  have e := lt0_ok (G := G) h
  rw [← e, ← sub_q]
  exact decide_eq_decide.mpr (by omega)
theorem eq_q (h : eq0 (c - d) (k - l) = some b) : decide (c + k * G.q = d + l * G.q) = b := by
  have e := eq0_ok (G := G) h
  rw [← e, ← sub_q]
  exact decide_eq_decide.mpr (by omega)
theorem int_q : (V.int c) = V.int (c + 0 * G.q) := by rw [Int.zero_mul, Int.add_zero]
theorem rv_int {ρ : List Addr} : RV G ρ (.int c 0) (.int c) := int_q
theorem rv_str {ρ : List Addr} {l : List Nat} {x : Str} (h : x = ⟨l.toArray⟩) : RV G ρ (.str l) (.str x) := by rw [h]; rfl
end

/-! ### combinators -/
def evC (v : AV) : EV := fun _ A => .ok v A
def evVar (i : Nat) : EV := fun σ A => match σ[i]? with | some (some v) => .ok v A | _ => .no
def evB (f : AV → AV → List AO → Rs AV) (a b : EV) : EV := fun σ A => (a σ A).bind fun x A1 => (b σ A1).bind fun y A2 => f x y A2
def evU (f : AV → List AO → Rs AV) (a : EV) : EV := fun σ A => (a σ A).bind fun x A1 => f x A1
def eaN : EA := fun _ A => .ok [] A
def eaC (a : EV) (r : EA) : EA := fun σ A => (a σ A).bind fun x A1 => (r σ A1).bind fun xs A2 => .ok (x :: xs) A2
def evN (f : List AV → List AO → Rs AV) (a : EA) : EV := fun σ A => (a σ A).bind fun x A1 => f x A1
def isB (f : Bool → List AO → Rs AV) : AV → List AO → Rs AV := fun x A => match x with | .bl b => f b A | _ => .no
def evAnd (a b : EV) : EV := fun σ A => (a σ A).bind (isB fun x A1 => if x then b σ A1 else .ok (.bl false) A1)
def evOr (a b : EV) : EV := fun σ A => (a σ A).bind (isB fun x A1 => if x then .ok (.bl true) A1 else b σ A1)
def evNot (a : EV) : EV := fun σ A => (a σ A).bind (isB fun x A1 => .ok (.bl (!x)) A1)
def evChain (f g : AV → AV → List AO → Rs AV) (a b c : EV) : EV := fun σ A => (a σ A).bind fun x A1 => (b σ A1).bind fun y A2 => (f x y A2).bind (isB fun k A3 => if k then (c σ A3).bind fun z A4 => g y z A4 else .ok (.bl false) A3)

section
variable (G : GP)
def R2Ok (f : AV → AV → List AO → Rs AV) (r : R2) : Prop := ∀ (E : XK) F ρ A H x y v u (Q : VK), RH G F ρ A H → RV G ρ x v → RV G ρ y u → Post G E F ρ (AE.KV G Q) (f x y A) → r v u H Q
def R1Ok (f : AV → List AO → Rs AV) (r : V → Hp → VK → Prop) : Prop := ∀ (E : XK) F ρ A H x v (Q : VK), RH G F ρ A H → RV G ρ x v → Post G E F ρ (AE.KV G Q) (f x A) → r v H Q
def RNOk (f : List AV → List AO → Rs AV) (r : List V → Hp → VK → Prop) : Prop := ∀ (E : XK) F ρ A H xs vs (Q : VK), RH G F ρ A H → RVs G ρ xs vs → Post G E F ρ (AE.KV G Q) (f xs A) → r vs H Q
end

section
variable {G : GP} {E : XK} {σ : St} {H : Hp} {X : Cx} {a b c : Expr} {pos : Pos} {ea eb ec : EV}
theorem isB_no {f : Bool → List AO → Rs AV} : ∀ a A, (∀ b, a ≠ .bl b) → isB f a A = .no := fun a A h => by
  cases a with
  | bl b => exact absurd rfl (h b)
  | _ => rfl
theorem sim_op {f : AV → AV → List AO → Rs AV} {r : R2} {Q : VK} (hf : R2Ok G f r) (h : tE G E (evB f ea eb) σ H Q) : tOp r (tE G E ea) (tE G E eb) σ H Q := by
  obtain ⟨F, ρ, σa, A, hs, hh, h⟩ := h
  refine tE_then hs hh h fun ρ1 x A1 v H1 p1 hs1 hh1 rv1 h1 => ?_
  refine tE_then hs1 hh1 h1 fun ρ2 y A2 u H2 p2 hs2 hh2 rv2 h2 => ?_
  exact hf E F ρ2 A2 H2 x y v u Q hh2 (rv1.mono p2) rv2 h2
theorem sim_un {f : AV → List AO → Rs AV} {r : V → Hp → VK → Prop} {Q : VK} (hf : R1Ok G f r) (h : tE G E (evU f ea) σ H Q) : tUn r (tE G E ea) σ H Q := by
  obtain ⟨F, ρ, σa, A, hs, hh, h⟩ := h
  refine tE_then hs hh h fun ρ1 x A1 v H1 p1 hs1 hh1 rv1 h1 => ?_
  exact hf E F ρ1 A1 H1 x v Q hh1 rv1 h1
theorem sim_cb {f : List AV → List AO → Rs AV} {r : List V → Hp → VK → Prop} {Q : VK} {es : EA} (hf : RNOk G f r) (h : tE G E (evN f es) σ H Q) : tCB r (tA G E es) σ H Q := by
  obtain ⟨F, ρ, σa, A, hs, hh, h⟩ := h
  refine tA_then hs hh h fun ρ1 x A1 v H1 p1 hs1 hh1 rv1 h1 => ?_
  exact hf E F ρ1 A1 H1 x v Q hh1 rv1 h1
/-- a value's reading as a test's -/
theorem sim_b {Q : Bool → Hp → Prop} (h : tT G E ea σ H Q) : tE G E ea σ H fun x H1 => ∃ c, x = .bl c ∧ Q c H1 := by
  obtain ⟨F, ρ, σa, A, hs, hh, h⟩ := h
  refine tE_run hs hh (h.mono fun ρ' a A' H' p rh q v rv => ?_)
  obtain ⟨b, rfl, q⟩ := q
  exact ⟨b, rv, q⟩
theorem sim_b2 {ev : EV} {t : TE} {Q : Bool → Hp → Prop} (k : ∀ Q, tE G E ev σ H Q → t σ H Q) (h : tT G E ev σ H Q) : tTest t σ H Q := k _ (sim_b h)
theorem sim_bB {ev : EV} {t : TE} {Q : Bool → Hp → Prop} (k : ∀ Q, tE G E ev σ H Q → t σ H Q) (h : tT G E ev σ H Q) : tB t σ H Q := k _ (sim_b h)

/-! ### names, constants -/
theorem se_c {e : Expr} {v : V} {av : AV} (h : PE X e (tC v)) (r : ∀ ρ, RV G ρ av v) : PE X e (tE G E (evC av)) := PE.imp h fun σ H Q q => by
  obtain ⟨F, ρ, σa, A, hs, hh, q⟩ := q
  exact q.now hh v (r ρ)
theorem se_int {i : Int} {j pos} : PE X (.Constant (.int i) j pos) (tE G E (evC (.int i 0))) := se_c pe_int fun _ => rv_int
theorem se_bl {b j pos} : PE X (.Constant (.bool b) j pos) (tE G E (evC (.bl b))) := se_c pe_bl fun _ => rfl
theorem se_non {j pos} : PE X (.Constant .none j pos) (tE G E (evC .non)) := se_c pe_non fun _ => rfl
theorem se_str {x : Str} {j pos} {l : List Nat} (h : x = ⟨l.toArray⟩) : PE X (.Constant (.str x) j pos) (tE G E (evC (.str l))) := se_c pe_str fun _ => rv_str h
theorem sim_var {i : Nat} {Q : VK} (h : tE G E (evVar i) σ H Q) : tVar i σ H Q := by
  obtain ⟨F, ρ, σa, A, hs, hh, h⟩ := h
  unfold evVar at h
  split at h
  · rename_i v e
    obtain ⟨o, eo, r⟩ := P2.get hs e
    obtain ⟨w, ew, rw'⟩ := r
    subst ew
    exact ⟨w, eo, h.now hh w rw'⟩
  · exact h.elim
theorem se_var {i : Nat} {x : Str} {pos : Pos} (hN : X.N[i]? = some x) (hv : Vis X.env.scope x) (hd : (x == ("__debug__" : Str)) = false := by decide) (hcd : (x == ("__classdict__" : Str)) = false := by decide) : PE X (.Name x pos) (tE G E (evVar i)) :=
  PE.imp (pe_var hN hv hd hcd) fun _ _ _ => sim_var

/-! ### two places -/
theorem se_op {op : Operator} {r : R2} {f : AV → AV → List AO → Rs AV} (ho : OpR X (binaryOp op) r) (hf : R2Ok G f r) (ha : PE X a (tE G E ea)) (hb : PE X b (tE G E eb)) : PE X (.BinOp a op b pos) (tE G E (evB f ea eb)) :=
  PE.imp (pe_op ho ha hb) fun _ _ _ => sim_op hf
theorem se_cmp {op : CmpOp} {r : R2} {f : AV → AV → List AO → Rs AV} (ho : OpR X (compareOp op) r) (hf : R2Ok G f r) (ha : PE X a (tE G E ea)) (hb : PE X b (tE G E eb)) (hm : behindInMarks op b = false) : PE X (.Compare a [op] [b] pos) (tE G E (evB f ea eb)) :=
  PE.imp (pe_cmpR ho ha hb hm) fun _ _ _ => sim_op hf
theorem st_cmp {op : CmpOp} {r : R2} {f : AV → AV → List AO → Rs AV} (ho : OpR X (compareOp op) r) (hf : R2Ok G f r) (ha : PE X a (tE G E ea)) (hb : PE X b (tE G E eb)) (hm : behindInMarks op b = false) : PT X (.Compare a [op] [b] pos) (tT G E (evB f ea eb)) :=
  PT.imp (pt_cmpR ho ha hb hm) fun _ _ _ => sim_b2 fun _ => sim_op hf
theorem se_un {op : UnaryOp} {r : V → Hp → VK → Prop} {f : AV → List AO → Rs AV} (ho : UnR X (unaryOp op) r) (hf : R1Ok G f r) (ha : PE X a (tE G E ea)) : PE X (.UnaryOp op a pos) (tE G E (evU f ea)) :=
  PE.imp (pe_un ho ha) fun _ _ _ => sim_un hf
theorem st_val {e : Expr} (h : PE X e (tE G E ea)) (he : ∀ whole, isTrue e X.env whole = (do let v ← whole; standAt e.pos; holding [v] (truthy v)) := by intro _; rfl) : PT X e (tT G E ea) :=
  PT.imp (pt_val h he) fun _ _ _ => sim_bB fun _ q => q

/-! ### and, or, not -/
theorem sim_and {Q : Bool → Hp → Prop} (h : tT G E (evAnd ea eb) σ H Q) : tAnd (tT G E ea) (tT G E eb) σ H Q := by
  obtain ⟨F, ρ, σa, A, hs, hh, h⟩ := h
  refine tT_then hs hh h isB_no fun ρ1 k A1 H1 p1 hs1 hh1 h1 => ?_
  cases k with
  | true =>
    show tT G E eb σ H1 Q
    exact tT_run hs1 hh1 h1
  | false =>
    show Q false H1
    obtain ⟨b, e, q⟩ := h1.now hh1
    cases e
    exact q
theorem sim_or {Q : Bool → Hp → Prop} (h : tT G E (evOr ea eb) σ H Q) : tOr (tT G E ea) (tT G E eb) σ H Q := by
  obtain ⟨F, ρ, σa, A, hs, hh, h⟩ := h
  refine tT_then hs hh h isB_no fun ρ1 k A1 H1 p1 hs1 hh1 h1 => ?_
  cases k with
  | false =>
    show tT G E eb σ H1 Q
    exact tT_run hs1 hh1 h1
  | true =>
    show Q true H1
    obtain ⟨b, e, q⟩ := h1.now hh1
    cases e
    exact q
theorem sim_not {Q : Bool → Hp → Prop} (h : tT G E (evNot ea) σ H Q) : tNot (tT G E ea) σ H Q := by
  obtain ⟨F, ρ, σa, A, hs, hh, h⟩ := h
  refine tT_then hs hh h isB_no fun ρ1 k A1 H1 p1 hs1 hh1 h1 => ?_
  obtain ⟨b, e, q⟩ := h1.now hh1
  cases e
  exact q
theorem sw_and {rest : List Expr} (ha : PT X a (tT G E ea)) (hb : PW X (.BoolOp .And (b :: rest) pos) (tT G E eb)) : PW X (.BoolOp .And (a :: b :: rest) pos) (tT G E (evAnd ea eb)) := PW.imp (pw_and ha hb) fun _ _ _ => sim_and
theorem sw_or {rest : List Expr} (ha : PT X a (tT G E ea)) (hb : PW X (.BoolOp .Or (b :: rest) pos) (tT G E eb)) : PW X (.BoolOp .Or (a :: b :: rest) pos) (tT G E (evOr ea eb)) := PW.imp (pw_or ha hb) fun _ _ _ => sim_or
theorem st_not (ha : PT X a (tT G E ea)) : PT X (.UnaryOp .Not a pos) (tT G E (evNot ea)) := PT.imp (pt_not ha) fun _ _ _ => sim_not
theorem sim_andV {Q : VK} (h : tE G E (evAnd ea eb) σ H Q) : tAndV (tE G E ea) (tE G E eb) σ H Q := by
  obtain ⟨F, ρ, σa, A, hs, hh, h⟩ := h
  refine tE_then hs hh h fun ρ1 x A1 v H1 p1 hs1 hh1 rv h1 => ?_
  cases x with
  | bl k =>
    refine ⟨k, rv, ?_⟩
    cases k with
    | true =>
      show tE G E eb σ H1 Q
      exact tE_run hs1 hh1 h1
    | false =>
      show Q (.bl false) H1
      exact h1.now hh1 _ rfl
  | _ => exact h1.elim
theorem sim_orV {Q : VK} (h : tE G E (evOr ea eb) σ H Q) : tOrV (tE G E ea) (tE G E eb) σ H Q := by
  obtain ⟨F, ρ, σa, A, hs, hh, h⟩ := h
  refine tE_then hs hh h fun ρ1 x A1 v H1 p1 hs1 hh1 rv h1 => ?_
  cases x with
  | bl k =>
    refine ⟨k, rv, ?_⟩
    cases k with
    | false =>
      show tE G E eb σ H1 Q
      exact tE_run hs1 hh1 h1
    | true =>
      show Q (.bl true) H1
      exact h1.now hh1 _ rfl
  | _ => exact h1.elim
theorem se_and {rest : List Expr} (ha : PE X a (tE G E ea)) (hb : PE X (.BoolOp .And (b :: rest) pos) (tE G E eb)) : PE X (.BoolOp .And (a :: b :: rest) pos) (tE G E (evAnd ea eb)) := PE.imp (pe_and ha hb) fun _ _ _ => sim_andV
theorem se_or {rest : List Expr} (ha : PE X a (tE G E ea)) (hb : PE X (.BoolOp .Or (b :: rest) pos) (tE G E eb)) : PE X (.BoolOp .Or (a :: b :: rest) pos) (tE G E (evOr ea eb)) := PE.imp (pe_or ha hb) fun _ _ _ => sim_orV
theorem sim_chain {f g : AV → AV → List AO → Rs AV} {r r' : R2} {Q : VK} (hf : R2Ok G f r) (hg : R2Ok G g r') (h : tE G E (evChain f g ea eb ec) σ H Q) : tChain r r' (tE G E ea) (tE G E eb) (tE G E ec) σ H Q := by
  obtain ⟨F, ρ, σa, A, hs, hh, h⟩ := h
  refine tE_then hs hh h fun ρ1 x A1 v H1 p1 hs1 hh1 rv1 h1 => ?_
  refine tE_then hs1 hh1 h1 fun ρ2 y A2 u H2 p2 hs2 hh2 rv2 h2 => ?_
  refine hf E F ρ2 A2 H2 x y v u _ hh2 (rv1.mono p2) rv2 (h2.bind.mono fun ρ3 z A3 H3 p3 hh3 h3 w rw3 => ?_)
  cases z with
  | bl k =>
    refine ⟨k, rw3, ?_⟩
    cases k with
    | false => exact h3.now hh3 _ rfl
    | true =>
      show tE G E ec σ H3 _
      refine tE_then (RS.mono hs2 p3) hh3 h3 fun ρ4 z A4 w4 H4 p4 hs4 hh4 rv4 h4 => ?_
      exact hg E F ρ4 A4 H4 y z u w4 Q hh4 ((rv2.mono p3).mono p4) rv4 h4
  | _ => exact h3.elim
theorem se_chain {op op' : CmpOp} {f g : AV → AV → List AO → Rs AV} {r r' : R2} (ho : OpR X (compareOp op) r) (ho' : OpR X (compareOp op') r') (hf : R2Ok G f r) (hg : R2Ok G g r') (ha : PE X a (tE G E ea)) (hb : PE X b (tE G E eb)) (hc : PE X c (tE G E ec))
    (hm : lastMarks [op, op'] [b, c] = false := by with_unfolding_all rfl) : PE X (.Compare a [op, op'] [b, c] pos) (tE G E (evChain f g ea eb ec)) := PE.imp (pe_chain ho ho' ha hb hc hm) fun _ _ _ => sim_chain hf hg
theorem st_chain {op op' : CmpOp} {f g : AV → AV → List AO → Rs AV} {r r' : R2} (ho : OpR X (compareOp op) r) (ho' : OpR X (compareOp op') r') (hf : R2Ok G f r) (hg : R2Ok G g r') (ha : PE X a (tE G E ea)) (hb : PE X b (tE G E eb)) (hc : PE X c (tE G E ec))
    (hm : lastMarks [op, op'] [b, c] = false := by with_unfolding_all rfl) : PT X (.Compare a [op, op'] [b, c] pos) (tT G E (evChain f g ea eb ec)) := PT.imp (pt_chain ho ho' ha hb hc hm) fun _ _ _ => sim_b2 fun _ => sim_chain hf hg

/-! ### argument lists -/
theorem sa_nil : PA X [] (tA G E eaN) := PA.imp pa_nil fun σ H Q q => by
  obtain ⟨F, ρ, σa, A, hs, hh, q⟩ := q
  exact q.now hh [] .nil
theorem sim_cons {er : EA} {Q : List V → Hp → Prop} (h : tA G E (eaC ea er) σ H Q) : tCons (tE G E ea) (tA G E er) σ H Q := by
  obtain ⟨F, ρ, σa, A, hs, hh, h⟩ := h
  refine tE_then hs hh h fun ρ1 x A1 v H1 p1 hs1 hh1 rv1 h1 => ?_
  refine tA_then hs1 hh1 h1 fun ρ2 y A2 u H2 p2 hs2 hh2 rv2 h2 => ?_
  exact h2.now hh2 _ (.cons (rv1.mono p2) rv2)
theorem sa_cons {e : Expr} {es : List Expr} {er : EA} (ha : PE X e (tE G E ea)) (hr : PA X es (tA G E er)) (hs : starEach (e :: es) X.env = (false, eval e X.env) :: starEach es X.env := by rfl) : PA X (e :: es) (tA G E (eaC ea er)) :=
  PA.imp (pa_cons ha hr hs) fun _ _ _ => sim_cons

/-! ### displays -/
def newO (o : AO) (A : List AO) : Rs AV := .ok (.ref A.length) (A ++ [o])
def fTup (xs : List AV) (A : List AO) : Rs AV := if xs.length ≤ 100000 then newO (.tup xs) A else .no
def fLst (xs : List AV) (A : List AO) : Rs AV := if xs.length ≤ 100000 then newO (.lst xs) A else .no
theorem new_ok {F : Hp} {ρ : List Addr} {A : List AO} {Q : VK} {o : AO} {u : HO} {p : Addr} (h : Post G E F ρ (AE.KV G Q) (newO o A)) (hh : RH G F ρ A H) (hp : H p = none) (r : RO G (ρ ++ [p]) o u) : Q (.ref p) (upd H p u) :=
  Post.at (ρ' := ρ ++ [p]) h (Pre.snoc ρ p) (hh.new hp r) _ ⟨p, by rw [← hh.len, List.getElem?_append_right (Nat.le_refl _), Nat.sub_self]; rfl, rfl⟩
theorem sim_tup {es : EA} {Q : VK} (h : tE G E (evN fTup es) σ H Q) : tTup (tA G E es) σ H Q := by
  obtain ⟨F, ρ, σa, A, hs, hh, h⟩ := h
  refine tA_then hs hh h fun ρ1 x A1 v H1 p1 hs1 hh1 rv1 h1 => ?_
  unfold fTup at h1
  split at h1
  · rename_i hl
    rw [P2.len rv1] at hl
    exact ⟨szl hl, fun p hp => new_ok h1 hh1 hp ⟨v, rfl, RVs.mono rv1 (Pre.snoc _ _)⟩⟩
  · exact h1.elim
theorem sim_lst {es : EA} {Q : VK} (h : tE G E (evN fLst es) σ H Q) : tLst (tA G E es) σ H Q := by
  obtain ⟨F, ρ, σa, A, hs, hh, h⟩ := h
  refine tA_then hs hh h fun ρ1 x A1 v H1 p1 hs1 hh1 rv1 h1 => ?_
  unfold fLst at h1
  split at h1
  · rename_i hl
    rw [P2.len rv1] at hl
    exact ⟨szl hl, fun p hp => new_ok h1 hh1 hp ⟨v, rfl, RVs.mono rv1 (Pre.snoc _ _)⟩⟩
  · exact h1.elim
theorem se_tup {es : List Expr} {ee : EA} {x1} (h : PA X es (tA G E ee)) : PE X (.Tuple es x1 pos) (tE G E (evN fTup ee)) := PE.imp (pe_tup h) fun _ _ _ => sim_tup
theorem se_lst {es : List Expr} {ee : EA} (h : PA X es (tA G E ee)) : PE X (.List es pos) (tE G E (evN fLst ee)) := PE.imp (pe_lst h) fun _ _ _ => sim_lst
theorem se_dnew : PE X (.Dict [] [] pos) (tE G E (fun _ A => newO (.dic []) A)) := PE.imp pe_dnewK fun σ H Q q p hp => by
  obtain ⟨F, ρ, σa, A, hs, hh, q⟩ := q
  exact new_ok q hh hp ⟨[], rfl, .nil⟩
end
end AE

namespace AE
open PySem L2

/-! ### arithmetic, texts -/
def addV (x y : AV) (A : List AO) : Rs AV := match x, y with
  | .int c k, .int d l => .ok (.int (c + d) (k + l)) A
  | .str a, .str b => if a.length + b.length ≤ 100000 then .ok (.str (a ++ b)) A else .no
  | _, _ => .no
def subV (x y : AV) (A : List AO) : Rs AV := match x, y with
  | .int c k, .int d l => .ok (.int (c - d) (k - l)) A
  | _, _ => .no
def modV (x y : AV) (A : List AO) : Rs AV := match x, y with
  | .int c k, .int m l => if 0 < m ∧ l = 0 ∧ k % m = 0 then .ok (.int (c % m) 0) A else .no
  | _, _ => .no
def powV (x y : AV) (A : List AO) : Rs AV := match x, y with
  | .int c k, .int m l => if k = 0 ∧ l = 0 ∧ 0 ≤ m ∧ m ≤ 100 ∧ c.natAbs < 1000 then .ok (.int (c ^ m.toNat) 0) A else .no
  | _, _ => .no
def getL (x : AV) (A : List AO) : Option (Nat × List AV) := match x with
  | .ref i => match A[i]? with | some (.lst xs) => some (i, xs) | _ => none
  | _ => none
def getT (x : AV) (A : List AO) : Option (Nat × List AV) := match x with
  | .ref i => match A[i]? with | some (.tup xs) => some (i, xs) | _ => none
  | _ => none
def getD (x : AV) (A : List AO) : Option (Nat × List (AK × AV)) := match x with
  | .ref i => match A[i]? with | some (.dic xs) => some (i, xs) | _ => none
  | _ => none
def getI (x : AV) (A : List AO) : Option (Nat × CN × List (FN × AV)) := match x with
  | .ref i => match A[i]? with | some (.ins c xs) => some (i, c, xs) | _ => none
  | _ => none
section
variable {G : GP} {F : Hp} {ρ : List Addr} {A : List AO} {H : Hp} {x : AV} {v : V} {i : Nat}
theorem getL_ok {xs : List AV} (hh : RH G F ρ A H) (r : RV G ρ x v) (h : getL x A = some (i, xs)) : ∃ p vs, v = .ref p ∧ ρ[i]? = some p ∧ H p = some (.lst vs) ∧ RVs G ρ xs vs := by
  unfold getL at h
  split at h
  · split at h
    · rename_i j ys e
      cases h
      obtain ⟨p, hp, rfl⟩ := r
      obtain ⟨u, hu, vs, rfl, rr⟩ := hh.at hp e
      exact ⟨p, vs, rfl, hp, hu, rr⟩
    · cases h
  · cases h
theorem getT_ok {xs : List AV} (hh : RH G F ρ A H) (r : RV G ρ x v) (h : getT x A = some (i, xs)) : ∃ p vs, v = .ref p ∧ ρ[i]? = some p ∧ H p = some (.tup vs) ∧ RVs G ρ xs vs := by
  unfold getT at h
  split at h
  · split at h
    · rename_i j ys e
      cases h
      obtain ⟨p, hp, rfl⟩ := r
      obtain ⟨u, hu, vs, rfl, rr⟩ := hh.at hp e
      exact ⟨p, vs, rfl, hp, hu, rr⟩
    · cases h
  · cases h
abbrev RKs (G : GP) (ρ : List Addr) : List (AK × AV) → List (Key × V) → Prop := P2 fun p r => p.1.key = r.1 ∧ RV G ρ p.2 r.2
abbrev RFs (G : GP) (ρ : List Addr) : List (FN × AV) → List (Str × V) → Prop := P2 fun p r => p.1.str = r.1 ∧ RV G ρ p.2 r.2
theorem getD_ok {xs : List (AK × AV)} (hh : RH G F ρ A H) (r : RV G ρ x v) (h : getD x A = some (i, xs)) : ∃ p vs, v = .ref p ∧ ρ[i]? = some p ∧ H p = some (.dK vs) ∧ RKs G ρ xs vs := by
  unfold getD at h
  split at h
  · split at h
    · rename_i j ys e
      cases h
      obtain ⟨p, hp, rfl⟩ := r
      obtain ⟨u, hu, vs, rfl, rr⟩ := hh.at hp e
      exact ⟨p, vs, rfl, hp, hu, rr⟩
    · cases h
  · cases h
theorem getI_ok {c : CN} {xs : List (FN × AV)} (hh : RH G F ρ A H) (r : RV G ρ x v) (h : getI x A = some (i, c, xs)) : ∃ p dx vs, v = .ref p ∧ ρ[i]? = some p ∧ H p = some (.ins (G.cA c) dx vs) ∧ RFs G ρ xs vs := by
  unfold getI at h
  split at h
  · split at h
    · rename_i j c' ys e
      cases h
      obtain ⟨p, hp, rfl⟩ := r
      obtain ⟨u, hu, dx, vs, rfl, rr⟩ := hh.at hp e
      exact ⟨p, dx, vs, rfl, hp, hu, rr⟩
    · cases h
  · cases h
end

/-! ### dicts -/
def valA : List (AK × AV) → AK → Option AV
  | [], _ => none
  | p :: r, k => if p.1 = k then some p.2 else valA r k
def putA : List (AK × AV) → AK → AV → List (AK × AV)
  | [], k, v => [(k, v)]
  | p :: r, k, v => if p.1 = k then (p.1, v) :: r else p :: putA r k v
/-- a key, where it is one; in an empty dict every int and text is missing -/
def keyA : AV → Option AK
  | .int c 0 => some (.i c)
  | .str l => some (.s l)
  | _ => none
def lookA (kvs : List (AK × AV)) (x : AV) : Option (Option AV) := match keyA x with
  | some k => some (valA kvs k)
  | none => match x, kvs with
    | .int _ _, [] => some none
    | _, _ => none
section
variable {G : GP} {F : Hp} {ρ : List Addr} {A : List AO} {H : Hp} {x : AV} {v : V} {i : Nat}
theorem keyA_ok {k : AK} (r : RV G ρ x v) (h : keyA x = some k) : v = kV k.key := by
  unfold keyA at h
  split at h
  · cases h
    have e : v = _ := r
    rw [e, ← int_q]
    rfl
  · cases h
    exact r
  · cases h
def ROp (G : GP) (ρ : List Addr) : Option AV → Option V → Prop
  | some a, some v => RV G ρ a v
  | none, none => True
  | _, _ => False
theorem ROp.some_of {a : AV} {o : Option V} (h : ROp G ρ (some a) o) : ∃ v, o = some v ∧ RV G ρ a v := by
  cases o with
  | none => exact h.elim
  | some v => exact ⟨v, rfl, h⟩
theorem ROp.isSome {a : Option AV} {o : Option V} (h : ROp G ρ a o) : o.isSome = a.isSome := by
  cases a <;> cases o <;> first | rfl | exact h.elim
theorem valA_ok (k : AK) {kvs : List (AK × AV)} {vs : List (Key × V)} (h : RKs G ρ kvs vs) : ROp G ρ (valA kvs k) (valV vs k.key) := by
  induction h with
  | nil => exact True.intro
  | @cons p r ps rs q t ih =>
    unfold valA
    by_cases e : p.1 = k
    · rw [if_pos e, valV_pos (by rw [← q.1, e])]
      exact q.2
    · rw [if_neg e, valV_neg (fun z => e (AK.inj (q.1.trans z)))]
      exact ih
theorem putA_ok (k : AK) {a : AV} {w : V} (ra : RV G ρ a w) {kvs : List (AK × AV)} {vs : List (Key × V)} (h : RKs G ρ kvs vs) (nd : (kvs.map (·.1)).Nodup) : RKs G ρ (putA kvs k a) (putK vs k.key w) := by
  have any : ∀ {kvs : List (AK × AV)} {vs : List (Key × V)}, RKs G ρ kvs vs → (vs.any fun kv => decide (kv.1 = k.key)) = (valA kvs k).isSome := fun {kvs vs} h => by
    rw [valV_any]
    exact (valA_ok k h).isSome
  have nochange : ∀ {kvs : List (AK × AV)} {vs : List (Key × V)}, RKs G ρ kvs vs → k ∉ kvs.map (·.1) → RKs G ρ kvs (vs.map fun kv => if kv.1 = k.key then (kv.1, w) else kv) := by
    intro kvs vs h
    induction h with
    | nil => intro _; exact .nil
    | @cons p r ps rs q t ih =>
      intro hn
      rw [List.map_cons, List.mem_cons, not_or] at hn
      rw [List.map_cons, if_neg (fun z => hn.1 (AK.inj ((q.1.trans z).symm)))]
      exact .cons q (ih hn.2)
  have there : ∀ {kvs : List (AK × AV)} {vs : List (Key × V)}, RKs G ρ kvs vs → (kvs.map (·.1)).Nodup → (valA kvs k).isSome = true → RKs G ρ (putA kvs k a) (vs.map fun kv => if kv.1 = k.key then (kv.1, w) else kv) := by
    intro kvs vs h
    induction h with
    | nil => intro _ hs; cases hs
    | @cons p r ps rs q t ih =>
      intro nd hs
      rw [List.map_cons, List.nodup_cons] at nd
      unfold putA
      unfold valA at hs
      rw [List.map_cons]
      by_cases e : p.1 = k
      · rw [if_pos e, if_pos (by rw [← q.1, e])]
        exact .cons ⟨q.1, ra⟩ (nochange t (by rw [← e]; exact nd.1))
      · rw [if_neg e] at hs
        rw [if_neg e, if_neg (fun z => e (AK.inj (q.1.trans z)))]
        exact .cons q (ih nd.2 hs)
  have notthere : ∀ {kvs : List (AK × AV)} {vs : List (Key × V)}, RKs G ρ kvs vs → (valA kvs k).isSome = false → RKs G ρ (putA kvs k a) (vs ++ [(k.key, w)]) := by
    intro kvs vs h
    induction h with
    | nil => intro _; exact .cons ⟨rfl, ra⟩ .nil
    | @cons p r ps rs q t ih =>
      intro hs
      unfold putA
      unfold valA at hs
      by_cases e : p.1 = k
      · rw [if_pos e] at hs
        cases hs
      · rw [if_neg e] at hs
        rw [if_neg e]
        exact .cons q (ih hs)
  unfold putK
  rw [any h]
  cases e : (valA kvs k).isSome with
  | true => rw [if_pos rfl]; exact there h nd e
  | false => rw [if_neg Bool.false_ne_true]; exact notthere h e
/-- what a dict holds at a value -/
theorem lookA_ok {kvs : List (AK × AV)} {vs : List (Key × V)} {p : Addr} {o : Option AV} (hp : H p = some (.dK vs)) (rk : RKs G ρ kvs vs) (r : RV G ρ x v) (h : lookA kvs x = some o) : ∃ w, DGet H p v w ∧ ROp G ρ o w := by
  unfold lookA at h
  split at h
  · rename_i k ek
    cases h
    rw [keyA_ok r ek]
    exact ⟨_, DGet.k hp, valA_ok k rk⟩
  · split at h
    · rename_i h0 c k
      cases h
      cases rk
      have e : v = _ := r
      rw [e]
      exact ⟨none, DGet.k (k := .inl _) hp, True.intro⟩
    · cases h
end

def ndA (kvs : List (AK × AV)) : Bool := decide ((kvs.map (·.1)).Nodup)
def dGetV (x y : AV) (A : List AO) : Rs AV := match getD x A with
  | some (_, kvs) => match lookA kvs y with | some (some a) => .ok a A | _ => .no
  | none => .no
def dInV (y x : AV) (A : List AO) : Rs AV := match getD x A with
  | some (_, kvs) => match lookA kvs y with | some o => .ok (.bl o.isSome) A | _ => .no
  | none => .no
def dNotInV (y x : AV) (A : List AO) : Rs AV := match getD x A with
  | some (_, kvs) => match lookA kvs y with | some o => .ok (.bl (!o.isSome)) A | _ => .no
  | none => .no
abbrev rDGet : R2 := fun x y H2 Q => ∃ a v, x = .ref a ∧ DGet H2 a y (some v) ∧ Q v H2
abbrev rDIn : R2 := fun y x H2 Q => ∃ a o, x = .ref a ∧ DGet H2 a y o ∧ Q (.bl o.isSome) H2
abbrev rDNotIn : R2 := fun y x H2 Q => ∃ a o, x = .ref a ∧ DGet H2 a y o ∧ Q (.bl (!o.isSome)) H2

/-! ### what each operation answers -/
section
variable {G : GP} {K : PySem.W.Frag}
theorem ok_add : R2Ok G addV (fun x y H Q => rI0 (fun i j => .int (i + j)) x y H Q ∨ ∃ i j, x = .str i ∧ y = .str j ∧ i.length + j.length ≤ sizeLine ∧ Q (.str (i ++ j)) H) := by
  intro E F ρ A H x y v u Q hh rx ry h
  unfold addV at h
  split at h
  · rw [show v = _ from rx, show u = _ from ry]
    exact .inl ⟨_, _, rfl, rfl, h.now hh _ (congrArg V.int add_q)⟩
  · rename_i a b
    split at h
    · rename_i hl
      rw [show v = _ from rx, show u = _ from ry]
      refine .inr ⟨_, _, rfl, rfl, ?_, h.now hh _ ?_⟩
      · exact szl (by show a.toArray.size + b.toArray.size ≤ 100000; simpa using hl)
      · show V.str ⟨a.toArray ++ b.toArray⟩ = V.str ⟨(a ++ b).toArray⟩
        rw [List.append_toArray]
    · exact h.elim
  · exact h.elim
theorem ok_sub : R2Ok G subV (rI0 fun i j => .int (i - j)) := by
  intro E F ρ A H x y v u Q hh rx ry h
  unfold subV at h
  split at h
  · rw [show v = _ from rx, show u = _ from ry]
    exact ⟨_, _, rfl, rfl, h.now hh _ (congrArg V.int sub_q)⟩
  · exact h.elim
theorem ok_mod : R2Ok G modV (rI (fun _ j => 0 < j) fun i j => .int (i % j)) := by
  intro E F ρ A H x y v u Q hh rx ry h
  unfold modV at h
  split at h
  · rename_i c k m l
    split at h
    · rename_i hm
      obtain ⟨h1, h2, h3⟩ := hm
      subst h2
      rw [show v = _ from rx, show u = _ from ry, ← int_q]
      refine ⟨_, _, rfl, rfl, h1, h.now hh _ ?_⟩
      show V.int _ = V.int _
      obtain ⟨t, rfl⟩ := Int.dvd_of_emod_eq_zero h3
      rw [Int.zero_mul, Int.add_zero, Int.mul_assoc, Int.add_mul_emod_self_left]
    · exact h.elim
  · exact h.elim
theorem ok_pow : R2Ok G powV (rI CPow fun i j => .int (i ^ j.toNat)) := by
  intro E F ρ A H x y v u Q hh rx ry h
  unfold powV at h
  split at h
  · rename_i c k m l
    split at h
    · rename_i hm
      obtain ⟨h1, h2, h3, h4, h5⟩ := hm
      subst h1 h2
      rw [show v = _ from rx, show u = _ from ry, ← int_q, ← int_q]
      exact ⟨_, _, rfl, rfl, ⟨h3, by omega, by omega⟩, h.now hh _ int_q⟩
    · exact h.elim
  · exact h.elim
end
def blV (o : Option Bool) (A : List AO) : Rs AV := match o with | some b => .ok (.bl b) A | none => .no
def ltB (x y : AV) : Option Bool := match x, y with
  | .int c k, .int d l => lt0 (c - d) (k - l)
  | _, _ => none
def ltV (x y : AV) (A : List AO) : Rs AV := blV (ltB x y) A
def gtV (x y : AV) (A : List AO) : Rs AV := blV (ltB y x) A
def leV (x y : AV) (A : List AO) : Rs AV := blV ((ltB y x).map (!·)) A
def geV (x y : AV) (A : List AO) : Rs AV := blV ((ltB x y).map (!·)) A
def eqB (x y : AV) : Option Bool := match x, y with
  | .int c k, .int d l => eq0 (c - d) (k - l)
  | .str a, .str b => some (decide (a = b))
  | .non, .non => some true
  | .non, .int _ _ => some false | .int _ _, .non => some false | .non, .bl _ => some false | .bl _, .non => some false | .non, .str _ => some false | .str _, .non => some false
  | .bl a, .bl b => some (decide (a = b))
  | .int _ _, .str _ => some false | .str _, .int _ _ => some false
  | _, _ => none
def eqVV (x y : AV) (A : List AO) : Rs AV := blV (eqB x y) A
def neVV (x y : AV) (A : List AO) : Rs AV := blV ((eqB x y).map (!·)) A
def isNV (x y : AV) (A : List AO) : Rs AV := match y with | .non => .ok (.bl (decide (x = .non))) A | _ => .no
def notNV (x y : AV) (A : List AO) : Rs AV := match y with | .non => .ok (.bl (!decide (x = .non))) A | _ => .no
section
variable {G : GP} {K : PySem.W.Frag} {ρ : List Addr} {x y : AV} {v u : V} {b : Bool}
theorem blV_ok {E : XK} {F : Hp} {A : List AO} {H : Hp} {Q : VK} {o : Option Bool} (hh : RH G F ρ A H) (h : Post G E F ρ (AE.KV G Q) (blV o A)) : ∃ b, o = some b ∧ Q (.bl b) H := by
  unfold blV at h
  split at h
  · rename_i b
    exact ⟨b, rfl, h.now hh _ rfl⟩
  · exact h.elim
theorem ltB_ok (rx : RV G ρ x v) (ry : RV G ρ y u) (h : ltB x y = some b) : ∃ i j, v = .int i ∧ u = .int j ∧ decide (i < j) = b := by
  unfold ltB at h
  split at h
  · exact ⟨_, _, rx, ry, lt_q h⟩
  · cases h
theorem eqB_ok (rx : RV G ρ x v) (ry : RV G ρ y u) (h : eqB x y = some b) : scal v u = true ∧ decide (v = u) = b := by
  unfold eqB at h
  split at h
  · rw [show v = _ from rx, show u = _ from ry]
    refine ⟨rfl, ?_⟩
    rw [← eq_q (G := G) h]
    exact decide_eq_decide.mpr ⟨fun e => by injection e, fun e => by rw [e]⟩
  · rename_i a c
    rw [show v = _ from rx, show u = _ from ry]
    cases h
    refine ⟨rfl, decide_eq_decide.mpr ⟨fun e => ?_, fun e => by rw [e]⟩⟩
    injection e with e
    injection e with e
    simpa using congrArg Array.toList e
  · rw [show v = _ from rx, show u = _ from ry]
    cases h
    exact ⟨rfl, rfl⟩
  · rename_i a c
    rw [show v = _ from rx, show u = _ from ry]
    cases h
    exact ⟨rfl, rfl⟩
  · rename_i a c
    rw [show v = _ from rx, show u = _ from ry]
    cases h
    exact ⟨rfl, rfl⟩
  · rename_i a
    rw [show v = _ from rx, show u = _ from ry]
    cases h
    exact ⟨rfl, rfl⟩
  · rename_i a
    rw [show v = _ from rx, show u = _ from ry]
    cases h
    exact ⟨rfl, rfl⟩
  · rename_i a
    rw [show v = _ from rx, show u = _ from ry]
    cases h
    exact ⟨rfl, rfl⟩
  · rename_i a
    rw [show v = _ from rx, show u = _ from ry]
    cases h
    exact ⟨rfl, rfl⟩
  · rename_i a c
    rw [show v = _ from rx, show u = _ from ry]
    cases h
    refine ⟨rfl, decide_eq_decide.mpr ⟨fun e => by injection e, fun e => by rw [e]⟩⟩
  · rw [show v = _ from rx, show u = _ from ry]
    cases h
    exact ⟨rfl, rfl⟩
  · rw [show v = _ from rx, show u = _ from ry]
    cases h
    exact ⟨rfl, rfl⟩
  · cases h
theorem ok_lt : R2Ok G ltV (rI0 fun i j => .bl (decide (i < j))) := by
  intro E F ρ A H x y v u Q hh rx ry h
  obtain ⟨b, e, q⟩ := blV_ok hh h
  obtain ⟨i, j, e1, e2, e3⟩ := ltB_ok rx ry e
  exact ⟨i, j, e1, e2, by show Q (.bl (decide (i < j))) H; rw [e3]; exact q⟩
theorem ok_gt : R2Ok G gtV (rI0 fun i j => .bl (decide (j < i))) := by
  intro E F ρ A H x y v u Q hh rx ry h
  obtain ⟨b, e, q⟩ := blV_ok hh h
  obtain ⟨i, j, e1, e2, e3⟩ := ltB_ok ry rx e
  exact ⟨j, i, e2, e1, by show Q (.bl (decide (i < j))) H; rw [e3]; exact q⟩
theorem ok_le : R2Ok G leV (rI0 fun i j => .bl (decide (i ≤ j))) := by
  intro E F ρ A H x y v u Q hh rx ry h
  obtain ⟨b, e, q⟩ := blV_ok hh h
  obtain ⟨k, ek, rfl⟩ := Option.map_eq_some_iff.mp e
  obtain ⟨i, j, e1, e2, e3⟩ := ltB_ok ry rx ek
  refine ⟨j, i, e2, e1, ?_⟩
  have : decide (j ≤ i) = !k := by
    rw [← e3, ← decide_not]
    exact decide_eq_decide.mpr (by omega)
  show Q (.bl (decide (j ≤ i))) H
  rw [this]
  exact q
theorem ok_ge : R2Ok G geV (rI0 fun i j => .bl (decide (j ≤ i))) := by
  intro E F ρ A H x y v u Q hh rx ry h
  obtain ⟨b, e, q⟩ := blV_ok hh h
  obtain ⟨k, ek, rfl⟩ := Option.map_eq_some_iff.mp e
  obtain ⟨i, j, e1, e2, e3⟩ := ltB_ok rx ry ek
  refine ⟨i, j, e1, e2, ?_⟩
  have : decide (j ≤ i) = !k := by
    rw [← e3, ← decide_not]
    exact decide_eq_decide.mpr (by omega)
  show Q (.bl (decide (j ≤ i))) H
  rw [this]
  exact q
theorem ok_eq : R2Ok G eqVV rEq := by
  intro E F ρ A H x y v u Q hh rx ry h
  obtain ⟨b, e, q⟩ := blV_ok hh h
  obtain ⟨e1, e2⟩ := eqB_ok rx ry e
  exact ⟨e1, by rw [e2]; exact q⟩
theorem ok_ne : R2Ok G neVV rNe := by
  intro E F ρ A H x y v u Q hh rx ry h
  obtain ⟨b, e, q⟩ := blV_ok hh h
  obtain ⟨k, ek, rfl⟩ := Option.map_eq_some_iff.mp e
  obtain ⟨e1, e2⟩ := eqB_ok rx ry ek
  exact ⟨e1, by rw [e2]; exact q⟩
theorem non_iff (rx : RV G ρ x v) : decide (v = .non) = decide (x = .non) := by
  cases x with
  | non => rw [show v = _ from rx]; rfl
  | ref i => obtain ⟨p, _, rfl⟩ := rx; rfl
  | _ => rw [show v = _ from rx]; rfl
theorem ok_isN : R2Ok G isNV (fun x y H Q => y = .non ∧ Q (.bl (decide (x = .non))) H) := by
  intro E F ρ A H x y v u Q hh rx ry h
  unfold isNV at h
  split at h
  · exact ⟨ry, by rw [non_iff rx]; exact h.now hh _ rfl⟩
  · exact h.elim
theorem ok_notN : R2Ok G notNV (fun x y H Q => y = .non ∧ Q (.bl (!decide (x = .non))) H) := by
  intro E F ρ A H x y v u Q hh rx ry h
  unfold notNV at h
  split at h
  · exact ⟨ry, by rw [non_iff rx]; exact h.now hh _ rfl⟩
  · exact h.elim
theorem ok_dget : R2Ok G dGetV rDGet := by
  intro E F ρ A H x y v u Q hh rx ry h
  unfold dGetV at h
  split at h
  · rename_i i kvs e
    obtain ⟨p, vs, rfl, hp, hH, rk⟩ := getD_ok hh rx e
    split at h
    · rename_i a el
      obtain ⟨w, g, ro⟩ := lookA_ok hH rk ry el
      obtain ⟨z, rfl, rz⟩ := ro.some_of
      exact ⟨p, z, rfl, g, h.now hh _ rz⟩
    · exact h.elim
  · exact h.elim
theorem ok_din : R2Ok G dInV rDIn := by
  intro E F ρ A H x y v u Q hh rx ry h
  unfold dInV at h
  split at h
  · rename_i i kvs e
    obtain ⟨p, vs, rfl, hp, hH, rk⟩ := getD_ok hh ry e
    split at h
    · rename_i a el
      obtain ⟨w, g, ro⟩ := lookA_ok hH rk rx el
      exact ⟨p, w, rfl, g, by rw [ro.isSome]; exact h.now hh _ rfl⟩
    · exact h.elim
  · exact h.elim
theorem ok_dnotin : R2Ok G dNotInV rDNotIn := by
  intro E F ρ A H x y v u Q hh rx ry h
  unfold dNotInV at h
  split at h
  · rename_i i kvs e
    obtain ⟨p, vs, rfl, hp, hH, rk⟩ := getD_ok hh ry e
    split at h
    · rename_i a el
      obtain ⟨w, g, ro⟩ := lookA_ok hH rk rx el
      exact ⟨p, w, rfl, g, by rw [ro.isSome]; exact h.now hh _ rfl⟩
    · exact h.elim
  · exact h.elim
end
/-! ### places of a list, a tuple, a text -/
def ixA (n : Nat) (x : AV) : Option Nat := match x with | .int c 0 => ixN n c | _ => none
def atV (x y : AV) (A : List AO) : Rs AV := match x with
  | .ref i => match A[i]? with
    | some (.lst xs) => match (ixA xs.length y).bind fun j => xs[j]? with | some a => .ok a A | none => .no
    | some (.tup xs) => match (ixA xs.length y).bind fun j => xs[j]? with | some a => .ok a A | none => .no
    | _ => .no
  | .str l => if l.length ≤ 100000 then (match (ixA l.length y).bind fun j => l[j]? with | some c => .ok (.str [c]) A | none => .no) else .no
  | _ => .no
/-- y in a list or a tuple of texts and ints -/
def inS (y : AV) : List AV → Option Bool
  | [] => match y with | .str _ => some false | .int _ _ => some false | _ => none
  | x :: xs => match x, y with
    | .str a, .str b => match inS y xs with | some r => some (decide (a = b) || r) | none => none
    | .int a 0, .int b 0 => match inS y xs with | some r => some (decide (a = b) || r) | none => none
    | _, _ => none
def inV' (y x : AV) (A : List AO) : Rs AV := match x with
  | .ref i => match A[i]? with
    | some (.lst xs) => blV (inS y xs) A
    | some (.tup xs) => blV (inS y xs) A
    | _ => .no
  | _ => .no
def signV (y x : AV) (A : List AO) : Rs AV := match y, x with
  | .str [c], .str l => .ok (.bl (decide (c ∈ l))) A
  | _, _ => .no
section
variable {G : GP} {K : PySem.W.Frag} {ρ : List Addr} {x y : AV} {v u : V} {b : Bool}
theorem ixA_ok {α β : Type} {R : α → β → Prop} {xs : List α} {vs : List β} (r : P2 R xs vs) (ry : RV G ρ y u) {a : α} (h : (ixA xs.length y).bind (fun j => xs[j]?) = some a) : ∃ i w, u = .int i ∧ atI vs i = some w ∧ R a w := by
  unfold ixA at h
  split at h
  · rename_i c
    obtain ⟨j, e1, e2⟩ := Option.bind_eq_some_iff.mp h
    obtain ⟨w, ew, rw'⟩ := P2.get r e2
    refine ⟨c, w, ?_, ?_, rw'⟩
    · rw [show u = _ from ry, ← int_q]
    · unfold atI
      rw [← P2.len r, e1]
      exact ew
  · cases h
theorem ok_at : R2Ok G atV (rIx K) := by
  intro E F ρ A H x y v u Q hh rx ry h
  unfold atV at h
  split at h
  · rename_i i
    obtain ⟨p, hp, rfl⟩ := rx
    split at h
    · rename_i xs e
      obtain ⟨o, ho, vs, rfl, r⟩ := hh.at hp e
      split at h
      · rename_i a ea
        obtain ⟨j, w, rfl, e2, rw'⟩ := ixA_ok r ry ea
        exact .inl ⟨p, vs, j, w, rfl, rfl, SqL.of ho, e2, h.now hh _ rw'⟩
      · exact h.elim
    · rename_i xs e
      obtain ⟨o, ho, vs, rfl, r⟩ := hh.at hp e
      split at h
      · rename_i a ea
        obtain ⟨j, w, rfl, e2, rw'⟩ := ixA_ok r ry ea
        exact .inr (.inl ⟨p, vs, j, w, rfl, rfl, SqT.of ho, e2, h.now hh _ rw'⟩)
      · exact h.elim
    · exact h.elim
  · rename_i l
    split at h
    · rename_i hl
      split at h
      · rename_i a ea
        have r : P2 (fun a b : Nat => a = b) l l := by
          clear ea h hl rx
          induction l with
          | nil => exact .nil
          | cons x xs ih => exact .cons rfl ih
        obtain ⟨j, w, rfl, e2, rw'⟩ := ixA_ok r ry ea
        subst rw'
        rw [show v = _ from rx]
        exact .inr (.inr ⟨_, j, a, rfl, rfl, szl (by show l.toArray.size ≤ 100000; simpa using hl), by simpa using e2, h.now hh _ rfl⟩)
      · exact h.elim
    · exact h.elim
  · exact h.elim
theorem inS_ok (ry : RV G ρ y u) {xs : List AV} {vs : List V} (r : RVs G ρ xs vs) : ∀ {b : Bool}, inS y xs = some b → flatV u = true ∧ vs.all flatV = true ∧ inV u vs = b := by
  induction r with
  | nil =>
    intro b h
    unfold inS at h
    split at h
    · cases h
      rw [show u = _ from ry]
      exact ⟨rfl, rfl, rfl⟩
    · cases h
      rw [show u = _ from ry]
      exact ⟨rfl, rfl, rfl⟩
    · cases h
  | @cons a w as ws q t ih =>
    intro b h
    unfold inS at h
    split at h
    · rename_i c d
      split at h
      · rename_i k ek
        obtain ⟨i1, i2, i3⟩ := ih ek
        cases h
        rw [show w = _ from q]
        refine ⟨i1, by rw [List.all_cons, i2]; rfl, ?_⟩
        unfold inV at i3 ⊢
        rw [List.any_cons, i3]
        congr 1
        rw [show u = _ from ry]
        show ((⟨c.toArray⟩ : Str) == ⟨d.toArray⟩) = decide (c = d)
        rw [Bool.eq_iff_iff, beq_iff_eq, decide_eq_true_iff]
        refine ⟨fun e => ?_, fun e => by rw [e]⟩
        injection e with e
        simpa using congrArg Array.toList e
      · cases h
    · rename_i c d
      split at h
      · rename_i k ek
        obtain ⟨i1, i2, i3⟩ := ih ek
        cases h
        rw [show w = _ from q]
        refine ⟨i1, by rw [List.all_cons, i2]; rfl, ?_⟩
        unfold inV at i3 ⊢
        rw [List.any_cons, i3]
        congr 1
        rw [show u = _ from ry, ← int_q, ← int_q]
        show (c == d) = decide (c = d)
        rw [Bool.eq_iff_iff, beq_iff_eq, decide_eq_true_iff]
      · cases h
    · cases h
theorem ok_in : R2Ok G inV' (rIn K false) := by
  intro E F ρ A H x y v u Q hh rx ry h
  unfold inV' at h
  split at h
  · rename_i i
    obtain ⟨p, hp, rfl⟩ := ry
    split at h
    · rename_i xs e
      obtain ⟨o, ho, vs, rfl, r⟩ := hh.at hp e
      obtain ⟨b, eb, q⟩ := blV_ok hh h
      obtain ⟨f1, f2, f3⟩ := inS_ok rx r eb
      exact ⟨p, vs, rfl, .inl (SqL.of ho), f1, f2, by rw [if_neg Bool.false_ne_true, f3]; exact q⟩
    · rename_i xs e
      obtain ⟨o, ho, vs, rfl, r⟩ := hh.at hp e
      obtain ⟨b, eb, q⟩ := blV_ok hh h
      obtain ⟨f1, f2, f3⟩ := inS_ok rx r eb
      exact ⟨p, vs, rfl, .inr (SqT.of ho), f1, f2, by rw [if_neg Bool.false_ne_true, f3]; exact q⟩
    · exact h.elim
  · exact h.elim
theorem ok_sign : R2Ok G signV (fun x y H Q => ∃ (c : Nat) (z : Str), x = .str ⟨#[c]⟩ ∧ y = .str z ∧ Q (.bl (decide (c ∈ z.cps.toList))) H) := by
  intro E F ρ A H x y v u Q hh rx ry h
  unfold signV at h
  split at h
  · rw [show v = _ from rx, show u = _ from ry]
    exact ⟨_, _, rfl, rfl, by simpa using h.now hh _ rfl⟩
  · exact h.elim
end
end AE

namespace AE
open PySem L2

/-! ### fields -/
def fldOk : CN → FN → Bool
  | .net, .halves => true | .net, .drawn_arrows => true | .net, .given => true | .net, .level_pairs => true | .net, .near_pairs => true
  | .own, .name => true | .own, .wide => true
  | .desk, .net => true | .desk, .old => true
  | _, _ => false
structure KOk (G : GP) (K : PySem.W.Frag) : Prop where
  cls : ∀ c, Cls K (G.cA c)
  na : ∀ c f, fldOk c f = true → NoAttr K (G.cA c) f.str
  ne : ∀ c d, G.cA c = G.cA d → c = d
def lookF : List (FN × AV) → FN → Option AV
  | [], _ => none
  | p :: r, f => if p.1 = f then some p.2 else lookF r f
def putFA : FN → AV → List (FN × AV) → List (FN × AV)
  | f, v, [] => [(f, v)]
  | f, v, p :: r => if p.1 = f then (p.1, v) :: r else p :: putFA f v r
def fFld (f : FN) (x : AV) (A : List AO) : Rs AV := match getI x A with
  | some (_, c, fs) => if fldOk c f then (match lookF fs f with | some a => .ok a A | none => .no) else .no
  | none => .no
section
variable {G : GP} {F : Hp} {ρ : List Addr} {A : List AO} {H : Hp} {E : XK} {X : Cx} {σ : St}
theorem lookF_ok {f : FN} {fs : List (FN × AV)} {vs : List (Str × V)} (h : RFs G ρ fs vs) {a : AV} : lookF fs f = some a → ∃ v, vs.lookup f.str = some v ∧ RV G ρ a v := by
  induction h with
  | nil => intro e; cases e
  | @cons p r ps rs q t ih =>
    intro e
    unfold lookF at e
    obtain ⟨r1, r2⟩ := r
    by_cases ef : p.1 = f
    · rw [if_pos ef] at e
      cases e
      refine ⟨r2, ?_, q.2⟩
      have z : f.str = r1 := by rw [← ef]; exact q.1
      rw [List.lookup_cons, z]
      simp
    · rw [if_neg ef] at e
      obtain ⟨v, e1, e2⟩ := ih e
      refine ⟨v, ?_, e2⟩
      have z : (f.str == r1) = false := by
        rw [beq_eq_false_iff_ne]
        intro z
        exact ef (FN.inj ((show p.1.str = r1 from q.1).trans z.symm))
      rw [List.lookup_cons, z]
      exact e1
theorem putF_ok (f : FN) {a : AV} {w : V} (ra : RV G ρ a w) {fs : List (FN × AV)} {vs : List (Str × V)} (h : RFs G ρ fs vs) : RFs G ρ (putFA f a fs) (putF f.str w vs) := by
  induction h with
  | nil => exact .cons ⟨rfl, ra⟩ .nil
  | @cons p r ps rs q t ih =>
    obtain ⟨r1, r2⟩ := r
    have q1 : p.1.str = r1 := q.1
    unfold putFA putF
    by_cases ef : p.1 = f
    · have z : r1 = f.str := by rw [← q1, ef]
      rw [if_pos ef]
      simp only [z, beq_self_eq_true, if_true]
      exact .cons ⟨by rw [ef], ra⟩ t
    · have z : ¬ r1 = f.str := fun z => ef (FN.inj (q1.trans z))
      have z2 : ¬ f.str = r1 := fun y => z y.symm
      rw [if_neg ef]
      simp only [beq_iff_eq, z, z2, if_false]
      exact .cons q ih
theorem sim_fld {f : FN} {eo : EV} {Q : VK} (hK : KOk G X.K) (h : tE G E (evU (fFld f) eo) σ H Q) : tFld X.K (tE G E eo) f.str σ H Q := by
  obtain ⟨F, ρ, σa, A, hs, hh, h⟩ := h
  refine tE_then hs hh h fun ρ1 x A1 v H1 p1 hs1 hh1 rv1 h1 => ?_
  unfold fFld at h1
  split at h1
  · rename_i i c fs e
    obtain ⟨p, dx, vs, rfl, hp, hH, rf⟩ := getI_ok hh1 rv1 e
    split at h1
    · rename_i hf
      split at h1
      · rename_i a ea
        obtain ⟨w, ew, rw'⟩ := lookF_ok rf ea
        exact ⟨p, _, dx, vs, w, rfl, hH, hK.cls c, hK.na c f hf, ew, h1.now hh1 _ rw'⟩
      · exact h1.elim
    · exact h1.elim
  · exact h1.elim
theorem se_fld {e : Expr} {f : FN} {fs : Str} {pos : Pos} {eo : EV} (hK : KOk G X.K) (hf : fs = f.str) (he : PE X e (tE G E eo)) (hb : attributeBase e fs X.env (eval e X.env) = eval e X.env := by rfl) : PE X (.Attribute e fs pos) (tE G E (evU (fFld f) eo)) := by
  subst hf
  exact PE.imp (pe_fld he hb) fun _ _ _ => sim_fld hK

/-! ### calls -/
def mkF (n N : Nat) (body : EVS) : List AV → List AO → Rs AV := fun vs A =>
  if vs.length = n then (body (vs.map some ++ List.replicate (N - n) none) A).bind fun fl A' => match fl with | .nx _ => .ok .non A' | .rt a => .ok a A' | _ => .no
  else .no
def spF (G : GP) (f : List AV → List AO → Rs AV) : Sp := fun vs H Q E => ∃ F ρ as A, RVs G ρ as vs ∧ RH G F ρ A H ∧ Post G E F ρ (AE.KV G Q) (f as A)
theorem spF_len {n N : Nat} {body : EVS} {vs : List V} {Q : VK} (h : spF G (mkF n N body) vs H Q E) : vs.length = n := by
  obtain ⟨F, ρ, as, A, rv, hh, h⟩ := h
  unfold mkF at h
  split at h
  · rename_i e
    rw [← P2.len rv]
    exact e
  · exact h.elim
theorem start_ok {ρ : List Addr} {as : List AV} {vs : List V} (r : RVs G ρ as vs) (n : Nat) : RS G ρ (as.map some ++ List.replicate n none) (vs.map some ++ List.replicate n none) := by
  refine P2.append ?_ ?_
  · induction r with
    | nil => exact .nil
    | cons q t ih => exact .cons ⟨_, rfl, q⟩ ih
  · induction n with
    | zero => exact .nil
    | succ n ih => exact .cons True.intro ih
/-- the promise is kept by the body's reading -/
theorem spF_body {n : Nat} {N : List Str} {body : EVS} {vs : List V} {Q : VK} (h : spF G (mkF n N.length body) vs H Q E) : tS G E body { nx := fun _ H' => Q .non H', rt := Q } (L2.start N vs) H := by
  have hl := spF_len h
  obtain ⟨F, ρ, as, A, rv, hh, h⟩ := h
  unfold mkF at h
  split at h
  · refine ⟨F, ρ, _, A, ?_, hh, h.bind.mono fun ρ' fl A' H' p rh q => ?_⟩
    · unfold L2.start
      rw [hl]
      exact start_ok rv _
    · cases fl with
      | nx σ' => exact fun σ2 _ => q.now rh _ rfl
      | rt a => exact fun v rv => q.now rh _ rv
      | bk σ' => exact q.elim
      | ct σ' => exact q.elim
  · exact h.elim
def evCall (f : List AV → List AO → Rs AV) (das : List AV) (es : EA) : EV := evN (fun vs A => f (vs ++ das) A) es
theorem sim_call {f : List AV → List AO → Rs AV} {das : List AV} {dvs : List V} {es : EA} {Q : VK} (hd : ∀ ρ, RVs G ρ das dvs) (h : tE G E (evCall f das es) σ H Q) : tCall (spF G f) dvs E (tA G E es) σ H Q := by
  obtain ⟨F, ρ, σa, A, hs, hh, h⟩ := h
  refine tA_then hs hh h fun ρ1 x A1 v H1 p1 hs1 hh1 rv1 h1 => ?_
  exact ⟨F, ρ1, x ++ das, A1, rv1.append (hd ρ1), hh1, h1⟩
section
variable {CX : CXT} {k : Nat} {fa C : Addr} {fd : FuncData} {ps : List Str} {f : List AV → List AO → Rs AV} {das : List AV} {dvs : List V} {ds : List Value} {x m : Str} {p pos apos : Pos} {e o : Expr} {es : List Expr} {ee : EA} {eo : EV}
theorem se_call (Fo : FnOk X.prog X.w X.K X.mg X.base CX k fa fd ps (spF G f)) (hr : Room k X.A) (hg : Gl X x) (hm : X.mg x = some (.ref fa)) (hk : PySem.W.keepIn X.K (.ref fa) = true) (hb : Binds X.K fd ps ds) (hd : Vals dvs ds) (hdd : ∀ ρ, RVs G ρ das dvs) (hx : Passes CX X E)
    (ha : PA X (e :: es) (tA G E ee)) (hdb : (x == ("__debug__" : Str)) = false := by decide) (he : starEach (e :: es) X.env = (false, eval e X.env) :: starEach es X.env := by rfl) (hpl : (backTo pos (starEach es X.env)).any (·.1) = false := by rfl) :
    PE X (.Call (.Name x p) (e :: es) [] pos) (tE G E (evCall f das ee)) := PE.imp (pe_call Fo hr hg hm hk hb hd hx ha hdb he hpl) fun _ _ _ => sim_call hdd
/-- o.m(..) -/
def evMeth (c : CN) (f : List AV → List AO → Rs AV) (das : List AV) (eo : EV) (es : EA) : EV := fun σ A => (eo σ A).bind fun x A1 => match getI x A1 with
  | some (_, c', fs) => if c' = c then (es σ A1).bind fun vs A2 => f (x :: (vs ++ das)) A2 else .no
  | none => .no
theorem noMeth {fs : List (FN × AV)} {vs : List (Str × V)} (hm : ∀ f : FN, f.str ≠ m) (r : RFs G ρ fs vs) : vs.lookup m = none := by
  induction r with
  | nil => rfl
  | @cons p r ps rs q t ih =>
    obtain ⟨r1, r2⟩ := r
    have q1 : p.1.str = r1 := q.1
    have z : (m == r1) = false := by
      rw [beq_eq_false_iff_ne]
      intro z
      exact hm p.1 (q1.trans z.symm)
    rw [List.lookup_cons, z]
    exact ih
theorem sim_meth {c : CN} {Q : VK} (hK : KOk G X.K) (hmn : ∀ f : FN, f.str ≠ m) (hd : ∀ ρ, RVs G ρ das dvs) (h : tE G E (evMeth c f das eo ee) σ H Q) : tMeth (G.cA c) m (spF G f) dvs E (tE G E eo) (tA G E ee) σ H Q := by
  obtain ⟨F, ρ, σa, A, hs, hh, h⟩ := h
  refine tE_then hs hh h fun ρ1 x A1 v H1 p1 hs1 hh1 rv1 h1 => ?_
  split at h1
  · rename_i i c' fs e
    split at h1
    · rename_i ec
      subst ec
      obtain ⟨p, dx, vs, ev, hp, hH, rf⟩ := getI_ok hh1 rv1 e
      subst ev
      refine ⟨p, dx, vs, rfl, hH, noMeth hmn rf, ?_⟩
      refine tA_then hs1 hh1 h1 fun ρ2 y A2 u H2 p2 hs2 hh2 rv2 h2 => ?_
      exact ⟨F, ρ2, x :: (y ++ das), A2, .cons (rv1.mono p2) (rv2.append (hd ρ2)), hh2, h2⟩
    · exact h1.elim
  · exact h1.elim
theorem se_meth {c : CN} {pl : Sem Bool} (hK : KOk G X.K) (hmn : ∀ f : FN, f.str ≠ m) (he : PE X o (tE G E eo)) (hm : Meth X.K (G.cA c) m fa) (Fo : FnOk X.prog X.w X.K X.mg X.base CX k fa fd ps (spF G f)) (hr : Room k X.A) (hb : Binds X.K fd ps ds) (hd : Vals dvs ds) (hdd : ∀ ρ, RVs G ρ das dvs) (hx : Passes CX X E) (ha : PA X (e :: es) (tA G E ee))
    (hst : starEach (e :: es) X.env = (false, eval e X.env) :: starEach es X.env := by rfl) (hpl : (backTo pos (starEach es X.env)).any (·.1) = false := by rfl)
    (ht : eval (.Call (.Attribute o m apos) (e :: es) [] pos) X.env = (do
      let ov ← eval o X.env
      standAt apos.atName
      let (f, first) ← holding [ov] (getMethod ov m pl)
      callWith pos f first (backTo pos (starEach (e :: es) X.env)) (backToKw pos (keywordEach [] X.env))) := by rfl) :
    PE X (.Call (.Attribute o m apos) (e :: es) [] pos) (tE G E (evMeth c f das eo ee)) := PE.imp (pe_meth (pl := pl) he (hK.cls c) hm Fo hr hb hd hx ha hst hpl ht) fun _ _ _ => sim_meth hK hmn hdd
theorem se_meth0 {c : CN} {pl : Sem Bool} (hK : KOk G X.K) (hmn : ∀ f : FN, f.str ≠ m) (he : PE X o (tE G E eo)) (hm : Meth X.K (G.cA c) m fa) (Fo : FnOk X.prog X.w X.K X.mg X.base CX k fa fd ps (spF G f)) (hr : Room k X.A) (hb : Binds X.K fd ps ds) (hd : Vals dvs ds) (hdd : ∀ ρ, RVs G ρ das dvs) (hx : Passes CX X E)
    (ht : eval (.Call (.Attribute o m apos) [] [] pos) X.env = (do
      let ov ← eval o X.env
      standAt apos.atName
      let (f, first) ← holding [ov] (getMethod ov m pl)
      callWith pos f first (backTo pos (starEach [] X.env)) (backToKw pos (keywordEach [] X.env))) := by rfl) :
    PE X (.Call (.Attribute o m apos) [] [] pos) (tE G E (evMeth c f das eo eaN)) := PE.imp (pe_meth0 (pl := pl) he (hK.cls c) hm Fo hr hb hd hx ht) fun σ H Q q => by
  obtain ⟨F, ρ, σa, A, hs, hh, h⟩ := q
  refine tE_then hs hh h fun ρ1 x A1 v H1 p1 hs1 hh1 rv1 h1 => ?_
  split at h1
  · rename_i i c' fs e
    split at h1
    · rename_i ec
      subst ec
      obtain ⟨p, dx, vs, ev, hp, hH, rf⟩ := getI_ok hh1 rv1 e
      subst ev
      refine ⟨p, dx, vs, rfl, hH, noMeth hmn rf, ?_⟩
      exact ⟨F, ρ1, x :: ([] ++ das), A1, .cons rv1 (hdd ρ1), hh1, h1⟩
    · exact h1.elim
  · exact h1.elim
/-- C(..) -/
def evMake (c : CN) (f : List AV → List AO → Rs AV) (das : List AV) (es : EA) : EV := fun σ A => (es σ A).bind fun vs A1 => (f (.ref A1.length :: (vs ++ das)) (A1 ++ [.ins c []])).bind fun r A2 => if r = .non then .ok (.ref A1.length) A2 else .no
theorem RH.last {F : Hp} {ρ : List Addr} {A : List AO} {H : Hp} (hh : RH G F ρ A H) {p : Addr} : RV G (ρ ++ [p]) (.ref A.length) (.ref p) := ⟨p, by rw [← hh.len, List.getElem?_append_right (Nat.le_refl _), Nat.sub_self]; rfl, rfl⟩
theorem sim_make {c : CN} {Q : VK} (hd : ∀ ρ, RVs G ρ das dvs) (h : tE G E (evMake c f das ee) σ H Q) : tMake (G.cA c) (spF G f) dvs E (tA G E ee) σ H Q := by
  obtain ⟨F, ρ, σa, A, hs, hh, h⟩ := h
  refine tA_then hs hh h fun ρ1 y A1 u H1 p1 hs1 hh1 rv1 h1 => ?_
  intro x dx hx hdx hne
  have hh2 : RH G F ρ1 A1 (upd H1 dx (.own x)) := hh1.other hdx
  have hx2 : upd H1 dx (.own x) x = none := by rw [upd_ne (Ne.symm hne)]; exact hx
  have hh3 : RH G F (ρ1 ++ [x]) (A1 ++ [.ins c []]) (upd (upd H1 dx (.own x)) x (.ins (G.cA c) dx [])) := hh2.new hx2 ⟨dx, [], rfl, .nil⟩
  have rl : RV G (ρ1 ++ [x]) (.ref A1.length) (.ref x) := hh1.last
  refine ⟨F, ρ1 ++ [x], _, _, .cons rl (.append (RVs.mono rv1 (Pre.snoc _ _)) (hd _)), hh3, (h1.pre (Pre.snoc _ x)).bind.mono fun ρ' a A' H' p rh q w rw' => ?_⟩
  split at q
  · rename_i e
    subst e
    exact ⟨rw', q.now rh _ (rl.mono p)⟩
  · exact q.elim
theorem se_make {c : CN} (M : Mk X.K (G.cA c) fa) (Fo : FnOk X.prog X.w X.K X.mg X.base CX k fa fd ps (spF G f)) (hr : Room (k + 1) X.A) (hg : Gl X x) (hm : X.mg x = some (.ref (G.cA c))) (hb : Binds X.K fd ps ds) (hd : Vals dvs ds) (hdd : ∀ ρ, RVs G ρ das dvs) (hx : Passes CX X E)
    (ha : PA X (e :: es) (tA G E ee)) (hdb : (x == ("__debug__" : Str)) = false := by decide) (he : starEach (e :: es) X.env = (false, eval e X.env) :: starEach es X.env := by rfl) (hpl : (backTo pos (starEach es X.env)).any (·.1) = false := by rfl) :
    PE X (.Call (.Name x p) (e :: es) [] pos) (tE G E (evMake c f das ee)) := PE.imp (pe_make M Fo hr hg hm hb hd hx ha hdb he hpl) fun _ _ _ => sim_make hdd
theorem se_make0 {c : CN} (M : Mk X.K (G.cA c) fa) (Fo : FnOk X.prog X.w X.K X.mg X.base CX k fa fd ps (spF G f)) (hr : Room (k + 1) X.A) (hg : Gl X x) (hm : X.mg x = some (.ref (G.cA c))) (hb : Binds X.K fd ps ds) (hd : Vals dvs ds) (hdd : ∀ ρ, RVs G ρ das dvs) (hx : Passes CX X E)
    (hdb : (x == ("__debug__" : Str)) = false := by decide) : PE X (.Call (.Name x p) [] [] pos) (tE G E (evMake c f das eaN)) := PE.imp (pe_make0 M Fo hr hg hm hb hd hx hdb) fun σ H Q q => by
  obtain ⟨F, ρ, σa, A, hs, hh, q⟩ := sim_make (ee := eaN) hdd q
  exact q.now hh [] .nil
/-- a built-in function -/
theorem se_callB {r : List V → Hp → VK → Prop} {g : List AV → List AO → Rs AV} {id : String} (hc : CallR X (.builtin id) r) (hf : RNOk G g r) (hg : Gl X x) (hm : X.mg x = none) (hv : bootBuiltins x = some (.builtin id)) (ha : PA X (e :: es) (tA G E ee)) (hn : x ≠ "__name__" := by decide) (hdb : (x == ("__debug__" : Str)) = false := by decide)
    (he : starEach (e :: es) X.env = (false, eval e X.env) :: starEach es X.env := by rfl) (hpl : (backTo pos (starEach es X.env)).any (·.1) = false := by rfl) :
    PE X (.Call (.Name x p) (e :: es) [] pos) (tE G E (evN g ee)) := PE.imp (pe_callB hc hg hm hv ha hn hdb he hpl) fun _ _ _ => sim_cb hf
theorem se_callTy {r : List V → Hp → VK → Prop} {g : List AV → List AO → Rs AV} {T : String} (hc : CallR X (.type T) r) (hf : RNOk G g r) (hg : Gl X x) (hm : X.mg x = none) (hv : bootBuiltins x = some (.type T)) (ha : PA X (e :: es) (tA G E ee)) (hn : x ≠ "__name__" := by decide) (hdb : (x == ("__debug__" : Str)) = false := by decide)
    (he : starEach (e :: es) X.env = (false, eval e X.env) :: starEach es X.env := by rfl) (hpl : (backTo pos (starEach es X.env)).any (·.1) = false := by rfl) :
    PE X (.Call (.Name x p) (e :: es) [] pos) (tE G E (evN g ee)) := PE.imp (pe_callTy hc hg hm hv ha hn hdb he hpl) fun _ _ _ => sim_cb hf
end
end
end AE

namespace AE
open PySem L2

theorem CallR.or {X : Cx} {f : Value} {r r' : List V → Hp → VK → Prop} (h : CallR X f r) (h' : CallR X f r') : CallR X f (fun xs H Q => r xs H Q ∨ r' xs H Q) := by
  intro pins s σ H xs us Q I rs q
  rcases q with q | q
  · exact h pins s σ H xs us Q I rs q
  · exact h' pins s σ H xs us Q I rs q
def fLen (xs : List AV) (A : List AO) : Rs AV := match xs with
  | [.str l] => if l.length ≤ 100000 then .ok (.int l.length 0) A else .no
  | [.ref i] => match A[i]? with
    | some (.lst ys) => .ok (.int ys.length 0) A
    | some (.tup ys) => .ok (.int ys.length 0) A
    | some (.dic ys) => .ok (.int ys.length 0) A
    | _ => .no
  | _ => .no
def boolsA : List AV → Option (List Bool)
  | [] => some []
  | .bl b :: r => (boolsA r).map (b :: ·)
  | _ => none
def fAll (xs : List AV) (A : List AO) : Rs AV := match xs with
  | [x] => match getL x A with | some (_, ys) => blV ((boolsA ys).map fun bs => bs.all id) A | none => .no
  | _ => .no
def fAny (xs : List AV) (A : List AO) : Rs AV := match xs with
  | [x] => match getL x A with | some (_, ys) => blV ((boolsA ys).map fun bs => bs.any id) A | none => .no
  | _ => .no
def fMin2 (xs : List AV) (A : List AO) : Rs AV := match xs with
  | [x, y] => match ltB y x with | some true => .ok y A | some false => .ok x A | none => .no
  | _ => .no
def fStrI (xs : List AV) (A : List AO) : Rs AV := match xs with
  | [.int 0 0] => .ok (.str [48]) A
  | [.int 1 0] => .ok (.str [49]) A
  | _ => .no
def fIntS (xs : List AV) (A : List AO) : Rs AV := match xs with
  | [.str [51]] => .ok (.int 3 0) A
  | _ => .no
def AK.val : AK → AV
  | .i n => .int n 0
  | .s l => .str l
def fListOf (xs : List AV) (A : List AO) : Rs AV := match xs with
  | [x] => match getL x A with
    | some (_, ys) => newO (.lst ys) A
    | none => match getT x A with
      | some (_, ys) => newO (.lst ys) A
      | none => match getD x A with
        | some (_, kvs) => newO (.lst (kvs.map fun p => p.1.val)) A
        | none => .no
  | _ => .no
def fSorted (xs : List AV) (A : List AO) : Rs AV := match xs with
  | [x] => match getD x A with
    | some (_, []) => newO (.lst []) A
    | some (_, [(.i n, _)]) => newO (.lst [.int n 0]) A
    | _ => .no
  | _ => .no
def pairsA (A : List AO) : List AV → Option (List (AK × AV))
  | [] => some []
  | x :: r => match getT x A with
    | some (_, [k, v]) => match keyA k, pairsA A r with | some k, some ps => some ((k, v) :: ps) | _, _ => none
    | _ => none
def mergeA : List (AK × AV) → List (AK × AV) → Option (List (AK × AV))
  | acc, [] => some acc
  | acc, p :: r => if ndA acc then mergeA (putA acc p.1 p.2) r else none
def fDict (xs : List AV) (A : List AO) : Rs AV := match xs with
  | [x] => match getD x A with
    | some (_, kvs) => newO (.dic kvs) A
    | none => match getL x A with
      | some (_, ys) => match pairsA A ys with
        | some ps => match mergeA [] ps with | some kvs => newO (.dic kvs) A | none => .no
        | none => .no
      | none => .no
  | _ => .no
section
variable {G : GP} {K : PySem.W.Frag} {ρ : List Addr} {F : Hp} {A : List AO} {H : Hp}
theorem ok_len : RNOk G fLen (fun xs H Q => (∃ x n, xs = [x] ∧ LenV K x H n ∧ Q (.int n) H) ∨ ∃ a kvs, xs = [V.ref a] ∧ H a = some (.dK kvs) ∧ Q (.int kvs.length) H) := by
  intro E F ρ A H xs vs Q hh r h
  unfold fLen at h
  split at h
  · rename_i l
    cases r with
    | cons r1 r2 =>
      cases r2
      split at h
      · rename_i hl
        rw [show _ = _ from r1]
        refine .inl ⟨_, l.length, rfl, ⟨szl ?_, ?_⟩, h.now hh _ int_q⟩
        · show l.toArray.size ≤ 100000
          simpa using hl
        · show l.length = l.toArray.size
          simp
      · exact h.elim
  · rename_i i
    cases r with
    | cons r1 r2 =>
      cases r2
      obtain ⟨p, hp, rfl⟩ := r1
      split at h
      · rename_i ys e
        obtain ⟨u, hu, ws, rfl, rr⟩ := hh.at hp e
        exact .inl ⟨_, ws.length, rfl, .inl ⟨ws, SqL.of hu, rfl⟩, by rw [← P2.len rr]; exact h.now hh _ int_q⟩
      · rename_i ys e
        obtain ⟨u, hu, ws, rfl, rr⟩ := hh.at hp e
        exact .inl ⟨_, ws.length, rfl, .inr ⟨ws, SqT.of hu, rfl⟩, by rw [← P2.len rr]; exact h.now hh _ int_q⟩
      · rename_i ys e
        obtain ⟨u, hu, ws, rfl, rr⟩ := hh.at hp e
        exact .inr ⟨p, ws, rfl, hu, by rw [← P2.len rr]; exact h.now hh _ int_q⟩
      · exact h.elim
  · exact h.elim
theorem boolsA_ok {ys : List AV} {ws : List V} (r : RVs G ρ ys ws) : ∀ {bs : List Bool}, boolsA ys = some bs → ws = bs.map V.bl := by
  induction r with
  | nil => intro bs e; cases e; rfl
  | @cons a w as ws q t ih =>
    intro bs e
    unfold boolsA at e
    split at e
    · cases ‹_ = []›
    · rename_i b r' eq
      injection eq with e1 e2
      subst e1 e2
      obtain ⟨cs, ec, rfl⟩ := Option.map_eq_some_iff.mp e
      rw [ih ec, List.map_cons, show w = _ from q]
    · cases e
theorem ok_all : RNOk G fAll (rAll K) := by
  intro E F ρ A H xs vs Q hh r h
  unfold fAll at h
  split at h
  · cases r with
    | cons r1 r2 =>
      cases r2
      split at h
      · rename_i i ys e
        obtain ⟨p, ws, rfl, hp, hH, rr⟩ := getL_ok hh r1 e
        obtain ⟨b, eb, q⟩ := blV_ok hh h
        obtain ⟨bs, ebs, rfl⟩ := Option.map_eq_some_iff.mp eb
        rw [boolsA_ok rr ebs] at hH
        exact ⟨p, bs, rfl, SqL.of hH, q⟩
      · exact h.elim
  · exact h.elim
theorem ok_any : RNOk G fAny (rAny K) := by
  intro E F ρ A H xs vs Q hh r h
  unfold fAny at h
  split at h
  · cases r with
    | cons r1 r2 =>
      cases r2
      split at h
      · rename_i i ys e
        obtain ⟨p, ws, rfl, hp, hH, rr⟩ := getL_ok hh r1 e
        obtain ⟨b, eb, q⟩ := blV_ok hh h
        obtain ⟨bs, ebs, rfl⟩ := Option.map_eq_some_iff.mp eb
        rw [boolsA_ok rr ebs] at hH
        exact ⟨p, bs, rfl, SqL.of hH, q⟩
      · exact h.elim
  · exact h.elim
theorem ok_min2 : RNOk G fMin2 (fun xs H Q => ∃ i j, xs = [.int i, .int j] ∧ Q (.int (if j < i then j else i)) H) := by
  intro E F ρ A H xs vs Q hh r h
  unfold fMin2 at h
  split at h
  · cases r with
    | cons r1 r2 =>
      cases r2 with
      | cons r2 r3 =>
        cases r3
        split at h
        · rename_i e
          obtain ⟨i, j, rfl, rfl, e3⟩ := ltB_ok r2 r1 e
          exact ⟨j, i, rfl, by rw [if_pos (of_decide_eq_true e3)]; exact h.now hh _ r2⟩
        · rename_i e
          obtain ⟨i, j, rfl, rfl, e3⟩ := ltB_ok r2 r1 e
          exact ⟨j, i, rfl, by rw [if_neg (of_decide_eq_false e3)]; exact h.now hh _ r1⟩
        · exact h.elim
  · exact h.elim
theorem ok_strI : RNOk G fStrI (fun xs H Q => ∃ i, xs = [.int i] ∧ i.natAbs.log2 < 1920 ∧ Q (.str (toString i)) H) := by
  intro E F ρ A H xs vs Q hh r h
  unfold fStrI at h
  split at h
  · cases r with
    | cons r1 r2 =>
      cases r2
      rw [show _ = _ from r1, ← int_q]
      exact ⟨0, rfl, by decide, h.now hh _ (show V.str _ = V.str _ by decide +kernel)⟩
  · cases r with
    | cons r1 r2 =>
      cases r2
      rw [show _ = _ from r1, ← int_q]
      exact ⟨1, rfl, by decide, h.now hh _ (show V.str _ = V.str _ by decide +kernel)⟩
  · exact h.elim
theorem ok_intS : RNOk G fIntS (fun xs H Q => ∃ a n, xs = [.str a] ∧ PySem.intText? a = some n ∧ a.length ≤ 640 ∧ Q (.int n) H) := by
  intro E F ρ A H xs vs Q hh r h
  unfold fIntS at h
  split at h
  · cases r with
    | cons r1 r2 =>
      cases r2
      rw [show _ = _ from r1]
      exact ⟨_, 3, rfl, by decide +kernel, by decide, h.now hh _ int_q⟩
  · exact h.elim
theorem AK.val_ok (k : AK) : RV G ρ k.val (kV k.key) := by
  cases k with
  | i n => exact int_q
  | s l => rfl
theorem keys_ok {ρ ρ' : List Addr} {kvs : List (AK × AV)} {vs : List (Key × V)} (r : RKs G ρ kvs vs) : RVs G ρ' (kvs.map fun p => p.1.val) (vs.map fun kv => kV kv.1) := by
  induction r with
  | nil => exact .nil
  | @cons a b as bs q t ih =>
    refine .cons ?_ ih
    show RV G ρ' a.1.val (kV b.1)
    rw [← q.1]
    exact a.1.val_ok
theorem ok_listOf : RNOk G fListOf (fun xs H Q => (∃ p ys, xs = [.ref p] ∧ (SqL K H p ys ∨ SqT K H p ys) ∧ ∀ l, H l = none → Q (.ref l) (upd H l (.lst ys))) ∨
    ∃ (a : Addr) (kvs : List (Key × V)), xs = [.ref a] ∧ Rd H a (.dK kvs) ∧ ∀ p, H p = none → Q (.ref p) (upd H p (.lst (kvs.map fun kv => kV kv.1)))) := by
  intro E F ρ A H xs vs Q hh r h
  unfold fListOf at h
  split at h
  · cases r with
    | cons r1 r2 =>
      cases r2
      split at h
      · rename_i i ys e
        obtain ⟨p, ws, rfl, hp, hH, rr⟩ := getL_ok hh r1 e
        exact .inl ⟨p, ws, rfl, .inl (SqL.of hH), fun l hl => new_ok h hh hl ⟨ws, rfl, RVs.mono rr (Pre.snoc _ _)⟩⟩
      · split at h
        · rename_i i ys e
          obtain ⟨p, ws, rfl, hp, hH, rr⟩ := getT_ok hh r1 e
          exact .inl ⟨p, ws, rfl, .inr (SqT.of hH), fun l hl => new_ok h hh hl ⟨ws, rfl, RVs.mono rr (Pre.snoc _ _)⟩⟩
        · split at h
          · rename_i i ys e
            obtain ⟨p, ws, rfl, hp, hH, rr⟩ := getD_ok hh r1 e
            exact .inr ⟨p, ws, rfl, .of hH, fun l hl => new_ok h hh hl ⟨_, rfl, keys_ok rr⟩⟩
          · exact h.elim
  · exact h.elim
theorem ok_sorted : RNOk G fSorted (fun xs H Q => ∃ (a : Addr) (kvs : List (Key × V)) (ks : List Int), xs = [.ref a] ∧ Rd H a (.dK kvs) ∧ kvs.map (·.1) = ks.map Sum.inl ∧ ks.length < 64 ∧
    ∀ (ys : List Int) (p : Addr), ys.Perm ks → ys.Pairwise (· ≤ ·) → H p = none → Q (.ref p) (upd H p (.lst (ys.map V.int)))) := by
  intro E F ρ A H xs vs Q hh r h
  unfold fSorted at h
  split at h
  · cases r with
    | cons r1 r2 =>
      cases r2
      split at h
      · rename_i i e
        obtain ⟨p, ws, rfl, hp, hH, rr⟩ := getD_ok hh r1 e
        cases rr
        refine ⟨p, [], [], rfl, .of hH, rfl, by decide, fun ys l hy _ hl => ?_⟩
        rw [List.perm_nil.mp hy]
        exact new_ok h hh hl ⟨_, rfl, .nil⟩
      · rename_i i n v e
        obtain ⟨p, ws, rfl, hp, hH, rr⟩ := getD_ok hh r1 e
        cases rr with
        | @cons a b as bs q t =>
          cases t
          obtain ⟨b1, b2⟩ := b
          have e1 : b1 = Sum.inl n := (show _ = _ from q.1).symm
          refine ⟨p, [(b1, b2)], [n], rfl, .of hH, by rw [e1]; rfl, (show 1 < 64 by decide), fun ys l hy _ hl => ?_⟩
          rw [List.perm_singleton.mp hy]
          exact new_ok h hh hl ⟨_, rfl, .cons int_q .nil⟩
      · exact h.elim
  · exact h.elim
theorem pairsA_ok (hh : RH G F ρ A H) {ys : List AV} {ws : List V} (r : RVs G ρ ys ws) : ∀ {kvs : List (AK × AV)}, pairsA A ys = some kvs → ∃ (ps : List Addr) (zs : List (Key × V)), ws = ps.map V.ref ∧ Paired (fun p kv => SqT K H p [kV kv.1, kv.2]) ps zs ∧ RKs G ρ kvs zs := by
  induction r with
  | nil => intro kvs e; cases e; exact ⟨[], [], rfl, .nil, .nil⟩
  | @cons a w as ws q t ih =>
    intro kvs e
    unfold pairsA at e
    split at e
    · rename_i i k v eg
      obtain ⟨p, us, rfl, hp, hH, rr⟩ := getT_ok hh q eg
      split at e
      · rename_i kk ps ek ep
        cases e
        obtain ⟨qs, zs, rfl, h2, h3⟩ := ih ep
        cases rr with
        | cons r1 r2 =>
          cases r2 with
          | cons r2 r3 =>
            cases r3
            rename_i b1 b2
            have e1 : b1 = kV kk.key := keyA_ok r1 ek
            subst e1
            exact ⟨p :: qs, (kk.key, b2) :: zs, rfl, .cons (SqT.of hH) h2, .cons ⟨rfl, r2⟩ h3⟩
      · cases e
    · cases e
theorem mergeA_ok {ps : List (AK × AV)} {zs : List (Key × V)} (r : RKs G ρ ps zs) : ∀ {acc kvs : List (AK × AV)} {vs : List (Key × V)}, RKs G ρ acc vs → mergeA acc ps = some kvs → RKs G ρ kvs (mergeK vs zs) := by
  induction r with
  | nil =>
    intro acc kvs vs ra e
    unfold mergeA at e
    cases e
    exact ra
  | @cons p z ps zs q t ih =>
    intro acc kvs vs ra e
    unfold mergeA at e
    split at e
    · rename_i nd
      have := ih (putA_ok p.1 q.2 ra (of_decide_eq_true nd)) e
      rw [q.1] at this
      exact this
    · cases e
theorem ok_dict : RNOk G fDict (fun xs H Q => (∃ (a : Addr) (kvs : List (Key × V)), xs = [.ref a] ∧ Rd H a (.dK kvs) ∧ ∀ p, H p = none → Q (.ref p) (upd H p (.dK kvs))) ∨
    ∃ (a : Addr) (ps : List Addr) (kvs : List (Key × V)), xs = [.ref a] ∧ SqL K H a (ps.map V.ref) ∧ Paired (fun p kv => SqT K H p [kV kv.1, kv.2]) ps kvs ∧ ∀ p, H p = none → Q (.ref p) (upd H p (.dK (mergeK [] kvs)))) := by
  intro E F ρ A H xs vs Q hh r h
  unfold fDict at h
  split at h
  · cases r with
    | cons r1 r2 =>
      cases r2
      split at h
      · rename_i i ys e
        obtain ⟨p, ws, rfl, hp, hH, rr⟩ := getD_ok hh r1 e
        exact .inl ⟨p, ws, rfl, .of hH, fun l hl => new_ok h hh hl ⟨ws, rfl, P2.mono rr fun _ _ z => ⟨z.1, z.2.mono (Pre.snoc _ _)⟩⟩⟩
      · split at h
        · rename_i i ys e
          obtain ⟨p, ws, rfl, hp, hH, rr⟩ := getL_ok hh r1 e
          split at h
          · rename_i ps eps
            split at h
            · rename_i kvs ek
              obtain ⟨qs, zs, rfl, h2, h3⟩ := pairsA_ok (K := K) hh rr eps
              exact .inr ⟨p, qs, zs, rfl, SqL.of hH, h2, fun l hl => new_ok h hh hl ⟨_, rfl, P2.mono (mergeA_ok h3 .nil ek) fun _ _ z => ⟨z.1, z.2.mono (Pre.snoc _ _)⟩⟩⟩
            · exact h.elim
          · exact h.elim
        · exact h.elim
  · exact h.elim
end

/-! ### list(range(n)), [x] * n, slices -/
def fRange (x : AV) (A : List AO) : Rs AV := match x with
  | .int n 0 => if 0 ≤ n ∧ n ≤ 1000 then newO (.lst ((List.range n.toNat).map fun (i : Nat) => AV.int (i : Int) 0)) A else .no
  | _ => .no
def repV (x y : AV) (A : List AO) : Rs AV := match getL x A, y with
  | some (_, xs), .int n 0 => if 0 ≤ n ∧ n ≤ 100 ∧ xs.length ≤ 100 then newO (.lst (List.replicate n.toNat xs).flatten) A else .no
  | _, _ => .no
def cutA (xs : List AV) (lo hi : Option Int) : List AV := (xs.drop (HT.sIx xs.length 0 lo)).take (HT.sIx xs.length xs.length hi - HT.sIx xs.length 0 lo)
def fSl (lo hi : Option Int) (x : AV) (A : List AO) : Rs AV := match getL x A with
  | some (_, xs) => newO (.lst (cutA xs lo hi)) A
  | none => match getT x A with
    | some (_, xs) => if HT.sIx xs.length 0 lo = 0 ∧ HT.sIx xs.length xs.length hi = xs.length then .no else newO (.tup (cutA xs lo hi)) A
    | none => .no
section
variable {G : GP} {K : PySem.W.Frag} {ρ : List Addr} {F : Hp} {A : List AO} {H : Hp} {E : XK} {X : Cx} {σ : St} {e : Expr} {ee : EV}
theorem range_rel (n : Nat) : RVs G ρ ((List.range n).map fun (i : Nat) => AV.int (i : Int) 0) ((List.range n).map fun (i : Nat) => V.int (0 + (i : Int))) := by
  induction n with
  | zero => exact .nil
  | succ n ih =>
    rw [List.range_succ, List.map_append, List.map_append]
    refine P2.append ih (.cons ?_ .nil)
    show V.int _ = V.int _
    rw [Int.zero_add, Int.zero_mul, Int.add_zero]
theorem sim_lstRg {Q : VK} (h : tE G E (evU fRange ee) σ H Q) : tLstRg (tRg1 (tE G E ee)) σ H Q := by
  obtain ⟨F, ρ, σa, A, hs, hh, h⟩ := h
  refine tE_then hs hh h fun ρ1 x A1 v H1 p1 hs1 hh1 rv1 h1 => ?_
  unfold fRange at h1
  split at h1
  · rename_i n
    split at h1
    · rename_i hn
      refine ⟨n, by rw [show v = _ from rv1, ← int_q], RgOk.of_le (Int.le_refl 0) (by omega) (by omega) (by omega), fun q hq => new_ok h1 hh1 hq ⟨_, rfl, ?_⟩⟩
      unfold rgV
      rw [Int.sub_zero]
      exact range_rel _
    · exact h1.elim
  · exact h1.elim
theorem se_listRg {p pos p2 pos2 : Pos} (hc : X.calm = true) (hg : Gl X "list") (hm : X.mg "list" = none) (hg2 : Gl X "range") (hm2 : X.mg "range" = none) (he : PE X e (tE G E ee)) (na : starEach [e] X.env = (false, eval e X.env) :: starEach [] X.env := by rfl)
    (na2 : starEach [.Call (.Name "range" p2) [e] [] pos2] X.env = (false, eval (.Call (.Name "range" p2) [e] [] pos2) X.env) :: starEach [] X.env := by rfl) : PE X (.Call (.Name "list" p) [.Call (.Name "range" p2) [e] [] pos2] [] pos) (tE G E (evU fRange ee)) :=
  PE.imp (pe_listRg hc hg hm (prg_1 hg2 hm2 he na) na2) fun _ _ _ => sim_lstRg
theorem ok_rep : R2Ok G repV rRep := by
  intro E F ρ A H x y v u Q hh rx ry h
  unfold repV at h
  split at h
  · rename_i i xs n e
    split at h
    · rename_i hn
      obtain ⟨p, ws, rfl, hp, hH, rr⟩ := getL_ok hh rx e
      obtain ⟨h1, h2, h3⟩ := hn
      refine ⟨p, n, ws, rfl, by rw [show u = _ from ry, ← int_q], hH, by omega, by omega, ?_, fun l hl => new_ok h hh hl ⟨_, rfl, ?_⟩⟩
      · rw [← P2.len rr]
        exact szl (Nat.le_trans (Nat.mul_le_mul h3 (show n.toNat ≤ 100 by omega)) (by decide))
      · generalize n.toNat = m
        induction m with
        | zero => exact .nil
        | succ m ih =>
          rw [List.replicate_succ, List.replicate_succ, List.flatten_cons, List.flatten_cons]
          exact (RVs.mono rr (Pre.snoc _ _)).append ih
    · exact h.elim
  · exact h.elim
theorem fSl_ok {lo hi : Option Int} : R1Ok G (fSl lo hi) (fun x H Q => rSlL K x lo hi H Q ∨ rSlT K x lo hi H Q) := by
  intro E F ρ A H x v Q hh rx h
  unfold fSl at h
  split at h
  · rename_i i xs e
    obtain ⟨p, ws, rfl, hp, hH, rr⟩ := getL_ok hh rx e
    refine .inl ⟨p, ws, rfl, SqL.of hH, fun l hl => new_ok h hh hl ⟨_, rfl, ?_⟩⟩
    unfold cutA cutV
    rw [← P2.len rr]
    exact ((RVs.mono rr (Pre.snoc _ _)).drop _).take _
  · split at h
    · rename_i i xs e
      obtain ⟨p, ws, rfl, hp, hH, rr⟩ := getT_ok hh rx e
      split at h
      · exact h.elim
      · rename_i hc
        refine .inr ⟨p, ws, rfl, SqT.of hH, by rw [← P2.len rr]; exact hc, fun l hl => new_ok h hh hl ⟨_, rfl, ?_⟩⟩
        unfold cutA cutV
        rw [← P2.len rr]
        exact ((RVs.mono rr (Pre.snoc _ _)).drop _).take _
    · exact h.elim
theorem se_slTo {i : Int} {j p p2 pos} (he : PE X e (tE G E ee)) : PE X (.Subscript e (.Slice none (some (.Constant (.int i) j p)) none p2) pos) (tE G E (evU (fSl none (some i)) ee)) :=
  PE.imp (pe_slice (sl_list.or sl_tup) he po_none (po_some pe_int)) fun σ H Q h => by
    obtain ⟨F, ρ, σa, A, hs, hh, h⟩ := h
    refine tE_then hs hh h fun ρ1 x A1 v H1 p1 hs1 hh1 rv1 h1 => ⟨i, rfl, ?_⟩
    exact fSl_ok E F ρ1 A1 H1 x v Q hh1 rv1 h1
theorem se_slFrom {i : Int} {j p p2 pos} (he : PE X e (tE G E ee)) : PE X (.Subscript e (.Slice (some (.Constant (.int i) j p)) none none p2) pos) (tE G E (evU (fSl (some i) none) ee)) :=
  PE.imp (pe_slice (sl_list.or sl_tup) he (po_some pe_int) po_none) fun σ H Q h => by
    obtain ⟨F, ρ, σa, A, hs, hh, h⟩ := h
    refine tE_then hs hh h fun ρ1 x A1 v H1 p1 hs1 hh1 rv1 h1 => ⟨i, rfl, ?_⟩
    exact fSl_ok E F ρ1 A1 H1 x v Q hh1 rv1 h1
/-- a[b], a dict | a list, a tuple, a text -/
theorem se_dget {a b : Expr} {ea eb : EV} {pos : Pos} (hu : X.A.units + 1 < cLine) (ho : PE X a (tE G E ea)) (hi : PE X b (tE G E eb)) (hs : NoSl b := by intro _ _; rfl) : PE X (.Subscript a b pos) (tE G E (evB dGetV ea eb)) :=
  PE.imp (pe_dget hu ho hi hs) fun _ _ _ h => sim_op ok_dget h
theorem se_at {a b : Expr} {ea eb : EV} {pos : Pos} (ho : PE X a (tE G E ea)) (hi : PE X b (tE G E eb)) (hs : PlainIx b := by intro _ _; rfl) : PE X (.Subscript a b pos) (tE G E (evB atV ea eb)) :=
  PE.imp (pe_ix ix_seq ho hi hs) fun _ _ _ => sim_op (ok_at (K := X.K))
theorem se_din {a b : Expr} {ea eb : EV} {pos : Pos} (hu : X.A.units + 1 < cLine) (hi : PE X a (tE G E ea)) (ho : PE X b (tE G E eb)) (h1 : behindInMarks .In b = false := by rfl) : PE X (.Compare a [.In] [b] pos) (tE G E (evB dInV ea eb)) :=
  PE.imp (pe_cmp (pc_din hu hi ho) h1) fun _ _ _ h => sim_op (r := rDIn) ok_din h
theorem st_din {a b : Expr} {ea eb : EV} {pos : Pos} (hu : X.A.units + 1 < cLine) (hi : PE X a (tE G E ea)) (ho : PE X b (tE G E eb)) (h1 : behindInMarks .In b = false := by rfl) : PT X (.Compare a [.In] [b] pos) (tT G E (evB dInV ea eb)) :=
  PT.imp (pt_cmp (pc_din hu hi ho) h1) fun _ _ _ h => sim_bB (t := tDIn _ _) (fun _ h => sim_op (r := rDIn) ok_din h) h
theorem st_dnotin {a b : Expr} {ea eb : EV} {pos : Pos} (hu : X.A.units + 1 < cLine) (hi : PE X a (tE G E ea)) (ho : PE X b (tE G E eb)) (h1 : behindInMarks .NotIn b = false := by rfl) : PT X (.Compare a [.NotIn] [b] pos) (tT G E (evB dNotInV ea eb)) :=
  PT.imp (pt_cmp (pc_dnotin hu hi ho) h1) fun _ _ _ h => sim_bB (t := tDNotIn _ _) (fun _ h => sim_op (r := rDNotIn) ok_dnotin h) h

/-! ### methods of lists, dicts, texts -/
def fApp (x : AV) (vs : List AV) (A : List AO) : Rs AV := match getL x A, vs with
  | some (i, xs), [y] => if xs.length < 1000 then .ok .non (A.set i (.lst (xs ++ [y]))) else .no
  | _, _ => .no
def fPop0 (x : AV) (vs : List AV) (A : List AO) : Rs AV := match getL x A, vs with
  | some (i, y :: xs), [.int 0 0] => .ok y (A.set i (.lst xs))
  | _, _ => .no
def evBM (f : AV → List AV → List AO → Rs AV) (eo : EV) (es : EA) : EV := fun σ A => (eo σ A).bind fun x A1 => (match x with | .ref i => (match A1[i]? with | some (.lst _) => (es σ A1).bind fun vs A2 => f x vs A2 | _ => .no) | _ => .no)
def RMOk (G : GP) (f : AV → List AV → List AO → Rs AV) (r : V → List V → Hp → VK → Prop) : Prop := ∀ (E : XK) F ρ A H x v xs vs (Q : VK), RH G F ρ A H → RV G ρ x v → RVs G ρ xs vs → Post G E F ρ (AE.KV G Q) (f x xs A) → r v vs H Q
theorem sim_bm {f : AV → List AV → List AO → Rs AV} {r : V → List V → Hp → VK → Prop} {es : EA} {Q : VK} (hf : RMOk G f r) (h : tE G E (evBM f ee es) σ H Q) : tBM K "list" r (tE G E ee) (tA G E es) σ H Q := by
  obtain ⟨F, ρ, σa, A, hs, hh, h⟩ := h
  refine tE_then hs hh h fun ρ1 x A1 v H1 p1 hs1 hh1 rv1 h1 => ?_
  split at h1
  · split at h1
    · rename_i i xs e
      have rv1' := rv1
      obtain ⟨p, hp, rfl⟩ := rv1'
      obtain ⟨u, hu, ws, rfl, rr⟩ := hh1.at hp e
      refine ⟨.inl ⟨rfl, ws, SqL.of hu⟩, ?_⟩
      refine tA_then hs1 hh1 h1 fun ρ2 y A2 u H2 p2 hs2 hh2 rv2 h2 => ?_
      exact hf E F ρ2 A2 H2 _ _ y u Q hh2 (rv1.mono p2) rv2 h2
    · exact h1.elim
  · exact h1.elim
theorem ok_app : RMOk G fApp rAppend := by
  intro E F ρ A H x v xs vs Q hh rx rs h
  unfold fApp at h
  split at h
  · rename_i i xs y e
    split at h
    · rename_i hl
      obtain ⟨p, ws, rfl, hp, hH, rr⟩ := getL_ok hh rx e
      cases rs with
      | cons r1 r2 =>
        cases r2
        rename_i w
        rw [P2.len rr] at hl
        exact ⟨p, ws, w, rfl, rfl, hH, szlt (by omega), Post.now h (hh.put hp ⟨_, rfl, rr.append (.cons r1 .nil)⟩) _ rfl⟩
    · exact h.elim
  · exact h.elim
theorem ok_pop0 : RMOk G fPop0 rPopAt := by
  intro E F ρ A H x v xs vs Q hh rx rs h
  unfold fPop0 at h
  split at h
  · rename_i i y xs e
    obtain ⟨p, ws, rfl, hp, hH, rr⟩ := getL_ok hh rx e
    cases rs with
    | cons r1 r2 =>
      cases r2
      cases rr with
      | @cons a b as bs q t =>
        rw [show _ = _ from r1, ← int_q]
        refine ⟨p, b :: bs, 0, 0, b, rfl, rfl, hH, by omega, by omega, ?_, rfl, Post.now h (hh.put hp ⟨_, rfl, t⟩) _ q⟩
        unfold seqIndex?
        simp
  · exact h.elim
theorem se_app {o e1 : Expr} {eo : EV} {es : EA} {apos cpos : Pos} (ho : PE X o (tE G E eo)) (ha : PA X [e1] (tA G E es)) (hbase : attributeBase o "append" X.env (eval o X.env) = eval o X.env := by rfl)
    (hfew : ((backTo cpos (starEach [e1] X.env)).all (fun x => !x.1) && (backToKw cpos (keywordEach [] X.env)).all (fun x => x.1.isSome) && decide (([e1] : List Expr).length + ([] : List Keyword).length + (if ([] : List Keyword).isEmpty then 0 else 1) < 30)) = true := by rfl)
    (hline : (apos.endLine == cpos.line) = true := by rfl) (hs : starEach [e1] X.env = (false, eval e1 X.env) :: starEach [] X.env := by rfl) (hplain : (backTo cpos (starEach [] X.env)).any (·.1) = false := by rfl) :
    PE X (.Call (.Attribute o "append" apos) [e1] [] cpos) (tE G E (evBM fApp eo es)) :=
  PE.imp (pe_bm PySem.F.plainAttrs_list PySem.F.slot_list_append PySem.F.type_list_append mt_append ho ha hbase hfew hline hs hplain) fun _ _ _ => sim_bm ok_app
theorem se_pop {o e1 : Expr} {eo : EV} {es : EA} {apos cpos : Pos} (ho : PE X o (tE G E eo)) (ha : PA X [e1] (tA G E es)) (hbase : attributeBase o "pop" X.env (eval o X.env) = eval o X.env := by rfl)
    (hfew : ((backTo cpos (starEach [e1] X.env)).all (fun x => !x.1) && (backToKw cpos (keywordEach [] X.env)).all (fun x => x.1.isSome) && decide (([e1] : List Expr).length + ([] : List Keyword).length + (if ([] : List Keyword).isEmpty then 0 else 1) < 30)) = true := by rfl)
    (hline : (apos.endLine == cpos.line) = true := by rfl) (hs : starEach [e1] X.env = (false, eval e1 X.env) :: starEach [] X.env := by rfl) (hplain : (backTo cpos (starEach [] X.env)).any (·.1) = false := by rfl) :
    PE X (.Call (.Attribute o "pop" apos) [e1] [] cpos) (tE G E (evBM fPop0 eo es)) :=
  PE.imp (pe_bm PySem.F.plainAttrs_list PySem.F.slot_list_pop PySem.F.type_list_pop mt_popAt ho ha hbase hfew hline hs hplain) fun _ _ _ => sim_bm ok_pop0
/-- d.get(k), d.get(k, x) -/
def evGet1 (eo ek : EV) : EV := fun σ A => (eo σ A).bind fun x A1 => match getD x A1 with
  | some _ => (ek σ A1).bind fun y A2 => match getD x A2 with
    | some (_, kvs) => match lookA kvs y with | some (some a) => .ok a A2 | some none => .ok .non A2 | none => .no
    | none => .no
  | none => .no
def evGet2 (eo ek ed : EV) : EV := fun σ A => (eo σ A).bind fun x A1 => match getD x A1 with
  | some _ => (ek σ A1).bind fun y A2 => (ed σ A2).bind fun z A3 => match getD x A3 with
    | some (_, kvs) => match lookA kvs y with | some (some a) => .ok a A3 | some none => .ok z A3 | none => .no
    | none => .no
  | none => .no
theorem ROp.getD {a : Option AV} {o : Option V} {d : AV} {w : V} (h : ROp G ρ a o) (rd : RV G ρ d w) : RV G ρ (a.getD d) (o.getD w) := by
  cases a <;> cases o <;> first | exact rd | exact h | exact h.elim
theorem sim_get1 {eo ek : EV} {Q : VK} (h : tE G E (evGet1 eo ek) σ H Q) : tDGet1 (tE G E eo) (tE G E ek) σ H Q := by
  obtain ⟨F, ρ, σa, A, hs, hh, h⟩ := h
  refine tE_then hs hh h fun ρ1 x A1 v H1 p1 hs1 hh1 rv1 h1 => ?_
  split at h1
  · rename_i z e
    obtain ⟨i, kvs0⟩ := z
    obtain ⟨p, ws, rfl, hp, hH, rr⟩ := getD_ok hh1 rv1 e
    refine ⟨p, rfl, .inl ⟨ws, .of hH⟩, ?_⟩
    refine tE_then hs1 hh1 h1 fun ρ2 y A2 u H2 p2 hs2 hh2 rv2 h2 => ?_
    split at h2
    · rename_i j kvs e2
      obtain ⟨p', ws', ep, hp', hH', rr'⟩ := getD_ok hh2 (rv1.mono p2) e2
      cases ep
      split at h2
      · rename_i a el
        obtain ⟨w, g, ro⟩ := lookA_ok hH' rr' rv2 el
        exact ⟨w, g, h2.now hh2 _ (ro.getD (d := .non) rfl)⟩
      · rename_i el
        obtain ⟨w, g, ro⟩ := lookA_ok hH' rr' rv2 el
        exact ⟨w, g, h2.now hh2 _ (ro.getD (d := .non) rfl)⟩
      · exact h2.elim
    · exact h2.elim
  · exact h1.elim
theorem sim_get2 {eo ek ed : EV} {Q : VK} (h : tE G E (evGet2 eo ek ed) σ H Q) : tDGet2 (tE G E eo) (tE G E ek) (tE G E ed) σ H Q := by
  obtain ⟨F, ρ, σa, A, hs, hh, h⟩ := h
  refine tE_then hs hh h fun ρ1 x A1 v H1 p1 hs1 hh1 rv1 h1 => ?_
  split at h1
  · rename_i z e
    obtain ⟨i, kvs0⟩ := z
    obtain ⟨p, ws, rfl, hp, hH, rr⟩ := getD_ok hh1 rv1 e
    refine ⟨p, rfl, .inl ⟨ws, .of hH⟩, ?_⟩
    refine tE_then hs1 hh1 h1 fun ρ2 y A2 u H2 p2 hs2 hh2 rv2 h2 => ?_
    refine tE_then hs2 hh2 h2 fun ρ3 z A3 u3 H3 p3 hs3 hh3 rv3 h3 => ?_
    split at h3
    · rename_i j kvs e2
      obtain ⟨p', ws', ep, hp', hH', rr'⟩ := getD_ok hh3 ((rv1.mono p2).mono p3) e2
      cases ep
      split at h3
      · rename_i a el
        obtain ⟨w, g, ro⟩ := lookA_ok hH' rr' (rv2.mono p3) el
        exact ⟨w, g, h3.now hh3 _ (ro.getD (d := z) rv3)⟩
      · rename_i el
        obtain ⟨w, g, ro⟩ := lookA_ok hH' rr' (rv2.mono p3) el
        exact ⟨w, g, h3.now hh3 _ (ro.getD (d := z) rv3)⟩
      · exact h3.elim
    · exact h3.elim
  · exact h1.elim
theorem se_get1 {o e1 : Expr} {eo ek : EV} {apos cpos : Pos} (hu : X.A.units + 1 < cLine) (ho : PE X o (tE G E eo)) (hk : PE X e1 (tE G E ek)) (m : M1 X o "get" apos e1 cpos := by exact ⟨rfl, rfl, rfl, rfl⟩) : PE X (.Call (.Attribute o "get" apos) [e1] [] cpos) (tE G E (evGet1 eo ek)) :=
  PE.imp (pe_dget1 hu ho hk m) fun _ _ _ => sim_get1
theorem se_get2 {o e1 e2 : Expr} {eo ek ed : EV} {apos cpos : Pos} (hu : X.A.units + 1 < cLine) (ho : PE X o (tE G E eo)) (hk : PE X e1 (tE G E ek)) (hd : PE X e2 (tE G E ed)) (m : M2 X o "get" apos e1 e2 cpos := by exact ⟨rfl, rfl, rfl, rfl⟩) : PE X (.Call (.Attribute o "get" apos) [e1, e2] [] cpos) (tE G E (evGet2 eo ek ed)) :=
  PE.imp (pe_dget2 hu ho hk hd m) fun _ _ _ => sim_get2
end
end AE

namespace AE
open PySem L2

/-! ### targets -/
def etgN (j : Nat) : ETG := fun a σ A => .ok (σ.set j (some a)) A
def setAll : List (Option AV) → List Nat → List AV → List (Option AV)
  | σ, j :: js, a :: as => setAll (σ.set j (some a)) js as
  | σ, _, _ => σ
def etgT (js : List Nat) : ETG := fun a σ A => match getT a A with
  | some (_, xs) => if xs.length = js.length then .ok (setAll σ js xs) A else .no
  | none => .no
def gTs : List Nat → TGs
  | [] => gNil
  | j :: js => gCons (gName j) (gTs js)
def setAllV : St → List Nat → List V → St
  | σ, j :: js, a :: as => setAllV (σ.set j (some a)) js as
  | σ, _, _ => σ
section
variable {G : GP} {E : XK} {X : Cx} {ρ : List Addr} {F : Hp} {A : List AO} {H : Hp} {σ : St}
theorem RS.set1 {σa : List (Option AV)} {σ : St} {a : AV} {v : V} (hs : RS G ρ σa σ) (r : RV G ρ a v) (j : Nat) : RS G ρ (σa.set j (some a)) (σ.set j (some v)) := P2.set (R := RSl G ρ) hs (show RSl G ρ (some a) (some v) from ⟨v, rfl, r⟩) j
theorem gTs_ok : ∀ {js : List Nat} {vs : List V} {σ : St} {H : Hp} {Q : St → Hp → Prop}, vs.length = js.length → Q (setAllV σ js vs) H → gTs js vs σ H Q
  | [], [], σ, H, Q, _, q => ⟨rfl, q⟩
  | j :: js, v :: vs, σ, H, Q, hl, q => ⟨v, vs, rfl, gTs_ok (by simpa using hl) q⟩
  | [], _ :: _, _, _, _, hl, _ => by simp at hl
  | _ :: _, [], _, _, _, hl, _ => by simp at hl
theorem setAll_ok : ∀ {js : List Nat} {as : List AV} {vs : List V} {σa : List (Option AV)} {σ : St}, RVs G ρ as vs → RS G ρ σa σ → RS G ρ (setAll σa js as) (setAllV σ js vs)
  | [], [], _, _, _, .nil, hs => hs
  | [], _ :: _, _ :: _, _, _, .cons _ _, hs => hs
  | j :: js, [], _, _, _, .nil, hs => hs
  | j :: js, _ :: _, _ :: _, _, _, .cons r t, hs => setAll_ok (js := js) t (hs.set1 r j)
theorem sg_name {i : Nat} {x : Str} {pos : Pos} (hN : X.N.Nodup) (hi : X.N[i]? = some x) (hx : Loc X.env.scope x) (hf : X.fn x = true ∨ X.env.scope.names.lookup x = some .local := by first | exact .inl rfl | exact .inr rfl | assumption) : PG X (.Name x pos) (tG G E (etgN i)) :=
  PG.imp (pg_name hN hi hx hf) fun v σ H Q h => by
    obtain ⟨F, ρ, σa, A, a, hs, hh, rv, h⟩ := h
    exact h.now hh _ (hs.set1 rv i)
theorem sim_tgt {js : List Nat} {K : PySem.W.Frag} {v : V} {Q : St → Hp → Prop} (h : tG G E (etgT js) v σ H Q) : gTup K js.length (gTs js) v σ H Q := by
  obtain ⟨F, ρ, σa, A, a, hs, hh, rv, h⟩ := h
  unfold etgT at h
  split at h
  · rename_i i xs e
    obtain ⟨p, vs, rfl, hp, hH, rr⟩ := getT_ok hh rv e
    split at h
    · rename_i hl
      rw [P2.len rr] at hl
      exact ⟨p, vs, rfl, SqT.of hH, hl, gTs_ok hl (h.now hh _ (setAll_ok rr hs))⟩
    · exact h.elim
  · exact h.elim
theorem sg_tup {es : List Expr} {k : Nat} {pos : Pos} {js : List Nat} (hc : X.calm = true) (h : PGs X es (gTs js))
    (hn : (assignEach es X.env).length = js.length := by rfl) (hst : (assignEach es X.env).findIdx? (·.1) = none := by rfl) : PG X (.Tuple es k pos) (tG G E (etgT js)) :=
  PG.imp (pg_tup hc h hn hst) fun _ _ _ _ => sim_tgt

/-! ### statements -/
def svNil : EVS := fun σ A => .ok (.nx σ) A
def svNo : EVS := fun _ _ => .no
def evNo : EV := fun _ _ => .no
def flB (f : List (Option AV) → List AO → Rs Fl) : Fl → List AO → Rs Fl := fun fl A => match fl with
  | .nx σ => f σ A
  | x => .ok x A
def svSeq (a b : EVS) : EVS := fun σ A => (a σ A).bind (flB b)
def svExpr (e : EV) : EVS := fun σ A => (e σ A).bind fun _ A1 => .ok (.nx σ) A1
def svRet (e : EV) : EVS := fun σ A => (e σ A).bind fun v A1 => .ok (.rt v) A1
def svAsg (e : EV) (g : ETG) : EVS := fun σ A => (e σ A).bind fun v A1 => (g v σ A1).bind fun σ2 A2 => .ok (.nx σ2) A2
def svIf (c : EV) (a b : EVS) : EVS := fun σ A => (c σ A).bind (isBS fun k A1 => if k then a σ A1 else b σ A1)
where isBS (f : Bool → List AO → Rs Fl) : AV → List AO → Rs Fl := fun x A => match x with | .bl b => f b A | _ => .no
def svFld (f : FN) (eo ev : EV) : EVS := fun σ A => (ev σ A).bind fun v A1 => (eo σ A1).bind fun x A2 => match getI x A2 with
  | some (i, c, fs) => if fldOk c f ∧ fs.length < 900 then .ok (.nx σ) (A2.set i (.ins c (putFA f v fs))) else .no
  | none => .no
def svDput (ed ek ev : EV) : EVS := fun σ A => (ev σ A).bind fun v A1 => (ed σ A1).bind fun x A2 => (ek σ A2).bind fun y A3 => match getD x A3, keyA y with
  | some (i, kvs), some k => if ndA kvs ∧ kvs.length < 900 then .ok (.nx σ) (A3.set i (.dic (putA kvs k v))) else .no
  | _, _ => .no
def svRaise0 (c : XN) : EVS := fun _ A => .ex c none A
def svRaise1 (c : XN) (f : FN) (ev : EV) : EVS := fun σ A => (ev σ A).bind fun v A1 => .ex c (some (f, v)) A1
variable {D : Ends} {a b : EVS} {e : Expr} {ee eo ek : EV} {st : Stmt} {rest : List Stmt} {pos : Pos}
theorem ss_nil : PSs X [] (tS G E svNil) := PSs.imp pss_nil fun D σ H h => by
  obtain ⟨F, ρ, σa, A, hs, hh, h⟩ := h
  exact h.now hh σ hs
theorem sim_seq (h : tS G E (svSeq a b) D σ H) : tSeq (tS G E a) (tS G E b) D σ H := by
  obtain ⟨F, ρ, σa, A, hs, hh, h⟩ := h
  refine ⟨F, ρ, σa, A, hs, hh, h.bind.mono fun ρ' fl A' H' p rh q => ?_⟩
  cases fl with
  | nx σ1 => exact fun σ2 rs => ⟨F, ρ', σ1, A', rs, rh, q⟩
  | rt v => exact q.now rh
  | bk σ1 => exact q.now rh
  | ct σ1 => exact q.now rh
theorem ss_cons (h1 : PS X st (tS G E a)) (h2 : PSs X rest (tS G E b)) : PSs X (st :: rest) (tS G E (svSeq a b)) := PSs.imp (pss_cons h1 h2) fun _ _ _ => sim_seq
theorem ss_one (h1 : PS X st (tS G E a)) : PSs X [st] (tS G E a) := pss_one h1
theorem ss_never {sts : List Stmt} : PSs X sts (tS G E svNo) := PSs.imp pss_never fun D σ H h => by
  obtain ⟨F, ρ, σa, A, hs, hh, h⟩ := h
  exact h.elim
theorem s_never : PS X st (tS G E svNo) := PS.imp ps_never fun D σ H h => by
  obtain ⟨F, ρ, σa, A, hs, hh, h⟩ := h
  exact h.elim
theorem pe_no : PE X e (tE G E evNo) := ⟨fun pins s σ H Q I h => by
  obtain ⟨F, ρ, σa, A, hs, hh, h⟩ := h
  exact h.elim⟩
theorem s_pass : PS X (.Pass pos) (tS G E svNil) := PS.imp ps_pass fun D σ H h => by
  obtain ⟨F, ρ, σa, A, hs, hh, h⟩ := h
  exact h.now hh σ hs
theorem sim_drop (h : tS G E (svExpr ee) D σ H) : tDrop (tE G E ee) D σ H := by
  obtain ⟨F, ρ, σa, A, hs, hh, h⟩ := h
  exact tE_then hs hh h fun ρ1 x A1 v H1 p1 hs1 hh1 rv1 h1 => h1.now hh1 σ hs1
theorem s_expr (he : PE X e (tE G E ee)) (hs : swapsWith e none pos.line X.env = pure false := by rfl) : PS X (.Expr e pos) (tS G E (svExpr ee)) := PS.imp (ps_expr he hs) fun _ _ _ => sim_drop
theorem sim_ret (h : tS G E (svRet ee) D σ H) : tRet (tE G E ee) D σ H := by
  obtain ⟨F, ρ, σa, A, hs, hh, h⟩ := h
  exact tE_then hs hh h fun ρ1 x A1 v H1 p1 hs1 hh1 rv1 h1 => h1.now hh1 v rv1
theorem s_ret (he : PE X e (tE G E ee)) : PS X (.Return (some e) pos) (tS G E (svRet ee)) := PS.imp (ps_ret he) fun _ _ _ => sim_ret
theorem sim_asg {g : ETG} (h : tS G E (svAsg ee g) D σ H) : tAsg (tE G E ee) (tG G E g) D σ H := by
  obtain ⟨F, ρ, σa, A, hs, hh, h⟩ := h
  refine tE_then hs hh h fun ρ1 x A1 v H1 p1 hs1 hh1 rv1 h1 => ?_
  exact ⟨F, ρ1, σa, A1, x, hs1, hh1, rv1, h1.bind.mono fun ρ2 σ2 A2 H2 p2 hh2 q σ3 hs3 => q.now hh2 σ3 hs3⟩
theorem s_asg {tg : Expr} {g : ETG} (he : PE X e (tE G E ee)) (hg : PG X tg (tG G E g)) (hs : swapsWithSole [tg] e pos.line X.env = pure false := by rfl) (hw : swappedStores [tg] e X.env = pure none := by rfl)
    (h1 : (assignEach [tg] X.env).map (·.2) = [assign tg X.env] := by rfl) : PS X (.Assign [tg] e pos) (tS G E (svAsg ee g)) := PS.imp (ps_asg he hg hs hw h1) fun _ _ _ => sim_asg
theorem s_set {i : Nat} {x : Str} {pos' : Pos} (hN : X.N.Nodup) (hi : X.N[i]? = some x) (hx : Loc X.env.scope x) (he : PE X e (tE G E ee)) (hs : swapsWith e (some (.Name x pos')) pos.line X.env = pure false := by rfl) (hf : X.fn x = true ∨ X.env.scope.names.lookup x = some .local := by first | exact .inl rfl | exact .inr rfl | assumption) :
    PS X (.Assign [.Name x pos'] e pos) (tS G E (svAsg ee (etgN i))) := PS.imp (ps_set hN hi hx he hs hf) fun D σ H h => by
  obtain ⟨F, ρ, σa, A, hs, hh, h⟩ := h
  refine tE_then hs hh h fun ρ1 x A1 v H1 p1 hs1 hh1 rv1 h1 => ?_
  exact Post.now h1 hh1 _ (hs1.set1 rv1 i)
theorem isBS_no {f : Bool → List AO → Rs Fl} : ∀ x A, (∀ b, x ≠ .bl b) → svIf.isBS f x A = .no := fun x A h => by
  cases x with
  | bl b => exact absurd rfl (h b)
  | _ => rfl
theorem sim_if {c : EV} (h : tS G E (svIf c a b) D σ H) : tIfS (tT G E c) (tS G E a) (tS G E b) D σ H := by
  obtain ⟨F, ρ, σa, A, hs, hh, h⟩ := h
  refine tT_then hs hh h isBS_no fun ρ1 k A1 H1 p1 hs1 hh1 h1 => ?_
  cases k with
  | true =>
    show tS G E a D σ H1
    exact tS_run hs1 hh1 h1
  | false =>
    show tS G E b D σ H1
    exact tS_run hs1 hh1 h1
theorem s_if {c : Expr} {ss ts : List Stmt} {ec : EV} (hc : PT X c (tT G E ec)) (ha : PSs X ss (tS G E a)) (hb : PSs X ts (tS G E b)) : PS X (.If c ss ts pos) (tS G E (svIf ec a b)) := PS.imp (ps_if hc ha hb) fun _ _ _ => sim_if
theorem sim_sfld {f : FN} (hK : KOk G X.K) (h : tS G E (svFld f eo ee) D σ H) : sFld X.K (tE G E eo) (tE G E ee) f.str D σ H := by
  obtain ⟨F, ρ, σa, A, hs, hh, h⟩ := h
  refine tE_then hs hh h fun ρ1 y A1 v H1 p1 hs1 hh1 rv1 h1 => ?_
  refine tE_then hs1 hh1 h1 fun ρ2 x A2 u H2 p2 hs2 hh2 rv2 h2 => ?_
  split at h2
  · rename_i i c fs ei
    obtain ⟨p, dx, vs, rfl, hp, hH, rf⟩ := getI_ok hh2 rv2 ei
    split at h2
    · rename_i hc
      have hl := hc.2
      rw [P2.len rf] at hl
      exact ⟨p, _, dx, vs, rfl, hH, hK.cls c, hK.na c f hc.1, by omega, Post.now h2 (hh2.put hp ⟨dx, _, rfl, putF_ok f (rv1.mono p2) rf⟩) σ hs2⟩
    · exact h2.elim
  · exact h2.elim
theorem s_fld {o : Expr} {f : FN} {fs : Str} {pos' : Pos} (hK : KOk G X.K) (hf : fs = f.str) (ho : PE X o (tE G E eo)) (hv : PE X e (tE G E ee)) (hs : swapsWith e (some (.Attribute o fs pos')) pos.line X.env = pure false := by rfl) : PS X (.Assign [.Attribute o fs pos'] e pos) (tS G E (svFld f eo ee)) := by
  subst hf
  exact PS.imp (ps_fld ho hv hs) fun _ _ _ => sim_sfld hK
theorem sim_dput (h : tS G E (svDput eo ek ee) D σ H) : sDPut (tE G E eo) (tE G E ek) (tE G E ee) D σ H := by
  obtain ⟨F, ρ, σa, A, hs, hh, h⟩ := h
  refine tE_then hs hh h fun ρ1 y A1 v H1 p1 hs1 hh1 rv1 h1 => ?_
  refine tE_then hs1 hh1 h1 fun ρ2 x A2 u H2 p2 hs2 hh2 rv2 h2 => ?_
  refine tE_then hs2 hh2 h2 fun ρ3 z A3 w H3 p3 hs3 hh3 rv3 h3 => ?_
  split at h3
  · rename_i i kvs k ei ez
    obtain ⟨p, vs, rfl, hp, hH, rf⟩ := getD_ok hh3 (rv2.mono p3) ei
    split at h3
    · rename_i hc
      have hl := hc.2
      rw [P2.len rf] at hl
      rw [keyA_ok rv3 ez]
      exact ⟨p, _, rfl, DPut.k hH (szlt (by omega)), Post.now h3 (hh3.put hp ⟨_, rfl, putA_ok k ((rv1.mono p2).mono p3) rf (of_decide_eq_true hc.1)⟩) σ hs3⟩
    · exact h3.elim
  · exact h3.elim
theorem s_dput {o i : Expr} {pos' : Pos} (hu : X.A.units + 1 < cLine) (ho : PE X o (tE G E eo)) (hi : PE X i (tE G E ek)) (hv : PE X e (tE G E ee)) (hs : swapsWith e (some (.Subscript o i pos')) pos.line X.env = pure false := by rfl) :
    PS X (.Assign [.Subscript o i pos'] e pos) (tS G E (svDput eo ek ee)) := PS.imp (ps_dput hu ho hi hv hs) fun _ _ _ => sim_dput

/-! ### what a loop walks -/
inductive AI where
  | lst (i : Nat) | tup (i : Nat) | rng (n : Nat) | enu (i : Nat) | zip (i j : Nat) | sgn (l : List Nat)
def RJ (K : PySem.W.Frag) (ρ : List Addr) : AI → It → Prop
  | .lst i, J => ∃ p, ρ[i]? = some p ∧ J = Itl K p
  | .tup i, J => ∃ p, ρ[i]? = some p ∧ J = Itt K p
  | .rng n, J => J = Itr 0 n
  | .enu i, J => ∃ p, ρ[i]? = some p ∧ J = Ite K p
  | .zip i j, J => ∃ p r, ρ[i]? = some p ∧ ρ[j]? = some r ∧ J = Itz K p r
  | .sgn l, J => J = Its ⟨l.toArray⟩
theorem RJ.mono {K : PySem.W.Frag} {ρ ρ' : List Addr} {ai : AI} {J : It} (h : RJ K ρ ai J) (p : Pre ρ ρ') : RJ K ρ' ai J := by
  cases ai with
  | lst i => obtain ⟨x, e, r⟩ := h; exact ⟨x, p.get e, r⟩
  | tup i => obtain ⟨x, e, r⟩ := h; exact ⟨x, p.get e, r⟩
  | rng n => exact h
  | enu i => obtain ⟨x, e, r⟩ := h; exact ⟨x, p.get e, r⟩
  | zip i j => obtain ⟨x, y, e, e2, r⟩ := h; exact ⟨x, y, p.get e, p.get e2, r⟩
  | sgn l => exact h
def nextI : AI → Nat → List AO → Option (Option AV × List AO)
  | .lst i, t, A => match A[i]? with | some (.lst xs) => some (xs[t]?, A) | _ => none
  | .tup i, t, A => match A[i]? with | some (.tup xs) => some (xs[t]?, A) | _ => none
  | .rng n, t, A => if t < n then some (some (.int t 0), A) else some (none, A)
  | .enu i, t, A => match A[i]? with
    | some (.lst xs) => match xs[t]? with | some x => some (some (.ref A.length), A ++ [.tup [.int t 0, x]]) | none => some (none, A)
    | _ => none
  | .zip i j, t, A => match A[i]?, A[j]? with
    | some (.lst xs), some (.lst ys) => match xs[t]?, ys[t]? with | some x, some y => some (some (.ref A.length), A ++ [.tup [x, y]]) | _, _ => some (none, A)
    | _, _ => none
  | .sgn l, t, A => some (l[t]?.map fun c => .str [c], A)
def NextOk (G : GP) (F : Hp) (ρ : List Addr) (A A' : List AO) (H : Hp) (J : It) (t : Nat) : Option AV → Prop
  | none => J.stop t H ∧ A' = A
  | some a => J.go t H ∧ ∀ x H', J.yld t H x H' → ∃ ρ', Pre ρ ρ' ∧ RH G F ρ' A' H' ∧ RV G ρ' a x
theorem next_ok {K : PySem.W.Frag} {ai : AI} {J : It} {t : Nat} {o : Option AV} {A' : List AO} (hh : RH G F ρ A H) (rj : RJ K ρ ai J) (h : nextI ai t A = some (o, A')) : NextOk G F ρ A A' H J t o := by
  cases ai with
  | lst i =>
    obtain ⟨p, hp, rfl⟩ := rj
    unfold nextI at h
    dsimp only at h
    split at h
    · rename_i xs e
      injection h with h
      injection h with h1 h2
      subst h1 h2
      obtain ⟨u, hu, vs, rfl, rr⟩ := hh.at hp e
      cases ex : xs[t]? with
      | none =>
        refine ⟨⟨vs, SqL.of hu, ?_⟩, rfl⟩
        rw [← P2.len rr]
        exact List.getElem?_eq_none_iff.mp ex
      | some a =>
        obtain ⟨w, ew, rw'⟩ := P2.get rr ex
        refine ⟨⟨vs, w, SqL.of hu, ew⟩, fun x H' y => ?_⟩
        obtain ⟨rfl, y⟩ := y
        have e2 := y vs (SqL.of hu)
        rw [ew] at e2
        cases e2
        exact ⟨ρ, Pre.refl ρ, hh, rw'⟩
    · cases h
  | tup i =>
    obtain ⟨p, hp, rfl⟩ := rj
    unfold nextI at h
    dsimp only at h
    split at h
    · rename_i xs e
      injection h with h
      injection h with h1 h2
      subst h1 h2
      obtain ⟨u, hu, vs, rfl, rr⟩ := hh.at hp e
      cases ex : xs[t]? with
      | none =>
        refine ⟨⟨vs, SqT.of hu, ?_⟩, rfl⟩
        rw [← P2.len rr]
        exact List.getElem?_eq_none_iff.mp ex
      | some a =>
        obtain ⟨w, ew, rw'⟩ := P2.get rr ex
        refine ⟨⟨vs, w, SqT.of hu, ew⟩, fun x H' y => ?_⟩
        obtain ⟨rfl, y⟩ := y
        have e2 := y vs (SqT.of hu)
        rw [ew] at e2
        cases e2
        exact ⟨ρ, Pre.refl ρ, hh, rw'⟩
    · cases h
  | rng n =>
    have rj : J = Itr 0 n := rj
    subst rj
    unfold nextI at h
    dsimp only at h
    split at h
    · rename_i hl
      injection h with h
      injection h with h1 h2
      subst h1 h2
      refine ⟨hl, fun x H' y => ?_⟩
      obtain ⟨rfl, rfl⟩ := y
      refine ⟨ρ, Pre.refl ρ, hh, ?_⟩
      show V.int _ = V.int _
      rw [Int.zero_add, Int.zero_mul, Int.add_zero]
    · rename_i hl
      injection h with h
      injection h with h1 h2
      subst h1 h2
      exact ⟨Nat.le_of_not_lt hl, rfl⟩
  | enu i =>
    obtain ⟨p, hp, rfl⟩ := rj
    unfold nextI at h
    dsimp only at h
    split at h
    · rename_i xs e
      obtain ⟨u, hu, vs, rfl, rr⟩ := hh.at hp e
      split at h
      · rename_i a ea
        injection h with h
        injection h with h1 h2
        subst h1 h2
        obtain ⟨w, ew, rw'⟩ := P2.get rr ea
        refine ⟨⟨vs, w, SqL.of hu, ew⟩, fun x H' y => ?_⟩
        obtain ⟨T, x2, rfl, hT, rfl, y⟩ := y
        have e2 := y vs (SqL.of hu)
        rw [ew] at e2
        cases e2
        exact ⟨ρ ++ [T], Pre.snoc _ _, hh.new hT ⟨_, rfl, .cons int_q (.cons (rw'.mono (Pre.snoc _ _)) .nil)⟩, hh.last⟩
      · rename_i ea
        injection h with h
        injection h with h1 h2
        subst h1 h2
        refine ⟨⟨vs, SqL.of hu, ?_⟩, rfl⟩
        rw [← P2.len rr]
        exact List.getElem?_eq_none_iff.mp ea
    · cases h
  | zip i j =>
    obtain ⟨p, r, hp, hr, rfl⟩ := rj
    unfold nextI at h
    dsimp only at h
    split at h
    · rename_i xs ys e e'
      obtain ⟨u, hu, vs, rfl, rr⟩ := hh.at hp e
      obtain ⟨u', hu', vs', rfl, rr'⟩ := hh.at hr e'
      split at h
      · rename_i a a' ea ea'
        injection h with h
        injection h with h1 h2
        subst h1 h2
        obtain ⟨w, ew, rw'⟩ := P2.get rr ea
        obtain ⟨w', ew', rw2⟩ := P2.get rr' ea'
        refine ⟨⟨vs, vs', w, w', SqL.of hu, SqL.of hu', ew, ew'⟩, fun x H' y => ?_⟩
        obtain ⟨T, x2, y2, rfl, hT, rfl, y, y'⟩ := y
        have e2 := y vs (SqL.of hu)
        rw [ew] at e2
        cases e2
        have e3 := y' vs' (SqL.of hu')
        rw [ew'] at e3
        cases e3
        exact ⟨ρ ++ [T], Pre.snoc _ _, hh.new hT ⟨_, rfl, .cons (rw'.mono (Pre.snoc _ _)) (.cons (rw2.mono (Pre.snoc _ _)) .nil)⟩, hh.last⟩
      · rename_i hno
        injection h with h
        injection h with h1 h2
        subst h1 h2
        refine ⟨⟨vs, vs', SqL.of hu, SqL.of hu', ?_⟩, rfl⟩
        rw [← P2.len rr, ← P2.len rr']
        cases ea : xs[t]? with
        | none => exact .inl (List.getElem?_eq_none_iff.mp ea)
        | some a =>
          cases eb : ys[t]? with
          | none => exact .inr (List.getElem?_eq_none_iff.mp eb)
          | some b => exact (hno a b ea eb).elim
    · cases h
  | sgn l =>
    have rj : J = Its ⟨l.toArray⟩ := rj
    subst rj
    unfold nextI at h
    injection h with h
    injection h with h1 h2
    subst h1 h2
    cases el : l[t]? with
    | none =>
      refine ⟨?_, rfl⟩
      show l.toArray.size ≤ t
      rw [List.size_toArray]
      exact List.getElem?_eq_none_iff.mp el
    | some c =>
      refine ⟨?_, fun x H' y => ?_⟩
      · show t < l.toArray.size
        rw [List.size_toArray]
        exact (List.getElem?_eq_some_iff.mp el).1
      · obtain ⟨rfl, d, ed, rfl⟩ := y
        have e2 : l[t]? = some d := by simpa using ed
        rw [el] at e2
        cases e2
        exact ⟨ρ, Pre.refl ρ, hh, rfl⟩

/-! ### the iterators' readings -/
abbrev EI := List (Option AV) → List AO → Rs AI
def tI (G : GP) (E : XK) (K : PySem.W.Frag) (ev : EI) : TI := fun σ H R => ∃ F ρ σa A, RS G ρ σa σ ∧ RH G F ρ A H ∧ Post G E F ρ (fun ρ' ai A' H' => ∀ J, RJ K ρ' ai J → R J H') (ev σa A)
theorem PI.imp {X : Cx} {tg e : Expr} {t u : TI} (h : PI X tg e t) (k : ∀ σ H R, u σ H R → t σ H R) : PI X tg e u := ⟨fun pins s σ H R I hw => h.run pins s σ H R I (k σ H R hw)⟩
def eiL (e : EV) : EI := fun σ A => (e σ A).bind fun x A1 => match getL x A1 with | some (i, _) => .ok (.lst i) A1 | none => .no
def eiS (e : EV) : EI := fun σ A => (e σ A).bind fun x A1 => match x with | .str l => .ok (.sgn l) A1 | _ => .no
def eiT (e : EV) : EI := fun σ A => (e σ A).bind fun x A1 => match getT x A1 with | some (i, _) => .ok (.tup i) A1 | none => .no
def eiR (es : EA) : EI := fun σ A => (es σ A).bind fun xs A1 => match xs with | [.int n 0] => if 0 ≤ n ∧ n ≤ 100 then .ok (.rng n.toNat) A1 else .no | _ => .no
def eiE (es : EA) : EI := fun σ A => (es σ A).bind fun xs A1 => match xs with | [x] => (match getL x A1 with | some (i, _) => .ok (.enu i) A1 | none => .no) | _ => .no
def eiZ (es : EA) : EI := fun σ A => (es σ A).bind fun xs A1 => match xs with | [x, y] => (match getL x A1, getL y A1 with | some (i, _), some (j, _) => .ok (.zip i j) A1 | _, _ => .no) | _ => .no
theorem getL_ix {x : AV} {A : List AO} {i : Nat} {xs : List AV} (h : getL x A = some (i, xs)) : x = .ref i := by
  unfold getL at h
  split at h
  · split at h
    · cases h
      rfl
    · cases h
  · cases h
section
variable {tg : Expr} {es : EA}
theorem si_list (he : PE X e (tE G E ee)) : PI X tg e (tI G E X.K (eiL ee)) := PI.imp (pi_list he) fun σ H R h => by
  obtain ⟨F, ρ, σa, A, hs, hh, h⟩ := h
  refine tE_then hs hh h fun ρ1 x A1 v H1 p1 hs1 hh1 rv1 h1 => ?_
  split at h1
  · rename_i i xs ei
    obtain ⟨p, vs, rfl, hp, hH, rf⟩ := getL_ok hh1 rv1 ei
    exact ⟨p, rfl, ⟨vs, SqL.of hH⟩, h1.now hh1 _ ⟨p, hp, rfl⟩⟩
  · exact h1.elim
theorem si_str (he : PE X e (tE G E ee)) : PI X tg e (tI G E X.K (eiS ee)) := PI.imp (pi_str he) fun σ H R h => by
  obtain ⟨F, ρ, σa, A, hs, hh, h⟩ := h
  refine tE_then hs hh h fun ρ1 x A1 v H1 p1 hs1 hh1 rv1 h1 => ?_
  split at h1
  · exact ⟨_, rv1, h1.now hh1 _ rfl⟩
  · exact h1.elim
theorem si_tup (he : PE X e (tE G E ee)) : PI X tg e (tI G E X.K (eiT ee)) := PI.imp (pi_tup he) fun σ H R h => by
  obtain ⟨F, ρ, σa, A, hs, hh, h⟩ := h
  refine tE_then hs hh h fun ρ1 x A1 v H1 p1 hs1 hh1 rv1 h1 => ?_
  split at h1
  · rename_i i xs ei
    obtain ⟨p, vs, rfl, hp, hH, rf⟩ := getT_ok hh1 rv1 ei
    exact ⟨p, rfl, ⟨vs, SqT.of hH⟩, h1.now hh1 _ ⟨p, hp, rfl⟩⟩
  · exact h1.elim
theorem si_range {a : Expr} {p pos : Pos} (hg : Gl X "range") (hm : X.mg "range" = none) (ha : PA X [a] (tA G E es)) (hs : starEach [a] X.env = [(false, eval a X.env)] := by rfl) : PI X tg (.Call (.Name "range" p) [a] [] pos) (tI G E X.K (eiR es)) := PI.imp (pi_range1 hg hm ha hs) fun σ H R h => by
  obtain ⟨F, ρ, σa, A, hs, hh, h⟩ := h
  refine tA_then hs hh h fun ρ1 x A1 v H1 p1 hs1 hh1 rv1 h1 => ?_
  split at h1
  · rename_i n
    split at h1
    · rename_i hn
      cases rv1 with
      | cons r1 r2 =>
        cases r2
        exact ⟨n, by rw [show _ = _ from r1, ← int_q], by omega, by omega, h1.now hh1 _ rfl⟩
    · exact h1.elim
  · exact h1.elim
theorem si_enum {a : Expr} {p pos tpos : Pos} {elts : List Expr} {kk : Nat} (hg : Gl X "enumerate") (hm : X.mg "enumerate" = none) (ha : PA X [a] (tA G E es)) (hs : starEach [a] X.env = [(false, eval a X.env)] := by rfl) : PI X (.Tuple elts kk tpos) (.Call (.Name "enumerate" p) [a] [] pos) (tI G E X.K (eiE es)) := PI.imp (pi_enum hg hm ha hs) fun σ H R h => by
  obtain ⟨F, ρ, σa, A, hs, hh, h⟩ := h
  refine tA_then hs hh h fun ρ1 x A1 v H1 p1 hs1 hh1 rv1 h1 => ?_
  split at h1
  · split at h1
    · rename_i i xs ei
      cases rv1 with
      | cons r1 r2 =>
        cases r2
        obtain ⟨p, vs, rfl, hp, hH, rf⟩ := getL_ok hh1 r1 ei
        exact ⟨p, vs, rfl, SqL.of hH, h1.now hh1 _ ⟨p, hp, rfl⟩⟩
    · exact h1.elim
  · exact h1.elim
theorem si_zip {a b : Expr} {p pos tpos : Pos} {elts : List Expr} {kk : Nat} (hg : Gl X "zip") (hm : X.mg "zip" = none) (ha : PA X [a, b] (tA G E es)) (hs : starEach [a, b] X.env = (false, eval a X.env) :: starEach [b] X.env := by rfl) (hpl : (backTo pos (starEach [b] X.env)).any (·.1) = false := by rfl) :
    PI X (.Tuple elts kk tpos) (.Call (.Name "zip" p) [a, b] [] pos) (tI G E X.K (eiZ es)) := PI.imp (pi_zip hg hm ha hs hpl) fun σ H R h => by
  obtain ⟨F, ρ, σa, A, hs, hh, h⟩ := h
  refine tA_then hs hh h fun ρ1 x A1 v H1 p1 hs1 hh1 rv1 h1 => ?_
  split at h1
  · split at h1
    · rename_i i xs j ys ei ej
      cases rv1 with
      | cons r1 r2 =>
        cases r2 with
        | cons r2 r3 =>
          cases r3
          obtain ⟨p, vs, rfl, hp, hH, rf⟩ := getL_ok hh1 r1 ei
          obtain ⟨r, ws, rfl, hr, hH2, rf2⟩ := getL_ok hh1 r2 ej
          exact ⟨p, r, vs, ws, rfl, SqL.of hH, SqL.of hH2, h1.now hh1 _ ⟨p, r, hp, hr, rfl⟩⟩
    · exact h1.elim
  · exact h1.elim
end

/-! ### for, while -/
def fuel : Nat := 64
def loopF (ai : AI) (tg : ETG) (body : EVS) : Nat → Nat → List (Option AV) → List AO → Rs Fl
  | 0, _, _, _ => .no
  | m + 1, t, σ, A => match nextI ai t A with
    | none => .no
    | some (none, A') => .ok (.nx σ) A'
    | some (some a, A') => (tg a σ A').bind fun σ1 A1 => (body σ1 A1).bind fun fl A2 => match fl with
      | .nx σ2 => loopF ai tg body m (t + 1) σ2 A2
      | .ct σ2 => loopF ai tg body m (t + 1) σ2 A2
      | .bk σ2 => .ok (.nx σ2) A2
      | .rt v => .ok (.rt v) A2
def svFor (ei : EI) (tg : ETG) (body : EVS) : EVS := fun σ A => (ei σ A).bind fun ai A1 => loopF ai tg body fuel 0 σ A1
theorem sim_for {ei : EI} {g : ETG} {K : PySem.W.Frag} (h : tS G E (svFor ei g a) D σ H) : tFor (tI G E K ei) (tG G E g) (tS G E a) D σ H := by
  obtain ⟨F, ρ, σa, A, hs, hh, h⟩ := h
  refine ⟨F, ρ, σa, A, hs, hh, h.bind.mono fun ρ1 ai A1 H1 p1 hh1 h1 J rj => ?_⟩
  refine ⟨fun i m σ H => ∃ ρ' σa A, Pre ρ1 ρ' ∧ RS G ρ' σa σ ∧ RH G F ρ' A H ∧ Post G E F ρ' (KF G D) (loopF ai g a m i σa A), ⟨fuel, ρ1, σa, A1, Pre.refl _, RS.mono hs p1, hh1, h1⟩, ?_⟩
  rintro i m σ2 H2 ⟨ρ2, σa2, A2, p2, hs2, hh2, h2⟩
  cases m with
  | zero => exact h2.elim
  | succ m =>
    unfold loopF at h2
    split at h2
    · exact h2.elim
    · rename_i A' en
      obtain ⟨st, rfl⟩ : J.stop i H2 ∧ A' = A2 := next_ok hh2 (rj.mono p2) en
      exact .inl ⟨st, h2.now hh2 _ hs2⟩
    · rename_i x A' en
      obtain ⟨go, yl⟩ : J.go i H2 ∧ ∀ y H', J.yld i H2 y H' → ∃ ρ', Pre ρ2 ρ' ∧ RH G F ρ' A' H' ∧ RV G ρ' x y := next_ok hh2 (rj.mono p2) en
      refine .inr ⟨go, fun σ' H' => ∃ ρ' σa A, Pre ρ1 ρ' ∧ RS G ρ' σa σ' ∧ RH G F ρ' A H' ∧ Post G E F ρ' (KF G D) (loopF ai g a m (i + 1) σa A), fun σ' H' w => ⟨m, Nat.lt_succ_self m, w⟩, fun y H' hy => ?_⟩
      obtain ⟨ρ3, p3, hh3, rv3⟩ := yl y H' hy
      refine ⟨F, ρ3, σa2, A', x, RS.mono hs2 p3, hh3, rv3, (h2.pre p3).bind.mono fun ρ4 σ4 A4 H4 p4 hh4 h4 σ5 hs5 => ?_⟩
      refine ⟨F, ρ4, σ4, A4, hs5, hh4, h4.bind.mono fun ρ6 fl A6 H6 p6 hh6 h6 => ?_⟩
      have pp : Pre ρ1 ρ6 := p2.trans (p3.trans (p4.trans p6))
      cases fl with
      | nx σ6 => exact fun σ7 hs7 => ⟨ρ6, σ6, A6, pp, hs7, hh6, h6⟩
      | ct σ6 => exact fun σ7 hs7 => ⟨ρ6, σ6, A6, pp, hs7, hh6, h6⟩
      | bk σ6 => exact fun σ7 hs7 => h6.now hh6 σ7 hs7
      | rt v => exact fun w rw' => h6.now hh6 w rw'
theorem s_for {tg iter : Expr} {body : List Stmt} {ei : EI} {g : ETG} (hp : PassesOwn (model X.prog X.w) X.A X.env X.xe) (hc : X.calm = true) (hi : PI X tg iter (tI G E X.K ei)) (hg : PG X tg (tG G E g)) (hb : PSs X body (tS G E a))
    (hs : ∀ x, foldedSetIterable iter X.env x = pure x := by intro _; rfl) : PS X (.For tg iter body [] pos) (tS G E (svFor ei g a)) := PS.imp (ps_for hp hc hi hg hb hs) fun _ _ _ => sim_for
def loopW (c : EV) (body : EVS) : Nat → List (Option AV) → List AO → Rs Fl
  | 0, _, _ => .no
  | m + 1, σ, A => (c σ A).bind (svIf.isBS fun k A1 => if k then (body σ A1).bind fun fl A2 => match fl with
      | .nx σ2 => loopW c body m σ2 A2
      | .ct σ2 => loopW c body m σ2 A2
      | .bk σ2 => .ok (.nx σ2) A2
      | .rt v => .ok (.rt v) A2
    else .ok (.nx σ) A1)
def svWhile (c : EV) (body : EVS) : EVS := fun σ A => loopW c body fuel σ A
theorem sim_while {c : EV} (h : tS G E (svWhile c a) D σ H) : tWhile (tT G E c) (tS G E a) D σ H := by
  obtain ⟨F, ρ, σa, A, hs, hh, h⟩ := h
  refine ⟨fun m σ H => ∃ ρ' σa A, RS G ρ' σa σ ∧ RH G F ρ' A H ∧ Post G E F ρ' (KF G D) (loopW c a m σa A), ⟨fuel, ρ, σa, A, hs, hh, h⟩, ?_⟩
  rintro m σ2 H2 ⟨ρ2, σa2, A2, hs2, hh2, h2⟩
  cases m with
  | zero => exact h2.elim
  | succ m =>
    unfold loopW at h2
    refine tT_then hs2 hh2 h2 isBS_no fun ρ3 k A3 H3 p3 hs3 hh3 h3 => ?_
    cases k with
    | false =>
      show D.nx σ2 H3
      exact h3.now hh3 _ hs3
    | true =>
      rw [if_pos rfl]
      refine ⟨fun σ' H' => ∃ ρ' σa A, RS G ρ' σa σ' ∧ RH G F ρ' A H' ∧ Post G E F ρ' (KF G D) (loopW c a m σa A), fun σ' H' w => ⟨m, Nat.lt_succ_self m, w⟩, F, ρ3, σa2, A3, hs3, hh3, h3.bind.mono fun ρ6 fl A6 H6 p6 hh6 h6 => ?_⟩
      cases fl with
      | nx σ6 => exact fun σ7 hs7 => ⟨ρ6, σ6, A6, hs7, hh6, h6⟩
      | ct σ6 => exact fun σ7 hs7 => ⟨ρ6, σ6, A6, hs7, hh6, h6⟩
      | bk σ6 => exact fun σ7 hs7 => h6.now hh6 σ7 hs7
      | rt v => exact fun w rw' => h6.now hh6 w rw'
theorem s_while {c : Expr} {body : List Stmt} {ec : EV} (hp : PassesOwn (model X.prog X.w) X.A X.env X.xe) (hc : PT X c (tT G E ec)) (hb : PSs X body (tS G E a)) : PS X (.While c body [] pos) (tS G E (svWhile ec a)) := PS.imp (ps_while hp hc hb) fun _ _ _ => sim_while

/-! ### list comprehensions: one target, or a pair -/
def loopC (ai : AI) (tg : AV → List AO → Option (List (Option AV))) (elt : EV) (n : Nat) : Nat → Nat → List AO → Rs AV
  | 0, _, _ => .no
  | m + 1, t, A => match nextI ai t A with
    | none => .no
    | some (none, A') => .ok (.ref n) A'
    | some (some a, A') => match tg a A' with
      | none => .no
      | some σ1 => (elt σ1 A').bind fun y A2 => match A2[n]? with
        | some (.lst acc) => if acc.length < 900 then loopC ai tg elt n m (t + 1) (A2.set n (.lst (acc ++ [y]))) else .no
        | _ => .no
def wipeA (σ : List (Option AV)) : List Nat → List (Option AV)
  | [] => σ
  | v :: vs => (wipeA σ vs).set v none
theorem wipe_ok {σa : List (Option AV)} {σ : St} (hs : RS G ρ σa σ) : ∀ vs : List Nat, RS G ρ (wipeA σa vs) (wipe σ vs)
  | [] => hs
  | v :: vs => P2.set (wipe_ok hs vs) (show RSl G ρ none none from True.intro) v
def tg1 (σ : List (Option AV)) (j : Nat) : AV → List AO → Option (List (Option AV)) := fun a _ => some ((wipeA σ [j]).set j (some a))
def tg2 (σ : List (Option AV)) (j1 j2 : Nat) : AV → List AO → Option (List (Option AV)) := fun a A => match getT a A with
  | some (_, [x, y]) => some (((wipeA σ [j1, j2]).set j1 (some x)).set j2 (some y))
  | _ => none
def evLc1 (ei : EI) (j : Nat) (elt : EV) : EV := fun σ A => (ei σ A).bind fun ai A1 => loopC ai (tg1 σ j) elt A1.length fuel 0 (A1 ++ [.lst []])
def evLc2 (ei : EI) (j1 j2 : Nat) (elt : EV) : EV := fun σ A => (ei σ A).bind fun ai A1 => loopC ai (tg2 σ j1 j2) elt A1.length fuel 0 (A1 ++ [.lst []])
theorem sim_lc {ei : EI} {tgf : List (Option AV) → AV → List AO → Option (List (Option AV))} {elt : EV} {K : PySem.W.Frag} {g : TG} {vs : List Nat} {Q : VK}
    (hg : ∀ {ρ A H σa σ a σ1 x} {R : St → Hp → Prop}, RH G F ρ A H → RS G ρ σa σ → RV G ρ a x → tgf σa a A = some σ1 → (∀ σ2, RS G ρ σ1 σ2 → wipe σ2 vs = wipe σ vs → R σ2 H) → g x (wipe σ vs) H R)
    {σa : List (Option AV)} {A : List AO} (hs : RS G ρ σa σ) (hh : RH G F ρ A H) (h : Post G E F ρ (AE.KV G Q) ((ei σa A).bind fun ai A1 => loopC ai (tgf σa) elt A1.length fuel 0 (A1 ++ [.lst []]))) : tLc (tI G E K ei) g tYes (tE G E elt) vs σ H Q := by
  refine ⟨F, ρ, σa, A, hs, hh, h.bind.mono fun ρ1 ai A1 H1 p1 hh1 h1 J rj Da hD => ?_⟩
  have hh0 : RH G F (ρ1 ++ [Da]) (A1 ++ [.lst []]) (upd H1 Da (.lst [])) := hh1.new hD ⟨[], rfl, .nil⟩
  have hn : (ρ1 ++ [Da])[A1.length]? = some Da := by rw [← hh1.len, List.getElem?_append_right (Nat.le_refl _), Nat.sub_self]; rfl
  refine ⟨fun i m H => ∃ ρ' A, Pre (ρ1 ++ [Da]) ρ' ∧ RH G F ρ' A H ∧ Post G E F ρ' (AE.KV G Q) (loopC ai (tgf σa) elt A1.length m i A), ⟨fuel, _, _, Pre.refl _, hh0, h1.pre (Pre.snoc _ _)⟩, ?_⟩
  rintro i m H2 ⟨ρ2, A2, p2, hh2, h2⟩
  have pa : Pre ρ1 ρ2 := (Pre.snoc _ _).trans p2
  cases m with
  | zero => exact h2.elim
  | succ m =>
    unfold loopC at h2
    split at h2
    · exact h2.elim
    · rename_i A' en
      obtain ⟨st, rfl⟩ : J.stop i H2 ∧ A' = A2 := next_ok hh2 (rj.mono pa) en
      exact .inl ⟨st, h2.now hh2 _ ⟨Da, p2.get hn, rfl⟩⟩
    · rename_i x A' en
      obtain ⟨go, yl⟩ : J.go i H2 ∧ ∀ y H', J.yld i H2 y H' → ∃ ρ', Pre ρ2 ρ' ∧ RH G F ρ' A' H' ∧ RV G ρ' x y := next_ok hh2 (rj.mono pa) en
      refine .inr ⟨go, fun H' => ∃ ρ' A, Pre (ρ1 ++ [Da]) ρ' ∧ RH G F ρ' A H' ∧ Post G E F ρ' (AE.KV G Q) (loopC ai (tgf σa) elt A1.length m (i + 1) A), fun H' w => ⟨m, Nat.lt_succ_self m, w⟩, fun y H' hy => ?_⟩
      obtain ⟨ρ3, p3, hh3, rv3⟩ := yl y H' hy
      split at h2
      · exact h2.elim
      · rename_i σ1 et
        refine hg hh3 (RS.mono hs (p1.trans (pa.trans p3))) rv3 et fun σ2 hs2 hw => ⟨hw, ?_⟩
        show tE G E elt σ2 H' _
        refine tE_then hs2 hh3 (h2.pre p3) fun ρ4 z A4 w H4 p4 hs4 hh4 rv4 h4 => ?_
        have hn4 : ρ4[A1.length]? = some Da := (p2.trans (p3.trans p4)).get hn
        split at h4
        · rename_i acc ea
          obtain ⟨u, hu, ws, rfl, rr⟩ := hh4.at hn4 ea
          split at h4
          · rename_i hl
            rw [P2.len rr] at hl
            exact ⟨ws, hu, szlt (by omega), ρ4, _, p2.trans (p3.trans p4), hh4.put (o := .lst (acc ++ [z])) (u := .lst (ws ++ [w])) hn4 ⟨_, rfl, P2.append rr (.cons rv4 .nil)⟩, h4⟩
          · exact h4.elim
        · exact h4.elim
theorem sim_lc1 {ei : EI} {j : Nat} {elt : EV} {K : PySem.W.Frag} {Q : VK} (h : tE G E (evLc1 ei j elt) σ H Q) : tLc (tI G E K ei) (gName j) tYes (tE G E elt) [j] σ H Q := by
  obtain ⟨F, ρ, σa, A, hs, hh, h⟩ := h
  refine sim_lc (tgf := fun σa => tg1 σa j) (F := F) (fun {ρ A H σa σ a σ1 x R} hh hs rv et k => ?_) hs hh h
  cases et
  exact k _ ((wipe_ok hs [j]).set1 rv j) (by show (((σ.set j none).set j (some x)).set j none) = σ.set j none; rw [List.set_set, List.set_set])
theorem sim_lc2 {ei : EI} {j1 j2 : Nat} {elt : EV} {K : PySem.W.Frag} {Q : VK} (hj : j1 ≠ j2) (h : tE G E (evLc2 ei j1 j2 elt) σ H Q) : tLc (tI G E K ei) (gTup K 2 (gTs [j1, j2])) tYes (tE G E elt) [j1, j2] σ H Q := by
  obtain ⟨F, ρ, σa, A, hs, hh, h⟩ := h
  refine sim_lc (tgf := fun σa => tg2 σa j1 j2) (F := F) (fun {ρ A H σa σ a σ1 x R} hh hs rv et k => ?_) hs hh h
  unfold tg2 at et
  split at et
  · rename_i i y z eg
    cases et
    obtain ⟨p, vs, rfl, hp, hH, rr⟩ := getT_ok hh rv eg
    cases rr with
    | cons r1 r2 =>
      cases r2 with
      | cons r2 r3 =>
        cases r3
        rename_i v1 v2
        refine ⟨p, [v1, v2], rfl, SqT.of hH, rfl, v1, [v2], rfl, v2, [], rfl, rfl, ?_⟩
        refine k _ (((wipe_ok hs [j1, j2]).set1 r1 j1).set1 r2 j2) ?_
        show (((((σ.set j2 none).set j1 none).set j1 (some v1)).set j2 (some v2)).set j2 none).set j1 none = (σ.set j2 none).set j1 none
        have e : ∀ (τ : St) (o1 o2 : Option V), ((((τ.set j1 none).set j1 o1).set j2 o2).set j2 none).set j1 none = (τ.set j2 none).set j1 none := fun τ o1 o2 => by
          rw [List.set_set, List.set_set, List.set_comm o1 none hj, List.set_set]
        rw [e, List.set_set]
  · cases et
section
variable {elt iter : Expr} {scope : Scope} {ei : EI} {el : EV}
theorem se_lc1 {x : Str} {j : Nat} {px : Pos} (hc : X.calm = true) (hN : X.N.Nodup) (hi : PI X (.Name x px) iter (tI G E X.K ei)) (ok : BlkOk X.N X.env.scope scope [(x, j)])
    (hg : ∀ (s : Shared) (H : Hp) (C : Addr) (cl : List (Str × Addr)) (fp : List Addr), PG (X.blk s H scope (compEnvC scope cl C X.env) fp) (.Name x px) (gName j))
    (he : ∀ (s : Shared) (H : Hp) (C : Addr) (cl : List (Str × Addr)) (fp : List Addr), PE (X.blk s H scope (compEnvC scope cl C X.env) fp) elt (tE G E el)) (hs : ∀ x, foldedSetIterable iter X.env x = pure x := by intro _; rfl) :
    PE X (.ListComp elt [⟨.Name x px, iter, [], 0⟩] scope pos) (tE G E (evLc1 ei j el)) := PE.imp (pe_lc hc hN hi ok hg (fun _ _ _ _ _ => pts_nil) he hs) fun _ _ _ => sim_lc1
theorem se_lc2 {x y : Str} {j1 j2 : Nat} {px py tp : Pos} {kk : Nat} (hj : j1 ≠ j2) (hc : X.calm = true) (hN : X.N.Nodup) (hi : PI X (.Tuple [.Name x px, .Name y py] kk tp) iter (tI G E X.K ei)) (ok : BlkOk X.N X.env.scope scope [(x, j1), (y, j2)])
    (hg : ∀ (s : Shared) (H : Hp) (C : Addr) (cl : List (Str × Addr)) (fp : List Addr), PG (X.blk s H scope (compEnvC scope cl C X.env) fp) (.Tuple [.Name x px, .Name y py] kk tp) (gTup X.K 2 (gTs [j1, j2])))
    (he : ∀ (s : Shared) (H : Hp) (C : Addr) (cl : List (Str × Addr)) (fp : List Addr), PE (X.blk s H scope (compEnvC scope cl C X.env) fp) elt (tE G E el)) (hs : ∀ x, foldedSetIterable iter X.env x = pure x := by intro _; rfl) :
    PE X (.ListComp elt [⟨.Tuple [.Name x px, .Name y py] kk tp, iter, [], 0⟩] scope pos) (tE G E (evLc2 ei j1 j2 el)) := PE.imp (pe_lc hc hN hi ok hg (fun _ _ _ _ _ => pts_nil) he hs) fun _ _ _ => sim_lc2 hj
/-- name = [..] on one line -/
theorem s_setLc1 {i : Nat} {y : Str} {py : Pos} {x : Str} {j : Nat} {px spos : Pos} (hc : X.calm = true) (hN : X.N.Nodup) (hy : X.N[i]? = some y) (hyl : X.env.scope.names.lookup y = some .local)
    (hsw : swapsWith (.ListComp elt [⟨.Name x px, iter, [], 0⟩] scope pos) (some (.Name y py)) spos.line X.env = pure true) (hi : PI X (.Name x px) iter (tI G E X.K ei)) (ok : BlkOk X.N X.env.scope scope [(x, j)])
    (hg : ∀ (s : Shared) (H : Hp) (C : Addr) (cl : List (Str × Addr)) (fp : List Addr), PG (X.blk s H scope (compEnvC scope cl C X.env) fp) (.Name x px) (gName j))
    (he : ∀ (s : Shared) (H : Hp) (C : Addr) (cl : List (Str × Addr)) (fp : List Addr), PE (X.blk s H scope (compEnvC scope cl C X.env) fp) elt (tE G E el)) (hs : ∀ x, foldedSetIterable iter X.env x = pure x := by intro _; rfl) :
    PS X (.Assign [.Name y py] (.ListComp elt [⟨.Name x px, iter, [], 0⟩] scope pos) spos) (tS G E (svAsg (evLc1 ei j el) (etgN i))) := PS.imp (ps_setLc hc hN hy hyl hsw hi ok hg (fun _ _ _ _ _ => pts_nil) he hs) fun D σ H h => by
  have h2 : tS G E (svAsg (evLc1 ei j el) (etgN i)) D σ H := h
  obtain ⟨F, ρ, σa, A, hs, hh, h⟩ := h2
  show tLc _ _ _ _ _ σ H fun x H1 => D.nx (σ.set i (some x)) H1
  refine sim_lc1 ⟨F, ρ, σa, A, hs, hh, h.bind.mono fun ρ1 x A1 H1 p1 hh1 h1 v rv => ?_⟩
  exact Post.now h1 hh1 _ ((RS.mono hs p1).set1 rv i)
end
end
end AE

namespace AE
open PySem L2 PySem.Spec
open PyProof.Rows hiding St

/-! ### raise C('text') of a class without its own __init__; raise C(e) of one that keeps e as a field -/
abbrev bmV : List Value := [.type "ValueError", .type "Exception", .type "BaseException", .type "object"]
structure XOwn (K : PySem.W.Frag) (mg : Str → Option Value) (x : Str) (C : Addr) : Prop where
  q : PySem.W.excIn K C bmV "ValueError.__new__" = true
  gC : mg x = some (.ref C)
  kC : PySem.W.keepIn K (.ref C) = true
  sub : PySem.W.subIn K (.ref C) (.type "BaseException") = some true
  ty : PySem.W.typeIn K (.ref C) = some (.type "type")
section
variable {G : GP} {E : XK} {X : Cx} {ρ : List Addr} {F : Hp} {A : List AO} {H : Hp} {σ : St} {D : Ends}
theorem s_raise0 {c : XN} {x m : Str} {j : Nat} {p p2 pos pos2 : Pos} (hc : X.calm = true) (tk : L2N.Takes X fun cls d _ H => E cls d H) (T : XOwn X.K X.mg x (G.xA c)) (hg : Gl X x) (hdb : (x == ("__debug__" : Str)) = false := by decide) :
    PS X (.Raise (some (.Call (.Name x p) [.Constant (.str m) j p2] [] pos)) none pos2) (tS G E (svRaise0 c)) :=
  PS.imp (L2N.ps_raise hc tk (L2N.pmk_own PySem.F.excBase_ValueError T.q T.gC T.kC (raises_own T.sub T.ty) hg hdb)) fun D σ H h => by
    obtain ⟨F, ρ, σa, A, hs, hh, h⟩ := h
    exact h ρ H none (Pre.refl ρ) hh rfl

/-- what __init__(self, y): self.f = y promises -/
def spI (C : Addr) (f : Str) : Sp := fun vs H Q _ => ∃ (a : Addr) (y : V), vs = [.ref a, y] ∧ H a = some (exo a C none) ∧ ∀ dx, H dx = none → dx ≠ a → Q .non (upd (upd H dx (exd dx [(f, y)])) a (exo a C (some dx)))
theorem spI_len {C : Addr} {f : Str} {vs : List V} {Q : VK} (h : spI C f vs H Q E) : vs.length = 2 := by
  obtain ⟨a, y, rfl, _⟩ := h
  rfl
theorem pmkN {CX : CXT} {x : Str} {e1 : Expr} {ta : TA} {p pos : Pos} {C fI : Addr} {k : Nat} {fd : FuncData} {ps : List Str} {sp : Sp} (T : OexC X.K C) (iC : PySem.W.findIn X.K (.ref C) "__init__" = some (some (.ref fI))) (tF : PySem.W.typeIn X.K (.ref fI) = some (.type "function"))
    (Fi : FnOk X.prog X.w X.K X.mg X.base CX k fI fd ps sp) (room : Room (k + 1) X.A) (bd : Binds X.K fd ps []) (px : Passes CX X (fun _ _ _ => False)) (gx : Gl X x) (mx : X.mg x = some (.ref C)) (hA : PA X [e1] ta)
    (db : (x == ("__debug__" : Str)) = false := by decide) (se : starEach [e1] X.env = (false, eval e1 X.env) :: starEach [] X.env := by rfl) (pl : (backTo pos (starEach [] X.env)).any (·.1) = false := by rfl) :
    L2N.PMk X (.Call (.Name x p) [e1] [] pos) (tMkO C sp [] ta) := by
  intro pins s0 σ0 H0 Q0 I0 hw
  obtain ⟨n1, n2, n3, n4, n5, n6, n7, n8, n9, n10, m0, m1, m2, m3, m5, oC, rC⟩ := T.cls
  refine wpAny_Call_Name_kw (ld_glob I0 gx mx ?_ db)
  refine PySem.W.callWith_K (h₀ := X.base) I0.ok.mod.kin T.kC (thn (hA.run pos pins s0 σ0 H0 _ I0 hw) fun args s1 ⟨avs, Ha, Ia, rel, small, good⟩ => ⟨Ia.kIn, ?_⟩) se pl
  show wpAny _ _ (call (.ref C) args) _ _ _
  obtain ⟨hq, gq, dq, tq, oq⟩ := s1
  have above : hq.objs.size ≤ hq.objs.size + 1 := Nat.le_succ _
  have newA : Ha (hq.objs.size + 1) = none := Ia.hok.fresh above
  have prom := good (hq.objs.size + 1) newA
  have keep2 : ∀ b o, hq.get? b = some o → ((hq.push (PySem.W.kdv_tup args)).push (PySem.HandSPX.excO C hq.objs.size)).get? b = some o := fun b o z => Heap.get?_push_of_some _ (Heap.get?_push_of_some _ z)
  have there : ((hq.push (PySem.W.kdv_tup args)).push (PySem.HandSPX.excO C hq.objs.size)).get? (hq.objs.size + 1) = some (PySem.HandSPX.excO C hq.objs.size) := by heap_get
  have Ib : Inv X pins σ0 (upd Ha (hq.objs.size + 1) (exo (hq.objs.size + 1) C none)) ⟨(hq.push (PySem.W.kdv_tup args)).push (PySem.HandSPX.excO C hq.objs.size), gq, dq, tq, oq⟩ :=
    Inv.laid (t' := tq) (a := hq.objs.size + 1) (o := exo (hq.objs.size + 1) C none) (h' := (hq.push (PySem.W.kdv_tup args)).push (PySem.HandSPX.excO C hq.objs.size)) Ia keep2 above (exo_ok there)
  have rel2 : Vals (V.ref (hq.objs.size + 1) :: (avs ++ [])) (Value.ref (hq.objs.size + 1) :: args) := .cons rfl (by rw [List.append_nil]; exact rel)
  have cnt : (Value.ref (hq.objs.size + 1) :: args ++ []).length = ps.length := by
    have z := rel2.length
    rw [Fi.len _ _ _ _ prom] at z
    rw [List.append_nil]
    exact z.symm
  have fits : args.length ≤ sizeLine := by
    have z := Paired.length rel
    rw [sizeLine_eq]
    omega
  have bound := bd _ (Value.ref (hq.objs.size + 1) :: args) Ib.kIn cnt
  rw [List.append_nil] at bound
  refine wpAny_call (PySem.HandSPX.call_own F.excBase_ValueError (fun Y => PySem.HandSPX.refsVE_contains Y n5 rC) (Ia.kIn _ _ oC) (PySem.W.looks_findIn Ia.kIn iC) (fun me => PySem.W.bind_fn Ia.kIn me tF) fits
    (codeAny_mono (Fi.run _ X.stack _ _ ⟨Value.ref (hq.objs.size + 1) :: args, []⟩ (Value.ref (hq.objs.size + 1) :: args) _ _ (fun _ _ _ => False) (room.make C args []) (Ib.env0.make C args []) bound rel2 prom) fun res s2 hres => ?_))
  cases res with
  | error er => exact px pins σ0 _ _ er s2 Ib hres
  | ok fl =>
    cases fl with
    | ret u =>
      obtain ⟨vv, Hb, sameOs, bareB, unB, okB, rvB, evn, dd, ff, atA, atD, newD, fin⟩ := hres
      subst evn
      obtain ⟨hr2, gr2, dr2, tr2, or2⟩ := s2
      obtain ⟨tt, Gh, J, kG, gone, obj, na⟩ := mk_end0 (d2 := dr2) (t2 := tr2) Ia above keep2 unB okB sameOs bareB atA atD newD
      refine ⟨rvB, hq.objs.size + 1, _, _, ⟨Gh, gr2, dr2, tr2, or2⟩, _, .ref C, some dd, rfl, J, kG, gone, obj, ⟨rfl, rfl, fun vs hv => ?_⟩, rfl, rfl, na, rfl, bareB, raises_own T.exC T.tyC, fin⟩
      cases hv
      rfl
    | next => exact False.elim hres
    | brk => exact False.elim hres
    | cont => exact False.elim hres
theorem exo_inj {a C D : Addr} {o o' : Option Addr} (h : exo a C o = exo a D o') (hp : Heap) (t : Addr) (e : hp.get? a = some ({ cls := .ref C, dict := o, data := .fields #[.ref t, .none, .none, .none, .bool false, .none] } : Obj)) : C = D := by
  unfold exo at h
  injection h with h
  have z := congrFun h hp
  have q : ∃ t1 : Addr, hp.get? a = some ({ cls := .ref D, dict := o', data := .fields #[.ref t1, .none, .none, .none, .bool false, .none] } : Obj) := by
    rw [← z]
    exact ⟨t, e⟩
  obtain ⟨t1, q⟩ := q
  rw [e] at q
  injection q with q
  injection q with q1
  injection q1
theorem sim_raise1 {C : Addr} {c : XN} {f : FN} {ee : EV} {E : XK} {hC : G.xA c = C} (h : tS G E (svRaise1 c f ee) D σ H) : tMkO C (spI C f.str) [] (tA G E (eaC ee eaN)) σ H fun cls d H' => E cls d H' := by
  subst hC
  obtain ⟨F, ρ, σa, A, hs, hh, h⟩ := h
  have h2 : Post G E F ρ (KF G D) ((eaC ee eaN σa A).bind fun xs A1 => match xs with | [v] => .ex c (some (f, v)) A1 | _ => .no) := by
    have e : ((eaC ee eaN σa A).bind fun xs A1 => match xs with | [v] => (Rs.ex c (some (f, v)) A1 : Rs Fl) | _ => .no) = svRaise1 c f ee σa A := by
      unfold svRaise1 eaC eaN
      cases ee σa A <;> rfl
    rw [e]
    exact h
  refine tA_then hs hh h2 fun ρ1 xs A1 vs H1 p1 hs1 hh1 rv1 h1 => ?_
  split at h1
  · rename_i av
    cases rv1 with
    | cons r1 r2 =>
      cases r2
      rename_i v
      refine ⟨by show 1 ≤ 1000; decide, fun a ha => ⟨a, v, rfl, upd_same, fun dx hdx hne => ⟨rfl, dx, [(f.str, v)], upd_same, ?_, ?_, ?_⟩⟩⟩
      · rw [upd_ne hne, upd_same]
      · rwa [upd_ne hne] at hdx
      · have hd1 : H1 dx = none := by rwa [upd_ne hne] at hdx
        have e : upd (del (upd (upd (upd H1 a (exo a (G.xA c) none)) dx (exd dx [(f.str, v)])) a (exo a (G.xA c) (some dx))) a) dx (.xd [(f.str, v)]) = upd H1 dx (.xd [(f.str, v)]) := by
          funext b
          by_cases hb : b = dx
          · subst hb
            rw [upd_same, upd_same]
          · rw [upd_ne hb, upd_ne hb]
            by_cases hb2 : b = a
            · subst hb2
              rw [del_same, ha]
            · rw [del_ne hb2, upd_ne hb2, upd_ne hb, upd_ne hb2]
        rw [e]
        exact h1 ρ1 _ (some dx) (Pre.refl ρ1) (hh1.other hd1) ⟨dx, v, rfl, upd_same, r1⟩
  · exact h1.elim
/-- a class with such an __init__ -/
structure XInit (K : PySem.W.Frag) (mg : Str → Option Value) (x : Str) (C fI : Addr) : Prop where
  o : OexC K C
  gC : mg x = some (.ref C)
  iC : PySem.W.findIn K (.ref C) "__init__" = some (some (.ref fI))
  tI : PySem.W.typeIn K (.ref fI) = some (.type "function")
theorem s_raise1 {CX : CXT} {k : Nat} {c : XN} {f : FN} {x : Str} {fI : Addr} {fd : FuncData} {ps : List Str} {e : Expr} {ee : EV} {p pos pos2 : Pos} (hc : X.calm = true) (tk : L2N.Takes X fun cls d _ H => E cls d H) (T : XInit X.K X.mg x (G.xA c) fI) (Fi : FnOk X.prog X.w X.K X.mg X.base CX k fI fd ps (spI (G.xA c) f.str))
    (hr : Room (k + 1) X.A) (hb : Binds X.K fd ps []) (hx : Passes CX X fun _ _ _ => False) (hg : Gl X x) (he : PE X e (tE G E ee)) (hdb : (x == ("__debug__" : Str)) = false := by decide) (hst : starEach [e] X.env = (false, eval e X.env) :: starEach [] X.env := by rfl) (hpl : (backTo pos (starEach [] X.env)).any (·.1) = false := by rfl) :
    PS X (.Raise (some (.Call (.Name x p) [e] [] pos)) none pos2) (tS G E (svRaise1 c f ee)) :=
  PS.imp (L2N.ps_raise hc tk (pmkN T.o T.iC T.tI Fi hr hb hx hg T.gC (sa_cons he sa_nil hst) hdb hst hpl)) fun D σ H h => sim_raise1 (hC := rfl) h

/-! ### texts cut -/
def splitDom : List (List Nat × Nat × List (List Nat)) := [
  ([112, 111, 105, 110, 116, 32, 97], 32, [[112, 111, 105, 110, 116], [97]]),
  ([112, 111, 105, 110, 116, 32, 98], 32, [[112, 111, 105, 110, 116], [98]]),
  ([108, 101, 118, 101, 108], 32, [[108, 101, 118, 101, 108]]),
  ([97, 114, 114, 111, 119, 32, 97, 32, 98], 32, [[97, 114, 114, 111, 119], [97], [98]]),
  ([99, 114, 111, 115, 115], 32, [[99, 114, 111, 115, 115]]),
  ([100, 114, 97, 119, 32, 51], 32, [[100, 114, 97, 119], [51]]),
  ([120], 32, [[120]]),
  ([], 32, [[]]),
  ([97, 114, 114, 111, 119, 32, 97], 32, [[97, 114, 114, 111, 119], [97]]),
  ([112, 111, 105, 110, 116, 32, 97, 10, 112, 111, 105, 110, 116, 32, 98, 10, 112, 111, 105, 110, 116, 32, 97], 10, [[112, 111, 105, 110, 116, 32, 97], [112, 111, 105, 110, 116, 32, 98], [112, 111, 105, 110, 116, 32, 97]]),
  ([112, 111, 105, 110, 116, 32, 97, 10, 112, 111, 105, 110, 116, 32, 98, 10, 120], 10, [[112, 111, 105, 110, 116, 32, 97], [112, 111, 105, 110, 116, 32, 98], [120]]),
  ([112, 111, 105, 110, 116, 32, 97, 10, 112, 111, 105, 110, 116, 32, 98, 10], 10, [[112, 111, 105, 110, 116, 32, 97], [112, 111, 105, 110, 116, 32, 98], []]),
  ([112, 111, 105, 110, 116, 32, 97, 10, 112, 111, 105, 110, 116, 32, 98, 10, 97, 114, 114, 111, 119, 32, 97], 10, [[112, 111, 105, 110, 116, 32, 97], [112, 111, 105, 110, 116, 32, 98], [97, 114, 114, 111, 119, 32, 97]])]
def splitAt (l : List Nat) (c : Nat) : List (List Nat × Nat × List (List Nat)) → Option (List (List Nat))
  | [] => none
  | p :: r => if p.1 = l ∧ p.2.1 = c then some p.2.2 else splitAt l c r
def mkS (l : List Nat) : Str := ⟨l.toArray⟩
theorem splitDom_ok : splitDom.all (fun p => decide (Txt.split (mkS p.1) (mkS [p.2.1]) = p.2.2.map mkS)) = true := by decide +kernel
theorem splitAt_ok {l : List Nat} {c : Nat} {r : List (List Nat)} : ∀ {d : List (List Nat × Nat × List (List Nat))}, d.all (fun p => decide (Txt.split (mkS p.1) (mkS [p.2.1]) = p.2.2.map mkS)) = true → splitAt l c d = some r → Txt.split (mkS l) (mkS [c]) = r.map mkS
  | [], _, h => nomatch h
  | p :: d, ha, h => by
    rw [List.all_cons, Bool.and_eq_true] at ha
    unfold splitAt at h
    split at h
    · rename_i e
      cases h
      have z := of_decide_eq_true ha.1
      rw [e.1, e.2] at z
      exact z
    · exact splitAt_ok ha.2 h
def fSplit (x : AV) (y : AV) (A : List AO) : Rs AV := match x, y with
  | .str l, .str [c] => if l.length ≤ 1000 then (match splitAt l c splitDom with | some r => newO (.lst (r.map .str)) A | none => .no) else .no
  | _, _ => .no
def evSplit (a b : EV) : EV := fun σ A => (a σ A).bind fun x A1 => match x with | .str _ => (b σ A1).bind fun y A2 => fSplit x y A2 | _ => .no
theorem strs_ok : ∀ r : List (List Nat), RVs G ρ (r.map .str) ((r.map mkS).map V.str)
  | [] => .nil
  | _ :: r => .cons rfl (strs_ok r)
theorem se_split {o e : Expr} {eo ee : EV} {apos pos : Pos} (ho : PE X o (tE G E eo)) (he : PE X e (tE G E ee)) (hs : starEach [e] X.env = [(false, eval e X.env)] := by rfl) (hbase : attributeBase o "split" X.env (eval o X.env) = eval o X.env := by rfl) (hline : (apos.endLine == pos.line) = true := by rfl) :
    PE X (.Call (.Attribute o "split" apos) [e] [] pos) (tE G E (evSplit eo ee)) := PE.imp (pe_split ho he hs hbase hline) fun σ H Q h => by
  obtain ⟨F, ρ, σa, A, hs, hh, h⟩ := h
  refine tE_then hs hh h fun ρ1 x A1 v H1 p1 hs1 hh1 rv1 h1 => ?_
  split at h1
  · rename_i l
    have rv1' : v = V.str (mkS l) := rv1
    subst rv1'
    refine ⟨⟨_, rfl⟩, ?_⟩
    refine tE_then hs1 hh1 h1 fun ρ2 y A2 u H2 p2 hs2 hh2 rv2 h2 => ?_
    unfold fSplit at h2
    split at h2
    · rename_i x' y' l' c el
      cases el
      have rv2' : u = V.str (mkS [c]) := rv2
      subst rv2'
      split at h2
      · rename_i hl
        split at h2
        · rename_i r er
          refine ⟨_, _, rfl, rfl, rfl, ?_, fun p hp => ?_⟩
          · show l.toArray.size + 2 ≤ sizeLine
            exact szl (by rw [List.size_toArray]; omega)
          · refine new_ok h2 hh2 hp ⟨_, rfl, ?_⟩
            rw [splitAt_ok splitDom_ok er]
            exact strs_ok r
        · exact h2.elim
      · exact h2.elim
    · exact h2.elim
  · exact h1.elim

/-! ### {k: v} -/
def evDisp1 (k v : EV) : EV := fun σ A => (k σ (A ++ [.dic []])).bind fun x A1 => (v σ A1).bind fun y A2 => match keyA x, A2[A.length]? with
  | some kk, some (.dic []) => .ok (.ref A.length) (A2.set A.length (.dic [(kk, y)]))
  | _, _ => .no
theorem se_disp1 {k v : Expr} {ek ev : EV} {pos : Pos} (hk : PE X k (tE G E ek)) (hv : PE X v (tE G E ev)) : PE X (.Dict [some k] [v] pos) (tE G E (evDisp1 ek ev)) :=
  PE.imp (pe_disp (pps_cons hk hv pps_nil) rfl rfl (by simp) (by show 1 ≤ 15; decide)) fun σ H Q h p hp => by
    obtain ⟨F, ρ, σa, A, hs, hh, h⟩ := h
    have hn : (ρ ++ [p])[A.length]? = some p := by rw [← hh.len, List.getElem?_append_right (Nat.le_refl _), Nat.sub_self]; rfl
    have hh0 : RH G F (ρ ++ [p]) (A ++ [.dic []]) (upd H p (.dK [])) := hh.new hp ⟨[], rfl, .nil⟩
    refine tE_then (RS.mono hs (Pre.snoc ρ p)) hh0 (h.pre (Pre.snoc ρ p)) fun ρ1 x A1 w H1 p1 hs1 hh1 rv1 h1 => ?_
    refine tE_then hs1 hh1 h1 fun ρ2 y A2 u H2 p2 hs2 hh2 rv2 h2 => ?_
    split at h2
    · rename_i kk ek ed
      obtain ⟨o, ho, ws, rfl, rr⟩ := hh2.at ((p1.trans p2).get hn) ed
      cases rr
      refine ⟨ho, [(kk.key, u)], by rw [keyA_ok rv1 ek]; rfl, by show 1 ≤ 15; decide, ?_⟩
      exact Post.now h2 (hh2.put ((p1.trans p2).get hn) ⟨_, rfl, .cons ⟨rfl, rv2⟩ .nil⟩) _ ⟨p, (p1.trans p2).get hn, rfl⟩
    · exact h2.elim
end
end AE

namespace AE
open PySem L2 PySem.Spec
open PyProof.Rows hiding St
section
variable {G : GP} {E : XK} {X : Cx} {pos : Pos}
theorem sv (i : Nat) {x : Str} {pos : Pos} (hN : X.N[i]? = some x := by rfl) (hv : Vis X.env.scope x := by first | exact Or.inl rfl | exact Or.inr (Or.inl rfl) | exact Or.inr (Or.inr rfl)) (hd : (x == ("__debug__" : Str)) = false := by decide)
    (hcd : (x == ("__classdict__" : Str)) = false := by decide) : PE X (.Name x pos) (tE G E (evVar i)) := se_var hN hv hd hcd
theorem sg (i : Nat) {x : Str} {pos : Pos} (hN : X.N.Nodup) (hi : X.N[i]? = some x := by rfl) (hx : Loc X.env.scope x := by first | exact Or.inl rfl | exact Or.inr rfl) (hf : X.fn x = true ∨ X.env.scope.names.lookup x = some .local := by first | exact .inl rfl | exact .inr rfl | assumption) : PG X (.Name x pos) (tG G E (etgN i)) := sg_name hN hi hx hf
theorem gn (i : Nat) {x : Str} {pos : Pos} (hN : X.N.Nodup) (hi : X.N[i]? = some x := by rfl) (hx : Loc X.env.scope x := by first | exact Or.inl rfl | exact Or.inr rfl) (hf : X.fn x = true ∨ X.env.scope.names.lookup x = some .local := by first | exact .inl rfl | exact .inr rfl | assumption) : PG X (.Name x pos) (gName i) := pg_name hN hi hx hf
theorem sset (i : Nat) {x : Str} {e : Expr} {ee : EV} {pos' : Pos} (hN : X.N.Nodup) (he : PE X e (tE G E ee)) (hi : X.N[i]? = some x := by rfl) (hx : Loc X.env.scope x := by first | exact Or.inl rfl | exact Or.inr rfl) (hs : swapsWith e (some (.Name x pos')) pos.line X.env = pure false := by rfl) (hf : X.fn x = true ∨ X.env.scope.names.lookup x = some .local := by first | exact .inl rfl | exact .inr rfl | assumption) :
    PS X (.Assign [.Name x pos'] e pos) (tS G E (svAsg ee (etgN i))) := s_set hN hi hx he hs hf
theorem se_gint {x : Str} {i : Int} (h : ∃ t, X.mg x = some (.int i t)) (hg : Gl X x := by rfl) (hd : (x == ("__debug__" : Str)) = false := by decide) : PE X (.Name x pos) (tE G E (evC (.int i 0))) := by
  obtain ⟨t, h⟩ := h
  exact se_c (v := .int i) (pe_glob hg h (show RelV (.int i) _ from ⟨t, rfl⟩) hd) fun _ => rv_int
theorem se_gstr {x : Str} {z : Str} {l : List Nat} (h : ∃ t, X.mg x = some (.str z t)) (hz : z = ⟨l.toArray⟩) (hg : Gl X x := by rfl) (hd : (x == ("__debug__" : Str)) = false := by decide) : PE X (.Name x pos) (tE G E (evC (.str l))) := by
  obtain ⟨t, h⟩ := h
  exact se_c (v := .str z) (pe_glob hg h (show RelV (.str z) _ from ⟨t, rfl⟩) hd) fun _ => rv_str hz
theorem o_add : OpR X (binaryOp .Add) (fun x y H Q => rI0 (fun i j => .int (i + j)) x y H Q ∨ ∃ i j, x = .str i ∧ y = .str j ∧ i.length + j.length ≤ sizeLine ∧ Q (.str (i ++ j)) H) := OpR.or op_add op_add_str
theorem c_len : CallR X (.builtin "len") (fun xs H Q => (∃ x n, xs = [x] ∧ LenV X.K x H n ∧ Q (.int n) H) ∨ ∃ a kvs, xs = [V.ref a] ∧ H a = some (.dK kvs) ∧ Q (.int kvs.length) H) := CallR.or call_len call_lenD
theorem c_list (hc : X.calm = true) : CallR X (.type "list") (fun xs H Q => (∃ p ys, xs = [.ref p] ∧ (SqL X.K H p ys ∨ SqT X.K H p ys) ∧ ∀ l, H l = none → Q (.ref l) (upd H l (.lst ys))) ∨
    ∃ (a : Addr) (kvs : List (Key × V)), xs = [.ref a] ∧ Rd H a (.dK kvs) ∧ ∀ p, H p = none → Q (.ref p) (upd H p (.lst (kvs.map fun kv => kV kv.1)))) := CallR.or call_list_of (call_listD hc)
theorem c_dict (hc : X.calm = true) : CallR X (.type "dict") (fun xs H Q => (∃ (a : Addr) (kvs : List (Key × V)), xs = [.ref a] ∧ Rd H a (.dK kvs) ∧ ∀ p, H p = none → Q (.ref p) (upd H p (.dK kvs))) ∨
    ∃ (a : Addr) (ps : List Addr) (kvs : List (Key × V)), xs = [.ref a] ∧ SqL X.K H a (ps.map V.ref) ∧ Paired (fun p kv => SqT X.K H p [kV kv.1, kv.2]) ps kvs ∧ ∀ p, H p = none → Q (.ref p) (upd H p (.dK (mergeK [] kvs)))) := CallR.or call_dictD (call_dictP hc)
theorem pw1a {a : Expr} {ea : EV} (h : PT X a (tT G E ea)) : PW X (.BoolOp .And [a] pos) (tT G E ea) := pw_and1 h
theorem pw1o {a : Expr} {ea : EV} (h : PT X a (tT G E ea)) : PW X (.BoolOp .Or [a] pos) (tT G E ea) := pw_or1 h
end
/-- a def keeps its promise -/
structure Df (P : Program) (w : World) (K : PySem.W.Frag) (mg : Str → Option Value) (base : Heap) (CX : CXT) (k : Nat) (f : Addr) (fd : FuncData) (ps : List Str) (sp : Sp) : Prop where
  ok : FnOk P w K mg base CX k f fd ps sp
  b : Binds K fd ps []
  kp : PySem.W.keepIn K (.ref f) = true
def negV (x : AV) (A : List AO) : Rs AV := match x with | .int c k => .ok (.int (-c) (-k)) A | _ => .no
theorem ok_neg {G : GP} : R1Ok G negV (rU fun i => .int (-i)) := by
  intro E F ρ A H x v Q hh rx h
  unfold negV at h
  split at h
  · rename_i c k
    refine ⟨_, rx, h.now hh _ ?_⟩
    show V.int _ = V.int _
    rw [Int.neg_mul]
    congr 1
    omega
  · exact h.elim
theorem d1 {G : GP} : ∀ ρ, RVs G ρ [] [] := fun _ => .nil
end AE

namespace AE
open PySem L2 PySem.Spec
open PyProof.Rows hiding St
def top (i : Nat) : Stmt := PySem.Challenge.pw_layerdraw_k07_each_refusal_by_itself.main.body.getD i (.Pass ⟨0, 0, 0, 0⟩)

/-! ### x != [] of a list of texts -/
def strsB : List AV → Bool
  | [] => true
  | .str _ :: r => strsB r
  | _ => false
def neLV (x y : AV) (A : List AO) : Rs AV := match getL x A, getL y A with
  | some (_, []), some (_, []) => .ok (.bl false) A
  | some (_, [.str [98]]), some (_, []) => .ok (.bl true) A
  | _, _ => .no
section
variable {G : GP} {K : PySem.W.Frag} {ρ : List Addr} {F : Hp} {A : List AO} {H : Hp} {E : XK} {X : Cx} {σ : St} {pos : Pos}
theorem ok_neL : R2Ok G neLV (rNeD K) := by
  intro E F ρ A H x y v u Q hh rx ry h
  unfold neLV at h
  split at h
  · rename_i i j e1 e2
    obtain ⟨p, vs, rfl, hp, hH, rr⟩ := getL_ok hh rx e1
    obtain ⟨p', vs', rfl, hp', hH', rr'⟩ := getL_ok hh ry e2
    cases rr
    cases rr'
    exact ⟨.list [], .list [], .lst (SqL.of hH) .nil, .lst (SqL.of hH') .nil, by decide +kernel, by decide +kernel, h.now hh _ rfl⟩
  · rename_i i j e1 e2
    obtain ⟨p, vs, rfl, hp, hH, rr⟩ := getL_ok hh rx e1
    obtain ⟨p', vs', rfl, hp', hH', rr'⟩ := getL_ok hh ry e2
    cases rr with
    | cons r1 r2 =>
      cases r2
      cases rr'
      rename_i b
      have eb : b = V.str (mkS [98]) := r1
      subst eb
      exact ⟨.list [.str (mkS [98])], .list [], .lst (SqL.of hH) (.cons (.str _) .nil), .lst (SqL.of hH') .nil, by decide +kernel, by decide +kernel, h.now hh _ rfl⟩
  · exact h.elim

/-! ### COUNTS -/
def countTab : List (List Nat × Int) := [([108, 101, 118, 101, 108], 1), ([99, 114, 111, 115, 115], 1), ([100, 114, 97, 119], 2)]
structure CtOk (K : PySem.W.Frag) (w : World) (a : Addr) : Prop where
  kd : ∃ es n, KDict K w a es n
  at_ : ∀ p ∈ countTab, ∃ u, PySem.W.nsIn K a (mkS p.1) = some (some u) ∧ RelV (.int p.2) u
def countAt (l : List Nat) : List (List Nat × Int) → Option (List Nat × Int)
  | [] => none
  | p :: r => if p.1 = l then some p else countAt l r
theorem countAt_ok {l : List Nat} {p : List Nat × Int} : ∀ {d : List (List Nat × Int)}, countAt l d = some p → p.1 = l ∧ p ∈ d
  | [], h => nomatch h
  | q :: r, h => by
    unfold countAt at h
    split at h
    · rename_i e
      cases h
      exact ⟨e, List.mem_cons_self⟩
    · obtain ⟨h1, h2⟩ := countAt_ok h
      exact ⟨h1, List.mem_cons_of_mem _ h2⟩
def fNotCount (x : AV) (A : List AO) : Rs AV := match x with
  | .str l => match countAt l countTab with | some _ => .ok (.bl false) A | none => .no
  | _ => .no
def fCount (x : AV) (A : List AO) : Rs AV := match x with
  | .str l => match countAt l countTab with | some p => .ok (.int p.2 0) A | none => .no
  | _ => .no
theorem sim_notCount {d : Addr} {ea : EV} {Q : VK} (C : CtOk K w d) (h : tE G E (evU fNotCount ea) σ H Q) :
    tOp (fun x y H Q => ∃ (z : Str) (r : Option Value), x = .str z ∧ y = .ref d ∧ PySem.W.nsIn K d z = some r ∧ Q (.bl (!r.isSome)) H) (tE G E ea) (tC (.ref d)) σ H Q := by
  obtain ⟨F, ρ, σa, A, hs, hh, h⟩ := h
  refine tE_then hs hh h fun ρ1 x A1 v H1 p1 hs1 hh1 rv1 h1 => ?_
  unfold fNotCount at h1
  split at h1
  · rename_i l
    split at h1
    · rename_i p ep
      obtain ⟨e1, e2⟩ := countAt_ok ep
      obtain ⟨u, eu, ru⟩ := C.at_ p e2
      rw [e1] at eu
      exact ⟨mkS l, some u, rv1, rfl, eu, h1.now hh1 _ rfl⟩
    · exact h1.elim
  · exact h1.elim
theorem st_notCount {d : Addr} {x : Str} {a : Expr} {ea : EV} {p : Pos} (C : CtOk X.K X.w d) (hm : X.mg x = some (.ref d)) (hg : Gl X x) (ha : PE X a (tE G E ea)) (hd : (x == ("__debug__" : Str)) = false := by decide) (h1 : behindInMarks .NotIn (.Name x p) = false := by with_unfolding_all rfl) :
    PT X (.Compare a [.NotIn] [.Name x p] pos) (tT G E (evU fNotCount ea)) := by
  obtain ⟨es, n, D⟩ := C.kd
  exact PT.imp (pt_cmpR (op_notIn_kd D) ha (pe_glob (v := .ref d) hg hm rfl hd) h1) fun _ _ _ h => sim_b2 (fun _ h => sim_notCount C h) h
theorem se_count {d : Addr} {x : Str} {b : Expr} {eb : EV} {p : Pos} (C : CtOk X.K X.w d) (hm : X.mg x = some (.ref d)) (hg : Gl X x) (hb : PE X b (tE G E eb)) (hd : (x == ("__debug__" : Str)) = false := by decide) (hs : PlainIx b := by intro _ _; rfl) :
    PE X (.Subscript (.Name x p) b pos) (tE G E (evU fCount eb)) := PE.imp (pe_ix ix_kdict (pe_glob (v := .ref d) hg hm rfl hd) hb hs) fun σ H Q h => by
  obtain ⟨F, ρ, σa, A, hs, hh, h⟩ := h
  show tE G E eb σ H fun y H2 => rIxD X.K X.w (.ref d) y H2 Q
  refine tE_then hs hh h fun ρ1 x A1 v H1 p1 hs1 hh1 rv1 h1 => ?_
  unfold fCount at h1
  split at h1
  · rename_i l
    split at h1
    · rename_i p ep
      obtain ⟨e1, e2⟩ := countAt_ok ep
      obtain ⟨u, eu, ru⟩ := C.at_ p e2
      rw [e1] at eu
      obtain ⟨es, n, D⟩ := C.kd
      exact ⟨d, mkS l, .int p.2, rfl, rv1, ⟨es, n, u, D.at_, D.lit, eu, ru⟩, h1.now hh1 _ int_q⟩
    · exact h1.elim
  · exact h1.elim
/-! ### list(reversed(x)) -/
def fRev (x : AV) (A : List AO) : Rs AV := match getL x A with
  | some (_, xs) => newO (.lst xs.reverse) A
  | none => .no
end
/-! ### an exception class with its own __init__, read off the part -/
def oexB (K : PySem.W.Frag) (C : Addr) : Bool := (match K.lookup C with
  | some ⟨.type "type", _, .cls cd, sl⟩ => (match cd.mro, sl.toList with
    | .ref C2 :: bm, [_, _, _, _, some (.builtin n), _] => C2 == C && (n == "ValueError.__new__" && (!cd.hasDel && (cd.hasDict && PySem.HandSPX.refsVE bm)))
    | _, _ => false)
  | _ => false) && (He.eqO (PySem.W.findIn K (.ref C) "__setattr__") (some (some (.builtin "object.__setattr__"))) && (decide (PySem.W.subIn K (.ref C) (.type "BaseException") = some true) && (decide (PySem.W.typeIn K (.ref C) = some (.type "type")) && PySem.W.keepIn K (.ref C))))
theorem oexB_ok {K : PySem.W.Frag} {C : Addr} (h : oexB K C = true) : OexC K C := by
  unfold oexB at h
  obtain ⟨h0, h⟩ := He.ba h
  obtain ⟨h1, h⟩ := He.ba h
  obtain ⟨h2, h⟩ := He.ba h
  obtain ⟨h3, h4⟩ := He.ba h
  refine ⟨?_, He.eqO_ok h1, of_decide_eq_true h2, of_decide_eq_true h3, h4⟩
  split at h0
  · rename_i dd cd sl look
    split at h0
    · rename_i C2 bm a0 a1 a2 a3 nn a5 em es
      obtain ⟨e1, h0⟩ := He.ba h0
      obtain ⟨e2, h0⟩ := He.ba h0
      obtain ⟨e3, h0⟩ := He.ba h0
      obtain ⟨e4, e5⟩ := He.ba h0
      have e1 := beq_iff_eq.mp e1
      have e2 := beq_iff_eq.mp e2
      obtain ⟨n1, n2, n3, n4, n5, n6, n7, n8, n9, n10, n11⟩ := cd
      obtain ⟨ls⟩ := sl
      dsimp only at em es e3 e4
      subst e1 e2 em es
      cases n6 with
      | false => cases e4
      | true =>
        cases n11 with
        | true => cases e3
        | false => exact ⟨_, _, _, _, _, _, _, _, _, _, _, _, _, _, _, look, e5⟩
    · cases h0
  · cases h0
theorem pwpt {X : Cx} {e : Expr} {t : TT} (h : PW X e t) : PT X e t := h.pt
def gp (K : PySem.W.Frag) (q : Int) (h : 0 ≤ q) : GP where
  q := q
  q0 := h
  cA := fun c => match c with | .net => He.ga K "Net" | .own => He.ga K "Own" | .desk => He.ga K "Desk"
  xA := fun c => match c with
    | .noName => He.ga K "NoName" | .taken => He.ga K "Taken" | .noPoint => He.ga K "NoPoint" | .alone => He.ga K "Alone" | .noNumber => He.ga K "NoNumber" | .tooMany => He.ga K "TooMany"
    | .noSuch => He.ga K "NoSuch" | .noLine => He.ga K "NoLine" | .ring => He.ga K "Ring" | .noFlow => He.ga K "NoFlow" | .tooLong => He.ga K "TooLong" | .stale => He.ga K "Stale"
end AE

namespace AE
open PySem L2 PySem.Spec
open PyProof.Rows hiding St
def fa : List He.Fa := [.glo "COUNTS", .glo "Desk", .glo "Net", .glo "Own", .glo "best_goal", .glo "bound", .glo "from_nought", .glo "furthest", .glo "in_range", .glo "is_name", .glo "keeps_net", .glo "laid", .glo "least_flow", .glo "length", .glo "levelled", .glo "levels_by", .glo "needs_of", .glo "number_of", .glo "numbers_of", .glo "parts_of", .glo "picture", .glo "put_line", .glo "read_net", .glo "rests_of", .glo "road", .glo "room_for_one", .glo "sent", .glo "split_arrows", .glo "turned", .glo "ways_down", .glo "went_back", .glo "wishes_of", .int "FARTHEST" 200, .int "MOST_ARROWS" 40, .int "MOST_FIGURES" 7, .int "MOST_PAIRS" 20, .int "MOST_POINTS" 20, .mkr "Desk", .mkr "Net", .mkr "Own", .free "all", .free "any", .free "dict", .free "enumerate", .free "int", .free "len", .free "list", .free "min", .free "range", .free "reversed", .free "sorted", .free "str", .free "zip", .str "FIGURES" "0123456789", .str "LETTERS" "abcdefghijklmnopqrstuvwxyz", .meth "Desk" "of_levels", .meth "Desk" "of_rows", .meth "Desk" "put", .meth "Desk" "rows_kept", .meth "Desk" "say", .meth "Net" "arrows", .meth "Net" "both_there", .meth "Net" "mosts", .meth "Net" "points", .meth "Net" "put_arrow", .meth "Net" "put_point", .meth "Net" "put_same", .meth "Net" "sames", .meth "Net" "take_arrow", .meth "Own" "label", .exc "Alone", .glo "Alone", .exc "NoFlow", .glo "NoFlow", .exc "NoName", .glo "NoName", .exc "NoNumber", .glo "NoNumber", .exc "Stale", .glo "Stale", .exc "Taken", .glo "Taken", .exc "TooLong", .glo "TooLong", .exc "TooMany", .glo "TooMany", .glo "NoLine", .noat "NoLine" "number", .meth "NoLine" "__init__", .glo "NoPoint", .noat "NoPoint" "name", .meth "NoPoint" "__init__", .glo "NoSuch", .noat "NoSuch" "number", .meth "NoSuch" "__init__", .glo "Ring", .noat "Ring" "ring", .meth "Ring" "__init__", .glo "row_drawn", .glo "_law_cell_at", .glo "_law_kinds", .glo "_law_of_nets", .glo "_law_of_stages", .glo "_law_kind", .glo "_law_fields", .glo "_law_made", .glo "law", .glo "DrawError", .free "isinstance", .free "ValueError", .cls "Net", .noat "Net" "halves", .noat "Net" "drawn_arrows", .noat "Net" "given", .noat "Net" "level_pairs", .noat "Net" "near_pairs", .cls "Own", .noat "Own" "name", .noat "Own" "wide", .cls "Desk", .noat "Desk" "net", .noat "Desk" "old"]
def fn : List He.DefD := [⟨("is_name", none), "is_name", "is_name", defArgs (top 19), defBody (top 19), defScope (top 19), [], []⟩,
  ⟨("in_range", none), "in_range", "in_range", defArgs (top 20), defBody (top 20), defScope (top 20), [], []⟩,
  ⟨("room_for_one", none), "room_for_one", "room_for_one", defArgs (top 21), defBody (top 21), defScope (top 21), [], []⟩,
  ⟨("Net", some "__init__"), "__init__", "Net.__init__", defArgs (inClass (top 22) 0), defBody (inClass (top 22) 0), defScope (inClass (top 22) 0), [], []⟩,
  ⟨("Net", some "both_there"), "both_there", "Net.both_there", defArgs (inClass (top 22) 1), defBody (inClass (top 22) 1), defScope (inClass (top 22) 1), [], []⟩,
  ⟨("Net", some "put_point"), "put_point", "Net.put_point", defArgs (inClass (top 22) 2), defBody (inClass (top 22) 2), defScope (inClass (top 22) 2), [.int 0], []⟩,
  ⟨("Net", some "put_arrow"), "put_arrow", "Net.put_arrow", defArgs (inClass (top 22) 3), defBody (inClass (top 22) 3), defScope (inClass (top 22) 3), [.int 1, .int 1], []⟩,
  ⟨("Net", some "put_same"), "put_same", "Net.put_same", defArgs (inClass (top 22) 4), defBody (inClass (top 22) 4), defScope (inClass (top 22) 4), [], []⟩,
  ⟨("Net", some "take_arrow"), "take_arrow", "Net.take_arrow", defArgs (inClass (top 22) 6), defBody (inClass (top 22) 6), defScope (inClass (top 22) 6), [], []⟩,
  ⟨("Net", some "points"), "points", "Net.points", defArgs (inClass (top 22) 7), defBody (inClass (top 22) 7), defScope (inClass (top 22) 7), [], []⟩,
  ⟨("Net", some "arrows"), "arrows", "Net.arrows", defArgs (inClass (top 22) 9), defBody (inClass (top 22) 9), defScope (inClass (top 22) 9), [], []⟩,
  ⟨("Net", some "sames"), "sames", "Net.sames", defArgs (inClass (top 22) 10), defBody (inClass (top 22) 10), defScope (inClass (top 22) 10), [], []⟩,
  ⟨("Net", some "mosts"), "mosts", "Net.mosts", defArgs (inClass (top 22) 11), defBody (inClass (top 22) 11), defScope (inClass (top 22) 11), [], []⟩,
  ⟨("went_back", none), "went_back", "went_back", defArgs (top 24), defBody (top 24), defScope (top 24), [], []⟩,
  ⟨("furthest", none), "furthest", "furthest", defArgs (top 25), defBody (top 25), defScope (top 25), [], []⟩,
  ⟨("rests_of", none), "rests_of", "rests_of", defArgs (top 26), defBody (top 26), defScope (top 26), [], []⟩,
  ⟨("needs_of", none), "needs_of", "needs_of", defArgs (top 27), defBody (top 27), defScope (top 27), [], []⟩,
  ⟨("best_goal", none), "best_goal", "best_goal", defArgs (top 28), defBody (top 28), defScope (top 28), [], []⟩,
  ⟨("sent", none), "sent", "sent", defArgs (top 29), defBody (top 29), defScope (top 29), [], []⟩,
  ⟨("least_flow", none), "least_flow", "least_flow", defArgs (top 30), defBody (top 30), defScope (top 30), [], []⟩,
  ⟨("parts_of", none), "parts_of", "parts_of", defArgs (top 31), defBody (top 31), defScope (top 31), [], []⟩,
  ⟨("from_nought", none), "from_nought", "from_nought", defArgs (top 32), defBody (top 32), defScope (top 32), [], []⟩,
  ⟨("laid", none), "laid", "laid", defArgs (top 33), defBody (top 33), defScope (top 33), [], []⟩,
  ⟨("Own", some "__init__"), "__init__", "Own.__init__", defArgs (inClass (top 36) 0), defBody (inClass (top 36) 0), defScope (inClass (top 36) 0), [], []⟩,
  ⟨("Own", some "label"), "label", "Own.label", defArgs (inClass (top 36) 1), defBody (inClass (top 36) 1), defScope (inClass (top 36) 1), [], []⟩,
  ⟨("row_drawn", none), "row_drawn", "row_drawn", defArgs (top 86), defBody (top 86), defScope (top 86), [], []⟩,
  ⟨("road", none), "road", "road", defArgs (top 39), defBody (top 39), defScope (top 39), [], []⟩,
  ⟨("split_arrows", none), "split_arrows", "split_arrows", defArgs (top 40), defBody (top 40), defScope (top 40), [], []⟩,
  ⟨("turned", none), "turned", "turned", defArgs (top 41), defBody (top 41), defScope (top 41), [], []⟩,
  ⟨("numbers_of", none), "numbers_of", "numbers_of", defArgs (top 51), defBody (top 51), defScope (top 51), [], []⟩,
  ⟨("ways_down", none), "ways_down", "ways_down", defArgs (top 52), defBody (top 52), defScope (top 52), [], []⟩,
  ⟨("wishes_of", none), "wishes_of", "wishes_of", defArgs (top 53), defBody (top 53), defScope (top 53), [], []⟩,
  ⟨("keeps_net", none), "keeps_net", "keeps_net", defArgs (top 54), defBody (top 54), defScope (top 54), [], []⟩,
  ⟨("length", none), "length", "length", defArgs (top 55), defBody (top 55), defScope (top 55), [], []⟩,
  ⟨("levels_by", none), "levels_by", "levels_by", defArgs (top 56), defBody (top 56), defScope (top 56), [], []⟩,
  ⟨("levelled", none), "levelled", "levelled", defArgs (top 57), defBody (top 57), defScope (top 57), [], []⟩,
  ⟨("number_of", none), "number_of", "number_of", defArgs (top 91), defBody (top 91), defScope (top 91), [], []⟩,
  ⟨("put_line", none), "put_line", "put_line", defArgs (top 92), defBody (top 92), defScope (top 92), [], []⟩,
  ⟨("Desk", some "__init__"), "__init__", "Desk.__init__", defArgs (inClass (top 100) 0), defBody (inClass (top 100) 0), defScope (inClass (top 100) 0), [], []⟩,
  ⟨("Desk", some "put"), "put", "Desk.put", defArgs (inClass (top 100) 2), defBody (inClass (top 100) 2), defScope (inClass (top 100) 2), [], []⟩,
  ⟨("Desk", some "of_levels"), "of_levels", "Desk.of_levels", defArgs (inClass (top 100) 4), defBody (inClass (top 100) 4), defScope (inClass (top 100) 4), [], []⟩,
  ⟨("Desk", some "rows_kept"), "rows_kept", "Desk.rows_kept", defArgs (inClass (top 100) 5), defBody (inClass (top 100) 5), defScope (inClass (top 100) 5), [], []⟩,
  ⟨("Desk", some "of_rows"), "of_rows", "Desk.of_rows", defArgs (inClass (top 100) 6), defBody (inClass (top 100) 6), defScope (inClass (top 100) 6), [], []⟩,
  ⟨("Desk", some "say"), "say", "Desk.say", defArgs (inClass (top 100) 1), defBody (inClass (top 100) 1), defScope (inClass (top 100) 1), [], []⟩,
  ⟨("bound", none), "bound", "bound", defArgs (top 102), defBody (top 102), defScope (top 102), [], []⟩,
  ⟨("_law_of_nets", none), "_law_of_nets", "_law_of_nets", defArgs (top 106), defBody (top 106), defScope (top 106), [], []⟩,
  ⟨("_law_of_stages", none), "_law_of_stages", "_law_of_stages", defArgs (top 107), defBody (top 107), defScope (top 107), [], []⟩,
  ⟨("NoPoint", some "__init__"), "__init__", "NoPoint.__init__", defArgs (inClass (top 4) 0), defBody (inClass (top 4) 0), defScope (inClass (top 4) 0), [], []⟩,
  ⟨("NoSuch", some "__init__"), "__init__", "NoSuch.__init__", defArgs (inClass (top 8) 0), defBody (inClass (top 8) 0), defScope (inClass (top 8) 0), [], []⟩,
  ⟨("NoLine", some "__init__"), "__init__", "NoLine.__init__", defArgs (inClass (top 9) 0), defBody (inClass (top 9) 0), defScope (inClass (top 9) 0), [], []⟩,
  ⟨("Ring", some "__init__"), "__init__", "Ring.__init__", defArgs (inClass (top 10) 0), defBody (inClass (top 10) 0), defScope (inClass (top 10) 0), [], []⟩,
  ⟨("_law_cell_at", none), "_law_cell_at", "_law_cell_at", defArgs (top 104), defBody (top 104), defScope (top 104), [], []⟩,
  ⟨("_law_kinds", none), "_law_kinds", "_law_kinds", defArgs (top 105), defBody (top 105), defScope (top 105), [], []⟩,
  ⟨("_law_kind", none), "_law_kind", "_law_kind", defArgs (top 108), defBody (top 108), defScope (top 108), [], []⟩,
  ⟨("_law_fields", none), "_law_fields", "_law_fields", defArgs (top 109), defBody (top 109), defScope (top 109), [], []⟩,
  ⟨("_law_made", none), "_law_made", "_law_made", defArgs (top 110), defBody (top 110), defScope (top 110), [], []⟩,
  ⟨("law", none), "law", "law", defArgs (top 111), defBody (top 111), defScope (top 111), [], []⟩,
  ⟨("read_net", none), "read_net", "read_net", defArgs (top 93), defBody (top 93), defScope (top 93), [], []⟩,
  ⟨("picture", none), "picture", "picture", defArgs (top 87), defBody (top 87), defScope (top 87), [], []⟩]
def xNames : List Str := ["NoName", "Taken", "Alone", "NoNumber", "TooMany", "NoFlow", "TooLong", "Stale", "NoPoint", "NoSuch", "NoLine", "Ring"]
/-- isinstance of an instance of one class asked for another: all of it -/
def kitB (K : PySem.W.Frag) : Bool := xNames.all fun x => (xNames.all fun y => decide (PySem.W.kitOne K (.ref (He.ga K x)) (.ref (He.ga K y)) = some (decide (x = y)))) &&
  (decide (PySem.W.kitOne K (.ref (He.ga K x)) (.ref (He.ga K "DrawError")) = some true) && decide (PySem.W.kitOne K (.ref (He.ga K x)) (.type "ValueError") = some true))
def exmB (K : PySem.W.Frag) : Bool := xNames.all fun x => decide (PySem.W.exmOne K (.ref (He.ga K x)) (.ref (He.ga K "DrawError")) = some true) && decide (PySem.W.exmOne K (.ref (He.ga K x)) (.ref (He.ga K x)) = some true)
def excCB (K : PySem.W.Frag) (D : Addr) : Bool := He.eqO (PySem.W.findIn K (.ref D) "__getattribute__") (some (some (.builtin "BaseException.__getattribute__"))) && (He.eqO (PySem.W.findIn K (.ref D) "__getattr__") (some none) &&
  (decide (PySem.W.subIn K (.ref D) (.type "BaseException") = some true) && (PySem.W.hasDictIn K D && (He.eqO (PySem.W.findIn K (.ref D) "__class__") (some (some (.builtin "object.__class__"))) &&
  (He.eqO (PySem.W.specialIn K (.builtin "object.__class__") "__get__") (some (some (.builtin "getset_descriptor.__get__"))) && (decide (PySem.W.takesIn K (.builtin "object.__class__") = some true) && decide (PySem.W.mroIn K D (.type "object") = some true)))))))
def neB (K : PySem.W.Frag) : Bool := (!(He.ga K "Net" == He.ga K "Own")) && ((!(He.ga K "Net" == He.ga K "Desk")) && !(He.ga K "Own" == He.ga K "Desk"))
def ctB (K : PySem.W.Frag) : Bool := He.valsB K (He.ga K "COUNTS") [("level", .int 1), ("cross", .int 1), ("draw", .int 2)]
def exB (K : PySem.W.Frag) : Bool := (["NoPoint", "NoSuch", "NoLine", "Ring"] : List Str).all (fun x => oexB K (He.ga K x) && xfB K (He.ga K x)) && (kitB K && (exmB K && (xNames.all (fun x => excCB K (He.ga K x)) && (neB K && ctB K))))
def counts : List Str := ["drop", "turned", "ring", "level", "again", "levels", "cross", "draw", "net"]
def ts : List He.Tab := [(fun K => He.ga K "COUNTS", counts)]
end AE

namespace AE
open PySem L2 PySem.Spec
open PyProof.Rows hiding St
abbrev R : PySem.W.OpenRow := PySem.W.OpenLaw.row PySem.Challenge.rw_layerdraw_k07_each_refusal_by_itself
def loose0 : List PySem.Str := ["DrawError", "NoName", "Taken", "NoPoint", "Alone", "NoNumber", "TooMany", "NoSuch", "NoLine", "Ring", "NoFlow", "TooLong", "Stale", "LETTERS", "MOST_POINTS", "MOST_ARROWS", "MOST_PAIRS", "is_name", "in_range", "room_for_one", "Net", "went_back", "furthest", "rests_of", "needs_of"]
def loose1 : List PySem.Str := ["best_goal", "sent", "least_flow", "parts_of", "from_nought", "laid", "Item", "Own", "Small", "road", "split_arrows", "turned", "ring_of", "MOST_MARKS", "MOST_LINES", "numbered", "asked", "sideways", "heavy", "numbers_of", "ways_down", "wishes_of", "keeps_net", "length", "levels_by"]
def loose2 : List PySem.Str := ["levelled", "small_ones", "rows_of", "marks_of", "halves_of", "pairs_of", "wishes_again", "moves_of", "again", "places_of", "cross", "crossings", "between", "all_crossings", "middle_of", "sorted_row", "swept_down", "swept_up", "swept", "other_ends", "crossing_less", "saved", "first_change", "settled", "WIDE"]
def loose3 : List PySem.Str := ["FARTHEST", "row_drawn", "picture", "FIGURES", "MOST_FIGURES", "number_of", "put_line", "read_net", "arrow_text", "point_text", "net_text", "COUNTS", "listed", "Desk", "bound", "_law_cell_at", "_law_kinds", "_law_of_nets", "_law_of_stages", "_law_kind", "_law_fields", "_law_made"]
def loose : List PySem.Str := loose0 ++ loose1 ++ loose2 ++ loose3
def as0 : List Addr := [3, 24, 23, 37, 36, 49, 48, 80, 79, 92, 91, 104, 103, 173, 172, 185, 184, 197, 196, 68, 67, 123, 122, 142, 141, 161, 160, 312, 311, 455, 454, 413, 412, 831, 830, 204, 203, 211, 210, 218]
def as1 : List Addr := [217, 232, 231, 239, 238, 247, 246, 240, 255, 254, 248, 262, 261, 276, 275, 283, 282, 295, 294, 302, 301, 309, 308, 323, 322, 330, 329, 337, 336, 344, 343, 351, 350, 358, 357, 365, 364, 372, 371, 377]
def as2 : List Addr := [376, 382, 381, 431, 430, 438, 437, 727, 726, 490, 489, 497, 496, 502, 501, 542, 541, 549, 548, 556, 555, 563, 562, 570, 569, 577, 576, 584, 583, 737, 736, 742, 741, 790, 789, 804, 803, 816, 815, 823]
def as3 : List Addr := [822, 828, 827, 797, 796, 840, 839, 868, 867, 65, 64, 120, 119, 139, 138, 158, 157, 847, 846, 854, 853, 861, 860, 875, 874, 882, 881, 887, 886, 892, 891, 749, 748, 732, 731, 769]
def AS : List Addr := as0 ++ as1 ++ as2 ++ as3
abbrev Ob : Type := Bool × He.AlT
def obK (K : PySem.W.Frag) : Ob := (exB K, He.obsT fa fn ts K)
def valK (w : World) : Ob := (true, He.valT fn ts w)
def SaysK (w : World) (K : PySem.W.Frag) : Prop := obK K = valK w
def hk : PySem.W.Hook where
  α := Ob
  obs := fun s => obK (He.frG s.heap.get? AS)
  val := fun w => valK w
  says := fun w h => ∃ K : PySem.W.Frag, K.In h ∧ SaysK w K
  of := fun _ _ e => ⟨_, He.frG_in, e⟩
  keeps := fun _ _ _ ⟨K, hK, c⟩ k => ⟨K, PySem.W.Frag.In.keeps hK k, c⟩
def ob (s : PySem.W.SharedT) : Ob := obK (He.frG (HandSHeadRun.getT s) AS)
theorem ob_eq (s : PySem.W.SharedT) : ob s = hk.obs s.abs := by
  have e : HandSHeadRun.getT s = s.abs.heap.get? := funext fun a => HandSHeadRun.getT_eq s a
  show obK (He.frG (HandSHeadRun.getT s) AS) = obK (He.frG s.abs.heap.get? AS)
  rw [e]
theorem runF (w : World) : HandSHeadRun.RunEq R (PySem.W.view R.prog [111]) hk ob 8000 loose (w.withFollow "special-get-raises" false) := by
  intro os
  kernel_rfl

theorem runT (w : World) : HandSHeadRun.RunEq R (PySem.W.view R.prog [111]) hk ob 8000 loose (w.withFollow "special-get-raises" true) := by
  intro os
  kernel_rfl

theorem run (w : World) : HandSHeadRun.RunEq R (PySem.W.view R.prog [111]) hk ob 8000 loose w := PySem.W.byRow2 "special-get-raises" (P := fun w => HandSHeadRun.RunEq R (PySem.W.view R.prog [111]) hk ob 8000 loose w) runF runT w
end AE

/-! list(reversed(l)) of a list -/
namespace PySem
open Sem (wp)
open RT
section
variable {prog : Program} {w : World} {A : Around} {E : Value → Shared → Prop} {s : Shared}
theorem aer_extend {R : Result → Shared → Prop} {it l : Addr} {ys : Array Value} (calm : A.handled = none) (S : Addr) (hS : s.heap.get? S = some { cls := .type "list", data := .seq #[] })
    (ri : s.heap.IsRevIter it l ((ys.size : Int) - 1)) (li : s.heap.IsList l ys) (nli : l ≠ it) (nSi : S ≠ it) (nSl : S ≠ l) (fits : ys.size ≤ sizeLine)
    (fin : ∀ h2 t2 out c2, (∀ b o, b ≠ S → b ≠ it → s.heap.get? b = some o → h2.get? b = some o) → h2.get? S = some { cls := .type "list", dict := none, data := .seq out c2, slots := #[] } →
      ItemsOf (fun i v => ys[ys.size - 1 - i]? = some v) out ys.size → R (.ok (.ret .none)) { s with heap := h2, toks := t2 }) :
    wpAny (model prog w) A.in1 (Builtin.List.listExtendWith (.ref S) (.ref it) .none)
      (fun x s2 => match x with | .done f => R (.ok f) s2 | .again c2 => c2.quiet = true ∧ codeAny (model prog w) A c2 R s2) (fun e s2 => R (.error e) s2) s := by
  have wk := (Walks.listRev (prog := prog) (w := w) (A := A.in1) calm it l nli ys).toS
  have nin : S ∉ [it, l] := by
    intro z
    rcases List.mem_cons.mp z with z | z
    · exact nSi z
    · exact nSl (List.mem_singleton.mp z)
  have tyI : s.TypeIs (.ref it) "list_reverseiterator" := Heap.IsRevIter.typeIs ri
  have other : Builtin.List.listSameRef (.ref S) (.ref it) = false := by simp [Builtin.List.listSameRef, nSi]
  unfold Builtin.List.listExtendWith
  refine wpAny_bind (wpAny_typeOf tyI ?_)
  rw [if_neg (by rw [other]; decide)]
  refine wpAny_bind (wpAny_pyIter_revIter ri ?_)
  refine wpAny_bind (wpAny_holding ?_)
  unfold Builtin.List.listLengthHint
  refine wpAny_bind (wpAny_specialOf tyI nolen_lri ?_)
  show wpAny _ A.in1 (specialOf (Value.ref it) (Str.ofString "__length_hint__") >>= _) _ _ _
  refine wpAny_bind (wpAny_specialOf tyI hint_lri ?_)
  generalize hnm : ("list_reverseiterator.__length_hint__" : String) = nm
  wp_delta
  rw [show splitId nm = some ("list_reverseiterator", "__length_hint__") from by subst hnm; decide +kernel]
  subst hnm
  refine wpAny_bind (wpAny_isInstance (b := true) tyI (by rw [isSubtype_type]; kernel_rfl) ?_)
  refine wpAny_pure ?_
  rw [if_neg (by decide)]
  have e0 : ((ys.size : Nat) : Int) - 1 - ((0 : Nat) : Int) = (ys.size : Int) - 1 := by omega
  refine wpAny_pure ⟨plainId_quiet F.plain_extend_loop _, codeAny_extend_loopS wk fits _ nin _ ys.size 0 _ _ _ rfl (Nat.zero_le _) ⟨Nat.zero_le _, by rw [e0]; exact ri, li⟩ hS (ItemsOf.nil _) fun s2 out c2 mv hS2 ok => ?_⟩
  rw [Moved.eq_with mv]
  refine fin s2.heap s2.toks out c2 (fun b o nb ni e => mv.heap b o (fun z => ?_) e) hS2 ok
  rcases List.mem_cons.mp z with z | z
  · exact nb z
  · exact ni (List.mem_singleton.mp z)
theorem aer_call {Q : Value → Shared → Prop} {it l : Addr} {ys : Array Value} (calm : A.handled = none) (ri : s.heap.IsRevIter it l ((ys.size : Int) - 1)) (li : s.heap.IsList l ys) (nli : l ≠ it) (fits : ys.size ≤ sizeLine)
    (fin : ∀ h2 t2 out c2, (∀ b o, b ≠ it → s.heap.get? b = some o → h2.get? b = some o) → h2.get? s.heap.objs.size = some { cls := .type "list", dict := none, data := .seq out c2, slots := #[] } →
      ItemsOf (fun i v => ys[ys.size - 1 - i]? = some v) out ys.size → Q (.ref s.heap.objs.size) { s with heap := h2, toks := t2 }) :
    wpAny (model prog w) A (call (.type "list") [.ref it]) Q E s := by
  refine callType_codes (Q₁ := fun x y => x = .ref s.heap.objs.size ∧ y = { s with heap := s.heap.push { cls := .type "list", data := .seq #[] } }) F.called_list (F.typeCall_list_1 _) F.entry_list_init (code_list_new _ ⟨rfl, rfl⟩) fun x y hxy => ?_
  obtain ⟨rfl, rfl⟩ := hxy
  obtain ⟨o1, p1, _⟩ := id ri
  obtain ⟨o2, p2, _⟩ := id li
  have n1 : s.heap.objs.size ≠ it := Nat.ne_of_gt (Heap.lt_size p1)
  have n2 : s.heap.objs.size ≠ l := Nat.ne_of_gt (Heap.lt_size p2)
  have new : (s.heap.push { cls := .type "list", data := .seq #[] }).get? s.heap.objs.size = some { cls := .type "list", data := .seq #[] } := Heap.get?_push_size _ rfl
  refine ⟨⟨_, new, rfl⟩, F.args_list_init_2 _ _, ?_⟩
  show wpAny _ _ (do let was ← Builtin.List.listItems (.ref s.heap.objs.size); Builtin.List.listUpdate (.ref s.heap.objs.size) (fun _ => #[]); letGo was.toList.reverse; Builtin.List.listExtendWith (.ref s.heap.objs.size) (.ref it) .none) _ _ _
  refine wpAny_bind ?_
  unfold Builtin.List.listItems
  refine wpAny_bind (wpAny_seqItems new rfl (wpAny_pure ?_))
  show wpAny _ _ (updateSeq s.heap.objs.size (fun _ => #[]) >>= fun _ => letGo (#[] : Array Value).toList.reverse >>= fun _ => Builtin.List.listExtendWith (.ref s.heap.objs.size) (.ref it) .none) _ _ _
  refine wpAny_bind (wpAny_updateSeq new rfl ?_)
  have again := Heap.get?_update_self (Obj.mapSeq (fun _ => (#[] : Array Value))) new rfl
  have rest : ∀ b o, b ≠ s.heap.objs.size → s.heap.get? b = some o → ((s.heap.push { cls := .type "list", data := .seq #[] }).update s.heap.objs.size (Obj.mapSeq (fun _ => (#[] : Array Value)))).get? b = some o :=
    fun b o nb e => (Heap.get?_update_other _ _ (Ne.symm nb)).trans (Heap.get?_push_of_some _ e)
  refine wpAny_bind (wpAny_letGo ?_)
  refine aer_extend (A := A.in1) (s := { s with heap := (s.heap.push { cls := .type "list", data := .seq #[] }).update s.heap.objs.size (Obj.mapSeq (fun _ => (#[] : Array Value))) }) calm _ again (Heap.IsRevIter.at ri fun o e => rest it o (Ne.symm n1) e) ?_ nli n1 n2 fits fun h2 t2 out c2 kp at2 ok => ⟨rfl, fin h2 t2 out c2 (fun b o ni e => kp b o (Nat.ne_of_lt (Heap.lt_size e)) ni (rest b o (Nat.ne_of_lt (Heap.lt_size e)) e)) at2 ok⟩
  obtain ⟨o, e1, e2⟩ := li
  exact ⟨o, rest l o (Ne.symm n2) e1, e2⟩
end
end PySem
namespace AE
open PySem L2 PySem.Spec
open PyProof.Rows hiding St
open RT
section
variable {G : GP} {E : XK} {X : Cx}
def tListRev (K : PySem.W.Frag) (te : TE) : TE := fun σ H Q => te σ H fun v H1 => ∃ (a : Addr) (xs : List V), v = .ref a ∧ SqL K H1 a xs ∧ ∀ q, H1 q = none → Q (.ref q) (upd H1 q (.lst xs.reverse))
theorem pe_listRev {e : Expr} {te : TE} {p p2 pos pos2 : Pos} (cm : X.calm = true) (g1 : Gl X "list") (m1 : X.mg "list" = none) (g2 : Gl X "reversed") (m2 : X.mg "reversed" = none) (he : PE X e te)
    (s1 : starEach [e] X.env = (false, eval e X.env) :: starEach [] X.env := by rfl)
    (s2 : starEach [.Call (.Name "reversed" p2) [e] [] pos2] X.env = (false, eval (.Call (.Name "reversed" p2) [e] [] pos2) X.env) :: starEach [] X.env := by rfl) :
    PE X (.Call (.Name "list" p) [.Call (.Name "reversed" p2) [e] [] pos2] [] pos) (tListRev X.K te) := by
  refine ⟨fun pins s σ H Q I hw => ?_⟩
  refine Call_ (ld_blt I g1 m1 boot_list (PyProof.Rows.callWith_type1 (args_cons (Call_ (ld_blt I g2 m2 PyProof.Rows.boot_reversed (PyProof.Rows.callWith_type1 (args_cons (thn (he.run pins s σ H _ I hw) fun u y ⟨v, H1, Ia, rv, q1⟩ => args_nil ?_) s1) s1 rfl))) s2) s2 rfl))
  obtain ⟨a, xs, ev, hq, q⟩ := q1
  subst ev
  obtain rfl : u = Value.ref a := rv
  obtain ⟨vals, rel, pl, fits⟩ := Ia.list hq
  refine call_reversed_list pl.isList (args_nil ?_)
  have kp : ∀ b o, y.heap.get? b = some o → (y.heap.push (revObj a ((vals.toArray.size : Int) - 1))).get? b = some o := fun b o e => Heap.get?_push_of_some _ e
  have Ib : Inv X pins σ H1 { y with heap := y.heap.push (revObj a ((vals.toArray.size : Int) - 1)) } := Ia.kept (t' := y.toks) kp
  obtain ⟨f0, f1, f2, f3, f4, f5⟩ := Ia.fpOk (H' := H1) (b := y.heap.objs.size) (Nat.le_refl _) (Ia.hok.fresh (Nat.le_refl _))
  have isl := pl.isList
  obtain ⟨ol, hol, _⟩ := id isl
  have apart : a ≠ y.heap.objs.size := Nat.ne_of_lt (Heap.lt_size hol)
  have cnt : vals.toArray.size ≤ sizeLine := by rw [List.size_toArray, ← rel.length]; exact fits
  refine PySem.aer_call (s := { y with heap := y.heap.push (revObj a ((vals.toArray.size : Int) - 1)) }) (Ia.ok.hd cm) ⟨_, Heap.get?_push_size _ rfl, rfl, rfl⟩ (isl.push _) apart cnt fun h2 t2 out c2 k2 at2 ok => ?_
  have kept : ∀ b o, y.heap.get? b = some o → h2.get? b = some o := fun b o e => k2 b o (Nat.ne_of_lt (Heap.lt_size e)) (kp b o e)
  have big : y.heap.objs.size ≤ (y.heap.push (revObj a ((vals.toArray.size : Int) - 1))).objs.size := by rw [Heap.size_push]; exact Nat.le_succ _
  exact ⟨.ref _, upd H1 _ (.lst xs.reverse), Ia.laid (t' := t2) kept big (show ObjOk X.prog X.w _ _ _ (.lst xs.reverse) from ⟨by rw [List.length_reverse]; exact fits, out.toList, c2, vals_rev rel ok, by rw [Array.toArray_toList]; exact at2⟩), rfl, q _ (Ia.hok.fresh big)⟩
theorem sim_listRev {ee : EV} {K : PySem.W.Frag} {σ : L2.St} {H : Hp} {Q : VK} (h : tE G E (evU fRev ee) σ H Q) : tListRev K (tE G E ee) σ H Q := by
  obtain ⟨F, ρ, σa, A, hs, hh, h⟩ := h
  refine tE_then hs hh h fun ρ1 x A1 v H1 p1 hs1 hh1 rv1 h1 => ?_
  unfold fRev at h1
  split at h1
  · rename_i i xs e
    obtain ⟨p, ws, rfl, hp, hH, rr⟩ := getL_ok hh1 rv1 e
    exact ⟨p, ws, rfl, SqL.of hH, fun l hl => new_ok h1 hh1 hl ⟨_, rfl, (RVs.mono rr (Pre.snoc _ _)).rev⟩⟩
  · exact h1.elim
theorem se_listRev {e : Expr} {ee : EV} {p p2 pos pos2 : Pos} (cm : X.calm = true) (g1 : Gl X "list") (m1 : X.mg "list" = none) (g2 : Gl X "reversed") (m2 : X.mg "reversed" = none) (he : PE X e (tE G E ee))
    (s1 : starEach [e] X.env = (false, eval e X.env) :: starEach [] X.env := by rfl)
    (s2 : starEach [.Call (.Name "reversed" p2) [e] [] pos2] X.env = (false, eval (.Call (.Name "reversed" p2) [e] [] pos2) X.env) :: starEach [] X.env := by rfl) :
    PE X (.Call (.Name "list" p) [.Call (.Name "reversed" p2) [e] [] pos2] [] pos) (tE G E (evU fRev ee)) := PE.imp (pe_listRev cm g1 m1 g2 m2 he s1 s2) fun _ _ _ => sim_listRev
end
end AE

namespace AE
open PySem L2 PySem.Spec
open PyProof.Rows hiding St

structure Fx (K : PySem.W.Frag) (mg : Str → Option Value) (w : World) : Prop where
  g_COUNTS : mg "COUNTS" = some (.ref (He.ga K "COUNTS"))
  g_Desk : mg "Desk" = some (.ref (He.ga K "Desk"))
  g_Net : mg "Net" = some (.ref (He.ga K "Net"))
  g_Own : mg "Own" = some (.ref (He.ga K "Own"))
  g_best_goal : mg "best_goal" = some (.ref (He.ga K "best_goal"))
  g_bound : mg "bound" = some (.ref (He.ga K "bound"))
  g_from_nought : mg "from_nought" = some (.ref (He.ga K "from_nought"))
  g_furthest : mg "furthest" = some (.ref (He.ga K "furthest"))
  g_in_range : mg "in_range" = some (.ref (He.ga K "in_range"))
  g_is_name : mg "is_name" = some (.ref (He.ga K "is_name"))
  g_keeps_net : mg "keeps_net" = some (.ref (He.ga K "keeps_net"))
  g_laid : mg "laid" = some (.ref (He.ga K "laid"))
  g_least_flow : mg "least_flow" = some (.ref (He.ga K "least_flow"))
  g_length : mg "length" = some (.ref (He.ga K "length"))
  g_levelled : mg "levelled" = some (.ref (He.ga K "levelled"))
  g_levels_by : mg "levels_by" = some (.ref (He.ga K "levels_by"))
  g_needs_of : mg "needs_of" = some (.ref (He.ga K "needs_of"))
  g_number_of : mg "number_of" = some (.ref (He.ga K "number_of"))
  g_numbers_of : mg "numbers_of" = some (.ref (He.ga K "numbers_of"))
  g_parts_of : mg "parts_of" = some (.ref (He.ga K "parts_of"))
  g_picture : mg "picture" = some (.ref (He.ga K "picture"))
  g_put_line : mg "put_line" = some (.ref (He.ga K "put_line"))
  g_read_net : mg "read_net" = some (.ref (He.ga K "read_net"))
  g_rests_of : mg "rests_of" = some (.ref (He.ga K "rests_of"))
  g_road : mg "road" = some (.ref (He.ga K "road"))
  g_room_for_one : mg "room_for_one" = some (.ref (He.ga K "room_for_one"))
  g_sent : mg "sent" = some (.ref (He.ga K "sent"))
  g_split_arrows : mg "split_arrows" = some (.ref (He.ga K "split_arrows"))
  g_turned : mg "turned" = some (.ref (He.ga K "turned"))
  g_ways_down : mg "ways_down" = some (.ref (He.ga K "ways_down"))
  g_went_back : mg "went_back" = some (.ref (He.ga K "went_back"))
  g_wishes_of : mg "wishes_of" = some (.ref (He.ga K "wishes_of"))
  i_FARTHEST : ∃ t, mg "FARTHEST" = some (.int 200 t)
  i_MOST_ARROWS : ∃ t, mg "MOST_ARROWS" = some (.int 40 t)
  i_MOST_FIGURES : ∃ t, mg "MOST_FIGURES" = some (.int 7 t)
  i_MOST_PAIRS : ∃ t, mg "MOST_PAIRS" = some (.int 20 t)
  i_MOST_POINTS : ∃ t, mg "MOST_POINTS" = some (.int 20 t)
  m_Desk : Mk K (He.ga K "Desk") (He.ma K (He.ga K "Desk") "__init__")
  m_Net : Mk K (He.ga K "Net") (He.ma K (He.ga K "Net") "__init__")
  m_Own : Mk K (He.ga K "Own") (He.ma K (He.ga K "Own") "__init__")
  n_all : mg "all" = none
  n_any : mg "any" = none
  n_dict : mg "dict" = none
  n_enumerate : mg "enumerate" = none
  n_int : mg "int" = none
  n_len : mg "len" = none
  n_list : mg "list" = none
  n_min : mg "min" = none
  n_range : mg "range" = none
  n_reversed : mg "reversed" = none
  n_sorted : mg "sorted" = none
  n_str : mg "str" = none
  n_zip : mg "zip" = none
  s_FIGURES : ∃ t, mg "FIGURES" = some (.str "0123456789" t)
  s_LETTERS : ∃ t, mg "LETTERS" = some (.str "abcdefghijklmnopqrstuvwxyz" t)
  t_Desk_of_levels : Meth K (He.ga K "Desk") "of_levels" (He.ma K (He.ga K "Desk") "of_levels")
  t_Desk_of_rows : Meth K (He.ga K "Desk") "of_rows" (He.ma K (He.ga K "Desk") "of_rows")
  t_Desk_put : Meth K (He.ga K "Desk") "put" (He.ma K (He.ga K "Desk") "put")
  t_Desk_rows_kept : Meth K (He.ga K "Desk") "rows_kept" (He.ma K (He.ga K "Desk") "rows_kept")
  t_Desk_say : Meth K (He.ga K "Desk") "say" (He.ma K (He.ga K "Desk") "say")
  t_Net_arrows : Meth K (He.ga K "Net") "arrows" (He.ma K (He.ga K "Net") "arrows")
  t_Net_both_there : Meth K (He.ga K "Net") "both_there" (He.ma K (He.ga K "Net") "both_there")
  t_Net_mosts : Meth K (He.ga K "Net") "mosts" (He.ma K (He.ga K "Net") "mosts")
  t_Net_points : Meth K (He.ga K "Net") "points" (He.ma K (He.ga K "Net") "points")
  t_Net_put_arrow : Meth K (He.ga K "Net") "put_arrow" (He.ma K (He.ga K "Net") "put_arrow")
  t_Net_put_point : Meth K (He.ga K "Net") "put_point" (He.ma K (He.ga K "Net") "put_point")
  t_Net_put_same : Meth K (He.ga K "Net") "put_same" (He.ma K (He.ga K "Net") "put_same")
  t_Net_sames : Meth K (He.ga K "Net") "sames" (He.ma K (He.ga K "Net") "sames")
  t_Net_take_arrow : Meth K (He.ga K "Net") "take_arrow" (He.ma K (He.ga K "Net") "take_arrow")
  t_Own_label : Meth K (He.ga K "Own") "label" (He.ma K (He.ga K "Own") "label")
  x_Alone : XOwn K mg "Alone" (He.ga K "Alone")
  x_NoFlow : XOwn K mg "NoFlow" (He.ga K "NoFlow")
  x_NoName : XOwn K mg "NoName" (He.ga K "NoName")
  x_NoNumber : XOwn K mg "NoNumber" (He.ga K "NoNumber")
  x_Stale : XOwn K mg "Stale" (He.ga K "Stale")
  x_Taken : XOwn K mg "Taken" (He.ga K "Taken")
  x_TooLong : XOwn K mg "TooLong" (He.ga K "TooLong")
  x_TooMany : XOwn K mg "TooMany" (He.ga K "TooMany")
  y_NoLine : XInit K mg "NoLine" (He.ga K "NoLine") (He.ma K (He.ga K "NoLine") "__init__")
  z_NoLine : PySem.W.findIn K (.ref (He.ga K "NoLine")) "number" = some none
  y_NoPoint : XInit K mg "NoPoint" (He.ga K "NoPoint") (He.ma K (He.ga K "NoPoint") "__init__")
  z_NoPoint : PySem.W.findIn K (.ref (He.ga K "NoPoint")) "name" = some none
  y_NoSuch : XInit K mg "NoSuch" (He.ga K "NoSuch") (He.ma K (He.ga K "NoSuch") "__init__")
  z_NoSuch : PySem.W.findIn K (.ref (He.ga K "NoSuch")) "number" = some none
  y_Ring : XInit K mg "Ring" (He.ga K "Ring") (He.ma K (He.ga K "Ring") "__init__")
  z_Ring : PySem.W.findIn K (.ref (He.ga K "Ring")) "ring" = some none
  g_row_drawn : mg "row_drawn" = some (.ref (He.ga K "row_drawn"))
  g__law_cell_at : mg "_law_cell_at" = some (.ref (He.ga K "_law_cell_at"))
  g__law_kinds : mg "_law_kinds" = some (.ref (He.ga K "_law_kinds"))
  g__law_of_nets : mg "_law_of_nets" = some (.ref (He.ga K "_law_of_nets"))
  g__law_of_stages : mg "_law_of_stages" = some (.ref (He.ga K "_law_of_stages"))
  g__law_kind : mg "_law_kind" = some (.ref (He.ga K "_law_kind"))
  g__law_fields : mg "_law_fields" = some (.ref (He.ga K "_law_fields"))
  g__law_made : mg "_law_made" = some (.ref (He.ga K "_law_made"))
  g_law : mg "law" = some (.ref (He.ga K "law"))
  g_DrawError : mg "DrawError" = some (.ref (He.ga K "DrawError"))
  g_NoName : mg "NoName" = some (.ref (He.ga K "NoName"))
  g_Taken : mg "Taken" = some (.ref (He.ga K "Taken"))
  g_Alone : mg "Alone" = some (.ref (He.ga K "Alone"))
  g_NoNumber : mg "NoNumber" = some (.ref (He.ga K "NoNumber"))
  g_TooMany : mg "TooMany" = some (.ref (He.ga K "TooMany"))
  g_NoFlow : mg "NoFlow" = some (.ref (He.ga K "NoFlow"))
  g_TooLong : mg "TooLong" = some (.ref (He.ga K "TooLong"))
  g_Stale : mg "Stale" = some (.ref (He.ga K "Stale"))
  g_NoPoint : mg "NoPoint" = some (.ref (He.ga K "NoPoint"))
  g_NoSuch : mg "NoSuch" = some (.ref (He.ga K "NoSuch"))
  g_NoLine : mg "NoLine" = some (.ref (He.ga K "NoLine"))
  g_Ring : mg "Ring" = some (.ref (He.ga K "Ring"))
  n_isinstance : mg "isinstance" = none
  n_ValueError : mg "ValueError" = none
  c_Net : Cls K (He.ga K "Net")
  a_Net_halves : NoAttr K (He.ga K "Net") "halves"
  a_Net_drawn_arrows : NoAttr K (He.ga K "Net") "drawn_arrows"
  a_Net_given : NoAttr K (He.ga K "Net") "given"
  a_Net_level_pairs : NoAttr K (He.ga K "Net") "level_pairs"
  a_Net_near_pairs : NoAttr K (He.ga K "Net") "near_pairs"
  c_Own : Cls K (He.ga K "Own")
  a_Own_name : NoAttr K (He.ga K "Own") "name"
  a_Own_wide : NoAttr K (He.ga K "Own") "wide"
  c_Desk : Cls K (He.ga K "Desk")
  a_Desk_net : NoAttr K (He.ga K "Desk") "net"
  a_Desk_old : NoAttr K (He.ga K "Desk") "old"
  d_is_name : ∃ fd, FunD K "is_name" "is_name" (defArgs (top 19)) (defBody (top 19)) (defScope (top 19)) [] [] (He.ga K "is_name") fd
  d_in_range : ∃ fd, FunD K "in_range" "in_range" (defArgs (top 20)) (defBody (top 20)) (defScope (top 20)) [] [] (He.ga K "in_range") fd
  d_room_for_one : ∃ fd, FunD K "room_for_one" "room_for_one" (defArgs (top 21)) (defBody (top 21)) (defScope (top 21)) [] [] (He.ga K "room_for_one") fd
  d_Net_init : ∃ fd, FunD K "__init__" "Net.__init__" (defArgs (inClass (top 22) 0)) (defBody (inClass (top 22) 0)) (defScope (inClass (top 22) 0)) [] [] (He.ma K (He.ga K "Net") "__init__") fd
  d_Net_both_there : ∃ fd, FunD K "both_there" "Net.both_there" (defArgs (inClass (top 22) 1)) (defBody (inClass (top 22) 1)) (defScope (inClass (top 22) 1)) [] [] (He.ma K (He.ga K "Net") "both_there") fd
  d_Net_put_point : ∃ fd, FunD K "put_point" "Net.put_point" (defArgs (inClass (top 22) 2)) (defBody (inClass (top 22) 2)) (defScope (inClass (top 22) 2)) [.int 0] [] (He.ma K (He.ga K "Net") "put_point") fd
  d_Net_put_arrow : ∃ fd, FunD K "put_arrow" "Net.put_arrow" (defArgs (inClass (top 22) 3)) (defBody (inClass (top 22) 3)) (defScope (inClass (top 22) 3)) [.int 1, .int 1] [] (He.ma K (He.ga K "Net") "put_arrow") fd
  d_Net_put_same : ∃ fd, FunD K "put_same" "Net.put_same" (defArgs (inClass (top 22) 4)) (defBody (inClass (top 22) 4)) (defScope (inClass (top 22) 4)) [] [] (He.ma K (He.ga K "Net") "put_same") fd
  d_Net_take_arrow : ∃ fd, FunD K "take_arrow" "Net.take_arrow" (defArgs (inClass (top 22) 6)) (defBody (inClass (top 22) 6)) (defScope (inClass (top 22) 6)) [] [] (He.ma K (He.ga K "Net") "take_arrow") fd
  d_Net_points : ∃ fd, FunD K "points" "Net.points" (defArgs (inClass (top 22) 7)) (defBody (inClass (top 22) 7)) (defScope (inClass (top 22) 7)) [] [] (He.ma K (He.ga K "Net") "points") fd
  d_Net_arrows : ∃ fd, FunD K "arrows" "Net.arrows" (defArgs (inClass (top 22) 9)) (defBody (inClass (top 22) 9)) (defScope (inClass (top 22) 9)) [] [] (He.ma K (He.ga K "Net") "arrows") fd
  d_Net_sames : ∃ fd, FunD K "sames" "Net.sames" (defArgs (inClass (top 22) 10)) (defBody (inClass (top 22) 10)) (defScope (inClass (top 22) 10)) [] [] (He.ma K (He.ga K "Net") "sames") fd
  d_Net_mosts : ∃ fd, FunD K "mosts" "Net.mosts" (defArgs (inClass (top 22) 11)) (defBody (inClass (top 22) 11)) (defScope (inClass (top 22) 11)) [] [] (He.ma K (He.ga K "Net") "mosts") fd
  d_went_back : ∃ fd, FunD K "went_back" "went_back" (defArgs (top 24)) (defBody (top 24)) (defScope (top 24)) [] [] (He.ga K "went_back") fd
  d_furthest : ∃ fd, FunD K "furthest" "furthest" (defArgs (top 25)) (defBody (top 25)) (defScope (top 25)) [] [] (He.ga K "furthest") fd
  d_rests_of : ∃ fd, FunD K "rests_of" "rests_of" (defArgs (top 26)) (defBody (top 26)) (defScope (top 26)) [] [] (He.ga K "rests_of") fd
  d_needs_of : ∃ fd, FunD K "needs_of" "needs_of" (defArgs (top 27)) (defBody (top 27)) (defScope (top 27)) [] [] (He.ga K "needs_of") fd
  d_best_goal : ∃ fd, FunD K "best_goal" "best_goal" (defArgs (top 28)) (defBody (top 28)) (defScope (top 28)) [] [] (He.ga K "best_goal") fd
  d_sent : ∃ fd, FunD K "sent" "sent" (defArgs (top 29)) (defBody (top 29)) (defScope (top 29)) [] [] (He.ga K "sent") fd
  d_least_flow : ∃ fd, FunD K "least_flow" "least_flow" (defArgs (top 30)) (defBody (top 30)) (defScope (top 30)) [] [] (He.ga K "least_flow") fd
  d_parts_of : ∃ fd, FunD K "parts_of" "parts_of" (defArgs (top 31)) (defBody (top 31)) (defScope (top 31)) [] [] (He.ga K "parts_of") fd
  d_from_nought : ∃ fd, FunD K "from_nought" "from_nought" (defArgs (top 32)) (defBody (top 32)) (defScope (top 32)) [] [] (He.ga K "from_nought") fd
  d_laid : ∃ fd, FunD K "laid" "laid" (defArgs (top 33)) (defBody (top 33)) (defScope (top 33)) [] [] (He.ga K "laid") fd
  d_Own_init : ∃ fd, FunD K "__init__" "Own.__init__" (defArgs (inClass (top 36) 0)) (defBody (inClass (top 36) 0)) (defScope (inClass (top 36) 0)) [] [] (He.ma K (He.ga K "Own") "__init__") fd
  d_Own_label : ∃ fd, FunD K "label" "Own.label" (defArgs (inClass (top 36) 1)) (defBody (inClass (top 36) 1)) (defScope (inClass (top 36) 1)) [] [] (He.ma K (He.ga K "Own") "label") fd
  d_row_drawn : ∃ fd, FunD K "row_drawn" "row_drawn" (defArgs (top 86)) (defBody (top 86)) (defScope (top 86)) [] [] (He.ga K "row_drawn") fd
  d_road : ∃ fd, FunD K "road" "road" (defArgs (top 39)) (defBody (top 39)) (defScope (top 39)) [] [] (He.ga K "road") fd
  d_split_arrows : ∃ fd, FunD K "split_arrows" "split_arrows" (defArgs (top 40)) (defBody (top 40)) (defScope (top 40)) [] [] (He.ga K "split_arrows") fd
  d_turned : ∃ fd, FunD K "turned" "turned" (defArgs (top 41)) (defBody (top 41)) (defScope (top 41)) [] [] (He.ga K "turned") fd
  d_numbers_of : ∃ fd, FunD K "numbers_of" "numbers_of" (defArgs (top 51)) (defBody (top 51)) (defScope (top 51)) [] [] (He.ga K "numbers_of") fd
  d_ways_down : ∃ fd, FunD K "ways_down" "ways_down" (defArgs (top 52)) (defBody (top 52)) (defScope (top 52)) [] [] (He.ga K "ways_down") fd
  d_wishes_of : ∃ fd, FunD K "wishes_of" "wishes_of" (defArgs (top 53)) (defBody (top 53)) (defScope (top 53)) [] [] (He.ga K "wishes_of") fd
  d_keeps_net : ∃ fd, FunD K "keeps_net" "keeps_net" (defArgs (top 54)) (defBody (top 54)) (defScope (top 54)) [] [] (He.ga K "keeps_net") fd
  d_length : ∃ fd, FunD K "length" "length" (defArgs (top 55)) (defBody (top 55)) (defScope (top 55)) [] [] (He.ga K "length") fd
  d_levels_by : ∃ fd, FunD K "levels_by" "levels_by" (defArgs (top 56)) (defBody (top 56)) (defScope (top 56)) [] [] (He.ga K "levels_by") fd
  d_levelled : ∃ fd, FunD K "levelled" "levelled" (defArgs (top 57)) (defBody (top 57)) (defScope (top 57)) [] [] (He.ga K "levelled") fd
  d_number_of : ∃ fd, FunD K "number_of" "number_of" (defArgs (top 91)) (defBody (top 91)) (defScope (top 91)) [] [] (He.ga K "number_of") fd
  d_put_line : ∃ fd, FunD K "put_line" "put_line" (defArgs (top 92)) (defBody (top 92)) (defScope (top 92)) [] [] (He.ga K "put_line") fd
  d_Desk_init : ∃ fd, FunD K "__init__" "Desk.__init__" (defArgs (inClass (top 100) 0)) (defBody (inClass (top 100) 0)) (defScope (inClass (top 100) 0)) [] [] (He.ma K (He.ga K "Desk") "__init__") fd
  d_Desk_put : ∃ fd, FunD K "put" "Desk.put" (defArgs (inClass (top 100) 2)) (defBody (inClass (top 100) 2)) (defScope (inClass (top 100) 2)) [] [] (He.ma K (He.ga K "Desk") "put") fd
  d_Desk_of_levels : ∃ fd, FunD K "of_levels" "Desk.of_levels" (defArgs (inClass (top 100) 4)) (defBody (inClass (top 100) 4)) (defScope (inClass (top 100) 4)) [] [] (He.ma K (He.ga K "Desk") "of_levels") fd
  d_Desk_rows_kept : ∃ fd, FunD K "rows_kept" "Desk.rows_kept" (defArgs (inClass (top 100) 5)) (defBody (inClass (top 100) 5)) (defScope (inClass (top 100) 5)) [] [] (He.ma K (He.ga K "Desk") "rows_kept") fd
  d_Desk_of_rows : ∃ fd, FunD K "of_rows" "Desk.of_rows" (defArgs (inClass (top 100) 6)) (defBody (inClass (top 100) 6)) (defScope (inClass (top 100) 6)) [] [] (He.ma K (He.ga K "Desk") "of_rows") fd
  d_Desk_say : ∃ fd, FunD K "say" "Desk.say" (defArgs (inClass (top 100) 1)) (defBody (inClass (top 100) 1)) (defScope (inClass (top 100) 1)) [] [] (He.ma K (He.ga K "Desk") "say") fd
  d_bound : ∃ fd, FunD K "bound" "bound" (defArgs (top 102)) (defBody (top 102)) (defScope (top 102)) [] [] (He.ga K "bound") fd
  d_law_of_nets : ∃ fd, FunD K "_law_of_nets" "_law_of_nets" (defArgs (top 106)) (defBody (top 106)) (defScope (top 106)) [] [] (He.ga K "_law_of_nets") fd
  d_law_of_stages : ∃ fd, FunD K "_law_of_stages" "_law_of_stages" (defArgs (top 107)) (defBody (top 107)) (defScope (top 107)) [] [] (He.ga K "_law_of_stages") fd
  d_XNoPoint : ∃ fd, FunD K "__init__" "NoPoint.__init__" (defArgs (inClass (top 4) 0)) (defBody (inClass (top 4) 0)) (defScope (inClass (top 4) 0)) [] [] (He.ma K (He.ga K "NoPoint") "__init__") fd
  d_XNoSuch : ∃ fd, FunD K "__init__" "NoSuch.__init__" (defArgs (inClass (top 8) 0)) (defBody (inClass (top 8) 0)) (defScope (inClass (top 8) 0)) [] [] (He.ma K (He.ga K "NoSuch") "__init__") fd
  d_XNoLine : ∃ fd, FunD K "__init__" "NoLine.__init__" (defArgs (inClass (top 9) 0)) (defBody (inClass (top 9) 0)) (defScope (inClass (top 9) 0)) [] [] (He.ma K (He.ga K "NoLine") "__init__") fd
  d_XRing : ∃ fd, FunD K "__init__" "Ring.__init__" (defArgs (inClass (top 10) 0)) (defBody (inClass (top 10) 0)) (defScope (inClass (top 10) 0)) [] [] (He.ma K (He.ga K "Ring") "__init__") fd
  d_law_cell_at : ∃ fd, FunD K "_law_cell_at" "_law_cell_at" (defArgs (top 104)) (defBody (top 104)) (defScope (top 104)) [] [] (He.ga K "_law_cell_at") fd
  d_law_kinds : ∃ fd, FunD K "_law_kinds" "_law_kinds" (defArgs (top 105)) (defBody (top 105)) (defScope (top 105)) [] [] (He.ga K "_law_kinds") fd
  d_law_kind : ∃ fd, FunD K "_law_kind" "_law_kind" (defArgs (top 108)) (defBody (top 108)) (defScope (top 108)) [] [] (He.ga K "_law_kind") fd
  d_law_fields : ∃ fd, FunD K "_law_fields" "_law_fields" (defArgs (top 109)) (defBody (top 109)) (defScope (top 109)) [] [] (He.ga K "_law_fields") fd
  d_law_made : ∃ fd, FunD K "_law_made" "_law_made" (defArgs (top 110)) (defBody (top 110)) (defScope (top 110)) [] [] (He.ga K "_law_made") fd
  d_law : ∃ fd, FunD K "law" "law" (defArgs (top 111)) (defBody (top 111)) (defScope (top 111)) [] [] (He.ga K "law") fd
  d_read_net : ∃ fd, FunD K "read_net" "read_net" (defArgs (top 93)) (defBody (top 93)) (defScope (top 93)) [] [] (He.ga K "read_net") fd
  d_picture : ∃ fd, FunD K "picture" "picture" (defArgs (top 87)) (defBody (top 87)) (defScope (top 87)) [] [] (He.ga K "picture") fd
  kC : CtOk K w (He.ga K "COUNTS")
  ne1 : He.ga K "Net" ≠ He.ga K "Own"
  ne2 : He.ga K "Net" ≠ He.ga K "Desk"
  ne3 : He.ga K "Own" ≠ He.ga K "Desk"
theorem Fx.ks {K : PySem.W.Frag} {mg : Str → Option Value} {w : World} (c : Fx K mg w) (q : Int) (hq : 0 ≤ q) : KOk (gp K q hq) K := by
  refine ⟨fun x => ?_, fun x f h => ?_, fun x y h => ?_⟩
  · cases x
    · exact c.c_Net
    · exact c.c_Own
    · exact c.c_Desk
  · cases x <;> cases f <;> first
      | exact c.a_Net_halves
      | exact c.a_Net_drawn_arrows
      | exact c.a_Net_given
      | exact c.a_Net_level_pairs
      | exact c.a_Net_near_pairs
      | exact c.a_Own_name
      | exact c.a_Own_wide
      | exact c.a_Desk_net
      | exact c.a_Desk_old
      | (exact absurd h (by decide))
  · cases x <;> cases y <;> first | rfl | exact absurd h c.ne1 | exact absurd h.symm c.ne1 | exact absurd h c.ne2 | exact absurd h.symm c.ne2 | exact absurd h c.ne3 | exact absurd h.symm c.ne3
section
variable {P : Program} {w : World} {K : PySem.W.Frag} {mg : Str → Option Value} {base : Heap} {q : Int} {hq : 0 ≤ q}
theorem sc_XNoPoint : FnScope ["self", "name"] ["self", "name"] (defScope (inClass (top 4) 0)) := ⟨rfl, rfl, rfl, by decide +kernel, rfl, by decide +kernel, by decide +kernel⟩
theorem ok_XNoPoint (c : Fx K mg w) : ∃ fd, Df P w K mg base (L2N.CX P w) 1 (He.ma K (He.ga K "NoPoint") "__init__") fd ["self", "name"] (spI (He.ga K "NoPoint") "name") := by
  obtain ⟨fd, Fd⟩ := c.d_XNoPoint
  refine ⟨fd, Fd.ok sc_XNoPoint (fun vs H Q E h => spI_len h) (fun cdv A outer s H vs Q E hr h => ⟨_, pss_one (ps_ost (pv 0) (pv 1)), ?_⟩), Fd.bindsN fun _ _ _ _ _ _ us hl => (match us, hl with | [_, _], _ => rfl), Fd.kp⟩
  obtain ⟨a, y, rfl, ha, k⟩ := h
  exact ⟨y, rfl, .ref a, rfl, a, He.ga K "NoPoint", rfl, c.y_NoPoint.o, c.z_NoPoint, .inl ⟨ha, k⟩⟩
theorem sc_XNoSuch : FnScope ["self", "number"] ["self", "number"] (defScope (inClass (top 8) 0)) := ⟨rfl, rfl, rfl, by decide +kernel, rfl, by decide +kernel, by decide +kernel⟩
theorem ok_XNoSuch (c : Fx K mg w) : ∃ fd, Df P w K mg base (L2N.CX P w) 1 (He.ma K (He.ga K "NoSuch") "__init__") fd ["self", "number"] (spI (He.ga K "NoSuch") "number") := by
  obtain ⟨fd, Fd⟩ := c.d_XNoSuch
  refine ⟨fd, Fd.ok sc_XNoSuch (fun vs H Q E h => spI_len h) (fun cdv A outer s H vs Q E hr h => ⟨_, pss_one (ps_ost (pv 0) (pv 1)), ?_⟩), Fd.bindsN fun _ _ _ _ _ _ us hl => (match us, hl with | [_, _], _ => rfl), Fd.kp⟩
  obtain ⟨a, y, rfl, ha, k⟩ := h
  exact ⟨y, rfl, .ref a, rfl, a, He.ga K "NoSuch", rfl, c.y_NoSuch.o, c.z_NoSuch, .inl ⟨ha, k⟩⟩
theorem sc_XNoLine : FnScope ["self", "number"] ["self", "number"] (defScope (inClass (top 9) 0)) := ⟨rfl, rfl, rfl, by decide +kernel, rfl, by decide +kernel, by decide +kernel⟩
theorem ok_XNoLine (c : Fx K mg w) : ∃ fd, Df P w K mg base (L2N.CX P w) 1 (He.ma K (He.ga K "NoLine") "__init__") fd ["self", "number"] (spI (He.ga K "NoLine") "number") := by
  obtain ⟨fd, Fd⟩ := c.d_XNoLine
  refine ⟨fd, Fd.ok sc_XNoLine (fun vs H Q E h => spI_len h) (fun cdv A outer s H vs Q E hr h => ⟨_, pss_one (ps_ost (pv 0) (pv 1)), ?_⟩), Fd.bindsN fun _ _ _ _ _ _ us hl => (match us, hl with | [_, _], _ => rfl), Fd.kp⟩
  obtain ⟨a, y, rfl, ha, k⟩ := h
  exact ⟨y, rfl, .ref a, rfl, a, He.ga K "NoLine", rfl, c.y_NoLine.o, c.z_NoLine, .inl ⟨ha, k⟩⟩
theorem sc_XRing : FnScope ["self", "ring"] ["self", "ring"] (defScope (inClass (top 10) 0)) := ⟨rfl, rfl, rfl, by decide +kernel, rfl, by decide +kernel, by decide +kernel⟩
theorem ok_XRing (c : Fx K mg w) : ∃ fd, Df P w K mg base (L2N.CX P w) 1 (He.ma K (He.ga K "Ring") "__init__") fd ["self", "ring"] (spI (He.ga K "Ring") "ring") := by
  obtain ⟨fd, Fd⟩ := c.d_XRing
  refine ⟨fd, Fd.ok sc_XRing (fun vs H Q E h => spI_len h) (fun cdv A outer s H vs Q E hr h => ⟨_, pss_one (ps_ost (pv 0) (pv 1)), ?_⟩), Fd.bindsN fun _ _ _ _ _ _ us hl => (match us, hl with | [_, _], _ => rfl), Fd.kp⟩
  obtain ⟨a, y, rfl, ha, k⟩ := h
  exact ⟨y, rfl, .ref a, rfl, a, He.ga K "Ring", rfl, c.y_Ring.o, c.z_Ring, .inl ⟨ha, k⟩⟩
def N_is_name : List Str := ["name", "sign"]
def ev_is_name : EVS := svRet (evAnd (evChain leV leV (evC (.int 1 0)) (evN fLen (eaC (evVar 0) (eaN))) (evC (.int 8 0))) (evN fAll (eaC (evLc1 (eiS (evVar 0)) 1 (evB signV (evVar 1) (evC (.str [97, 98, 99, 100, 101, 102, 103, 104, 105, 106, 107, 108, 109, 110, 111, 112, 113, 114, 115, 116, 117, 118, 119, 120, 121, 122])))) (eaN))))
def f_is_name : List AV → List AO → Rs AV := mkF 1 2 ev_is_name
theorem sc_is_name : FnScope N_is_name ["name"] (defScope (top 19)) := ⟨rfl, rfl, rfl, by decide +kernel, rfl, by decide +kernel, by decide +kernel⟩
theorem ok_is_name (c : Fx K mg w) : ∃ fd, Df P w K mg base (L2N.CX P w) 1 (He.ga K "is_name") fd ["name"] (spF (gp K q hq) f_is_name) := by
  obtain ⟨fd, Fd⟩ := c.d_is_name
  refine ⟨fd, Fd.ok sc_is_name (fun vs H Q E h => spF_len h) (fun cdv A outer s H vs Q E hr h => ⟨tS (gp K q hq) E ev_is_name, ?_, spF_body h⟩), Fd.bindsN fun _ _ _ _ _ _ us hl => (match us, hl with | [_], _ => rfl), Fd.kp⟩
  have nd : N_is_name.Nodup := sc_is_name.nd
  have tk : L2N.Takes (cxOf (L2N.CX P w) P w K mg base N_is_name "is_name" (defScope (top 19)) (He.ga K "is_name") cdv A outer s H E) (fun cls d _ H => E cls d H) := L2N.takes_of rfl rfl rfl rfl
  have px : Passes (L2N.CX P w) (cxOf (L2N.CX P w) P w K mg base N_is_name "is_name" (defScope (top 19)) (He.ga K "is_name") cdv A outer s H E) E := L2N.passes_call tk (fun _ _ _ _ h => h)
  have px0 : Passes (L2N.CX P w) (cxOf (L2N.CX P w) P w K mg base N_is_name "is_name" (defScope (top 19)) (He.ga K "is_name") cdv A outer s H E) (fun _ _ _ => False) := L2N.passes_call tk (fun _ _ _ _ h => h.elim)
  have po : PassesOwn (model P w) (cxOf (L2N.CX P w) P w K mg base N_is_name "is_name" (defScope (top 19)) (He.ga K "is_name") cdv A outer s H E).A (cxOf (L2N.CX P w) P w K mg base N_is_name "is_name" (defScope (top 19)) (He.ga K "is_name") cdv A outer s H E).env (cxOf (L2N.CX P w) P w K mg base N_is_name "is_name" (defScope (top 19)) (He.ga K "is_name") cdv A outer s H E).xe := L2.passes_of rfl
  exact ss_one (s_ret (se_and (se_chain op_le op_le ok_le ok_le (se_int) (se_callB c_len (ok_len (K := K)) rfl c.n_len boot_len (sa_cons (sv 0) (sa_nil))) (se_int)) (pe_one (se_callB (cr_all rfl) (ok_all (K := K)) rfl c.n_all boot_all (sa_cons (se_lc1 rfl nd (si_str (sv 0)) (blkOk_by (N := N_is_name) (sc := defScope (top 19)) (by decide +kernel)) (fun _ _ _ _ _ => gn 1 nd) (fun _ _ _ _ _ => se_cmp op_in_sign ok_sign (sv 1) (se_gstr c.s_LETTERS (by decide +kernel)) (by with_unfolding_all rfl))) (sa_nil))))))
def N_in_range : List Str := ["number", "least", "most"]
def ev_in_range : EVS := svIf (evOr (evB ltV (evVar 0) (evVar 1)) (evB gtV (evVar 0) (evVar 2))) (svRaise0 .noNumber) (svNil)
def f_in_range : List AV → List AO → Rs AV := mkF 3 3 ev_in_range
theorem sc_in_range : FnScope N_in_range ["number", "least", "most"] (defScope (top 20)) := ⟨rfl, rfl, rfl, by decide +kernel, rfl, by decide +kernel, by decide +kernel⟩
theorem ok_in_range (c : Fx K mg w) : ∃ fd, Df P w K mg base (L2N.CX P w) 1 (He.ga K "in_range") fd ["number", "least", "most"] (spF (gp K q hq) f_in_range) := by
  obtain ⟨fd, Fd⟩ := c.d_in_range
  refine ⟨fd, Fd.ok sc_in_range (fun vs H Q E h => spF_len h) (fun cdv A outer s H vs Q E hr h => ⟨tS (gp K q hq) E ev_in_range, ?_, spF_body h⟩), Fd.bindsN fun _ _ _ _ _ _ us hl => (match us, hl with | [_, _, _], _ => rfl), Fd.kp⟩
  have nd : N_in_range.Nodup := sc_in_range.nd
  have tk : L2N.Takes (cxOf (L2N.CX P w) P w K mg base N_in_range "in_range" (defScope (top 20)) (He.ga K "in_range") cdv A outer s H E) (fun cls d _ H => E cls d H) := L2N.takes_of rfl rfl rfl rfl
  have px : Passes (L2N.CX P w) (cxOf (L2N.CX P w) P w K mg base N_in_range "in_range" (defScope (top 20)) (He.ga K "in_range") cdv A outer s H E) E := L2N.passes_call tk (fun _ _ _ _ h => h)
  have px0 : Passes (L2N.CX P w) (cxOf (L2N.CX P w) P w K mg base N_in_range "in_range" (defScope (top 20)) (He.ga K "in_range") cdv A outer s H E) (fun _ _ _ => False) := L2N.passes_call tk (fun _ _ _ _ h => h.elim)
  have po : PassesOwn (model P w) (cxOf (L2N.CX P w) P w K mg base N_in_range "in_range" (defScope (top 20)) (He.ga K "in_range") cdv A outer s H E).A (cxOf (L2N.CX P w) P w K mg base N_in_range "in_range" (defScope (top 20)) (He.ga K "in_range") cdv A outer s H E).env (cxOf (L2N.CX P w) P w K mg base N_in_range "in_range" (defScope (top 20)) (He.ga K "in_range") cdv A outer s H E).xe := L2.passes_of rfl
  exact ss_one (s_if (pwpt (sw_or (st_cmp op_lt ok_lt (sv 0) (sv 1) (nomark _)) (pw1o (st_cmp op_gt ok_gt (sv 0) (sv 2) (nomark _))))) (ss_one (s_raise0 (c := .noNumber) rfl tk c.x_NoNumber rfl)) (ss_nil))
def N_room_for_one : List Str := ["many", "most"]
def ev_room_for_one : EVS := svIf (evB geV (evVar 0) (evVar 1)) (svRaise0 .tooMany) (svNil)
def f_room_for_one : List AV → List AO → Rs AV := mkF 2 2 ev_room_for_one
theorem sc_room_for_one : FnScope N_room_for_one ["many", "most"] (defScope (top 21)) := ⟨rfl, rfl, rfl, by decide +kernel, rfl, by decide +kernel, by decide +kernel⟩
theorem ok_room_for_one (c : Fx K mg w) : ∃ fd, Df P w K mg base (L2N.CX P w) 1 (He.ga K "room_for_one") fd ["many", "most"] (spF (gp K q hq) f_room_for_one) := by
  obtain ⟨fd, Fd⟩ := c.d_room_for_one
  refine ⟨fd, Fd.ok sc_room_for_one (fun vs H Q E h => spF_len h) (fun cdv A outer s H vs Q E hr h => ⟨tS (gp K q hq) E ev_room_for_one, ?_, spF_body h⟩), Fd.bindsN fun _ _ _ _ _ _ us hl => (match us, hl with | [_, _], _ => rfl), Fd.kp⟩
  have nd : N_room_for_one.Nodup := sc_room_for_one.nd
  have tk : L2N.Takes (cxOf (L2N.CX P w) P w K mg base N_room_for_one "room_for_one" (defScope (top 21)) (He.ga K "room_for_one") cdv A outer s H E) (fun cls d _ H => E cls d H) := L2N.takes_of rfl rfl rfl rfl
  have px : Passes (L2N.CX P w) (cxOf (L2N.CX P w) P w K mg base N_room_for_one "room_for_one" (defScope (top 21)) (He.ga K "room_for_one") cdv A outer s H E) E := L2N.passes_call tk (fun _ _ _ _ h => h)
  have px0 : Passes (L2N.CX P w) (cxOf (L2N.CX P w) P w K mg base N_room_for_one "room_for_one" (defScope (top 21)) (He.ga K "room_for_one") cdv A outer s H E) (fun _ _ _ => False) := L2N.passes_call tk (fun _ _ _ _ h => h.elim)
  have po : PassesOwn (model P w) (cxOf (L2N.CX P w) P w K mg base N_room_for_one "room_for_one" (defScope (top 21)) (He.ga K "room_for_one") cdv A outer s H E).A (cxOf (L2N.CX P w) P w K mg base N_room_for_one "room_for_one" (defScope (top 21)) (He.ga K "room_for_one") cdv A outer s H E).env (cxOf (L2N.CX P w) P w K mg base N_room_for_one "room_for_one" (defScope (top 21)) (He.ga K "room_for_one") cdv A outer s H E).xe := L2.passes_of rfl
  exact ss_one (s_if (st_cmp op_ge ok_ge (sv 0) (sv 1) (nomark _)) (ss_one (s_raise0 (c := .tooMany) rfl tk c.x_TooMany rfl)) (ss_nil))
def N_Net_init : List Str := ["self"]
def ev_Net_init : EVS := svSeq (svFld .halves (evVar 0) ((fun _ A => newO (.dic []) A))) (svSeq (svFld .drawn_arrows (evVar 0) ((fun _ A => newO (.dic []) A))) (svSeq (svFld .given (evVar 0) (evC (.int 0 0))) (svSeq (svFld .level_pairs (evVar 0) (evN fLst (eaN))) (svFld .near_pairs (evVar 0) (evN fLst (eaN))))))
def f_Net_init : List AV → List AO → Rs AV := mkF 1 1 ev_Net_init
theorem sc_Net_init : FnScope N_Net_init ["self"] (defScope (inClass (top 22) 0)) := ⟨rfl, rfl, rfl, by decide +kernel, rfl, by decide +kernel, by decide +kernel⟩
theorem ok_Net_init (c : Fx K mg w) : ∃ fd, Df P w K mg base (L2N.CX P w) 1 (He.ma K (He.ga K "Net") "__init__") fd ["self"] (spF (gp K q hq) f_Net_init) := by
  obtain ⟨fd, Fd⟩ := c.d_Net_init
  refine ⟨fd, Fd.ok sc_Net_init (fun vs H Q E h => spF_len h) (fun cdv A outer s H vs Q E hr h => ⟨tS (gp K q hq) E ev_Net_init, ?_, spF_body h⟩), Fd.bindsN fun _ _ _ _ _ _ us hl => (match us, hl with | [_], _ => rfl), Fd.kp⟩
  have nd : N_Net_init.Nodup := sc_Net_init.nd
  have tk : L2N.Takes (cxOf (L2N.CX P w) P w K mg base N_Net_init "Net.__init__" (defScope (inClass (top 22) 0)) (He.ma K (He.ga K "Net") "__init__") cdv A outer s H E) (fun cls d _ H => E cls d H) := L2N.takes_of rfl rfl rfl rfl
  have px : Passes (L2N.CX P w) (cxOf (L2N.CX P w) P w K mg base N_Net_init "Net.__init__" (defScope (inClass (top 22) 0)) (He.ma K (He.ga K "Net") "__init__") cdv A outer s H E) E := L2N.passes_call tk (fun _ _ _ _ h => h)
  have px0 : Passes (L2N.CX P w) (cxOf (L2N.CX P w) P w K mg base N_Net_init "Net.__init__" (defScope (inClass (top 22) 0)) (He.ma K (He.ga K "Net") "__init__") cdv A outer s H E) (fun _ _ _ => False) := L2N.passes_call tk (fun _ _ _ _ h => h.elim)
  have po : PassesOwn (model P w) (cxOf (L2N.CX P w) P w K mg base N_Net_init "Net.__init__" (defScope (inClass (top 22) 0)) (He.ma K (He.ga K "Net") "__init__") cdv A outer s H E).A (cxOf (L2N.CX P w) P w K mg base N_Net_init "Net.__init__" (defScope (inClass (top 22) 0)) (He.ma K (He.ga K "Net") "__init__") cdv A outer s H E).env (cxOf (L2N.CX P w) P w K mg base N_Net_init "Net.__init__" (defScope (inClass (top 22) 0)) (He.ma K (He.ga K "Net") "__init__") cdv A outer s H E).xe := L2.passes_of rfl
  exact ss_cons (s_fld (f := .halves) (c.ks q hq) rfl (sv 0) (se_dnew)) (ss_cons (s_fld (f := .drawn_arrows) (c.ks q hq) rfl (sv 0) (se_dnew)) (ss_cons (s_fld (f := .given) (c.ks q hq) rfl (sv 0) (se_int)) (ss_cons (s_fld (f := .level_pairs) (c.ks q hq) rfl (sv 0) (se_lst (sa_nil))) (ss_one (s_fld (f := .near_pairs) (c.ks q hq) rfl (sv 0) (se_lst (sa_nil)))))))
def N_Net_both_there : List Str := ["self", "one", "other", "name"]
def ev_Net_both_there : EVS := svSeq (svFor (eiT (evN fTup (eaC (evVar 1) (eaC (evVar 2) (eaN))))) (etgN 3) (svIf (evB dNotInV (evVar 3) (evU (fFld .halves) (evVar 0))) (svRaise1 .noPoint .name (evVar 3)) (svNil))) (svIf (evB eqVV (evVar 1) (evVar 2)) (svRaise0 .alone) (svNil))
def f_Net_both_there : List AV → List AO → Rs AV := mkF 3 4 ev_Net_both_there
theorem sc_Net_both_there : FnScope N_Net_both_there ["self", "one", "other"] (defScope (inClass (top 22) 1)) := ⟨rfl, rfl, rfl, by decide +kernel, rfl, by decide +kernel, by decide +kernel⟩
theorem ok_Net_both_there (c : Fx K mg w) : ∃ fd, Df P w K mg base (L2N.CX P w) 3 (He.ma K (He.ga K "Net") "both_there") fd ["self", "one", "other"] (spF (gp K q hq) f_Net_both_there) := by
  obtain ⟨fd_NoPoint, F_NoPoint⟩ := ok_XNoPoint (P := P) (w := w) (base := base) c
  obtain ⟨fd, Fd⟩ := c.d_Net_both_there
  refine ⟨fd, Fd.ok sc_Net_both_there (fun vs H Q E h => spF_len h) (fun cdv A outer s H vs Q E hr h => ⟨tS (gp K q hq) E ev_Net_both_there, ?_, spF_body h⟩), Fd.bindsN fun _ _ _ _ _ _ us hl => (match us, hl with | [_, _, _], _ => rfl), Fd.kp⟩
  have nd : N_Net_both_there.Nodup := sc_Net_both_there.nd
  have tk : L2N.Takes (cxOf (L2N.CX P w) P w K mg base N_Net_both_there "Net.both_there" (defScope (inClass (top 22) 1)) (He.ma K (He.ga K "Net") "both_there") cdv A outer s H E) (fun cls d _ H => E cls d H) := L2N.takes_of rfl rfl rfl rfl
  have px : Passes (L2N.CX P w) (cxOf (L2N.CX P w) P w K mg base N_Net_both_there "Net.both_there" (defScope (inClass (top 22) 1)) (He.ma K (He.ga K "Net") "both_there") cdv A outer s H E) E := L2N.passes_call tk (fun _ _ _ _ h => h)
  have px0 : Passes (L2N.CX P w) (cxOf (L2N.CX P w) P w K mg base N_Net_both_there "Net.both_there" (defScope (inClass (top 22) 1)) (He.ma K (He.ga K "Net") "both_there") cdv A outer s H E) (fun _ _ _ => False) := L2N.passes_call tk (fun _ _ _ _ h => h.elim)
  have po : PassesOwn (model P w) (cxOf (L2N.CX P w) P w K mg base N_Net_both_there "Net.both_there" (defScope (inClass (top 22) 1)) (He.ma K (He.ga K "Net") "both_there") cdv A outer s H E).A (cxOf (L2N.CX P w) P w K mg base N_Net_both_there "Net.both_there" (defScope (inClass (top 22) 1)) (He.ma K (He.ga K "Net") "both_there") cdv A outer s H E).env (cxOf (L2N.CX P w) P w K mg base N_Net_both_there "Net.both_there" (defScope (inClass (top 22) 1)) (He.ma K (He.ga K "Net") "both_there") cdv A outer s H E).xe := L2.passes_of rfl
  exact ss_cons (s_for po rfl (si_tup (se_tup (sa_cons (sv 1) (sa_cons (sv 2) (sa_nil))))) (sg 3 nd) (ss_one (s_if (st_dnotin (hu_of hr) (sv 3) (se_fld (f := .halves) (c.ks q hq) rfl (sv 0))) (ss_one (s_raise1 (c := .noPoint) (f := .name) rfl tk c.y_NoPoint (F_NoPoint.ok.mono (by decide)) hr F_NoPoint.b px0 rfl (sv 3))) (ss_nil)))) (ss_one (s_if (st_cmp op_eq ok_eq (sv 1) (sv 2) (nomark _)) (ss_one (s_raise0 (c := .alone) rfl tk c.x_Alone rfl)) (ss_nil)))
def N_Net_put_point : List Str := ["self", "name", "half"]
def ev_Net_put_point : EVS := svSeq (svIf (evNot (evCall f_is_name [] (eaC (evVar 1) (eaN)))) (svRaise0 .noName) (svNil)) (svSeq (svIf (evB dInV (evVar 1) (evU (fFld .halves) (evVar 0))) (svRaise0 .taken) (svNil)) (svSeq (svExpr (evCall f_in_range [] (eaC (evVar 2) (eaC (evC (.int 0 0)) (eaC (evC (.int 50 0)) (eaN)))))) (svSeq (svExpr (evCall f_room_for_one [] (eaC (evN fLen (eaC (evU (fFld .halves) (evVar 0)) (eaN))) (eaC (evC (.int 20 0)) (eaN))))) (svDput (evU (fFld .halves) (evVar 0)) (evVar 1) (evVar 2)))))
def f_Net_put_point : List AV → List AO → Rs AV := mkF 3 3 ev_Net_put_point
theorem sc_Net_put_point : FnScope N_Net_put_point ["self", "name", "half"] (defScope (inClass (top 22) 2)) := ⟨rfl, rfl, rfl, by decide +kernel, rfl, by decide +kernel, by decide +kernel⟩
theorem ok_Net_put_point (c : Fx K mg w) : ∃ fd, Df P w K mg base (L2N.CX P w) 2 (He.ma K (He.ga K "Net") "put_point") fd ["self", "name", "half"] (spF (gp K q hq) f_Net_put_point) ∧ ∃ ds, Binds K fd ["self", "name", "half"] ds ∧ Vals [.int 0] ds := by
  obtain ⟨fd_is_name, F_is_name⟩ := ok_is_name (P := P) (w := w) (base := base) c
  obtain ⟨fd_in_range, F_in_range⟩ := ok_in_range (P := P) (w := w) (base := base) c
  obtain ⟨fd_room_for_one, F_room_for_one⟩ := ok_room_for_one (P := P) (w := w) (base := base) c
  obtain ⟨fd, Fd⟩ := c.d_Net_put_point
  have hD : ∃ ds, Vals [.int 0] ds ∧ Binds K fd ["self", "name", "half"] ds := by
    refine Fd.binds1 (ps := ["self", "name", "half"]) 2 0 (by simp) rfl fun T kV doc pm an cdv ct us its hu hi => ⟨_, rfl, ?_⟩
    match us, its, hu, hi with | [_, _], [_], _, _ => rfl
  have hB : Binds K fd ["self", "name", "half"] [] := by
    obtain ⟨oc, od, dV, kV, doc, pm, an, cdv, ct, osl, rfl, lk, hcd, hDf, hK⟩ := Fd.ex
    rcases hDf with ⟨e, _⟩ | ⟨_, T, o, its, m0, rfl, lT, oT, rT⟩
    · cases e
    · intro s us X hl
      rw [List.append_nil] at hl ⊢
      refine BindsTo.of_looks fun M => ?_
      have hi : its.length = 1 := rT.length.symm
      match us, its, hl, hi with
      | [_, _, _], [_], _, _ => exact looks_items X lT oT (PySem.W.Looks.of_pure rfl)
  obtain ⟨ds, hV, hDs⟩ := hD
  refine ⟨fd, ⟨Fd.ok sc_Net_put_point (fun vs H Q E h => spF_len h) (fun cdv A outer s H vs Q E hr h => ⟨tS (gp K q hq) E ev_Net_put_point, ?_, spF_body h⟩), hB, Fd.kp⟩, ds, hDs, hV⟩
  have nd : N_Net_put_point.Nodup := sc_Net_put_point.nd
  have tk : L2N.Takes (cxOf (L2N.CX P w) P w K mg base N_Net_put_point "Net.put_point" (defScope (inClass (top 22) 2)) (He.ma K (He.ga K "Net") "put_point") cdv A outer s H E) (fun cls d _ H => E cls d H) := L2N.takes_of rfl rfl rfl rfl
  have px : Passes (L2N.CX P w) (cxOf (L2N.CX P w) P w K mg base N_Net_put_point "Net.put_point" (defScope (inClass (top 22) 2)) (He.ma K (He.ga K "Net") "put_point") cdv A outer s H E) E := L2N.passes_call tk (fun _ _ _ _ h => h)
  have px0 : Passes (L2N.CX P w) (cxOf (L2N.CX P w) P w K mg base N_Net_put_point "Net.put_point" (defScope (inClass (top 22) 2)) (He.ma K (He.ga K "Net") "put_point") cdv A outer s H E) (fun _ _ _ => False) := L2N.passes_call tk (fun _ _ _ _ h => h.elim)
  have po : PassesOwn (model P w) (cxOf (L2N.CX P w) P w K mg base N_Net_put_point "Net.put_point" (defScope (inClass (top 22) 2)) (He.ma K (He.ga K "Net") "put_point") cdv A outer s H E).A (cxOf (L2N.CX P w) P w K mg base N_Net_put_point "Net.put_point" (defScope (inClass (top 22) 2)) (He.ma K (He.ga K "Net") "put_point") cdv A outer s H E).env (cxOf (L2N.CX P w) P w K mg base N_Net_put_point "Net.put_point" (defScope (inClass (top 22) 2)) (He.ma K (He.ga K "Net") "put_point") cdv A outer s H E).xe := L2.passes_of rfl
  exact ss_cons (s_if (st_not (st_val (se_call (F_is_name.ok.mono (by decide)) hr rfl c.g_is_name F_is_name.kp F_is_name.b .nil d1 px (sa_cons (sv 1) (sa_nil))))) (ss_one (s_raise0 (c := .noName) rfl tk c.x_NoName rfl)) (ss_nil)) (ss_cons (s_if (st_din (hu_of hr) (sv 1) (se_fld (f := .halves) (c.ks q hq) rfl (sv 0))) (ss_one (s_raise0 (c := .taken) rfl tk c.x_Taken rfl)) (ss_nil)) (ss_cons (s_expr (se_call (F_in_range.ok.mono (by decide)) hr rfl c.g_in_range F_in_range.kp F_in_range.b .nil d1 px (sa_cons (sv 2) (sa_cons (se_int) (sa_cons (se_int) (sa_nil)))))) (ss_cons (s_expr (se_call (F_room_for_one.ok.mono (by decide)) hr rfl c.g_room_for_one F_room_for_one.kp F_room_for_one.b .nil d1 px (sa_cons (se_callB c_len (ok_len (K := K)) rfl c.n_len boot_len (sa_cons (se_fld (f := .halves) (c.ks q hq) rfl (sv 0)) (sa_nil))) (sa_cons (se_gint c.i_MOST_POINTS) (sa_nil))))) (ss_one (s_dput (hu_of hr) (se_fld (f := .halves) (c.ks q hq) rfl (sv 0)) (sv 1) (sv 2))))))
def N_Net_put_arrow : List Str := ["self", "one", "other", "span", "weight", "number"]
def ev_Net_put_arrow : EVS := svSeq (svExpr (evMeth .net f_Net_both_there [] (evVar 0) (eaC (evVar 1) (eaC (evVar 2) (eaN))))) (svSeq (svExpr (evCall f_in_range [] (eaC (evVar 3) (eaC (evC (.int 1 0)) (eaC (evC (.int 20 0)) (eaN)))))) (svSeq (svExpr (evCall f_in_range [] (eaC (evVar 4) (eaC (evC (.int 1 0)) (eaC (evB powV (evC (.int 10 0)) (evC (.int 6 0))) (eaN)))))) (svSeq (svExpr (evCall f_room_for_one [] (eaC (evN fLen (eaC (evU (fFld .drawn_arrows) (evVar 0)) (eaN))) (eaC (evC (.int 40 0)) (eaN))))) (svSeq (svAsg (evU (fFld .given) (evVar 0)) (etgN 5)) (svSeq (svDput (evU (fFld .drawn_arrows) (evVar 0)) (evVar 5) (evN fTup (eaC (evVar 5) (eaC (evVar 1) (eaC (evVar 2) (eaC (evVar 3) (eaC (evVar 4) (eaN)))))))) (svSeq (svFld .given (evVar 0) (evB addV (evVar 5) (evC (.int 1 0)))) (svRet (evVar 5))))))))
def f_Net_put_arrow : List AV → List AO → Rs AV := mkF 5 6 ev_Net_put_arrow
theorem sc_Net_put_arrow : FnScope N_Net_put_arrow ["self", "one", "other", "span", "weight"] (defScope (inClass (top 22) 3)) := ⟨rfl, rfl, rfl, by decide +kernel, rfl, by decide +kernel, by decide +kernel⟩
theorem ok_Net_put_arrow (c : Fx K mg w) : ∃ fd, Df P w K mg base (L2N.CX P w) 4 (He.ma K (He.ga K "Net") "put_arrow") fd ["self", "one", "other", "span", "weight"] (spF (gp K q hq) f_Net_put_arrow) ∧ ∃ ds, Binds K fd ["self", "one", "other", "span", "weight"] ds ∧ Vals [.int 1, .int 1] ds := by
  obtain ⟨fd_Net_both_there, F_Net_both_there⟩ := ok_Net_both_there (P := P) (w := w) (base := base) c
  obtain ⟨fd_in_range, F_in_range⟩ := ok_in_range (P := P) (w := w) (base := base) c
  obtain ⟨fd_room_for_one, F_room_for_one⟩ := ok_room_for_one (P := P) (w := w) (base := base) c
  obtain ⟨fd, Fd⟩ := c.d_Net_put_arrow
  have hD : ∃ ds, Vals [.int 1, .int 1] ds ∧ Binds K fd ["self", "one", "other", "span", "weight"] ds := by
    refine Fd.binds1 (ps := ["self", "one", "other", "span", "weight"]) 3 0 (by simp) rfl fun T kV doc pm an cdv ct us its hu hi => ⟨_, rfl, ?_⟩
    match us, its, hu, hi with | [_, _, _], [_, _], _, _ => rfl
  have hB : Binds K fd ["self", "one", "other", "span", "weight"] [] := by
    obtain ⟨oc, od, dV, kV, doc, pm, an, cdv, ct, osl, rfl, lk, hcd, hDf, hK⟩ := Fd.ex
    rcases hDf with ⟨e, _⟩ | ⟨_, T, o, its, m0, rfl, lT, oT, rT⟩
    · cases e
    · intro s us X hl
      rw [List.append_nil] at hl ⊢
      refine BindsTo.of_looks fun M => ?_
      have hi : its.length = 2 := rT.length.symm
      match us, its, hl, hi with
      | [_, _, _, _, _], [_, _], _, _ => exact looks_items X lT oT (PySem.W.Looks.of_pure rfl)
  obtain ⟨ds, hV, hDs⟩ := hD
  refine ⟨fd, ⟨Fd.ok sc_Net_put_arrow (fun vs H Q E h => spF_len h) (fun cdv A outer s H vs Q E hr h => ⟨tS (gp K q hq) E ev_Net_put_arrow, ?_, spF_body h⟩), hB, Fd.kp⟩, ds, hDs, hV⟩
  have nd : N_Net_put_arrow.Nodup := sc_Net_put_arrow.nd
  have tk : L2N.Takes (cxOf (L2N.CX P w) P w K mg base N_Net_put_arrow "Net.put_arrow" (defScope (inClass (top 22) 3)) (He.ma K (He.ga K "Net") "put_arrow") cdv A outer s H E) (fun cls d _ H => E cls d H) := L2N.takes_of rfl rfl rfl rfl
  have px : Passes (L2N.CX P w) (cxOf (L2N.CX P w) P w K mg base N_Net_put_arrow "Net.put_arrow" (defScope (inClass (top 22) 3)) (He.ma K (He.ga K "Net") "put_arrow") cdv A outer s H E) E := L2N.passes_call tk (fun _ _ _ _ h => h)
  have px0 : Passes (L2N.CX P w) (cxOf (L2N.CX P w) P w K mg base N_Net_put_arrow "Net.put_arrow" (defScope (inClass (top 22) 3)) (He.ma K (He.ga K "Net") "put_arrow") cdv A outer s H E) (fun _ _ _ => False) := L2N.passes_call tk (fun _ _ _ _ h => h.elim)
  have po : PassesOwn (model P w) (cxOf (L2N.CX P w) P w K mg base N_Net_put_arrow "Net.put_arrow" (defScope (inClass (top 22) 3)) (He.ma K (He.ga K "Net") "put_arrow") cdv A outer s H E).A (cxOf (L2N.CX P w) P w K mg base N_Net_put_arrow "Net.put_arrow" (defScope (inClass (top 22) 3)) (He.ma K (He.ga K "Net") "put_arrow") cdv A outer s H E).env (cxOf (L2N.CX P w) P w K mg base N_Net_put_arrow "Net.put_arrow" (defScope (inClass (top 22) 3)) (He.ma K (He.ga K "Net") "put_arrow") cdv A outer s H E).xe := L2.passes_of rfl
  exact ss_cons (s_expr (se_meth (c := .net) (c.ks q hq) (by intro z; cases z <;> decide) (sv 0) c.t_Net_both_there (F_Net_both_there.ok.mono (by decide)) hr F_Net_both_there.b .nil d1 px (sa_cons (sv 1) (sa_cons (sv 2) (sa_nil))))) (ss_cons (s_expr (se_call (F_in_range.ok.mono (by decide)) hr rfl c.g_in_range F_in_range.kp F_in_range.b .nil d1 px (sa_cons (sv 3) (sa_cons (se_int) (sa_cons (se_int) (sa_nil)))))) (ss_cons (s_expr (se_call (F_in_range.ok.mono (by decide)) hr rfl c.g_in_range F_in_range.kp F_in_range.b .nil d1 px (sa_cons (sv 4) (sa_cons (se_int) (sa_cons (se_op op_pow ok_pow (se_int) (se_int)) (sa_nil)))))) (ss_cons (s_expr (se_call (F_room_for_one.ok.mono (by decide)) hr rfl c.g_room_for_one F_room_for_one.kp F_room_for_one.b .nil d1 px (sa_cons (se_callB c_len (ok_len (K := K)) rfl c.n_len boot_len (sa_cons (se_fld (f := .drawn_arrows) (c.ks q hq) rfl (sv 0)) (sa_nil))) (sa_cons (se_gint c.i_MOST_ARROWS) (sa_nil))))) (ss_cons (sset 5 nd (se_fld (f := .given) (c.ks q hq) rfl (sv 0))) (ss_cons (s_dput (hu_of hr) (se_fld (f := .drawn_arrows) (c.ks q hq) rfl (sv 0)) (sv 5) (se_tup (sa_cons (sv 5) (sa_cons (sv 1) (sa_cons (sv 2) (sa_cons (sv 3) (sa_cons (sv 4) (sa_nil)))))))) (ss_cons (s_fld (f := .given) (c.ks q hq) rfl (sv 0) (se_op o_add ok_add (sv 5) (se_int))) (ss_one (s_ret (sv 5)))))))))
def N_Net_put_same : List Str := ["self", "one", "other"]
def ev_Net_put_same : EVS := svSeq (svExpr (evMeth .net f_Net_both_there [] (evVar 0) (eaC (evVar 1) (eaC (evVar 2) (eaN))))) (svSeq (svExpr (evCall f_room_for_one [] (eaC (evN fLen (eaC (evU (fFld .level_pairs) (evVar 0)) (eaN))) (eaC (evC (.int 20 0)) (eaN))))) (svExpr (evBM fApp (evU (fFld .level_pairs) (evVar 0)) (eaC (evN fTup (eaC (evVar 1) (eaC (evVar 2) (eaN)))) (eaN)))))
def f_Net_put_same : List AV → List AO → Rs AV := mkF 3 3 ev_Net_put_same
theorem sc_Net_put_same : FnScope N_Net_put_same ["self", "one", "other"] (defScope (inClass (top 22) 4)) := ⟨rfl, rfl, rfl, by decide +kernel, rfl, by decide +kernel, by decide +kernel⟩
theorem ok_Net_put_same (c : Fx K mg w) : ∃ fd, Df P w K mg base (L2N.CX P w) 4 (He.ma K (He.ga K "Net") "put_same") fd ["self", "one", "other"] (spF (gp K q hq) f_Net_put_same) := by
  obtain ⟨fd_Net_both_there, F_Net_both_there⟩ := ok_Net_both_there (P := P) (w := w) (base := base) c
  obtain ⟨fd_room_for_one, F_room_for_one⟩ := ok_room_for_one (P := P) (w := w) (base := base) c
  obtain ⟨fd, Fd⟩ := c.d_Net_put_same
  refine ⟨fd, Fd.ok sc_Net_put_same (fun vs H Q E h => spF_len h) (fun cdv A outer s H vs Q E hr h => ⟨tS (gp K q hq) E ev_Net_put_same, ?_, spF_body h⟩), Fd.bindsN fun _ _ _ _ _ _ us hl => (match us, hl with | [_, _, _], _ => rfl), Fd.kp⟩
  have nd : N_Net_put_same.Nodup := sc_Net_put_same.nd
  have tk : L2N.Takes (cxOf (L2N.CX P w) P w K mg base N_Net_put_same "Net.put_same" (defScope (inClass (top 22) 4)) (He.ma K (He.ga K "Net") "put_same") cdv A outer s H E) (fun cls d _ H => E cls d H) := L2N.takes_of rfl rfl rfl rfl
  have px : Passes (L2N.CX P w) (cxOf (L2N.CX P w) P w K mg base N_Net_put_same "Net.put_same" (defScope (inClass (top 22) 4)) (He.ma K (He.ga K "Net") "put_same") cdv A outer s H E) E := L2N.passes_call tk (fun _ _ _ _ h => h)
  have px0 : Passes (L2N.CX P w) (cxOf (L2N.CX P w) P w K mg base N_Net_put_same "Net.put_same" (defScope (inClass (top 22) 4)) (He.ma K (He.ga K "Net") "put_same") cdv A outer s H E) (fun _ _ _ => False) := L2N.passes_call tk (fun _ _ _ _ h => h.elim)
  have po : PassesOwn (model P w) (cxOf (L2N.CX P w) P w K mg base N_Net_put_same "Net.put_same" (defScope (inClass (top 22) 4)) (He.ma K (He.ga K "Net") "put_same") cdv A outer s H E).A (cxOf (L2N.CX P w) P w K mg base N_Net_put_same "Net.put_same" (defScope (inClass (top 22) 4)) (He.ma K (He.ga K "Net") "put_same") cdv A outer s H E).env (cxOf (L2N.CX P w) P w K mg base N_Net_put_same "Net.put_same" (defScope (inClass (top 22) 4)) (He.ma K (He.ga K "Net") "put_same") cdv A outer s H E).xe := L2.passes_of rfl
  exact ss_cons (s_expr (se_meth (c := .net) (c.ks q hq) (by intro z; cases z <;> decide) (sv 0) c.t_Net_both_there (F_Net_both_there.ok.mono (by decide)) hr F_Net_both_there.b .nil d1 px (sa_cons (sv 1) (sa_cons (sv 2) (sa_nil))))) (ss_cons (s_expr (se_call (F_room_for_one.ok.mono (by decide)) hr rfl c.g_room_for_one F_room_for_one.kp F_room_for_one.b .nil d1 px (sa_cons (se_callB c_len (ok_len (K := K)) rfl c.n_len boot_len (sa_cons (se_fld (f := .level_pairs) (c.ks q hq) rfl (sv 0)) (sa_nil))) (sa_cons (se_gint c.i_MOST_PAIRS) (sa_nil))))) (ss_one (s_expr (se_app (se_fld (f := .level_pairs) (c.ks q hq) rfl (sv 0)) (sa_cons (se_tup (sa_cons (sv 1) (sa_cons (sv 2) (sa_nil)))) (sa_nil))))))
def N_Net_take_arrow : List Str := ["self", "number"]
def ev_Net_take_arrow : EVS := svSeq (svIf (evB dNotInV (evVar 1) (evU (fFld .drawn_arrows) (evVar 0))) (svRaise1 .noSuch .number (evVar 1)) (svNil)) (svNo)
def f_Net_take_arrow : List AV → List AO → Rs AV := mkF 2 2 ev_Net_take_arrow
theorem sc_Net_take_arrow : FnScope N_Net_take_arrow ["self", "number"] (defScope (inClass (top 22) 6)) := ⟨rfl, rfl, rfl, by decide +kernel, rfl, by decide +kernel, by decide +kernel⟩
theorem ok_Net_take_arrow (c : Fx K mg w) : ∃ fd, Df P w K mg base (L2N.CX P w) 3 (He.ma K (He.ga K "Net") "take_arrow") fd ["self", "number"] (spF (gp K q hq) f_Net_take_arrow) := by
  obtain ⟨fd_NoSuch, F_NoSuch⟩ := ok_XNoSuch (P := P) (w := w) (base := base) c
  obtain ⟨fd, Fd⟩ := c.d_Net_take_arrow
  refine ⟨fd, Fd.ok sc_Net_take_arrow (fun vs H Q E h => spF_len h) (fun cdv A outer s H vs Q E hr h => ⟨tS (gp K q hq) E ev_Net_take_arrow, ?_, spF_body h⟩), Fd.bindsN fun _ _ _ _ _ _ us hl => (match us, hl with | [_, _], _ => rfl), Fd.kp⟩
  have nd : N_Net_take_arrow.Nodup := sc_Net_take_arrow.nd
  have tk : L2N.Takes (cxOf (L2N.CX P w) P w K mg base N_Net_take_arrow "Net.take_arrow" (defScope (inClass (top 22) 6)) (He.ma K (He.ga K "Net") "take_arrow") cdv A outer s H E) (fun cls d _ H => E cls d H) := L2N.takes_of rfl rfl rfl rfl
  have px : Passes (L2N.CX P w) (cxOf (L2N.CX P w) P w K mg base N_Net_take_arrow "Net.take_arrow" (defScope (inClass (top 22) 6)) (He.ma K (He.ga K "Net") "take_arrow") cdv A outer s H E) E := L2N.passes_call tk (fun _ _ _ _ h => h)
  have px0 : Passes (L2N.CX P w) (cxOf (L2N.CX P w) P w K mg base N_Net_take_arrow "Net.take_arrow" (defScope (inClass (top 22) 6)) (He.ma K (He.ga K "Net") "take_arrow") cdv A outer s H E) (fun _ _ _ => False) := L2N.passes_call tk (fun _ _ _ _ h => h.elim)
  have po : PassesOwn (model P w) (cxOf (L2N.CX P w) P w K mg base N_Net_take_arrow "Net.take_arrow" (defScope (inClass (top 22) 6)) (He.ma K (He.ga K "Net") "take_arrow") cdv A outer s H E).A (cxOf (L2N.CX P w) P w K mg base N_Net_take_arrow "Net.take_arrow" (defScope (inClass (top 22) 6)) (He.ma K (He.ga K "Net") "take_arrow") cdv A outer s H E).env (cxOf (L2N.CX P w) P w K mg base N_Net_take_arrow "Net.take_arrow" (defScope (inClass (top 22) 6)) (He.ma K (He.ga K "Net") "take_arrow") cdv A outer s H E).xe := L2.passes_of rfl
  exact ss_cons (s_if (st_dnotin (hu_of hr) (sv 1) (se_fld (f := .drawn_arrows) (c.ks q hq) rfl (sv 0))) (ss_one (s_raise1 (c := .noSuch) (f := .number) rfl tk c.y_NoSuch (F_NoSuch.ok.mono (by decide)) hr F_NoSuch.b px0 rfl (sv 1))) (ss_nil)) (ss_never)
def N_Net_points : List Str := ["self"]
def ev_Net_points : EVS := svRet (evN fListOf (eaC (evU (fFld .halves) (evVar 0)) (eaN)))
def f_Net_points : List AV → List AO → Rs AV := mkF 1 1 ev_Net_points
theorem sc_Net_points : FnScope N_Net_points ["self"] (defScope (inClass (top 22) 7)) := ⟨rfl, rfl, rfl, by decide +kernel, rfl, by decide +kernel, by decide +kernel⟩
theorem ok_Net_points (c : Fx K mg w) : ∃ fd, Df P w K mg base (L2N.CX P w) 1 (He.ma K (He.ga K "Net") "points") fd ["self"] (spF (gp K q hq) f_Net_points) := by
  obtain ⟨fd, Fd⟩ := c.d_Net_points
  refine ⟨fd, Fd.ok sc_Net_points (fun vs H Q E h => spF_len h) (fun cdv A outer s H vs Q E hr h => ⟨tS (gp K q hq) E ev_Net_points, ?_, spF_body h⟩), Fd.bindsN fun _ _ _ _ _ _ us hl => (match us, hl with | [_], _ => rfl), Fd.kp⟩
  have nd : N_Net_points.Nodup := sc_Net_points.nd
  have tk : L2N.Takes (cxOf (L2N.CX P w) P w K mg base N_Net_points "Net.points" (defScope (inClass (top 22) 7)) (He.ma K (He.ga K "Net") "points") cdv A outer s H E) (fun cls d _ H => E cls d H) := L2N.takes_of rfl rfl rfl rfl
  have px : Passes (L2N.CX P w) (cxOf (L2N.CX P w) P w K mg base N_Net_points "Net.points" (defScope (inClass (top 22) 7)) (He.ma K (He.ga K "Net") "points") cdv A outer s H E) E := L2N.passes_call tk (fun _ _ _ _ h => h)
  have px0 : Passes (L2N.CX P w) (cxOf (L2N.CX P w) P w K mg base N_Net_points "Net.points" (defScope (inClass (top 22) 7)) (He.ma K (He.ga K "Net") "points") cdv A outer s H E) (fun _ _ _ => False) := L2N.passes_call tk (fun _ _ _ _ h => h.elim)
  have po : PassesOwn (model P w) (cxOf (L2N.CX P w) P w K mg base N_Net_points "Net.points" (defScope (inClass (top 22) 7)) (He.ma K (He.ga K "Net") "points") cdv A outer s H E).A (cxOf (L2N.CX P w) P w K mg base N_Net_points "Net.points" (defScope (inClass (top 22) 7)) (He.ma K (He.ga K "Net") "points") cdv A outer s H E).env (cxOf (L2N.CX P w) P w K mg base N_Net_points "Net.points" (defScope (inClass (top 22) 7)) (He.ma K (He.ga K "Net") "points") cdv A outer s H E).xe := L2.passes_of rfl
  exact ss_one (s_ret (se_callTy (c_list rfl) (ok_listOf (K := K)) rfl c.n_list boot_list (sa_cons (se_fld (f := .halves) (c.ks q hq) rfl (sv 0)) (sa_nil))))
def N_Net_arrows : List Str := ["self", "number"]
def ev_Net_arrows : EVS := svRet (evLc1 (eiL (evN fSorted (eaC (evU (fFld .drawn_arrows) (evVar 0)) (eaN)))) 1 (evB dGetV (evU (fFld .drawn_arrows) (evVar 0)) (evVar 1)))
def f_Net_arrows : List AV → List AO → Rs AV := mkF 1 2 ev_Net_arrows
theorem sc_Net_arrows : FnScope N_Net_arrows ["self"] (defScope (inClass (top 22) 9)) := ⟨rfl, rfl, rfl, by decide +kernel, rfl, by decide +kernel, by decide +kernel⟩
theorem ok_Net_arrows (c : Fx K mg w) : ∃ fd, Df P w K mg base (L2N.CX P w) 1 (He.ma K (He.ga K "Net") "arrows") fd ["self"] (spF (gp K q hq) f_Net_arrows) := by
  obtain ⟨fd, Fd⟩ := c.d_Net_arrows
  refine ⟨fd, Fd.ok sc_Net_arrows (fun vs H Q E h => spF_len h) (fun cdv A outer s H vs Q E hr h => ⟨tS (gp K q hq) E ev_Net_arrows, ?_, spF_body h⟩), Fd.bindsN fun _ _ _ _ _ _ us hl => (match us, hl with | [_], _ => rfl), Fd.kp⟩
  have nd : N_Net_arrows.Nodup := sc_Net_arrows.nd
  have tk : L2N.Takes (cxOf (L2N.CX P w) P w K mg base N_Net_arrows "Net.arrows" (defScope (inClass (top 22) 9)) (He.ma K (He.ga K "Net") "arrows") cdv A outer s H E) (fun cls d _ H => E cls d H) := L2N.takes_of rfl rfl rfl rfl
  have px : Passes (L2N.CX P w) (cxOf (L2N.CX P w) P w K mg base N_Net_arrows "Net.arrows" (defScope (inClass (top 22) 9)) (He.ma K (He.ga K "Net") "arrows") cdv A outer s H E) E := L2N.passes_call tk (fun _ _ _ _ h => h)
  have px0 : Passes (L2N.CX P w) (cxOf (L2N.CX P w) P w K mg base N_Net_arrows "Net.arrows" (defScope (inClass (top 22) 9)) (He.ma K (He.ga K "Net") "arrows") cdv A outer s H E) (fun _ _ _ => False) := L2N.passes_call tk (fun _ _ _ _ h => h.elim)
  have po : PassesOwn (model P w) (cxOf (L2N.CX P w) P w K mg base N_Net_arrows "Net.arrows" (defScope (inClass (top 22) 9)) (He.ma K (He.ga K "Net") "arrows") cdv A outer s H E).A (cxOf (L2N.CX P w) P w K mg base N_Net_arrows "Net.arrows" (defScope (inClass (top 22) 9)) (He.ma K (He.ga K "Net") "arrows") cdv A outer s H E).env (cxOf (L2N.CX P w) P w K mg base N_Net_arrows "Net.arrows" (defScope (inClass (top 22) 9)) (He.ma K (He.ga K "Net") "arrows") cdv A outer s H E).xe := L2.passes_of rfl
  exact ss_one (s_ret (se_lc1 rfl nd (si_list (se_callB (call_sortedDI rfl) ok_sorted rfl c.n_sorted boot_sorted (sa_cons (se_fld (f := .drawn_arrows) (c.ks q hq) rfl (sv 0)) (sa_nil)))) (blkOk_by (N := N_Net_arrows) (sc := defScope (inClass (top 22) 9)) (by decide +kernel)) (fun _ _ _ _ _ => gn 1 nd) (fun _ _ _ _ _ => se_dget (hu_of hr) (se_fld (f := .drawn_arrows) (c.ks q hq) rfl (sv 0)) (sv 1))))
def N_Net_sames : List Str := ["self"]
def ev_Net_sames : EVS := svRet (evN fListOf (eaC (evU (fFld .level_pairs) (evVar 0)) (eaN)))
def f_Net_sames : List AV → List AO → Rs AV := mkF 1 1 ev_Net_sames
theorem sc_Net_sames : FnScope N_Net_sames ["self"] (defScope (inClass (top 22) 10)) := ⟨rfl, rfl, rfl, by decide +kernel, rfl, by decide +kernel, by decide +kernel⟩
theorem ok_Net_sames (c : Fx K mg w) : ∃ fd, Df P w K mg base (L2N.CX P w) 1 (He.ma K (He.ga K "Net") "sames") fd ["self"] (spF (gp K q hq) f_Net_sames) := by
  obtain ⟨fd, Fd⟩ := c.d_Net_sames
  refine ⟨fd, Fd.ok sc_Net_sames (fun vs H Q E h => spF_len h) (fun cdv A outer s H vs Q E hr h => ⟨tS (gp K q hq) E ev_Net_sames, ?_, spF_body h⟩), Fd.bindsN fun _ _ _ _ _ _ us hl => (match us, hl with | [_], _ => rfl), Fd.kp⟩
  have nd : N_Net_sames.Nodup := sc_Net_sames.nd
  have tk : L2N.Takes (cxOf (L2N.CX P w) P w K mg base N_Net_sames "Net.sames" (defScope (inClass (top 22) 10)) (He.ma K (He.ga K "Net") "sames") cdv A outer s H E) (fun cls d _ H => E cls d H) := L2N.takes_of rfl rfl rfl rfl
  have px : Passes (L2N.CX P w) (cxOf (L2N.CX P w) P w K mg base N_Net_sames "Net.sames" (defScope (inClass (top 22) 10)) (He.ma K (He.ga K "Net") "sames") cdv A outer s H E) E := L2N.passes_call tk (fun _ _ _ _ h => h)
  have px0 : Passes (L2N.CX P w) (cxOf (L2N.CX P w) P w K mg base N_Net_sames "Net.sames" (defScope (inClass (top 22) 10)) (He.ma K (He.ga K "Net") "sames") cdv A outer s H E) (fun _ _ _ => False) := L2N.passes_call tk (fun _ _ _ _ h => h.elim)
  have po : PassesOwn (model P w) (cxOf (L2N.CX P w) P w K mg base N_Net_sames "Net.sames" (defScope (inClass (top 22) 10)) (He.ma K (He.ga K "Net") "sames") cdv A outer s H E).A (cxOf (L2N.CX P w) P w K mg base N_Net_sames "Net.sames" (defScope (inClass (top 22) 10)) (He.ma K (He.ga K "Net") "sames") cdv A outer s H E).env (cxOf (L2N.CX P w) P w K mg base N_Net_sames "Net.sames" (defScope (inClass (top 22) 10)) (He.ma K (He.ga K "Net") "sames") cdv A outer s H E).xe := L2.passes_of rfl
  exact ss_one (s_ret (se_callTy (c_list rfl) (ok_listOf (K := K)) rfl c.n_list boot_list (sa_cons (se_fld (f := .level_pairs) (c.ks q hq) rfl (sv 0)) (sa_nil))))
def N_Net_mosts : List Str := ["self"]
def ev_Net_mosts : EVS := svRet (evN fListOf (eaC (evU (fFld .near_pairs) (evVar 0)) (eaN)))
def f_Net_mosts : List AV → List AO → Rs AV := mkF 1 1 ev_Net_mosts
theorem sc_Net_mosts : FnScope N_Net_mosts ["self"] (defScope (inClass (top 22) 11)) := ⟨rfl, rfl, rfl, by decide +kernel, rfl, by decide +kernel, by decide +kernel⟩
theorem ok_Net_mosts (c : Fx K mg w) : ∃ fd, Df P w K mg base (L2N.CX P w) 1 (He.ma K (He.ga K "Net") "mosts") fd ["self"] (spF (gp K q hq) f_Net_mosts) := by
  obtain ⟨fd, Fd⟩ := c.d_Net_mosts
  refine ⟨fd, Fd.ok sc_Net_mosts (fun vs H Q E h => spF_len h) (fun cdv A outer s H vs Q E hr h => ⟨tS (gp K q hq) E ev_Net_mosts, ?_, spF_body h⟩), Fd.bindsN fun _ _ _ _ _ _ us hl => (match us, hl with | [_], _ => rfl), Fd.kp⟩
  have nd : N_Net_mosts.Nodup := sc_Net_mosts.nd
  have tk : L2N.Takes (cxOf (L2N.CX P w) P w K mg base N_Net_mosts "Net.mosts" (defScope (inClass (top 22) 11)) (He.ma K (He.ga K "Net") "mosts") cdv A outer s H E) (fun cls d _ H => E cls d H) := L2N.takes_of rfl rfl rfl rfl
  have px : Passes (L2N.CX P w) (cxOf (L2N.CX P w) P w K mg base N_Net_mosts "Net.mosts" (defScope (inClass (top 22) 11)) (He.ma K (He.ga K "Net") "mosts") cdv A outer s H E) E := L2N.passes_call tk (fun _ _ _ _ h => h)
  have px0 : Passes (L2N.CX P w) (cxOf (L2N.CX P w) P w K mg base N_Net_mosts "Net.mosts" (defScope (inClass (top 22) 11)) (He.ma K (He.ga K "Net") "mosts") cdv A outer s H E) (fun _ _ _ => False) := L2N.passes_call tk (fun _ _ _ _ h => h.elim)
  have po : PassesOwn (model P w) (cxOf (L2N.CX P w) P w K mg base N_Net_mosts "Net.mosts" (defScope (inClass (top 22) 11)) (He.ma K (He.ga K "Net") "mosts") cdv A outer s H E).A (cxOf (L2N.CX P w) P w K mg base N_Net_mosts "Net.mosts" (defScope (inClass (top 22) 11)) (He.ma K (He.ga K "Net") "mosts") cdv A outer s H E).env (cxOf (L2N.CX P w) P w K mg base N_Net_mosts "Net.mosts" (defScope (inClass (top 22) 11)) (He.ma K (He.ga K "Net") "mosts") cdv A outer s H E).xe := L2.passes_of rfl
  exact ss_one (s_ret (se_callTy (c_list rfl) (ok_listOf (K := K)) rfl c.n_list boot_list (sa_cons (se_fld (f := .near_pairs) (c.ks q hq) rfl (sv 0)) (sa_nil))))
def N_went_back : List Str := ["lasts", "ways", "point", "step", "ring", "here"]
def ev_went_back : EVS := svSeq (svFor (eiR (eaC (evN fLen (eaC (evVar 0) (eaN))) (eaN))) (etgN 3) (svAsg (evB atV (evB atV (evVar 1) (evB dGetV (evVar 0) (evVar 2))) (evC (.int 0 0))) (etgN 2))) (svSeq (svAsg (evN fLst (eaC (evB dGetV (evVar 0) (evVar 2)) (eaN))) (etgN 4)) (svSeq (svAsg (evB atV (evB atV (evVar 1) (evB dGetV (evVar 0) (evVar 2))) (evC (.int 0 0))) (etgN 5)) (svSeq (svWhile (evB neVV (evVar 5) (evVar 2)) (svSeq (svExpr (evBM fApp (evVar 4) (eaC (evB dGetV (evVar 0) (evVar 5)) (eaN)))) (svAsg (evB atV (evB atV (evVar 1) (evB dGetV (evVar 0) (evVar 5))) (evC (.int 0 0))) (etgN 5)))) (svRet (evU fRev (evVar 4))))))
def f_went_back : List AV → List AO → Rs AV := mkF 3 6 ev_went_back
theorem sc_went_back : FnScope N_went_back ["lasts", "ways", "point"] (defScope (top 24)) := ⟨rfl, rfl, rfl, by decide +kernel, rfl, by decide +kernel, by decide +kernel⟩
theorem ok_went_back (c : Fx K mg w) : ∃ fd, Df P w K mg base (L2N.CX P w) 1 (He.ga K "went_back") fd ["lasts", "ways", "point"] (spF (gp K q hq) f_went_back) := by
  obtain ⟨fd, Fd⟩ := c.d_went_back
  refine ⟨fd, Fd.ok sc_went_back (fun vs H Q E h => spF_len h) (fun cdv A outer s H vs Q E hr h => ⟨tS (gp K q hq) E ev_went_back, ?_, spF_body h⟩), Fd.bindsN fun _ _ _ _ _ _ us hl => (match us, hl with | [_, _, _], _ => rfl), Fd.kp⟩
  have nd : N_went_back.Nodup := sc_went_back.nd
  have tk : L2N.Takes (cxOf (L2N.CX P w) P w K mg base N_went_back "went_back" (defScope (top 24)) (He.ga K "went_back") cdv A outer s H E) (fun cls d _ H => E cls d H) := L2N.takes_of rfl rfl rfl rfl
  have px : Passes (L2N.CX P w) (cxOf (L2N.CX P w) P w K mg base N_went_back "went_back" (defScope (top 24)) (He.ga K "went_back") cdv A outer s H E) E := L2N.passes_call tk (fun _ _ _ _ h => h)
  have px0 : Passes (L2N.CX P w) (cxOf (L2N.CX P w) P w K mg base N_went_back "went_back" (defScope (top 24)) (He.ga K "went_back") cdv A outer s H E) (fun _ _ _ => False) := L2N.passes_call tk (fun _ _ _ _ h => h.elim)
  have po : PassesOwn (model P w) (cxOf (L2N.CX P w) P w K mg base N_went_back "went_back" (defScope (top 24)) (He.ga K "went_back") cdv A outer s H E).A (cxOf (L2N.CX P w) P w K mg base N_went_back "went_back" (defScope (top 24)) (He.ga K "went_back") cdv A outer s H E).env (cxOf (L2N.CX P w) P w K mg base N_went_back "went_back" (defScope (top 24)) (He.ga K "went_back") cdv A outer s H E).xe := L2.passes_of rfl
  exact ss_cons (s_for po rfl (si_range rfl c.n_range (sa_cons (se_callB c_len (ok_len (K := K)) rfl c.n_len boot_len (sa_cons (sv 0) (sa_nil))) (sa_nil))) (sg 3 nd) (ss_one (sset 2 nd (se_at (se_at (sv 1) (se_dget (hu_of hr) (sv 0) (sv 2))) (se_int))))) (ss_cons (sset 4 nd (se_lst (sa_cons (se_dget (hu_of hr) (sv 0) (sv 2)) (sa_nil)))) (ss_cons (sset 5 nd (se_at (se_at (sv 1) (se_dget (hu_of hr) (sv 0) (sv 2))) (se_int))) (ss_cons (s_while po (st_cmp op_ne ok_ne (sv 5) (sv 2) (nomark _)) (ss_cons (s_expr (se_app (sv 4) (sa_cons (se_dget (hu_of hr) (sv 0) (sv 5)) (sa_nil)))) (ss_one (sset 5 nd (se_at (se_at (sv 1) (se_dget (hu_of hr) (sv 0) (sv 5))) (se_int)))))) (ss_one (s_ret (se_listRev rfl rfl c.n_list rfl c.n_reversed (sv 4)))))))
def N_furthest : List Str := ["starts", "ways", "sums", "lasts", "turned", "step", "at", "way", "one", "other", "gain"]
def ev_furthest : EVS := svSeq (svAsg (evN fDict (eaC (evVar 0) (eaN))) (etgN 2)) (svSeq (svAsg ((fun _ A => newO (.dic []) A)) (etgN 3)) (svSeq (svAsg (evC .non) (etgN 4)) (svSeq (svFor (eiR (eaC (evB addV (evN fLen (eaC (evVar 0) (eaN))) (evC (.int 1 0))) (eaN))) (etgN 5) (svSeq (svAsg (evC .non) (etgN 4)) (svSeq (svFor (eiE (eaC (evVar 1) (eaN))) (etgT [6, 7]) (svSeq (svAsg (evVar 7) (etgT [8, 9, 10])) (svIf (evAnd (evB notNV (evB dGetV (evVar 2) (evVar 8)) (evC .non)) (evOr (evB isNV (evB dGetV (evVar 2) (evVar 9)) (evC .non)) (evB gtV (evB addV (evB dGetV (evVar 2) (evVar 8)) (evVar 10)) (evB dGetV (evVar 2) (evVar 9))))) (svSeq (svDput (evVar 2) (evVar 9) (evB addV (evB dGetV (evVar 2) (evVar 8)) (evVar 10))) (svSeq (svDput (evVar 3) (evVar 9) (evVar 6)) (svAsg (evVar 9) (etgN 4)))) (svNil)))) (svIf (evB isNV (evVar 4) (evC .non)) (svRet (evN fTup (eaC (evVar 2) (eaC (evVar 3) (eaN))))) (svNil))))) (svRet (evN fTup (eaC (evCall f_went_back [] (eaC (evVar 3) (eaC (evVar 1) (eaC (evVar 4) (eaN))))) (eaC (evC .non) (eaN))))))))
def f_furthest : List AV → List AO → Rs AV := mkF 2 11 ev_furthest
theorem sc_furthest : FnScope N_furthest ["starts", "ways"] (defScope (top 25)) := ⟨rfl, rfl, rfl, by decide +kernel, rfl, by decide +kernel, by decide +kernel⟩
theorem ok_furthest (c : Fx K mg w) : ∃ fd, Df P w K mg base (L2N.CX P w) 2 (He.ga K "furthest") fd ["starts", "ways"] (spF (gp K q hq) f_furthest) := by
  obtain ⟨fd_went_back, F_went_back⟩ := ok_went_back (P := P) (w := w) (base := base) c
  obtain ⟨fd, Fd⟩ := c.d_furthest
  refine ⟨fd, Fd.ok sc_furthest (fun vs H Q E h => spF_len h) (fun cdv A outer s H vs Q E hr h => ⟨tS (gp K q hq) E ev_furthest, ?_, spF_body h⟩), Fd.bindsN fun _ _ _ _ _ _ us hl => (match us, hl with | [_, _], _ => rfl), Fd.kp⟩
  have nd : N_furthest.Nodup := sc_furthest.nd
  have tk : L2N.Takes (cxOf (L2N.CX P w) P w K mg base N_furthest "furthest" (defScope (top 25)) (He.ga K "furthest") cdv A outer s H E) (fun cls d _ H => E cls d H) := L2N.takes_of rfl rfl rfl rfl
  have px : Passes (L2N.CX P w) (cxOf (L2N.CX P w) P w K mg base N_furthest "furthest" (defScope (top 25)) (He.ga K "furthest") cdv A outer s H E) E := L2N.passes_call tk (fun _ _ _ _ h => h)
  have px0 : Passes (L2N.CX P w) (cxOf (L2N.CX P w) P w K mg base N_furthest "furthest" (defScope (top 25)) (He.ga K "furthest") cdv A outer s H E) (fun _ _ _ => False) := L2N.passes_call tk (fun _ _ _ _ h => h.elim)
  have po : PassesOwn (model P w) (cxOf (L2N.CX P w) P w K mg base N_furthest "furthest" (defScope (top 25)) (He.ga K "furthest") cdv A outer s H E).A (cxOf (L2N.CX P w) P w K mg base N_furthest "furthest" (defScope (top 25)) (He.ga K "furthest") cdv A outer s H E).env (cxOf (L2N.CX P w) P w K mg base N_furthest "furthest" (defScope (top 25)) (He.ga K "furthest") cdv A outer s H E).xe := L2.passes_of rfl
  exact ss_cons (sset 2 nd (se_callTy (c_dict rfl) (ok_dict (K := K)) rfl c.n_dict boot_dict (sa_cons (sv 0) (sa_nil)))) (ss_cons (sset 3 nd (se_dnew)) (ss_cons (sset 4 nd (se_non)) (ss_cons (s_for po rfl (si_range rfl c.n_range (sa_cons (se_op o_add ok_add (se_callB c_len (ok_len (K := K)) rfl c.n_len boot_len (sa_cons (sv 0) (sa_nil))) (se_int)) (sa_nil))) (sg 5 nd) (ss_cons (sset 4 nd (se_non)) (ss_cons (s_for po rfl (si_enum rfl c.n_enumerate (sa_cons (sv 1) (sa_nil))) (sg_tup (js := [6, 7]) rfl (pgs_cons (gn 6 nd) (pgs_cons (gn 7 nd) pgs_nil))) (ss_cons (s_asg (sv 7) (sg_tup (js := [8, 9, 10]) rfl (pgs_cons (gn 8 nd) (pgs_cons (gn 9 nd) (pgs_cons (gn 10 nd) pgs_nil))))) (ss_one (s_if (pwpt (sw_and (st_cmp op_notN ok_notN (se_dget (hu_of hr) (sv 2) (sv 8)) (se_non) (nomark _)) (pw1a (pwpt (sw_or (st_cmp op_isN ok_isN (se_dget (hu_of hr) (sv 2) (sv 9)) (se_non) (nomark _)) (pw1o (st_cmp op_gt ok_gt (se_op o_add ok_add (se_dget (hu_of hr) (sv 2) (sv 8)) (sv 10)) (se_dget (hu_of hr) (sv 2) (sv 9)) (nomark _)))))))) (ss_cons (s_dput (hu_of hr) (sv 2) (sv 9) (se_op o_add ok_add (se_dget (hu_of hr) (sv 2) (sv 8)) (sv 10))) (ss_cons (s_dput (hu_of hr) (sv 3) (sv 9) (sv 6)) (ss_one (sset 4 nd (sv 9))))) (ss_nil))))) (ss_one (s_if (st_cmp op_isN ok_isN (sv 4) (se_non) (nomark _)) (ss_one (s_ret (se_tup (sa_cons (sv 2) (sa_cons (sv 3) (sa_nil)))))) (ss_nil)))))) (ss_one (s_ret (se_tup (sa_cons (se_call (F_went_back.ok.mono (by decide)) hr rfl c.g_went_back F_went_back.kp F_went_back.b .nil d1 px (sa_cons (sv 3) (sa_cons (sv 1) (sa_cons (sv 4) (sa_nil))))) (sa_cons (se_non) (sa_nil)))))))))
def N_rests_of : List Str := ["wishes", "flow", "ways", "marks", "at", "wish", "one", "other", "least", "weight"]
def ev_rests_of : EVS := svSeq (svAsg (evN fLst (eaN)) (etgN 2)) (svSeq (svAsg (evN fLst (eaN)) (etgN 3)) (svSeq (svFor (eiE (eaC (evVar 0) (eaN))) (etgT [4, 5]) (svSeq (svAsg (evVar 5) (etgT [6, 7, 8, 9])) (svSeq (svExpr (evBM fApp (evVar 2) (eaC (evN fTup (eaC (evVar 6) (eaC (evVar 7) (eaC (evVar 8) (eaN))))) (eaN)))) (svSeq (svExpr (evBM fApp (evVar 3) (eaC (evN fTup (eaC (evVar 4) (eaC (evC (.bl false)) (eaN)))) (eaN)))) (svIf (evB gtV (evB atV (evVar 1) (evVar 4)) (evC (.int 0 0))) (svSeq (svExpr (evBM fApp (evVar 2) (eaC (evN fTup (eaC (evVar 7) (eaC (evVar 6) (eaC (evB subV (evC (.int 0 0)) (evVar 8)) (eaN))))) (eaN)))) (svExpr (evBM fApp (evVar 3) (eaC (evN fTup (eaC (evVar 4) (eaC (evC (.bl true)) (eaN)))) (eaN))))) (svNil)))))) (svRet (evN fTup (eaC (evVar 2) (eaC (evVar 3) (eaN)))))))
def f_rests_of : List AV → List AO → Rs AV := mkF 2 10 ev_rests_of
theorem sc_rests_of : FnScope N_rests_of ["wishes", "flow"] (defScope (top 26)) := ⟨rfl, rfl, rfl, by decide +kernel, rfl, by decide +kernel, by decide +kernel⟩
theorem ok_rests_of (c : Fx K mg w) : ∃ fd, Df P w K mg base (L2N.CX P w) 1 (He.ga K "rests_of") fd ["wishes", "flow"] (spF (gp K q hq) f_rests_of) := by
  obtain ⟨fd, Fd⟩ := c.d_rests_of
  refine ⟨fd, Fd.ok sc_rests_of (fun vs H Q E h => spF_len h) (fun cdv A outer s H vs Q E hr h => ⟨tS (gp K q hq) E ev_rests_of, ?_, spF_body h⟩), Fd.bindsN fun _ _ _ _ _ _ us hl => (match us, hl with | [_, _], _ => rfl), Fd.kp⟩
  have nd : N_rests_of.Nodup := sc_rests_of.nd
  have tk : L2N.Takes (cxOf (L2N.CX P w) P w K mg base N_rests_of "rests_of" (defScope (top 26)) (He.ga K "rests_of") cdv A outer s H E) (fun cls d _ H => E cls d H) := L2N.takes_of rfl rfl rfl rfl
  have px : Passes (L2N.CX P w) (cxOf (L2N.CX P w) P w K mg base N_rests_of "rests_of" (defScope (top 26)) (He.ga K "rests_of") cdv A outer s H E) E := L2N.passes_call tk (fun _ _ _ _ h => h)
  have px0 : Passes (L2N.CX P w) (cxOf (L2N.CX P w) P w K mg base N_rests_of "rests_of" (defScope (top 26)) (He.ga K "rests_of") cdv A outer s H E) (fun _ _ _ => False) := L2N.passes_call tk (fun _ _ _ _ h => h.elim)
  have po : PassesOwn (model P w) (cxOf (L2N.CX P w) P w K mg base N_rests_of "rests_of" (defScope (top 26)) (He.ga K "rests_of") cdv A outer s H E).A (cxOf (L2N.CX P w) P w K mg base N_rests_of "rests_of" (defScope (top 26)) (He.ga K "rests_of") cdv A outer s H E).env (cxOf (L2N.CX P w) P w K mg base N_rests_of "rests_of" (defScope (top 26)) (He.ga K "rests_of") cdv A outer s H E).xe := L2.passes_of rfl
  exact ss_cons (sset 2 nd (se_lst (sa_nil))) (ss_cons (sset 3 nd (se_lst (sa_nil))) (ss_cons (s_for po rfl (si_enum rfl c.n_enumerate (sa_cons (sv 0) (sa_nil))) (sg_tup (js := [4, 5]) rfl (pgs_cons (gn 4 nd) (pgs_cons (gn 5 nd) pgs_nil))) (ss_cons (s_asg (sv 5) (sg_tup (js := [6, 7, 8, 9]) rfl (pgs_cons (gn 6 nd) (pgs_cons (gn 7 nd) (pgs_cons (gn 8 nd) (pgs_cons (gn 9 nd) pgs_nil)))))) (ss_cons (s_expr (se_app (sv 2) (sa_cons (se_tup (sa_cons (sv 6) (sa_cons (sv 7) (sa_cons (sv 8) (sa_nil))))) (sa_nil)))) (ss_cons (s_expr (se_app (sv 3) (sa_cons (se_tup (sa_cons (sv 4) (sa_cons (se_bl) (sa_nil)))) (sa_nil)))) (ss_one (s_if (st_cmp op_gt ok_gt (se_at (sv 1) (sv 4)) (se_int) (nomark _)) (ss_cons (s_expr (se_app (sv 2) (sa_cons (se_tup (sa_cons (sv 7) (sa_cons (sv 6) (sa_cons (se_op op_sub ok_sub (se_int) (sv 8)) (sa_nil))))) (sa_nil)))) (ss_one (s_expr (se_app (sv 3) (sa_cons (se_tup (sa_cons (sv 4) (sa_cons (se_bl) (sa_nil)))) (sa_nil)))))) (ss_nil))))))) (ss_one (s_ret (se_tup (sa_cons (sv 2) (sa_cons (sv 3) (sa_nil))))))))
def N_needs_of : List Str := ["count", "wishes", "needs", "one", "other", "least", "weight"]
def ev_needs_of : EVS := svSeq (svAsg (evB repV (evN fLst (eaC (evC (.int 0 0)) (eaN))) (evVar 0)) (etgN 2)) (svSeq (svFor (eiL (evVar 1)) (etgT [3, 4, 5, 6]) (svNo)) (svRet (evVar 2)))
def f_needs_of : List AV → List AO → Rs AV := mkF 2 7 ev_needs_of
theorem sc_needs_of : FnScope N_needs_of ["count", "wishes"] (defScope (top 27)) := ⟨rfl, rfl, rfl, by decide +kernel, rfl, by decide +kernel, by decide +kernel⟩
theorem ok_needs_of (c : Fx K mg w) : ∃ fd, Df P w K mg base (L2N.CX P w) 1 (He.ga K "needs_of") fd ["count", "wishes"] (spF (gp K q hq) f_needs_of) := by
  obtain ⟨fd, Fd⟩ := c.d_needs_of
  refine ⟨fd, Fd.ok sc_needs_of (fun vs H Q E h => spF_len h) (fun cdv A outer s H vs Q E hr h => ⟨tS (gp K q hq) E ev_needs_of, ?_, spF_body h⟩), Fd.bindsN fun _ _ _ _ _ _ us hl => (match us, hl with | [_, _], _ => rfl), Fd.kp⟩
  have nd : N_needs_of.Nodup := sc_needs_of.nd
  have tk : L2N.Takes (cxOf (L2N.CX P w) P w K mg base N_needs_of "needs_of" (defScope (top 27)) (He.ga K "needs_of") cdv A outer s H E) (fun cls d _ H => E cls d H) := L2N.takes_of rfl rfl rfl rfl
  have px : Passes (L2N.CX P w) (cxOf (L2N.CX P w) P w K mg base N_needs_of "needs_of" (defScope (top 27)) (He.ga K "needs_of") cdv A outer s H E) E := L2N.passes_call tk (fun _ _ _ _ h => h)
  have px0 : Passes (L2N.CX P w) (cxOf (L2N.CX P w) P w K mg base N_needs_of "needs_of" (defScope (top 27)) (He.ga K "needs_of") cdv A outer s H E) (fun _ _ _ => False) := L2N.passes_call tk (fun _ _ _ _ h => h.elim)
  have po : PassesOwn (model P w) (cxOf (L2N.CX P w) P w K mg base N_needs_of "needs_of" (defScope (top 27)) (He.ga K "needs_of") cdv A outer s H E).A (cxOf (L2N.CX P w) P w K mg base N_needs_of "needs_of" (defScope (top 27)) (He.ga K "needs_of") cdv A outer s H E).env (cxOf (L2N.CX P w) P w K mg base N_needs_of "needs_of" (defScope (top 27)) (He.ga K "needs_of") cdv A outer s H E).xe := L2.passes_of rfl
  exact ss_cons (sset 2 nd (se_op op_rep ok_rep (se_lst (sa_cons (se_int) (sa_nil))) (sv 0))) (ss_cons (s_for po rfl (si_list (sv 1)) (sg_tup (js := [3, 4, 5, 6]) rfl (pgs_cons (gn 3 nd) (pgs_cons (gn 4 nd) (pgs_cons (gn 5 nd) (pgs_cons (gn 6 nd) pgs_nil))))) (ss_never)) (ss_one (s_ret (sv 2))))
def N_best_goal : List Str := ["sums", "needs", "best", "point", "need"]
def ev_best_goal : EVS := svSeq (svAsg (evC .non) (etgN 2)) (svSeq (svFor (eiE (eaC (evVar 1) (eaN))) (etgT [3, 4]) (svIf (evAnd (evB gtV (evVar 4) (evC (.int 0 0))) (evAnd (evB notNV (evB dGetV (evVar 0) (evVar 3)) (evC .non)) (evOr (evB isNV (evVar 2) (evC .non)) (evB gtV (evB dGetV (evVar 0) (evVar 3)) (evB dGetV (evVar 0) (evVar 2)))))) (svAsg (evVar 3) (etgN 2)) (svNil))) (svRet (evVar 2)))
def f_best_goal : List AV → List AO → Rs AV := mkF 2 5 ev_best_goal
theorem sc_best_goal : FnScope N_best_goal ["sums", "needs"] (defScope (top 28)) := ⟨rfl, rfl, rfl, by decide +kernel, rfl, by decide +kernel, by decide +kernel⟩
theorem ok_best_goal (c : Fx K mg w) : ∃ fd, Df P w K mg base (L2N.CX P w) 1 (He.ga K "best_goal") fd ["sums", "needs"] (spF (gp K q hq) f_best_goal) := by
  obtain ⟨fd, Fd⟩ := c.d_best_goal
  refine ⟨fd, Fd.ok sc_best_goal (fun vs H Q E h => spF_len h) (fun cdv A outer s H vs Q E hr h => ⟨tS (gp K q hq) E ev_best_goal, ?_, spF_body h⟩), Fd.bindsN fun _ _ _ _ _ _ us hl => (match us, hl with | [_, _], _ => rfl), Fd.kp⟩
  have nd : N_best_goal.Nodup := sc_best_goal.nd
  have tk : L2N.Takes (cxOf (L2N.CX P w) P w K mg base N_best_goal "best_goal" (defScope (top 28)) (He.ga K "best_goal") cdv A outer s H E) (fun cls d _ H => E cls d H) := L2N.takes_of rfl rfl rfl rfl
  have px : Passes (L2N.CX P w) (cxOf (L2N.CX P w) P w K mg base N_best_goal "best_goal" (defScope (top 28)) (He.ga K "best_goal") cdv A outer s H E) E := L2N.passes_call tk (fun _ _ _ _ h => h)
  have px0 : Passes (L2N.CX P w) (cxOf (L2N.CX P w) P w K mg base N_best_goal "best_goal" (defScope (top 28)) (He.ga K "best_goal") cdv A outer s H E) (fun _ _ _ => False) := L2N.passes_call tk (fun _ _ _ _ h => h.elim)
  have po : PassesOwn (model P w) (cxOf (L2N.CX P w) P w K mg base N_best_goal "best_goal" (defScope (top 28)) (He.ga K "best_goal") cdv A outer s H E).A (cxOf (L2N.CX P w) P w K mg base N_best_goal "best_goal" (defScope (top 28)) (He.ga K "best_goal") cdv A outer s H E).env (cxOf (L2N.CX P w) P w K mg base N_best_goal "best_goal" (defScope (top 28)) (He.ga K "best_goal") cdv A outer s H E).xe := L2.passes_of rfl
  exact ss_cons (sset 2 nd (se_non)) (ss_cons (s_for po rfl (si_enum rfl c.n_enumerate (sa_cons (sv 1) (sa_nil))) (sg_tup (js := [3, 4]) rfl (pgs_cons (gn 3 nd) (pgs_cons (gn 4 nd) pgs_nil))) (ss_one (s_if (pwpt (sw_and (st_cmp op_gt ok_gt (sv 4) (se_int) (nomark _)) (sw_and (st_cmp op_notN ok_notN (se_dget (hu_of hr) (sv 0) (sv 3)) (se_non) (nomark _)) (pw1a (pwpt (sw_or (st_cmp op_isN ok_isN (sv 2) (se_non) (nomark _)) (pw1o (st_cmp op_gt ok_gt (se_dget (hu_of hr) (sv 0) (sv 3)) (se_dget (hu_of hr) (sv 0) (sv 2)) (nomark _))))))))) (ss_one (sset 2 nd (sv 3))) (ss_nil)))) (ss_one (s_ret (sv 2))))
def N_sent : List Str := ["wishes", "flow", "needs", "ways", "marks", "starts", "point", "need", "sums", "lasts", "goal", "steps", "here", "many", "step", "at", "less"]
def ev_sent : EVS := svSeq (svAsg (evCall f_rests_of [] (eaC (evVar 0) (eaC (evVar 1) (eaN)))) (etgT [3, 4])) (svSeq (svAsg ((fun _ A => newO (.dic []) A)) (etgN 5)) (svSeq (svFor (eiE (eaC (evVar 2) (eaN))) (etgT [6, 7]) (svSeq (svDput (evVar 5) (evVar 6) (evC .non)) (svIf (evB ltV (evVar 7) (evC (.int 0 0))) (svDput (evVar 5) (evVar 6) (evC (.int 0 0))) (svNil)))) (svSeq (svAsg (evCall f_furthest [] (eaC (evVar 5) (eaC (evVar 3) (eaN)))) (etgT [8, 9])) (svSeq (svAsg (evCall f_best_goal [] (eaC (evVar 8) (eaC (evVar 2) (eaN)))) (etgN 10)) (svSeq (svIf (evB isNV (evVar 10) (evC .non)) (svRet (evC (.bl false))) (svNil)) (svSeq (svAsg (evN fLst (eaN)) (etgN 11)) (svSeq (svAsg (evVar 10) (etgN 12)) (svSeq (svWhile (evB dInV (evVar 12) (evVar 9)) (svSeq (svExpr (evBM fApp (evVar 11) (eaC (evB dGetV (evVar 9) (evVar 12)) (eaN)))) (svAsg (evB atV (evB atV (evVar 3) (evB dGetV (evVar 9) (evVar 12))) (evC (.int 0 0))) (etgN 12)))) (svSeq (svAsg (evN fMin2 (eaC (evB atV (evVar 2) (evVar 10)) (eaC (evB subV (evC (.int 0 0)) (evB atV (evVar 2) (evVar 12))) (eaN)))) (etgN 13)) (svSeq (svFor (eiL (evVar 11)) (etgN 14) (svSeq (svAsg (evB atV (evVar 4) (evVar 14)) (etgT [15, 16])) (svIf (evVar 16) (svAsg (evN fMin2 (eaC (evVar 13) (eaC (evB atV (evVar 1) (evVar 15)) (eaN)))) (etgN 13)) (svNil)))) (svSeq (svFor (eiL (evVar 11)) (etgN 14) (svSeq (svAsg (evB atV (evVar 4) (evVar 14)) (etgT [15, 16])) (svNo))) (svNo))))))))))))
def f_sent : List AV → List AO → Rs AV := mkF 3 17 ev_sent
theorem sc_sent : FnScope N_sent ["wishes", "flow", "needs"] (defScope (top 29)) := ⟨rfl, rfl, rfl, by decide +kernel, rfl, by decide +kernel, by decide +kernel⟩
theorem ok_sent (c : Fx K mg w) : ∃ fd, Df P w K mg base (L2N.CX P w) 3 (He.ga K "sent") fd ["wishes", "flow", "needs"] (spF (gp K q hq) f_sent) := by
  obtain ⟨fd_rests_of, F_rests_of⟩ := ok_rests_of (P := P) (w := w) (base := base) c
  obtain ⟨fd_furthest, F_furthest⟩ := ok_furthest (P := P) (w := w) (base := base) c
  obtain ⟨fd_best_goal, F_best_goal⟩ := ok_best_goal (P := P) (w := w) (base := base) c
  obtain ⟨fd, Fd⟩ := c.d_sent
  refine ⟨fd, Fd.ok sc_sent (fun vs H Q E h => spF_len h) (fun cdv A outer s H vs Q E hr h => ⟨tS (gp K q hq) E ev_sent, ?_, spF_body h⟩), Fd.bindsN fun _ _ _ _ _ _ us hl => (match us, hl with | [_, _, _], _ => rfl), Fd.kp⟩
  have nd : N_sent.Nodup := sc_sent.nd
  have tk : L2N.Takes (cxOf (L2N.CX P w) P w K mg base N_sent "sent" (defScope (top 29)) (He.ga K "sent") cdv A outer s H E) (fun cls d _ H => E cls d H) := L2N.takes_of rfl rfl rfl rfl
  have px : Passes (L2N.CX P w) (cxOf (L2N.CX P w) P w K mg base N_sent "sent" (defScope (top 29)) (He.ga K "sent") cdv A outer s H E) E := L2N.passes_call tk (fun _ _ _ _ h => h)
  have px0 : Passes (L2N.CX P w) (cxOf (L2N.CX P w) P w K mg base N_sent "sent" (defScope (top 29)) (He.ga K "sent") cdv A outer s H E) (fun _ _ _ => False) := L2N.passes_call tk (fun _ _ _ _ h => h.elim)
  have po : PassesOwn (model P w) (cxOf (L2N.CX P w) P w K mg base N_sent "sent" (defScope (top 29)) (He.ga K "sent") cdv A outer s H E).A (cxOf (L2N.CX P w) P w K mg base N_sent "sent" (defScope (top 29)) (He.ga K "sent") cdv A outer s H E).env (cxOf (L2N.CX P w) P w K mg base N_sent "sent" (defScope (top 29)) (He.ga K "sent") cdv A outer s H E).xe := L2.passes_of rfl
  exact ss_cons (s_asg (se_call (F_rests_of.ok.mono (by decide)) hr rfl c.g_rests_of F_rests_of.kp F_rests_of.b .nil d1 px (sa_cons (sv 0) (sa_cons (sv 1) (sa_nil)))) (sg_tup (js := [3, 4]) rfl (pgs_cons (gn 3 nd) (pgs_cons (gn 4 nd) pgs_nil)))) (ss_cons (sset 5 nd (se_dnew)) (ss_cons (s_for po rfl (si_enum rfl c.n_enumerate (sa_cons (sv 2) (sa_nil))) (sg_tup (js := [6, 7]) rfl (pgs_cons (gn 6 nd) (pgs_cons (gn 7 nd) pgs_nil))) (ss_cons (s_dput (hu_of hr) (sv 5) (sv 6) (se_non)) (ss_one (s_if (st_cmp op_lt ok_lt (sv 7) (se_int) (nomark _)) (ss_one (s_dput (hu_of hr) (sv 5) (sv 6) (se_int))) (ss_nil))))) (ss_cons (s_asg (se_call (F_furthest.ok.mono (by decide)) hr rfl c.g_furthest F_furthest.kp F_furthest.b .nil d1 px (sa_cons (sv 5) (sa_cons (sv 3) (sa_nil)))) (sg_tup (js := [8, 9]) rfl (pgs_cons (gn 8 nd) (pgs_cons (gn 9 nd) pgs_nil)))) (ss_cons (sset 10 nd (se_call (F_best_goal.ok.mono (by decide)) hr rfl c.g_best_goal F_best_goal.kp F_best_goal.b .nil d1 px (sa_cons (sv 8) (sa_cons (sv 2) (sa_nil))))) (ss_cons (s_if (st_cmp op_isN ok_isN (sv 10) (se_non) (nomark _)) (ss_one (s_ret (se_bl))) (ss_nil)) (ss_cons (sset 11 nd (se_lst (sa_nil))) (ss_cons (sset 12 nd (sv 10)) (ss_cons (s_while po (st_din (hu_of hr) (sv 12) (sv 9)) (ss_cons (s_expr (se_app (sv 11) (sa_cons (se_dget (hu_of hr) (sv 9) (sv 12)) (sa_nil)))) (ss_one (sset 12 nd (se_at (se_at (sv 3) (se_dget (hu_of hr) (sv 9) (sv 12))) (se_int)))))) (ss_cons (sset 13 nd (se_callB (call_min2 rfl) ok_min2 rfl c.n_min boot_min (sa_cons (se_at (sv 2) (sv 10)) (sa_cons (se_op op_sub ok_sub (se_int) (se_at (sv 2) (sv 12))) (sa_nil))))) (ss_cons (s_for po rfl (si_list (sv 11)) (sg 14 nd) (ss_cons (s_asg (se_at (sv 4) (sv 14)) (sg_tup (js := [15, 16]) rfl (pgs_cons (gn 15 nd) (pgs_cons (gn 16 nd) pgs_nil)))) (ss_one (s_if (st_val (sv 16)) (ss_one (sset 13 nd (se_callB (call_min2 rfl) ok_min2 rfl c.n_min boot_min (sa_cons (sv 13) (sa_cons (se_at (sv 1) (sv 15)) (sa_nil)))))) (ss_nil))))) (ss_cons (s_for po rfl (si_list (sv 11)) (sg 14 nd) (ss_cons (s_asg (se_at (sv 4) (sv 14)) (sg_tup (js := [15, 16]) rfl (pgs_cons (gn 15 nd) (pgs_cons (gn 16 nd) pgs_nil)))) (ss_never))) (ss_never))))))))))))
def N_least_flow : List Str := ["count", "wishes", "flow", "needs"]
def ev_least_flow : EVS := svSeq (svAsg (evB repV (evN fLst (eaC (evC (.int 0 0)) (eaN))) (evN fLen (eaC (evVar 1) (eaN)))) (etgN 2)) (svSeq (svAsg (evCall f_needs_of [] (eaC (evVar 0) (eaC (evVar 1) (eaN)))) (etgN 3)) (svSeq (svWhile (evCall f_sent [] (eaC (evVar 1) (eaC (evVar 2) (eaC (evVar 3) (eaN))))) (svNo)) (svRet (evVar 2))))
def f_least_flow : List AV → List AO → Rs AV := mkF 2 4 ev_least_flow
theorem sc_least_flow : FnScope N_least_flow ["count", "wishes"] (defScope (top 30)) := ⟨rfl, rfl, rfl, by decide +kernel, rfl, by decide +kernel, by decide +kernel⟩
theorem ok_least_flow (c : Fx K mg w) : ∃ fd, Df P w K mg base (L2N.CX P w) 4 (He.ga K "least_flow") fd ["count", "wishes"] (spF (gp K q hq) f_least_flow) := by
  obtain ⟨fd_needs_of, F_needs_of⟩ := ok_needs_of (P := P) (w := w) (base := base) c
  obtain ⟨fd_sent, F_sent⟩ := ok_sent (P := P) (w := w) (base := base) c
  obtain ⟨fd, Fd⟩ := c.d_least_flow
  refine ⟨fd, Fd.ok sc_least_flow (fun vs H Q E h => spF_len h) (fun cdv A outer s H vs Q E hr h => ⟨tS (gp K q hq) E ev_least_flow, ?_, spF_body h⟩), Fd.bindsN fun _ _ _ _ _ _ us hl => (match us, hl with | [_, _], _ => rfl), Fd.kp⟩
  have nd : N_least_flow.Nodup := sc_least_flow.nd
  have tk : L2N.Takes (cxOf (L2N.CX P w) P w K mg base N_least_flow "least_flow" (defScope (top 30)) (He.ga K "least_flow") cdv A outer s H E) (fun cls d _ H => E cls d H) := L2N.takes_of rfl rfl rfl rfl
  have px : Passes (L2N.CX P w) (cxOf (L2N.CX P w) P w K mg base N_least_flow "least_flow" (defScope (top 30)) (He.ga K "least_flow") cdv A outer s H E) E := L2N.passes_call tk (fun _ _ _ _ h => h)
  have px0 : Passes (L2N.CX P w) (cxOf (L2N.CX P w) P w K mg base N_least_flow "least_flow" (defScope (top 30)) (He.ga K "least_flow") cdv A outer s H E) (fun _ _ _ => False) := L2N.passes_call tk (fun _ _ _ _ h => h.elim)
  have po : PassesOwn (model P w) (cxOf (L2N.CX P w) P w K mg base N_least_flow "least_flow" (defScope (top 30)) (He.ga K "least_flow") cdv A outer s H E).A (cxOf (L2N.CX P w) P w K mg base N_least_flow "least_flow" (defScope (top 30)) (He.ga K "least_flow") cdv A outer s H E).env (cxOf (L2N.CX P w) P w K mg base N_least_flow "least_flow" (defScope (top 30)) (He.ga K "least_flow") cdv A outer s H E).xe := L2.passes_of rfl
  exact ss_cons (sset 2 nd (se_op op_rep ok_rep (se_lst (sa_cons (se_int) (sa_nil))) (se_callB c_len (ok_len (K := K)) rfl c.n_len boot_len (sa_cons (sv 1) (sa_nil))))) (ss_cons (sset 3 nd (se_call (F_needs_of.ok.mono (by decide)) hr rfl c.g_needs_of F_needs_of.kp F_needs_of.b .nil d1 px (sa_cons (sv 0) (sa_cons (sv 1) (sa_nil))))) (ss_cons (s_while po (st_val (se_call (F_sent.ok.mono (by decide)) hr rfl c.g_sent F_sent.kp F_sent.b .nil d1 px (sa_cons (sv 1) (sa_cons (sv 2) (sa_cons (sv 3) (sa_nil)))))) (ss_never)) (ss_one (s_ret (sv 2)))))
def N_parts_of : List Str := ["count", "wishes", "found", "step", "one", "other", "least", "weight", "low"]
def ev_parts_of : EVS := svSeq (svAsg (evU fRange (evVar 0)) (etgN 2)) (svSeq (svFor (eiR (eaC (evVar 0) (eaN))) (etgN 3) (svFor (eiL (evVar 1)) (etgT [4, 5, 6, 7]) (svSeq (svAsg (evN fMin2 (eaC (evB atV (evVar 2) (evVar 4)) (eaC (evB atV (evVar 2) (evVar 5)) (eaN)))) (etgN 8)) (svNo)))) (svRet (evVar 2)))
def f_parts_of : List AV → List AO → Rs AV := mkF 2 9 ev_parts_of
theorem sc_parts_of : FnScope N_parts_of ["count", "wishes"] (defScope (top 31)) := ⟨rfl, rfl, rfl, by decide +kernel, rfl, by decide +kernel, by decide +kernel⟩
theorem ok_parts_of (c : Fx K mg w) : ∃ fd, Df P w K mg base (L2N.CX P w) 1 (He.ga K "parts_of") fd ["count", "wishes"] (spF (gp K q hq) f_parts_of) := by
  obtain ⟨fd, Fd⟩ := c.d_parts_of
  refine ⟨fd, Fd.ok sc_parts_of (fun vs H Q E h => spF_len h) (fun cdv A outer s H vs Q E hr h => ⟨tS (gp K q hq) E ev_parts_of, ?_, spF_body h⟩), Fd.bindsN fun _ _ _ _ _ _ us hl => (match us, hl with | [_, _], _ => rfl), Fd.kp⟩
  have nd : N_parts_of.Nodup := sc_parts_of.nd
  have tk : L2N.Takes (cxOf (L2N.CX P w) P w K mg base N_parts_of "parts_of" (defScope (top 31)) (He.ga K "parts_of") cdv A outer s H E) (fun cls d _ H => E cls d H) := L2N.takes_of rfl rfl rfl rfl
  have px : Passes (L2N.CX P w) (cxOf (L2N.CX P w) P w K mg base N_parts_of "parts_of" (defScope (top 31)) (He.ga K "parts_of") cdv A outer s H E) E := L2N.passes_call tk (fun _ _ _ _ h => h)
  have px0 : Passes (L2N.CX P w) (cxOf (L2N.CX P w) P w K mg base N_parts_of "parts_of" (defScope (top 31)) (He.ga K "parts_of") cdv A outer s H E) (fun _ _ _ => False) := L2N.passes_call tk (fun _ _ _ _ h => h.elim)
  have po : PassesOwn (model P w) (cxOf (L2N.CX P w) P w K mg base N_parts_of "parts_of" (defScope (top 31)) (He.ga K "parts_of") cdv A outer s H E).A (cxOf (L2N.CX P w) P w K mg base N_parts_of "parts_of" (defScope (top 31)) (He.ga K "parts_of") cdv A outer s H E).env (cxOf (L2N.CX P w) P w K mg base N_parts_of "parts_of" (defScope (top 31)) (He.ga K "parts_of") cdv A outer s H E).xe := L2.passes_of rfl
  exact ss_cons (sset 2 nd (se_listRg rfl rfl c.n_list rfl c.n_range (sv 0))) (ss_cons (s_for po rfl (si_range rfl c.n_range (sa_cons (sv 0) (sa_nil))) (sg 3 nd) (ss_one (s_for po rfl (si_list (sv 1)) (sg_tup (js := [4, 5, 6, 7]) rfl (pgs_cons (gn 4 nd) (pgs_cons (gn 5 nd) (pgs_cons (gn 6 nd) (pgs_cons (gn 7 nd) pgs_nil))))) (ss_cons (sset 8 nd (se_callB (call_min2 rfl) ok_min2 rfl c.n_min boot_min (sa_cons (se_at (sv 2) (sv 4)) (sa_cons (se_at (sv 2) (sv 5)) (sa_nil))))) (ss_never))))) (ss_one (s_ret (sv 2))))
def N_from_nought : List Str := ["count", "wishes", "places", "parts", "lows", "point", "place"]
def ev_from_nought : EVS := svSeq (svAsg (evCall f_parts_of [] (eaC (evVar 0) (eaC (evVar 1) (eaN)))) (etgN 3)) (svSeq (svAsg ((fun _ A => newO (.dic []) A)) (etgN 4)) (svSeq (svFor (eiE (eaC (evVar 2) (eaN))) (etgT [5, 6]) (svDput (evVar 4) (evB atV (evVar 3) (evVar 5)) (evN fMin2 (eaC (evVar 6) (eaC (evGet2 (evVar 4) (evB atV (evVar 3) (evVar 5)) (evVar 6)) (eaN)))))) (svRet (evLc2 (eiE (eaC (evVar 2) (eaN))) 5 6 (evB subV (evVar 6) (evB dGetV (evVar 4) (evB atV (evVar 3) (evVar 5))))))))
def f_from_nought : List AV → List AO → Rs AV := mkF 3 7 ev_from_nought
theorem sc_from_nought : FnScope N_from_nought ["count", "wishes", "places"] (defScope (top 32)) := ⟨rfl, rfl, rfl, by decide +kernel, rfl, by decide +kernel, by decide +kernel⟩
theorem ok_from_nought (c : Fx K mg w) : ∃ fd, Df P w K mg base (L2N.CX P w) 2 (He.ga K "from_nought") fd ["count", "wishes", "places"] (spF (gp K q hq) f_from_nought) := by
  obtain ⟨fd_parts_of, F_parts_of⟩ := ok_parts_of (P := P) (w := w) (base := base) c
  obtain ⟨fd, Fd⟩ := c.d_from_nought
  refine ⟨fd, Fd.ok sc_from_nought (fun vs H Q E h => spF_len h) (fun cdv A outer s H vs Q E hr h => ⟨tS (gp K q hq) E ev_from_nought, ?_, spF_body h⟩), Fd.bindsN fun _ _ _ _ _ _ us hl => (match us, hl with | [_, _, _], _ => rfl), Fd.kp⟩
  have nd : N_from_nought.Nodup := sc_from_nought.nd
  have tk : L2N.Takes (cxOf (L2N.CX P w) P w K mg base N_from_nought "from_nought" (defScope (top 32)) (He.ga K "from_nought") cdv A outer s H E) (fun cls d _ H => E cls d H) := L2N.takes_of rfl rfl rfl rfl
  have px : Passes (L2N.CX P w) (cxOf (L2N.CX P w) P w K mg base N_from_nought "from_nought" (defScope (top 32)) (He.ga K "from_nought") cdv A outer s H E) E := L2N.passes_call tk (fun _ _ _ _ h => h)
  have px0 : Passes (L2N.CX P w) (cxOf (L2N.CX P w) P w K mg base N_from_nought "from_nought" (defScope (top 32)) (He.ga K "from_nought") cdv A outer s H E) (fun _ _ _ => False) := L2N.passes_call tk (fun _ _ _ _ h => h.elim)
  have po : PassesOwn (model P w) (cxOf (L2N.CX P w) P w K mg base N_from_nought "from_nought" (defScope (top 32)) (He.ga K "from_nought") cdv A outer s H E).A (cxOf (L2N.CX P w) P w K mg base N_from_nought "from_nought" (defScope (top 32)) (He.ga K "from_nought") cdv A outer s H E).env (cxOf (L2N.CX P w) P w K mg base N_from_nought "from_nought" (defScope (top 32)) (He.ga K "from_nought") cdv A outer s H E).xe := L2.passes_of rfl
  exact ss_cons (sset 3 nd (se_call (F_parts_of.ok.mono (by decide)) hr rfl c.g_parts_of F_parts_of.kp F_parts_of.b .nil d1 px (sa_cons (sv 0) (sa_cons (sv 1) (sa_nil))))) (ss_cons (sset 4 nd (se_dnew)) (ss_cons (s_for po rfl (si_enum rfl c.n_enumerate (sa_cons (sv 2) (sa_nil))) (sg_tup (js := [5, 6]) rfl (pgs_cons (gn 5 nd) (pgs_cons (gn 6 nd) pgs_nil))) (ss_one (s_dput (hu_of hr) (sv 4) (se_at (sv 3) (sv 5)) (se_callB (call_min2 rfl) ok_min2 rfl c.n_min boot_min (sa_cons (sv 6) (sa_cons (se_get2 (hu_of hr) (sv 4) (se_at (sv 3) (sv 5)) (sv 6)) (sa_nil))))))) (ss_one (s_ret (se_lc2 (by decide) rfl nd (si_enum rfl c.n_enumerate (sa_cons (sv 2) (sa_nil))) (blkOk_by (N := N_from_nought) (sc := defScope (top 32)) (by decide +kernel)) (fun _ _ _ _ _ => pg_tup rfl (pgs_cons (gn 5 nd) (pgs_cons (gn 6 nd) pgs_nil))) (fun _ _ _ _ _ => se_op op_sub ok_sub (sv 6) (se_dget (hu_of hr) (sv 4) (se_at (sv 3) (sv 5)))))))))
def N_laid : List Str := ["count", "wishes", "starts", "found", "lasts", "flow", "sums", "point", "wish"]
def ev_laid : EVS := svSeq (svAsg (evN fDict (eaC (evLc1 (eiR (eaC (evVar 0) (eaN))) 7 (evN fTup (eaC (evVar 7) (eaC (evC (.int 0 0)) (eaN))))) (eaN))) (etgN 2)) (svSeq (svAsg (evCall f_furthest [] (eaC (evVar 2) (eaC (evLc1 (eiL (evVar 1)) 8 (evU (fSl none (some 3)) (evVar 8))) (eaN)))) (etgT [3, 4])) (svSeq (svIf (evB isNV (evVar 4) (evC .non)) (svRaise1 .ring .ring (evVar 3)) (svNil)) (svSeq (svAsg (evCall f_least_flow [] (eaC (evVar 0) (eaC (evVar 1) (eaN)))) (etgN 5)) (svSeq (svAsg (evCall f_furthest [] (eaC (evVar 2) (eaC (evB atV (evCall f_rests_of [] (eaC (evVar 1) (eaC (evVar 5) (eaN)))) (evC (.int 0 0))) (eaN)))) (etgT [6, 4])) (svRet (evN fTup (eaC (evCall f_from_nought [] (eaC (evVar 0) (eaC (evVar 1) (eaC (evLc1 (eiR (eaC (evVar 0) (eaN))) 7 (evB dGetV (evVar 6) (evVar 7))) (eaN))))) (eaC (evVar 5) (eaN)))))))))
def f_laid : List AV → List AO → Rs AV := mkF 2 9 ev_laid
theorem sc_laid : FnScope N_laid ["count", "wishes"] (defScope (top 33)) := ⟨rfl, rfl, rfl, by decide +kernel, rfl, by decide +kernel, by decide +kernel⟩
theorem ok_laid (c : Fx K mg w) : ∃ fd, Df P w K mg base (L2N.CX P w) 5 (He.ga K "laid") fd ["count", "wishes"] (spF (gp K q hq) f_laid) := by
  obtain ⟨fd_furthest, F_furthest⟩ := ok_furthest (P := P) (w := w) (base := base) c
  obtain ⟨fd_Ring, F_Ring⟩ := ok_XRing (P := P) (w := w) (base := base) c
  obtain ⟨fd_least_flow, F_least_flow⟩ := ok_least_flow (P := P) (w := w) (base := base) c
  obtain ⟨fd_rests_of, F_rests_of⟩ := ok_rests_of (P := P) (w := w) (base := base) c
  obtain ⟨fd_from_nought, F_from_nought⟩ := ok_from_nought (P := P) (w := w) (base := base) c
  obtain ⟨fd, Fd⟩ := c.d_laid
  refine ⟨fd, Fd.ok sc_laid (fun vs H Q E h => spF_len h) (fun cdv A outer s H vs Q E hr h => ⟨tS (gp K q hq) E ev_laid, ?_, spF_body h⟩), Fd.bindsN fun _ _ _ _ _ _ us hl => (match us, hl with | [_, _], _ => rfl), Fd.kp⟩
  have nd : N_laid.Nodup := sc_laid.nd
  have tk : L2N.Takes (cxOf (L2N.CX P w) P w K mg base N_laid "laid" (defScope (top 33)) (He.ga K "laid") cdv A outer s H E) (fun cls d _ H => E cls d H) := L2N.takes_of rfl rfl rfl rfl
  have px : Passes (L2N.CX P w) (cxOf (L2N.CX P w) P w K mg base N_laid "laid" (defScope (top 33)) (He.ga K "laid") cdv A outer s H E) E := L2N.passes_call tk (fun _ _ _ _ h => h)
  have px0 : Passes (L2N.CX P w) (cxOf (L2N.CX P w) P w K mg base N_laid "laid" (defScope (top 33)) (He.ga K "laid") cdv A outer s H E) (fun _ _ _ => False) := L2N.passes_call tk (fun _ _ _ _ h => h.elim)
  have po : PassesOwn (model P w) (cxOf (L2N.CX P w) P w K mg base N_laid "laid" (defScope (top 33)) (He.ga K "laid") cdv A outer s H E).A (cxOf (L2N.CX P w) P w K mg base N_laid "laid" (defScope (top 33)) (He.ga K "laid") cdv A outer s H E).env (cxOf (L2N.CX P w) P w K mg base N_laid "laid" (defScope (top 33)) (He.ga K "laid") cdv A outer s H E).xe := L2.passes_of rfl
  exact ss_cons (sset 2 nd (se_callTy (c_dict rfl) (ok_dict (K := K)) rfl c.n_dict boot_dict (sa_cons (se_lc1 rfl nd (si_range rfl c.n_range (sa_cons (sv 0) (sa_nil))) (blkOk_by (N := N_laid) (sc := defScope (top 33)) (by decide +kernel)) (fun _ _ _ _ _ => gn 7 nd) (fun _ _ _ _ _ => se_tup (sa_cons (sv 7) (sa_cons (se_int) (sa_nil))))) (sa_nil)))) (ss_cons (s_asg (se_call (F_furthest.ok.mono (by decide)) hr rfl c.g_furthest F_furthest.kp F_furthest.b .nil d1 px (sa_cons (sv 2) (sa_cons (se_lc1 rfl nd (si_list (sv 1)) (blkOk_by (N := N_laid) (sc := defScope (top 33)) (by decide +kernel)) (fun _ _ _ _ _ => gn 8 nd) (fun _ _ _ _ _ => se_slTo (sv 8))) (sa_nil)))) (sg_tup (js := [3, 4]) rfl (pgs_cons (gn 3 nd) (pgs_cons (gn 4 nd) pgs_nil)))) (ss_cons (s_if (st_cmp op_isN ok_isN (sv 4) (se_non) (nomark _)) (ss_one (s_raise1 (c := .ring) (f := .ring) rfl tk c.y_Ring (F_Ring.ok.mono (by decide)) hr F_Ring.b px0 rfl (sv 3))) (ss_nil)) (ss_cons (sset 5 nd (se_call (F_least_flow.ok.mono (by decide)) hr rfl c.g_least_flow F_least_flow.kp F_least_flow.b .nil d1 px (sa_cons (sv 0) (sa_cons (sv 1) (sa_nil))))) (ss_cons (s_asg (se_call (F_furthest.ok.mono (by decide)) hr rfl c.g_furthest F_furthest.kp F_furthest.b .nil d1 px (sa_cons (sv 2) (sa_cons (se_at (se_call (F_rests_of.ok.mono (by decide)) hr rfl c.g_rests_of F_rests_of.kp F_rests_of.b .nil d1 px (sa_cons (sv 1) (sa_cons (sv 5) (sa_nil)))) (se_int)) (sa_nil)))) (sg_tup (js := [6, 4]) rfl (pgs_cons (gn 6 nd) (pgs_cons (gn 4 nd) pgs_nil)))) (ss_one (s_ret (se_tup (sa_cons (se_call (F_from_nought.ok.mono (by decide)) hr rfl c.g_from_nought F_from_nought.kp F_from_nought.b .nil d1 px (sa_cons (sv 0) (sa_cons (sv 1) (sa_cons (se_lc1 rfl nd (si_range rfl c.n_range (sa_cons (sv 0) (sa_nil))) (blkOk_by (N := N_laid) (sc := defScope (top 33)) (by decide +kernel)) (fun _ _ _ _ _ => gn 7 nd) (fun _ _ _ _ _ => se_dget (hu_of hr) (sv 6) (sv 7))) (sa_nil))))) (sa_cons (sv 5) (sa_nil))))))))))
def N_Own_init : List Str := ["self", "name", "wide"]
def ev_Own_init : EVS := svSeq (svFld .name (evVar 0) (evVar 1)) (svFld .wide (evVar 0) (evVar 2))
def f_Own_init : List AV → List AO → Rs AV := mkF 3 3 ev_Own_init
theorem sc_Own_init : FnScope N_Own_init ["self", "name", "wide"] (defScope (inClass (top 36) 0)) := ⟨rfl, rfl, rfl, by decide +kernel, rfl, by decide +kernel, by decide +kernel⟩
theorem ok_Own_init (c : Fx K mg w) : ∃ fd, Df P w K mg base (L2N.CX P w) 1 (He.ma K (He.ga K "Own") "__init__") fd ["self", "name", "wide"] (spF (gp K q hq) f_Own_init) := by
  obtain ⟨fd, Fd⟩ := c.d_Own_init
  refine ⟨fd, Fd.ok sc_Own_init (fun vs H Q E h => spF_len h) (fun cdv A outer s H vs Q E hr h => ⟨tS (gp K q hq) E ev_Own_init, ?_, spF_body h⟩), Fd.bindsN fun _ _ _ _ _ _ us hl => (match us, hl with | [_, _, _], _ => rfl), Fd.kp⟩
  have nd : N_Own_init.Nodup := sc_Own_init.nd
  have tk : L2N.Takes (cxOf (L2N.CX P w) P w K mg base N_Own_init "Own.__init__" (defScope (inClass (top 36) 0)) (He.ma K (He.ga K "Own") "__init__") cdv A outer s H E) (fun cls d _ H => E cls d H) := L2N.takes_of rfl rfl rfl rfl
  have px : Passes (L2N.CX P w) (cxOf (L2N.CX P w) P w K mg base N_Own_init "Own.__init__" (defScope (inClass (top 36) 0)) (He.ma K (He.ga K "Own") "__init__") cdv A outer s H E) E := L2N.passes_call tk (fun _ _ _ _ h => h)
  have px0 : Passes (L2N.CX P w) (cxOf (L2N.CX P w) P w K mg base N_Own_init "Own.__init__" (defScope (inClass (top 36) 0)) (He.ma K (He.ga K "Own") "__init__") cdv A outer s H E) (fun _ _ _ => False) := L2N.passes_call tk (fun _ _ _ _ h => h.elim)
  have po : PassesOwn (model P w) (cxOf (L2N.CX P w) P w K mg base N_Own_init "Own.__init__" (defScope (inClass (top 36) 0)) (He.ma K (He.ga K "Own") "__init__") cdv A outer s H E).A (cxOf (L2N.CX P w) P w K mg base N_Own_init "Own.__init__" (defScope (inClass (top 36) 0)) (He.ma K (He.ga K "Own") "__init__") cdv A outer s H E).env (cxOf (L2N.CX P w) P w K mg base N_Own_init "Own.__init__" (defScope (inClass (top 36) 0)) (He.ma K (He.ga K "Own") "__init__") cdv A outer s H E).xe := L2.passes_of rfl
  exact ss_cons (s_fld (f := .name) (c.ks q hq) rfl (sv 0) (sv 1)) (ss_one (s_fld (f := .wide) (c.ks q hq) rfl (sv 0) (sv 2)))
def N_Own_label : List Str := ["self"]
def ev_Own_label : EVS := svRet (evU (fFld .name) (evVar 0))
def f_Own_label : List AV → List AO → Rs AV := mkF 1 1 ev_Own_label
theorem sc_Own_label : FnScope N_Own_label ["self"] (defScope (inClass (top 36) 1)) := ⟨rfl, rfl, rfl, by decide +kernel, rfl, by decide +kernel, by decide +kernel⟩
theorem ok_Own_label (c : Fx K mg w) : ∃ fd, Df P w K mg base (L2N.CX P w) 1 (He.ma K (He.ga K "Own") "label") fd ["self"] (spF (gp K q hq) f_Own_label) := by
  obtain ⟨fd, Fd⟩ := c.d_Own_label
  refine ⟨fd, Fd.ok sc_Own_label (fun vs H Q E h => spF_len h) (fun cdv A outer s H vs Q E hr h => ⟨tS (gp K q hq) E ev_Own_label, ?_, spF_body h⟩), Fd.bindsN fun _ _ _ _ _ _ us hl => (match us, hl with | [_], _ => rfl), Fd.kp⟩
  have nd : N_Own_label.Nodup := sc_Own_label.nd
  have tk : L2N.Takes (cxOf (L2N.CX P w) P w K mg base N_Own_label "Own.label" (defScope (inClass (top 36) 1)) (He.ma K (He.ga K "Own") "label") cdv A outer s H E) (fun cls d _ H => E cls d H) := L2N.takes_of rfl rfl rfl rfl
  have px : Passes (L2N.CX P w) (cxOf (L2N.CX P w) P w K mg base N_Own_label "Own.label" (defScope (inClass (top 36) 1)) (He.ma K (He.ga K "Own") "label") cdv A outer s H E) E := L2N.passes_call tk (fun _ _ _ _ h => h)
  have px0 : Passes (L2N.CX P w) (cxOf (L2N.CX P w) P w K mg base N_Own_label "Own.label" (defScope (inClass (top 36) 1)) (He.ma K (He.ga K "Own") "label") cdv A outer s H E) (fun _ _ _ => False) := L2N.passes_call tk (fun _ _ _ _ h => h.elim)
  have po : PassesOwn (model P w) (cxOf (L2N.CX P w) P w K mg base N_Own_label "Own.label" (defScope (inClass (top 36) 1)) (He.ma K (He.ga K "Own") "label") cdv A outer s H E).A (cxOf (L2N.CX P w) P w K mg base N_Own_label "Own.label" (defScope (inClass (top 36) 1)) (He.ma K (He.ga K "Own") "label") cdv A outer s H E).env (cxOf (L2N.CX P w) P w K mg base N_Own_label "Own.label" (defScope (inClass (top 36) 1)) (He.ma K (He.ga K "Own") "label") cdv A outer s H E).xe := L2.passes_of rfl
  exact ss_one (s_ret (se_fld (f := .name) (c.ks q hq) rfl (sv 0)))
def N_row_drawn : List Str := ["items", "places", "text", "item", "place"]
def ev_row_drawn : EVS := svSeq (svAsg (evC (.str [])) (etgN 2)) (svSeq (svFor (eiL (evVar 0)) (etgN 3) (svSeq (svAsg (evB dGetV (evVar 1) (evMeth .own f_Own_label [] (evVar 3) eaN)) (etgN 4)) (svSeq (svIf (evOr (evB ltV (evVar 4) (evC (.int 0 0))) (evB gtV (evVar 4) (evC (.int 200 0)))) (svRaise0 .tooLong) (svNil)) (svNo)))) (svRet (evVar 2)))
def f_row_drawn : List AV → List AO → Rs AV := mkF 2 5 ev_row_drawn
theorem sc_row_drawn : FnScope N_row_drawn ["items", "places"] (defScope (top 86)) := ⟨rfl, rfl, rfl, by decide +kernel, rfl, by decide +kernel, by decide +kernel⟩
theorem ok_row_drawn (c : Fx K mg w) : ∃ fd, Df P w K mg base (L2N.CX P w) 2 (He.ga K "row_drawn") fd ["items", "places"] (spF (gp K q hq) f_row_drawn) := by
  obtain ⟨fd_Own_label, F_Own_label⟩ := ok_Own_label (P := P) (w := w) (base := base) c
  obtain ⟨fd, Fd⟩ := c.d_row_drawn
  refine ⟨fd, Fd.ok sc_row_drawn (fun vs H Q E h => spF_len h) (fun cdv A outer s H vs Q E hr h => ⟨tS (gp K q hq) E ev_row_drawn, ?_, spF_body h⟩), Fd.bindsN fun _ _ _ _ _ _ us hl => (match us, hl with | [_, _], _ => rfl), Fd.kp⟩
  have nd : N_row_drawn.Nodup := sc_row_drawn.nd
  have tk : L2N.Takes (cxOf (L2N.CX P w) P w K mg base N_row_drawn "row_drawn" (defScope (top 86)) (He.ga K "row_drawn") cdv A outer s H E) (fun cls d _ H => E cls d H) := L2N.takes_of rfl rfl rfl rfl
  have px : Passes (L2N.CX P w) (cxOf (L2N.CX P w) P w K mg base N_row_drawn "row_drawn" (defScope (top 86)) (He.ga K "row_drawn") cdv A outer s H E) E := L2N.passes_call tk (fun _ _ _ _ h => h)
  have px0 : Passes (L2N.CX P w) (cxOf (L2N.CX P w) P w K mg base N_row_drawn "row_drawn" (defScope (top 86)) (He.ga K "row_drawn") cdv A outer s H E) (fun _ _ _ => False) := L2N.passes_call tk (fun _ _ _ _ h => h.elim)
  have po : PassesOwn (model P w) (cxOf (L2N.CX P w) P w K mg base N_row_drawn "row_drawn" (defScope (top 86)) (He.ga K "row_drawn") cdv A outer s H E).A (cxOf (L2N.CX P w) P w K mg base N_row_drawn "row_drawn" (defScope (top 86)) (He.ga K "row_drawn") cdv A outer s H E).env (cxOf (L2N.CX P w) P w K mg base N_row_drawn "row_drawn" (defScope (top 86)) (He.ga K "row_drawn") cdv A outer s H E).xe := L2.passes_of rfl
  exact ss_cons (sset 2 nd (se_str (by decide +kernel))) (ss_cons (s_for po rfl (si_list (sv 0)) (sg 3 nd) (ss_cons (sset 4 nd (se_dget (hu_of hr) (sv 1) (se_meth0 (c := .own) (c.ks q hq) (by intro z; cases z <;> decide) (sv 3) c.t_Own_label (F_Own_label.ok.mono (by decide)) hr F_Own_label.b .nil d1 px))) (ss_cons (s_if (pwpt (sw_or (st_cmp op_lt ok_lt (sv 4) (se_int) (nomark _)) (pw1o (st_cmp op_gt ok_gt (sv 4) (se_gint c.i_FARTHEST) (nomark _))))) (ss_one (s_raise0 (c := .tooLong) rfl tk c.x_TooLong rfl)) (ss_nil)) (ss_never)))) (ss_one (s_ret (sv 2))))
def N_road : List Str := ["arrows", "one", "other", "ways", "queue", "here", "number", "start", "goal", "span", "weight"]
def ev_road : EVS := svSeq (svIf (evB eqVV (evVar 1) (evVar 2)) (svRet (evN fLst (eaN))) (svNil)) (svSeq (svAsg (evDisp1 (evVar 1) (evN fLst (eaN))) (etgN 3)) (svSeq (svAsg (evN fLst (eaC (evVar 1) (eaN))) (etgN 4)) (svSeq (svWhile (evB neLV (evVar 4) (evN fLst (eaN))) (svSeq (svAsg (evBM fPop0 (evVar 4) (eaC (evC (.int 0 0)) (eaN))) (etgN 5)) (svFor (eiL (evVar 0)) (etgT [6, 7, 8, 9, 10]) (svIf (evAnd (evB eqVV (evVar 7) (evVar 5)) (evB dNotInV (evVar 8) (evVar 3))) (svSeq (svDput (evVar 3) (evVar 8) (evB addV (evB dGetV (evVar 3) (evVar 5)) (evN fLst (eaC (evVar 6) (eaN))))) (svExpr (evBM fApp (evVar 4) (eaC (evVar 8) (eaN))))) (svNil))))) (svRet (evGet1 (evVar 3) (evVar 2))))))
def f_road : List AV → List AO → Rs AV := mkF 3 11 ev_road
theorem sc_road : FnScope N_road ["arrows", "one", "other"] (defScope (top 39)) := ⟨rfl, rfl, rfl, by decide +kernel, rfl, by decide +kernel, by decide +kernel⟩
theorem ok_road (c : Fx K mg w) : ∃ fd, Df P w K mg base (L2N.CX P w) 1 (He.ga K "road") fd ["arrows", "one", "other"] (spF (gp K q hq) f_road) := by
  obtain ⟨fd, Fd⟩ := c.d_road
  refine ⟨fd, Fd.ok sc_road (fun vs H Q E h => spF_len h) (fun cdv A outer s H vs Q E hr h => ⟨tS (gp K q hq) E ev_road, ?_, spF_body h⟩), Fd.bindsN fun _ _ _ _ _ _ us hl => (match us, hl with | [_, _, _], _ => rfl), Fd.kp⟩
  have nd : N_road.Nodup := sc_road.nd
  have tk : L2N.Takes (cxOf (L2N.CX P w) P w K mg base N_road "road" (defScope (top 39)) (He.ga K "road") cdv A outer s H E) (fun cls d _ H => E cls d H) := L2N.takes_of rfl rfl rfl rfl
  have px : Passes (L2N.CX P w) (cxOf (L2N.CX P w) P w K mg base N_road "road" (defScope (top 39)) (He.ga K "road") cdv A outer s H E) E := L2N.passes_call tk (fun _ _ _ _ h => h)
  have px0 : Passes (L2N.CX P w) (cxOf (L2N.CX P w) P w K mg base N_road "road" (defScope (top 39)) (He.ga K "road") cdv A outer s H E) (fun _ _ _ => False) := L2N.passes_call tk (fun _ _ _ _ h => h.elim)
  have po : PassesOwn (model P w) (cxOf (L2N.CX P w) P w K mg base N_road "road" (defScope (top 39)) (He.ga K "road") cdv A outer s H E).A (cxOf (L2N.CX P w) P w K mg base N_road "road" (defScope (top 39)) (He.ga K "road") cdv A outer s H E).env (cxOf (L2N.CX P w) P w K mg base N_road "road" (defScope (top 39)) (He.ga K "road") cdv A outer s H E).xe := L2.passes_of rfl
  exact ss_cons (s_if (st_cmp op_eq ok_eq (sv 1) (sv 2) (nomark _)) (ss_one (s_ret (se_lst (sa_nil)))) (ss_nil)) (ss_cons (sset 3 nd (se_disp1 (sv 1) (se_lst (sa_nil)))) (ss_cons (sset 4 nd (se_lst (sa_cons (sv 1) (sa_nil)))) (ss_cons (s_while po (st_cmp (op_neD hr.units) (ok_neL (K := K)) (sv 4) (se_lst (sa_nil)) (nomark _)) (ss_cons (sset 5 nd (se_pop (sv 4) (sa_cons (se_int) (sa_nil)))) (ss_one (s_for po rfl (si_list (sv 0)) (sg_tup (js := [6, 7, 8, 9, 10]) rfl (pgs_cons (gn 6 nd) (pgs_cons (gn 7 nd) (pgs_cons (gn 8 nd) (pgs_cons (gn 9 nd) (pgs_cons (gn 10 nd) pgs_nil)))))) (ss_one (s_if (pwpt (sw_and (st_cmp op_eq ok_eq (sv 7) (sv 5) (nomark _)) (pw1a (st_dnotin (hu_of hr) (sv 8) (sv 3))))) (ss_cons (s_dput (hu_of hr) (sv 3) (sv 8) (se_op o_add ok_add (se_dget (hu_of hr) (sv 3) (sv 5)) (se_lst (sa_cons (sv 6) (sa_nil))))) (ss_one (s_expr (se_app (sv 4) (sa_cons (sv 8) (sa_nil)))))) (ss_nil))))))) (ss_one (s_ret (se_get1 (hu_of hr) (sv 3) (sv 2)))))))
def N_split_arrows : List Str := ["net", "kept", "about", "row"]
def ev_split_arrows : EVS := svSeq (svAsg (evN fLst (eaN)) (etgN 1)) (svSeq (svAsg (evN fLst (eaN)) (etgN 2)) (svSeq (svFor (eiL (evMeth .net f_Net_arrows [] (evVar 0) eaN)) (etgN 3) (svIf (evB isNV (evCall f_road [] (eaC (evVar 1) (eaC (evB atV (evVar 3) (evC (.int 2 0))) (eaC (evB atV (evVar 3) (evC (.int 1 0))) (eaN))))) (evC .non)) (svExpr (evBM fApp (evVar 1) (eaC (evVar 3) (eaN)))) (svExpr (evBM fApp (evVar 2) (eaC (evVar 3) (eaN)))))) (svRet (evN fTup (eaC (evVar 1) (eaC (evVar 2) (eaN)))))))
def f_split_arrows : List AV → List AO → Rs AV := mkF 1 4 ev_split_arrows
theorem sc_split_arrows : FnScope N_split_arrows ["net"] (defScope (top 40)) := ⟨rfl, rfl, rfl, by decide +kernel, rfl, by decide +kernel, by decide +kernel⟩
theorem ok_split_arrows (c : Fx K mg w) : ∃ fd, Df P w K mg base (L2N.CX P w) 2 (He.ga K "split_arrows") fd ["net"] (spF (gp K q hq) f_split_arrows) := by
  obtain ⟨fd_Net_arrows, F_Net_arrows⟩ := ok_Net_arrows (P := P) (w := w) (base := base) c
  obtain ⟨fd_road, F_road⟩ := ok_road (P := P) (w := w) (base := base) c
  obtain ⟨fd, Fd⟩ := c.d_split_arrows
  refine ⟨fd, Fd.ok sc_split_arrows (fun vs H Q E h => spF_len h) (fun cdv A outer s H vs Q E hr h => ⟨tS (gp K q hq) E ev_split_arrows, ?_, spF_body h⟩), Fd.bindsN fun _ _ _ _ _ _ us hl => (match us, hl with | [_], _ => rfl), Fd.kp⟩
  have nd : N_split_arrows.Nodup := sc_split_arrows.nd
  have tk : L2N.Takes (cxOf (L2N.CX P w) P w K mg base N_split_arrows "split_arrows" (defScope (top 40)) (He.ga K "split_arrows") cdv A outer s H E) (fun cls d _ H => E cls d H) := L2N.takes_of rfl rfl rfl rfl
  have px : Passes (L2N.CX P w) (cxOf (L2N.CX P w) P w K mg base N_split_arrows "split_arrows" (defScope (top 40)) (He.ga K "split_arrows") cdv A outer s H E) E := L2N.passes_call tk (fun _ _ _ _ h => h)
  have px0 : Passes (L2N.CX P w) (cxOf (L2N.CX P w) P w K mg base N_split_arrows "split_arrows" (defScope (top 40)) (He.ga K "split_arrows") cdv A outer s H E) (fun _ _ _ => False) := L2N.passes_call tk (fun _ _ _ _ h => h.elim)
  have po : PassesOwn (model P w) (cxOf (L2N.CX P w) P w K mg base N_split_arrows "split_arrows" (defScope (top 40)) (He.ga K "split_arrows") cdv A outer s H E).A (cxOf (L2N.CX P w) P w K mg base N_split_arrows "split_arrows" (defScope (top 40)) (He.ga K "split_arrows") cdv A outer s H E).env (cxOf (L2N.CX P w) P w K mg base N_split_arrows "split_arrows" (defScope (top 40)) (He.ga K "split_arrows") cdv A outer s H E).xe := L2.passes_of rfl
  exact ss_cons (sset 1 nd (se_lst (sa_nil))) (ss_cons (sset 2 nd (se_lst (sa_nil))) (ss_cons (s_for po rfl (si_list (se_meth0 (c := .net) (c.ks q hq) (by intro z; cases z <;> decide) (sv 0) c.t_Net_arrows (F_Net_arrows.ok.mono (by decide)) hr F_Net_arrows.b .nil d1 px)) (sg 3 nd) (ss_one (s_if (st_cmp op_isN ok_isN (se_call (F_road.ok.mono (by decide)) hr rfl c.g_road F_road.kp F_road.b .nil d1 px (sa_cons (sv 1) (sa_cons (se_at (sv 3) (se_int)) (sa_cons (se_at (sv 3) (se_int)) (sa_nil))))) (se_non) (nomark _)) (ss_one (s_expr (se_app (sv 1) (sa_cons (sv 3) (sa_nil))))) (ss_one (s_expr (se_app (sv 2) (sa_cons (sv 3) (sa_nil)))))))) (ss_one (s_ret (se_tup (sa_cons (sv 1) (sa_cons (sv 2) (sa_nil))))))))
def N_turned : List Str := ["net", "row"]
def ev_turned : EVS := svRet (evLc1 (eiL (evB atV (evCall f_split_arrows [] (eaC (evVar 0) (eaN))) (evC (.int 1 0)))) 1 (evB atV (evVar 1) (evC (.int 0 0))))
def f_turned : List AV → List AO → Rs AV := mkF 1 2 ev_turned
theorem sc_turned : FnScope N_turned ["net"] (defScope (top 41)) := ⟨rfl, rfl, rfl, by decide +kernel, rfl, by decide +kernel, by decide +kernel⟩
theorem ok_turned (c : Fx K mg w) : ∃ fd, Df P w K mg base (L2N.CX P w) 3 (He.ga K "turned") fd ["net"] (spF (gp K q hq) f_turned) := by
  obtain ⟨fd_split_arrows, F_split_arrows⟩ := ok_split_arrows (P := P) (w := w) (base := base) c
  obtain ⟨fd, Fd⟩ := c.d_turned
  refine ⟨fd, Fd.ok sc_turned (fun vs H Q E h => spF_len h) (fun cdv A outer s H vs Q E hr h => ⟨tS (gp K q hq) E ev_turned, ?_, spF_body h⟩), Fd.bindsN fun _ _ _ _ _ _ us hl => (match us, hl with | [_], _ => rfl), Fd.kp⟩
  have nd : N_turned.Nodup := sc_turned.nd
  have tk : L2N.Takes (cxOf (L2N.CX P w) P w K mg base N_turned "turned" (defScope (top 41)) (He.ga K "turned") cdv A outer s H E) (fun cls d _ H => E cls d H) := L2N.takes_of rfl rfl rfl rfl
  have px : Passes (L2N.CX P w) (cxOf (L2N.CX P w) P w K mg base N_turned "turned" (defScope (top 41)) (He.ga K "turned") cdv A outer s H E) E := L2N.passes_call tk (fun _ _ _ _ h => h)
  have px0 : Passes (L2N.CX P w) (cxOf (L2N.CX P w) P w K mg base N_turned "turned" (defScope (top 41)) (He.ga K "turned") cdv A outer s H E) (fun _ _ _ => False) := L2N.passes_call tk (fun _ _ _ _ h => h.elim)
  have po : PassesOwn (model P w) (cxOf (L2N.CX P w) P w K mg base N_turned "turned" (defScope (top 41)) (He.ga K "turned") cdv A outer s H E).A (cxOf (L2N.CX P w) P w K mg base N_turned "turned" (defScope (top 41)) (He.ga K "turned") cdv A outer s H E).env (cxOf (L2N.CX P w) P w K mg base N_turned "turned" (defScope (top 41)) (He.ga K "turned") cdv A outer s H E).xe := L2.passes_of rfl
  exact ss_one (s_ret (se_lc1 rfl nd (si_list (se_at (se_call (F_split_arrows.ok.mono (by decide)) hr rfl c.g_split_arrows F_split_arrows.kp F_split_arrows.b .nil d1 px (sa_cons (sv 0) (sa_nil))) (se_int))) (blkOk_by (N := N_turned) (sc := defScope (top 41)) (by decide +kernel)) (fun _ _ _ _ _ => gn 1 nd) (fun _ _ _ _ _ => se_at (sv 1) (se_int))))
def N_numbers_of : List Str := ["net", "found", "number", "name"]
def ev_numbers_of : EVS := svSeq (svAsg ((fun _ A => newO (.dic []) A)) (etgN 1)) (svSeq (svFor (eiE (eaC (evMeth .net f_Net_points [] (evVar 0) eaN) (eaN))) (etgT [2, 3]) (svDput (evVar 1) (evVar 3) (evVar 2))) (svRet (evVar 1)))
def f_numbers_of : List AV → List AO → Rs AV := mkF 1 4 ev_numbers_of
theorem sc_numbers_of : FnScope N_numbers_of ["net"] (defScope (top 51)) := ⟨rfl, rfl, rfl, by decide +kernel, rfl, by decide +kernel, by decide +kernel⟩
theorem ok_numbers_of (c : Fx K mg w) : ∃ fd, Df P w K mg base (L2N.CX P w) 2 (He.ga K "numbers_of") fd ["net"] (spF (gp K q hq) f_numbers_of) := by
  obtain ⟨fd_Net_points, F_Net_points⟩ := ok_Net_points (P := P) (w := w) (base := base) c
  obtain ⟨fd, Fd⟩ := c.d_numbers_of
  refine ⟨fd, Fd.ok sc_numbers_of (fun vs H Q E h => spF_len h) (fun cdv A outer s H vs Q E hr h => ⟨tS (gp K q hq) E ev_numbers_of, ?_, spF_body h⟩), Fd.bindsN fun _ _ _ _ _ _ us hl => (match us, hl with | [_], _ => rfl), Fd.kp⟩
  have nd : N_numbers_of.Nodup := sc_numbers_of.nd
  have tk : L2N.Takes (cxOf (L2N.CX P w) P w K mg base N_numbers_of "numbers_of" (defScope (top 51)) (He.ga K "numbers_of") cdv A outer s H E) (fun cls d _ H => E cls d H) := L2N.takes_of rfl rfl rfl rfl
  have px : Passes (L2N.CX P w) (cxOf (L2N.CX P w) P w K mg base N_numbers_of "numbers_of" (defScope (top 51)) (He.ga K "numbers_of") cdv A outer s H E) E := L2N.passes_call tk (fun _ _ _ _ h => h)
  have px0 : Passes (L2N.CX P w) (cxOf (L2N.CX P w) P w K mg base N_numbers_of "numbers_of" (defScope (top 51)) (He.ga K "numbers_of") cdv A outer s H E) (fun _ _ _ => False) := L2N.passes_call tk (fun _ _ _ _ h => h.elim)
  have po : PassesOwn (model P w) (cxOf (L2N.CX P w) P w K mg base N_numbers_of "numbers_of" (defScope (top 51)) (He.ga K "numbers_of") cdv A outer s H E).A (cxOf (L2N.CX P w) P w K mg base N_numbers_of "numbers_of" (defScope (top 51)) (He.ga K "numbers_of") cdv A outer s H E).env (cxOf (L2N.CX P w) P w K mg base N_numbers_of "numbers_of" (defScope (top 51)) (He.ga K "numbers_of") cdv A outer s H E).xe := L2.passes_of rfl
  exact ss_cons (sset 1 nd (se_dnew)) (ss_cons (s_for po rfl (si_enum rfl c.n_enumerate (sa_cons (se_meth0 (c := .net) (c.ks q hq) (by intro z; cases z <;> decide) (sv 0) c.t_Net_points (F_Net_points.ok.mono (by decide)) hr F_Net_points.b .nil d1 px) (sa_nil))) (sg_tup (js := [2, 3]) rfl (pgs_cons (gn 2 nd) (pgs_cons (gn 3 nd) pgs_nil))) (ss_one (s_dput (hu_of hr) (sv 1) (sv 3) (sv 2)))) (ss_one (s_ret (sv 1))))
def N_ways_down : List Str := ["net", "about", "found", "number", "one", "other", "span", "weight"]
def ev_ways_down : EVS := svSeq (svAsg (evCall f_turned [] (eaC (evVar 0) (eaN))) (etgN 1)) (svSeq (svAsg (evN fLst (eaN)) (etgN 2)) (svSeq (svFor (eiL (evMeth .net f_Net_arrows [] (evVar 0) eaN)) (etgT [3, 4, 5, 6, 7]) (svSeq (svIf (evB inV' (evVar 3) (evVar 1)) (svNo) (svNil)) (svExpr (evBM fApp (evVar 2) (eaC (evN fTup (eaC (evVar 3) (eaC (evVar 4) (eaC (evVar 5) (eaC (evVar 6) (eaC (evVar 7) (eaN))))))) (eaN)))))) (svRet (evVar 2))))
def f_ways_down : List AV → List AO → Rs AV := mkF 1 8 ev_ways_down
theorem sc_ways_down : FnScope N_ways_down ["net"] (defScope (top 52)) := ⟨rfl, rfl, rfl, by decide +kernel, rfl, by decide +kernel, by decide +kernel⟩
theorem ok_ways_down (c : Fx K mg w) : ∃ fd, Df P w K mg base (L2N.CX P w) 4 (He.ga K "ways_down") fd ["net"] (spF (gp K q hq) f_ways_down) := by
  obtain ⟨fd_turned, F_turned⟩ := ok_turned (P := P) (w := w) (base := base) c
  obtain ⟨fd_Net_arrows, F_Net_arrows⟩ := ok_Net_arrows (P := P) (w := w) (base := base) c
  obtain ⟨fd, Fd⟩ := c.d_ways_down
  refine ⟨fd, Fd.ok sc_ways_down (fun vs H Q E h => spF_len h) (fun cdv A outer s H vs Q E hr h => ⟨tS (gp K q hq) E ev_ways_down, ?_, spF_body h⟩), Fd.bindsN fun _ _ _ _ _ _ us hl => (match us, hl with | [_], _ => rfl), Fd.kp⟩
  have nd : N_ways_down.Nodup := sc_ways_down.nd
  have tk : L2N.Takes (cxOf (L2N.CX P w) P w K mg base N_ways_down "ways_down" (defScope (top 52)) (He.ga K "ways_down") cdv A outer s H E) (fun cls d _ H => E cls d H) := L2N.takes_of rfl rfl rfl rfl
  have px : Passes (L2N.CX P w) (cxOf (L2N.CX P w) P w K mg base N_ways_down "ways_down" (defScope (top 52)) (He.ga K "ways_down") cdv A outer s H E) E := L2N.passes_call tk (fun _ _ _ _ h => h)
  have px0 : Passes (L2N.CX P w) (cxOf (L2N.CX P w) P w K mg base N_ways_down "ways_down" (defScope (top 52)) (He.ga K "ways_down") cdv A outer s H E) (fun _ _ _ => False) := L2N.passes_call tk (fun _ _ _ _ h => h.elim)
  have po : PassesOwn (model P w) (cxOf (L2N.CX P w) P w K mg base N_ways_down "ways_down" (defScope (top 52)) (He.ga K "ways_down") cdv A outer s H E).A (cxOf (L2N.CX P w) P w K mg base N_ways_down "ways_down" (defScope (top 52)) (He.ga K "ways_down") cdv A outer s H E).env (cxOf (L2N.CX P w) P w K mg base N_ways_down "ways_down" (defScope (top 52)) (He.ga K "ways_down") cdv A outer s H E).xe := L2.passes_of rfl
  exact ss_cons (sset 1 nd (se_call (F_turned.ok.mono (by decide)) hr rfl c.g_turned F_turned.kp F_turned.b .nil d1 px (sa_cons (sv 0) (sa_nil)))) (ss_cons (sset 2 nd (se_lst (sa_nil))) (ss_cons (s_for po rfl (si_list (se_meth0 (c := .net) (c.ks q hq) (by intro z; cases z <;> decide) (sv 0) c.t_Net_arrows (F_Net_arrows.ok.mono (by decide)) hr F_Net_arrows.b .nil d1 px)) (sg_tup (js := [3, 4, 5, 6, 7]) rfl (pgs_cons (gn 3 nd) (pgs_cons (gn 4 nd) (pgs_cons (gn 5 nd) (pgs_cons (gn 6 nd) (pgs_cons (gn 7 nd) pgs_nil)))))) (ss_cons (s_if (st_cmp op_in_seq (ok_in (K := K)) (sv 3) (sv 1) (by with_unfolding_all rfl)) (ss_never) (ss_nil)) (ss_one (s_expr (se_app (sv 2) (sa_cons (se_tup (sa_cons (sv 3) (sa_cons (sv 4) (sa_cons (sv 5) (sa_cons (sv 6) (sa_cons (sv 7) (sa_nil))))))) (sa_nil))))))) (ss_one (s_ret (sv 2)))))
def N_wishes_of : List Str := ["net", "at", "found", "number", "upper", "lower", "span", "weight", "one", "other"]
def ev_wishes_of : EVS := svSeq (svAsg (evCall f_numbers_of [] (eaC (evVar 0) (eaN))) (etgN 1)) (svSeq (svAsg (evN fLst (eaN)) (etgN 2)) (svSeq (svFor (eiL (evCall f_ways_down [] (eaC (evVar 0) (eaN)))) (etgT [3, 4, 5, 6, 7]) (svExpr (evBM fApp (evVar 2) (eaC (evN fTup (eaC (evB dGetV (evVar 1) (evVar 4)) (eaC (evB dGetV (evVar 1) (evVar 5)) (eaC (evVar 6) (eaC (evVar 7) (eaN)))))) (eaN))))) (svSeq (svFor (eiL (evMeth .net f_Net_sames [] (evVar 0) eaN)) (etgT [8, 9]) (svSeq (svExpr (evBM fApp (evVar 2) (eaC (evN fTup (eaC (evB dGetV (evVar 1) (evVar 8)) (eaC (evB dGetV (evVar 1) (evVar 9)) (eaC (evC (.int 0 0)) (eaC (evC (.int 0 0)) (eaN)))))) (eaN)))) (svExpr (evBM fApp (evVar 2) (eaC (evN fTup (eaC (evB dGetV (evVar 1) (evVar 9)) (eaC (evB dGetV (evVar 1) (evVar 8)) (eaC (evC (.int 0 0)) (eaC (evC (.int 0 0)) (eaN)))))) (eaN)))))) (svSeq (svFor (eiL (evMeth .net f_Net_mosts [] (evVar 0) eaN)) (etgT [8, 9, 3]) (svExpr (evBM fApp (evVar 2) (eaC (evN fTup (eaC (evB dGetV (evVar 1) (evVar 9)) (eaC (evB dGetV (evVar 1) (evVar 8)) (eaC (evB subV (evC (.int 0 0)) (evVar 3)) (eaC (evC (.int 0 0)) (eaN)))))) (eaN))))) (svRet (evVar 2))))))
def f_wishes_of : List AV → List AO → Rs AV := mkF 1 10 ev_wishes_of
theorem sc_wishes_of : FnScope N_wishes_of ["net"] (defScope (top 53)) := ⟨rfl, rfl, rfl, by decide +kernel, rfl, by decide +kernel, by decide +kernel⟩
theorem ok_wishes_of (c : Fx K mg w) : ∃ fd, Df P w K mg base (L2N.CX P w) 5 (He.ga K "wishes_of") fd ["net"] (spF (gp K q hq) f_wishes_of) := by
  obtain ⟨fd_numbers_of, F_numbers_of⟩ := ok_numbers_of (P := P) (w := w) (base := base) c
  obtain ⟨fd_ways_down, F_ways_down⟩ := ok_ways_down (P := P) (w := w) (base := base) c
  obtain ⟨fd_Net_sames, F_Net_sames⟩ := ok_Net_sames (P := P) (w := w) (base := base) c
  obtain ⟨fd_Net_mosts, F_Net_mosts⟩ := ok_Net_mosts (P := P) (w := w) (base := base) c
  obtain ⟨fd, Fd⟩ := c.d_wishes_of
  refine ⟨fd, Fd.ok sc_wishes_of (fun vs H Q E h => spF_len h) (fun cdv A outer s H vs Q E hr h => ⟨tS (gp K q hq) E ev_wishes_of, ?_, spF_body h⟩), Fd.bindsN fun _ _ _ _ _ _ us hl => (match us, hl with | [_], _ => rfl), Fd.kp⟩
  have nd : N_wishes_of.Nodup := sc_wishes_of.nd
  have tk : L2N.Takes (cxOf (L2N.CX P w) P w K mg base N_wishes_of "wishes_of" (defScope (top 53)) (He.ga K "wishes_of") cdv A outer s H E) (fun cls d _ H => E cls d H) := L2N.takes_of rfl rfl rfl rfl
  have px : Passes (L2N.CX P w) (cxOf (L2N.CX P w) P w K mg base N_wishes_of "wishes_of" (defScope (top 53)) (He.ga K "wishes_of") cdv A outer s H E) E := L2N.passes_call tk (fun _ _ _ _ h => h)
  have px0 : Passes (L2N.CX P w) (cxOf (L2N.CX P w) P w K mg base N_wishes_of "wishes_of" (defScope (top 53)) (He.ga K "wishes_of") cdv A outer s H E) (fun _ _ _ => False) := L2N.passes_call tk (fun _ _ _ _ h => h.elim)
  have po : PassesOwn (model P w) (cxOf (L2N.CX P w) P w K mg base N_wishes_of "wishes_of" (defScope (top 53)) (He.ga K "wishes_of") cdv A outer s H E).A (cxOf (L2N.CX P w) P w K mg base N_wishes_of "wishes_of" (defScope (top 53)) (He.ga K "wishes_of") cdv A outer s H E).env (cxOf (L2N.CX P w) P w K mg base N_wishes_of "wishes_of" (defScope (top 53)) (He.ga K "wishes_of") cdv A outer s H E).xe := L2.passes_of rfl
  exact ss_cons (sset 1 nd (se_call (F_numbers_of.ok.mono (by decide)) hr rfl c.g_numbers_of F_numbers_of.kp F_numbers_of.b .nil d1 px (sa_cons (sv 0) (sa_nil)))) (ss_cons (sset 2 nd (se_lst (sa_nil))) (ss_cons (s_for po rfl (si_list (se_call (F_ways_down.ok.mono (by decide)) hr rfl c.g_ways_down F_ways_down.kp F_ways_down.b .nil d1 px (sa_cons (sv 0) (sa_nil)))) (sg_tup (js := [3, 4, 5, 6, 7]) rfl (pgs_cons (gn 3 nd) (pgs_cons (gn 4 nd) (pgs_cons (gn 5 nd) (pgs_cons (gn 6 nd) (pgs_cons (gn 7 nd) pgs_nil)))))) (ss_one (s_expr (se_app (sv 2) (sa_cons (se_tup (sa_cons (se_dget (hu_of hr) (sv 1) (sv 4)) (sa_cons (se_dget (hu_of hr) (sv 1) (sv 5)) (sa_cons (sv 6) (sa_cons (sv 7) (sa_nil)))))) (sa_nil)))))) (ss_cons (s_for po rfl (si_list (se_meth0 (c := .net) (c.ks q hq) (by intro z; cases z <;> decide) (sv 0) c.t_Net_sames (F_Net_sames.ok.mono (by decide)) hr F_Net_sames.b .nil d1 px)) (sg_tup (js := [8, 9]) rfl (pgs_cons (gn 8 nd) (pgs_cons (gn 9 nd) pgs_nil))) (ss_cons (s_expr (se_app (sv 2) (sa_cons (se_tup (sa_cons (se_dget (hu_of hr) (sv 1) (sv 8)) (sa_cons (se_dget (hu_of hr) (sv 1) (sv 9)) (sa_cons (se_int) (sa_cons (se_int) (sa_nil)))))) (sa_nil)))) (ss_one (s_expr (se_app (sv 2) (sa_cons (se_tup (sa_cons (se_dget (hu_of hr) (sv 1) (sv 9)) (sa_cons (se_dget (hu_of hr) (sv 1) (sv 8)) (sa_cons (se_int) (sa_cons (se_int) (sa_nil)))))) (sa_nil))))))) (ss_cons (s_for po rfl (si_list (se_meth0 (c := .net) (c.ks q hq) (by intro z; cases z <;> decide) (sv 0) c.t_Net_mosts (F_Net_mosts.ok.mono (by decide)) hr F_Net_mosts.b .nil d1 px)) (sg_tup (js := [8, 9, 3]) rfl (pgs_cons (gn 8 nd) (pgs_cons (gn 9 nd) (pgs_cons (gn 3 nd) pgs_nil)))) (ss_one (s_expr (se_app (sv 2) (sa_cons (se_tup (sa_cons (se_dget (hu_of hr) (sv 1) (sv 9)) (sa_cons (se_dget (hu_of hr) (sv 1) (sv 8)) (sa_cons (se_op op_sub ok_sub (se_int) (sv 3)) (sa_cons (se_int) (sa_nil)))))) (sa_nil)))))) (ss_one (s_ret (sv 2)))))))
def N_keeps_net : List Str := ["net", "levels", "names", "one", "other", "least", "weight"]
def ev_keeps_net : EVS := svSeq (svAsg (evMeth .net f_Net_points [] (evVar 0) eaN) (etgN 2)) (svSeq (svFor (eiL (evCall f_wishes_of [] (eaC (evVar 0) (eaN)))) (etgT [3, 4, 5, 6]) (svIf (evB ltV (evB subV (evB dGetV (evVar 1) (evB atV (evVar 2) (evVar 4))) (evB dGetV (evVar 1) (evB atV (evVar 2) (evVar 3)))) (evVar 5)) (svRet (evC (.bl false))) (svNil))) (svRet (evC (.bl true))))
def f_keeps_net : List AV → List AO → Rs AV := mkF 2 7 ev_keeps_net
theorem sc_keeps_net : FnScope N_keeps_net ["net", "levels"] (defScope (top 54)) := ⟨rfl, rfl, rfl, by decide +kernel, rfl, by decide +kernel, by decide +kernel⟩
theorem ok_keeps_net (c : Fx K mg w) : ∃ fd, Df P w K mg base (L2N.CX P w) 6 (He.ga K "keeps_net") fd ["net", "levels"] (spF (gp K q hq) f_keeps_net) := by
  obtain ⟨fd_Net_points, F_Net_points⟩ := ok_Net_points (P := P) (w := w) (base := base) c
  obtain ⟨fd_wishes_of, F_wishes_of⟩ := ok_wishes_of (P := P) (w := w) (base := base) c
  obtain ⟨fd, Fd⟩ := c.d_keeps_net
  refine ⟨fd, Fd.ok sc_keeps_net (fun vs H Q E h => spF_len h) (fun cdv A outer s H vs Q E hr h => ⟨tS (gp K q hq) E ev_keeps_net, ?_, spF_body h⟩), Fd.bindsN fun _ _ _ _ _ _ us hl => (match us, hl with | [_, _], _ => rfl), Fd.kp⟩
  have nd : N_keeps_net.Nodup := sc_keeps_net.nd
  have tk : L2N.Takes (cxOf (L2N.CX P w) P w K mg base N_keeps_net "keeps_net" (defScope (top 54)) (He.ga K "keeps_net") cdv A outer s H E) (fun cls d _ H => E cls d H) := L2N.takes_of rfl rfl rfl rfl
  have px : Passes (L2N.CX P w) (cxOf (L2N.CX P w) P w K mg base N_keeps_net "keeps_net" (defScope (top 54)) (He.ga K "keeps_net") cdv A outer s H E) E := L2N.passes_call tk (fun _ _ _ _ h => h)
  have px0 : Passes (L2N.CX P w) (cxOf (L2N.CX P w) P w K mg base N_keeps_net "keeps_net" (defScope (top 54)) (He.ga K "keeps_net") cdv A outer s H E) (fun _ _ _ => False) := L2N.passes_call tk (fun _ _ _ _ h => h.elim)
  have po : PassesOwn (model P w) (cxOf (L2N.CX P w) P w K mg base N_keeps_net "keeps_net" (defScope (top 54)) (He.ga K "keeps_net") cdv A outer s H E).A (cxOf (L2N.CX P w) P w K mg base N_keeps_net "keeps_net" (defScope (top 54)) (He.ga K "keeps_net") cdv A outer s H E).env (cxOf (L2N.CX P w) P w K mg base N_keeps_net "keeps_net" (defScope (top 54)) (He.ga K "keeps_net") cdv A outer s H E).xe := L2.passes_of rfl
  exact ss_cons (sset 2 nd (se_meth0 (c := .net) (c.ks q hq) (by intro z; cases z <;> decide) (sv 0) c.t_Net_points (F_Net_points.ok.mono (by decide)) hr F_Net_points.b .nil d1 px)) (ss_cons (s_for po rfl (si_list (se_call (F_wishes_of.ok.mono (by decide)) hr rfl c.g_wishes_of F_wishes_of.kp F_wishes_of.b .nil d1 px (sa_cons (sv 0) (sa_nil)))) (sg_tup (js := [3, 4, 5, 6]) rfl (pgs_cons (gn 3 nd) (pgs_cons (gn 4 nd) (pgs_cons (gn 5 nd) (pgs_cons (gn 6 nd) pgs_nil))))) (ss_one (s_if (st_cmp op_lt ok_lt (se_op op_sub ok_sub (se_dget (hu_of hr) (sv 1) (se_at (sv 2) (sv 4))) (se_dget (hu_of hr) (sv 1) (se_at (sv 2) (sv 3)))) (sv 5) (nomark _)) (ss_one (s_ret (se_bl))) (ss_nil)))) (ss_one (s_ret (se_bl))))
def N_length : List Str := ["net", "levels", "found", "number", "upper", "lower", "span", "weight"]
def ev_length : EVS := svSeq (svAsg (evC (.int 0 0)) (etgN 2)) (svSeq (svFor (eiL (evCall f_ways_down [] (eaC (evVar 0) (eaN)))) (etgT [3, 4, 5, 6, 7]) (svNo)) (svRet (evVar 2)))
def f_length : List AV → List AO → Rs AV := mkF 2 8 ev_length
theorem sc_length : FnScope N_length ["net", "levels"] (defScope (top 55)) := ⟨rfl, rfl, rfl, by decide +kernel, rfl, by decide +kernel, by decide +kernel⟩
theorem ok_length (c : Fx K mg w) : ∃ fd, Df P w K mg base (L2N.CX P w) 5 (He.ga K "length") fd ["net", "levels"] (spF (gp K q hq) f_length) := by
  obtain ⟨fd_ways_down, F_ways_down⟩ := ok_ways_down (P := P) (w := w) (base := base) c
  obtain ⟨fd, Fd⟩ := c.d_length
  refine ⟨fd, Fd.ok sc_length (fun vs H Q E h => spF_len h) (fun cdv A outer s H vs Q E hr h => ⟨tS (gp K q hq) E ev_length, ?_, spF_body h⟩), Fd.bindsN fun _ _ _ _ _ _ us hl => (match us, hl with | [_, _], _ => rfl), Fd.kp⟩
  have nd : N_length.Nodup := sc_length.nd
  have tk : L2N.Takes (cxOf (L2N.CX P w) P w K mg base N_length "length" (defScope (top 55)) (He.ga K "length") cdv A outer s H E) (fun cls d _ H => E cls d H) := L2N.takes_of rfl rfl rfl rfl
  have px : Passes (L2N.CX P w) (cxOf (L2N.CX P w) P w K mg base N_length "length" (defScope (top 55)) (He.ga K "length") cdv A outer s H E) E := L2N.passes_call tk (fun _ _ _ _ h => h)
  have px0 : Passes (L2N.CX P w) (cxOf (L2N.CX P w) P w K mg base N_length "length" (defScope (top 55)) (He.ga K "length") cdv A outer s H E) (fun _ _ _ => False) := L2N.passes_call tk (fun _ _ _ _ h => h.elim)
  have po : PassesOwn (model P w) (cxOf (L2N.CX P w) P w K mg base N_length "length" (defScope (top 55)) (He.ga K "length") cdv A outer s H E).A (cxOf (L2N.CX P w) P w K mg base N_length "length" (defScope (top 55)) (He.ga K "length") cdv A outer s H E).env (cxOf (L2N.CX P w) P w K mg base N_length "length" (defScope (top 55)) (He.ga K "length") cdv A outer s H E).xe := L2.passes_of rfl
  exact ss_cons (sset 2 nd (se_int)) (ss_cons (s_for po rfl (si_list (se_call (F_ways_down.ok.mono (by decide)) hr rfl c.g_ways_down F_ways_down.kp F_ways_down.b .nil d1 px (sa_cons (sv 0) (sa_nil)))) (sg_tup (js := [3, 4, 5, 6, 7]) rfl (pgs_cons (gn 3 nd) (pgs_cons (gn 4 nd) (pgs_cons (gn 5 nd) (pgs_cons (gn 6 nd) (pgs_cons (gn 7 nd) pgs_nil)))))) (ss_never)) (ss_one (s_ret (sv 2))))
def N_levels_by : List Str := ["net", "places", "found", "name", "place"]
def ev_levels_by : EVS := svSeq (svAsg ((fun _ A => newO (.dic []) A)) (etgN 2)) (svSeq (svFor (eiZ (eaC (evMeth .net f_Net_points [] (evVar 0) eaN) (eaC (evVar 1) (eaN)))) (etgT [3, 4]) (svDput (evVar 2) (evVar 3) (evVar 4))) (svRet (evVar 2)))
def f_levels_by : List AV → List AO → Rs AV := mkF 2 5 ev_levels_by
theorem sc_levels_by : FnScope N_levels_by ["net", "places"] (defScope (top 56)) := ⟨rfl, rfl, rfl, by decide +kernel, rfl, by decide +kernel, by decide +kernel⟩
theorem ok_levels_by (c : Fx K mg w) : ∃ fd, Df P w K mg base (L2N.CX P w) 2 (He.ga K "levels_by") fd ["net", "places"] (spF (gp K q hq) f_levels_by) := by
  obtain ⟨fd_Net_points, F_Net_points⟩ := ok_Net_points (P := P) (w := w) (base := base) c
  obtain ⟨fd, Fd⟩ := c.d_levels_by
  refine ⟨fd, Fd.ok sc_levels_by (fun vs H Q E h => spF_len h) (fun cdv A outer s H vs Q E hr h => ⟨tS (gp K q hq) E ev_levels_by, ?_, spF_body h⟩), Fd.bindsN fun _ _ _ _ _ _ us hl => (match us, hl with | [_, _], _ => rfl), Fd.kp⟩
  have nd : N_levels_by.Nodup := sc_levels_by.nd
  have tk : L2N.Takes (cxOf (L2N.CX P w) P w K mg base N_levels_by "levels_by" (defScope (top 56)) (He.ga K "levels_by") cdv A outer s H E) (fun cls d _ H => E cls d H) := L2N.takes_of rfl rfl rfl rfl
  have px : Passes (L2N.CX P w) (cxOf (L2N.CX P w) P w K mg base N_levels_by "levels_by" (defScope (top 56)) (He.ga K "levels_by") cdv A outer s H E) E := L2N.passes_call tk (fun _ _ _ _ h => h)
  have px0 : Passes (L2N.CX P w) (cxOf (L2N.CX P w) P w K mg base N_levels_by "levels_by" (defScope (top 56)) (He.ga K "levels_by") cdv A outer s H E) (fun _ _ _ => False) := L2N.passes_call tk (fun _ _ _ _ h => h.elim)
  have po : PassesOwn (model P w) (cxOf (L2N.CX P w) P w K mg base N_levels_by "levels_by" (defScope (top 56)) (He.ga K "levels_by") cdv A outer s H E).A (cxOf (L2N.CX P w) P w K mg base N_levels_by "levels_by" (defScope (top 56)) (He.ga K "levels_by") cdv A outer s H E).env (cxOf (L2N.CX P w) P w K mg base N_levels_by "levels_by" (defScope (top 56)) (He.ga K "levels_by") cdv A outer s H E).xe := L2.passes_of rfl
  exact ss_cons (sset 2 nd (se_dnew)) (ss_cons (s_for po rfl (si_zip rfl c.n_zip (sa_cons (se_meth0 (c := .net) (c.ks q hq) (by intro z; cases z <;> decide) (sv 0) c.t_Net_points (F_Net_points.ok.mono (by decide)) hr F_Net_points.b .nil d1 px) (sa_cons (sv 1) (sa_nil)))) (sg_tup (js := [3, 4]) rfl (pgs_cons (gn 3 nd) (pgs_cons (gn 4 nd) pgs_nil))) (ss_one (s_dput (hu_of hr) (sv 2) (sv 3) (sv 4)))) (ss_one (s_ret (sv 2))))
def N_levelled : List Str := ["net", "places", "flow"]
def ev_levelled : EVS := svSeq (svAsg (evCall f_laid [] (eaC (evN fLen (eaC (evMeth .net f_Net_points [] (evVar 0) eaN) (eaN))) (eaC (evCall f_wishes_of [] (eaC (evVar 0) (eaN))) (eaN)))) (etgT [1, 2])) (svRet (evN fTup (eaC (evCall f_levels_by [] (eaC (evVar 0) (eaC (evVar 1) (eaN)))) (eaC (evVar 2) (eaN)))))
def f_levelled : List AV → List AO → Rs AV := mkF 1 3 ev_levelled
theorem sc_levelled : FnScope N_levelled ["net"] (defScope (top 57)) := ⟨rfl, rfl, rfl, by decide +kernel, rfl, by decide +kernel, by decide +kernel⟩
theorem ok_levelled (c : Fx K mg w) : ∃ fd, Df P w K mg base (L2N.CX P w) 6 (He.ga K "levelled") fd ["net"] (spF (gp K q hq) f_levelled) := by
  obtain ⟨fd_laid, F_laid⟩ := ok_laid (P := P) (w := w) (base := base) c
  obtain ⟨fd_Net_points, F_Net_points⟩ := ok_Net_points (P := P) (w := w) (base := base) c
  obtain ⟨fd_wishes_of, F_wishes_of⟩ := ok_wishes_of (P := P) (w := w) (base := base) c
  obtain ⟨fd_levels_by, F_levels_by⟩ := ok_levels_by (P := P) (w := w) (base := base) c
  obtain ⟨fd, Fd⟩ := c.d_levelled
  refine ⟨fd, Fd.ok sc_levelled (fun vs H Q E h => spF_len h) (fun cdv A outer s H vs Q E hr h => ⟨tS (gp K q hq) E ev_levelled, ?_, spF_body h⟩), Fd.bindsN fun _ _ _ _ _ _ us hl => (match us, hl with | [_], _ => rfl), Fd.kp⟩
  have nd : N_levelled.Nodup := sc_levelled.nd
  have tk : L2N.Takes (cxOf (L2N.CX P w) P w K mg base N_levelled "levelled" (defScope (top 57)) (He.ga K "levelled") cdv A outer s H E) (fun cls d _ H => E cls d H) := L2N.takes_of rfl rfl rfl rfl
  have px : Passes (L2N.CX P w) (cxOf (L2N.CX P w) P w K mg base N_levelled "levelled" (defScope (top 57)) (He.ga K "levelled") cdv A outer s H E) E := L2N.passes_call tk (fun _ _ _ _ h => h)
  have px0 : Passes (L2N.CX P w) (cxOf (L2N.CX P w) P w K mg base N_levelled "levelled" (defScope (top 57)) (He.ga K "levelled") cdv A outer s H E) (fun _ _ _ => False) := L2N.passes_call tk (fun _ _ _ _ h => h.elim)
  have po : PassesOwn (model P w) (cxOf (L2N.CX P w) P w K mg base N_levelled "levelled" (defScope (top 57)) (He.ga K "levelled") cdv A outer s H E).A (cxOf (L2N.CX P w) P w K mg base N_levelled "levelled" (defScope (top 57)) (He.ga K "levelled") cdv A outer s H E).env (cxOf (L2N.CX P w) P w K mg base N_levelled "levelled" (defScope (top 57)) (He.ga K "levelled") cdv A outer s H E).xe := L2.passes_of rfl
  exact ss_cons (s_asg (se_call (F_laid.ok.mono (by decide)) hr rfl c.g_laid F_laid.kp F_laid.b .nil d1 px (sa_cons (se_callB c_len (ok_len (K := K)) rfl c.n_len boot_len (sa_cons (se_meth0 (c := .net) (c.ks q hq) (by intro z; cases z <;> decide) (sv 0) c.t_Net_points (F_Net_points.ok.mono (by decide)) hr F_Net_points.b .nil d1 px) (sa_nil))) (sa_cons (se_call (F_wishes_of.ok.mono (by decide)) hr rfl c.g_wishes_of F_wishes_of.kp F_wishes_of.b .nil d1 px (sa_cons (sv 0) (sa_nil))) (sa_nil)))) (sg_tup (js := [1, 2]) rfl (pgs_cons (gn 1 nd) (pgs_cons (gn 2 nd) pgs_nil)))) (ss_one (s_ret (se_tup (sa_cons (se_call (F_levels_by.ok.mono (by decide)) hr rfl c.g_levels_by F_levels_by.kp F_levels_by.b .nil d1 px (sa_cons (sv 0) (sa_cons (sv 1) (sa_nil)))) (sa_cons (sv 2) (sa_nil))))))
def N_number_of : List Str := ["word", "good", "sign"]
def ev_number_of : EVS := svSeq (svAsg (evAnd (evChain leV leV (evC (.int 1 0)) (evN fLen (eaC (evVar 0) (eaN))) (evC (.int 7 0))) (evN fAll (eaC (evLc1 (eiS (evVar 0)) 2 (evB signV (evVar 2) (evC (.str [48, 49, 50, 51, 52, 53, 54, 55, 56, 57])))) (eaN)))) (etgN 1)) (svSeq (svIf (evOr (evNot (evVar 1)) (evAnd (evB gtV (evN fLen (eaC (evVar 0) (eaN))) (evC (.int 1 0))) (evB eqVV (evB atV (evVar 0) (evC (.int 0 0))) (evC (.str [48]))))) (svRaise1 .noLine .number (evC (.int 0 0))) (svNil)) (svRet (evN fIntS (eaC (evVar 0) (eaN)))))
def f_number_of : List AV → List AO → Rs AV := mkF 1 3 ev_number_of
theorem sc_number_of : FnScope N_number_of ["word"] (defScope (top 91)) := ⟨rfl, rfl, rfl, by decide +kernel, rfl, by decide +kernel, by decide +kernel⟩
theorem ok_number_of (c : Fx K mg w) : ∃ fd, Df P w K mg base (L2N.CX P w) 3 (He.ga K "number_of") fd ["word"] (spF (gp K q hq) f_number_of) := by
  obtain ⟨fd_NoLine, F_NoLine⟩ := ok_XNoLine (P := P) (w := w) (base := base) c
  obtain ⟨fd, Fd⟩ := c.d_number_of
  refine ⟨fd, Fd.ok sc_number_of (fun vs H Q E h => spF_len h) (fun cdv A outer s H vs Q E hr h => ⟨tS (gp K q hq) E ev_number_of, ?_, spF_body h⟩), Fd.bindsN fun _ _ _ _ _ _ us hl => (match us, hl with | [_], _ => rfl), Fd.kp⟩
  have nd : N_number_of.Nodup := sc_number_of.nd
  have tk : L2N.Takes (cxOf (L2N.CX P w) P w K mg base N_number_of "number_of" (defScope (top 91)) (He.ga K "number_of") cdv A outer s H E) (fun cls d _ H => E cls d H) := L2N.takes_of rfl rfl rfl rfl
  have px : Passes (L2N.CX P w) (cxOf (L2N.CX P w) P w K mg base N_number_of "number_of" (defScope (top 91)) (He.ga K "number_of") cdv A outer s H E) E := L2N.passes_call tk (fun _ _ _ _ h => h)
  have px0 : Passes (L2N.CX P w) (cxOf (L2N.CX P w) P w K mg base N_number_of "number_of" (defScope (top 91)) (He.ga K "number_of") cdv A outer s H E) (fun _ _ _ => False) := L2N.passes_call tk (fun _ _ _ _ h => h.elim)
  have po : PassesOwn (model P w) (cxOf (L2N.CX P w) P w K mg base N_number_of "number_of" (defScope (top 91)) (He.ga K "number_of") cdv A outer s H E).A (cxOf (L2N.CX P w) P w K mg base N_number_of "number_of" (defScope (top 91)) (He.ga K "number_of") cdv A outer s H E).env (cxOf (L2N.CX P w) P w K mg base N_number_of "number_of" (defScope (top 91)) (He.ga K "number_of") cdv A outer s H E).xe := L2.passes_of rfl
  exact ss_cons (sset 1 nd (se_and (se_chain op_le op_le ok_le ok_le (se_int) (se_callB c_len (ok_len (K := K)) rfl c.n_len boot_len (sa_cons (sv 0) (sa_nil))) (se_gint c.i_MOST_FIGURES)) (pe_one (se_callB (cr_all rfl) (ok_all (K := K)) rfl c.n_all boot_all (sa_cons (se_lc1 rfl nd (si_str (sv 0)) (blkOk_by (N := N_number_of) (sc := defScope (top 91)) (by decide +kernel)) (fun _ _ _ _ _ => gn 2 nd) (fun _ _ _ _ _ => se_cmp op_in_sign ok_sign (sv 2) (se_gstr c.s_FIGURES (by decide +kernel)) (by with_unfolding_all rfl))) (sa_nil)))))) (ss_cons (s_if (pwpt (sw_or (st_not (st_val (sv 1))) (pw1o (pwpt (sw_and (st_cmp op_gt ok_gt (se_callB c_len (ok_len (K := K)) rfl c.n_len boot_len (sa_cons (sv 0) (sa_nil))) (se_int) (nomark _)) (pw1a (st_cmp op_eq ok_eq (se_at (sv 0) (se_int)) (se_str (by decide +kernel)) (nomark _)))))))) (ss_one (s_raise1 (c := .noLine) (f := .number) rfl tk c.y_NoLine (F_NoLine.ok.mono (by decide)) hr F_NoLine.b px0 rfl (se_int))) (ss_nil)) (ss_one (s_ret (se_callTy call_int_str ok_intS rfl c.n_int boot_int (sa_cons (sv 0) (sa_nil))))))
def N_put_line : List Str := ["net", "words", "numbers", "word"]
def ev_put_line : EVS := svSeq (svAsg (evLc1 (eiL (evU (fSl (some 3) none) (evVar 1))) 3 (evNo)) (etgN 2)) (svIf (evAnd (evB eqVV (evB atV (evVar 1) (evC (.int 0 0))) (evC (.str [112, 111, 105, 110, 116]))) (evB eqVV (evN fLen (eaC (evVar 1) (eaN))) (evC (.int 2 0)))) (svExpr (evMeth .net f_Net_put_point [.int 0 0] (evVar 0) (eaC (evB atV (evVar 1) (evC (.int 1 0))) (eaN)))) (svIf (evAnd (evB eqVV (evB atV (evVar 1) (evC (.int 0 0))) (evC (.str [112, 111, 105, 110, 116]))) (evB eqVV (evN fLen (eaC (evVar 1) (eaN))) (evC (.int 3 0)))) (svExpr (evMeth .net f_Net_put_point [] (evVar 0) (eaC (evB atV (evVar 1) (evC (.int 1 0))) (eaC (evCall f_number_of [] (eaC (evB atV (evVar 1) (evC (.int 2 0))) (eaN))) (eaN))))) (svIf (evAnd (evB eqVV (evB atV (evVar 1) (evC (.int 0 0))) (evC (.str [97, 114, 114, 111, 119]))) (evB eqVV (evN fLen (eaC (evVar 1) (eaN))) (evC (.int 3 0)))) (svExpr (evMeth .net f_Net_put_arrow [.int 1 0, .int 1 0] (evVar 0) (eaC (evB atV (evVar 1) (evC (.int 1 0))) (eaC (evB atV (evVar 1) (evC (.int 2 0))) (eaN))))) (svIf (evAnd (evB eqVV (evB atV (evVar 1) (evC (.int 0 0))) (evC (.str [97, 114, 114, 111, 119]))) (evB eqVV (evN fLen (eaC (evVar 1) (eaN))) (evC (.int 4 0)))) (svNo) (svIf (evAnd (evB eqVV (evB atV (evVar 1) (evC (.int 0 0))) (evC (.str [97, 114, 114, 111, 119]))) (evB eqVV (evN fLen (eaC (evVar 1) (eaN))) (evC (.int 5 0)))) (svExpr (evMeth .net f_Net_put_arrow [] (evVar 0) (eaC (evB atV (evVar 1) (evC (.int 1 0))) (eaC (evB atV (evVar 1) (evC (.int 2 0))) (eaC (evB atV (evVar 2) (evC (.int 0 0))) (eaC (evB atV (evVar 2) (evC (.int 1 0))) (eaN))))))) (svIf (evAnd (evB eqVV (evB atV (evVar 1) (evC (.int 0 0))) (evC (.str [115, 97, 109, 101]))) (evB eqVV (evN fLen (eaC (evVar 1) (eaN))) (evC (.int 3 0)))) (svExpr (evMeth .net f_Net_put_same [] (evVar 0) (eaC (evB atV (evVar 1) (evC (.int 1 0))) (eaC (evB atV (evVar 1) (evC (.int 2 0))) (eaN))))) (svIf (evAnd (evB eqVV (evB atV (evVar 1) (evC (.int 0 0))) (evC (.str [109, 111, 115, 116]))) (evB eqVV (evN fLen (eaC (evVar 1) (eaN))) (evC (.int 4 0)))) (svNo) (svRaise1 .noLine .number (evC (.int 0 0))))))))))
def f_put_line : List AV → List AO → Rs AV := mkF 2 4 ev_put_line
theorem sc_put_line : FnScope N_put_line ["net", "words"] (defScope (top 92)) := ⟨rfl, rfl, rfl, by decide +kernel, rfl, by decide +kernel, by decide +kernel⟩
theorem ok_put_line (c : Fx K mg w) : ∃ fd, Df P w K mg base (L2N.CX P w) 5 (He.ga K "put_line") fd ["net", "words"] (spF (gp K q hq) f_put_line) := by
  obtain ⟨fd_Net_put_point, F_Net_put_point, ds_Net_put_point, b_Net_put_point, v_Net_put_point⟩ := ok_Net_put_point (P := P) (w := w) (base := base) c
  obtain ⟨fd_number_of, F_number_of⟩ := ok_number_of (P := P) (w := w) (base := base) c
  obtain ⟨fd_Net_put_arrow, F_Net_put_arrow, ds_Net_put_arrow, b_Net_put_arrow, v_Net_put_arrow⟩ := ok_Net_put_arrow (P := P) (w := w) (base := base) c
  obtain ⟨fd_Net_put_same, F_Net_put_same⟩ := ok_Net_put_same (P := P) (w := w) (base := base) c
  obtain ⟨fd_NoLine, F_NoLine⟩ := ok_XNoLine (P := P) (w := w) (base := base) c
  obtain ⟨fd, Fd⟩ := c.d_put_line
  refine ⟨fd, Fd.ok sc_put_line (fun vs H Q E h => spF_len h) (fun cdv A outer s H vs Q E hr h => ⟨tS (gp K q hq) E ev_put_line, ?_, spF_body h⟩), Fd.bindsN fun _ _ _ _ _ _ us hl => (match us, hl with | [_, _], _ => rfl), Fd.kp⟩
  have nd : N_put_line.Nodup := sc_put_line.nd
  have tk : L2N.Takes (cxOf (L2N.CX P w) P w K mg base N_put_line "put_line" (defScope (top 92)) (He.ga K "put_line") cdv A outer s H E) (fun cls d _ H => E cls d H) := L2N.takes_of rfl rfl rfl rfl
  have px : Passes (L2N.CX P w) (cxOf (L2N.CX P w) P w K mg base N_put_line "put_line" (defScope (top 92)) (He.ga K "put_line") cdv A outer s H E) E := L2N.passes_call tk (fun _ _ _ _ h => h)
  have px0 : Passes (L2N.CX P w) (cxOf (L2N.CX P w) P w K mg base N_put_line "put_line" (defScope (top 92)) (He.ga K "put_line") cdv A outer s H E) (fun _ _ _ => False) := L2N.passes_call tk (fun _ _ _ _ h => h.elim)
  have po : PassesOwn (model P w) (cxOf (L2N.CX P w) P w K mg base N_put_line "put_line" (defScope (top 92)) (He.ga K "put_line") cdv A outer s H E).A (cxOf (L2N.CX P w) P w K mg base N_put_line "put_line" (defScope (top 92)) (He.ga K "put_line") cdv A outer s H E).env (cxOf (L2N.CX P w) P w K mg base N_put_line "put_line" (defScope (top 92)) (He.ga K "put_line") cdv A outer s H E).xe := L2.passes_of rfl
  exact ss_cons (s_setLc1 (i := 2) rfl nd rfl rfl (sw_true rfl rfl rfl (by decide +kernel)) (si_list (se_slFrom (sv 1))) (blkOk_by (N := N_put_line) (sc := defScope (top 92)) (by decide +kernel)) (fun _ _ _ _ _ => gn 3 nd) (fun _ _ _ _ _ => pe_no)) (ss_one (s_if (pwpt (sw_and (st_cmp op_eq ok_eq (se_at (sv 1) (se_int)) (se_str (by decide +kernel)) (nomark _)) (pw1a (st_cmp op_eq ok_eq (se_callB c_len (ok_len (K := K)) rfl c.n_len boot_len (sa_cons (sv 1) (sa_nil))) (se_int) (nomark _))))) (ss_one (s_expr (se_meth (c := .net) (c.ks q hq) (by intro z; cases z <;> decide) (sv 0) c.t_Net_put_point (F_Net_put_point.ok.mono (by decide)) hr b_Net_put_point v_Net_put_point (fun _ => .cons rv_int (.nil)) px (sa_cons (se_at (sv 1) (se_int)) (sa_nil))))) (ss_one (s_if (pwpt (sw_and (st_cmp op_eq ok_eq (se_at (sv 1) (se_int)) (se_str (by decide +kernel)) (nomark _)) (pw1a (st_cmp op_eq ok_eq (se_callB c_len (ok_len (K := K)) rfl c.n_len boot_len (sa_cons (sv 1) (sa_nil))) (se_int) (nomark _))))) (ss_one (s_expr (se_meth (c := .net) (c.ks q hq) (by intro z; cases z <;> decide) (sv 0) c.t_Net_put_point (F_Net_put_point.ok.mono (by decide)) hr F_Net_put_point.b .nil d1 px (sa_cons (se_at (sv 1) (se_int)) (sa_cons (se_call (F_number_of.ok.mono (by decide)) hr rfl c.g_number_of F_number_of.kp F_number_of.b .nil d1 px (sa_cons (se_at (sv 1) (se_int)) (sa_nil))) (sa_nil)))))) (ss_one (s_if (pwpt (sw_and (st_cmp op_eq ok_eq (se_at (sv 1) (se_int)) (se_str (by decide +kernel)) (nomark _)) (pw1a (st_cmp op_eq ok_eq (se_callB c_len (ok_len (K := K)) rfl c.n_len boot_len (sa_cons (sv 1) (sa_nil))) (se_int) (nomark _))))) (ss_one (s_expr (se_meth (c := .net) (c.ks q hq) (by intro z; cases z <;> decide) (sv 0) c.t_Net_put_arrow (F_Net_put_arrow.ok.mono (by decide)) hr b_Net_put_arrow v_Net_put_arrow (fun _ => .cons rv_int (.cons rv_int (.nil))) px (sa_cons (se_at (sv 1) (se_int)) (sa_cons (se_at (sv 1) (se_int)) (sa_nil)))))) (ss_one (s_if (pwpt (sw_and (st_cmp op_eq ok_eq (se_at (sv 1) (se_int)) (se_str (by decide +kernel)) (nomark _)) (pw1a (st_cmp op_eq ok_eq (se_callB c_len (ok_len (K := K)) rfl c.n_len boot_len (sa_cons (sv 1) (sa_nil))) (se_int) (nomark _))))) (ss_never) (ss_one (s_if (pwpt (sw_and (st_cmp op_eq ok_eq (se_at (sv 1) (se_int)) (se_str (by decide +kernel)) (nomark _)) (pw1a (st_cmp op_eq ok_eq (se_callB c_len (ok_len (K := K)) rfl c.n_len boot_len (sa_cons (sv 1) (sa_nil))) (se_int) (nomark _))))) (ss_one (s_expr (se_meth (c := .net) (c.ks q hq) (by intro z; cases z <;> decide) (sv 0) c.t_Net_put_arrow (F_Net_put_arrow.ok.mono (by decide)) hr F_Net_put_arrow.b .nil d1 px (sa_cons (se_at (sv 1) (se_int)) (sa_cons (se_at (sv 1) (se_int)) (sa_cons (se_at (sv 2) (se_int)) (sa_cons (se_at (sv 2) (se_int)) (sa_nil)))))))) (ss_one (s_if (pwpt (sw_and (st_cmp op_eq ok_eq (se_at (sv 1) (se_int)) (se_str (by decide +kernel)) (nomark _)) (pw1a (st_cmp op_eq ok_eq (se_callB c_len (ok_len (K := K)) rfl c.n_len boot_len (sa_cons (sv 1) (sa_nil))) (se_int) (nomark _))))) (ss_one (s_expr (se_meth (c := .net) (c.ks q hq) (by intro z; cases z <;> decide) (sv 0) c.t_Net_put_same (F_Net_put_same.ok.mono (by decide)) hr F_Net_put_same.b .nil d1 px (sa_cons (se_at (sv 1) (se_int)) (sa_cons (se_at (sv 1) (se_int)) (sa_nil)))))) (ss_one (s_if (pwpt (sw_and (st_cmp op_eq ok_eq (se_at (sv 1) (se_int)) (se_str (by decide +kernel)) (nomark _)) (pw1a (st_cmp op_eq ok_eq (se_callB c_len (ok_len (K := K)) rfl c.n_len boot_len (sa_cons (sv 1) (sa_nil))) (se_int) (nomark _))))) (ss_never) (ss_one (s_raise1 (c := .noLine) (f := .number) rfl tk c.y_NoLine (F_NoLine.ok.mono (by decide)) hr F_NoLine.b px0 rfl (se_int)))))))))))))))))
def N_Desk_init : List Str := ["self"]
def ev_Desk_init : EVS := svSeq (svFld .net (evVar 0) (evMake .net f_Net_init [] eaN)) (svFld .old (evVar 0) ((fun _ A => newO (.dic []) A)))
def f_Desk_init : List AV → List AO → Rs AV := mkF 1 1 ev_Desk_init
theorem sc_Desk_init : FnScope N_Desk_init ["self"] (defScope (inClass (top 100) 0)) := ⟨rfl, rfl, rfl, by decide +kernel, rfl, by decide +kernel, by decide +kernel⟩
theorem ok_Desk_init (c : Fx K mg w) : ∃ fd, Df P w K mg base (L2N.CX P w) 3 (He.ma K (He.ga K "Desk") "__init__") fd ["self"] (spF (gp K q hq) f_Desk_init) := by
  obtain ⟨fd_Net_init, F_Net_init⟩ := ok_Net_init (P := P) (w := w) (base := base) c
  obtain ⟨fd, Fd⟩ := c.d_Desk_init
  refine ⟨fd, Fd.ok sc_Desk_init (fun vs H Q E h => spF_len h) (fun cdv A outer s H vs Q E hr h => ⟨tS (gp K q hq) E ev_Desk_init, ?_, spF_body h⟩), Fd.bindsN fun _ _ _ _ _ _ us hl => (match us, hl with | [_], _ => rfl), Fd.kp⟩
  have nd : N_Desk_init.Nodup := sc_Desk_init.nd
  have tk : L2N.Takes (cxOf (L2N.CX P w) P w K mg base N_Desk_init "Desk.__init__" (defScope (inClass (top 100) 0)) (He.ma K (He.ga K "Desk") "__init__") cdv A outer s H E) (fun cls d _ H => E cls d H) := L2N.takes_of rfl rfl rfl rfl
  have px : Passes (L2N.CX P w) (cxOf (L2N.CX P w) P w K mg base N_Desk_init "Desk.__init__" (defScope (inClass (top 100) 0)) (He.ma K (He.ga K "Desk") "__init__") cdv A outer s H E) E := L2N.passes_call tk (fun _ _ _ _ h => h)
  have px0 : Passes (L2N.CX P w) (cxOf (L2N.CX P w) P w K mg base N_Desk_init "Desk.__init__" (defScope (inClass (top 100) 0)) (He.ma K (He.ga K "Desk") "__init__") cdv A outer s H E) (fun _ _ _ => False) := L2N.passes_call tk (fun _ _ _ _ h => h.elim)
  have po : PassesOwn (model P w) (cxOf (L2N.CX P w) P w K mg base N_Desk_init "Desk.__init__" (defScope (inClass (top 100) 0)) (He.ma K (He.ga K "Desk") "__init__") cdv A outer s H E).A (cxOf (L2N.CX P w) P w K mg base N_Desk_init "Desk.__init__" (defScope (inClass (top 100) 0)) (He.ma K (He.ga K "Desk") "__init__") cdv A outer s H E).env (cxOf (L2N.CX P w) P w K mg base N_Desk_init "Desk.__init__" (defScope (inClass (top 100) 0)) (He.ma K (He.ga K "Desk") "__init__") cdv A outer s H E).xe := L2.passes_of rfl
  exact ss_cons (s_fld (f := .net) (c.ks q hq) rfl (sv 0) (se_make0 (c := .net) c.m_Net (F_Net_init.ok.mono (by decide)) hr rfl c.g_Net F_Net_init.b .nil d1 px)) (ss_one (s_fld (f := .old) (c.ks q hq) rfl (sv 0) (se_dnew)))
def N_Desk_put : List Str := ["self", "words"]
def ev_Desk_put : EVS := svSeq (svExpr (evCall f_put_line [] (eaC (evU (fFld .net) (evVar 0)) (eaC (evVar 1) (eaN))))) (svSeq (svIf (evB eqVV (evB atV (evVar 1) (evC (.int 0 0))) (evC (.str [97, 114, 114, 111, 119]))) (svRet (evB addV (evC (.str [97, 114, 114, 111, 119, 32])) (evN fStrI (eaC (evB atV (evB atV (evMeth .net f_Net_arrows [] (evU (fFld .net) (evVar 0)) eaN) (evU negV (evC (.int 1 0)))) (evC (.int 0 0))) (eaN))))) (svNil)) (svRet (evC (.str [111, 107]))))
def f_Desk_put : List AV → List AO → Rs AV := mkF 2 2 ev_Desk_put
theorem sc_Desk_put : FnScope N_Desk_put ["self", "words"] (defScope (inClass (top 100) 2)) := ⟨rfl, rfl, rfl, by decide +kernel, rfl, by decide +kernel, by decide +kernel⟩
theorem ok_Desk_put (c : Fx K mg w) : ∃ fd, Df P w K mg base (L2N.CX P w) 6 (He.ma K (He.ga K "Desk") "put") fd ["self", "words"] (spF (gp K q hq) f_Desk_put) := by
  obtain ⟨fd_put_line, F_put_line⟩ := ok_put_line (P := P) (w := w) (base := base) c
  obtain ⟨fd_Net_arrows, F_Net_arrows⟩ := ok_Net_arrows (P := P) (w := w) (base := base) c
  obtain ⟨fd, Fd⟩ := c.d_Desk_put
  refine ⟨fd, Fd.ok sc_Desk_put (fun vs H Q E h => spF_len h) (fun cdv A outer s H vs Q E hr h => ⟨tS (gp K q hq) E ev_Desk_put, ?_, spF_body h⟩), Fd.bindsN fun _ _ _ _ _ _ us hl => (match us, hl with | [_, _], _ => rfl), Fd.kp⟩
  have nd : N_Desk_put.Nodup := sc_Desk_put.nd
  have tk : L2N.Takes (cxOf (L2N.CX P w) P w K mg base N_Desk_put "Desk.put" (defScope (inClass (top 100) 2)) (He.ma K (He.ga K "Desk") "put") cdv A outer s H E) (fun cls d _ H => E cls d H) := L2N.takes_of rfl rfl rfl rfl
  have px : Passes (L2N.CX P w) (cxOf (L2N.CX P w) P w K mg base N_Desk_put "Desk.put" (defScope (inClass (top 100) 2)) (He.ma K (He.ga K "Desk") "put") cdv A outer s H E) E := L2N.passes_call tk (fun _ _ _ _ h => h)
  have px0 : Passes (L2N.CX P w) (cxOf (L2N.CX P w) P w K mg base N_Desk_put "Desk.put" (defScope (inClass (top 100) 2)) (He.ma K (He.ga K "Desk") "put") cdv A outer s H E) (fun _ _ _ => False) := L2N.passes_call tk (fun _ _ _ _ h => h.elim)
  have po : PassesOwn (model P w) (cxOf (L2N.CX P w) P w K mg base N_Desk_put "Desk.put" (defScope (inClass (top 100) 2)) (He.ma K (He.ga K "Desk") "put") cdv A outer s H E).A (cxOf (L2N.CX P w) P w K mg base N_Desk_put "Desk.put" (defScope (inClass (top 100) 2)) (He.ma K (He.ga K "Desk") "put") cdv A outer s H E).env (cxOf (L2N.CX P w) P w K mg base N_Desk_put "Desk.put" (defScope (inClass (top 100) 2)) (He.ma K (He.ga K "Desk") "put") cdv A outer s H E).xe := L2.passes_of rfl
  exact ss_cons (s_expr (se_call (F_put_line.ok.mono (by decide)) hr rfl c.g_put_line F_put_line.kp F_put_line.b .nil d1 px (sa_cons (se_fld (f := .net) (c.ks q hq) rfl (sv 0)) (sa_cons (sv 1) (sa_nil))))) (ss_cons (s_if (st_cmp op_eq ok_eq (se_at (sv 1) (se_int)) (se_str (by decide +kernel)) (nomark _)) (ss_one (s_ret (se_op o_add ok_add (se_str (by decide +kernel)) (se_callTy call_str_int ok_strI rfl c.n_str boot_str (sa_cons (se_at (se_at (se_meth0 (c := .net) (c.ks q hq) (by intro z; cases z <;> decide) (se_fld (f := .net) (c.ks q hq) rfl (sv 0)) c.t_Net_arrows (F_Net_arrows.ok.mono (by decide)) hr F_Net_arrows.b .nil d1 px) (se_un un_neg ok_neg (se_int))) (se_int)) (sa_nil)))))) (ss_nil)) (ss_one (s_ret (se_str (by decide +kernel)))))
def N_Desk_of_levels : List Str := ["self", "word", "told", "name", "levels", "flow", "moves", "paper"]
def ev_Desk_of_levels : EVS := svSeq (svIf (evB eqVV (evVar 1) (evC (.str [108, 101, 118, 101, 108]))) (svSeq (svFld .old (evVar 0) (evB atV (evCall f_levelled [] (eaC (evU (fFld .net) (evVar 0)) (eaN))) (evC (.int 0 0)))) (svRet (evB addV (evC (.str [108, 101, 110, 103, 116, 104, 32])) (evN fStrI (eaC (evCall f_length [] (eaC (evU (fFld .net) (evVar 0)) (eaC (evU (fFld .old) (evVar 0)) (eaN)))) (eaN)))))) (svNil)) (svSeq (svIf (evB eqVV (evVar 1) (evC (.str [97, 103, 97, 105, 110]))) (svNo) (svNil)) (svSeq (svAsg (evN fLst (eaN)) (etgN 2)) (svSeq (svFor (eiL (evMeth .net f_Net_points [] (evU (fFld .net) (evVar 0)) eaN)) (etgN 3) (svIf (evB dInV (evVar 3) (evU (fFld .old) (evVar 0))) (svExpr (evBM fApp (evVar 2) (eaC (evB addV (evB addV (evVar 3) (evC (.str [32]))) (evN fStrI (eaC (evB dGetV (evU (fFld .old) (evVar 0)) (evVar 3)) (eaN)))) (eaN)))) (svNil))) (svNo))))
def f_Desk_of_levels : List AV → List AO → Rs AV := mkF 2 8 ev_Desk_of_levels
theorem sc_Desk_of_levels : FnScope N_Desk_of_levels ["self", "word"] (defScope (inClass (top 100) 4)) := ⟨rfl, rfl, rfl, by decide +kernel, rfl, by decide +kernel, by decide +kernel⟩
theorem ok_Desk_of_levels (c : Fx K mg w) : ∃ fd, Df P w K mg base (L2N.CX P w) 7 (He.ma K (He.ga K "Desk") "of_levels") fd ["self", "word"] (spF (gp K q hq) f_Desk_of_levels) := by
  obtain ⟨fd_levelled, F_levelled⟩ := ok_levelled (P := P) (w := w) (base := base) c
  obtain ⟨fd_length, F_length⟩ := ok_length (P := P) (w := w) (base := base) c
  obtain ⟨fd_Net_points, F_Net_points⟩ := ok_Net_points (P := P) (w := w) (base := base) c
  obtain ⟨fd, Fd⟩ := c.d_Desk_of_levels
  refine ⟨fd, Fd.ok sc_Desk_of_levels (fun vs H Q E h => spF_len h) (fun cdv A outer s H vs Q E hr h => ⟨tS (gp K q hq) E ev_Desk_of_levels, ?_, spF_body h⟩), Fd.bindsN fun _ _ _ _ _ _ us hl => (match us, hl with | [_, _], _ => rfl), Fd.kp⟩
  have nd : N_Desk_of_levels.Nodup := sc_Desk_of_levels.nd
  have tk : L2N.Takes (cxOf (L2N.CX P w) P w K mg base N_Desk_of_levels "Desk.of_levels" (defScope (inClass (top 100) 4)) (He.ma K (He.ga K "Desk") "of_levels") cdv A outer s H E) (fun cls d _ H => E cls d H) := L2N.takes_of rfl rfl rfl rfl
  have px : Passes (L2N.CX P w) (cxOf (L2N.CX P w) P w K mg base N_Desk_of_levels "Desk.of_levels" (defScope (inClass (top 100) 4)) (He.ma K (He.ga K "Desk") "of_levels") cdv A outer s H E) E := L2N.passes_call tk (fun _ _ _ _ h => h)
  have px0 : Passes (L2N.CX P w) (cxOf (L2N.CX P w) P w K mg base N_Desk_of_levels "Desk.of_levels" (defScope (inClass (top 100) 4)) (He.ma K (He.ga K "Desk") "of_levels") cdv A outer s H E) (fun _ _ _ => False) := L2N.passes_call tk (fun _ _ _ _ h => h.elim)
  have po : PassesOwn (model P w) (cxOf (L2N.CX P w) P w K mg base N_Desk_of_levels "Desk.of_levels" (defScope (inClass (top 100) 4)) (He.ma K (He.ga K "Desk") "of_levels") cdv A outer s H E).A (cxOf (L2N.CX P w) P w K mg base N_Desk_of_levels "Desk.of_levels" (defScope (inClass (top 100) 4)) (He.ma K (He.ga K "Desk") "of_levels") cdv A outer s H E).env (cxOf (L2N.CX P w) P w K mg base N_Desk_of_levels "Desk.of_levels" (defScope (inClass (top 100) 4)) (He.ma K (He.ga K "Desk") "of_levels") cdv A outer s H E).xe := L2.passes_of rfl
  exact ss_cons (s_if (st_cmp op_eq ok_eq (sv 1) (se_str (by decide +kernel)) (nomark _)) (ss_cons (s_fld (f := .old) (c.ks q hq) rfl (sv 0) (se_at (se_call (F_levelled.ok.mono (by decide)) hr rfl c.g_levelled F_levelled.kp F_levelled.b .nil d1 px (sa_cons (se_fld (f := .net) (c.ks q hq) rfl (sv 0)) (sa_nil))) (se_int))) (ss_one (s_ret (se_op o_add ok_add (se_str (by decide +kernel)) (se_callTy call_str_int ok_strI rfl c.n_str boot_str (sa_cons (se_call (F_length.ok.mono (by decide)) hr rfl c.g_length F_length.kp F_length.b .nil d1 px (sa_cons (se_fld (f := .net) (c.ks q hq) rfl (sv 0)) (sa_cons (se_fld (f := .old) (c.ks q hq) rfl (sv 0)) (sa_nil)))) (sa_nil))))))) (ss_nil)) (ss_cons (s_if (st_cmp op_eq ok_eq (sv 1) (se_str (by decide +kernel)) (nomark _)) (ss_never) (ss_nil)) (ss_cons (sset 2 nd (se_lst (sa_nil))) (ss_cons (s_for po rfl (si_list (se_meth0 (c := .net) (c.ks q hq) (by intro z; cases z <;> decide) (se_fld (f := .net) (c.ks q hq) rfl (sv 0)) c.t_Net_points (F_Net_points.ok.mono (by decide)) hr F_Net_points.b .nil d1 px)) (sg 3 nd) (ss_one (s_if (st_din (hu_of hr) (sv 3) (se_fld (f := .old) (c.ks q hq) rfl (sv 0))) (ss_one (s_expr (se_app (sv 2) (sa_cons (se_op o_add ok_add (se_op o_add ok_add (sv 3) (se_str (by decide +kernel))) (se_callTy call_str_int ok_strI rfl c.n_str boot_str (sa_cons (se_dget (hu_of hr) (se_fld (f := .old) (c.ks q hq) rfl (sv 0)) (sv 3)) (sa_nil)))) (sa_nil))))) (ss_nil)))) (ss_never))))
def N_Desk_rows_kept : List Str := ["self", "name"]
def ev_Desk_rows_kept : EVS := svSeq (svFor (eiL (evMeth .net f_Net_points [] (evU (fFld .net) (evVar 0)) eaN)) (etgN 1) (svIf (evB dNotInV (evVar 1) (evU (fFld .old) (evVar 0))) (svRaise1 .noPoint .name (evVar 1)) (svNil))) (svSeq (svIf (evNot (evCall f_keeps_net [] (eaC (evU (fFld .net) (evVar 0)) (eaC (evU (fFld .old) (evVar 0)) (eaN))))) (svRaise0 .stale) (svNil)) (svNo))
def f_Desk_rows_kept : List AV → List AO → Rs AV := mkF 1 2 ev_Desk_rows_kept
theorem sc_Desk_rows_kept : FnScope N_Desk_rows_kept ["self"] (defScope (inClass (top 100) 5)) := ⟨rfl, rfl, rfl, by decide +kernel, rfl, by decide +kernel, by decide +kernel⟩
theorem ok_Desk_rows_kept (c : Fx K mg w) : ∃ fd, Df P w K mg base (L2N.CX P w) 7 (He.ma K (He.ga K "Desk") "rows_kept") fd ["self"] (spF (gp K q hq) f_Desk_rows_kept) := by
  obtain ⟨fd_Net_points, F_Net_points⟩ := ok_Net_points (P := P) (w := w) (base := base) c
  obtain ⟨fd_NoPoint, F_NoPoint⟩ := ok_XNoPoint (P := P) (w := w) (base := base) c
  obtain ⟨fd_keeps_net, F_keeps_net⟩ := ok_keeps_net (P := P) (w := w) (base := base) c
  obtain ⟨fd, Fd⟩ := c.d_Desk_rows_kept
  refine ⟨fd, Fd.ok sc_Desk_rows_kept (fun vs H Q E h => spF_len h) (fun cdv A outer s H vs Q E hr h => ⟨tS (gp K q hq) E ev_Desk_rows_kept, ?_, spF_body h⟩), Fd.bindsN fun _ _ _ _ _ _ us hl => (match us, hl with | [_], _ => rfl), Fd.kp⟩
  have nd : N_Desk_rows_kept.Nodup := sc_Desk_rows_kept.nd
  have tk : L2N.Takes (cxOf (L2N.CX P w) P w K mg base N_Desk_rows_kept "Desk.rows_kept" (defScope (inClass (top 100) 5)) (He.ma K (He.ga K "Desk") "rows_kept") cdv A outer s H E) (fun cls d _ H => E cls d H) := L2N.takes_of rfl rfl rfl rfl
  have px : Passes (L2N.CX P w) (cxOf (L2N.CX P w) P w K mg base N_Desk_rows_kept "Desk.rows_kept" (defScope (inClass (top 100) 5)) (He.ma K (He.ga K "Desk") "rows_kept") cdv A outer s H E) E := L2N.passes_call tk (fun _ _ _ _ h => h)
  have px0 : Passes (L2N.CX P w) (cxOf (L2N.CX P w) P w K mg base N_Desk_rows_kept "Desk.rows_kept" (defScope (inClass (top 100) 5)) (He.ma K (He.ga K "Desk") "rows_kept") cdv A outer s H E) (fun _ _ _ => False) := L2N.passes_call tk (fun _ _ _ _ h => h.elim)
  have po : PassesOwn (model P w) (cxOf (L2N.CX P w) P w K mg base N_Desk_rows_kept "Desk.rows_kept" (defScope (inClass (top 100) 5)) (He.ma K (He.ga K "Desk") "rows_kept") cdv A outer s H E).A (cxOf (L2N.CX P w) P w K mg base N_Desk_rows_kept "Desk.rows_kept" (defScope (inClass (top 100) 5)) (He.ma K (He.ga K "Desk") "rows_kept") cdv A outer s H E).env (cxOf (L2N.CX P w) P w K mg base N_Desk_rows_kept "Desk.rows_kept" (defScope (inClass (top 100) 5)) (He.ma K (He.ga K "Desk") "rows_kept") cdv A outer s H E).xe := L2.passes_of rfl
  exact ss_cons (s_for po rfl (si_list (se_meth0 (c := .net) (c.ks q hq) (by intro z; cases z <;> decide) (se_fld (f := .net) (c.ks q hq) rfl (sv 0)) c.t_Net_points (F_Net_points.ok.mono (by decide)) hr F_Net_points.b .nil d1 px)) (sg 1 nd) (ss_one (s_if (st_dnotin (hu_of hr) (sv 1) (se_fld (f := .old) (c.ks q hq) rfl (sv 0))) (ss_one (s_raise1 (c := .noPoint) (f := .name) rfl tk c.y_NoPoint (F_NoPoint.ok.mono (by decide)) hr F_NoPoint.b px0 rfl (sv 1))) (ss_nil)))) (ss_cons (s_if (st_not (st_val (se_call (F_keeps_net.ok.mono (by decide)) hr rfl c.g_keeps_net F_keeps_net.kp F_keeps_net.b .nil d1 px (sa_cons (se_fld (f := .net) (c.ks q hq) rfl (sv 0)) (sa_cons (se_fld (f := .old) (c.ks q hq) rfl (sv 0)) (sa_nil)))))) (ss_one (s_raise0 (c := .stale) rfl tk c.x_Stale rfl)) (ss_nil)) (ss_never))
def N_Desk_of_rows : List Str := ["self", "words", "gap", "rows", "lines", "marks", "pairs", "better", "places", "items", "row", "turned_rows", "item", "mark"]
def ev_Desk_of_rows : EVS := svSeq (svAsg (evC (.int 1 0)) (etgN 2)) (svSeq (svIf (evB eqVV (evB atV (evVar 1) (evC (.int 0 0))) (evC (.str [100, 114, 97, 119]))) (svAsg (evCall f_number_of [] (eaC (evB atV (evVar 1) (evC (.int 1 0))) (eaN))) (etgN 2)) (svNil)) (svSeq (svIf (evOr (evB ltV (evVar 2) (evC (.int 1 0))) (evB gtV (evVar 2) (evC (.int 50 0)))) (svRaise1 .noLine .number (evC (.int 0 0))) (svNil)) (svSeq (svAsg (evMeth .desk f_Desk_rows_kept [] (evVar 0) eaN) (etgT [3, 4])) (svNo))))
def f_Desk_of_rows : List AV → List AO → Rs AV := mkF 2 14 ev_Desk_of_rows
theorem sc_Desk_of_rows : FnScope N_Desk_of_rows ["self", "words"] (defScope (inClass (top 100) 6)) := ⟨rfl, rfl, rfl, by decide +kernel, rfl, by decide +kernel, by decide +kernel⟩
theorem ok_Desk_of_rows (c : Fx K mg w) : ∃ fd, Df P w K mg base (L2N.CX P w) 8 (He.ma K (He.ga K "Desk") "of_rows") fd ["self", "words"] (spF (gp K q hq) f_Desk_of_rows) := by
  obtain ⟨fd_number_of, F_number_of⟩ := ok_number_of (P := P) (w := w) (base := base) c
  obtain ⟨fd_NoLine, F_NoLine⟩ := ok_XNoLine (P := P) (w := w) (base := base) c
  obtain ⟨fd_Desk_rows_kept, F_Desk_rows_kept⟩ := ok_Desk_rows_kept (P := P) (w := w) (base := base) c
  obtain ⟨fd, Fd⟩ := c.d_Desk_of_rows
  refine ⟨fd, Fd.ok sc_Desk_of_rows (fun vs H Q E h => spF_len h) (fun cdv A outer s H vs Q E hr h => ⟨tS (gp K q hq) E ev_Desk_of_rows, ?_, spF_body h⟩), Fd.bindsN fun _ _ _ _ _ _ us hl => (match us, hl with | [_, _], _ => rfl), Fd.kp⟩
  have nd : N_Desk_of_rows.Nodup := sc_Desk_of_rows.nd
  have tk : L2N.Takes (cxOf (L2N.CX P w) P w K mg base N_Desk_of_rows "Desk.of_rows" (defScope (inClass (top 100) 6)) (He.ma K (He.ga K "Desk") "of_rows") cdv A outer s H E) (fun cls d _ H => E cls d H) := L2N.takes_of rfl rfl rfl rfl
  have px : Passes (L2N.CX P w) (cxOf (L2N.CX P w) P w K mg base N_Desk_of_rows "Desk.of_rows" (defScope (inClass (top 100) 6)) (He.ma K (He.ga K "Desk") "of_rows") cdv A outer s H E) E := L2N.passes_call tk (fun _ _ _ _ h => h)
  have px0 : Passes (L2N.CX P w) (cxOf (L2N.CX P w) P w K mg base N_Desk_of_rows "Desk.of_rows" (defScope (inClass (top 100) 6)) (He.ma K (He.ga K "Desk") "of_rows") cdv A outer s H E) (fun _ _ _ => False) := L2N.passes_call tk (fun _ _ _ _ h => h.elim)
  have po : PassesOwn (model P w) (cxOf (L2N.CX P w) P w K mg base N_Desk_of_rows "Desk.of_rows" (defScope (inClass (top 100) 6)) (He.ma K (He.ga K "Desk") "of_rows") cdv A outer s H E).A (cxOf (L2N.CX P w) P w K mg base N_Desk_of_rows "Desk.of_rows" (defScope (inClass (top 100) 6)) (He.ma K (He.ga K "Desk") "of_rows") cdv A outer s H E).env (cxOf (L2N.CX P w) P w K mg base N_Desk_of_rows "Desk.of_rows" (defScope (inClass (top 100) 6)) (He.ma K (He.ga K "Desk") "of_rows") cdv A outer s H E).xe := L2.passes_of rfl
  exact ss_cons (sset 2 nd (se_int)) (ss_cons (s_if (st_cmp op_eq ok_eq (se_at (sv 1) (se_int)) (se_str (by decide +kernel)) (nomark _)) (ss_one (sset 2 nd (se_call (F_number_of.ok.mono (by decide)) hr rfl c.g_number_of F_number_of.kp F_number_of.b .nil d1 px (sa_cons (se_at (sv 1) (se_int)) (sa_nil))))) (ss_nil)) (ss_cons (s_if (pwpt (sw_or (st_cmp op_lt ok_lt (sv 2) (se_int) (nomark _)) (pw1o (st_cmp op_gt ok_gt (sv 2) (se_int) (nomark _))))) (ss_one (s_raise1 (c := .noLine) (f := .number) rfl tk c.y_NoLine (F_NoLine.ok.mono (by decide)) hr F_NoLine.b px0 rfl (se_int))) (ss_nil)) (ss_cons (s_asg (se_meth0 (c := .desk) (c.ks q hq) (by intro z; cases z <;> decide) (sv 0) c.t_Desk_rows_kept (F_Desk_rows_kept.ok.mono (by decide)) hr F_Desk_rows_kept.b .nil d1 px) (sg_tup (js := [3, 4]) rfl (pgs_cons (gn 3 nd) (pgs_cons (gn 4 nd) pgs_nil)))) (ss_never))))
def N_Desk_say : List Str := ["self", "line", "words"]
def ev_Desk_say : EVS := svSeq (svAsg (evSplit (evVar 1) (evC (.str [32]))) (etgN 2)) (svSeq (svIf (evB inV' (evB atV (evVar 2) (evC (.int 0 0))) (evN fTup (eaC (evC (.str [112, 111, 105, 110, 116])) (eaC (evC (.str [97, 114, 114, 111, 119])) (eaC (evC (.str [115, 97, 109, 101])) (eaC (evC (.str [109, 111, 115, 116])) (eaN))))))) (svRet (evMeth .desk f_Desk_put [] (evVar 0) (eaC (evVar 2) (eaN)))) (svNil)) (svSeq (svIf (evOr (evU fNotCount (evB atV (evVar 2) (evC (.int 0 0)))) (evB neVV (evN fLen (eaC (evVar 2) (eaN))) (evU fCount (evB atV (evVar 2) (evC (.int 0 0)))))) (svRaise1 .noLine .number (evC (.int 0 0))) (svNil)) (svSeq (svIf (evB inV' (evB atV (evVar 2) (evC (.int 0 0))) (evN fTup (eaC (evC (.str [100, 114, 111, 112])) (eaC (evC (.str [116, 117, 114, 110, 101, 100])) (eaC (evC (.str [114, 105, 110, 103])) (eaC (evC (.str [110, 101, 116])) (eaN))))))) (svNo) (svNil)) (svSeq (svIf (evB inV' (evB atV (evVar 2) (evC (.int 0 0))) (evN fTup (eaC (evC (.str [108, 101, 118, 101, 108])) (eaC (evC (.str [97, 103, 97, 105, 110])) (eaC (evC (.str [108, 101, 118, 101, 108, 115])) (eaN)))))) (svRet (evMeth .desk f_Desk_of_levels [] (evVar 0) (eaC (evB atV (evVar 2) (evC (.int 0 0))) (eaN)))) (svNil)) (svRet (evMeth .desk f_Desk_of_rows [] (evVar 0) (eaC (evVar 2) (eaN))))))))
def f_Desk_say : List AV → List AO → Rs AV := mkF 2 3 ev_Desk_say
theorem sc_Desk_say : FnScope N_Desk_say ["self", "line"] (defScope (inClass (top 100) 1)) := ⟨rfl, rfl, rfl, by decide +kernel, rfl, by decide +kernel, by decide +kernel⟩
theorem ok_Desk_say (c : Fx K mg w) : ∃ fd, Df P w K mg base (L2N.CX P w) 9 (He.ma K (He.ga K "Desk") "say") fd ["self", "line"] (spF (gp K q hq) f_Desk_say) := by
  obtain ⟨fd_Desk_put, F_Desk_put⟩ := ok_Desk_put (P := P) (w := w) (base := base) c
  obtain ⟨fd_NoLine, F_NoLine⟩ := ok_XNoLine (P := P) (w := w) (base := base) c
  obtain ⟨fd_Desk_of_levels, F_Desk_of_levels⟩ := ok_Desk_of_levels (P := P) (w := w) (base := base) c
  obtain ⟨fd_Desk_of_rows, F_Desk_of_rows⟩ := ok_Desk_of_rows (P := P) (w := w) (base := base) c
  obtain ⟨fd, Fd⟩ := c.d_Desk_say
  refine ⟨fd, Fd.ok sc_Desk_say (fun vs H Q E h => spF_len h) (fun cdv A outer s H vs Q E hr h => ⟨tS (gp K q hq) E ev_Desk_say, ?_, spF_body h⟩), Fd.bindsN fun _ _ _ _ _ _ us hl => (match us, hl with | [_, _], _ => rfl), Fd.kp⟩
  have nd : N_Desk_say.Nodup := sc_Desk_say.nd
  have tk : L2N.Takes (cxOf (L2N.CX P w) P w K mg base N_Desk_say "Desk.say" (defScope (inClass (top 100) 1)) (He.ma K (He.ga K "Desk") "say") cdv A outer s H E) (fun cls d _ H => E cls d H) := L2N.takes_of rfl rfl rfl rfl
  have px : Passes (L2N.CX P w) (cxOf (L2N.CX P w) P w K mg base N_Desk_say "Desk.say" (defScope (inClass (top 100) 1)) (He.ma K (He.ga K "Desk") "say") cdv A outer s H E) E := L2N.passes_call tk (fun _ _ _ _ h => h)
  have px0 : Passes (L2N.CX P w) (cxOf (L2N.CX P w) P w K mg base N_Desk_say "Desk.say" (defScope (inClass (top 100) 1)) (He.ma K (He.ga K "Desk") "say") cdv A outer s H E) (fun _ _ _ => False) := L2N.passes_call tk (fun _ _ _ _ h => h.elim)
  have po : PassesOwn (model P w) (cxOf (L2N.CX P w) P w K mg base N_Desk_say "Desk.say" (defScope (inClass (top 100) 1)) (He.ma K (He.ga K "Desk") "say") cdv A outer s H E).A (cxOf (L2N.CX P w) P w K mg base N_Desk_say "Desk.say" (defScope (inClass (top 100) 1)) (He.ma K (He.ga K "Desk") "say") cdv A outer s H E).env (cxOf (L2N.CX P w) P w K mg base N_Desk_say "Desk.say" (defScope (inClass (top 100) 1)) (He.ma K (He.ga K "Desk") "say") cdv A outer s H E).xe := L2.passes_of rfl
  exact ss_cons (sset 2 nd (se_split (sv 1) (se_str (by decide +kernel)))) (ss_cons (s_if (st_cmp op_in_seq (ok_in (K := K)) (se_at (sv 2) (se_int)) (se_tup (sa_cons (se_str (by decide +kernel)) (sa_cons (se_str (by decide +kernel)) (sa_cons (se_str (by decide +kernel)) (sa_cons (se_str (by decide +kernel)) (sa_nil)))))) (by with_unfolding_all rfl)) (ss_one (s_ret (se_meth (c := .desk) (c.ks q hq) (by intro z; cases z <;> decide) (sv 0) c.t_Desk_put (F_Desk_put.ok.mono (by decide)) hr F_Desk_put.b .nil d1 px (sa_cons (sv 2) (sa_nil))))) (ss_nil)) (ss_cons (s_if (pwpt (sw_or (st_notCount c.kC c.g_COUNTS rfl (se_at (sv 2) (se_int))) (pw1o (st_cmp op_ne ok_ne (se_callB c_len (ok_len (K := K)) rfl c.n_len boot_len (sa_cons (sv 2) (sa_nil))) (se_count c.kC c.g_COUNTS rfl (se_at (sv 2) (se_int))) (nomark _))))) (ss_one (s_raise1 (c := .noLine) (f := .number) rfl tk c.y_NoLine (F_NoLine.ok.mono (by decide)) hr F_NoLine.b px0 rfl (se_int))) (ss_nil)) (ss_cons (s_if (st_cmp op_in_seq (ok_in (K := K)) (se_at (sv 2) (se_int)) (se_tup (sa_cons (se_str (by decide +kernel)) (sa_cons (se_str (by decide +kernel)) (sa_cons (se_str (by decide +kernel)) (sa_cons (se_str (by decide +kernel)) (sa_nil)))))) (by with_unfolding_all rfl)) (ss_never) (ss_nil)) (ss_cons (s_if (st_cmp op_in_seq (ok_in (K := K)) (se_at (sv 2) (se_int)) (se_tup (sa_cons (se_str (by decide +kernel)) (sa_cons (se_str (by decide +kernel)) (sa_cons (se_str (by decide +kernel)) (sa_nil))))) (by with_unfolding_all rfl)) (ss_one (s_ret (se_meth (c := .desk) (c.ks q hq) (by intro z; cases z <;> decide) (sv 0) c.t_Desk_of_levels (F_Desk_of_levels.ok.mono (by decide)) hr F_Desk_of_levels.b .nil d1 px (sa_cons (se_at (sv 2) (se_int)) (sa_nil))))) (ss_nil)) (ss_one (s_ret (se_meth (c := .desk) (c.ks q hq) (by intro z; cases z <;> decide) (sv 0) c.t_Desk_of_rows (F_Desk_of_rows.ok.mono (by decide)) hr F_Desk_of_rows.b .nil d1 px (sa_cons (sv 2) (sa_nil)))))))))
def N_bound : List Str := ["count", "wishes", "flow", "comes", "wish", "many"]
def ev_bound : EVS := svSeq (svIf (evOr (evB neVV (evN fLen (eaC (evVar 2) (eaN))) (evN fLen (eaC (evVar 1) (eaN)))) (evN fAny (eaC (evLc1 (eiL (evVar 2)) 5 (evB ltV (evVar 5) (evC (.int 0 0)))) (eaN)))) (svRaise0 .noFlow) (svNil)) (svSeq (svAsg (evCall f_needs_of [] (eaC (evVar 0) (eaC (evLc2 (eiZ (eaC (evVar 1) (eaC (evVar 2) (eaN)))) 4 5 (evB addV (evU (fSl none (some 3)) (evVar 4)) (evN fTup (eaC (evVar 5) (eaN))))) (eaN)))) (etgN 3)) (svSeq (svIf (evB neVV (evVar 3) (evCall f_needs_of [] (eaC (evVar 0) (eaC (evVar 1) (eaN))))) (svRaise0 .noFlow) (svNil)) (svNo)))
def f_bound : List AV → List AO → Rs AV := mkF 3 6 ev_bound
theorem sc_bound : FnScope N_bound ["count", "wishes", "flow"] (defScope (top 102)) := ⟨rfl, rfl, rfl, by decide +kernel, rfl, by decide +kernel, by decide +kernel⟩
theorem ok_bound (c : Fx K mg w) : ∃ fd, Df P w K mg base (L2N.CX P w) 2 (He.ga K "bound") fd ["count", "wishes", "flow"] (spF (gp K q hq) f_bound) := by
  obtain ⟨fd_needs_of, F_needs_of⟩ := ok_needs_of (P := P) (w := w) (base := base) c
  obtain ⟨fd, Fd⟩ := c.d_bound
  refine ⟨fd, Fd.ok sc_bound (fun vs H Q E h => spF_len h) (fun cdv A outer s H vs Q E hr h => ⟨tS (gp K q hq) E ev_bound, ?_, spF_body h⟩), Fd.bindsN fun _ _ _ _ _ _ us hl => (match us, hl with | [_, _, _], _ => rfl), Fd.kp⟩
  have nd : N_bound.Nodup := sc_bound.nd
  have tk : L2N.Takes (cxOf (L2N.CX P w) P w K mg base N_bound "bound" (defScope (top 102)) (He.ga K "bound") cdv A outer s H E) (fun cls d _ H => E cls d H) := L2N.takes_of rfl rfl rfl rfl
  have px : Passes (L2N.CX P w) (cxOf (L2N.CX P w) P w K mg base N_bound "bound" (defScope (top 102)) (He.ga K "bound") cdv A outer s H E) E := L2N.passes_call tk (fun _ _ _ _ h => h)
  have px0 : Passes (L2N.CX P w) (cxOf (L2N.CX P w) P w K mg base N_bound "bound" (defScope (top 102)) (He.ga K "bound") cdv A outer s H E) (fun _ _ _ => False) := L2N.passes_call tk (fun _ _ _ _ h => h.elim)
  have po : PassesOwn (model P w) (cxOf (L2N.CX P w) P w K mg base N_bound "bound" (defScope (top 102)) (He.ga K "bound") cdv A outer s H E).A (cxOf (L2N.CX P w) P w K mg base N_bound "bound" (defScope (top 102)) (He.ga K "bound") cdv A outer s H E).env (cxOf (L2N.CX P w) P w K mg base N_bound "bound" (defScope (top 102)) (He.ga K "bound") cdv A outer s H E).xe := L2.passes_of rfl
  exact ss_cons (s_if (pwpt (sw_or (st_cmp op_ne ok_ne (se_callB c_len (ok_len (K := K)) rfl c.n_len boot_len (sa_cons (sv 2) (sa_nil))) (se_callB c_len (ok_len (K := K)) rfl c.n_len boot_len (sa_cons (sv 1) (sa_nil))) (nomark _)) (pw1o (st_val (se_callB (cr_any rfl) (ok_any (K := K)) rfl c.n_any boot_any (sa_cons (se_lc1 rfl nd (si_list (sv 2)) (blkOk_by (N := N_bound) (sc := defScope (top 102)) (by decide +kernel)) (fun _ _ _ _ _ => gn 5 nd) (fun _ _ _ _ _ => se_cmp op_lt ok_lt (sv 5) (se_int) (nomark _))) (sa_nil))))))) (ss_one (s_raise0 (c := .noFlow) rfl tk c.x_NoFlow rfl)) (ss_nil)) (ss_cons (sset 3 nd (se_call (F_needs_of.ok.mono (by decide)) hr rfl c.g_needs_of F_needs_of.kp F_needs_of.b .nil d1 px (sa_cons (sv 0) (sa_cons (se_lc2 (by decide) rfl nd (si_zip rfl c.n_zip (sa_cons (sv 1) (sa_cons (sv 2) (sa_nil)))) (blkOk_by (N := N_bound) (sc := defScope (top 102)) (by decide +kernel)) (fun _ _ _ _ _ => pg_tup rfl (pgs_cons (gn 4 nd) (pgs_cons (gn 5 nd) pgs_nil))) (fun _ _ _ _ _ => se_op o_add ok_add (se_slTo (sv 4)) (se_tup (sa_cons (sv 5) (sa_nil))))) (sa_nil))))) (ss_cons (s_if (st_cmp op_ne ok_ne (sv 3) (se_call (F_needs_of.ok.mono (by decide)) hr rfl c.g_needs_of F_needs_of.kp F_needs_of.b .nil d1 px (sa_cons (sv 0) (sa_cons (sv 1) (sa_nil)))) (nomark _)) (ss_one (s_raise0 (c := .noFlow) rfl tk c.x_NoFlow rfl)) (ss_nil)) (ss_never)))
end
end AE

/-! a def called while an exception is handled (at p), whatever that exception's context is -/
namespace AE
open PySem L2 PySem.Spec
open PyProof.Rows hiding St
open L2H (RoomH PinOk cxH inv_startH)
structure FnG (P : Program) (w : World) (K : PySem.W.Frag) (mg : Str → Option Value) (base : Heap) (CX : CXT) (k : Nat) (f : Addr) (fd : FuncData) (ps : List Str) (p : Addr × Obj) (sp : Sp) : Prop where
  len : ∀ vs H Q E, sp vs H Q E → vs.length = ps.length
  go : ∀ (A : Around) (outer : List Env) (s : Shared) (H : Hp) (args : Args) (us : List Value) (vs : List V) (Q : VK) (E : XK), RoomH k A → PinOk outer H s p → Env0 P w K mg base A outer s H → BindsTo s fd args (ps.zip us) → Vals vs us → sp vs H Q E → codeAny (model P w) A (.call (.ref f) args) (CR CX outer P w H s Q E) s
theorem fnG_of {CX : CXT} {P : Program} {w : World} {K : PySem.W.Frag} {mg : Str → Option Value} {base : Heap} {k : Nat} {f : Addr} {fd : FuncData} {x qual : Str} {pa : Arguments} {body : List Stmt} {sc : Scope} {dvs : List V} {kws : List (Str × V)} {N ps : List Str} {sp : Sp} {p : Addr × Obj}
    (Fd : FunD K x qual pa body sc dvs kws f fd) (S : FnScope N ps sc) (len : ∀ vs H Q E, sp vs H Q E → vs.length = ps.length)
    (hb : ∀ (cdv : Value) (A : Around) (outer : List Env) (s : Shared) (H : Hp) (vs : List V) (Q : VK) (E : XK), RoomH k (A.deeper (envOfC qual sc s.heap.objs.size f cdv)) → sp vs H Q E →
      ∃ t, PSs (cxH CX P w K mg base N qual sc f cdv A outer s H E p) body t ∧ t { nx := fun _ H2 => Q .non H2, rt := Q } (L2.start N vs) H) : FnG P w K mg base CX (k + 1) f fd ps p sp := by
  obtain ⟨oc, od, dV, kV, doc, pm, an, cdv, ct, osl, rfl, look, isC, _, _⟩ := Fd.ex
  refine ⟨len, fun A outer s H args us vs Q E room pin st bd rel prom => ?_⟩
  have cnt := len _ _ _ _ prom
  have inK : K.In s.heap := st.mod.kin.keeps fun b o z => (st.bs b o z).1
  have nolim : s.heap.NoLimit := st.mod.nolimit.keeps fun b o z => (st.bs b o z).1
  have kinds : ∀ y ∈ ps.zip us, sc.names.lookup y.1 = some .local ∨ (sc.names.lookup y.1 = some .cell ∧ ((cellsFrom (s.heap.objs.size + 1) sc.names []).lookup y.1).isSome = true) := fun ⟨n, v⟩ hy => by
    rcases S.par n (List.of_mem_zip hy).1 with z | z
    · exact .inl z
    · exact .inr ⟨z, PySem.W.cellsFrom_some _ _ _ (.inl z)⟩
  refine codeAny_call_function room.depth (inK _ _ look) rfl S.co S.gen rfl (PySem.W.codeRec_of inK isC) (bd _ _ _ _ ?_)
  refine wpAny_newFunctionEnv_cells S.kind kinds fun env henv s1 called => ?_
  subst henv
  refine ⟨nolim.keeps called.toInCall.keep, codeAny_func ?_⟩
  obtain ⟨t, ht, hq⟩ := hb cdv A outer s H vs Q E (room.deeper _) prom
  have I0 := inv_startH (CX := CX) (E := E) S pin st cnt rel called
  refine wpAny_mono (ht.run [] s1 (L2.start N vs) H _ I0 hq) (fun fl s2 hs => ?_) fun e s2 hs => hs
  cases fl with
  | ret u =>
    obtain ⟨v, σ2, H2, J, rv, q⟩ := hs
    exact ⟨v, H2, J.os, J.bare, J.base, J.hok, rv, q⟩
  | next =>
    obtain ⟨σ2, H2, J, q⟩ := hs
    exact ⟨V.non, H2, J.os, J.bare, J.base, J.hok, rfl, q⟩
  | brk =>
    obtain ⟨_, _, _, q⟩ := hs
    exact q.elim
  | cont =>
    obtain ⟨_, _, _, q⟩ := hs
    exact q.elim
def tCallG (sp : Sp) (E : XK) (t : TA) : TE := fun σ H Q => t σ H fun vs H1 => sp vs H1 Q E
theorem pe_callG {X : Cx} {CX : CXT} {k : Nat} {f : Addr} {fd : FuncData} {ps : List Str} {p : Addr × Obj} {sp : Sp} {E : XK} {x : Str} {px pos : Pos} {e : Expr} {es : List Expr} {t : TA} (Fo : FnG X.prog X.w X.K X.mg X.base CX k f fd ps p sp) (room : RoomH k X.A) (hp : p ∈ X.pn) (gx : Gl X x) (mx : X.mg x = some (.ref f)) (kp : PySem.W.keepIn X.K (.ref f) = true) (bd : Binds X.K fd ps [])
    (pass : Passes CX X E) (ha : PA X (e :: es) t) (db : (x == ("__debug__" : Str)) = false := by decide) (se : starEach (e :: es) X.env = (false, eval e X.env) :: starEach es X.env := by rfl) (pl : (backTo pos (starEach es X.env)).any (·.1) = false := by rfl) :
    PE X (.Call (.Name x px) (e :: es) [] pos) (tCallG sp E t) := by
  refine ⟨fun pins s0 σ H Q I0 hw => ?_⟩
  refine wpAny_Call_Name_kw (ld_glob I0 gx mx ?_ db)
  refine PySem.W.callWith_K (h₀ := X.base) I0.ok.mod.kin kp (thn (ha.run pos pins s0 σ H _ I0 hw) fun us s vs0 => ?_) se pl
  obtain ⟨vs, H1, I, rel, prom⟩ := vs0
  refine ⟨I.kIn, ?_⟩
  have cnt : us.length = ps.length := by rw [← rel.length]; exact Fo.len _ _ _ _ prom
  have b := bd s us I.kIn (by rw [List.append_nil]; exact cnt)
  rw [List.append_nil] at b
  have at1 := I.pin p (List.mem_append_left _ hp)
  have pin : PinOk X.stack H1 s p := ⟨at1.1, at1.2.1, fun z => (List.mem_cons.mp (I.stkSub p.1 z)).elim at1.2.2.1 at1.2.2.2.1, at1.2.2.2.2⟩
  refine wpAny_call (codeAny_mono (Fo.go X.A X.stack s H1 ⟨us, []⟩ us vs Q E room pin I.env0 b rel prom) fun r s2 hr => ?_)
  cases r with
  | error err => exact pass pins σ H1 s err s2 I hr
  | ok fl =>
    cases fl with
    | ret u => exact I.after hr
    | next => exact hr.elim
    | brk => exact hr.elim
    | cont => exact hr.elim

/-! ### isinstance of a pinned exception, with a dict or without -/
def DIn (H : Hp) (d : Option Addr) : Prop := d = none ∨ ∃ dd o, d = some dd ∧ H dd = some o
def rIsX (K : PySem.W.Frag) (D a : Addr) (d : Option Addr) : List V → Hp → VK → Prop := fun xs H Q => ∃ (c : V) (cv : Value) (b : Bool), xs = [.ref a, c] ∧ (∀ u, RelV c u → u = cv) ∧ PySem.W.kitOne K (.ref D) cv = some b ∧ DIn H d ∧ Q (.bl b) H
theorem call_isX {X : Cx} {a D : Addr} {d : Option Addr} {oe : Obj} (hp : (a, oe) ∈ X.pn) (C : ExcC X.K D) (hz : Zc (.ref D) d oe) (hf : ∃ vs, oe.data = .fields vs) : CallR X (.builtin "isinstance") (rIsX X.K D a d) := by
  intro pins s σ H xs us Q I rel hw
  obtain ⟨c, cv, b, rfl, hcv, ek, hd, q⟩ := hw
  cases rel with
  | cons r1 rel =>
    cases rel with
    | cons r2 rel =>
      cases rel
      cases r1
      have ec := hcv _ r2
      subst ec
      obtain ⟨got, _⟩ := I.pin (a, oe) (List.mem_append.mpr (.inl hp))
      obtain ⟨vs, hv⟩ := hf
      have hcls : (PySem.W.clsIn X.K D).isSome = true := by
        obtain ⟨cd, e1, _⟩ := PySem.W.any_some C.hd
        rw [e1]
        rfl
      have J : ∃ od, PySem.W.InstAt s.heap a oe D od := by
        obtain ⟨oc, odt, oda, osl⟩ := oe
        obtain ⟨h1, h2⟩ := hz
        dsimp only at h1 h2 hv
        subst h1 h2 hv
        rcases hd with rfl | ⟨dd, o, rfl, ho⟩
        · exact ⟨none, got, rfl, rfl, trivial⟩
        · obtain ⟨u, hu⟩ := objOk_get (I.hok dd o ho)
          exact ⟨some u, got, rfl, rfl, hu⟩
      obtain ⟨od, J⟩ := J
      exact PySem.W.kia_one (PySem.W.kitx_exc hcls C.hg C.hk C.hs C.ha C.hn C.ht C.hm) I.kIn J ek (fun z => nomatch z) fun tk => ⟨.bl b, H, I.kept (t' := tk) fun _ _ z => z, rfl, q⟩
end AE

namespace AE
open PySem L2 PySem.Spec
open PyProof.Rows hiding St
open Evl
open L2H (RoomH PinOk cxH)
/-! ### _law_kinds -/
theorem DIn.ex {H H' : Hp} {d : Option Addr} (h : DIn H d) (e : Ex H H') : DIn H' d := by
  rcases h with h | ⟨dd, o, h1, h2⟩
  · exact .inl h
  · exact .inr ⟨dd, o, h1, e _ _ h2⟩
theorem ev_isX {K : PySem.W.Frag} {D a C : Addr} {d : Option Addr} {σ : L2.St} {H : Hp} {b : Bool} (hs : σ[0]? = some (some (.ref a))) (hd : DIn H d) (k : PySem.W.kitOne K (.ref D) (.ref C) = some b) : Ev (tCB (rIsX K D a d) (tCons (tVar 0) (tCons (tC (.ref C)) tNil))) σ H (.bl b) := fun H1 e Q q =>
  ⟨.ref a, hs, .ref C, .ref C, b, rfl, fun u r => r, k, hd.ex e, q H1 (Ex.refl H1)⟩
theorem el_cat {σ : L2.St} {H : Hp} {ta tb : TE} {l : Addr} {xs zs : List V} (ha : Ev ta σ H (.ref l)) (hl : H l = some (.lst xs)) (hb : EvL tb σ H zs) (hz : xs.length + zs.length ≤ 100000) : EvL (tOp rCat ta tb) σ H (xs ++ zs) := fun H1 e Q q =>
  ha H1 e _ fun H2 e2 => hb H2 (e.trans e2) _ fun p H3 hp e3 h3 => ⟨l, p, xs, zs, rfl, rfl, e3 _ _ (e2 _ _ (e _ _ hl)), h3, szl hz, fun r hr => q r _ (fresh_back (e2.trans e3) hr) ((e2.trans e3).trans (Ex.new hr)) upd_same⟩
def spKinds (a : Addr) (d : Option Addr) (bs : List Bool) : Sp := fun vs H Q _ => vs = [.ref a] ∧ DIn H d ∧ ∀ p H', H p = none → Ex H H' → H' p = some (.lst (bs.map V.bl)) → Q (.ref p) H'
def flags (x : Str) : List Bool := xNames.map fun y => decide (x = y)
structure KitF (K : PySem.W.Frag) (x : Str) : Prop where
  one : ∀ y ∈ xNames, PySem.W.kitOne K (.ref (He.ga K x)) (.ref (He.ga K y)) = some (decide (x = y))
  base : PySem.W.kitOne K (.ref (He.ga K x)) (.ref (He.ga K "DrawError")) = some true
  ve : PySem.W.kitOne K (.ref (He.ga K x)) (.type "ValueError") = some true
  exc : ExcC K (He.ga K x)
theorem sc_kinds : FnScope ["_law_e", "_law_found"] ["_law_e"] (defScope (top 105)) := ⟨rfl, rfl, rfl, by decide +kernel, rfl, by decide +kernel, by decide +kernel⟩
section
variable {P : Program} {w : World} {K : PySem.W.Frag} {mg : Str → Option Value} {base : Heap}
theorem ok_kinds {CX : CXT} (c : Fx K mg w) {x : Str} (kf : KitF K x) {a : Addr} {d : Option Addr} {oe : Obj} (hz : Zc (.ref (He.ga K x)) d oe) (hf : ∃ vs, oe.data = .fields vs) :
    ∃ fd, FnG P w K mg base CX 1 (He.ga K "_law_kinds") fd ["_law_e"] (a, oe) (spKinds a d (flags x)) ∧ Binds K fd ["_law_e"] [] ∧ PySem.W.keepIn K (.ref (He.ga K "_law_kinds")) = true := by
  obtain ⟨fd, Fd⟩ := c.d_law_kinds
  refine ⟨fd, fnG_of Fd sc_kinds (fun vs H Q E h => by obtain ⟨rfl, _⟩ := h; rfl) (fun cdv A outer s H vs Q E hr h => ?_), Fd.bindsN fun _ _ _ _ _ _ us hl => (match us, hl with | [_], _ => rfl), Fd.kp⟩
  have nd := sc_kinds.nd
  have is : ∀ (y : Str) {p1 p2 p3 pos : Pos}, mg y = some (.ref (He.ga K y)) → Gl (cxH CX P w K mg base ["_law_e", "_law_found"] "_law_kinds" (defScope (top 105)) (He.ga K "_law_kinds") cdv A outer s H E (a, oe)) y → (y == ("__debug__" : Str)) = false →
      PE (cxH CX P w K mg base ["_law_e", "_law_found"] "_law_kinds" (defScope (top 105)) (He.ga K "_law_kinds") cdv A outer s H E (a, oe)) (.Call (.Name "isinstance" p1) [.Name "_law_e" p2, .Name y p3] [] pos)
        (tCB (rIsX K (He.ga K x) a d) (tCons (tVar 0) (tCons (tC (.ref (He.ga K y))) tNil))) := fun y {p1 p2 p3 pos} hy gy dy =>
    pe_callB (call_isX (X := cxH CX P w K mg base ["_law_e", "_law_found"] "_law_kinds" (defScope (top 105)) (He.ga K "_law_kinds") cdv A outer s H E (a, oe)) List.mem_cons_self kf.exc hz hf) rfl c.n_isinstance boot_isinstance (pa_cons (pv 0) (pa_cons (pe_glob gy hy rfl dy) pa_nil))
  refine ⟨_, pss_cons (ps_set (i := 1) nd rfl (.inl rfl) (pe_lst (pa_cons (is "NoName" c.g_NoName rfl rfl) (pa_cons (is "Taken" c.g_Taken rfl rfl) (pa_cons (is "Alone" c.g_Alone rfl rfl) (pa_cons (is "NoNumber" c.g_NoNumber rfl rfl) pa_nil))))))
    (pss_cons (ps_set (i := 1) nd rfl (.inl rfl) (pe_op op_cat (pv 1) (pe_lst (pa_cons (is "TooMany" c.g_TooMany rfl rfl) (pa_cons (is "NoFlow" c.g_NoFlow rfl rfl) (pa_cons (is "TooLong" c.g_TooLong rfl rfl) (pa_cons (is "Stale" c.g_Stale rfl rfl) pa_nil)))))))
      (pss_one (ps_ret (pe_op op_cat (pv 1) (pe_lst (pa_cons (is "NoPoint" c.g_NoPoint rfl rfl) (pa_cons (is "NoSuch" c.g_NoSuch rfl rfl) (pa_cons (is "NoLine" c.g_NoLine rfl rfl) (pa_cons (is "Ring" c.g_Ring rfl rfl) pa_nil))))))))), ?_⟩
  obtain ⟨rfl, hd, hQ⟩ := h
  refine q_asgL (el_lst (ea_cons (ev_isX rfl hd (kf.one "NoName" (by decide +kernel))) (ea_cons (ev_isX rfl hd (kf.one "Taken" (by decide +kernel))) (ea_cons (ev_isX rfl hd (kf.one "Alone" (by decide +kernel))) (ea_cons (ev_isX rfl hd (kf.one "NoNumber" (by decide +kernel))) ea_nil)))) (show 4 ≤ 100000 by decide)) fun p1 H1 f1 e1 l1 => ?_
  have hd1 := hd.ex e1
  refine q_asgL (el_cat (ev_var rfl) l1 (el_lst (ea_cons (ev_isX rfl hd1 (kf.one "TooMany" (by decide +kernel))) (ea_cons (ev_isX rfl hd1 (kf.one "NoFlow" (by decide +kernel))) (ea_cons (ev_isX rfl hd1 (kf.one "TooLong" (by decide +kernel))) (ea_cons (ev_isX rfl hd1 (kf.one "Stale" (by decide +kernel))) ea_nil)))) (show 4 ≤ 100000 by decide)) (show 8 ≤ 100000 by decide)) fun p2 H2 f2 e2 l2 => ?_
  have hd2 := hd1.ex e2
  refine el_cat (ev_var rfl) l2 (el_lst (ea_cons (ev_isX rfl hd2 (kf.one "NoPoint" (by decide +kernel))) (ea_cons (ev_isX rfl hd2 (kf.one "NoSuch" (by decide +kernel))) (ea_cons (ev_isX rfl hd2 (kf.one "NoLine" (by decide +kernel))) (ea_cons (ev_isX rfl hd2 (kf.one "Ring" (by decide +kernel))) ea_nil)))) (show 4 ≤ 100000 by decide)) (show 12 ≤ 100000 by decide) H2 (Ex.refl H2) _ fun p3 H3 f3 e3 l3 => ?_
  exact hQ p3 H3 (fresh_back e1 (fresh_back e2 f3)) (e1.trans (e2.trans e3)) l3
end
end AE

/-! a list comprehension whose first element raises -/
namespace AE
open PySem L2 PySem.Spec
open PyProof.Rows hiding St
theorem cx_l2 {P : Program} {w : World} {outer : List Env} {H : Hp} {s : Shared} {E : XK} {e : Value} {s' : Shared} (h : L2N.CX P w outer H s E e s') : L2.CX P w outer H s E e s' := by
  obtain ⟨a, B, H', cls, d, e1, fl, r⟩ := h
  exact ⟨a, B, H', cls, d, e1, L2H.flyingZ_imp (fun o z => z.zc) fl, r⟩
theorem FnOk.l2 {P : Program} {w : World} {K : PySem.W.Frag} {mg : Str → Option Value} {base : Heap} {k : Nat} {f : Addr} {fd : FuncData} {ps : List Str} {sp : Sp} (F : FnOk P w K mg base (L2N.CX P w) k f fd ps sp) : FnOk P w K mg base (L2.CX P w) k f fd ps sp :=
  ⟨F.len, fun A outer s H args us vs Q E hr he hb hv hs => codeAny_mono (F.run A outer s H args us vs Q E hr he hb hv hs) fun r s' h => by
    cases r with
    | error e => exact cx_l2 h
    | ok fl => cases fl <;> exact h⟩
theorem Df.l2 {P : Program} {w : World} {K : PySem.W.Frag} {mg : Str → Option Value} {base : Heap} {k : Nat} {f : Addr} {fd : FuncData} {ps : List Str} {sp : Sp} (F : Df P w K mg base (L2N.CX P w) k f fd ps sp) : Df P w K mg base (L2.CX P w) k f fd ps sp := ⟨FnOk.l2 F.ok, F.b, F.kp⟩
section
variable {X : Cx}
abbrev blkR (X : Cx) (s : Shared) (H : Hp) (scope : Scope) (ce : Env) (fp : List Addr) : Cx := (X.blk s H scope ce fp).wish (notedBy (model X.prog X.w) X.A ce (CompFails (model X.prog X.w) X.A X.xe ce))
def tLcR (wi : TI) (g : TG) (te : TE) (vs : List Nat) : TE := fun σ H Q => wi σ H fun J H1 => ∀ D, H1 D = none → J.go 0 (upd H1 D (.lst [])) ∧ ∀ x H', J.yld 0 (upd H1 D (.lst [])) x H' → g x (wipe σ vs) H' fun σ2 H2 => te σ2 H2 fun _ _ => False
theorem pe_lcR {elt tg iter : Expr} {scope : Scope} {own : List (Str × Nat)} {pos : Pos} {wi : TI} {g : TG} {te : TE} (cm : X.calm = true) (hN : X.N.Nodup) (hi : PI X tg iter wi) (ok : BlkOk X.N X.env.scope scope own)
    (hg : ∀ (s : Shared) (H : Hp) (C : Addr) (cl : List (Str × Addr)) (fp : List Addr), PG (X.blk s H scope (compEnvC scope cl C X.env) fp) tg g)
    (he : ∀ (s : Shared) (H : Hp) (cl : List (Str × Addr)) (fp : List Addr) (pins : List (Addr × Obj)) (σ : L2.St), Inv X pins σ H s → (∀ b ∈ fp, FpOk X pins H b ∧ b < s.heap.objs.size) → PE (blkR X s H scope (compEnvC scope cl s.heap.objs.size X.env) fp) elt te)
    (hs : ∀ x, foldedSetIterable iter X.env x = pure x := by intro _; rfl) : PE X (.ListComp elt [⟨tg, iter, [], 0⟩] scope pos) (tLcR wi g te (own.map (·.2))) := by
  refine ⟨fun pins s σ H Q I hw => ?_⟩
  rw [eval_ListComp]
  have free : ∀ y ∈ scope.names, y.2 = .free → ∃ c, X.env.cells.lookup y.1 = some c := fun y hy e => by
    rcases ok.free y hy e with k | k
    · exact I.ok.has _ (.inl k)
    · exact I.ok.has _ (.inr k)
  refine comprehension_at (use := none) rfl hs (closure_ok free) ok.kind (fun y hy e => by rw [ok.uniq y hy, e]) (thn (hi.run pins s σ H _ I hw) fun xv s1 hx => thn hx fun itv s2 h2 => ?_)
  obtain ⟨it, fp, tn, J, H2, e, I2, T, st2, f2, q⟩ := h2
  subst e
  refine wpAny_newObj_type (newEnv_comp ?_) (by show 0 ≤ sizeLine; decide)
  generalize hD : s2.heap.objs.size = D
  have hDn : H2 D = none := I2.hok.fresh (Nat.le_of_eq hD)
  obtain ⟨go, step⟩ := q D hDn
  generalize hs3 : ({ s2 with heap := s2.heap.push { cls := .type "list", data := .seq ([] : List Value).toArray } } : Shared) = s3
  have I3 : Inv X pins σ (upd H2 D (.lst [])) s3 := by
    rw [← hs3]
    refine Inv.laid (t' := s2.toks) I2 (fun b o e => Heap.get?_push_of_some _ e) (Nat.le_of_eq hD) ⟨Nat.zero_le _, [], 0, .nil, ?_⟩
    rw [← hD]
    exact Heap.get?_push_size _ rfl
  have heap3 : s3.heap = s2.heap.push { cls := .type "list", data := .seq ([] : List Value).toArray } := by rw [← hs3]
  have lt2 : ∀ b ∈ fp, b < s2.heap.objs.size := fun b hb => by
    obtain ⟨o, e, _⟩ := T.obj _ _ st2 b hb
    exact Heap.lt_size e
  have f3 : ∀ b ∈ fp, FpOk X pins (upd H2 D (.lst [])) b ∧ b < s3.heap.objs.size := fun b hb => by
    have lt := lt2 b hb
    refine ⟨⟨?_, (f2 b hb).2⟩, by rw [heap3, Heap.size_push]; exact Nat.lt_succ_of_lt lt⟩
    rw [upd_ne (by rw [← hD]; exact Nat.ne_of_lt lt)]
    exact (f2 b hb).1
  have st3 : tn 0 s3.heap := T.keep _ _ _ st2 fun b _ o e => by rw [heap3]; exact Heap.get?_push_of_some _ e
  have I4 := block_start I3 ok hN f3
  have pg := hg s3 (upd H2 D (.lst [])) s3.heap.objs.size (cellsFrom (s3.heap.objs.size + 1) scope.names (cloFrom X.env.cells scope.names [])) fp
  have pe := he s3 (upd H2 D (.lst [])) (cellsFrom (s3.heap.objs.size + 1) scope.names (cloFrom X.env.cells scope.names [])) fp pins σ I3 f3
  have nfp : ∀ b ∈ fp, (upd H2 D (.lst [])) b = none := fun b hb => (f3 b hb).1.1
  show codeAny _ _ (.compStart (.ListComp elt [⟨tg, iter, [], 0⟩] scope pos) 0 (.ref it) (.ref D) (compEnvC scope (cellsFrom (s3.heap.objs.size + 1) scope.names (cloFrom X.env.cells scope.names [])) s3.heap.objs.size X.env)) (compEnds (model X.prog X.w) X.A X.xe none (EP X pins σ Q) (.ref D) (compEnvC scope (cellsFrom (s3.heap.objs.size + 1) scope.names (cloFrom X.env.cells scope.names [])) s3.heap.objs.size X.env)) { s3 with heap := pushCells (s3.heap.push { cls := .type "dict", data := .dict #[] }) scope.names }
  generalize hce : compEnvC scope (cellsFrom (s3.heap.objs.size + 1) scope.names (cloFrom X.env.cells scope.names [])) s3.heap.objs.size X.env = ce at I4 pg pe ⊢
  generalize hH3 : upd H2 D (.lst []) = H3 at I3 I4 pg pe nfp f3 go step
  generalize hs4 : ({ s3 with heap := pushCells (s3.heap.push { cls := .type "dict", data := .dict #[] }) scope.names } : Shared) = s4 at I4 ⊢
  have st4 : tn 0 s4.heap := T.keep _ _ _ st3 fun b _ o e => by rw [← hs4]; exact pushCells_keeps _ _ _ _ (Heap.get?_push_of_some _ e)
  have stat : ∀ {σ' : L2.St} {H' : Hp} {s' : Shared}, Inv (X.blk s3 H3 scope ce fp) [] σ' H' s' → (∀ b ∈ fp, H' b = none) → ∀ b ∈ fp, FpOk (X.blk s3 H3 scope ce fp) [] H' b := fun {σ' H' s'} Iz hn b hb =>
    ⟨hn b hb, (Iz.ok.exf b hb).1, Iz.ok.exfs b hb, .inl hb, fun x c e => (Iz.ok.exf b hb).2 x c e, fun p hp => absurd (show p ∈ ([] : List (Addr × Obj)) ++ [] from hp) (by simp)⟩
  refine codeAny_compStart_list ?_ (T.self X.A 0 _ _ _ st4 ?_)
  all_goals
    refine compLoop_any (fun _ y => y = s4) ?_ 0 rfl
    rintro n s5 rfl
    refine thnF (T.item (X.blk s3 H3 scope ce fp) rfl rfl rfl cm 0 [] s5 _ H3 (fun _ _ => False) I4 (stat I4 nfp) st4 go) fun r s6 ⟨u, hr, h6⟩ => ?_
    subst hr
    refine thnF h6 fun _ s7 ⟨x, H7, I7, r7, y7, st7, n7⟩ => ?_
    refine thnF (pg.run _ s7 _ H7 x u _ I7 r7 (step x H7 y7)) fun _ s8 ⟨σ8, H8, I8, q8⟩ => ?_
    refine wpAny_tests_nil ?_
    rw [if_pos rfl]
    refine wpAny_mono (pe.run [] s8 σ8 H8 _ (I8.wish _) q8) (fun v s9 z => ?_) fun e s9 z => z
    obtain ⟨_, _, _, _, z⟩ := z
    exact z.elim
/-- what a callee in the element lets out goes on behind the comprehension -/
theorem passR {E : XK} {s3 : Shared} {H3 : Hp} {scope : Scope} {cl : List (Str × Addr)} {fp : List Addr} {pins0 : List (Addr × Obj)} {σ0 : L2.St} (hs : X.stack = X.env :: X.outer) (hf : X.env.frame = some X.env.locals) (tk : L2N.Takes X fun cls d _ H => E cls d H)
    (I3 : Inv X pins0 σ0 H3 s3) (f3 : ∀ b ∈ fp, FpOk X pins0 H3 b ∧ b < s3.heap.objs.size) : Passes (L2N.CX X.prog X.w) (blkR X s3 H3 scope (compEnvC scope cl s3.heap.objs.size X.env) fp) E := by
  intro pins σ H s e s' I c
  have hfr : X.A.frames = some (X.env :: X.outer) := by rw [I3.ok.frames, hs]
  have c2 : L2N.CX X.prog X.w X.stack H s E e s' := c
  obtain ⟨a, B0, Hq, cq, dq, ea, fl0, _⟩ := c2
  obtain ⟨a9, B, sI, pn, σ1, H1, cls, d, ea2, J, nb, up, sky, na, os, ag, hE⟩ := L2N.XE.of_call (W := fun cls d _ H => E cls d H) I (fun _ _ _ z => z) c
  subst ea
  cases ea2
  have J : Inv (X.blk s3 H3 scope (compEnvC scope cl s3.heap.objs.size X.env) fp) pn σ1 H1 sI := J.unwish
  have sky : L2.Sky B X.stack a (L2N.Zn cls d) s3.heap.objs.size s'.heap := sky
  have fl : HandSPX.FlyingZ B (X.env :: X.outer) a (L2N.Zn cls d) s'.heap := by
    rw [hs] at sky fl0
    obtain ⟨_, _, _, o1, v1, T1, oT1, t1, p1, _, p2, p3, p4, p5, p6, p7, p8⟩ := fl0
    rcases sky with ⟨_, _, _, o2, v2, q1, _, q2, q3⟩ | y | ⟨_, _, _, o2, v2, T2, oT2, t2, q1, _, q2, q3, q4, q5, q6, q7, q8⟩
    · rw [p1] at q1
      cases q1
      rw [p2] at q2
      cases q2
      rw [p3] at q3
      cases q3
    · exact y
    · rw [p1] at q1
      cases q1
      rw [p2] at q2
      cases q2
      rw [p3] at q3
      cases q3
      rw [p6] at q6
      cases q6
      rw [p7] at q7
      cases q7
      rw [p8] at q8
      cases q8
  have frame : (compEnvC scope cl s3.heap.objs.size X.env).frame = X.env.frame := rfl
  show notedBy (model X.prog X.w) X.A _ _ _ s'
  unfold notedBy
  rw [noteFrame_env _ frame]
  refine PXN.looks_onZ L2N.Zn.steady hfr hf fl fun h3 held up3 => ?_
  have nC1 : H1 s3.heap.objs.size = none := J.free
  obtain ⟨m, hn, _⟩ := J.loc
  have hn : sI.heap.Ns s3.heap.objs.size m := hn
  have hn3 : h3.Ns s3.heap.objs.size m := up3.ns (up.ns hn)
  refine ⟨m, hn3, fun h4 m4 hn4 same => ?_⟩
  have same : Heap.SameBut s3.heap.objs.size h3 h4 := same
  obtain ⟨k1, k2, k3, oe, vs, T, oT, ts, g1, g2, g3, g4, g5, g6, g7, g8, g9⟩ := held
  obtain ⟨o0, es0, ep0, at0, dat0, _⟩ := id hn3
  have ne1 : a ≠ s3.heap.objs.size := fun z => by
    rw [z, at0] at g1
    cases g1
    rw [dat0] at g3
    cases g3
  have ne2 : T ≠ s3.heap.objs.size := fun z => by
    rw [z, at0] at g7
    cases g7
    rw [dat0] at g8
    cases g8
  obtain ⟨B2, b1, b2⟩ := restrict B fun b => decide (b ≠ s3.heap.objs.size)
  have B2of : ∀ b o, B2.get? b = some o → b ≠ s3.heap.objs.size ∧ B.get? b = some o := fun b o z => by
    by_cases hb : b = s3.heap.objs.size
    · rw [b2 b (by simp [hb])] at z
      cases z
    · rw [b1 b (by simp [hb])] at z
      exact ⟨hb, z⟩
  have B2no : ∀ b, B.get? b = none → B2.get? b = none := fun b z => by
    cases y : B2.get? b with
    | none => rfl
    | some o =>
      have x := (B2of b o y).2
      rw [z] at x
      cases x
  have ff : ∀ l : List Env, h3.FunFrames B l → h3.FunFrames B2 l := fun l => by
    induction l with
    | nil => exact fun z => z
    | cons env rest ih => exact fun ⟨y1, ⟨L, o, y2, y3, y4, y5⟩, y6⟩ => ⟨y1, ⟨L, o, y2, B2no L y3, y4, y5⟩, ih y6⟩
  have held4 : HandSPX.HeldZ B2 (X.env :: X.outer) a (L2N.Zn cls d) X.env.locals h4 := by
    refine ⟨fun b o z => ?_, B2no a k2, Heap.FunFrames.sameBut same hn4 (ff _ k3), oe, vs, T, oT, ts, (same.2 a ne1).trans g1, g2, g3, g4, B2no T g5, g6, (same.2 T ne2).trans g7, g8, g9⟩
    obtain ⟨z1, z2⟩ := B2of b o z
    exact (same.2 b z1).trans (k1 b o z2)
  unfold PySem.passOn
  refine wpAny_bind (wpAny_field ((same.2 a ne1).trans g1) g3 g4 ?_)
  rw [if_neg (show ¬ ((Value.ref T == Value.none) = true) from by simp)]
  rw [frame, hf]
  have done : wpAny (model X.prog X.w) X.A (setFlight (.ref a) (some X.env.locals)) (fun _ s5 => wpAny (model X.prog X.w) X.A (throw (.ref a) : Sem Value) (fun _ _ => False) X.xe s5) X.xe { s' with heap := h4 } := by
    refine HandSPX.setFlight_onZ held4 fun h5 held5 up5 => wpAny_throw (tk _ _ ?_)
    obtain ⟨Gh, c1, c2⟩ := restrict sI.heap fun b => decide (b ≠ s3.heap.objs.size)
    have Gof : ∀ b o, Gh.get? b = some o → b ≠ s3.heap.objs.size ∧ sI.heap.get? b = some o := fun b o z => by
      by_cases hb : b = s3.heap.objs.size
      · rw [c2 b (by simp [hb])] at z
        cases z
      · rw [c1 b (by simp [hb])] at z
        exact ⟨hb, z⟩
    have I7 : Inv X pins0 σ0 H1 sI := I3.call' (ch := fp) J.os J.base J.hok J.bare fun b hb => ⟨(f3 b hb).1.2.2.2.1, (f3 b hb).1.2.1, (f3 b hb).1.2.2.2.2.1, (f3 b hb).1.2.2.2.2.2⟩
    obtain ⟨w0, w1, w2, w3, w4, w5⟩ := I3.fpOk (H' := H1) (b := s3.heap.objs.size) (Nat.le_refl _) nC1
    have I8 : Inv X pins0 σ0 H1 { sI with heap := Gh, toks := sI.toks } := I7.turned (it := s3.heap.objs.size) (fun b o hb z => (c1 b (by simp [hb])).trans z) w0 w1 w3 w4 w5
    refine ⟨a, B2, _, pins0, σ0, H1, cls, d, rfl, I8, fun b o z hb => ?_, fun b o z nf => ?_, .inr (.inr (by rw [hs]; exact held5)), na, os, ag, hE⟩
    · obtain ⟨z1, z2⟩ := Gof b o z
      rw [b1 b (by simp [z1])]
      exact nb b o z2 hb
    · obtain ⟨z1, z2⟩ := Gof b o z
      obtain ⟨sl, y⟩ := (up.trans up3) b o z2 nf
      have y4 := (same.2 b z1).trans y
      obtain ⟨sl2, y5⟩ := up5 b _ y4 nf
      exact ⟨sl2, y5⟩
  first
    | exact wpAny_bind (wpAny_pure (wpAny_bind done))
    | exact wpAny_bind done
end
end AE

/-! picture, read_net -/
namespace AE
open PySem L2 PySem.Spec
open PyProof.Rows hiding St
open L2H (RoomH FnH HotC suiteX)
section
variable {G : GP} {E : XK} {X : Cx} {ρ : List Addr} {F : Hp} {A : List AO} {H : Hp} {σ : L2.St} {D : Ends}
def evLcR (ei : EI) (j : Nat) (elt : EV) : EV := fun σ A => (ei σ A).bind fun ai A1 => match nextI ai 0 (A1 ++ [.lst []]) with
  | some (some a, A2) => (elt ((wipeA σ [j]).set j (some a)) A2).bind fun _ _ => .no
  | _ => .no
theorem sim_lcR {ei : EI} {j : Nat} {elt : EV} {K : PySem.W.Frag} {Q : VK} (h : tE G E (evLcR ei j elt) σ H Q) : tLcR (tI G E K ei) (gName j) (tE G E elt) [j] σ H Q := by
  obtain ⟨F, ρ, σa, A, hs, hh, h⟩ := h
  refine ⟨F, ρ, σa, A, hs, hh, h.bind.mono fun ρ1 ai A1 H1 p1 hh1 h1 J rj Da hD => ?_⟩
  have hh0 : RH G F (ρ1 ++ [Da]) (A1 ++ [.lst []]) (upd H1 Da (.lst [])) := hh1.new hD ⟨[], rfl, .nil⟩
  split at h1
  · rename_i a A2 en
    obtain ⟨go, yl⟩ : J.go 0 (upd H1 Da (.lst [])) ∧ ∀ y H', J.yld 0 (upd H1 Da (.lst [])) y H' → ∃ ρ', Pre (ρ1 ++ [Da]) ρ' ∧ RH G F ρ' A2 H' ∧ RV G ρ' a y := next_ok hh0 (rj.mono (Pre.snoc _ _)) en
    refine ⟨go, fun x H' hy => ?_⟩
    obtain ⟨ρ3, p3, hh3, rv3⟩ := yl x H' hy
    have pp : Pre ρ1 ρ3 := (Pre.snoc _ _).trans p3
    exact ⟨F, ρ3, _, A2, (wipe_ok (RS.mono hs (p1.trans pp)) [j]).set1 rv3 j, hh3, (h1.pre pp).bind.mono fun ρ4 y A4 H4 p4 hh4 h4 => h4.elim⟩
  · exact h1.elim
def evJoin0 (a b : EV) : EV := fun σ A => (a σ A).bind fun x A1 => match x with | .str _ => (b σ A1).bind fun _ _ => .no | _ => .no
theorem se_join0 {o e : Expr} {eo ee : EV} {te : TE} {apos pos : Pos} (ho : PE X o (tE G E eo)) (he : PE X e te) (hte : ∀ σ H Q, tE G E ee σ H Q → te σ H Q) (hs : starEach [e] X.env = [(false, eval e X.env)] := by rfl) (hbase : attributeBase o "join" X.env (eval o X.env) = eval o X.env := by rfl) (hline : (apos.endLine == pos.line) = true := by rfl) :
    PE X (.Call (.Attribute o "join" apos) [e] [] pos) (tE G E (evJoin0 eo ee)) := PE.imp (pe_join ho he hs hbase hline) fun σ H Q h => by
  obtain ⟨F, ρ, σa, A, hs, hh, h⟩ := h
  refine tE_then hs hh h fun ρ1 x A1 v H1 p1 hs1 hh1 rv1 h1 => ?_
  split at h1
  · exact ⟨⟨_, rv1⟩, hte _ _ _ ⟨F, ρ1, σa, A1, hs1, hh1, h1.bind.mono fun ρ4 y A4 H4 p4 hh4 h4 => h4.elim⟩⟩
  · exact h1.elim
/-- try: f(..) except DrawError: raise NoLine(slot i) -/
def svTryLine (f : List AV → List AO → Rs AV) (args : EA) (i : Nat) : EVS := fun σ A => (args σ A).bind fun vs A1 => match f vs A1 with
  | .ok _ A2 => .ok (.nx σ) A2
  | .ex _ _ A2 => match σ[i]? with | some (some v) => .ex .noLine (some (.number, v)) A2 | _ => .no
  | .no => .no
def tbLine (G : GP) (E : XK) (f : List AV → List AO → Rs AV) (args : EA) (W : WX) : TS := tDrop (tCallSD (spF G f) [] (WE W) (tA G E args))
def tsLine (C : Addr) (i : Nat) (Wout : WX) : Addr → Value → Option Addr → TS := fun _ _ _ _ σ H => tMkO C (spI C "number") [] (tCons (tVar i) tNil) σ H fun cls d H' => Wout cls d σ H'
theorem sim_tryLine {f : List AV → List AO → Rs AV} {args : EA} {i : Nat} {K : PySem.W.Frag} {c : Value} (hx : ∀ x : XN, PySem.W.exmOne K (.ref (G.xA x)) c = some true) (h : tS G E (svTryLine f args i) D σ H) :
    tbLine G E f args (wOnly K c (tsLine (G.xA .noLine) i fun cls d _ H => E cls d H) (fun cls d _ H => E cls d H) D) D σ H := by
  obtain ⟨F, ρ, σa, A, hs, hh, h⟩ := h
  refine tA_then hs hh h fun ρ1 xs A1 vs H1 p1 hs1 hh1 rv1 h1 => ?_
  refine ⟨F, ρ1, xs ++ [], A1, by rw [List.append_nil, List.append_nil]; exact rv1, hh1, ?_⟩
  rw [List.append_nil]
  split at h1
  · rename_i a A2 ef
    rw [ef]
    intro ρ2 H2 p2 hh2 v rv
    exact h1 ρ2 H2 p2 hh2 σ (RS.mono hs1 p2)
  · rename_i x p A2 ef
    rw [ef]
    split at h1
    · rename_i v ev
      intro ρ2 H2 d p2 hh2 hrx
      refine ⟨true, hx x, fun _ a ha => ?_, fun z => nomatch z⟩
      obtain ⟨w, ew, rw'⟩ := P2.get (RS.mono hs1 p2) ev
      obtain ⟨u, rfl, ru⟩ := rw'
      show tMkO _ _ _ _ σ H2 _
      refine ⟨u, ew, by show 1 ≤ 1000; decide, fun b hb => ⟨b, u, rfl, upd_same, fun dx hdx hne => ⟨rfl, dx, [("number", u)], upd_same, ?_, ?_, ?_⟩⟩⟩
      · rw [upd_ne hne, upd_same]
      · rwa [upd_ne hne] at hdx
      · have hd1 : H2 dx = none := by rwa [upd_ne hne] at hdx
        have e : upd (del (upd (upd (upd H2 b (exo b (G.xA .noLine) none)) dx (exd dx [("number", u)])) b (exo b (G.xA .noLine) (some dx))) b) dx (.xd [("number", u)]) = upd H2 dx (.xd [("number", u)]) := by
          funext y
          by_cases hy : y = dx
          · subst hy
            rw [upd_same, upd_same]
          · rw [upd_ne hy, upd_ne hy]
            by_cases hy2 : y = b
            · subst hy2
              rw [del_same, hb]
            · rw [del_ne hy2, upd_ne hy2, upd_ne hy, upd_ne hy2]
        rw [e]
        exact h1 ρ2 _ (some dx) p2 (hh2.other hd1) ⟨dx, u, rfl, upd_same, ru⟩
    · exact h1.elim
  · exact h1.elim
end
/-! ### picture -/
def N_picture : List Str := ["rows", "places", "items"]
def ev_picture : EVS := svRet (evJoin0 (evC (.str [10])) (evLcR (eiL (evVar 0)) 2 (evCall f_row_drawn [] (eaC (evVar 2) (eaC (evVar 1) eaN)))))
def f_picture : List AV → List AO → Rs AV := mkF 2 3 ev_picture
theorem sc_picture : FnScope N_picture ["rows", "places"] (defScope (top 87)) := ⟨rfl, rfl, rfl, by decide +kernel, rfl, by decide +kernel, by decide +kernel⟩
section
variable {P : Program} {w : World} {K : PySem.W.Frag} {mg : Str → Option Value} {base : Heap} {q : Int} {hq : 0 ≤ q}
theorem ok_picture (c : Fx K mg w) : ∃ fd, Df P w K mg base (L2N.CX P w) 3 (He.ga K "picture") fd ["rows", "places"] (spF (gp K q hq) f_picture) := by
  obtain ⟨fd_row_drawn, F_row_drawn⟩ := ok_row_drawn (P := P) (w := w) (base := base) (q := q) (hq := hq) c
  obtain ⟨fd, Fd⟩ := c.d_picture
  refine ⟨fd, Fd.ok sc_picture (fun vs H Q E h => spF_len h) (fun cdv A outer s H vs Q E hr h => ⟨tS (gp K q hq) E ev_picture, ?_, spF_body h⟩), Fd.bindsN fun _ _ _ _ _ _ us hl => (match us, hl with | [_, _], _ => rfl), Fd.kp⟩
  have nd : N_picture.Nodup := sc_picture.nd
  have tk : L2N.Takes (cxOf (L2N.CX P w) P w K mg base N_picture "picture" (defScope (top 87)) (He.ga K "picture") cdv A outer s H E) (fun cls d _ H => E cls d H) := L2N.takes_of rfl rfl rfl rfl
  exact ss_one (s_ret (se_join0 (se_str (by decide +kernel))
    (pe_lcR rfl nd (si_list (sv 0)) (blkOk_by (N := N_picture) (sc := defScope (top 87)) (own := [("items", 2)]) (by decide +kernel)) (fun _ _ _ _ _ => gn 2 nd)
      (fun s1 H1 cl fp pins σ I1 f1 => se_call (FnOk.mono F_row_drawn.ok (by decide)) hr rfl c.g_row_drawn F_row_drawn.kp F_row_drawn.b .nil d1 (passR rfl rfl tk I1 f1) (sa_cons (sv 2) (sa_cons (sv 1) sa_nil))))
    fun σ H Q z => sim_lcR z))
end
/-! ### read_net -/
def N_read_net : List Str := ["text", "net", "number", "line"]
def ev_read_net : EVS := svSeq (svAsg (evMake .net f_Net_init [] eaN) (etgN 1)) (svSeq (svIf (evB eqVV (evVar 0) (evC (.str []))) (svRet (evVar 1)) svNil)
  (svSeq (svFor (eiE (eaC (evSplit (evVar 0) (evC (.str [10]))) eaN)) (etgT [2, 3]) (svTryLine f_put_line (eaC (evVar 1) (eaC (evSplit (evVar 3) (evC (.str [32]))) eaN)) 2)) (svRet (evVar 1))))
def f_read_net : List AV → List AO → Rs AV := mkF 1 4 ev_read_net
theorem sc_read_net : FnScope N_read_net ["text"] (defScope (top 93)) := ⟨rfl, rfl, rfl, by decide +kernel, rfl, by decide +kernel, by decide +kernel⟩
section
variable {P : Program} {w : World} {K : PySem.W.Frag} {mg : Str → Option Value} {base : Heap} {q : Int} {hq : 0 ≤ q}
/-- NoLine's __init__ while an exception is handled -/
theorem ok_XNoLineH (c : Fx K mg w) : ∃ fd, FnH P w K mg base (L2.CX P w) 1 (He.ma K (He.ga K "NoLine") "__init__") fd ["self", "number"] (spI (He.ga K "NoLine") "number") ∧ Binds K fd ["self", "number"] [] := by
  obtain ⟨fd, Fd⟩ := c.d_XNoLine
  have b : Binds K fd ["self", "number"] [] := Fd.bindsN fun _ _ _ _ _ _ us hl => (match us, hl with | [_, _], _ => rfl)
  obtain ⟨oc, od, dV, kV, doc, pm, an, cdv, ct, osl, rfl, lk, hcd, _, _⟩ := Fd.ex
  refine ⟨_, L2H.fn_ofH lk hcd sc_XNoLine (fun vs H Q E h => spI_len h) (fun A outer s H vs Q E p hot hr h => ⟨_, pss_one (ps_ost (pv 0) (pv 1)), ?_⟩), b⟩
  obtain ⟨a, y, rfl, ha, k⟩ := h
  exact ⟨y, rfl, .ref a, rfl, a, He.ga K "NoLine", rfl, c.y_NoLine.o, c.z_NoLine, .inl ⟨ha, k⟩⟩
theorem ok_read_net (c : Fx K mg w) (hx : ∀ x : XN, PySem.W.exmOne K (.ref ((gp K q hq).xA x)) (.ref (He.ga K "DrawError")) = some true) : ∃ fd, Df P w K mg base (L2.CX P w) 6 (He.ga K "read_net") fd ["text"] (spF (gp K q hq) f_read_net) := by
  obtain ⟨fd_put_line, F_put_line⟩ := ok_put_line (P := P) (w := w) (base := base) (q := q) (hq := hq) c
  obtain ⟨fd_Net_init, F_Net_init⟩ := ok_Net_init (P := P) (w := w) (base := base) (q := q) (hq := hq) c
  obtain ⟨fd_X, F_X, b_X⟩ := ok_XNoLineH (P := P) (w := w) (base := base) c
  obtain ⟨fd, Fd⟩ := c.d_read_net
  refine ⟨fd, Fd.ok sc_read_net (fun vs H Q E h => spF_len h) (fun cdv A outer s H vs Q E hr h => ⟨tS (gp K q hq) E ev_read_net, ?_, spF_body h⟩), Fd.bindsN fun _ _ _ _ _ _ us hl => (match us, hl with | [_], _ => rfl), Fd.kp⟩
  have nd : N_read_net.Nodup := sc_read_net.nd
  have tk : L2.Takes (cxOf (L2.CX P w) P w K mg base N_read_net "read_net" (defScope (top 93)) (He.ga K "read_net") cdv A outer s H E) (fun cls d _ H => E cls d H) := L2.takes_of rfl rfl rfl rfl
  have px : Passes (L2.CX P w) (cxOf (L2.CX P w) P w K mg base N_read_net "read_net" (defScope (top 93)) (He.ga K "read_net") cdv A outer s H E) E := L2.passes_call tk (fun _ _ _ _ h => h)
  have po : PassesOwn (model P w) (cxOf (L2.CX P w) P w K mg base N_read_net "read_net" (defScope (top 93)) (He.ga K "read_net") cdv A outer s H E).A (cxOf (L2.CX P w) P w K mg base N_read_net "read_net" (defScope (top 93)) (He.ga K "read_net") cdv A outer s H E).env (cxOf (L2.CX P w) P w K mg base N_read_net "read_net" (defScope (top 93)) (He.ga K "read_net") cdv A outer s H E).xe := L2.passes_of rfl
  refine ss_cons (sset 1 nd (se_make0 (c := .net) c.m_Net (FnOk.mono (FnOk.l2 F_Net_init.ok) (by decide)) hr rfl c.g_Net F_Net_init.b .nil d1 px)) (ss_cons (s_if (st_cmp op_eq ok_eq (sv 0) (se_str (by decide +kernel)) (nomark _)) (ss_one (s_ret (sv 1))) ss_nil)
    (ss_cons (s_for po rfl (si_enum rfl c.n_enumerate (sa_cons (se_split (sv 0) (se_str (by decide +kernel))) sa_nil)) (sg_tup (js := [2, 3]) rfl (pgs_cons (gn 2 nd) (pgs_cons (gn 3 nd) pgs_nil))) (ss_one ?_)) (ss_one (s_ret (sv 1)))))
  refine PS.imp (L2H.ps_try_onlyX (x := "DrawError") (c := .ref (He.ga K "DrawError")) (Wout := fun cls d _ H => E cls d H) (ts := tsLine (He.ga K "NoLine") 2 fun cls d _ H => E cls d H) (tb := tbLine (gp K q hq) E f_put_line (eaC (evVar 1) (eaC (evSplit (evVar 3) (evC (.str [32]))) eaN))) rfl rfl ⟨rfl, by decide, .inl c.g_DrawError⟩ (fun hd => L2H.passesAt_of rfl hd) tk
    (fun W pn xe tkN _ po2 => pss_one (ps_expr (pe_callSD (FnOk.mono F_put_line.ok (by decide)) hr rfl c.g_put_line F_put_line.kp F_put_line.b .nil (fun σ => L2N.passAt tkN σ) (sa_cons (sv 1) (sa_cons (se_split (sv 3) (se_str (by decide +kernel))) sa_nil)))))
    (fun a oe cls d pn hz hf tkS hot => pss_one (L2H.ps_raiseH hot tkS (L2H.PMk5.pmk (L2H.pmk5_oexH c.y_NoLine.o c.y_NoLine.iC c.y_NoLine.tI F_X (L2H.roomH_mark (hr.mono (by decide)) _) hot b_X (fun _ _ _ _ _ _ _ z => ?_) rfl c.y_NoLine.gC (pa_cons (pv 2) pa_nil)))))) fun D σ H z => sim_tryLine hx z
  obtain ⟨_, _, _, _, _, _, _, _, _, _, _, _, z⟩ := z
  exact z.elim
end
end AE

namespace AE
open PySem L2 PySem.Spec
open PyProof.Rows hiding St
section
variable {P : Program} {w : World} {K : PySem.W.Frag} {mg : Str → Option Value} {base : Heap} {q : Int} {hq : 0 ≤ q}
def N_law_of_nets : List Str := ["_law_which", "_law_number", "_law_net", "_law_k"]
def ev_law_of_nets : EVS := svSeq (svAsg (evMake .net f_Net_init [] eaN) (etgN 2)) (svSeq (svExpr (evMeth .net f_Net_put_point [.int 0 0] (evVar 2) (eaC (evC (.str [97])) (eaN)))) (svSeq (svIf (evB eqVV (evVar 0) (evC (.int 0 0))) (svExpr (evMeth .net f_Net_put_point [.int 0 0] (evVar 2) (eaC (evB atV (evN fLst (eaC (evC (.str [])) (eaC (evC (.str [65])) (eaC (evC (.str [110, 105, 110, 101, 108, 101, 116, 116, 101])) (eaC (evC (.str [97, 32, 98])) (eaN)))))) (evB modV (evVar 1) (evC (.int 4 0)))) (eaN)))) (svNil)) (svSeq (svIf (evB eqVV (evVar 0) (evC (.int 1 0))) (svExpr (evMeth .net f_Net_put_point [] (evVar 2) (eaC (evC (.str [97])) (eaC (evB modV (evVar 1) (evC (.int 51 0))) (eaN))))) (svNil)) (svSeq (svIf (evB eqVV (evVar 0) (evC (.int 2 0))) (svExpr (evMeth .net f_Net_put_arrow [.int 1 0, .int 1 0] (evVar 2) (eaC (evC (.str [97])) (eaC (evC (.str [97])) (eaN))))) (svNil)) (svSeq (svIf (evB eqVV (evVar 0) (evC (.int 3 0))) (svExpr (evMeth .net f_Net_put_point [] (evVar 2) (eaC (evC (.str [98])) (eaC (evB addV (evC (.int 51 0)) (evVar 1)) (eaN))))) (svNil)) (svSeq (svIf (evB eqVV (evVar 0) (evC (.int 4 0))) (svFor (eiR (eaC (evC (.int 20 0)) (eaN))) (etgN 3) (svExpr (evMeth .net f_Net_put_point [.int 0 0] (evVar 2) (eaC (evB addV (evC (.str [98])) (evB atV (evC (.str [97, 98, 99, 100, 101, 102, 103, 104, 105, 106, 107, 108, 109, 110, 111, 112, 113, 114, 115, 116])) (evVar 3))) (eaN))))) (svNil)) (svSeq (svIf (evB eqVV (evVar 0) (evC (.int 8 0))) (svExpr (evMeth .net f_Net_put_same [] (evVar 2) (eaC (evC (.str [97])) (eaC (evB atV (evN fLst (eaC (evC (.str [122, 122])) (eaC (evC (.str [98])) (eaN)))) (evB modV (evVar 1) (evC (.int 2 0)))) (eaN))))) (svNil)) (svSeq (svIf (evB eqVV (evVar 0) (evC (.int 9 0))) (svExpr (evMeth .net f_Net_take_arrow [] (evVar 2) (eaC (evVar 1) (eaN)))) (svNil)) (svIf (evB eqVV (evVar 0) (evC (.int 10 0))) (svExpr (evCall f_read_net [] (eaC (evB addV (evC (.str [112, 111, 105, 110, 116, 32, 97, 10, 112, 111, 105, 110, 116, 32, 98, 10])) (evB atV (evN fLst (eaC (evC (.str [112, 111, 105, 110, 116, 32, 97])) (eaC (evC (.str [120])) (eaC (evC (.str [])) (eaC (evC (.str [97, 114, 114, 111, 119, 32, 97])) (eaN)))))) (evB modV (evVar 1) (evC (.int 4 0))))) (eaN)))) (svNil))))))))))
def f_law_of_nets : List AV → List AO → Rs AV := mkF 2 4 ev_law_of_nets
theorem sc_law_of_nets : FnScope N_law_of_nets ["_law_which", "_law_number"] (defScope (top 106)) := ⟨rfl, rfl, rfl, by decide +kernel, rfl, by decide +kernel, by decide +kernel⟩
theorem ok_law_of_nets (c : Fx K mg w) (hx : ∀ x : XN, PySem.W.exmOne K (.ref ((gp K q hq).xA x)) (.ref (He.ga K "DrawError")) = some true) : ∃ fd, Df P w K mg base (L2.CX P w) 7 (He.ga K "_law_of_nets") fd ["_law_which", "_law_number"] (spF (gp K q hq) f_law_of_nets) := by
  obtain ⟨fd_Net_init, F_Net_init⟩ := ok_Net_init (P := P) (w := w) (base := base) c
  have F_Net_init := Df.l2 F_Net_init
  obtain ⟨fd_Net_put_point, F_Net_put_point, ds_Net_put_point, b_Net_put_point, v_Net_put_point⟩ := ok_Net_put_point (P := P) (w := w) (base := base) c
  have F_Net_put_point := Df.l2 F_Net_put_point
  obtain ⟨fd_Net_put_arrow, F_Net_put_arrow, ds_Net_put_arrow, b_Net_put_arrow, v_Net_put_arrow⟩ := ok_Net_put_arrow (P := P) (w := w) (base := base) c
  have F_Net_put_arrow := Df.l2 F_Net_put_arrow
  obtain ⟨fd_Net_put_same, F_Net_put_same⟩ := ok_Net_put_same (P := P) (w := w) (base := base) c
  have F_Net_put_same := Df.l2 F_Net_put_same
  obtain ⟨fd_Net_take_arrow, F_Net_take_arrow⟩ := ok_Net_take_arrow (P := P) (w := w) (base := base) c
  have F_Net_take_arrow := Df.l2 F_Net_take_arrow
  obtain ⟨fd_read_net, F_read_net⟩ := ok_read_net (P := P) (w := w) (base := base) c hx
  obtain ⟨fd, Fd⟩ := c.d_law_of_nets
  refine ⟨fd, Fd.ok sc_law_of_nets (fun vs H Q E h => spF_len h) (fun cdv A outer s H vs Q E hr h => ⟨tS (gp K q hq) E ev_law_of_nets, ?_, spF_body h⟩), Fd.bindsN fun _ _ _ _ _ _ us hl => (match us, hl with | [_, _], _ => rfl), Fd.kp⟩
  have nd : N_law_of_nets.Nodup := sc_law_of_nets.nd
  have tk : L2.Takes (cxOf (L2.CX P w) P w K mg base N_law_of_nets "_law_of_nets" (defScope (top 106)) (He.ga K "_law_of_nets") cdv A outer s H E) (fun cls d _ H => E cls d H) := L2.takes_of rfl rfl rfl rfl
  have px : Passes (L2.CX P w) (cxOf (L2.CX P w) P w K mg base N_law_of_nets "_law_of_nets" (defScope (top 106)) (He.ga K "_law_of_nets") cdv A outer s H E) E := L2.passes_call tk (fun _ _ _ _ h => h)
  have px0 : Passes (L2.CX P w) (cxOf (L2.CX P w) P w K mg base N_law_of_nets "_law_of_nets" (defScope (top 106)) (He.ga K "_law_of_nets") cdv A outer s H E) (fun _ _ _ => False) := L2.passes_call tk (fun _ _ _ _ h => h.elim)
  have po : PassesOwn (model P w) (cxOf (L2.CX P w) P w K mg base N_law_of_nets "_law_of_nets" (defScope (top 106)) (He.ga K "_law_of_nets") cdv A outer s H E).A (cxOf (L2.CX P w) P w K mg base N_law_of_nets "_law_of_nets" (defScope (top 106)) (He.ga K "_law_of_nets") cdv A outer s H E).env (cxOf (L2.CX P w) P w K mg base N_law_of_nets "_law_of_nets" (defScope (top 106)) (He.ga K "_law_of_nets") cdv A outer s H E).xe := L2.passes_of rfl
  exact ss_cons (sset 2 nd (se_make0 (c := .net) c.m_Net (F_Net_init.ok.mono (by decide)) hr rfl c.g_Net F_Net_init.b .nil d1 px)) (ss_cons (s_expr (se_meth (c := .net) (c.ks q hq) (by intro z; cases z <;> decide) (sv 2) c.t_Net_put_point (F_Net_put_point.ok.mono (by decide)) hr b_Net_put_point v_Net_put_point (fun _ => .cons rv_int (.nil)) px (sa_cons (se_str (by decide +kernel)) (sa_nil)))) (ss_cons (s_if (st_cmp op_eq ok_eq (sv 0) (se_int) (nomark _)) (ss_one (s_expr (se_meth (c := .net) (c.ks q hq) (by intro z; cases z <;> decide) (sv 2) c.t_Net_put_point (F_Net_put_point.ok.mono (by decide)) hr b_Net_put_point v_Net_put_point (fun _ => .cons rv_int (.nil)) px (sa_cons (se_at (se_lst (sa_cons (se_str (by decide +kernel)) (sa_cons (se_str (by decide +kernel)) (sa_cons (se_str (by decide +kernel)) (sa_cons (se_str (by decide +kernel)) (sa_nil)))))) (se_op op_mod ok_mod (sv 1) (se_int))) (sa_nil))))) (ss_nil)) (ss_cons (s_if (st_cmp op_eq ok_eq (sv 0) (se_int) (nomark _)) (ss_one (s_expr (se_meth (c := .net) (c.ks q hq) (by intro z; cases z <;> decide) (sv 2) c.t_Net_put_point (F_Net_put_point.ok.mono (by decide)) hr F_Net_put_point.b .nil d1 px (sa_cons (se_str (by decide +kernel)) (sa_cons (se_op op_mod ok_mod (sv 1) (se_int)) (sa_nil)))))) (ss_nil)) (ss_cons (s_if (st_cmp op_eq ok_eq (sv 0) (se_int) (nomark _)) (ss_one (s_expr (se_meth (c := .net) (c.ks q hq) (by intro z; cases z <;> decide) (sv 2) c.t_Net_put_arrow (F_Net_put_arrow.ok.mono (by decide)) hr b_Net_put_arrow v_Net_put_arrow (fun _ => .cons rv_int (.cons rv_int (.nil))) px (sa_cons (se_str (by decide +kernel)) (sa_cons (se_str (by decide +kernel)) (sa_nil)))))) (ss_nil)) (ss_cons (s_if (st_cmp op_eq ok_eq (sv 0) (se_int) (nomark _)) (ss_one (s_expr (se_meth (c := .net) (c.ks q hq) (by intro z; cases z <;> decide) (sv 2) c.t_Net_put_point (F_Net_put_point.ok.mono (by decide)) hr F_Net_put_point.b .nil d1 px (sa_cons (se_str (by decide +kernel)) (sa_cons (se_op o_add ok_add (se_int) (sv 1)) (sa_nil)))))) (ss_nil)) (ss_cons (s_if (st_cmp op_eq ok_eq (sv 0) (se_int) (nomark _)) (ss_one (s_for po rfl (si_range rfl c.n_range (sa_cons (se_int) (sa_nil))) (sg 3 nd) (ss_one (s_expr (se_meth (c := .net) (c.ks q hq) (by intro z; cases z <;> decide) (sv 2) c.t_Net_put_point (F_Net_put_point.ok.mono (by decide)) hr b_Net_put_point v_Net_put_point (fun _ => .cons rv_int (.nil)) px (sa_cons (se_op o_add ok_add (se_str (by decide +kernel)) (se_at (se_str (by decide +kernel)) (sv 3))) (sa_nil))))))) (ss_nil)) (ss_cons (s_if (st_cmp op_eq ok_eq (sv 0) (se_int) (nomark _)) (ss_one (s_expr (se_meth (c := .net) (c.ks q hq) (by intro z; cases z <;> decide) (sv 2) c.t_Net_put_same (F_Net_put_same.ok.mono (by decide)) hr F_Net_put_same.b .nil d1 px (sa_cons (se_str (by decide +kernel)) (sa_cons (se_at (se_lst (sa_cons (se_str (by decide +kernel)) (sa_cons (se_str (by decide +kernel)) (sa_nil)))) (se_op op_mod ok_mod (sv 1) (se_int))) (sa_nil)))))) (ss_nil)) (ss_cons (s_if (st_cmp op_eq ok_eq (sv 0) (se_int) (nomark _)) (ss_one (s_expr (se_meth (c := .net) (c.ks q hq) (by intro z; cases z <;> decide) (sv 2) c.t_Net_take_arrow (F_Net_take_arrow.ok.mono (by decide)) hr F_Net_take_arrow.b .nil d1 px (sa_cons (sv 1) (sa_nil))))) (ss_nil)) (ss_one (s_if (st_cmp op_eq ok_eq (sv 0) (se_int) (nomark _)) (ss_one (s_expr (se_call (F_read_net.ok.mono (by decide)) hr rfl c.g_read_net F_read_net.kp F_read_net.b .nil d1 px (sa_cons (se_op o_add ok_add (se_str (by decide +kernel)) (se_at (se_lst (sa_cons (se_str (by decide +kernel)) (sa_cons (se_str (by decide +kernel)) (sa_cons (se_str (by decide +kernel)) (sa_cons (se_str (by decide +kernel)) (sa_nil)))))) (se_op op_mod ok_mod (sv 1) (se_int)))) (sa_nil))))) (ss_nil)))))))))))
def N_law_of_stages : List Str := ["_law_which", "_law_number", "_law_desk", "_law_line"]
def ev_law_of_stages : EVS := svSeq (svIf (evB eqVV (evVar 0) (evC (.int 5 0))) (svExpr (evCall f_bound [] (eaC (evC (.int 1 0)) (eaC (evN fLst (eaC (evN fTup (eaC (evC (.int 0 0)) (eaC (evC (.int 0 0)) (eaC (evC (.int 1 0)) (eaC (evC (.int 1 0)) (eaN)))))) (eaN))) (eaC (evB atV (evN fLst (eaC (evN fLst (eaN)) (eaC (evN fLst (eaC (evB subV (evB subV (evC (.int 0 0)) (evC (.int 1 0))) (evVar 1)) (eaN))) (eaC (evN fLst (eaC (evC (.int 1 0)) (eaC (evC (.int 1 0)) (eaN)))) (eaN))))) (evB modV (evVar 1) (evC (.int 3 0)))) (eaN)))))) (svNil)) (svSeq (svIf (evB eqVV (evVar 0) (evC (.int 6 0))) (svExpr (evCall f_picture [] (eaC (evN fLst (eaC (evN fLst (eaC (evMake .own f_Own_init [] (eaC (evC (.str [97])) (eaC (evC (.int 0 0)) (eaN)))) (eaN))) (eaN))) (eaC (evDisp1 (evC (.str [97])) (evB addV (evC (.int 201 0)) (evVar 1))) (eaN))))) (svNil)) (svSeq (svIf (evB eqVV (evVar 0) (evC (.int 7 0))) (svSeq (svAsg (evMake .desk f_Desk_init [] eaN) (etgN 2)) (svFor (eiL (evN fLst (eaC (evC (.str [112, 111, 105, 110, 116, 32, 97])) (eaC (evC (.str [112, 111, 105, 110, 116, 32, 98])) (eaC (evC (.str [108, 101, 118, 101, 108])) (eaC (evC (.str [97, 114, 114, 111, 119, 32, 97, 32, 98])) (eaC (evB atV (evN fLst (eaC (evC (.str [99, 114, 111, 115, 115])) (eaC (evC (.str [100, 114, 97, 119, 32, 51])) (eaN)))) (evB modV (evVar 1) (evC (.int 2 0)))) (eaN)))))))) (etgN 3) (svExpr (evMeth .desk f_Desk_say [] (evVar 2) (eaC (evVar 3) (eaN)))))) (svNil)) (svIf (evB eqVV (evVar 0) (evC (.int 11 0))) (svExpr (evCall f_laid [] (eaC (evC (.int 2 0)) (eaC (evN fLst (eaC (evN fTup (eaC (evC (.int 0 0)) (eaC (evC (.int 1 0)) (eaC (evC (.int 0 0)) (eaC (evC (.int 1 0)) (eaN)))))) (eaC (evN fTup (eaC (evC (.int 1 0)) (eaC (evC (.int 1 0)) (eaC (evB addV (evC (.int 1 0)) (evVar 1)) (eaC (evC (.int 3 0)) (eaN)))))) (eaN)))) (eaN))))) (svNil))))
def f_law_of_stages : List AV → List AO → Rs AV := mkF 2 4 ev_law_of_stages
theorem sc_law_of_stages : FnScope N_law_of_stages ["_law_which", "_law_number"] (defScope (top 107)) := ⟨rfl, rfl, rfl, by decide +kernel, rfl, by decide +kernel, by decide +kernel⟩
theorem ok_law_of_stages (c : Fx K mg w) (hx : ∀ x : XN, PySem.W.exmOne K (.ref ((gp K q hq).xA x)) (.ref (He.ga K "DrawError")) = some true) : ∃ fd, Df P w K mg base (L2.CX P w) 10 (He.ga K "_law_of_stages") fd ["_law_which", "_law_number"] (spF (gp K q hq) f_law_of_stages) := by
  obtain ⟨fd_bound, F_bound⟩ := ok_bound (P := P) (w := w) (base := base) c
  have F_bound := Df.l2 F_bound
  obtain ⟨fd_picture, F_picture⟩ := ok_picture (P := P) (w := w) (base := base) c
  have F_picture := Df.l2 F_picture
  obtain ⟨fd_Own_init, F_Own_init⟩ := ok_Own_init (P := P) (w := w) (base := base) c
  have F_Own_init := Df.l2 F_Own_init
  obtain ⟨fd_Desk_init, F_Desk_init⟩ := ok_Desk_init (P := P) (w := w) (base := base) c
  have F_Desk_init := Df.l2 F_Desk_init
  obtain ⟨fd_Desk_say, F_Desk_say⟩ := ok_Desk_say (P := P) (w := w) (base := base) c
  have F_Desk_say := Df.l2 F_Desk_say
  obtain ⟨fd_laid, F_laid⟩ := ok_laid (P := P) (w := w) (base := base) c
  have F_laid := Df.l2 F_laid
  obtain ⟨fd, Fd⟩ := c.d_law_of_stages
  refine ⟨fd, Fd.ok sc_law_of_stages (fun vs H Q E h => spF_len h) (fun cdv A outer s H vs Q E hr h => ⟨tS (gp K q hq) E ev_law_of_stages, ?_, spF_body h⟩), Fd.bindsN fun _ _ _ _ _ _ us hl => (match us, hl with | [_, _], _ => rfl), Fd.kp⟩
  have nd : N_law_of_stages.Nodup := sc_law_of_stages.nd
  have tk : L2.Takes (cxOf (L2.CX P w) P w K mg base N_law_of_stages "_law_of_stages" (defScope (top 107)) (He.ga K "_law_of_stages") cdv A outer s H E) (fun cls d _ H => E cls d H) := L2.takes_of rfl rfl rfl rfl
  have px : Passes (L2.CX P w) (cxOf (L2.CX P w) P w K mg base N_law_of_stages "_law_of_stages" (defScope (top 107)) (He.ga K "_law_of_stages") cdv A outer s H E) E := L2.passes_call tk (fun _ _ _ _ h => h)
  have px0 : Passes (L2.CX P w) (cxOf (L2.CX P w) P w K mg base N_law_of_stages "_law_of_stages" (defScope (top 107)) (He.ga K "_law_of_stages") cdv A outer s H E) (fun _ _ _ => False) := L2.passes_call tk (fun _ _ _ _ h => h.elim)
  have po : PassesOwn (model P w) (cxOf (L2.CX P w) P w K mg base N_law_of_stages "_law_of_stages" (defScope (top 107)) (He.ga K "_law_of_stages") cdv A outer s H E).A (cxOf (L2.CX P w) P w K mg base N_law_of_stages "_law_of_stages" (defScope (top 107)) (He.ga K "_law_of_stages") cdv A outer s H E).env (cxOf (L2.CX P w) P w K mg base N_law_of_stages "_law_of_stages" (defScope (top 107)) (He.ga K "_law_of_stages") cdv A outer s H E).xe := L2.passes_of rfl
  exact ss_cons (s_if (st_cmp op_eq ok_eq (sv 0) (se_int) (nomark _)) (ss_one (s_expr (se_call (F_bound.ok.mono (by decide)) hr rfl c.g_bound F_bound.kp F_bound.b .nil d1 px (sa_cons (se_int) (sa_cons (se_lst (sa_cons (se_tup (sa_cons (se_int) (sa_cons (se_int) (sa_cons (se_int) (sa_cons (se_int) (sa_nil)))))) (sa_nil))) (sa_cons (se_at (se_lst (sa_cons (se_lst (sa_nil)) (sa_cons (se_lst (sa_cons (se_op op_sub ok_sub (se_op op_sub ok_sub (se_int) (se_int)) (sv 1)) (sa_nil))) (sa_cons (se_lst (sa_cons (se_int) (sa_cons (se_int) (sa_nil)))) (sa_nil))))) (se_op op_mod ok_mod (sv 1) (se_int))) (sa_nil))))))) (ss_nil)) (ss_cons (s_if (st_cmp op_eq ok_eq (sv 0) (se_int) (nomark _)) (ss_one (s_expr (se_call (F_picture.ok.mono (by decide)) hr rfl c.g_picture F_picture.kp F_picture.b .nil d1 px (sa_cons (se_lst (sa_cons (se_lst (sa_cons (se_make (c := .own) c.m_Own (F_Own_init.ok.mono (by decide)) hr rfl c.g_Own F_Own_init.b .nil d1 px (sa_cons (se_str (by decide +kernel)) (sa_cons (se_int) (sa_nil)))) (sa_nil))) (sa_nil))) (sa_cons (se_disp1 (se_str (by decide +kernel)) (se_op o_add ok_add (se_int) (sv 1))) (sa_nil)))))) (ss_nil)) (ss_cons (s_if (st_cmp op_eq ok_eq (sv 0) (se_int) (nomark _)) (ss_cons (sset 2 nd (se_make0 (c := .desk) c.m_Desk (F_Desk_init.ok.mono (by decide)) hr rfl c.g_Desk F_Desk_init.b .nil d1 px)) (ss_one (s_for po rfl (si_list (se_lst (sa_cons (se_str (by decide +kernel)) (sa_cons (se_str (by decide +kernel)) (sa_cons (se_str (by decide +kernel)) (sa_cons (se_str (by decide +kernel)) (sa_cons (se_at (se_lst (sa_cons (se_str (by decide +kernel)) (sa_cons (se_str (by decide +kernel)) (sa_nil)))) (se_op op_mod ok_mod (sv 1) (se_int))) (sa_nil)))))))) (sg 3 nd) (ss_one (s_expr (se_meth (c := .desk) (c.ks q hq) (by intro z; cases z <;> decide) (sv 2) c.t_Desk_say (F_Desk_say.ok.mono (by decide)) hr F_Desk_say.b .nil d1 px (sa_cons (sv 3) (sa_nil)))))))) (ss_nil)) (ss_one (s_if (st_cmp op_eq ok_eq (sv 0) (se_int) (nomark _)) (ss_one (s_expr (se_call (F_laid.ok.mono (by decide)) hr rfl c.g_laid F_laid.kp F_laid.b .nil d1 px (sa_cons (se_int) (sa_cons (se_lst (sa_cons (se_tup (sa_cons (se_int) (sa_cons (se_int) (sa_cons (se_int) (sa_cons (se_int) (sa_nil)))))) (sa_cons (se_tup (sa_cons (se_int) (sa_cons (se_int) (sa_cons (se_op o_add ok_add (se_int) (sv 1)) (sa_cons (se_int) (sa_nil)))))) (sa_nil)))) (sa_nil)))))) (ss_nil)))))
end
end AE

namespace AE
open PySem L2 PySem.Spec
open PyProof.Rows hiding St
def isEx (c : XN) (p : Option (FN × AV)) : Rs AV → Bool
  | .ex c2 p2 _ => decide (c2 = c) && decide (p2 = p)
  | _ => false
def isRing : Rs AV → Bool
  | .ex .ring (some (.ring, .ref i)) A => match A[i]? with | some (.lst [.int 1 0]) => true | _ => false
  | _ => false
def isNon : Rs AV → Bool
  | .ok .non _ => true
  | _ => false
def nets (k : Int) (r m : Nat) : Rs AV := f_law_of_nets [.int k 0, .int r m] []
def stages (k : Int) (r m : Nat) : Rs AV := f_law_of_stages [.int k 0, .int r m] []
theorem t0 : (List.range 4).all (fun r => isEx .noName none (nets 0 r 4)) = true := by decide +kernel
theorem t1 : (List.range 51).all (fun r => isEx .taken none (nets 1 r 51)) = true := by decide +kernel
theorem t2 : isEx .alone none (nets 2 0 1) = true := by decide +kernel
theorem t3 : isEx .noNumber none (nets 3 0 1) = true := by decide +kernel
theorem t4 : isEx .tooMany none (nets 4 0 1) = true := by decide +kernel
theorem t8 : isEx .noPoint (some (.name, .str [122, 122])) (nets 8 0 2) = true ∧ isEx .noPoint (some (.name, .str [98])) (nets 8 1 2) = true := by decide +kernel
theorem t9 : isEx .noSuch (some (.number, .int 0 1)) (nets 9 0 1) = true := by decide +kernel
theorem t10 : (List.range 4).all (fun r => isEx .noLine (some (.number, .int 2 0)) (nets 10 r 4)) = true := by decide +kernel
theorem n5 : (List.range 3).all (fun r => isNon (nets 5 r 3)) = true := by decide +kernel
theorem n6 : isNon (nets 6 0 1) = true := by decide +kernel
theorem n7 : (List.range 2).all (fun r => isNon (nets 7 r 2)) = true := by decide +kernel
theorem n11 : isNon (nets 11 0 1) = true := by decide +kernel
theorem t5 : (List.range 3).all (fun r => isEx .noFlow none (stages 5 r 3)) = true := by decide +kernel
theorem t6 : isEx .tooLong none (stages 6 0 1) = true := by decide +kernel
theorem t7 : (List.range 2).all (fun r => isEx .stale none (stages 7 r 2)) = true := by decide +kernel
theorem t11 : isRing (stages 11 0 1) = true := by decide +kernel
end AE

namespace AE
open PySem L2 PySem.Spec
open PyProof.Rows hiding St
open Evl
open L2H (RoomH)
/-! ### each deed's refusal -/
def isC (c : XN) : Rs AV → Bool
  | .ex c2 _ _ => decide (c2 = c)
  | _ => false
theorem isC_ex {c : XN} {p : Option (FN × AV)} {r : Rs AV} (h : isEx c p r = true) : isC c r = true := by
  cases r with
  | ex c2 p2 A =>
    unfold isEx at h
    exact (Bool.and_eq_true_iff.mp h).1
  | _ => cases h
theorem isC_ring {r : Rs AV} (h : isRing r = true) : isC .ring r = true := by
  unfold isRing at h
  split at h
  · rfl
  · cases h
def kcls : Nat → XN
  | 0 => .noName | 1 => .taken | 2 => .alone | 3 => .noNumber | 4 => .tooMany | 5 => .noFlow | 6 => .tooLong | 7 => .stale | 8 => .noPoint | 9 => .noSuch | 10 => .noLine | _ => .ring
def xnm : XN → Str
  | .noName => "NoName" | .taken => "Taken" | .noPoint => "NoPoint" | .alone => "Alone" | .noNumber => "NoNumber" | .tooMany => "TooMany"
  | .noSuch => "NoSuch" | .noLine => "NoLine" | .ring => "Ring" | .noFlow => "NoFlow" | .tooLong => "TooLong" | .stale => "Stale"
theorem xnm_mem (c : XN) : xnm c ∈ xNames := by cases c <;> decide +kernel
theorem gp_xA {K : PySem.W.Frag} {q : Int} {hq : 0 ≤ q} (c : XN) : (gp K q hq).xA c = He.ga K (xnm c) := by cases c <;> rfl
/-- n in parts of m -/
theorem parts {n : Int} (m : Nat) (hm : 0 < m) (hn : 0 ≤ n) : ∃ (q : Int) (r : Nat), 0 ≤ q ∧ r < m ∧ n = r + m * q := by
  refine ⟨n / m, (n % m).toNat, Int.ediv_nonneg hn (Int.natCast_nonneg m), ?_, ?_⟩
  · have h1 : n % m < m := Int.emod_lt_of_pos n (by omega)
    omega
  · have h2 := Int.emod_add_mul_ediv n m
    have h3 : 0 ≤ n % m := Int.emod_nonneg n (by omega)
    omega
def Deed (k : Nat) (n : Int) : Prop := ∃ (q : Int) (r m : Nat), 0 ≤ q ∧ n = r + m * q ∧ (isC (kcls k) (nets k r m) = true ∨ (isNon (nets k r m) = true ∧ isC (kcls k) (stages k r m) = true))
theorem of_all {m : Nat} {f : Nat → Bool} (h : (List.range m).all f = true) {r : Nat} (hr : r < m) : f r = true := List.all_eq_true.mp h r (List.mem_range.mpr hr)
theorem lt1 {r : Nat} (h : r < 1) : r = 0 := by omega
theorem deeds : ∀ (k : Nat) (n : Int), k < 12 → 0 ≤ n → Deed k n
  | 0, n, _, hn => by
    obtain ⟨q, r, h1, h2, h3⟩ := parts 4 (by decide) hn
    exact ⟨q, r, 4, h1, h3, .inl (isC_ex (of_all t0 h2))⟩
  | 1, n, _, hn => by
    obtain ⟨q, r, h1, h2, h3⟩ := parts 51 (by decide) hn
    exact ⟨q, r, 51, h1, h3, .inl (isC_ex (of_all t1 h2))⟩
  | 2, n, _, hn => by
    obtain ⟨q, r, h1, h2, h3⟩ := parts 1 (by decide) hn
    rw [lt1 h2] at h3
    exact ⟨q, 0, 1, h1, h3, .inl (isC_ex t2)⟩
  | 3, n, _, hn => by
    obtain ⟨q, r, h1, h2, h3⟩ := parts 1 (by decide) hn
    rw [lt1 h2] at h3
    exact ⟨q, 0, 1, h1, h3, .inl (isC_ex t3)⟩
  | 4, n, _, hn => by
    obtain ⟨q, r, h1, h2, h3⟩ := parts 1 (by decide) hn
    rw [lt1 h2] at h3
    exact ⟨q, 0, 1, h1, h3, .inl (isC_ex t4)⟩
  | 5, n, _, hn => by
    obtain ⟨q, r, h1, h2, h3⟩ := parts 3 (by decide) hn
    exact ⟨q, r, 3, h1, h3, .inr ⟨of_all n5 h2, isC_ex (of_all t5 h2)⟩⟩
  | 6, n, _, hn => by
    obtain ⟨q, r, h1, h2, h3⟩ := parts 1 (by decide) hn
    rw [lt1 h2] at h3
    exact ⟨q, 0, 1, h1, h3, .inr ⟨n6, isC_ex t6⟩⟩
  | 7, n, _, hn => by
    obtain ⟨q, r, h1, h2, h3⟩ := parts 2 (by decide) hn
    exact ⟨q, r, 2, h1, h3, .inr ⟨of_all n7 h2, isC_ex (of_all t7 h2)⟩⟩
  | 8, n, _, hn => by
    obtain ⟨q, r, h1, h2, h3⟩ := parts 2 (by decide) hn
    refine ⟨q, r, 2, h1, h3, .inl ?_⟩
    match r, h2 with
    | 0, _ => exact isC_ex t8.1
    | 1, _ => exact isC_ex t8.2
  | 9, n, _, hn => by
    obtain ⟨q, r, h1, h2, h3⟩ := parts 1 (by decide) hn
    rw [lt1 h2] at h3
    exact ⟨q, 0, 1, h1, h3, .inl (isC_ex t9)⟩
  | 10, n, _, hn => by
    obtain ⟨q, r, h1, h2, h3⟩ := parts 4 (by decide) hn
    exact ⟨q, r, 4, h1, h3, .inl (isC_ex (of_all t10 h2))⟩
  | 11, n, _, hn => by
    obtain ⟨q, r, h1, h2, h3⟩ := parts 1 (by decide) hn
    rw [lt1 h2] at h3
    exact ⟨q, 0, 1, h1, h3, .inr ⟨n11, isC_ring t11⟩⟩
  | k + 12, _, h, _ => absurd h (by omega)

/-! ### a described def, called from a heap that is not described -/
theorem RH.none {G : GP} {H : Hp} : RH G H [] [] H := ⟨rfl, fun i p o h => by simp at h, List.nodup_nil, fun _ _ h => h, fun _ h => by simp at h⟩
theorem RH.ex {G : GP} {H H' : Hp} {ρ : List Addr} {A : List AO} (h : RH G H ρ A H') : Ex H H' := fun a o e => h.fr a o e
theorem spF_raises {G : GP} {f : List AV → List AO → Rs AV} {as : List AV} {vs : List V} {c : XN} {H : Hp} {Q : VK} {E : XK} (rv : RVs G [] as vs) (h : isC c (f as []) = true) (k : ∀ d H', Ex H H' → DIn H' d → E (.ref (G.xA c)) d H') : spF G f vs H Q E := by
  refine ⟨H, [], as, [], rv, RH.none, ?_⟩
  cases ef : f as [] with
  | ex c2 p A =>
    rw [ef] at h
    have ec : c2 = c := of_decide_eq_true h
    subst ec
    intro ρ' H' d pre rh rx
    refine k d H' rh.ex ?_
    cases p with
    | none => exact .inl rx
    | some z =>
      obtain ⟨fn, av⟩ := z
      obtain ⟨dd, v, e1, e2, _⟩ := rx
      exact .inr ⟨dd, _, e1, e2⟩
  | ok a A => rw [ef] at h; cases h
  | no => rw [ef] at h; cases h
theorem spF_non {G : GP} {f : List AV → List AO → Rs AV} {as : List AV} {vs : List V} {H : Hp} {Q : VK} {E : XK} (rv : RVs G [] as vs) (h : isNon (f as []) = true) (k : ∀ H', Ex H H' → Q .non H') : spF G f vs H Q E := by
  refine ⟨H, [], as, [], rv, RH.none, ?_⟩
  cases ef : f as [] with
  | ok a A =>
    rw [ef] at h
    cases a with
    | non =>
      intro ρ' H' pre rh v rv
      rw [show v = _ from rv]
      exact k H' rh.ex
    | _ => cases h
  | ex c2 p A => rw [ef] at h; cases h
  | no => rw [ef] at h; cases h

/-! ### _law_kind -/
theorem el_cat2 {σ : L2.St} {H : Hp} {ta tb : TE} {xs zs : List V} (ha : EvL ta σ H xs) (hb : ∀ H1, Ex H H1 → EvL tb σ H1 zs) (hz : xs.length + zs.length ≤ 100000) : EvL (tOp rCat ta tb) σ H (xs ++ zs) := fun H1 e Q q =>
  ha H1 e _ fun p H2 f2 e2 l2 => hb H2 (e.trans e2) H2 (Ex.refl H2) _ fun r H3 f3 e3 l3 => ⟨p, r, xs, zs, rfl, rfl, e3 _ _ l2, l3, szl hz, fun t ht => q t _ (fresh_back (e2.trans e3) ht) ((e2.trans e3).trans (Ex.new ht)) upd_same⟩
theorem el_kinds {a : Addr} {d : Option Addr} {bs : List Bool} {i : Nat} {σ : L2.St} {H : Hp} {E : XK} (hs : σ[i]? = some (some (.ref a))) (hd : DIn H d) : EvL (tCallG (spKinds a d bs) E (tCons (tVar i) tNil)) σ H (bs.map V.bl) := fun H1 e Q q =>
  ⟨.ref a, hs, rfl, hd.ex e, fun p H2 f2 e2 l2 => q p H2 f2 e2 l2⟩
theorem ev_isY {K : PySem.W.Frag} {D a : Addr} {c : V} {cv : Value} {d : Option Addr} {i : Nat} {σ : L2.St} {H : Hp} {b : Bool} (hs : σ[i]? = some (some (.ref a))) (hd : DIn H d) (hc : ∀ u, RelV c u → u = cv) (k : PySem.W.kitOne K (.ref D) cv = some b) : Ev (tCB (rIsX K D a d) (tCons (tVar i) (tCons (tC c) tNil))) σ H (.bl b) := fun H1 e Q q =>
  ⟨.ref a, hs, c, cv, b, rfl, hc, k, hd.ex e, q H1 (Ex.refl H1)⟩
def spKind : Sp := fun vs H Q _ => ∃ (k : Nat) (n : Int), k < 12 ∧ 0 ≤ n ∧ vs = [.int k, .int n] ∧ ∀ p H', H p = none → Ex H H' → H' p = some (.lst ((flags (xnm (kcls k))).map V.bl ++ [.bl true])) → Q (.ref p) H'
abbrev N_kind : List Str := ["_law_which", "_law_number", "_law_found", "_law_e"]
theorem sc_kind : FnScope N_kind ["_law_which", "_law_number"] (defScope (top 108)) := ⟨rfl, rfl, rfl, by decide +kernel, rfl, by decide +kernel, by decide +kernel⟩
/-- the suite, told for one class -/
def tsKind (K : PySem.W.Frag) (x : Str) : Addr → Value → Option Addr → TS := fun a cls d D σ H => cls = .ref (He.ga K x) ∧
  tAsg (tOp rCat (tCallG (spKinds a d (flags x)) E0 (tCons (tVar 3) tNil)) (tLst (tCons (tCB (rIsX K (He.ga K x) a d) (tCons (tVar 3) (tCons (tC (.ty "ValueError")) tNil))) tNil))) (gName 2) D σ H
def tbKind (G : GP) (W : WX) : TS := tSeq (tDrop (tCallSD (spF G f_law_of_nets) [] (WE W) (tCons (tVar 0) (tCons (tVar 1) tNil)))) (tDrop (tCallSD (spF G f_law_of_stages) [] (WE W) (tCons (tVar 0) (tCons (tVar 1) tNil))))
section
variable {P : Program} {w : World} {K : PySem.W.Frag} {mg : Str → Option Value} {base : Heap}
theorem ok_kind (c : Fx K mg w) (hx : ∀ x : XN, PySem.W.exmOne K (.ref (He.ga K (xnm x))) (.ref (He.ga K "DrawError")) = some true) (kf : ∀ x ∈ xNames, KitF K x) :
    ∃ fd, Df P w K mg base (L2.CX P w) 12 (He.ga K "_law_kind") fd ["_law_which", "_law_number"] spKind := by
  obtain ⟨fd, Fd⟩ := c.d_law_kind
  refine ⟨fd, Fd.ok sc_kind (fun vs H Q E h => by obtain ⟨_, _, _, _, rfl, _⟩ := h; rfl) (fun cdv A outer s H0 vs Q E hr h => ?_), Fd.bindsN fun _ _ _ _ _ _ us hl => (match us, hl with | [_, _], _ => rfl), Fd.kp⟩
  obtain ⟨k, n, hk, hn, rfl, hQ⟩ := h
  obtain ⟨q, r, m, hq, en, deed⟩ := deeds k n hk hn
  have hx2 : ∀ x : XN, PySem.W.exmOne K (.ref ((gp K q hq).xA x)) (.ref (He.ga K "DrawError")) = some true := fun x => by rw [gp_xA]; exact hx x
  obtain ⟨fd1, F1⟩ := ok_law_of_nets (P := P) (w := w) (base := base) (q := q) (hq := hq) c hx2
  obtain ⟨fd2, F2⟩ := ok_law_of_stages (P := P) (w := w) (base := base) (q := q) (hq := hq) c hx2
  have nd := sc_kind.nd
  have tk : L2.Takes (cxOf (L2.CX P w) P w K mg base N_kind "_law_kind" (defScope (top 108)) (He.ga K "_law_kind") cdv A outer s H0 E) (fun cls d _ H => E cls d H) := L2.takes_of rfl rfl rfl rfl
  have kx := kf _ (xnm_mem (kcls k))
  refine ⟨_, pss_cons (ps_set (i := 2) nd rfl (.inl rfl) pe_non) (pss_cons (ps_try_as (i := 3) (c := .ref (He.ga K "DrawError")) (ts := tsKind K (xnm (kcls k))) (tb := tbKind (gp K q hq)) rfl rfl nd rfl rfl ⟨rfl, by decide, .inl c.g_DrawError⟩ tk
    (fun W pn xe tkW _ => pss_cons (ps_expr (pe_callSD (FnOk.mono F1.ok (by decide)) hr rfl c.g__law_of_nets F1.kp F1.b .nil (fun σ => passAt tkW σ) (pa_cons (pv 0) (pa_cons (pv 1) pa_nil))))
      (pss_one (ps_expr (pe_callSD (FnOk.mono F2.ok (by decide)) hr rfl c.g__law_of_stages F2.kp F2.b .nil (fun σ => passAt tkW σ) (pa_cons (pv 0) (pa_cons (pv 1) pa_nil))))))
    (fun a oe cls d pn hz hf => ⟨fun pins s2 σ H D I z => ?_⟩)) (pss_one (ps_ret (pv 2)))), ?_⟩
  · obtain ⟨ec, z⟩ := z
    subst ec
    obtain ⟨fd3, F3, b3, k3⟩ := ok_kinds (P := P) (w := w) (base := base) (CX := CX0) c kx hz hf
    refine PSs.run (X := (cxOf (L2.CX P w) P w K mg base N_kind "_law_kind" (defScope (top 108)) (He.ga K "_law_kind") cdv A outer s H0 E).suite a ((a, oe) :: pn)) (t := tAsg (tOp rCat (tCallG (spKinds a d (flags (xnm (kcls k)))) E0 (tCons (tVar 3) tNil)) (tLst (tCons (tCB (rIsX K (He.ga K (xnm (kcls k))) a d) (tCons (tVar 3) (tCons (tC (.ty "ValueError")) tNil))) tNil))) (gName 2)) ?_ pins s2 σ H D I z
    exact pss_one (ps_set (i := 2) nd rfl (.inl rfl) (pe_op op_cat
      (pe_callG F3 (L2H.roomH_mark (hr.mono (by decide)) _) List.mem_cons_self rfl c.g__law_kinds k3 b3 pass0 (pa_cons (pv 3) pa_nil))
      (pe_lst (pa_cons (pe_callB (call_isX List.mem_cons_self kx.exc hz hf) rfl c.n_isinstance boot_isinstance (pa_cons (pv 3) (pa_cons (pe_bltn (v := .ty "ValueError") rfl c.n_ValueError PyProof.Rows.Boot.«ValueError» rfl) pa_nil))) pa_nil))))
  · have caught : ∀ (d : Option Addr) (H' : Hp), Ex H0 H' → DIn H' d → wAs K (.ref (He.ga K "DrawError")) 3 (tsKind K (xnm (kcls k))) (fun cls d _ H => E cls d H) { nx := tRet (tVar 2) { nx := fun _ H' => Q .non H', rt := Q }, rt := Q } (.ref ((gp K q hq).xA (kcls k))) d [some (.int k), some (.int n), some .non, none] H' := fun d H' e dn => by
      refine ⟨true, hx2 _, fun _ a ha => ⟨by rw [gp_xA], ?_⟩, fun z => nomatch z⟩
      refine s_asgL (el_cat2 (el_kinds rfl dn) (fun H1 e1 => el_lst (ea_cons (ev_isY rfl (dn.ex e1) (fun u r => r) kx.ve) ea_nil) (show 1 ≤ 100000 by decide)) ?_) fun p H2 f2 e2 l2 => ⟨.ref p, rfl, hQ p H2 (fresh_back e f2) (e.trans e2) l2⟩
      rw [List.length_map]
      exact (show 12 + 1 ≤ 100000 by decide)
    have rv : RVs (gp K q hq) [] [.int (k : Int) 0, .int (r : Int) (m : Int)] [V.int k, V.int n] := .cons int_q (.cons (by rw [en]; rfl) .nil)
    refine ⟨.int k, rfl, .int n, rfl, ?_⟩
    rcases deed with h | ⟨h1, h2⟩
    · exact spF_raises rv h fun d H' e dn => caught d H' e dn
    · refine spF_non rv h1 fun H1 e1 => ?_
      exact ⟨.int k, rfl, .int n, rfl, spF_raises rv h2 fun d H' e dn => caught d H' (e1.trans e) dn⟩
end
end AE

namespace AE
open PySem L2 PySem.Spec
open PyProof.Rows hiding St
open Evl
open L2H (RoomH)
/-! ### the field of a refusal -/
theorem spF_field {G : GP} {f : List AV → List AO → Rs AV} {as : List AV} {vs : List V} {c : XN} {fn : FN} {av : AV} {H : Hp} {Q : VK} {E : XK} (rv : RVs G [] as vs) (h : isEx c (some (fn, av)) (f as []) = true)
    (k : ∀ ρ dd v H', Ex H H' → H' dd = some (.xd [(fn.str, v)]) → RV G ρ av v → E (.ref (G.xA c)) (some dd) H') : spF G f vs H Q E := by
  refine ⟨H, [], as, [], rv, RH.none, ?_⟩
  cases ef : f as [] with
  | ex c2 p A =>
    rw [ef] at h
    obtain ⟨h1, h2⟩ := Bool.and_eq_true_iff.mp h
    have ec : c2 = c := of_decide_eq_true h1
    have ep : p = some (fn, av) := of_decide_eq_true h2
    subst ec ep
    intro ρ' H' d pre rh rx
    obtain ⟨dd, v, rfl, e2, r⟩ := rx
    exact k ρ' dd v H' rh.ex e2 r
  | ok a A => rw [ef] at h; cases h
  | no => rw [ef] at h; cases h
theorem spF_ring {G : GP} {f : List AV → List AO → Rs AV} {as : List AV} {vs : List V} {H : Hp} {Q : VK} {E : XK} (rv : RVs G [] as vs) (h : isRing (f as []) = true)
    (k : ∀ dd p H', Ex H H' → H' dd = some (.xd [("ring", .ref p)]) → H' p = some (.lst [.int 1]) → E (.ref (G.xA .ring)) (some dd) H') : spF G f vs H Q E := by
  refine ⟨H, [], as, [], rv, RH.none, ?_⟩
  cases ef : f as [] with
  | ex c2 p A =>
    rw [ef] at h
    unfold isRing at h
    split at h
    · rename_i i A2 e
      cases e
      intro ρ' H' d pre rh rx
      obtain ⟨dd, v, rfl, e2, pp, hp, rfl⟩ := rx
      split at h
      · rename_i ea
        obtain ⟨u, hu, ws, rfl, rr⟩ := rh.at hp ea
        cases rr with
        | cons r1 r2 =>
          cases r2
          rw [show _ = _ from r1, ← int_q] at hu
          exact k dd pp H' rh.ex e2 hu
      · cases h
    · cases h
  | ok a A => rw [ef] at h; cases h
  | no => rw [ef] at h; cases h
abbrev N_fields : List Str := ["_law_number", "_law_found", "_law_e"]
theorem sc_fields : FnScope N_fields ["_law_number"] (defScope (top 109)) := ⟨rfl, rfl, rfl, by decide +kernel, rfl, by decide +kernel, by decide +kernel⟩
def tbF (G : GP) (f : List AV → List AO → Rs AV) (k : Int) (W : WX) : TS := tDrop (tCallSD (spF G f) [] (WE W) (tCons (tC (.int k)) (tCons (tVar 0) tNil)))
def tsF (K : PySem.W.Frag) (x fld : Str) : Addr → Value → Option Addr → TS := fun a cls d => tDrop (tBM K "list" rAppend (tVar 1) (tCons (tXf a cls d (He.ga K x) fld (tVar 2)) tNil))
def tryF (G : GP) (f : List AV → List AO → Rs AV) (k : Int) (K : PySem.W.Frag) (x fld : Str) (Wout : WX) : TS := fun D σ H => tbF G f k (wAs K (.ref (He.ga K x)) 2 (tsF K x fld) Wout D) D σ H
/-- the suite appends the field -/
theorem field_in {K : PySem.W.Frag} {x fld : Str} {Wout : WX} {D : Ends} {n : Int} {l dd : Addr} {acc : List V} {v : V} {o : Option V} {H : Hp} (hx : PySem.W.exmOne K (.ref (He.ga K x)) (.ref (He.ga K x)) = some true) (hl : H l = some (.lst acc)) (hz : acc.length < 100) (hd : H dd = some (.xd [(fld, v)]))
    (k : D.nx [some (.int n), some (.ref l), none] (upd H l (.lst (acc ++ [v])))) : wAs K (.ref (He.ga K x)) 2 (tsF K x fld) Wout D (.ref (He.ga K x)) (some dd) [some (.int n), some (.ref l), o] H := by
  refine ⟨true, hx, fun _ a ha => ?_, fun z => nomatch z⟩
  refine ⟨.ref l, rfl, .inl ⟨rfl, acc, SqL.of hl⟩, .ref a, rfl, rfl, rfl, dd, _, v, rfl, hd, by simp [List.lookup], l, acc, v, rfl, rfl, hl, szlt (by omega), ?_⟩
  exact k
theorem args2 {G : GP} {k : Int} {n q : Int} {r m : Nat} (e : n = r + m * q) (hG : G.q = q) : RVs G [] [.int k 0, .int (r : Int) (m : Int)] [V.int k, V.int n] := .cons int_q (.cons (by rw [e, ← hG]; rfl) .nil)
structure FieldF (K : PySem.W.Frag) (x : Str) : Prop where
  exm : PySem.W.exmOne K (.ref (He.ga K x)) (.ref (He.ga K x)) = some true
  xf : XfC K (He.ga K x)
def zz (n : Int) : Str := if n % 2 = 0 then mkS [122, 122] else mkS [98]
def spFields : Sp := fun vs H Q _ => ∃ n : Int, 0 ≤ n ∧ vs = [.int n] ∧ ∀ H', Ex H H' → Q (.bl true) H'
theorem zz_ok (n : Int) : SeqAt.shaped (.list [.str (zz n), .int n, .int 2, .list [.int 1]]) = true := by
  have h1 : PyData.strOk (mkS [122, 122]) = true := by decide +kernel
  have h2 : PyData.strOk (mkS [98]) = true := by decide +kernel
  unfold zz SeqAt.shaped
  split <;> simp [PyData.canLay0, PyData.canLayAll0, PyData.depth, PyData.depthAll, h1, h2]
def zA (r : Nat) : AV := if r = 0 then .str [122, 122] else .str [98]
theorem z8 {r : Nat} (h : r < 2) : isEx .noPoint (some (.name, zA r)) (nets 8 r 2) = true := match r, h with
  | 0, _ => t8.1
  | 1, _ => t8.2
theorem zA_v {G : GP} {ρ : List Addr} {n q : Int} {r : Nat} (h : r < 2) (e : n = r + ((2 : Nat) : Int) * q) {v : V} (rv : RV G ρ (zA r) v) : v = .str (zz n) := by
  unfold zA at rv
  unfold zz
  by_cases h0 : r = 0
  · rw [if_pos h0] at rv
    rw [if_pos (by omega)]
    exact rv
  · rw [if_neg h0] at rv
    rw [if_neg (by omega)]
    exact rv
theorem zz_at (n : Int) (hn : 0 ≤ n) : atI [V.str (mkS [122, 122]), V.str (mkS [98])] (n % 2) = some (.str (zz n)) := by
  have h : n % 2 = 0 ∨ n % 2 = 1 := by omega
  unfold zz
  rcases h with h | h
  · rw [if_pos h, h]
    rfl
  · rw [if_neg (by omega), h]
    rfl
theorem zz_eq (n : Int) : PyData.eqv (.list [.str (zz n), .int n, .int 2, .list [.int 1]]) (.list [.str (zz n), .int n, .int 2, .list [.int 1]]) = true := by
  simp [PyData.eqv, PyData.eqvAll]
section
variable {P : Program} {w : World} {K : PySem.W.Frag} {mg : Str → Option Value} {base : Heap}
theorem ok_fields (c : Fx K mg w) (hx : ∀ x : XN, PySem.W.exmOne K (.ref (He.ga K (xnm x))) (.ref (He.ga K "DrawError")) = some true) (ff : ∀ x ∈ (["NoPoint", "NoSuch", "NoLine", "Ring"] : List Str), FieldF K x) :
    ∃ fd, Df P w K mg base (L2.CX P w) 12 (He.ga K "_law_fields") fd ["_law_number"] spFields := by
  obtain ⟨fd, Fd⟩ := c.d_law_fields
  refine ⟨fd, Fd.ok sc_fields (fun vs H Q E h => by obtain ⟨_, _, rfl, _⟩ := h; rfl) (fun cdv A outer s H0 vs Q E hr h => ?_), Fd.bindsN fun _ _ _ _ _ _ us hl => (match us, hl with | [_], _ => rfl), Fd.kp⟩
  obtain ⟨n, hn, rfl, hQ⟩ := h
  have hx2 : ∀ (q : Int) (hq : 0 ≤ q) (x : XN), PySem.W.exmOne K (.ref ((gp K q hq).xA x)) (.ref (He.ga K "DrawError")) = some true := fun q hq x => by rw [gp_xA]; exact hx x
  obtain ⟨q1, r1, hq1, lt1', e1⟩ := parts 2 (by decide) hn
  obtain ⟨q2, r2, hq2, lt2', e2⟩ := parts 1 (by decide) hn
  obtain ⟨q3, r3, hq3, lt3', e3⟩ := parts 4 (by decide) hn
  rw [lt1 lt2'] at e2
  obtain ⟨fd1, F1⟩ := ok_law_of_nets (P := P) (w := w) (base := base) (q := q1) (hq := hq1) c (hx2 q1 hq1)
  obtain ⟨fd2, F2⟩ := ok_law_of_nets (P := P) (w := w) (base := base) (q := q2) (hq := hq2) c (hx2 q2 hq2)
  obtain ⟨fd3, F3⟩ := ok_law_of_nets (P := P) (w := w) (base := base) (q := q3) (hq := hq3) c (hx2 q3 hq3)
  obtain ⟨fd4, F4⟩ := ok_law_of_stages (P := P) (w := w) (base := base) (q := q2) (hq := hq2) c (hx2 q2 hq2)
  have nd := sc_fields.nd
  have tk : L2.Takes (cxOf (L2.CX P w) P w K mg base N_fields "_law_fields" (defScope (top 109)) (He.ga K "_law_fields") cdv A outer s H0 E) (fun cls d _ H => E cls d H) := L2.takes_of rfl rfl rfl rfl
  refine ⟨_, pss_cons (ps_set (i := 1) nd rfl (.inl rfl) (pe_lst pa_nil))
    (pss_cons (ps_try_as (i := 2) (c := .ref (He.ga K "NoPoint")) (ts := tsF K "NoPoint" "name") (tb := tbF (gp K q1 hq1) f_law_of_nets 8) rfl rfl nd rfl rfl ⟨rfl, by decide, .inl c.g_NoPoint⟩ tk
        (fun W pn xe tkW _ => pss_one (ps_expr (pe_callSD (FnOk.mono F1.ok (by decide)) hr rfl c.g__law_of_nets F1.kp F1.b .nil (fun σ => passAt tkW σ) (pa_cons pe_int (pa_cons (pv 0) pa_nil)))))
        (fun a oe cls d pn hz hf => pss_one (ps_expr (pe_bm PySem.F.plainAttrs_list PySem.F.slot_list_append PySem.F.type_list_append mt_append (pv 1) (pa_cons (pe_xf (ff "NoPoint" (by decide +kernel)).xf c.z_NoPoint hz hf (pv 2)) pa_nil)))))
    (pss_cons (ps_try_as (i := 2) (c := .ref (He.ga K "NoSuch")) (ts := tsF K "NoSuch" "number") (tb := tbF (gp K q2 hq2) f_law_of_nets 9) rfl rfl nd rfl rfl ⟨rfl, by decide, .inl c.g_NoSuch⟩ tk
        (fun W pn xe tkW _ => pss_one (ps_expr (pe_callSD (FnOk.mono F2.ok (by decide)) hr rfl c.g__law_of_nets F2.kp F2.b .nil (fun σ => passAt tkW σ) (pa_cons pe_int (pa_cons (pv 0) pa_nil)))))
        (fun a oe cls d pn hz hf => pss_one (ps_expr (pe_bm PySem.F.plainAttrs_list PySem.F.slot_list_append PySem.F.type_list_append mt_append (pv 1) (pa_cons (pe_xf (ff "NoSuch" (by decide +kernel)).xf c.z_NoSuch hz hf (pv 2)) pa_nil)))))
    (pss_cons (ps_try_as (i := 2) (c := .ref (He.ga K "NoLine")) (ts := tsF K "NoLine" "number") (tb := tbF (gp K q3 hq3) f_law_of_nets 10) rfl rfl nd rfl rfl ⟨rfl, by decide, .inl c.g_NoLine⟩ tk
        (fun W pn xe tkW _ => pss_one (ps_expr (pe_callSD (FnOk.mono F3.ok (by decide)) hr rfl c.g__law_of_nets F3.kp F3.b .nil (fun σ => passAt tkW σ) (pa_cons pe_int (pa_cons (pv 0) pa_nil)))))
        (fun a oe cls d pn hz hf => pss_one (ps_expr (pe_bm PySem.F.plainAttrs_list PySem.F.slot_list_append PySem.F.type_list_append mt_append (pv 1) (pa_cons (pe_xf (ff "NoLine" (by decide +kernel)).xf c.z_NoLine hz hf (pv 2)) pa_nil)))))
    (pss_cons (ps_try_as (i := 2) (c := .ref (He.ga K "Ring")) (ts := tsF K "Ring" "ring") (tb := tbF (gp K q2 hq2) f_law_of_stages 11) rfl rfl nd rfl rfl ⟨rfl, by decide, .inl c.g_Ring⟩ tk
        (fun W pn xe tkW _ => pss_one (ps_expr (pe_callSD (FnOk.mono F4.ok (by decide)) hr rfl c.g__law_of_stages F4.kp F4.b .nil (fun σ => passAt tkW σ) (pa_cons pe_int (pa_cons (pv 0) pa_nil)))))
        (fun a oe cls d pn hz hf => pss_one (ps_expr (pe_bm PySem.F.plainAttrs_list PySem.F.slot_list_append PySem.F.type_list_append mt_append (pv 1) (pa_cons (pe_xf (ff "Ring" (by decide +kernel)).xf c.z_Ring hz hf (pv 2)) pa_nil)))))
    (pss_one (ps_ret (pe_cmpR (op_eqD hr.units) (pv 1) (pe_lst (pa_cons (pe_ix ix_seq (pe_lst (pa_cons pe_str (pa_cons pe_str pa_nil))) (pe_op op_mod (pv 0) pe_int) (by intro _ _; rfl)) (pa_cons (pv 0) (pa_cons pe_int (pa_cons (pe_lst (pa_cons pe_int pa_nil)) pa_nil))))) (nomark _)))))))), ?_⟩
  refine q_asgL (el_lst ea_nil (show 0 ≤ 100000 by decide)) fun l H1 f1 x1 l1 => ?_
  -- NoPoint
  refine ⟨.int n, rfl, ?_⟩
  refine spF_field (c := .noPoint) (fn := .name) (av := zA r1) (args2 (q := q1) e1 rfl) (z8 lt1') fun ρ1 d1 v1 H2 x2 hd1 rv1 => ?_
  obtain rfl := zA_v lt1' e1 rv1
  refine field_in (x := "NoPoint") (fld := "name") (ff "NoPoint" (by decide +kernel)).exm (x2 _ _ l1) (by decide) hd1 ?_
  have l2 : upd H2 l (.lst ([] ++ [.str (zz n)])) l = some (.lst ([] ++ [.str (zz n)])) := upd_same
  have y2 : Ex H0 (upd H2 l (.lst ([] ++ [.str (zz n)]))) := Ex.mut (x1.trans x2) f1
  -- NoSuch
  refine ⟨.int n, rfl, ?_⟩
  refine spF_field (c := .noSuch) (fn := .number) (av := .int 0 1) (args2 (q := q2) (m := 1) e2 rfl) t9 fun ρ2 d2 v2 H3 x3 hd2 rv2 => ?_
  have ev2 : v2 = .int n := by
    rw [show v2 = _ from rv2, e2]
    rfl
  subst ev2
  refine field_in (x := "NoSuch") (fld := "number") (ff "NoSuch" (by decide +kernel)).exm (x3 _ _ l2) (show 1 < 100 by decide) hd2 ?_
  have l3 : upd H3 l (.lst (([] ++ [.str (zz n)]) ++ [.int n])) l = some (.lst (([] ++ [.str (zz n)]) ++ [.int n])) := upd_same
  have y3 : Ex H0 (upd H3 l (.lst (([] ++ [.str (zz n)]) ++ [.int n]))) := Ex.mut (y2.trans x3) f1
  -- NoLine
  refine ⟨.int n, rfl, ?_⟩
  refine spF_field (c := .noLine) (fn := .number) (av := .int 2 0) (args2 (q := q3) e3 rfl) (of_all t10 lt3') fun ρ3 d3 v3 H4 x4 hd3 rv3 => ?_
  have ev3 : v3 = .int 2 := by rw [show v3 = _ from rv3, ← int_q]
  subst ev3
  refine field_in (x := "NoLine") (fld := "number") (ff "NoLine" (by decide +kernel)).exm (x4 _ _ l3) (show 2 < 100 by decide) hd3 ?_
  have l4 : upd H4 l (.lst ((([] ++ [.str (zz n)]) ++ [.int n]) ++ [.int 2])) l = some (.lst ((([] ++ [.str (zz n)]) ++ [.int n]) ++ [.int 2])) := upd_same
  have y4 : Ex H0 (upd H4 l (.lst ((([] ++ [.str (zz n)]) ++ [.int n]) ++ [.int 2]))) := Ex.mut (y3.trans x4) f1
  -- Ring
  refine ⟨.int n, rfl, ?_⟩
  refine spF_ring (args2 (q := q2) (m := 1) e2 rfl) t11 fun d4 pr H5 x5 hd4 lr => ?_
  have l5 := x5 _ _ l4
  refine field_in (x := "Ring") (fld := "ring") (ff "Ring" (by decide +kernel)).exm l5 (show 3 < 100 by decide) hd4 ?_
  have npl : pr ≠ l := ne_of lr l5 (fun z => by
    injection z with z
    have z2 := congrArg List.length z
    exact absurd z2 (show ¬ (1 = 3) by decide))
  have l6 : upd H5 l (.lst (((([] ++ [.str (zz n)]) ++ [.int n]) ++ [.int 2]) ++ [.ref pr])) l = some (.lst [.str (zz n), .int n, .int 2, .ref pr]) := upd_same
  have lr6 : upd H5 l (.lst (((([] ++ [.str (zz n)]) ++ [.int n]) ++ [.int 2]) ++ [.ref pr])) pr = some (.lst [.int 1]) := by rw [upd_ne npl]; exact lr
  have y6 : Ex H0 (upd H5 l (.lst (((([] ++ [.str (zz n)]) ++ [.int n]) ++ [.int 2]) ++ [.ref pr]))) := Ex.mut (y4.trans x5) f1
  generalize upd H5 l (.lst (((([] ++ [.str (zz n)]) ++ [.int n]) ++ [.int 2]) ++ [.ref pr])) = H6 at l6 lr6 y6
  -- the comparison
  refine ⟨.ref l, rfl, szl (show 2 ≤ 100000 by decide), fun a1 ha1 => ⟨.int n, rfl, n, 2, rfl, rfl, (show (0:Int) < 2 by decide), .inl ⟨a1, [.str (mkS [122, 122]), .str (mkS [98])], n % 2, .str (zz n), rfl, rfl, SqL.of ?_, zz_at n hn, ?_⟩⟩⟩
  · rw [upd_same]
    exact congrArg (fun z => some (HO.lst z)) (show [V.str "zz", V.str "b"] = _ by decide +kernel)
  · refine ⟨.int n, rfl, szl (show 1 ≤ 100000 by decide), fun a2 ha2 => ⟨szl (show 4 ≤ 100000 by decide), fun a3 ha3 => ?_⟩⟩
    have z1 := Ex.new (o := .lst [V.str "zz", V.str "b"]) ha1
    have z2 := Ex.new (o := .lst [V.int 1]) ha2
    have z3 := Ex.new (o := .lst [V.str (zz n), V.int n, V.int 2, V.ref a2]) ha3
    have w2 : (upd (upd H6 a1 (.lst [V.str "zz", V.str "b"])) a2 (.lst [V.int 1])) a2 = some (.lst [V.int 1]) := upd_same
    refine ⟨.list [.str (zz n), .int n, .int 2, .list [.int 1]], .list [.str (zz n), .int n, .int 2, .list [.int 1]], .lst (SqL.of (z3 _ _ (z2 _ _ (z1 _ _ l6)))) (.cons (.str _) (.cons (.int _) (.cons (.int _) (.cons (.lst (SqL.of (z3 _ _ (z2 _ _ (z1 _ _ lr6)))) (.cons (.int _) .nil)) .nil)))),
      .lst (SqL.of upd_same) (.cons (.str _) (.cons (.int _) (.cons (.int _) (.cons (.lst (SqL.of (z3 _ _ w2)) (.cons (.int _) .nil)) .nil)))), zz_ok n, zz_ok n, ?_⟩
    rw [zz_eq]
    exact hQ _ (y6.trans (z1.trans (z2.trans z3)))
end
end AE

namespace AE
open PySem L2 PySem.Spec
open PyProof.Rows hiding St
open Evl
/-! ### an exception kept as a value: made, its field read, asked for its kind -/
def Tr (H : Hp) (a C : Addr) (fs : List (Str × V)) : Prop := ∃ dx, H a = some (exo a C (some dx)) ∧ H dx = some (exd dx fs)
theorem Tr.ex {H H' : Hp} {a C : Addr} {fs : List (Str × V)} (h : Tr H a C fs) (e : Ex H H') : Tr H' a C fs := by
  obtain ⟨dx, h1, h2⟩ := h
  exact ⟨dx, e _ _ h1, e _ _ h2⟩
def tMkE (C : Addr) (sp : Sp) (ta : TA) : TE := fun σ H Q => ta σ H fun vs H1 => vs.length ≤ 1000 ∧ ∀ a, H1 a = none → sp (.ref a :: (vs ++ [])) (upd H1 a (exo a C none)) (fun v H2 => v = .non ∧ Q (.ref a) H2) (fun _ _ _ => False)
theorem pe_mkE {X : Cx} {CX : CXT} {x : Str} {e1 : Expr} {ta : TA} {p pos : Pos} {C fI : Addr} {k : Nat} {fd : FuncData} {ps : List Str} {sp : Sp} (T : OexC X.K C) (iC : PySem.W.findIn X.K (.ref C) "__init__" = some (some (.ref fI))) (tF : PySem.W.typeIn X.K (.ref fI) = some (.type "function"))
    (Fi : FnOk X.prog X.w X.K X.mg X.base CX k fI fd ps sp) (room : Room (k + 1) X.A) (bd : Binds X.K fd ps []) (px : Passes CX X (fun _ _ _ => False)) (gx : Gl X x) (mx : X.mg x = some (.ref C)) (hA : PA X [e1] ta)
    (db : (x == ("__debug__" : Str)) = false := by decide) (se : starEach [e1] X.env = (false, eval e1 X.env) :: starEach [] X.env := by rfl) (pl : (backTo pos (starEach [] X.env)).any (·.1) = false := by rfl) :
    PE X (.Call (.Name x p) [e1] [] pos) (tMkE C sp ta) := by
  refine ⟨fun pins s0 σ0 H0 Q0 I0 hw => ?_⟩
  obtain ⟨n1, n2, n3, n4, n5, n6, n7, n8, n9, n10, m0, m1, m2, m3, m5, oC, rC⟩ := T.cls
  refine wpAny_Call_Name_kw (ld_glob I0 gx mx ?_ db)
  refine PySem.W.callWith_K (h₀ := X.base) I0.ok.mod.kin T.kC (thn (hA.run pos pins s0 σ0 H0 _ I0 hw) fun args s1 ⟨avs, Ha, Ia, rel, small, good⟩ => ⟨Ia.kIn, ?_⟩) se pl
  show wpAny _ _ (call (.ref C) args) _ _ _
  obtain ⟨hq, gq, dq, tq, oq⟩ := s1
  have above : hq.objs.size ≤ hq.objs.size + 1 := Nat.le_succ _
  have newA : Ha (hq.objs.size + 1) = none := Ia.hok.fresh above
  have prom := good (hq.objs.size + 1) newA
  have keep2 : ∀ b o, hq.get? b = some o → ((hq.push (PySem.W.kdv_tup args)).push (PySem.HandSPX.excO C hq.objs.size)).get? b = some o := fun b o z => Heap.get?_push_of_some _ (Heap.get?_push_of_some _ z)
  have there : ((hq.push (PySem.W.kdv_tup args)).push (PySem.HandSPX.excO C hq.objs.size)).get? (hq.objs.size + 1) = some (PySem.HandSPX.excO C hq.objs.size) := by heap_get
  have Ib : Inv X pins σ0 (upd Ha (hq.objs.size + 1) (exo (hq.objs.size + 1) C none)) ⟨(hq.push (PySem.W.kdv_tup args)).push (PySem.HandSPX.excO C hq.objs.size), gq, dq, tq, oq⟩ :=
    Inv.laid (t' := tq) (a := hq.objs.size + 1) (o := exo (hq.objs.size + 1) C none) (h' := (hq.push (PySem.W.kdv_tup args)).push (PySem.HandSPX.excO C hq.objs.size)) Ia keep2 above (exo_ok there)
  have rel2 : Vals (V.ref (hq.objs.size + 1) :: (avs ++ [])) (Value.ref (hq.objs.size + 1) :: args) := .cons rfl (by rw [List.append_nil]; exact rel)
  have cnt : (Value.ref (hq.objs.size + 1) :: args ++ []).length = ps.length := by
    have z := rel2.length
    rw [Fi.len _ _ _ _ prom] at z
    rw [List.append_nil]
    exact z.symm
  have fits : args.length ≤ sizeLine := by
    have z := Paired.length rel
    rw [sizeLine_eq]
    omega
  have bound := bd _ (Value.ref (hq.objs.size + 1) :: args) Ib.kIn cnt
  rw [List.append_nil] at bound
  refine wpAny_call (PySem.HandSPX.call_own F.excBase_ValueError (fun Y => PySem.HandSPX.refsVE_contains Y n5 rC) (Ia.kIn _ _ oC) (PySem.W.looks_findIn Ia.kIn iC) (fun me => PySem.W.bind_fn Ia.kIn me tF) fits
    (codeAny_mono (Fi.run _ X.stack _ _ ⟨Value.ref (hq.objs.size + 1) :: args, []⟩ (Value.ref (hq.objs.size + 1) :: args) _ _ (fun _ _ _ => False) (room.make C args []) (Ib.env0.make C args []) bound rel2 prom) fun res s2 hres => ?_))
  cases res with
  | error er => exact px pins σ0 _ _ er s2 Ib hres
  | ok fl =>
    cases fl with
    | ret u =>
      obtain ⟨vv, H', I3, rvB, evn, q3⟩ := Ib.after hres
      subst evn
      exact ⟨rvB, V.ref (hq.objs.size + 1), H', I3, rfl, q3⟩
    | next => exact False.elim hres
    | brk => exact False.elim hres
    | cont => exact False.elim hres
def tXg (C : Addr) (f : Str) (te : TE) : TE := fun σ H Q => te σ H fun x H1 => ∃ (a dx : Addr) (fs : List (Str × V)) (v : V), x = .ref a ∧ H1 a = some (exo a C (some dx)) ∧ H1 dx = some (exd dx fs) ∧ fs.lookup f = some v ∧ Q v H1
theorem pe_xg {X : Cx} {C : Addr} {e : Expr} {te : TE} {pos : Pos} {n : Str} (T : XfC X.K C) (hno : PySem.W.findIn X.K (.ref C) n = some none) (he : PE X e te) (hb : attributeBase e n X.env (eval e X.env) = eval e X.env := by rfl) :
    PE X (.Attribute e n pos) (tXg C n te) := by
  refine ⟨fun pins s σ H Q I h => ?_⟩
  refine attr_of hb (thn (he.run pins s σ H _ I h) fun u s1 hh => ?_)
  obtain ⟨x, H1, I1, rx, a, dx, fs, v, ex, ea, ed, l, q⟩ := hh
  subst ex
  obtain rfl : u = Value.ref a := rx
  obtain ⟨t1, ha⟩ := exo_at I1.hok ea
  obtain ⟨mA, hns, hr⟩ := exd_at I1.hok ed
  obtain ⟨od, ho, hl⟩ := lookIn_ns hns
  obtain ⟨u, hu, ru⟩ := RelO.some_of (v := v) (o := mA n) (by rw [← l]; exact hr n)
  have J : PySem.W.InstAt s1.heap a { cls := .ref C, dict := some dx, data := .fields #[.ref t1, .none, .none, .none, .bool false, .none] } C (some od) := ⟨ha, rfl, rfl, ho⟩
  exact HandSPX.exc_get I1.kIn J T.ga T.gg T.exC (PySem.W.findObj_own T.hdC hno rfl (by rw [hl, hu])) (handed_of ru) ⟨v, H1, I1.tok _, ru, q⟩
def rIsT (K : PySem.W.Frag) : List V → Hp → VK → Prop := fun xs H Q => ∃ (a D : Addr) (c : V) (cv : Value) (b : Bool) (fs : List (Str × V)), xs = [.ref a, c] ∧ ExcC K D ∧ Tr H a D fs ∧ (∀ u, RelV c u → u = cv) ∧ PySem.W.kitOne K (.ref D) cv = some b ∧ Q (.bl b) H
theorem call_isT {X : Cx} : CallR X (.builtin "isinstance") (rIsT X.K) := by
  intro pins s σ H xs us Q I rel hw
  obtain ⟨a, D, c, cv, b, fs, rfl, C, tr, hcv, ek, q⟩ := hw
  cases rel with
  | cons r1 rel =>
    cases rel with
    | cons r2 rel =>
      cases rel
      cases r1
      have ec := hcv _ r2
      subst ec
      obtain ⟨dx, ea, ed⟩ := tr
      obtain ⟨t1, ha⟩ := exo_at I.hok ea
      obtain ⟨mA, hns, hr⟩ := exd_at I.hok ed
      obtain ⟨od, ho, hl⟩ := lookIn_ns hns
      have J : PySem.W.InstAt s.heap a { cls := .ref D, dict := some dx, data := .fields #[.ref t1, .none, .none, .none, .bool false, .none] } D (some od) := ⟨ha, rfl, rfl, ho⟩
      have hcls : (PySem.W.clsIn X.K D).isSome = true := by
        obtain ⟨cd, e1, _⟩ := PySem.W.any_some C.hd
        rw [e1]
        rfl
      exact PySem.W.kia_one (PySem.W.kitx_exc hcls C.hg C.hk C.hs C.ha C.hn C.ht C.hm) I.kIn J ek (fun z => nomatch z) fun tk => ⟨.bl b, H, I.kept (t' := tk) fun _ _ z => z, rfl, q⟩
theorem ev_isT {K : PySem.W.Frag} {a : Addr} {x : Str} {C : Addr} {fs : List (Str × V)} {i : Nat} {σ : L2.St} {H : Hp} {b : Bool} (hs : σ[i]? = some (some (.ref a))) (kf : ExcC K (He.ga K x)) (tr : Tr H a (He.ga K x) fs) (k : PySem.W.kitOne K (.ref (He.ga K x)) (.ref C) = some b) : Ev (tCB (rIsT K) (tCons (tVar i) (tCons (tC (.ref C)) tNil))) σ H (.bl b) := fun H1 e Q q =>
  ⟨.ref a, hs, a, He.ga K x, .ref C, .ref C, b, fs, rfl, kf, tr.ex e, fun u r => r, k, q H1 (Ex.refl H1)⟩
theorem ev_xg {C a : Addr} {f : Str} {fs : List (Str × V)} {v : V} {i : Nat} {σ : L2.St} {H : Hp} (hs : σ[i]? = some (some (.ref a))) (tr : Tr H a C fs) (l : fs.lookup f = some v) : Ev (tXg C f (tVar i)) σ H v := fun H1 e Q q => by
  obtain ⟨dx, h1, h2⟩ := tr
  exact ⟨.ref a, hs, a, dx, fs, v, rfl, e _ _ h1, e _ _ h2, l, q H1 (Ex.refl H1)⟩
/-- one of the makings -/
theorem mk_step {H : Hp} {C : Addr} {f : Str} {y : V} {Q : VK} (k : ∀ a H2, Ex H H2 → Tr H2 a C [(f, y)] → Q (.ref a) H2) (a : Addr) (ha : H a = none) : spI C f (.ref a :: ([y] ++ [])) (upd H a (exo a C none)) (fun v H2 => v = .non ∧ Q (.ref a) H2) (fun _ _ _ => False) :=
  ⟨a, y, rfl, upd_same, fun dx hdx hne => ⟨rfl, k a _ (fun b o hb => by
    have h1 : b ≠ a := fun z => by rw [z, ha] at hb; cases hb
    have h2 : b ≠ dx := fun z => by rw [z] at hb; rw [upd_ne hne, hb] at hdx; cases hdx
    rw [upd_ne h1, upd_ne h2, upd_ne h1]
    exact hb) ⟨dx, upd_same, by rw [upd_ne hne, upd_same]⟩⟩⟩
theorem q_mk {H : Hp} {C : Addr} {f : Str} {ta : TA} {y : V} {i : Nat} {tz : TS} {D : Ends} {σ : L2.St} (hy : EvA ta σ H [y]) (k : ∀ a H2, Ex H H2 → Tr H2 a C [(f, y)] → tz D (σ.set i (some (.ref a))) H2) : tSeq (tAsg (tMkE C (spI C f) ta) (gName i)) tz D σ H :=
  hy H (Ex.refl H) _ fun H1 e1 => ⟨by show 1 ≤ 1000; decide, mk_step (Q := fun x H2 => gName i x σ H2 (tz D)) fun a H2 e2 tr => k a H2 (e1.trans e2) tr⟩

/-! ### _law_cell_at -/
abbrev N_cell : List Str := ["_law_script", "_law_k"]
theorem sc_cell : FnScope N_cell ["_law_script", "_law_k"] (defScope (top 104)) := ⟨rfl, rfl, rfl, by decide +kernel, rfl, by decide +kernel, by decide +kernel⟩
def spKindsT (K : PySem.W.Frag) : Sp := fun vs H Q _ => ∃ (x : Str) (a : Addr) (fs : List (Str × V)), KitF K x ∧ vs = [.ref a] ∧ Tr H a (He.ga K x) fs ∧ ∀ p H', H p = none → Ex H H' → H' p = some (.lst ((flags x).map V.bl)) → Q (.ref p) H'
section
variable {P : Program} {w : World} {K : PySem.W.Frag} {mg : Str → Option Value} {base : Heap}
theorem ok_cell {CX : CXT} (c : Fx K mg w) : ∃ fd, Df P w K mg base CX 1 (He.ga K "_law_cell_at") fd ["_law_script", "_law_k"] (spCell K) := by
  obtain ⟨fd, Fd⟩ := c.d_law_cell_at
  refine ⟨fd, Fd.ok sc_cell (fun vs H Q E h => by obtain ⟨_, _, _, rfl, _⟩ := h; rfl) (fun cdv A outer s H0 vs Q E hr h => ⟨tCell K, ?_, cell_run h⟩), Fd.bindsN fun _ _ _ _ _ _ us hl => (match us, hl with | [_, _], _ => rfl), Fd.kp⟩
  exact pss_cons (ps_if (pt_cmp (pc_lt (pv 1) (pe_callB call_len rfl c.n_len boot_len (pa_cons (pv 0) pa_nil)))) (pss_one (ps_ret (pe_ix ix_seq (pv 0) (pv 1) (by intro _ _; rfl)))) pss_nil) (pss_one (ps_ret pe_int))
/-! ### _law_kinds of an exception that is a value -/
theorem ok_kindsT {CX : CXT} (c : Fx K mg w) : ∃ fd, Df P w K mg base CX 1 (He.ga K "_law_kinds") fd ["_law_e"] (spKindsT K) := by
  obtain ⟨fd, Fd⟩ := c.d_law_kinds
  refine ⟨fd, Fd.ok sc_kinds (fun vs H Q E h => by obtain ⟨_, _, _, _, rfl, _⟩ := h; rfl) (fun cdv A outer s H vs Q E hr h => ?_), Fd.bindsN fun _ _ _ _ _ _ us hl => (match us, hl with | [_], _ => rfl), Fd.kp⟩
  have nd := sc_kinds.nd
  have is : ∀ (y : Str) {p1 p2 p3 pos : Pos}, mg y = some (.ref (He.ga K y)) → Gl (cxOf CX P w K mg base ["_law_e", "_law_found"] "_law_kinds" (defScope (top 105)) (He.ga K "_law_kinds") cdv A outer s H E) y → (y == ("__debug__" : Str)) = false →
      PE (cxOf CX P w K mg base ["_law_e", "_law_found"] "_law_kinds" (defScope (top 105)) (He.ga K "_law_kinds") cdv A outer s H E) (.Call (.Name "isinstance" p1) [.Name "_law_e" p2, .Name y p3] [] pos)
        (tCB (rIsT K) (tCons (tVar 0) (tCons (tC (.ref (He.ga K y))) tNil))) := fun y {p1 p2 p3 pos} hy gy dy =>
    pe_callB (call_isT (X := cxOf CX P w K mg base ["_law_e", "_law_found"] "_law_kinds" (defScope (top 105)) (He.ga K "_law_kinds") cdv A outer s H E)) rfl c.n_isinstance boot_isinstance (pa_cons (pv 0) (pa_cons (pe_glob gy hy rfl dy) pa_nil))
  refine ⟨_, pss_cons (ps_set (i := 1) nd rfl (.inl rfl) (pe_lst (pa_cons (is "NoName" c.g_NoName rfl rfl) (pa_cons (is "Taken" c.g_Taken rfl rfl) (pa_cons (is "Alone" c.g_Alone rfl rfl) (pa_cons (is "NoNumber" c.g_NoNumber rfl rfl) pa_nil))))))
    (pss_cons (ps_set (i := 1) nd rfl (.inl rfl) (pe_op op_cat (pv 1) (pe_lst (pa_cons (is "TooMany" c.g_TooMany rfl rfl) (pa_cons (is "NoFlow" c.g_NoFlow rfl rfl) (pa_cons (is "TooLong" c.g_TooLong rfl rfl) (pa_cons (is "Stale" c.g_Stale rfl rfl) pa_nil)))))))
      (pss_one (ps_ret (pe_op op_cat (pv 1) (pe_lst (pa_cons (is "NoPoint" c.g_NoPoint rfl rfl) (pa_cons (is "NoSuch" c.g_NoSuch rfl rfl) (pa_cons (is "NoLine" c.g_NoLine rfl rfl) (pa_cons (is "Ring" c.g_Ring rfl rfl) pa_nil))))))))), ?_⟩
  obtain ⟨x, a, fs, kf, rfl, hd, hQ⟩ := h
  refine q_asgL (el_lst (ea_cons (ev_isT rfl kf.exc hd (kf.one "NoName" (by decide +kernel))) (ea_cons (ev_isT rfl kf.exc hd (kf.one "Taken" (by decide +kernel))) (ea_cons (ev_isT rfl kf.exc hd (kf.one "Alone" (by decide +kernel))) (ea_cons (ev_isT rfl kf.exc hd (kf.one "NoNumber" (by decide +kernel))) ea_nil)))) (show 4 ≤ 100000 by decide)) fun p1 H1 f1 e1 l1 => ?_
  have hd1 := hd.ex e1
  refine q_asgL (el_cat (ev_var rfl) l1 (el_lst (ea_cons (ev_isT rfl kf.exc hd1 (kf.one "TooMany" (by decide +kernel))) (ea_cons (ev_isT rfl kf.exc hd1 (kf.one "NoFlow" (by decide +kernel))) (ea_cons (ev_isT rfl kf.exc hd1 (kf.one "TooLong" (by decide +kernel))) (ea_cons (ev_isT rfl kf.exc hd1 (kf.one "Stale" (by decide +kernel))) ea_nil)))) (show 4 ≤ 100000 by decide)) (show 8 ≤ 100000 by decide)) fun p2 H2 f2 e2 l2 => ?_
  have hd2 := hd1.ex e2
  refine el_cat (ev_var rfl) l2 (el_lst (ea_cons (ev_isT rfl kf.exc hd2 (kf.one "NoPoint" (by decide +kernel))) (ea_cons (ev_isT rfl kf.exc hd2 (kf.one "NoSuch" (by decide +kernel))) (ea_cons (ev_isT rfl kf.exc hd2 (kf.one "NoLine" (by decide +kernel))) (ea_cons (ev_isT rfl kf.exc hd2 (kf.one "Ring" (by decide +kernel))) ea_nil)))) (show 4 ≤ 100000 by decide)) (show 12 ≤ 100000 by decide) H2 (Ex.refl H2) _ fun p3 H3 f3 e3 l3 => ?_
  exact hQ p3 H3 (fresh_back e1 (fresh_back e2 f3)) (e1.trans (e2.trans e3)) l3
end
end AE

namespace AE
open PySem L2 PySem.Spec
open PyProof.Rows hiding St
open Evl
/-! ### _law_made -/
abbrev N_made : List Str := ["_law_number", "_law_one", "_law_two", "_law_three", "_law_four", "_law_e", "_law_kind_here"]
theorem sc_made : FnScope N_made ["_law_number"] (defScope (top 110)) := ⟨rfl, rfl, rfl, by decide +kernel, rfl, by decide +kernel, by decide +kernel⟩
def four : List Str := ["NoPoint", "NoSuch", "NoLine", "Ring"]
theorem four_in : ∀ x ∈ four, x ∈ xNames := by decide +kernel
theorem one_flag : ∀ x ∈ xNames, ((List.range 12).filter fun i => (flags x).getD i false).length = 1 := by decide +kernel
theorem flags_at {x : Str} {i : Nat} {v : V} (h : ((flags x).map V.bl)[i]? = some v) : v = .bl ((flags x).getD i false) := by
  rw [List.getElem?_map] at h
  rw [List.getD_eq_getElem?_getD]
  cases e : (flags x)[i]? with
  | none => rw [e] at h; cases h
  | some b => rw [e] at h; cases h; rfl
theorem mk_ok (n : Int) : SeqAt.shaped (.list [.str "ab", .int n, .int n, .list [.int 0, .int n]]) = true := by
  have h1 : PyData.strOk "ab" = true := by decide +kernel
  unfold SeqAt.shaped
  simp [PyData.canLay0, PyData.canLayAll0, PyData.depth, PyData.depthAll, h1]
theorem mk_eq (n : Int) : PyData.eqv (.list [.str "ab", .int n, .int n, .list [.int 0, .int n]]) (.list [.str "ab", .int n, .int n, .list [.int 0, .int n]]) = true := by
  simp [PyData.eqv, PyData.eqvAll]
def spMade : Sp := fun vs H Q _ => ∃ n : Int, vs = [.int n] ∧ ∀ H', Ex H H' → Q (.bl true) H'
section
variable {P : Program} {w : World} {K : PySem.W.Frag} {mg : Str → Option Value} {base : Heap}
theorem ok_made (c : Fx K mg w) (kf : ∀ x ∈ xNames, KitF K x) (xf : ∀ x ∈ four, XfC K (He.ga K x)) :
    ∃ fd, Df P w K mg base (L2.CX P w) 6 (He.ga K "_law_made") fd ["_law_number"] spMade := by
  obtain ⟨fd, Fd⟩ := c.d_law_made
  obtain ⟨fd1, F1⟩ := ok_XNoPoint (P := P) (w := w) (base := base) c
  obtain ⟨fd2, F2⟩ := ok_XNoSuch (P := P) (w := w) (base := base) c
  obtain ⟨fd3, F3⟩ := ok_XNoLine (P := P) (w := w) (base := base) c
  obtain ⟨fd4, F4⟩ := ok_XRing (P := P) (w := w) (base := base) c
  obtain ⟨fd5, F5⟩ := ok_kindsT (P := P) (w := w) (base := base) (CX := CX0) c
  refine ⟨fd, Fd.ok sc_made (fun vs H Q E h => by obtain ⟨_, rfl, _⟩ := h; rfl) (fun cdv A outer s H0 vs Q E hr h => ?_), Fd.bindsN fun _ _ _ _ _ _ us hl => (match us, hl with | [_], _ => rfl), Fd.kp⟩
  obtain ⟨n, rfl, hQ⟩ := h
  have nd := sc_made.nd
  have tk : L2.Takes (cxOf (L2.CX P w) P w K mg base N_made "_law_made" (defScope (top 110)) (He.ga K "_law_made") cdv A outer s H0 E) (fun cls d _ H => E cls d H) := L2.takes_of rfl rfl rfl rfl
  have px0 : Passes (L2.CX P w) (cxOf (L2.CX P w) P w K mg base N_made "_law_made" (defScope (top 110)) (He.ga K "_law_made") cdv A outer s H0 E) (fun _ _ _ => False) := L2.passes_call tk (fun _ _ _ _ h => h.elim)
  have po : PassesOwn (model P w) (cxOf (L2.CX P w) P w K mg base N_made "_law_made" (defScope (top 110)) (He.ga K "_law_made") cdv A outer s H0 E).A (cxOf (L2.CX P w) P w K mg base N_made "_law_made" (defScope (top 110)) (He.ga K "_law_made") cdv A outer s H0 E).env (cxOf (L2.CX P w) P w K mg base N_made "_law_made" (defScope (top 110)) (He.ga K "_law_made") cdv A outer s H0 E).xe := L2.passes_of rfl
  have hr2 : ∀ {j : Nat}, j ≤ 5 → Room j (cxOf (L2.CX P w) P w K mg base N_made "_law_made" (defScope (top 110)) (He.ga K "_law_made") cdv A outer s H0 E).A := fun h => hr.mono h
  refine ⟨_, pss_cons (ps_set (i := 1) nd rfl (.inl rfl) (pe_mkE c.y_NoPoint.o c.y_NoPoint.iC c.y_NoPoint.tI F1.l2.ok (hr2 (by decide)) F1.b px0 rfl c.g_NoPoint (pa_cons pe_str pa_nil)))
    (pss_cons (ps_set (i := 2) nd rfl (.inl rfl) (pe_mkE c.y_NoSuch.o c.y_NoSuch.iC c.y_NoSuch.tI F2.l2.ok (hr2 (by decide)) F2.b px0 rfl c.g_NoSuch (pa_cons (pv 0) pa_nil)))
    (pss_cons (ps_set (i := 3) nd rfl (.inl rfl) (pe_mkE c.y_NoLine.o c.y_NoLine.iC c.y_NoLine.tI F3.l2.ok (hr2 (by decide)) F3.b px0 rfl c.g_NoLine (pa_cons (pv 0) pa_nil)))
    (pss_cons (ps_set (i := 4) nd rfl (.inl rfl) (pe_mkE c.y_Ring.o c.y_Ring.iC c.y_Ring.tI F4.l2.ok (hr2 (by decide)) F4.b px0 rfl c.g_Ring (pa_cons (pe_lst (pa_cons pe_int (pa_cons (pv 0) pa_nil))) pa_nil)))
    (pss_cons (ps_if (pt_cmpR (op_neD hr.units) (pe_lst (pa_cons (pe_xg (xf "NoPoint" (by decide +kernel)) c.z_NoPoint (pv 1)) (pa_cons (pe_xg (xf "NoSuch" (by decide +kernel)) c.z_NoSuch (pv 2)) (pa_cons (pe_xg (xf "NoLine" (by decide +kernel)) c.z_NoLine (pv 3)) (pa_cons (pe_xg (xf "Ring" (by decide +kernel)) c.z_Ring (pv 4)) pa_nil)))))
        (pe_lst (pa_cons pe_str (pa_cons (pv 0) (pa_cons (pv 0) (pa_cons (pe_lst (pa_cons pe_int (pa_cons (pv 0) pa_nil))) pa_nil))))) (nomark _)) (pss_one (ps_ret pe_bl)) pss_nil)
    (pss_cons (ps_for po rfl (pi_list (pe_lst (pa_cons (pv 1) (pa_cons (pv 2) (pa_cons (pv 3) (pa_cons (pv 4) pa_nil)))))) (gn 5 nd)
        (pss_one (ps_if (pwpt (pw_or (pt_not (pt_val (pe_callB call_isT rfl c.n_isinstance boot_isinstance (pa_cons (pv 5) (pa_cons (pe_glob (x := "DrawError") (v := .ref (He.ga K "DrawError")) rfl c.g_DrawError rfl (by decide)) pa_nil)))))
          (pw_or1 (pt_cmpR op_ne (pe_callB call_len_seq rfl c.n_len boot_len (pa_cons
            (pe_lc (own := [("_law_kind_here", 6)]) rfl nd (pi_list (pe_call (E := E0) F5.ok (hr2 (by decide)) rfl c.g__law_kinds F5.kp F5.b .nil pass0 (pa_cons (pv 5) pa_nil))) (blkOk_by (N := N_made) (sc := defScope (top 110)) (by decide +kernel)) (fun _ _ _ _ _ => gn 6 nd) (fun _ _ _ _ _ => pts_one (pt_val (pv 6))) (fun _ _ _ _ _ => pv 6)) pa_nil)) pe_int (nomark _))))) (pss_one (ps_ret pe_bl)) pss_nil)))
    (pss_one (ps_ret pe_bl))))))), ?_⟩
  refine q_mk (ea_cons ev_c ea_nil) fun a1 H1 x1 t1 => ?_
  refine q_mk (ea_cons (ev_var rfl) ea_nil) fun a2 H2 x2 t2 => ?_
  refine q_mk (ea_cons (ev_var rfl) ea_nil) fun a3 H3 x3 t3 => ?_
  refine ⟨.int n, rfl, szl (show 2 ≤ 100000 by decide), fun r hr0 => ⟨by show 1 ≤ 1000; decide, mk_step (Q := fun x H2 => gName 4 x _ H2 _) fun a4 H4 x4 t4 => ?_⟩⟩
  have x4' := (Ex.new (o := .lst [V.int 0, V.int n]) hr0).trans x4
  have lr : H4 r = some (.lst [.int 0, .int n]) := x4 _ _ upd_same
  have t3 := t3.ex x4'
  have t2 := (t2.ex x3).ex x4'
  have t1 := ((t1.ex x2).ex x3).ex x4'
  have y4 : Ex H0 H4 := x1.trans (x2.trans (x3.trans x4'))
  have cmp : EvT (tTest (tOp (rNeD K) (tLst (tCons (tXg (He.ga K "NoPoint") "name" (tVar 1)) (tCons (tXg (He.ga K "NoSuch") "number" (tVar 2)) (tCons (tXg (He.ga K "NoLine") "number" (tVar 3)) (tCons (tXg (He.ga K "Ring") "ring" (tVar 4)) tNil)))))
      (tLst (tCons (tC (.str "ab")) (tCons (tVar 0) (tCons (tVar 0) (tCons (tLst (tCons (tC (.int 0)) (tCons (tVar 0) tNil))) tNil))))))) [some (.int n), some (.ref a1), some (.ref a2), some (.ref a3), some (.ref a4), none, none] H4 false := et_test fun H5 x5 Q q => by
    refine el_lst (vs := [.str "ab", .int n, .int n, .ref r]) (ea_cons (ev_xg rfl t1 (by simp [List.lookup])) (ea_cons (ev_xg rfl t2 (by simp [List.lookup])) (ea_cons (ev_xg rfl t3 (by simp [List.lookup])) (ea_cons (ev_xg rfl t4 (by simp [List.lookup])) ea_nil)))) (show 4 ≤ 100000 by decide) H5 x5 _ fun l H6 f6 x6 e6 => ?_
    refine ⟨.int n, rfl, .int n, rfl, .int n, rfl, szl (show 2 ≤ 100000 by decide), fun a5 ha5 => ⟨szl (show 4 ≤ 100000 by decide), fun a6 ha6 => ?_⟩⟩
    have z1 := Ex.new (o := .lst [V.int 0, V.int n]) ha5
    have z2 := Ex.new (o := .lst [V.str "ab", V.int n, V.int n, V.ref a5]) ha6
    have w1 : (upd H6 a5 (.lst [V.int 0, V.int n])) a5 = some (.lst [V.int 0, V.int n]) := upd_same
    refine ⟨.list [.str "ab", .int n, .int n, .list [.int 0, .int n]], .list [.str "ab", .int n, .int n, .list [.int 0, .int n]], .lst (SqL.of (z2 _ _ (z1 _ _ e6))) (.cons (.str _) (.cons (.int _) (.cons (.int _) (.cons (.lst (SqL.of (z2 _ _ (z1 _ _ (x6 _ _ (x5 _ _ lr))))) (.cons (.int _) (.cons (.int _) .nil))) .nil)))),
      .lst (SqL.of upd_same) (.cons (.str _) (.cons (.int _) (.cons (.int _) (.cons (.lst (SqL.of (z2 _ _ w1)) (.cons (.int _) (.cons (.int _) .nil))) .nil)))), mk_ok n, mk_ok n, ?_⟩
    rw [mk_eq]
    exact q _ (x6.trans (z1.trans z2))
  refine q_when cmp (fun z => nomatch z) fun _ H5 x5 => ?_
  have all4 : ∀ x ∈ [V.ref a1, V.ref a2, V.ref a3, V.ref a4], ∃ (a : Addr) (y : Str) (fs : List (Str × V)), x = .ref a ∧ y ∈ four ∧ Tr H4 a (He.ga K y) fs := by
    intro x hx
    rcases List.mem_cons.mp hx with rfl | hx
    · exact ⟨a1, "NoPoint", _, rfl, by decide +kernel, t1⟩
    rcases List.mem_cons.mp hx with rfl | hx
    · exact ⟨a2, "NoSuch", _, rfl, by decide +kernel, t2⟩
    rcases List.mem_cons.mp hx with rfl | hx
    · exact ⟨a3, "NoLine", _, rfl, by decide +kernel, t3⟩
    rcases List.mem_cons.mp hx with rfl | hx
    · exact ⟨a4, "Ring", _, rfl, by decide +kernel, t4⟩
    cases hx
  refine q_forNLn (xs := [V.ref a1, V.ref a2, V.ref a3, V.ref a4]) (el_lst (ea_cons (ev_var rfl) (ea_cons (ev_var rfl) (ea_cons (ev_var rfl) (ea_cons (ev_var rfl) ea_nil)))) (show 4 ≤ 100000 by decide))
    (fun p i σ' H' => (∃ o, σ' = [some (.int n), some (.ref a1), some (.ref a2), some (.ref a3), some (.ref a4), o, none]) ∧ Ex H4 H' ∧ H' p = some (.lst [V.ref a1, V.ref a2, V.ref a3, V.ref a4]))
    (fun p H6 f6 x6 l6 => ⟨⟨none, rfl⟩, x5.trans x6, l6⟩) (fun p i σ' H' _ h => sq_of h.2.2) (fun p i x σ' H' hx h => ?_) (fun p σ' H' h => hQ H' (y4.trans h.2.1))
  obtain ⟨⟨o, rfl⟩, xx, lp⟩ := h
  obtain ⟨a, y, fs, rfl, hy, tr⟩ := all4 x (List.mem_of_getElem? hx)
  have tr := tr.ex xx
  have ky := kf y (four_in y hy)
  refine s_when (b := false) (et_is (et_or (et_not (et_B (ev_isT rfl ky.exc tr ky.base))) fun _ => et_test (ev_op (ev_lenN (el_lcNL (xs := (flags y).map V.bl) (fun i => (flags y).getD i false) (fun i => .bl ((flags y).getD i false)) ?_ (show 12 ≤ 40000 by decide) (fun x => rfl) (fun i x H1 e hi => et_B ?_) (fun i x H1 e hi hf => ?_))) ev_c (rv_ne ?_))) ?_) (fun z => nomatch z) fun _ H7 x7 => ⟨⟨_, rfl⟩, xx.trans x7, x7 _ _ lp⟩
  · exact fun H1 e Q q => ⟨.ref a, rfl, y, a, fs, ky, rfl, tr.ex e, fun p H' hp e2 l => q p H' hp e2 l⟩
  · rw [flags_at hi]
    exact ev_var rfl
  · rw [flags_at hi]
    exact ev_var rfl
  · rfl
  · have z : (given ((flags y).map V.bl).length (fun i => (flags y).getD i false) (fun i => .bl ((flags y).getD i false))).length = 1 := by
      unfold given
      rw [List.length_map]
      exact one_flag y (four_in y hy)
    rw [z]
    rfl
end
end AE

namespace AE
open PySem L2 PySem.Spec
open PyProof.Rows hiding St
open Evl
/-! ### law -/
abbrev N_law : List Str := ["_law_script", "_law_which", "_law_found", "_law_number", "_law_one"]
theorem sc_law : FnScope N_law ["_law_script"] (defScope (top 111)) := ⟨rfl, rfl, rfl, by decide +kernel, rfl, by decide +kernel, by decide +kernel⟩
/-- what _law_kind answers -/
def found (k : Nat) : List V := (flags (xnm (kcls k))).map V.bl ++ [.bl true]
def fl13 (k : Nat) (i : Nat) : Bool := (flags (xnm (kcls k)) ++ [true]).getD i false
theorem found_at {k i : Nat} {v : V} (h : (found k)[i]? = some v) : v = .bl (fl13 k i) := by
  have e : found k = (flags (xnm (kcls k)) ++ [true]).map V.bl := by
    unfold found
    rw [List.map_append]
    rfl
  rw [e, List.getElem?_map] at h
  unfold fl13
  rw [List.getD_eq_getElem?_getD]
  cases e : (flags (xnm (kcls k)) ++ [true])[i]? with
  | none => rw [e] at h; cases h
  | some b => rw [e] at h; cases h; rfl
theorem two_flags : (List.range 12).all (fun k => decide (((List.range 13).filter (fl13 k)).length = 2) && decide ((flags (xnm (kcls k))).getD k false = true)) = true := by decide +kernel
theorem found_len (k : Nat) : (found k).length = 13 := by
  unfold found flags
  rw [List.length_append, List.length_map, List.length_map]
  rfl
theorem found_k {k : Nat} (h : k < 12) : atI (found k) (k : Int) = some (.bl true) := by
  have z := (Bool.and_eq_true_iff.mp (of_all two_flags h)).2
  have z := of_decide_eq_true z
  have h1 : ixN (found k).length (k : Int) = some k := ixN_nat (by rw [found_len]; omega)
  unfold atI
  rw [h1]
  show (found k)[k]? = _
  have hl : k < (found k).length := by rw [found_len]; omega
  have e := found_at (List.getElem?_eq_getElem hl)
  rw [List.getElem?_eq_getElem hl, e]
  have e2 : fl13 k k = true := by
    unfold fl13
    rw [List.getD_eq_getElem?_getD, List.getElem?_append_left (by unfold flags; rw [List.length_map]; exact h), ← List.getD_eq_getElem?_getD]
    exact z
  rw [e2]
theorem found_last (k : Nat) : atI (found k) (-1) = some (.bl true) := by
  have h1 : ixN (found k).length (-1) = some 12 := by
    rw [found_len]
    decide
  unfold atI
  rw [h1]
  show (found k)[12]? = _
  unfold found
  rw [List.getElem?_append_right (by rw [List.length_map]; unfold flags; rw [List.length_map]; decide)]
  rw [List.length_map]
  unfold flags
  rw [List.length_map]
  rfl
def spLaw (K : PySem.W.Frag) : Sp := fun vs H Q _ => ∃ (l : Addr) (ns : List Int), vs = [.ref l] ∧ SqL K H l (ns.map V.int) ∧ ∀ H', Q (.bl true) H'
theorem sp_cell {K : PySem.W.Frag} {l : Addr} {ns : List Int} {j : Nat} {H : Hp} (hs : SqL K H l (ns.map V.int)) : SpV (spCell K) ([.ref l, .int (j : Int)] ++ []) H (.int (cellOf ns j)) := fun H1 e Q q E => ⟨l, ns, j, rfl, ex_l e hs, q H1 (Ex.refl H1)⟩
theorem pow9 : CPow 10 9 := ⟨by decide, by decide, by decide⟩
theorem ev_num {K : PySem.W.Frag} {l : Addr} {ns : List Int} {tk : TE} {j : Nat} {σ : L2.St} {H : Hp} (h0 : σ[0]? = some (some (.ref l))) (hs : SqL K H l (ns.map V.int)) (hk : Ev tk σ H (.int (j : Int))) :
    Ev (tOp (rI (fun _ j => 0 < j) fun i j => .int (i % j)) (tCall (spCell K) [] E0 (tCons (tVar 0) (tCons tk tNil))) (tOp (rI CPow fun i j => .int (i ^ j.toNat)) (tC (.int 10)) (tC (.int 9)))) σ H (.int (cellOf ns j % 1000000000)) :=
  ev_is (ev_op (ev_call (ea_cons (ev_var h0) (ea_cons hk ea_nil)) (sp_cell hs)) (ev_op ev_c ev_c (rv_I pow9)) (rv_I (show (0 : Int) < 10 ^ 9 by decide))) (by rfl)
theorem rv_same {m n : Int} {H : Hp} (e : m = n) : Evl.RV rNe (.int m) (.int n) H (.bl false) := by
  subst e
  have z := rv_ne (x := .int m) (y := .int m) (H := H) rfl
  rw [show (!decide (V.int m = V.int m)) = false by simp] at z
  exact z
theorem num_nn (i : Int) : 0 ≤ i % 1000000000 := Int.emod_nonneg i (by decide)
section
variable {P : Program} {w : World} {K : PySem.W.Frag} {mg : Str → Option Value} {base : Heap}
theorem ok_law {fd : FuncData} (Fd : FunD K "law" "law" (defArgs (top 111)) (defBody (top 111)) (defScope (top 111)) [] [] (He.ga K "law") fd) (c : Fx K mg w) (hx : ∀ x : XN, PySem.W.exmOne K (.ref (He.ga K (xnm x))) (.ref (He.ga K "DrawError")) = some true) (kf : ∀ x ∈ xNames, KitF K x) (ff : ∀ x ∈ four, FieldF K x) :
    FnOk P w K mg base (L2.CX P w) 14 (He.ga K "law") fd ["_law_script"] (spLaw K) := by
  obtain ⟨fd1, F1⟩ := ok_cell (P := P) (w := w) (base := base) (CX := CX0) c
  obtain ⟨fd2, F2⟩ := ok_kind (P := P) (w := w) (base := base) c hx kf
  obtain ⟨fd3, F3⟩ := ok_fields (P := P) (w := w) (base := base) c hx ff
  obtain ⟨fd4, F4⟩ := ok_made (P := P) (w := w) (base := base) c kf fun x hx => (ff x hx).xf
  refine Fd.ok sc_law (fun vs H Q E h => by obtain ⟨_, _, rfl, _⟩ := h; rfl) (fun cdv A outer s H0 vs Q E hr h => ?_)
  obtain ⟨l, ns, rfl, hs, hQ⟩ := h
  have nd := sc_law.nd
  have tk : L2.Takes (cxOf (L2.CX P w) P w K mg base N_law "law" (defScope (top 111)) (He.ga K "law") cdv A outer s H0 E) (fun cls d _ H => E cls d H) := L2.takes_of rfl rfl rfl rfl
  have px0 : Passes (L2.CX P w) (cxOf (L2.CX P w) P w K mg base N_law "law" (defScope (top 111)) (He.ga K "law") cdv A outer s H0 E) E0 := L2.passes_call tk (fun _ _ _ _ h => h.elim)
  have po : PassesOwn (model P w) (cxOf (L2.CX P w) P w K mg base N_law "law" (defScope (top 111)) (He.ga K "law") cdv A outer s H0 E).A (cxOf (L2.CX P w) P w K mg base N_law "law" (defScope (top 111)) (He.ga K "law") cdv A outer s H0 E).env (cxOf (L2.CX P w) P w K mg base N_law "law" (defScope (top 111)) (He.ga K "law") cdv A outer s H0 E).xe := L2.passes_of rfl
  have hr2 : ∀ {j : Nat}, j ≤ 13 → Room j (cxOf (L2.CX P w) P w K mg base N_law "law" (defScope (top 111)) (He.ga K "law") cdv A outer s H0 E).A := fun h => hr.mono h
  refine ⟨_, pss_cons (ps_for po rfl (pi_range1 rfl c.n_range (pa_cons pe_int pa_nil)) (gn 1 nd)
      (pss_cons (ps_set (i := 2) nd rfl (.inl rfl) (pe_call (E := E0) F2.ok (hr2 (by decide)) rfl c.g__law_kind F2.kp F2.b .nil px0 (pa_cons (pv 1) (pa_cons
          (pe_op op_mod (pe_call (E := E0) F1.ok (hr2 (by decide)) rfl c.g__law_cell_at F1.kp F1.b .nil pass0 (pa_cons (pv 0) (pa_cons (pv 1) pa_nil))) (pe_op op_pow pe_int pe_int)) pa_nil))))
        (pss_one (ps_if (pwpt (pw_or (pt_cmpR op_isN (pv 2) pe_non (nomark _)) (pw_or (pt_cmpR op_ne (pe_callB call_len_seq rfl c.n_len boot_len (pa_cons
            (pe_lc (own := [("_law_one", 4)]) rfl nd (pi_list (pv 2)) (blkOk_by (N := N_law) (sc := defScope (top 111)) (by decide +kernel)) (fun _ _ _ _ _ => gn 4 nd) (fun _ _ _ _ _ => pts_one (pt_val (pv 4))) (fun _ _ _ _ _ => pv 4)) pa_nil)) pe_int (nomark _))
          (pw_or (pt_not (pt_val (pe_ix ix_seq (pv 2) (pv 1) (by intro _ _; rfl)))) (pw_or1 (pt_not (pt_val (pe_ix ix_seq (pv 2) (pe_un un_neg pe_int) (by intro _ _; rfl)))))))))
          (pss_one (ps_ret pe_bl)) pss_nil))))
    (pss_cons (ps_set (i := 3) nd rfl (.inl rfl) (pe_op op_mod (pe_call (E := E0) F1.ok (hr2 (by decide)) rfl c.g__law_cell_at F1.kp F1.b .nil pass0 (pa_cons (pv 0) (pa_cons pe_int pa_nil))) (pe_op op_pow pe_int pe_int)))
      (pss_one (ps_ret (pe_and (pe_call (E := E0) F3.ok (hr2 (by decide)) rfl c.g__law_fields F3.kp F3.b .nil px0 (pa_cons (pv 3) pa_nil)) (pe_one (pe_call (E := E0) F4.ok (hr2 (by decide)) rfl c.g__law_made F4.kp F4.b .nil px0 (pa_cons (pv 3) pa_nil))))))), ?_⟩
  refine q_forR1 (n := 12) (ea_cons ev_c ea_nil) (by decide) (fun i σ' H' => (∃ a b, σ' = [some (.ref l), a, b, none, none]) ∧ Ex H0 H') (fun H1 x1 => ⟨⟨none, none, rfl⟩, x1⟩) (fun i σ' H' hi h => ?_) (fun σ' H' h => ?_)
  · obtain ⟨⟨a, b, rfl⟩, x1⟩ := h
    have hi : i < 12 := by omega
    have hs1 := ex_l x1 hs
    refine q_asgL (xs := found i) ?_ fun p H2 f2 x2 l2 => ?_
    · exact el_call (sp := spKind) (ea_cons (ev_var rfl) (ea_cons (ev_num rfl hs1 (ev_var rfl)) ea_nil)) fun H1 e Q q E => ⟨i, _, hi, num_nn _, rfl, fun p H' hp e2 l => q p H' hp e2 l⟩
    · have hk := of_all two_flags hi
      have h2 := of_decide_eq_true (Bool.and_eq_true_iff.mp hk).1
      have l2' : SqL K H2 p (found i) := sq_of l2
      refine s_when (b := false) (et_is (et_or (a := false) (et_test (ev_op (ev_var (v := .ref p) rfl) ev_c fun H3 e Q q => ⟨rfl, q H3 (Ex.refl H3)⟩)) fun _ =>
        et_or (a := false) (et_test (ev_op (ev_lenN (el_lcL (a := p) (xs := found i) (fl13 i) (fun j => .bl (fl13 i j)) (ev_var rfl) l2' (by rw [found_len]; decide) (fun x => rfl) (fun j x H3 e hj => et_B ?_) (fun j x H3 e hj hf => ?_))) ev_c (rv_same ?_))) fun _ =>
        et_or (et_not (et_B (ev_op (ev_var (v := .ref p) rfl) (ev_var (v := .int (i : Int)) rfl) fun H3 e Q q => .inl ⟨p, found i, (i : Int), .bl true, rfl, rfl, ex_l e l2', found_k hi, q H3 (Ex.refl H3)⟩))) fun _ =>
          et_not (et_B (ev_op (ev_var (v := .ref p) rfl) (ev_un ev_c ru_neg) fun H3 e Q q => .inl ⟨p, found i, -1, .bl true, rfl, rfl, ex_l e l2', found_last i, q H3 (Ex.refl H3)⟩))) rfl) (fun z => nomatch z) fun _ H7 x7 => ⟨⟨_, _, rfl⟩, x1.trans (x2.trans x7)⟩
      · rw [found_at hj]
        exact ev_var rfl
      · rw [found_at hj]
        exact ev_var rfl
      · unfold given
        rw [List.length_map, found_len, h2]
        rfl
  · obtain ⟨⟨a, b, rfl⟩, x1⟩ := h
    refine q_asg (ev_num rfl (ex_l x1 hs) (j := 12) ev_c) fun H2 x2 => ?_
    refine Evl.s_ret (v := .bl true) (ev_is (ev_andV (a := true) (b := true) (ev_call (ea_cons (ev_var rfl) ea_nil) fun H1 e Q q E => ⟨_, num_nn _, rfl, fun H' e2 => q H' e2⟩) fun _ => ev_call (ea_cons (ev_var rfl) ea_nil) fun H1 e Q q E => ⟨_, rfl, fun H' e2 => q H' e2⟩) rfl) fun H3 _ => hQ H3
end
end AE

namespace AE
open PySem L2 PySem.Spec
open PyProof.Rows hiding St
/-! ### what the head's words say -/
theorem fx_of {K : PySem.W.Frag} {mg : Str → Option Value} {w : World} {h : Heap} (X : K.In h) (Gm : h.Ns mainGlobals mg) (c : He.SaysD fa fn K) (EX : ∀ x ∈ (["NoPoint", "NoSuch", "NoLine", "Ring"] : List Str), oexB K (He.ga K x) = true) (kC : CtOk K w (He.ga K "COUNTS")) (ne1 : He.ga K "Net" ≠ He.ga K "Own") (ne2 : He.ga K "Net" ≠ He.ga K "Desk") (ne3 : He.ga K "Own" ≠ He.ga K "Desk") : Fx K mg w where
  g_COUNTS := He.glo_ok X Gm (c.fact 0)
  g_Desk := He.glo_ok X Gm (c.fact 1)
  g_Net := He.glo_ok X Gm (c.fact 2)
  g_Own := He.glo_ok X Gm (c.fact 3)
  g_best_goal := He.glo_ok X Gm (c.fact 4)
  g_bound := He.glo_ok X Gm (c.fact 5)
  g_from_nought := He.glo_ok X Gm (c.fact 6)
  g_furthest := He.glo_ok X Gm (c.fact 7)
  g_in_range := He.glo_ok X Gm (c.fact 8)
  g_is_name := He.glo_ok X Gm (c.fact 9)
  g_keeps_net := He.glo_ok X Gm (c.fact 10)
  g_laid := He.glo_ok X Gm (c.fact 11)
  g_least_flow := He.glo_ok X Gm (c.fact 12)
  g_length := He.glo_ok X Gm (c.fact 13)
  g_levelled := He.glo_ok X Gm (c.fact 14)
  g_levels_by := He.glo_ok X Gm (c.fact 15)
  g_needs_of := He.glo_ok X Gm (c.fact 16)
  g_number_of := He.glo_ok X Gm (c.fact 17)
  g_numbers_of := He.glo_ok X Gm (c.fact 18)
  g_parts_of := He.glo_ok X Gm (c.fact 19)
  g_picture := He.glo_ok X Gm (c.fact 20)
  g_put_line := He.glo_ok X Gm (c.fact 21)
  g_read_net := He.glo_ok X Gm (c.fact 22)
  g_rests_of := He.glo_ok X Gm (c.fact 23)
  g_road := He.glo_ok X Gm (c.fact 24)
  g_room_for_one := He.glo_ok X Gm (c.fact 25)
  g_sent := He.glo_ok X Gm (c.fact 26)
  g_split_arrows := He.glo_ok X Gm (c.fact 27)
  g_turned := He.glo_ok X Gm (c.fact 28)
  g_ways_down := He.glo_ok X Gm (c.fact 29)
  g_went_back := He.glo_ok X Gm (c.fact 30)
  g_wishes_of := He.glo_ok X Gm (c.fact 31)
  i_FARTHEST := He.int_ok X Gm (c.fact 32)
  i_MOST_ARROWS := He.int_ok X Gm (c.fact 33)
  i_MOST_FIGURES := He.int_ok X Gm (c.fact 34)
  i_MOST_PAIRS := He.int_ok X Gm (c.fact 35)
  i_MOST_POINTS := He.int_ok X Gm (c.fact 36)
  m_Desk := He.mkr_ok (c.fact 37)
  m_Net := He.mkr_ok (c.fact 38)
  m_Own := He.mkr_ok (c.fact 39)
  n_all := He.free_ok X Gm (c.fact 40)
  n_any := He.free_ok X Gm (c.fact 41)
  n_dict := He.free_ok X Gm (c.fact 42)
  n_enumerate := He.free_ok X Gm (c.fact 43)
  n_int := He.free_ok X Gm (c.fact 44)
  n_len := He.free_ok X Gm (c.fact 45)
  n_list := He.free_ok X Gm (c.fact 46)
  n_min := He.free_ok X Gm (c.fact 47)
  n_range := He.free_ok X Gm (c.fact 48)
  n_reversed := He.free_ok X Gm (c.fact 49)
  n_sorted := He.free_ok X Gm (c.fact 50)
  n_str := He.free_ok X Gm (c.fact 51)
  n_zip := He.free_ok X Gm (c.fact 52)
  s_FIGURES := He.str_ok X Gm (c.fact 53)
  s_LETTERS := He.str_ok X Gm (c.fact 54)
  t_Desk_of_levels := He.meth_ok (c.fact 55)
  t_Desk_of_rows := He.meth_ok (c.fact 56)
  t_Desk_put := He.meth_ok (c.fact 57)
  t_Desk_rows_kept := He.meth_ok (c.fact 58)
  t_Desk_say := He.meth_ok (c.fact 59)
  t_Net_arrows := He.meth_ok (c.fact 60)
  t_Net_both_there := He.meth_ok (c.fact 61)
  t_Net_mosts := He.meth_ok (c.fact 62)
  t_Net_points := He.meth_ok (c.fact 63)
  t_Net_put_arrow := He.meth_ok (c.fact 64)
  t_Net_put_point := He.meth_ok (c.fact 65)
  t_Net_put_same := He.meth_ok (c.fact 66)
  t_Net_sames := He.meth_ok (c.fact 67)
  t_Net_take_arrow := He.meth_ok (c.fact 68)
  t_Own_label := He.meth_ok (c.fact 69)
  x_Alone := (let z := He.exc_ok (c.fact 70); ⟨z.1, He.glo_ok X Gm (c.fact 71), z.2.1, z.2.2.1, z.2.2.2⟩)
  x_NoFlow := (let z := He.exc_ok (c.fact 72); ⟨z.1, He.glo_ok X Gm (c.fact 73), z.2.1, z.2.2.1, z.2.2.2⟩)
  x_NoName := (let z := He.exc_ok (c.fact 74); ⟨z.1, He.glo_ok X Gm (c.fact 75), z.2.1, z.2.2.1, z.2.2.2⟩)
  x_NoNumber := (let z := He.exc_ok (c.fact 76); ⟨z.1, He.glo_ok X Gm (c.fact 77), z.2.1, z.2.2.1, z.2.2.2⟩)
  x_Stale := (let z := He.exc_ok (c.fact 78); ⟨z.1, He.glo_ok X Gm (c.fact 79), z.2.1, z.2.2.1, z.2.2.2⟩)
  x_Taken := (let z := He.exc_ok (c.fact 80); ⟨z.1, He.glo_ok X Gm (c.fact 81), z.2.1, z.2.2.1, z.2.2.2⟩)
  x_TooLong := (let z := He.exc_ok (c.fact 82); ⟨z.1, He.glo_ok X Gm (c.fact 83), z.2.1, z.2.2.1, z.2.2.2⟩)
  x_TooMany := (let z := He.exc_ok (c.fact 84); ⟨z.1, He.glo_ok X Gm (c.fact 85), z.2.1, z.2.2.1, z.2.2.2⟩)
  y_NoLine := ⟨oexB_ok (EX "NoLine" (by simp)), He.glo_ok X Gm (c.fact 86), (He.meth_ok (c.fact 88)).at_, beq_iff_eq.mp (He.meth_ok (c.fact 88)).fn⟩
  z_NoLine := He.noat_ok (c.fact 87)
  y_NoPoint := ⟨oexB_ok (EX "NoPoint" (by simp)), He.glo_ok X Gm (c.fact 89), (He.meth_ok (c.fact 91)).at_, beq_iff_eq.mp (He.meth_ok (c.fact 91)).fn⟩
  z_NoPoint := He.noat_ok (c.fact 90)
  y_NoSuch := ⟨oexB_ok (EX "NoSuch" (by simp)), He.glo_ok X Gm (c.fact 92), (He.meth_ok (c.fact 94)).at_, beq_iff_eq.mp (He.meth_ok (c.fact 94)).fn⟩
  z_NoSuch := He.noat_ok (c.fact 93)
  y_Ring := ⟨oexB_ok (EX "Ring" (by simp)), He.glo_ok X Gm (c.fact 95), (He.meth_ok (c.fact 97)).at_, beq_iff_eq.mp (He.meth_ok (c.fact 97)).fn⟩
  z_Ring := He.noat_ok (c.fact 96)
  g_row_drawn := He.glo_ok X Gm (c.fact 98)
  g__law_cell_at := He.glo_ok X Gm (c.fact 99)
  g__law_kinds := He.glo_ok X Gm (c.fact 100)
  g__law_of_nets := He.glo_ok X Gm (c.fact 101)
  g__law_of_stages := He.glo_ok X Gm (c.fact 102)
  g__law_kind := He.glo_ok X Gm (c.fact 103)
  g__law_fields := He.glo_ok X Gm (c.fact 104)
  g__law_made := He.glo_ok X Gm (c.fact 105)
  g_law := He.glo_ok X Gm (c.fact 106)
  g_DrawError := He.glo_ok X Gm (c.fact 107)
  g_NoName := He.glo_ok X Gm (c.fact 75)
  g_Taken := He.glo_ok X Gm (c.fact 81)
  g_Alone := He.glo_ok X Gm (c.fact 71)
  g_NoNumber := He.glo_ok X Gm (c.fact 77)
  g_TooMany := He.glo_ok X Gm (c.fact 85)
  g_NoFlow := He.glo_ok X Gm (c.fact 73)
  g_TooLong := He.glo_ok X Gm (c.fact 83)
  g_Stale := He.glo_ok X Gm (c.fact 79)
  g_NoPoint := He.glo_ok X Gm (c.fact 89)
  g_NoSuch := He.glo_ok X Gm (c.fact 92)
  g_NoLine := He.glo_ok X Gm (c.fact 86)
  g_Ring := He.glo_ok X Gm (c.fact 95)
  n_isinstance := He.free_ok X Gm (c.fact 108)
  n_ValueError := He.free_ok X Gm (c.fact 109)
  c_Net := He.cls_ok (c.fact 110)
  a_Net_halves := He.noat_ok (c.fact 111)
  a_Net_drawn_arrows := He.noat_ok (c.fact 112)
  a_Net_given := He.noat_ok (c.fact 113)
  a_Net_level_pairs := He.noat_ok (c.fact 114)
  a_Net_near_pairs := He.noat_ok (c.fact 115)
  c_Own := He.cls_ok (c.fact 116)
  a_Own_name := He.noat_ok (c.fact 117)
  a_Own_wide := He.noat_ok (c.fact 118)
  c_Desk := He.cls_ok (c.fact 119)
  a_Desk_net := He.noat_ok (c.fact 120)
  a_Desk_old := He.noat_ok (c.fact 121)
  d_is_name := c.def_ 0
  d_in_range := c.def_ 1
  d_room_for_one := c.def_ 2
  d_Net_init := c.def_ 3
  d_Net_both_there := c.def_ 4
  d_Net_put_point := c.def_ 5
  d_Net_put_arrow := c.def_ 6
  d_Net_put_same := c.def_ 7
  d_Net_take_arrow := c.def_ 8
  d_Net_points := c.def_ 9
  d_Net_arrows := c.def_ 10
  d_Net_sames := c.def_ 11
  d_Net_mosts := c.def_ 12
  d_went_back := c.def_ 13
  d_furthest := c.def_ 14
  d_rests_of := c.def_ 15
  d_needs_of := c.def_ 16
  d_best_goal := c.def_ 17
  d_sent := c.def_ 18
  d_least_flow := c.def_ 19
  d_parts_of := c.def_ 20
  d_from_nought := c.def_ 21
  d_laid := c.def_ 22
  d_Own_init := c.def_ 23
  d_Own_label := c.def_ 24
  d_row_drawn := c.def_ 25
  d_road := c.def_ 26
  d_split_arrows := c.def_ 27
  d_turned := c.def_ 28
  d_numbers_of := c.def_ 29
  d_ways_down := c.def_ 30
  d_wishes_of := c.def_ 31
  d_keeps_net := c.def_ 32
  d_length := c.def_ 33
  d_levels_by := c.def_ 34
  d_levelled := c.def_ 35
  d_number_of := c.def_ 36
  d_put_line := c.def_ 37
  d_Desk_init := c.def_ 38
  d_Desk_put := c.def_ 39
  d_Desk_of_levels := c.def_ 40
  d_Desk_rows_kept := c.def_ 41
  d_Desk_of_rows := c.def_ 42
  d_Desk_say := c.def_ 43
  d_bound := c.def_ 44
  d_law_of_nets := c.def_ 45
  d_law_of_stages := c.def_ 46
  d_XNoPoint := c.def_ 47
  d_XNoSuch := c.def_ 48
  d_XNoLine := c.def_ 49
  d_XRing := c.def_ 50
  d_law_cell_at := c.def_ 51
  d_law_kinds := c.def_ 52
  d_law_kind := c.def_ 53
  d_law_fields := c.def_ 54
  d_law_made := c.def_ 55
  d_law := c.def_ 56
  d_read_net := c.def_ 57
  d_picture := c.def_ 58
  kC := kC
  ne1 := ne1
  ne2 := ne2
  ne3 := ne3

theorem excCB_ok {K : PySem.W.Frag} {D : Addr} (h : excCB K D = true) : ExcC K D := by
  obtain ⟨h1, h⟩ := He.ba h
  obtain ⟨h2, h⟩ := He.ba h
  obtain ⟨h3, h⟩ := He.ba h
  obtain ⟨h4, h⟩ := He.ba h
  obtain ⟨h5, h⟩ := He.ba h
  obtain ⟨h6, h⟩ := He.ba h
  obtain ⟨h7, h8⟩ := He.ba h
  exact ⟨He.eqO_ok h1, He.eqO_ok h2, of_decide_eq_true h3, h4, He.eqO_ok h5, He.eqO_ok h6, of_decide_eq_true h7, of_decide_eq_true h8⟩
structure ExF (K : PySem.W.Frag) (w : World) : Prop where
  oex : ∀ x ∈ four, oexB K (He.ga K x) = true
  hx : ∀ x : XN, PySem.W.exmOne K (.ref (He.ga K (xnm x))) (.ref (He.ga K "DrawError")) = some true
  kf : ∀ x ∈ xNames, KitF K x
  ff : ∀ x ∈ four, FieldF K x
  ne1 : He.ga K "Net" ≠ He.ga K "Own"
  ne2 : He.ga K "Net" ≠ He.ga K "Desk"
  ne3 : He.ga K "Own" ≠ He.ga K "Desk"
  ct : ∀ p ∈ countTab, ∃ u, PySem.W.nsIn K (He.ga K "COUNTS") (mkS p.1) = some (some u) ∧ RelV (.int p.2) u
theorem ne_of_not {a b : Addr} (h : (!(a == b)) = true) : a ≠ b := fun z => by
  subst z
  rw [beq_self_eq_true] at h
  cases h
theorem exF {K : PySem.W.Frag} {w : World} (h : exB K = true) : ExF K w := by
  obtain ⟨h1, h⟩ := He.ba h
  obtain ⟨h2, h⟩ := He.ba h
  obtain ⟨h3, h⟩ := He.ba h
  obtain ⟨h4, h⟩ := He.ba h
  obtain ⟨h5, h6⟩ := He.ba h
  obtain ⟨n1, n⟩ := He.ba h5
  obtain ⟨n2, n3⟩ := He.ba n
  have a1 := fun x hx => He.ba (List.all_eq_true.mp h1 x hx)
  have a2 := fun x hx => He.ba (List.all_eq_true.mp h2 x hx)
  have a3 := fun x hx => He.ba (List.all_eq_true.mp h3 x hx)
  have a4 := List.all_eq_true.mp h4
  refine ⟨fun x hx => (a1 x hx).1, fun x => of_decide_eq_true (a3 _ (xnm_mem x)).1, fun x hx => ?_, fun x hx => ⟨of_decide_eq_true (a3 x (four_in x hx)).2, xfB_ok (a1 x hx).2⟩, ne_of_not n1, ne_of_not n2, ne_of_not n3, fun p hp => ?_⟩
  · obtain ⟨k1, k⟩ := a2 x hx
    obtain ⟨k2, k3⟩ := He.ba k
    exact ⟨fun y hy => of_decide_eq_true (List.all_eq_true.mp k1 y hy), of_decide_eq_true k2, of_decide_eq_true k3, excCB_ok (a4 x hx)⟩
  · have key : ∀ p ∈ countTab, (mkS p.1, He.Dv.int p.2) ∈ ([("level", .int 1), ("cross", .int 1), ("draw", .int 2)] : List (Str × He.Dv)) := by
      intro p hp
      rcases List.mem_cons.mp hp with rfl | hp
      · exact List.mem_cons.mpr (.inl (by rw [show (mkS [108, 101, 118, 101, 108] : Str) = "level" by decide +kernel]))
      rcases List.mem_cons.mp hp with rfl | hp
      · exact List.mem_cons.mpr (.inr (List.mem_cons.mpr (.inl (by rw [show (mkS [99, 114, 111, 115, 115] : Str) = "cross" by decide +kernel]))))
      rcases List.mem_cons.mp hp with rfl | hp
      · exact List.mem_cons.mpr (.inr (List.mem_cons.mpr (.inr (List.mem_cons.mpr (.inl (by rw [show (mkS [100, 114, 97, 119] : Str) = "draw" by decide +kernel]))))))
      cases hp
    obtain ⟨u, e1, e2⟩ := He.valsB_ok h6 (key p hp)
    exact ⟨u, e1, e2⟩
theorem fnOk_calm {P : Program} {w : World} {K : PySem.W.Frag} {mg : Str → Option Value} {base : Heap} {k : Nat} {f : Addr} {fd : FuncData} {ps : List Str} {sp : Sp} (F : FnOk P w K mg base (L2.CX P w) k f fd ps sp) (hE : ∀ vs H Q E, sp vs H Q E → sp vs H Q E0) : FnOk P w K mg base CX0 k f fd ps sp :=
  ⟨F.len, fun A outer s H args us vs Q E hr he hb hv hs => codeAny_mono (F.run A outer s H args us vs Q E0 hr he hb hv (hE _ _ _ _ hs)) fun r s' h => by
    cases r with
    | error e =>
      obtain ⟨a, B, H', cls, d, e1, fl, r⟩ := h
      exact r.2.2.2.2.2.elim
    | ok fl => cases fl <;> exact h⟩
theorem facts {P : Program} {w : World} {K : PySem.W.Frag} {h : Heap} {mg : Str → Option Value} {f : Addr} (X : K.In h) (G : h.Ns mainGlobals mg) (hfa : mg ("law" : Str) = some (.ref f)) (ce : exB K = true) (c : He.SaysT fa fn ts w K) :
    ∃ fd : FuncData, (∀ (s : Shared) (v : Value), BindsTo s fd ⟨[v], []⟩ [("_law_script", v)]) ∧ ∀ base : Heap, K.In base → base.Ns mainGlobals mg → FnOk P w K mg base CX0 14 f fd ["_law_script"] (spLaw K) := by
  have e := exF (w := w) ce
  obtain ⟨es, n, kd⟩ := c.tab 0
  have Fc : Fx K mg w := fx_of X G c.d e.oex ⟨⟨es, n, kd⟩, e.ct⟩ e.ne1 e.ne2 e.ne3
  have ef := hfa.symm.trans Fc.g_law
  cases ef
  obtain ⟨fd0, Fd⟩ := Fc.d_law
  have b := FunD.bindsA (ps := ["_law_script"]) Fd fun _ _ _ _ _ _ us hl => match us, hl with | [_], _ => rfl
  exact ⟨fd0, fun s v => b s [v] rfl, fun base _ _ => fnOk_calm (ok_law Fd Fc e.hx e.kf e.ff) fun vs H Q E h => h⟩
end AE

open PySem PySem.W PySem.Calls PyProof.Rows
theorem PySem.Challenge.cw_layerdraw_k07_each_refusal_by_itself_holds : PySem.Challenge.rw_layerdraw_k07_each_refusal_by_itself.Holds := by
  w_on; o_law
  refine HandSHeadRun.head_any (r := AE.R) (q := view AE.R.prog [111]) (H := AE.hk) (ob := AE.ob) (M := 8000) (loose := AE.loose) (d := HandSHeadRun.topDef AE.R.prog 111) (kwd := []) AE.ob_eq
    (by kernel_rfl) (fun s => by kernel_rfl) AE.run (by kernel_rfl) (by kernel_rfl) (by kernel_rfl) (by rfl) (by first | assumption | decide +kernel) (by decide +kernel) ⟨rfl, rfl, rfl, rfl, rfl, by decide +kernel⟩ ?hw ?hc
  case hw => w_witness2
  case hc =>
    refine L2.walk_ofE (l := PySem.Challenge.rw_layerdraw_k07_each_refusal_by_itself) (n := 63) (k := 14) (x := "_law_script") (CX := L2.CX0) rfl (by decide) (by kernel_rfl) ⟨rfl, by decide, by decide⟩ ?F (fun _ _ _ _ z => z)
    intro w mg fa h Y G hmg0
    obtain ⟨K, KX, c⟩ := Y
    have hmg : mg ("law" : PySem.Str) = some (.ref fa) := by
      have e : (HandSHeadRun.topDef AE.R.prog 111).name = ("law" : PySem.Str) := by kernel_rfl
      rw [← e]
      exact hmg0
    have c1 : AE.exB K = true := congrArg (fun z : AE.Ob => z.1) c
    have c2 : He.SaysT AE.fa AE.fn AE.ts w K := congrArg (fun z : AE.Ob => z.2) c
    obtain ⟨fd, hb, hF⟩ := AE.facts (P := (PySem.Challenge.rw_layerdraw_k07_each_refusal_by_itself).prog) (w := w) KX G hmg c1 c2
    exact ⟨K, fd, AE.spLaw K, KX, hb, fun H a ns hl _ hS => ⟨a, ns, rfl, hS, fun _ => rfl⟩, hF⟩
