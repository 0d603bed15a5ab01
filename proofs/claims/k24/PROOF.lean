import PyProof.Rows.All
import Wide.All
import OpenK.AllK
import Wide.FinOn
import HandS.ForMost
import HandS.StrMore
import HandS.Flow
import HandS.IsInst
import HandS.Lambda
import HandS.TryMany
import HandS.Style
import HandS.Conv
import HandS.WordsExc
import HandS.Wide
import HandS.Zip
import KE.GoesMore
import HandS.ExcInit
import HandS.ListItems
import HandS.ExcField
import HandS.HeadWalk
import HandS.Head0
import HandS.Head1
import HandS.Head2
import HandS.HeadEnd
import HandS.HeadHook1
import HandS.HeadHook2
import HandS.HeadHook3
import HandS.HeadHook4
import HandS.Defaults
import PySem.Challenge.RW_provenkind_k24_whole_tokens_of_texts
set_option Elab.async false
set_option linter.all false
set_option maxRecDepth 100000
set_option maxHeartbeats 0
-- Vs1
namespace Vs
open PySem L2

/-- never changed -/
def ImmO : HO → Prop
  | .tup _ => True
  | .frz _ _ => True
  | .ext _ => True
  | _ => False

def KeepI (H H' : Hp) : Prop := ∀ a o, ImmO o → H a = some o → H' a = some o
theorem KeepI.refl {H : Hp} : KeepI H H := fun _ _ _ e => e
theorem KeepI.off {H : Hp} {a : Addr} {u o : HO} (h : H a = some u) (n : ¬ ImmO u) : KeepI H (upd H a o) := fun b w i e => by
  rw [upd_ne (fun z => n (by rw [z, h] at e; cases e; exact i))]
  exact e
theorem sqT_imm {K : PySem.W.Frag} {H H' : Hp} {a : Addr} {vs : List V} (i : KeepI H H') (h : SqT K H a vs) : SqT K H' a vs := by
  rcases h with (h | ⟨o, h⟩) | h
  · exact .inl (.inl (i _ _ trivial h))
  · exact .inl (.inr ⟨o, i _ _ trivial h⟩)
  · exact .inr h

/-! ### trees -/
inductive T where
  | non | bl (b : Bool) | int (i : Int) | str (x : Str) | opq (a : Addr)
  | tup (xs : List T) | lst (xs : List T) | dct (ks vs : List T)
  /-- a dict that is never changed any more -/
  | fdc (ks vs : List T)
  deriving Inhabited

def keyT : Key → T
  | .inl i => .int i
  | .inr x => .str x

mutual
def imm : T → Bool
  | .tup xs => imms xs
  | .lst _ => false
  | .dct _ _ => false
  | .fdc _ vs => imms vs
  | _ => true
def imms : List T → Bool
  | [] => true
  | t :: r => imm t && imms r
end

section
variable (K : PySem.W.Frag)
mutual
def Rep (H : Hp) (F : Addr → Prop) : T → V → Prop
  | .non, v => v = .non
  | .bl b, v => v = .bl b
  | .int i, v => v = .int i
  | .str x, v => v = .str x
  | .opq a, v => v = .ref a
  | .tup ts, v => ∃ a vs, v = .ref a ∧ SqT K H a vs ∧ Reps H F ts vs
  | .lst ts, v => ∃ a vs, v = .ref a ∧ H a = some (.lst vs) ∧ F a ∧ Reps H (fun x => F x ∧ x ≠ a) ts vs
  | .dct ks ts, v => ∃ a kvs, v = .ref a ∧ H a = some (.dK kvs) ∧ F a ∧ ks = kvs.map (fun p => keyT p.1) ∧ Reps H (fun x => F x ∧ x ≠ a) ts (kvs.map (·.2))
  | .fdc ks ts, v => ∃ a o kvs, v = .ref a ∧ H a = some (.frz o (.dK kvs)) ∧ ks = kvs.map (fun p => keyT p.1) ∧ Reps H F ts (kvs.map (·.2))
def Reps (H : Hp) (F : Addr → Prop) : List T → List V → Prop
  | [], vs => vs = []
  | t :: ts, vs => ∃ v r, vs = v :: r ∧ Rep H F t v ∧ Reps H F ts r
end

variable {K : PySem.W.Frag} {H H' : Hp} {F F' : Addr → Prop}

mutual
theorem Rep.keep (hk : KeepI H H') : ∀ {F F' : Addr → Prop} (hf : ∀ a, F a → F' a ∧ ∀ o, H a = some o → H' a = some o) (t : T) (v : V), Rep K H F t v → Rep K H' F' t v
  | _, _, hf, .non, _, h => h
  | _, _, hf, .bl _, _, h => h
  | _, _, hf, .int _, _, h => h
  | _, _, hf, .str _, _, h => h
  | _, _, hf, .opq _, _, h => h
  | _, _, hf, .tup ts, _, ⟨a, vs, e, q, r⟩ => ⟨a, vs, e, sqT_imm hk q, Reps.keep hk hf ts vs r⟩
  | _, _, hf, .lst ts, _, ⟨a, vs, e, q, f, r⟩ => ⟨a, vs, e, (hf a f).2 _ q, (hf a f).1, Reps.keep hk (fun x z => ⟨⟨(hf x z.1).1, z.2⟩, (hf x z.1).2⟩) ts vs r⟩
  | _, _, hf, .dct ks ts, _, ⟨a, kvs, e, q, f, ek, r⟩ => ⟨a, kvs, e, (hf a f).2 _ q, (hf a f).1, ek, Reps.keep hk (fun x z => ⟨⟨(hf x z.1).1, z.2⟩, (hf x z.1).2⟩) ts _ r⟩
  | _, _, hf, .fdc ks ts, _, ⟨a, o, kvs, e, q, ek, r⟩ => ⟨a, o, kvs, e, hk _ _ trivial q, ek, Reps.keep hk hf ts _ r⟩
theorem Reps.keep (hk : KeepI H H') : ∀ {F F' : Addr → Prop} (hf : ∀ a, F a → F' a ∧ ∀ o, H a = some o → H' a = some o) (ts : List T) (vs : List V), Reps K H F ts vs → Reps K H' F' ts vs
  | _, _, hf, [], _, h => h
  | _, _, hf, t :: ts, _, ⟨v, r, e, h1, h2⟩ => ⟨v, r, e, Rep.keep hk hf t v h1, Reps.keep hk hf ts r h2⟩
end
mutual
theorem Rep.imm : ∀ (t : T) (v : V), imm t = true → Rep K H F t v → Rep K H F' t v
  | .non, _, _, h => h
  | .bl _, _, _, h => h
  | .int _, _, _, h => h
  | .str _, _, _, h => h
  | .opq _, _, _, h => h
  | .tup ts, _, i, ⟨a, vs, e, q, r⟩ => ⟨a, vs, e, q, Reps.imm ts vs i r⟩
  | .lst _, _, i, _ => by simp [Vs.imm] at i
  | .dct _ _, _, i, _ => by simp [Vs.imm] at i
  | .fdc _ ts, _, i, ⟨a, o, kvs, e, q, ek, r⟩ => ⟨a, o, kvs, e, q, ek, Reps.imm ts _ i r⟩
theorem Reps.imm : ∀ (ts : List T) (vs : List V), imms ts = true → Reps K H F ts vs → Reps K H F' ts vs
  | [], _, _, h => h
  | t :: ts, _, i, ⟨v, r, e, h1, h2⟩ => by
    have i' : Vs.imm t = true ∧ imms ts = true := by simpa [imms] using i
    exact ⟨v, r, e, Rep.imm t v i'.1 h1, Reps.imm ts r i'.2 h2⟩
end
theorem Rep.off {a : Addr} {t : T} {v : V} (h : Rep K H (fun x => F x ∧ x ≠ a) t v) : Rep K H F t v := Rep.keep (fun _ _ _ e => e) (fun x z => ⟨z.1, fun _ e => e⟩) t v h
theorem Reps.off {a : Addr} {ts : List T} {vs : List V} (h : Reps K H (fun x => F x ∧ x ≠ a) ts vs) : Reps K H F ts vs := Reps.keep (fun _ _ _ e => e) (fun x z => ⟨z.1, fun _ e => e⟩) ts vs h
theorem Reps.length : ∀ {ts : List T} {vs : List V}, Reps K H F ts vs → ts.length = vs.length
  | [], _, h => by subst h; rfl
  | t :: ts, _, ⟨v, r, e, h1, h2⟩ => by subst e; simp [Reps.length h2]
theorem Reps.get : ∀ {ts : List T} {vs : List V} {i : Nat} {t : T}, Reps K H F ts vs → ts[i]? = some t → ∃ v, vs[i]? = some v ∧ Rep K H F t v
  | [], _, _, _, _, e => by simp at e
  | t :: ts, _, 0, _, ⟨v, r, e1, h1, h2⟩, e => by subst e1; simp at e; subst e; exact ⟨v, rfl, h1⟩
  | t :: ts, _, i + 1, _, ⟨v, r, e1, h1, h2⟩, e => by
    subst e1
    obtain ⟨u, q1, q2⟩ := Reps.get (i := i) h2 (by simpa using e)
    exact ⟨u, by simpa using q1, q2⟩
theorem Reps.get' : ∀ {ts : List T} {vs : List V} {i : Nat} {v : V}, Reps K H F ts vs → vs[i]? = some v → ∃ t, ts[i]? = some t ∧ Rep K H F t v := fun {ts vs i v} r e => by
  have hl := r.length
  have hi : i < vs.length := (List.getElem?_eq_some_iff.mp e).1
  obtain ⟨u, q1, q2⟩ := r.get (i := i) (t := ts[i]'(by omega)) (List.getElem?_eq_getElem _)
  rw [e] at q1; cases q1
  exact ⟨_, List.getElem?_eq_getElem _, q2⟩
theorem Reps.append : ∀ {ts us : List T} {vs ws : List V}, Reps K H F ts vs → Reps K H F us ws → Reps K H F (ts ++ us) (vs ++ ws)
  | [], _, _, _, h, h' => by subst h; exact h'
  | t :: ts, _, _, _, ⟨v, r, e, h1, h2⟩, h' => by subst e; exact ⟨v, r ++ _, rfl, h1, Reps.append h2 h'⟩
theorem Reps.one {t : T} {v : V} (h : Rep K H F t v) : Reps K H F [t] [v] := ⟨v, [], rfl, h, rfl⟩
theorem Reps.drop : ∀ {ts : List T} {vs : List V} (n : Nat), Reps K H F ts vs → Reps K H F (ts.drop n) (vs.drop n)
  | [], _, _, h => by subst h; simp; rfl
  | _ :: _, _, 0, h => h
  | t :: ts, _, n + 1, ⟨v, r, e, h1, h2⟩ => by subst e; exact Reps.drop n h2
theorem Reps.take : ∀ {ts : List T} {vs : List V} (n : Nat), Reps K H F ts vs → Reps K H F (ts.take n) (vs.take n)
  | [], _, _, h => by subst h; simp; rfl
  | _ :: _, _, 0, h => by simp [Reps]
  | t :: ts, _, n + 1, ⟨v, r, e, h1, h2⟩ => by subst e; exact ⟨v, r.take n, rfl, h1, Reps.take n h2⟩
end
end Vs

-- Vs2
namespace Vs
open PySem L2

/-! ### what is kept apart: the stream of draws, tables -/
structure Glo where
  G : Type
  SA : G → Addr → Prop
  SI : G → Hp → Prop
  trk : ∀ {S H a}, SI S H → SA S a → ∃ o, H a = some o ∧ ¬ ImmO o
  stab : ∀ {S H H'}, SI S H → (∀ a, SA S a → H' a = H a) → (∀ a o, ImmO o → H a = some o → H' a = some o) → SI S H'

/-- from one state to a later one: what was tracked (but the kept-apart) is as it was -/
structure Stp (g : Glo) (S : g.G) (H : Hp) (S' : g.G) (H' : Hp) : Prop where
  keep : ∀ a o, H a = some o → (¬ g.SA S a ∨ ImmO o) → H' a = some o
  sa : ∀ a, g.SA S' a → g.SA S a ∨ H a = none
  there : ∀ a o, H a = some o → ∃ o', H' a = some o'

section
variable {g : Glo} {S S1 S2 : g.G} {H H1 H2 : Hp} {K : PySem.W.Frag}
theorem Stp.refl : Stp g S H S H := ⟨fun _ _ h _ => h, fun _ h => .inl h, fun _ o h => ⟨o, h⟩⟩
theorem Stp.trans (a : Stp g S H S1 H1) (b : Stp g S1 H1 S2 H2) : Stp g S H S2 H2 := by
  refine ⟨fun x o h q => ?_, fun x h => ?_, fun x o h => let ⟨o1, h1⟩ := a.there x o h; b.there x o1 h1⟩
  · have h1 := a.keep x o h q
    refine b.keep x o h1 ?_
    rcases q with q | q
    · refine .inl fun z => ?_
      rcases a.sa x z with z | z
      · exact q z
      · rw [h] at z; cases z
    · exact .inr q
  · rcases b.sa x h with z | z
    · exact a.sa x z
    · cases e : H x with
      | none => exact .inr rfl
      | some o =>
        refine .inl (Classical.byContradiction fun n => ?_)
        have := a.keep x o e (.inl n)
        rw [this] at z; cases z
theorem Stp.new {p : Addr} {o : HO} (hp : H p = none) : Stp g S H S (upd H p o) :=
  ⟨fun a u h _ => by rw [upd_ne (ne_of_none h hp)]; exact h, fun _ h => .inl h, fun a u h => ⟨u, by rw [upd_ne (ne_of_none h hp)]; exact h⟩⟩
theorem Stp.none (a : Stp g S H S1 H1) {x : Addr} (h : H1 x = none) : H x = none := by
  cases e : H x with
  | none => rfl
  | some o =>
    obtain ⟨o', e'⟩ := a.there x o e
    rw [h] at e'; cases e'
theorem Stp.imm (a : Stp g S H S1 H1) : KeepI H H1 := fun x o i e => a.keep x o e (.inr i)
theorem Stp.seqT (a : Stp g S H S1 H1) {x : Addr} {vs : List V} (h : SqT K H x vs) : SqT K H1 x vs := by
  rcases h with (h | ⟨o, h⟩) | h
  · exact .inl (.inl (a.keep _ _ h (.inr trivial)))
  · exact .inl (.inr ⟨o, a.keep _ _ h (.inr trivial)⟩)
  · exact .inr h
theorem Glo.new {p : Addr} {o : HO} (hs : g.SI S H) (hp : H p = none) : g.SI S (upd H p o) :=
  g.stab hs (fun a ha => by
    obtain ⟨u, e, _⟩ := g.trk hs ha
    rw [upd_ne (ne_of_none e hp)]) fun a u _ e => by rw [upd_ne (ne_of_none e hp)]; exact e
theorem Glo.notSA {p : Addr} (hs : g.SI S H) (hp : H p = none) : ¬ g.SA S p := fun h => by
  obtain ⟨o, e, _⟩ := g.trk hs h
  rw [hp] at e; cases e
end

/-! ### values with what is known of their footprint -/
structure SV where
  t : T
  own : Bool := false
  fr : Bool := true
  D : List Nat := []
  deriving Inhabited

abbrev VEnv := List (Option SV)

structure Wit where
  F : Nat → Addr → Prop
  p : Nat → Addr
  rs : List Addr

section
variable (K : PySem.W.Frag)
def RepR (H : Hp) (F : Addr → Prop) (p : Addr) : T → Prop
  | .lst ts => ∃ vs, H p = some (.lst vs) ∧ Reps K H F ts vs
  | .dct ks ts => ∃ kvs, H p = some (.dK kvs) ∧ ks = kvs.map (fun q => keyT q.1) ∧ Reps K H F ts (kvs.map (·.2))
  | _ => False
def RepS (H : Hp) (F : Addr → Prop) (p : Addr) (v : V) (s : SV) : Prop :=
  if s.own = true then v = .ref p ∧ F p ∧ RepR K H (fun a => F a ∧ a ≠ p) p s.t else Rep K H F s.t v
end
section
variable {K : PySem.W.Frag} {H H' : Hp} {F F' : Addr → Prop} {p : Addr} {v : V} {s : SV}
theorem RepS.rep (h : RepS K H F p v s) : Rep K H F s.t v := by
  unfold RepS at h
  split at h
  · obtain ⟨e, f, r⟩ := h
    subst e
    cases ht : s.t with
    | lst ts =>
      rw [ht] at r
      obtain ⟨vs, e, r⟩ := r
      exact ⟨p, vs, rfl, e, f, r⟩
    | dct ks ts =>
      rw [ht] at r
      obtain ⟨kvs, e, ek, r⟩ := r
      exact ⟨p, kvs, rfl, e, f, ek, r⟩
    | _ => rw [ht] at r; exact r.elim
  · exact h
theorem RepS.keep (hk : KeepI H H') (hf : ∀ a, F a → ∀ o, H a = some o → H' a = some o) (h : RepS K H F p v s) : RepS K H' F p v s := by
  unfold RepS at h ⊢
  split at h
  · rename_i ho
    rw [if_pos ho]
    obtain ⟨e, f, r⟩ := h
    refine ⟨e, f, ?_⟩
    cases ht : s.t with
    | lst ts =>
      rw [ht] at r
      obtain ⟨vs, e, r⟩ := r
      exact ⟨vs, hf p f _ e, Reps.keep hk (fun a q => ⟨q, hf a q.1⟩) ts vs r⟩
    | dct ks ts =>
      rw [ht] at r
      obtain ⟨kvs, e, ek, r⟩ := r
      exact ⟨kvs, hf p f _ e, ek, Reps.keep hk (fun a q => ⟨q, hf a q.1⟩) ts _ r⟩
    | _ => rw [ht] at r; exact r.elim
  · rename_i ho
    rw [if_neg ho]
    exact Rep.keep hk (fun a q => ⟨q, hf a q⟩) _ _ h
theorem RepS.plain (h : Rep K H F s.t v) (ho : s.own = false) : RepS K H F p v s := by
  unfold RepS
  rw [ho, if_neg Bool.false_ne_true]
  exact h
end

/-- what a def's body stands on: the entry -/
structure Bx where
  K : PySem.W.Frag
  g : Glo
  S0 : g.G
  H0 : Hp
  FA : Addr → Prop
  nN : Nat

section
variable (b : Bx)
structure Okay (S : b.g.G) (H : Hp) (F : Addr → Prop) (fr : Bool) : Prop where
  ap : ∀ a, F a → ¬ b.g.SA S a
  tr : ∀ a, F a → ∃ o, H a = some o
  nw : fr = true → ∀ a, F a → b.H0 a = none
  src : ∀ a, F a → b.H0 a = none ∨ b.FA a
structure EOk (W : Wit) (ε : VEnv) (σ : L2.St) (S : b.g.G) (H : Hp) : Prop where
  len : σ.length = ε.length
  at_ : ∀ i s, ε[i]? = some (some s) → ∃ v, σ[i]? = some (some v) ∧ RepS b.K H (W.F i) (W.p i) v s
  ok : ∀ i s, ε[i]? = some (some s) → Okay b S H (W.F i) s.fr
  nw : ∀ i s, ε[i]? = some (some s) → s.own = true → b.H0 (W.p i) = none
  rs : ∀ i s, ε[i]? = some (some s) → ∀ a, W.F i a → a ∉ W.rs
  pr : ∀ i s j s', ε[i]? = some (some s) → ε[j]? = some (some s') → i ≠ j → (s.own = true → s'.own = true → W.p i ≠ W.p j) ∧ (j ∉ s.D → ∀ a, W.F i a → ¬ W.F j a)
structure VOk1 (W : Wit) (ε : VEnv) (S : b.g.G) (H : Hp) (F : Addr → Prop) (p : Addr) (v : V) (s : SV) : Prop where
  rep : RepS b.K H F p v s
  ok : Okay b S H F s.fr
  nw : s.own = true → b.H0 p = none
  rs : ∀ a, F a → a ∉ W.rs
  pr : ∀ j s', ε[j]? = some (some s') → (s.own = true → ¬ W.F j p ∧ (s'.own = true → p ≠ W.p j)) ∧ (j ∉ s.D → ∀ a, F a → ¬ W.F j a)
def VOk (W : Wit) (ε : VEnv) (S : b.g.G) (H : Hp) (v : V) (s : SV) : Prop := ∃ F p, VOk1 b W ε S H F p v s
/-- the whole state of a body -/
structure BOk (W : Wit) (ε : VEnv) (σ : L2.St) (S : b.g.G) (H : Hp) : Prop where
  env : EOk b W ε σ S H
  st : Stp b.g b.S0 b.H0 S H
  si : b.g.SI S H
  rt : ∀ q ∈ W.rs, ∃ o, H q = some o
end

section
variable {b : Bx} {W : Wit} {ε : VEnv} {σ : L2.St} {S S' : b.g.G} {H H' : Hp} {F : Addr → Prop} {p : Addr} {v : V} {s : SV}
theorem Okay.step {fr : Bool} (h : Okay b S H F fr) (k : Stp b.g S H S' H') : Okay b S' H' F fr := by
  refine ⟨fun a q z => ?_, fun a q => ?_, h.nw, h.src⟩
  · rcases k.sa a z with z | z
    · exact h.ap a q z
    · obtain ⟨o, e⟩ := h.tr a q
      rw [e] at z; cases z
  · obtain ⟨o, e⟩ := h.tr a q
    exact ⟨o, k.keep a o e (.inl (h.ap a q))⟩
theorem Okay.at_ {fr : Bool} (h : Okay b S H F fr) (k : Stp b.g S H S' H') : ∀ a, F a → ∀ o, H a = some o → H' a = some o :=
  fun a q o e => k.keep a o e (.inl (h.ap a q))
theorem EOk.step (h : EOk b W ε σ S H) (k : Stp b.g S H S' H') : EOk b W ε σ S' H' := by
  refine ⟨h.len, fun i s e => ?_, fun i s e => (h.ok i s e).step k, h.nw, h.rs, h.pr⟩
  obtain ⟨v, e1, r⟩ := h.at_ i s e
  exact ⟨v, e1, r.keep k.imm ((h.ok i s e).at_ k)⟩
theorem VOk1.step (h : VOk1 b W ε S H F p v s) (k : Stp b.g S H S' H') : VOk1 b W ε S' H' F p v s :=
  ⟨h.rep.keep k.imm (h.ok.at_ k), h.ok.step k, h.nw, h.rs, h.pr⟩
theorem VOk.step (h : VOk b W ε S H v s) (k : Stp b.g S H S' H') : VOk b W ε S' H' v s :=
  let ⟨F, p, q⟩ := h; ⟨F, p, q.step k⟩
theorem BOk.step (h : BOk b W ε σ S H) (k : Stp b.g S H S' H') (si : b.g.SI S' H') : BOk b W ε σ S' H' :=
  ⟨h.env.step k, h.st.trans k, si, fun q hq => let ⟨o, e⟩ := h.rt q hq; k.there q o e⟩
theorem BOk.new {q : Addr} {o : HO} (h : BOk b W ε σ S H) (hq : H q = none) : BOk b W ε σ S (upd H q o) :=
  h.step (.new hq) (Glo.new h.si hq)

/-- an immutable value -/
theorem VOk.imm (hr : Rep b.K H F s.t v) (hi : imm s.t = true) (ho : s.own = false) : VOk b W ε S H v s :=
  ⟨fun _ => False, 0, ⟨RepS.plain (Rep.imm _ _ hi hr) ho, ⟨fun _ q => q.elim, fun _ q => q.elim, fun _ _ q => q.elim, fun _ q => q.elim⟩, (fun q => by rw [ho] at q; cases q), (fun _ q => q.elim),
    fun j s' e => ⟨(fun q => by rw [ho] at q; cases q), fun _ _ q => q.elim⟩⟩⟩
theorem VOk.rep (h : VOk b W ε S H v s) : ∃ F, Rep b.K H F s.t v := let ⟨F, p, q⟩ := h; ⟨F, q.rep.rep⟩
end

/-- what a name gives -/
def getV (ε : VEnv) (i : Nat) : Option SV :=
  match ε[i]? with
  | some (some s) => some { t := s.t, own := false, fr := s.fr, D := i :: s.D }
  | _ => none

section
variable {b : Bx} {W : Wit} {ε : VEnv} {σ : L2.St} {S S' : b.g.G} {H H' : Hp} {F : Addr → Prop} {p : Addr} {v : V} {s : SV}
theorem EOk.get (h : EOk b W ε σ S H) {i : Nat} (e : getV ε i = some s) : ∃ v, σ[i]? = some (some v) ∧ VOk b W ε S H v s := by
  unfold getV at e
  split at e
  · rename_i s0 e0
    cases e
    obtain ⟨v, e1, r⟩ := h.at_ i s0 e0
    refine ⟨v, e1, W.F i, W.p i, ⟨RepS.plain r.rep rfl, ?_, (fun q => by simp at q), h.rs i s0 e0, fun j s' ej => ⟨fun q => by simp at q, fun hj a f f' => ?_⟩⟩⟩
    · exact ⟨(h.ok i s0 e0).ap, (h.ok i s0 e0).tr, (h.ok i s0 e0).nw, (h.ok i s0 e0).src⟩
    · simp only [List.mem_cons, not_or] at hj
      exact (h.pr i s0 j s' e0 ej (fun z => hj.1 z.symm)).2 hj.2 a f f'
  · cases e

/-- names forgotten -/
theorem EOk.sub {ε' : VEnv} (h : EOk b W ε σ S H) (hl : ε'.length = ε.length) (hs : ∀ (i : Nat) (s : SV), ε'[i]? = some (some s) → ε[i]? = some (some s)) : EOk b W ε' σ S H :=
  ⟨h.len.trans hl.symm, fun i s e => h.at_ i s (hs i s e), fun i s e => h.ok i s (hs i s e), fun i s e => h.nw i s (hs i s e), fun i s e => h.rs i s (hs i s e), fun i s j s' e e' => h.pr i s j s' (hs i s e) (hs j s' e')⟩
theorem VOk.sub {ε' : VEnv} (h : VOk b W ε S H v s) (hs : ∀ (i : Nat) (s : SV), ε'[i]? = some (some s) → ε[i]? = some (some s)) : VOk b W ε' S H v s :=
  let ⟨F, p, q⟩ := h
  ⟨F, p, q.rep, q.ok, q.nw, q.rs, fun j s' e => q.pr j s' (hs j s' e)⟩

def Wit.set (W : Wit) (i : Nat) (F : Addr → Prop) (p : Addr) : Wit := ⟨fun j => if j = i then F else W.F j, fun j => if j = i then p else W.p j, W.rs⟩
theorem Wit.setF {i : Nat} : (W.set i F p).F i = F := if_pos rfl
theorem Wit.setp {i : Nat} : (W.set i F p).p i = p := if_pos rfl
theorem Wit.neF {i j : Nat} (h : j ≠ i) : (W.set i F p).F j = W.F j := if_neg h
theorem Wit.nep {i j : Nat} (h : j ≠ i) : (W.set i F p).p j = W.p j := if_neg h

theorem set_get {ε : VEnv} {i j : Nat} {s s' : SV} (e : (ε.set i (some s))[j]? = some (some s')) : (j = i ∧ s' = s) ∨ (j ≠ i ∧ ε[j]? = some (some s')) := by
  by_cases h : j = i
  · subst h
    by_cases hl : j < ε.length
    · rw [List.getElem?_set_self hl] at e
      cases e
      exact .inl ⟨rfl, rfl⟩
    · rw [List.getElem?_eq_none (by simpa using hl)] at e
      cases e
  · rw [List.getElem?_set_ne (Ne.symm h)] at e
    exact .inr ⟨h, e⟩

/-- i is noted at the names of D -/
def mark (i : Nat) (D : List Nat) : Nat → VEnv → VEnv
  | _, [] => []
  | k, none :: r => none :: mark i D (k + 1) r
  | k, some s :: r => some (if D.contains k = true then { s with D := i :: s.D } else s) :: mark i D (k + 1) r
theorem mark_get {i : Nat} {D : List Nat} : ∀ {ε : VEnv} {k j : Nat} {s : SV}, (mark i D k ε)[j]? = some (some s) →
    ∃ s0, ε[j]? = some (some s0) ∧ s.t = s0.t ∧ s.own = s0.own ∧ s.fr = s0.fr ∧ (∀ x ∈ s0.D, x ∈ s.D) ∧ (k + j ∈ D → i ∈ s.D)
  | [], _, _, _, h => by simp [mark] at h
  | none :: r, k, 0, s, h => by simp [mark] at h
  | none :: r, k, j + 1, s, h => by
    have h' : (mark i D (k + 1) r)[j]? = some (some s) := by simpa [mark] using h
    obtain ⟨s0, h1, h2⟩ := mark_get h'
    exact ⟨s0, by simpa using h1, by rw [show k + (j + 1) = k + 1 + j by omega]; exact h2⟩
  | some s0 :: r, k, 0, s, h => by
    have h' : (if D.contains k = true then { s0 with D := i :: s0.D } else s0) = s := by simpa [mark] using h
    refine ⟨s0, rfl, ?_⟩
    split at h'
    · subst h'
      exact ⟨rfl, rfl, rfl, fun x hx => List.mem_cons_of_mem _ hx, fun _ => List.mem_cons_self⟩
    · rename_i hc
      subst h'
      exact ⟨rfl, rfl, rfl, fun x hx => hx, fun z => absurd (by simpa using z) hc⟩
  | some s0 :: r, k, j + 1, s, h => by
    have h' : (mark i D (k + 1) r)[j]? = some (some s) := by simpa [mark] using h
    obtain ⟨s0, h1, h2⟩ := mark_get h'
    exact ⟨s0, by simpa using h1, by rw [show k + (j + 1) = k + 1 + j by omega]; exact h2⟩
theorem mark_length {i : Nat} {D : List Nat} : ∀ {ε : VEnv} {k : Nat}, (mark i D k ε).length = ε.length
  | [], _ => rfl
  | none :: r, k => by simp [mark, mark_length]
  | some _ :: r, k => by simp [mark, mark_length]
def setV (ε : VEnv) (i : Nat) (s : SV) : VEnv := match s.D with
  | [] => ε.set i (some s)
  | d :: ds => (mark i (d :: ds) 0 ε).set i (some s)
theorem setV_get {ε : VEnv} {i j : Nat} {s s' : SV} (e : (setV ε i s)[j]? = some (some s')) :
    (j = i ∧ s' = s) ∨ (j ≠ i ∧ ∃ s0, ε[j]? = some (some s0) ∧ s'.t = s0.t ∧ s'.own = s0.own ∧ s'.fr = s0.fr ∧ (∀ x ∈ s0.D, x ∈ s'.D) ∧ (j ∈ s.D → i ∈ s'.D)) := by
  unfold setV at e
  split at e
  · rename_i hD
    rcases set_get e with z | ⟨z, e⟩
    · exact .inl z
    · exact .inr ⟨z, s', e, rfl, rfl, rfl, fun _ h => h, fun h => by rw [hD] at h; cases h⟩
  · rename_i d ds hD
    rcases set_get e with z | ⟨z, e⟩
    · exact .inl z
    · obtain ⟨s0, h1, h2, h3, h4, h5, h6⟩ := mark_get e
      exact .inr ⟨z, s0, h1, h2, h3, h4, h5, fun h => h6 (by rw [Nat.zero_add, ← hD]; exact h)⟩
theorem setV_length {ε : VEnv} {i : Nat} {s : SV} : (setV ε i s).length = ε.length := by
  unfold setV
  split <;> simp [mark_length]

theorem RepS.like {K : PySem.W.Frag} {H : Hp} {F : Addr → Prop} {p : Addr} {v : V} {s s0 : SV} (h : RepS K H F p v s0) (e1 : s.t = s0.t) (e2 : s.own = s0.own) : RepS K H F p v s := by
  unfold RepS at h ⊢
  rw [e1, e2]
  exact h
/-- a value stored at a name -/
theorem EOk.set1 (h : EOk b W ε σ S H) {i : Nat} (hi : i < σ.length) (q : VOk1 b W ε S H F p v s) : EOk b (W.set i F p) (setV ε i s) (σ.set i (some v)) S H := by
  refine ⟨by rw [List.length_set, setV_length]; exact h.len, fun j s' e => ?_, fun j s' e => ?_, fun j s' e ho => ?_, fun j s' e => ?_, fun j s1 k s2 e1 e2 hne => ?_⟩
  · rcases setV_get e with ⟨rfl, rfl⟩ | ⟨hj, s0, d, e1, e2, e3, _⟩
    · exact ⟨v, List.getElem?_set_self hi, by rw [Wit.setF, Wit.setp]; exact q.rep⟩
    · obtain ⟨v', ev, r⟩ := h.at_ j s0 d
      exact ⟨v', by rw [List.getElem?_set_ne (Ne.symm hj)]; exact ev, by rw [Wit.neF hj, Wit.nep hj]; exact r.like e1 e2⟩
  · rcases setV_get e with ⟨rfl, rfl⟩ | ⟨hj, s0, d, e1, e2, e3, _⟩
    · rw [Wit.setF]; exact q.ok
    · rw [Wit.neF hj, e3]; exact h.ok j s0 d
  · rcases setV_get e with ⟨rfl, rfl⟩ | ⟨hj, s0, d, e1, e2, e3, _⟩
    · rw [Wit.setp]; exact q.nw ho
    · rw [Wit.nep hj]; exact h.nw j s0 d (e2 ▸ ho)
  · rcases setV_get e with ⟨rfl, rfl⟩ | ⟨hj, s0, d, e1, e2, e3, _⟩
    · rw [Wit.setF]; exact q.rs
    · rw [Wit.neF hj]; exact h.rs j s0 d
  · rcases setV_get e1 with ⟨rfl, rfl⟩ | ⟨hj, t1, d1, a1, a2, a3, a4, a5⟩
    · rcases setV_get e2 with ⟨rfl, rfl⟩ | ⟨hk, t2, d2, c1, c2, c3, c4, c5⟩
      · exact absurd rfl hne
      · rw [Wit.setF, Wit.setp, Wit.neF hk, Wit.nep hk]
        exact ⟨fun o o' => ((q.pr k t2 d2).1 o).2 (c2 ▸ o'), fun hD a => (q.pr k t2 d2).2 hD a⟩
    · rcases setV_get e2 with ⟨rfl, rfl⟩ | ⟨hk, t2, d2, c1, c2, c3, c4, c5⟩
      · rw [Wit.setF, Wit.setp, Wit.neF hj, Wit.nep hj]
        exact ⟨fun o o' z => ((q.pr j t1 d1).1 o').2 (a2 ▸ o) z.symm, fun hD a f f' => (q.pr j t1 d1).2 (fun z => hD (a5 z)) a f' f⟩
      · rw [Wit.neF hj, Wit.nep hj, Wit.neF hk, Wit.nep hk]
        exact ⟨fun o o' => (h.pr j t1 k t2 d1 d2 hne).1 (a2 ▸ o) (c2 ▸ o'), fun hD a => (h.pr j t1 k t2 d1 d2 hne).2 (fun z => hD (a4 _ z)) a⟩
theorem EOk.set (h : EOk b W ε σ S H) {i : Nat} (hi : i < σ.length) (q : VOk b W ε S H v s) : ∃ W', EOk b W' (setV ε i s) (σ.set i (some v)) S H :=
  let ⟨F, p, q⟩ := q
  ⟨_, h.set1 hi q⟩
theorem BOk.set (h : BOk b W ε σ S H) {i : Nat} (hi : i < σ.length) (q : VOk b W ε S H v s) : ∃ W', BOk b W' (setV ε i s) (σ.set i (some v)) S H :=
  let ⟨F, p, q⟩ := q
  ⟨_, h.env.set1 hi q, h.st, h.si, h.rt⟩

/-! ### hidden places behind the names -/
def push (ε : VEnv) (s : SV) : VEnv := setV (ε ++ [none]) ε.length s
theorem app_none {ε : VEnv} {i : Nat} {s : SV} (h : (ε ++ [none])[i]? = some (some s)) : ε[i]? = some (some s) := by
  by_cases hi : i < ε.length
  · rwa [List.getElem?_append_left hi] at h
  · rw [List.getElem?_append_right (by omega)] at h
    cases hk : i - ε.length with
    | zero => rw [hk] at h; simp at h
    | succ n => rw [hk] at h; simp at h
theorem EOk.wide (h : EOk b W ε σ S H) : EOk b W (ε ++ [none]) (σ ++ [none]) S H := by
  refine ⟨by simp [h.len], fun i s e => ?_, fun i s e => h.ok i s (app_none e), fun i s e => h.nw i s (app_none e), fun i s e => h.rs i s (app_none e), fun i s j s' e e' => h.pr i s j s' (app_none e) (app_none e')⟩
  obtain ⟨v, e1, r⟩ := h.at_ i s (app_none e)
  exact ⟨v, by rw [List.getElem?_append_left (List.getElem?_eq_some_iff.mp e1).1]; exact e1, r⟩
theorem VOk1.wide (h : VOk1 b W ε S H F p v s) : VOk1 b W (ε ++ [none]) S H F p v s :=
  ⟨h.rep, h.ok, h.nw, h.rs, fun j s' e => h.pr j s' (app_none e)⟩
theorem set_last {α : Type} (l : List α) (a c : α) : (l ++ [a]).set l.length c = l ++ [c] := by simp
theorem EOk.push1 (h : EOk b W ε σ S H) (q : VOk1 b W ε S H F p v s) : EOk b (W.set ε.length F p) (push ε s) (σ ++ [some v]) S H := by
  have z := h.wide.set1 (i := ε.length) (by simp [h.len]) q.wide
  rw [← h.len, set_last, h.len] at z
  exact z
theorem EOk.take (h : EOk b W ε σ S H) (n : Nat) : EOk b W (ε.take n) (σ.take n) S H := by
  have g : ∀ {i : Nat} {s : SV}, (ε.take n)[i]? = some (some s) → ε[i]? = some (some s) ∧ i < n := fun {i s} e => by
    by_cases hi : i < n
    · rw [List.getElem?_take_of_lt hi] at e; exact ⟨e, hi⟩
    · rw [List.getElem?_eq_none (by rw [List.length_take]; omega)] at e; cases e
  refine ⟨by simp [h.len], fun i s e => ?_, fun i s e => h.ok i s (g e).1, fun i s e => h.nw i s (g e).1, fun i s e => h.rs i s (g e).1, fun i s j s' e e' => h.pr i s j s' (g e).1 (g e').1⟩
  obtain ⟨v, e1, r⟩ := h.at_ i s (g e).1
  exact ⟨v, by rw [List.getElem?_take_of_lt (g e).2]; exact e1, r⟩
/-- a part of what stands at h -/
theorem EOk.part (h : EOk b W ε σ S H) {i : Nat} {s0 : SV} {t : T} (e : ε[i]? = some (some s0)) (hr : Rep b.K H (W.F i) t v) : VOk b W ε S H v { t := t, own := false, fr := s0.fr, D := i :: s0.D } := by
  refine ⟨W.F i, W.p i, ⟨RepS.plain hr rfl, ?_, (fun q => by simp at q), h.rs i s0 e, fun j s' ej => ⟨fun q => by simp at q, fun hj a f f' => ?_⟩⟩⟩
  · exact ⟨(h.ok i s0 e).ap, (h.ok i s0 e).tr, (h.ok i s0 e).nw, (h.ok i s0 e).src⟩
  · simp only [List.mem_cons, not_or] at hj
    exact (h.pr i s0 j s' e ej (fun z => hj.1 z.symm)).2 hj.2 a f f'
theorem none_get {ε : VEnv} {i j : Nat} {s : SV} (e : (ε.set i none)[j]? = some (some s)) : ε[j]? = some (some s) ∧ j ≠ i := by
  by_cases h : j = i
  · subst h
    by_cases hl : j < ε.length
    · rw [List.getElem?_set_self hl] at e; cases e
    · rw [List.getElem?_eq_none (by simpa using hl)] at e; cases e
  · rw [List.getElem?_set_ne (Ne.symm h)] at e
    exact ⟨e, h⟩
/-- what stands at i is taken away from there -/
def SV.moved (s : SV) : SV := match s.D with
  | [] => s
  | _ :: _ => { s with own := false }
theorem EOk.move (h : EOk b W ε σ S H) {i : Nat} {s : SV} (e : ε[i]? = some (some s)) : ∃ v, σ[i]? = some (some v) ∧ VOk1 b W (ε.set i none) S H (W.F i) (W.p i) v s.moved := by
  obtain ⟨v, e1, r⟩ := h.at_ i s e
  refine ⟨v, e1, ?_⟩
  have hpr : ∀ j s', (ε.set i none)[j]? = some (some s') → j ∉ s.D → ∀ a, W.F i a → ¬ W.F j a := fun j s' ej =>
    (h.pr i s j s' e (none_get ej).1 (Ne.symm (none_get ej).2)).2
  unfold SV.moved
  split
  · rename_i hD
    refine ⟨r, h.ok i s e, h.nw i s e, h.rs i s e, fun j s' ej => ⟨fun ho => ⟨fun f => ?_, fun ho' => (h.pr i s j s' e (none_get ej).1 (Ne.symm (none_get ej).2)).1 ho ho'⟩, hpr j s' ej⟩⟩
    have r' := r
    unfold RepS at r'
    rw [if_pos ho] at r'
    exact hpr j s' ej (by rw [hD]; simp) _ r'.2.1 f
  · exact ⟨RepS.plain r.rep rfl, h.ok i s e, (fun z => by simp at z), h.rs i s e, fun j s' ej => ⟨(fun z => by simp at z), hpr j s' ej⟩⟩
theorem EOk.kill (h : EOk b W ε σ S H) (i : Nat) : EOk b W (ε.set i none) σ S H := h.sub (by simp) fun _ _ e => (none_get e).1
end
end Vs

-- Vs3
namespace Vs
open PySem L2

def SV.cl (s : SV) : SV := if imm s.t then { t := s.t } else s

section
variable {b : Bx} {W : Wit} {ε : VEnv} {σ : L2.St} {S S' : b.g.G} {H H' : Hp} {F : Addr → Prop} {p : Addr} {v : V} {s : SV}
theorem VOk.cl (h : VOk b W ε S H v s) : VOk b W ε S H v s.cl := by
  unfold SV.cl
  split
  · rename_i hi
    obtain ⟨F, r⟩ := h.rep
    exact VOk.imm (s := { t := s.t }) r hi rfl
  · exact h

/-! ### several values -/
def VOks (b : Bx) (W : Wit) (ε : VEnv) (S : b.g.G) (H : Hp) : List V → List SV → Prop
  | [], ss => ss = []
  | v :: vs, ss => ∃ s r, ss = s :: r ∧ VOk b W ε S H v s ∧ VOks b W ε S H vs r
theorem VOks.step : ∀ {vs : List V} {ss : List SV}, VOks b W ε S H vs ss → Stp b.g S H S' H' → VOks b W ε S' H' vs ss
  | [], _, h, _ => h
  | _ :: _, _, ⟨s, r, e, h1, h2⟩, k => ⟨s, r, e, h1.step k, VOks.step h2 k⟩
theorem VOks.length : ∀ {vs : List V} {ss : List SV}, VOks b W ε S H vs ss → vs.length = ss.length
  | [], _, h => by subst h; rfl
  | _ :: _, _, ⟨s, r, e, h1, h2⟩ => by subst e; simp [VOks.length h2]
def frs (ss : List SV) : Bool := ss.all (·.fr)
def Ds (ss : List SV) : List Nat := ss.flatMap (·.D)
def ts (ss : List SV) : List T := ss.map (·.t)
structure Joint (b : Bx) (W : Wit) (ε : VEnv) (S : b.g.G) (H : Hp) (F : Addr → Prop) (vs : List V) (ss : List SV) : Prop where
  rep : Reps b.K H F (ts ss) vs
  ok : Okay b S H F (frs ss)
  rs : ∀ a, F a → a ∉ W.rs
  pr : ∀ j s', ε[j]? = some (some s') → j ∉ Ds ss → ∀ a, F a → ¬ W.F j a
theorem VOks.join : ∀ {vs : List V} {ss : List SV}, VOks b W ε S H vs ss → ∃ F, Joint b W ε S H F vs ss
  | [], _, h => by
    subst h
    exact ⟨fun _ => False, rfl, ⟨fun _ q => q.elim, fun _ q => q.elim, fun _ _ q => q.elim, fun _ q => q.elim⟩, fun _ q => q.elim, fun _ _ _ _ _ q => q.elim⟩
  | v :: vs, _, ⟨s, r, e, ⟨F1, p1, h1⟩, h2⟩ => by
    subst e
    obtain ⟨F2, j2⟩ := VOks.join h2
    refine ⟨fun a => F1 a ∨ F2 a, ⟨v, vs, rfl, Rep.keep KeepI.refl (fun a q => ⟨.inl q, fun _ e => e⟩) _ _ h1.rep.rep, Reps.keep KeepI.refl (fun a q => ⟨.inr q, fun _ e => e⟩) _ _ j2.rep⟩, ⟨?_, ?_, ?_, ?_⟩, (fun a q => q.elim (h1.rs a) (j2.rs a)), ?_⟩
    · rintro a (q | q)
      · exact h1.ok.ap a q
      · exact j2.ok.ap a q
    · rintro a (q | q)
      · exact h1.ok.tr a q
      · exact j2.ok.tr a q
    · rintro hf a q
      have hf' : s.fr = true ∧ frs r = true := by simpa [frs] using hf
      rcases q with q | q
      · exact h1.ok.nw hf'.1 a q
      · exact j2.ok.nw hf'.2 a q
    · rintro a (q | q)
      · exact h1.ok.src a q
      · exact j2.ok.src a q
    · intro j s' ej hj a q
      have hj' : j ∉ s.D ∧ j ∉ Ds r := by
        constructor
        · intro z; exact hj (by simp [Ds, z])
        · intro z
          apply hj
          simp only [Ds, List.flatMap_cons, List.mem_append]
          exact .inr z
      rcases q with q | q
      · exact (h1.pr j s' ej).2 hj'.1 a q
      · exact j2.pr j s' ej hj'.2 a q

/-! ### new tuples, lists -/
def mkTup (ss : List SV) : SV := { t := .tup (ts ss), own := false, fr := frs ss, D := Ds ss }
def mkLst (ss : List SV) : SV := { t := .lst (ts ss), own := true, fr := frs ss, D := Ds ss }
theorem VOks.tup {vs : List V} {ss : List SV} {q : Addr} (h : VOks b W ε S H vs ss) (hq : H q = none) : VOk b W ε S (upd H q (.tup vs)) (.ref q) (mkTup ss) := by
  obtain ⟨F, j⟩ := h.join
  have k : Stp b.g S H S (upd H q (.tup vs)) := .new hq
  refine ⟨F, 0, RepS.plain ⟨q, vs, rfl, .inl (.inl upd_same), Reps.keep k.imm (fun a f => ⟨f, j.ok.at_ k a f⟩) _ _ j.rep⟩ rfl, j.ok.step k, (fun z => by cases z), j.rs, fun i s' ei => ⟨(fun z => by cases z), j.pr i s' ei⟩⟩
/-- a new list, given its items' joint footprint -/
theorem Joint.lst {vs : List V} {ss : List SV} {q : Addr} {t : T} {o : HO} {fr : Bool} {Dn : List Nat} (B : BOk b W ε σ S H) (j : Joint b W ε S H F vs ss) (hq : H q = none)
    (hr : RepR b.K (upd H q o) (fun a => (F a ∨ a = q) ∧ a ≠ q) q t) (hf : fr = true → frs ss = true) (hD : ∀ i, i ∉ Dn → i ∉ Ds ss) :
    VOk b W ε S (upd H q o) (.ref q) { t := t, own := true, fr := fr, D := Dn } := by
  have k : Stp b.g S H S (upd H q o) := .new hq
  have n0 : b.H0 q = none := B.st.none hq
  have out : ∀ i s', ε[i]? = some (some s') → ¬ W.F i q := fun i s' e f => by
    obtain ⟨o', e'⟩ := (B.env.ok i s' e).tr q f
    rw [hq] at e'; cases e'
  refine ⟨fun a => F a ∨ a = q, q, ?_, ⟨?_, ?_, ?_, ?_⟩, fun _ => n0, (fun a f => f.elim (j.rs a) fun z hm => ?_), fun i s' e => ⟨fun _ => ⟨out i s' e, fun ho z => ?_⟩, fun hi a f => ?_⟩⟩
  · unfold RepS
    rw [if_pos rfl]
    exact ⟨rfl, .inr rfl, hr⟩
  · rintro a (f | rfl)
    · exact j.ok.ap a f
    · exact Glo.notSA B.si hq
  · rintro a (f | rfl)
    · exact (j.ok.step k).tr a f
    · exact ⟨_, upd_same⟩
  · rintro hh a (f | rfl)
    · exact j.ok.nw (hf hh) a f
    · exact n0
  · rintro a (f | rfl)
    · exact j.ok.src a f
    · exact .inl n0
  · obtain ⟨o', e'⟩ := B.rt a hm
    rw [z, hq] at e'; cases e'
  · subst z
    obtain ⟨v', _, r⟩ := B.env.at_ i s' e
    unfold RepS at r
    rw [if_pos ho] at r
    exact out i s' e r.2.1
  · rcases f with f | rfl
    · exact j.pr i s' e (hD i hi) a f
    · exact out i s' e
theorem VOks.lst {vs : List V} {ss : List SV} {q : Addr} (B : BOk b W ε σ S H) (h : VOks b W ε S H vs ss) (hq : H q = none) : VOk b W ε S (upd H q (.lst vs)) (.ref q) (mkLst ss) := by
  obtain ⟨F, j⟩ := h.join
  have k : Stp b.g S H S (upd H q (.lst vs)) := .new hq
  refine j.lst B hq ⟨vs, upd_same, Reps.keep k.imm (fun a f => ⟨⟨.inl f, ?_⟩, j.ok.at_ k a f⟩) _ _ j.rep⟩ (fun z => z) fun i z => z
  rintro rfl
  obtain ⟨o, e⟩ := j.ok.tr a f
  rw [hq] at e; cases e
end

/-! ### promises -/
structure Exc where
  cls : Addr
  fld : Str
structure Con (G : Type) where
  pre : List T → G → Prop
  post : List T → G → T → Bool → Bool → G → Prop
  exc : List T → G → Exc → T → G → Prop := fun _ _ _ _ _ => False

def spC (K : PySem.W.Frag) (g : Glo) (n : Nat) (C : Con g.G) : Sp := fun vs H Q E =>
  ∃ (tr : List T) (S : g.G) (F : Addr → Prop), vs.length = n ∧ Reps K H F tr vs ∧ g.SI S H ∧ (∀ a, F a → ¬ g.SA S a ∧ ∃ o, H a = some o) ∧ C.pre tr S ∧
    (∀ t own fr S', C.post tr S t own fr S' → ∀ v H' F' p', Stp g S H S' H' → g.SI S' H' → RepS K H' F' p' v { t := t, own := own, fr := fr } → (∀ a, F' a → ¬ g.SA S' a ∧ (∃ o, H' a = some o) ∧ (H a = none ∨ (fr = false ∧ F a))) → (own = true → H p' = none) → Q v H') ∧
    (∀ x t S', C.exc tr S x t S' → ∀ d v H' F', Stp g S H S' H' → g.SI S' H' → H' d = some (.xd [(x.fld, v)]) → Rep K H' F' t v → (∀ a, F' a → ¬ g.SA S' a ∧ (∃ o, H' a = some o) ∧ (H a = none ∨ F a)) → E (.ref x.cls) (some d) H')

section
variable {b : Bx} {W : Wit} {ε : VEnv} {σ : L2.St} {S S' : b.g.G} {H H' : Hp} {F : Addr → Prop} {p : Addr} {v : V} {s : SV}
def mkRet (ss : List SV) (t : T) (own fr : Bool) : SV := { t := t, own := own, fr := fr || frs ss, D := if fr then [] else Ds ss }
/-- a call by its promise -/
theorem call_con {n : Nat} {C : Con b.g.G} {vs : List V} {ss : List SV} {Q : VK} {E : XK} (B : BOk b W ε σ S H) (h : VOks b W ε S H vs ss) (hn : ss.length = n) (hp : C.pre (ts ss) S)
    (hq : ∀ t own fr S', C.post (ts ss) S t own fr S' → ∀ v H', Stp b.g S H S' H' → b.g.SI S' H' → VOk b W ε S' H' v (mkRet ss t own fr) → Q v H')
    (he : ∀ x t S', C.exc (ts ss) S x t S' → ∀ d v H', Stp b.g S H S' H' → b.g.SI S' H' → H' d = some (.xd [(x.fld, v)]) → VOk b W ε S' H' v (mkRet ss t false false) → E (.ref x.cls) (some d) H') :
    spC b.K b.g n C vs H Q E := by
  obtain ⟨F, j⟩ := h.join
  have newH0 : ∀ a, H a = none → b.H0 a = none := fun a z => B.st.none z
  have out : ∀ i s', ε[i]? = some (some s') → ∀ a, H a = none → ¬ W.F i a := fun i s' e a z f => by
    obtain ⟨o', e'⟩ := (B.env.ok i s' e).tr a f
    rw [z] at e'; cases e'
  refine ⟨ts ss, S, F, h.length.trans hn, j.rep, B.si, fun a f => ⟨j.ok.ap a f, j.ok.tr a f⟩, hp, fun t own fr S' hpost v H' F' p' k si r hF ho => ?_, fun x t S' hx d v H' F' k si hd r hF => ?_⟩
  · refine hq t own fr S' hpost v H' k si ⟨F', p', ?_, ⟨fun a f => (hF a f).1, fun a f => (hF a f).2.1, fun hf a f => ?_, fun a f => ?_⟩, fun o => newH0 _ (ho o), (fun a f hm => ?_), fun i s' e => ⟨fun o => ⟨out i s' e _ (ho o), fun o' z => ?_⟩, fun hD a f => ?_⟩⟩
    · unfold RepS at r ⊢
      exact r
    · rcases (hF a f).2.2 with z | ⟨z, z2⟩
      · exact newH0 a z
      · have hf' : (fr || frs ss) = true := hf
        rw [z, Bool.false_or] at hf'
        exact j.ok.nw hf' a z2
    · rcases (hF a f).2.2 with z | ⟨z, z2⟩
      · exact .inl (newH0 a z)
      · exact j.ok.src a z2
    · rcases (hF a f).2.2 with z | ⟨z, z2⟩
      · obtain ⟨o', e'⟩ := B.rt a hm
        rw [z] at e'; cases e'
      · exact j.rs a z2 hm
    · obtain ⟨v', _, r'⟩ := B.env.at_ i s' e
      unfold RepS at r'
      rw [if_pos o'] at r'
      exact out i s' e p' (ho o) (z ▸ r'.2.1)
    · rcases (hF a f).2.2 with z | ⟨z, z2⟩
      · exact out i s' e a z
      · refine j.pr i s' e (fun w => hD ?_) a z2
        show i ∈ (if fr then [] else Ds ss)
        rw [z, if_neg Bool.false_ne_true]
        exact w
  · refine he x t S' hx d v H' k si hd ⟨F', 0, RepS.plain r rfl, ⟨fun a f => (hF a f).1, fun a f => (hF a f).2.1, fun hf a f => ?_, fun a f => ?_⟩, (fun z => by cases z), (fun a f hm => ?_), fun i s' e => ⟨(fun z => by cases z), fun hD a f => ?_⟩⟩
    · rcases (hF a f).2.2 with z | z
      · exact newH0 a z
      · exact j.ok.nw hf a z
    · rcases (hF a f).2.2 with z | z
      · exact .inl (newH0 a z)
      · exact j.ok.src a z
    · rcases (hF a f).2.2 with z | z
      · obtain ⟨o', e'⟩ := B.rt a hm
        rw [z] at e'; cases e'
      · exact j.rs a z hm
    · rcases (hF a f).2.2 with z | z
      · exact out i s' e a z
      · exact j.pr i s' e hD a z

/-! ### a list changed at its name -/
def poison1 (i : Nat) : Nat → VEnv → VEnv
  | _, [] => []
  | k, none :: r => none :: poison1 i (k + 1) r
  | k, some s :: r => (if (k == i || !s.D.contains i || imm s.t) = true then some s else none) :: poison1 i (k + 1) r
/-- the names that may share with i, whose names are D, are forgotten -/
def poison (i : Nat) (D : List Nat) (ε : VEnv) : VEnv := match D with
  | [] => ε
  | _ :: _ => poison1 i 0 ε
theorem poison1_get {i : Nat} : ∀ {ε : VEnv} {k j : Nat} {s : SV}, (poison1 i k ε)[j]? = some (some s) → ε[j]? = some (some s) ∧ (k + j = i ∨ i ∉ s.D ∨ imm s.t = true)
  | [], _, _, _, h => by simp [poison1] at h
  | none :: r, k, 0, s, h => by simp [poison1] at h
  | none :: r, k, j + 1, s, h => by
    have h' : (poison1 i (k + 1) r)[j]? = some (some s) := by simpa [poison1] using h
    obtain ⟨h1, h2⟩ := poison1_get h'
    exact ⟨by simpa using h1, by rw [show k + (j + 1) = k + 1 + j by omega]; exact h2⟩
  | some s0 :: r, k, 0, s, h => by
    have h' : (if (k == i || !s0.D.contains i || imm s0.t) = true then some s0 else none) = some s := by simpa [poison1] using h
    split at h'
    · rename_i hc
      cases h'
      refine ⟨rfl, ?_⟩
      simp only [Bool.or_eq_true, beq_iff_eq, Bool.not_eq_true', List.contains_eq_mem, decide_eq_false_iff_not] at hc
      rcases hc with (hc | hc) | hc
      · exact .inl hc
      · exact .inr (.inl hc)
      · exact .inr (.inr hc)
    · cases h'
  | some s0 :: r, k, j + 1, s, h => by
    have h' : (poison1 i (k + 1) r)[j]? = some (some s) := by simpa [poison1] using h
    obtain ⟨h1, h2⟩ := poison1_get h'
    exact ⟨by simpa using h1, by rw [show k + (j + 1) = k + 1 + j by omega]; exact h2⟩
theorem poison1_length {i : Nat} : ∀ {ε : VEnv} {k : Nat}, (poison1 i k ε).length = ε.length
  | [], _ => rfl
  | none :: r, k => by simp [poison1, poison1_length]
  | some _ :: r, k => by simp [poison1, poison1_length]
theorem poison_length {i : Nat} {D : List Nat} {ε : VEnv} : (poison i D ε).length = ε.length := by
  unfold poison
  split
  · rfl
  · exact poison1_length
theorem poison_get {i : Nat} {D : List Nat} {ε : VEnv} {j : Nat} {s : SV} (h : (poison i D ε)[j]? = some (some s)) : ε[j]? = some (some s) ∧ (j = i ∨ D = [] ∨ i ∉ s.D ∨ imm s.t = true) := by
  unfold poison at h
  split at h
  · exact ⟨h, .inr (.inl rfl)⟩
  · obtain ⟨h1, h2⟩ := poison1_get h
    rw [Nat.zero_add] at h2
    rcases h2 with z | z | z
    · exact ⟨h1, .inl z⟩
    · exact ⟨h1, .inr (.inr (.inl z))⟩
    · exact ⟨h1, .inr (.inr (.inr z))⟩
def joinD (a c : List Nat) : List Nat := a ++ c.filter fun x => !a.contains x
theorem mem_joinD {a c : List Nat} {x : Nat} : x ∈ joinD a c ↔ x ∈ a ∨ x ∈ c := by
  unfold joinD
  simp only [List.mem_append, List.mem_filter, Bool.not_eq_true', List.contains_eq_mem, decide_eq_false_iff_not]
  constructor
  · rintro (z | ⟨z, _⟩)
    · exact .inl z
    · exact .inr z
  · rintro (z | z)
    · exact .inl z
    · by_cases q : x ∈ a
      · exact .inl q
      · exact .inr ⟨z, q⟩

/-- the object at the root of i is changed to o; F: its new footprint -/
theorem EOk.mutate {i : Nat} {s s' : SV} {o : HO} {Fn : Addr → Prop} (h : EOk b W ε σ S H) (e : ε[i]? = some (some s)) (ho : s.own = true)
    (hr : RepR b.K (upd H (W.p i) o) (fun a => Fn a ∧ a ≠ W.p i) (W.p i) s'.t) (hp : Fn (W.p i)) (ok : Okay b S H Fn s'.fr) (ho' : s'.own = true) (hrs : ∀ a, Fn a → a ∉ W.rs)
    (hD : ∀ j s2, j ≠ i → ε[j]? = some (some s2) → j ∉ s'.D → ∀ a, Fn a → ¬ W.F j a) :
    ∃ W', W'.rs = W.rs ∧ EOk b W' (setV (poison i s.D ε) i s') σ S (upd H (W.p i) o) := by
  obtain ⟨v, ev, r⟩ := h.at_ i s e
  unfold RepS at r
  rw [if_pos ho] at r
  obtain ⟨rfl, hFi, rr⟩ := r
  have hM : ∃ u, H (W.p i) = some u ∧ ¬ ImmO u := by
    cases ht : s.t with
    | lst ts => rw [ht] at rr; obtain ⟨vs, q, _⟩ := rr; exact ⟨_, q, fun z => z⟩
    | dct ks ts => rw [ht] at rr; obtain ⟨kvs, q, _⟩ := rr; exact ⟨_, q, fun z => z⟩
    | _ => rw [ht] at rr; exact rr.elim
  obtain ⟨u, hu, hu1⟩ := hM
  have seq : KeepI H (upd H (W.p i) o) := KeepI.off hu hu1
  have tr' : ∀ {F : Addr → Prop}, (∀ a, F a → ∃ o, H a = some o) → ∀ a, F a → ∃ o', upd H (W.p i) o a = some o' := fun hF a f => by
    by_cases z : a = W.p i
    · rw [z]; exact ⟨_, upd_same⟩
    · rw [upd_ne z]; exact hF a f
  have npOf : ∀ j sj, j ≠ i → ε[j]? = some (some sj) → (s.D = [] ∨ i ∉ sj.D) → ¬ W.F j (W.p i) := fun j sj hj d q f => by
    rcases q with q | q
    · exact (h.pr i s j sj e d (Ne.symm hj)).2 (by rw [q]; simp) _ hFi f
    · exact (h.pr j sj i s d e hj).2 q _ f hFi
  refine ⟨⟨fun j => if j = i then Fn else fun a => W.F j a ∧ a ≠ W.p i, W.p, W.rs⟩, rfl, ⟨by rw [setV_length, poison_length]; exact h.len, fun j sj ej => ?_, fun j sj ej => ?_, fun j sj ej hj => ?_, fun j sj ej => ?_, fun j sj k sk ej ek hne => ?_⟩⟩
  · rcases setV_get ej with ⟨rfl, rfl⟩ | ⟨hj, s0, d, b1, b2, b3, _⟩
    · refine ⟨.ref (W.p j), ev, ?_⟩
      show RepS b.K _ (if j = j then Fn else _) _ _ _
      rw [if_pos rfl]
      unfold RepS
      rw [if_pos ho']
      exact ⟨rfl, hp, hr⟩
    · obtain ⟨d1, d2⟩ := poison_get d
      obtain ⟨vj, evj, rj⟩ := h.at_ j s0 d1
      refine ⟨vj, evj, RepS.like (s0 := s0) ?_ b1 b2⟩
      show RepS b.K _ (if j = i then Fn else _) _ _ _
      rw [if_neg hj]
      have main : ¬ W.F j (W.p i) → RepS b.K (upd H (W.p i) o) (fun a => W.F j a ∧ a ≠ W.p i) (W.p j) vj s0 := fun np => by
        have q := rj.keep (H' := upd H (W.p i) o) seq (fun a f oo eo => by rw [upd_ne (fun (z : a = W.p i) => np (z ▸ f))]; exact eo)
        unfold RepS at q ⊢
        split
        · rename_i hoj
          rw [if_pos hoj] at q
          obtain ⟨q1, q2, q3⟩ := q
          refine ⟨q1, ⟨q2, (fun z => np (z ▸ q2))⟩, ?_⟩
          have eqF : (fun a => (W.F j a ∧ a ≠ W.p i) ∧ a ≠ W.p j) = fun a => W.F j a ∧ a ≠ W.p j := by
            funext a
            exact propext ⟨fun z => ⟨z.1.1, z.2⟩, fun z => ⟨⟨z.1, fun w => np (w ▸ z.1)⟩, z.2⟩⟩
          rw [eqF]; exact q3
        · rename_i hoj
          rw [if_neg hoj] at q
          have eqF : (fun a => (W.F j a ∧ a ≠ W.p i)) = W.F j := by
            funext a
            exact propext ⟨fun z => z.1, fun z => ⟨z, fun w => np (w ▸ z)⟩⟩
          rw [eqF]; exact q
      rcases d2 with z | z | z | z
      · exact absurd z hj
      · exact main (npOf j s0 hj d1 (.inl z))
      · exact main (npOf j s0 hj d1 (.inr z))
      · have hoj : s0.own = false := by
          cases hoj : s0.own with
          | false => rfl
          | true =>
            unfold RepS at rj
            rw [if_pos hoj] at rj
            obtain ⟨_, _, q⟩ := rj
            cases ht : s0.t with
            | lst ts => rw [ht] at z; simp [imm] at z
            | dct ks ts => rw [ht] at z; simp [imm] at z
            | _ => rw [ht] at q; exact q.elim
        exact RepS.plain (Rep.imm _ _ z (Rep.keep (F' := fun _ => True) seq (fun a f => absurd f (by simp)) _ _ (Rep.imm (F' := fun _ => False) _ _ z rj.rep))) hoj
  · rcases setV_get ej with ⟨rfl, rfl⟩ | ⟨hj, s0, d, b1, b2, b3, _⟩
    · show Okay b S _ (if j = j then Fn else _) _
      rw [if_pos rfl]
      exact ⟨ok.ap, tr' ok.tr, ok.nw, ok.src⟩
    · obtain ⟨d1, d2⟩ := poison_get d
      have okj := h.ok j s0 d1
      show Okay b S _ (if j = i then Fn else _) _
      rw [if_neg hj, b3]
      exact ⟨fun a f => okj.ap a f.1, tr' (fun a f => okj.tr a f.1), fun hf a f => okj.nw hf a f.1, fun a f => okj.src a f.1⟩
  · rcases setV_get ej with ⟨rfl, rfl⟩ | ⟨hj', s0, d, b1, b2, b3, _⟩
    · exact h.nw j s e ho
    · exact h.nw j s0 (poison_get d).1 (b2 ▸ hj)
  · show ∀ a, (if j = i then Fn else _) a → a ∉ W.rs
    rcases setV_get ej with ⟨rfl, rfl⟩ | ⟨hj', s0, d, b1, b2, b3, _⟩
    · rw [if_pos rfl]; exact hrs
    · rw [if_neg hj']; exact fun a f => h.rs j s0 (poison_get d).1 a f.1
  · show (_ → _ → W.p j ≠ W.p k) ∧ (_ → ∀ a, (if j = i then Fn else _) a → ¬ (if k = i then Fn else _) a)
    rcases setV_get ej with ⟨rfl, rfl⟩ | ⟨hj, t1, d, a1, a2, a3, a4, a5⟩
    · rcases setV_get ek with ⟨rfl, rfl⟩ | ⟨hk, t2, d', c1, c2, c3, c4, c5⟩
      · exact absurd rfl hne
      · obtain ⟨d1, _⟩ := poison_get d'
        rw [if_pos rfl, if_neg hk]
        exact ⟨fun _ o' => (h.pr j s k t2 e d1 hne).1 ho (c2 ▸ o'), fun q1 a f f' => hD k t2 hk d1 q1 a f f'.1⟩
    · rcases setV_get ek with ⟨rfl, rfl⟩ | ⟨hk, t2, d', c1, c2, c3, c4, c5⟩
      · obtain ⟨d1, _⟩ := poison_get d
        rw [if_neg hj, if_pos rfl]
        exact ⟨fun q _ => (h.pr j t1 k s d1 e hne).1 (a2 ▸ q) ho, fun q1 a f f' => hD j t1 hj d1 (fun z => q1 (a5 z)) a f' f.1⟩
      · obtain ⟨d1, _⟩ := poison_get d
        obtain ⟨d2, _⟩ := poison_get d'
        rw [if_neg hj, if_neg hk]
        exact ⟨fun o o' => (h.pr j t1 k t2 d1 d2 hne).1 (a2 ▸ o) (c2 ▸ o'), fun q1 a f f' => (h.pr j t1 k t2 d1 d2 hne).2 (fun z => q1 (a4 _ z)) a f.1 f'.1⟩
theorem RepR.root {K : PySem.W.Frag} {p : Addr} {t : T} (r : RepR K H F p t) : ∃ u, H p = some u ∧ ¬ ImmO u := by
  cases t with
  | lst ts => obtain ⟨vs, q, _⟩ := r; exact ⟨_, q, fun z => z⟩
  | dct ks ts => obtain ⟨kvs, q, _⟩ := r; exact ⟨_, q, fun z => z⟩
  | _ => exact r.elim
theorem EOk.root {i : Nat} {s : SV} (h : EOk b W ε σ S H) (e : ε[i]? = some (some s)) (ho : s.own = true) : ∃ u, H (W.p i) = some u ∧ ¬ ImmO u := by
  obtain ⟨v, ev, r⟩ := h.at_ i s e
  unfold RepS at r
  rw [if_pos ho] at r
  exact r.2.2.root
theorem BOk.mutate {i : Nat} {s s' : SV} {o : HO} {Fn : Addr → Prop} (h : BOk b W ε σ S H) (e : ε[i]? = some (some s)) (ho : s.own = true)
    (hr : RepR b.K (upd H (W.p i) o) (fun a => Fn a ∧ a ≠ W.p i) (W.p i) s'.t) (hp : Fn (W.p i)) (ok : Okay b S H Fn s'.fr) (ho' : s'.own = true) (hrs : ∀ a, Fn a → a ∉ W.rs)
    (hD : ∀ j s2, j ≠ i → ε[j]? = some (some s2) → j ∉ s'.D → ∀ a, Fn a → ¬ W.F j a) :
    ∃ W', BOk b W' (setV (poison i s.D ε) i s') σ S (upd H (W.p i) o) := by
  obtain ⟨W', hW, q⟩ := h.env.mutate e ho hr hp ok ho' hrs hD
  have n0 := h.env.nw i s e ho
  refine ⟨W', q, ⟨fun a u hu hk => ?_, fun a ha => h.st.sa a ha, fun a u hu => ?_⟩, b.g.stab h.si (fun a ha => ?_) (fun a u iu eu => ?_), fun q hq => ?_⟩
  · rw [upd_ne (ne_of_none hu n0)]
    exact h.st.keep a u hu hk
  · rw [upd_ne (ne_of_none hu n0)]
    exact h.st.there a u hu
  · rw [upd_ne (fun (z : a = W.p i) => ok.ap _ hp (z ▸ ha))]
  · obtain ⟨u0, e0, n1⟩ := h.env.root e ho
    rw [upd_ne (fun (z : a = W.p i) => n1 (by rw [z, e0] at eu; cases eu; exact iu))]
    exact eu
  · rw [hW] at hq
    by_cases z : q = W.p i
    · rw [z]; exact ⟨_, upd_same⟩
    · rw [upd_ne z]; exact h.rt q hq
end
section
open PySem PySem.Spec PyProof.Rows L2
/-! ### a text times a number -/
def mulS (z : Str) (k : Int) : Str := ⟨(List.replicate k.toNat z.cps).foldl (· ++ ·) #[]⟩
theorem mulS_len {z : Str} {k : Int} : (⟨(List.replicate k.toNat z.cps).foldl (· ++ ·) #[]⟩ : Str).length = z.length * k.toNat := by
  have h : ∀ (n : Nat) (a : Array Nat), ((List.replicate n z.cps).foldl (· ++ ·) a).size = a.size + z.length * n := by
    intro n
    induction n with
    | zero => intro a; simp
    | succ n ih =>
      intro a
      rw [List.replicate_succ, List.foldl_cons, ih, Array.size_append, Nat.mul_succ]
      show a.size + z.cps.size + z.length * n = a.size + (z.length * n + z.length)
      have : z.length = z.cps.size := rfl
      omega
  have e := h k.toNat #[]
  exact e.trans (by simp)
def rMulS : R2 := fun x y H Q => ∃ z k, x = .str z ∧ y = .int k ∧ 2 ≤ k ∧ k < 2 ^ 24 ∧ 0 < z.length ∧ z.length * k.toNat ≤ 16777216 ∧ Q (.str (mulS z k)) H
theorem op_mulS {X : Cx} : OpR X (binaryOp .Mult) rMulS := by
  intro pins s σ H x y v u Q I rx ry h
  obtain ⟨z, k, rfl, rfl, h1, h2, h3, h4, q⟩ := h
  obtain ⟨t, rfl⟩ := rx
  obtain ⟨t', rfl⟩ := ry
  have e1 : (k == 1 || z.length == 0) = false := by
    have a : (k == 1) = false := by simp; omega
    have b : (z.length == 0) = false := by simp; omega
    rw [a, b]; rfl
  refine PySem.P.mul_str ?_ (fun _ _ => ?_) (fun _ _ => ?_) ?_
  · have a : ¬ k < -(2 ^ 63 : Int) := by omega
    have b : ¬ k ≥ 2 ^ 63 := by omega
    rw [decide_eq_false a, decide_eq_false b]; rfl
  · have a : (2 ^ 39 - 1 : Int) ≤ (2 ^ 63 - 1) / k := by
      refine Int.le_ediv_of_mul_le (by omega) ?_
      have : (2 ^ 39 - 1 : Int) * k ≤ (2 ^ 39 - 1) * 2 ^ 24 := Int.mul_le_mul_of_nonneg_left (by omega) (by decide)
      omega
    have c : z.length ≤ 16777216 := by
      have : z.length * 1 ≤ z.length * k.toNat := Nat.mul_le_mul_left _ (by omega)
      omega
    omega
  · unfold Builtin.Str.tooLong
    refine decide_eq_false ?_
    rw [sizeLine_eq]
    omega
  · rw [if_neg (by omega), e1, if_neg Bool.false_ne_true]
    refine ⟨?_, ⟨.str (mulS z k), H, I.tok _, ⟨_, rfl⟩, q⟩⟩
    rw [mulS_len, sizeLine_eq]
    omega
end
end Vs

-- Vs4
namespace Vs
open PySem L2

/-! ### the text as it is read -/
inductive BI where
  | len | abs | int | bool | str | list | tuple | all | any | dict
  deriving DecidableEq, Repr
inductive ME where
  | split | join | rstrip | isdigit | index | items
  deriving DecidableEq, Repr
mutual
inductive VE where
  | v (i : Nat) | k (c : T) | g (x : Nat) | dn | its (e : VE)
  | bin (op : Operator) (a b : VE) | cmp (op : CmpOp) (a b : VE) | chain (o1 o2 : CmpOp) (a b c : VE)
  | neg (a : VE) | not (a : VE) | and (a b : VE) | or (a b : VE) | ife (c a b : VE)
  | tup (es : VEs) | lst (es : VEs) | ix (a b : VE) | sl (l h : Bool) (a : VE) (es : VEs)
  | bi (id : BI) (es : VEs) | me (id : ME) (o : VE) (es : VEs) | isi (tys : List String) (a : VE) | isb (tys : List String) (a : VE)
  | call (f : Nat) (es : VEs) | met (e : VE)
  | comp (it : VI) (tg : VT) (own : List Nat) (cond : VEs) (elt : VE)
inductive VEs where
  | nil | cons (e : VE) (r : VEs)
inductive VI where
  | seq (e : VE) | enum (e : VE) | zip (a b : VE) | rng1 (a : VE) | rng2 (a b : VE)
inductive VT where
  | nm (i : Nat) | tp (ts : VTs)
inductive VTs where
  | nil | cons (t : VT) (r : VTs)
end
mutual
inductive VS where
  | set (i : Nat) (e : VE) | setT (tg : VT) (e : VE) | par (is : List Nat) (es : VEs)
  | app (i : Nat) (e : VE) | extd (i : Nat) (e : VE) | sto (i : Nat) (k e : VE)
  | drop (e : VE) | ret (e : VE) | retN
  | ite (c : VE) (a b : VB) | whl (c : VE) (b : VB) | loop (it : VI) (tg : VT) (b : VB)
  | rai (cls : Nat) (e : VE) | pas | brk | cnt
  | frg (is : List Nat) (s : VS) | setB (i : Nat) (e : VE) | apb (i j : Nat) (c : T) | spo (e : VE)
inductive VB where
  | nil | cons (s : VS) (r : VB)
end

/-! ### built-in operations over trees -/
inductive Res where
  | at (t : T) | sub (t : T) | nl (ts : List T) | nt (ts : List T)
  /-- a new dict, not to be changed -/
  | nf (ks vs : List T)
def isIn (a b : Str) : Bool := !(Builtin.Str.occurrences b a 0 b.length 1).isEmpty
mutual
def toD : T → Option PyData
  | .non => some .none
  | .bl b => some (.bool b)
  | .int i => some (.int i)
  | .str x => some (.str x)
  | .tup xs => (toDs xs).map PyData.tuple
  | .lst xs => (toDs xs).map PyData.list
  | _ => none
def toDs : List T → Option (List PyData)
  | [] => some []
  | t :: r => match toD t, toDs r with
    | some d, some ds => some (d :: ds)
    | _, _ => none
end
def eqW (a b : T) (Q : Bool → Prop) : Prop := match a, b with
  | .int i, .int j => Q (decide (i = j))
  | .str i, .str j => Q (decide (i = j))
  | .bl i, .bl j => Q (decide (i = j))
  | .non, .non => Q true
  | .non, .int _ => Q false | .int _, .non => Q false | .non, .bl _ => Q false | .bl _, .non => Q false | .non, .str _ => Q false | .str _, .non => Q false
  | .int _, .str _ => Q false | .str _, .int _ => Q false | .bl _, .str _ => Q false | .str _, .bl _ => Q false
  | a, b => match toD a, toD b with
    | some d, some e => SeqAt.shaped d = true ∧ SeqAt.shaped e = true ∧ Q (PyData.eqv d e)
    | _, _ => False
def binW (op : Operator) (a b : T) (Q : Res → Prop) : Prop := match op, a, b with
  | .Add, .int i, .int j => Q (.at (.int (i + j)))
  | .Add, .str x, .str y => x.length + y.length ≤ sizeLine ∧ Q (.at (.str (x ++ y)))
  | .Add, .lst x, .lst y => x.length + y.length ≤ sizeLine ∧ Q (.nl (x ++ y))
  | .Sub, .int i, .int j => Q (.at (.int (i - j)))
  | .Mult, .int i, .int j => CMul i j ∧ Q (.at (.int (i * j)))
  | .Mult, .lst x, .int k => 0 ≤ k ∧ k < 2 ^ 63 ∧ x.length * k.toNat ≤ sizeLine ∧ Q (.nl (List.replicate k.toNat x).flatten)
  | .Mult, .str z, .int k => 2 ≤ k ∧ k < 2 ^ 24 ∧ 0 < z.length ∧ z.length * k.toNat ≤ 16777216 ∧ Q (.at (.str (mulS z k)))
  | .Mod, .int i, .int j => 0 < j ∧ Q (.at (.int (i % j)))
  | .FloorDiv, .int i, .int j => CDivW i j ∧ Q (.at (.int (i / j)))
  | .Pow, .int i, .int j => CPow i j ∧ Q (.at (.int (i ^ j.toNat)))
  | _, _, _ => False
def isNonT : T → Bool
  | .non => true
  | _ => false
def cmpW (op : CmpOp) (a b : T) (Q : Bool → Prop) : Prop := match op with
  | .Eq => eqW a b Q
  | .NotEq => eqW a b fun k => Q (!k)
  | .Is => match b with | .non => Q (isNonT a) | _ => False
  | .IsNot => match b with | .non => Q (!isNonT a) | _ => False
  | .Lt => match a, b with | .int i, .int j => Q (decide (i < j)) | _, _ => False
  | .LtE => match a, b with | .int i, .int j => Q (decide (i ≤ j)) | _, _ => False
  | .Gt => match a, b with | .int i, .int j => Q (decide (j < i)) | _, _ => False
  | .GtE => match a, b with | .int i, .int j => Q (decide (j ≤ i)) | _, _ => False
  | .In => match a, b with | .str i, .str j => Q (isIn i j) | _, _ => False
  | .NotIn => match a, b with | .str i, .str j => Q (!isIn i j) | _, _ => False
def ixW (a b : T) (Q : Res → Prop) : Prop := match a, b with
  | .lst xs, .int i => ∃ t, atI xs i = some t ∧ Q (.sub t)
  | .tup xs, .int i => ∃ t, atI xs i = some t ∧ Q (.sub t)
  | .str z, .int i => z.length ≤ sizeLine ∧ ∃ c, atI z.cps.toList i = some c ∧ Q (.at (.str ⟨#[c]⟩))
  | _, _ => False
def cutT (xs : List T) (lo hi : Option Int) : List T := (xs.drop (HT.sIx xs.length 0 lo)).take (HT.sIx xs.length xs.length hi - HT.sIx xs.length 0 lo)
def cutW (a : T) (lo hi : Option Int) (Q : Res → Prop) : Prop := match a with
  | .str z => z.length ≤ sizeLine ∧ Q (.at (.str (cutS z lo hi)))
  | .lst xs => Q (.nl (cutT xs lo hi))
  | _ => False
def slW (l h : Bool) (a : T) (bs : List Int) (Q : Res → Prop) : Prop := match l, h, bs with
  | false, false, [] => cutW a none none Q
  | true, false, [i] => cutW a (some i) none Q
  | false, true, [j] => cutW a none (some j) Q
  | true, true, [i, j] => cutW a (some i) (some j) Q
  | _, _, _ => False
def strsOf : List T → Option (List Str)
  | [] => some []
  | .str x :: r => (strsOf r).map (x :: ·)
  | _ :: _ => none
def blsOf : List T → Option (List Bool)
  | [] => some []
  | .bl x :: r => (blsOf r).map (x :: ·)
  | _ :: _ => none
def truT (t : T) (Q : Bool → Prop) : Prop := match t with
  | .non => Q false
  | .bl b => Q b
  | .int i => Q (i != 0)
  | .str y => y.length ≤ sizeLine ∧ Q (y.length != 0)
  | .tup xs => Q (!xs.isEmpty)
  | .lst xs => Q (!xs.isEmpty)
  | .dct ks _ => Q (!ks.isEmpty)
  | .fdc _ _ => False
  | .opq _ => False
def keyOf : T → Option Key
  | .int i => some (.inl i)
  | .str x => some (.inr x)
  | _ => none
def pairsOf : List T → Option (List (Key × T))
  | [] => some []
  | .tup [k, v] :: r => match keyOf k, pairsOf r with
    | some k', some l => some ((k', v) :: l)
    | _, _ => none
  | _ :: _ => none
def biW (id : BI) (as : List T) (Q : Res → Prop) : Prop := match id, as with
  | .len, [.str x] => x.length ≤ sizeLine ∧ Q (.at (.int x.length))
  | .len, [.lst xs] => Q (.at (.int xs.length))
  | .len, [.tup xs] => Q (.at (.int xs.length))
  | .abs, [.int i] => Q (.at (.int (if i < 0 then -i else i)))
  | .int, [.int i] => Q (.at (.int i))
  | .int, [.str x] => x.length ≤ 640 ∧ ∃ n, PySem.intText? x = some n ∧ Q (.at (.int n))
  | .list, [.lst xs] => Q (.nl xs)
  | .list, [.tup xs] => Q (.nl xs)
  | .list, [.str x] => x.length ≤ sizeLine ∧ Q (.nl (x.cps.toList.map fun c => .str ⟨#[c]⟩))
  | .list, [.dct ks _] => Q (.nl ks)
  | .tuple, [.lst xs] => Q (.nt xs)
  | .tuple, [.tup xs] => Q (.sub (.tup xs))
  | .dict, [.lst xs] => ∃ kts, pairsOf xs = some kts ∧ (kts.map (·.1)).Nodup ∧ Q (.nf (kts.map fun p => keyT p.1) (kts.map (·.2)))
  | .all, [.lst xs] => ∃ bs, blsOf xs = some bs ∧ Q (.at (.bl (bs.all fun b => b)))
  | .any, [.lst xs] => ∃ bs, blsOf xs = some bs ∧ Q (.at (.bl (bs.any fun b => b)))
  | _, _ => False
def meW (id : ME) (o : T) (as : List T) (Q : Res → Prop) : Prop := match id, o, as with
  | .split, .str a, [.str b] => (b.length == 0) = false ∧ a.length + 2 ≤ sizeLine ∧ Q (.nl ((Txt.split a b).map .str))
  | .join, .str a, [.lst xs] => ∃ ys, strsOf xs = some ys ∧ (ys.map (·.length)).sum + a.length * ys.length ≤ 16777216 ∧ Q (.at (.str (Txt.join a ys)))
  | .rstrip, .str a, [.str b] => a.length ≤ sizeLine ∧ Q (.at (.str (Txt.rstripChars a b)))
  | .isdigit, .str a, [] => Q (.at (.bl (Txt.isdigit a)))
  | .index, .str a, [.str b] => ∃ k, Txt.index0 a b = some k ∧ Q (.at (.int k))
  | _, _, _ => False
def tyN : T → Option String
  | .non => some "NoneType" | .bl _ => some "bool" | .int _ => some "int" | .str _ => some "str" | .tup _ => some "tuple" | .lst _ => some "list" | .dct _ _ => some "dict" | .fdc _ _ => some "dict" | .opq _ => none
def recvT (id : ME) (o : T) : Bool := match id, o with
  | .items, .dct _ _ => true
  | .items, _ => false
  | _, .str _ => true
  | _, _ => false
def isiW (tys : List String) (t : T) (Q : Bool → Prop) : Prop := match tyN t with
  | some n => Q (tys.any fun y => n == y || (n == "bool" && y == "int"))
  | none => False

/-- isinstance, a list that is kept apart known, too -/
def isbW (isl : Addr → Prop) (tys : List String) (t : T) (Q : Bool → Prop) : Prop := match t with
  | .opq a => isl a ∧ Q (tys.any fun y => "list" == y || ("list" == "bool" && y == "int"))
  | t => isiW tys t Q

def mkL (ts : List T) (fr : Bool) (D : List Nat) : SV := if imms ts = true then { t := .lst ts, own := true } else { t := .lst ts, own := true, fr := fr, D := D }
def resV (ss : List SV) : Res → SV
  | .at t => { t := t }
  | .sub t => ({ t := t, own := false, fr := frs ss, D := Ds ss } : SV).cl
  | .nl ts => mkL ts (frs ss) (Ds ss)
  | .nf ks vs => ({ t := .fdc ks vs, own := false, fr := frs ss, D := Ds ss } : SV).cl
  | .nt ts => ({ t := .tup ts, own := false, fr := frs ss, D := Ds ss } : SV).cl

/-! ### what a body does -/
def prsT (ks vs : List T) : List T := List.zipWith (fun k v => T.tup [k, v]) ks vs
structure Gam (G : Type) where
  con : Nat → T
  fn : Nat → Con G
  ar : Nat → Nat
  cls : Nat → Exc
  met : Exc → Option Str
  /-- the list that is kept apart: is it one, put it there, take it out, its content -/
  isl : G → Addr → Prop := fun _ _ => False
  put : G → Addr → List T → G := fun S _ _ => S
  off : G → G := fun S => S
  box : G → Addr → List T → Prop := fun _ _ _ => False
  /-- what may be spoilt -/
  spo : T → Prop := fun _ => False

section
variable {G : Type} (Γ : Gam G)
abbrev KV (G : Type) := SV → G → Prop
abbrev KX (G : Type) := Exc → SV → G → Prop
/-- the sources of a walk: still there, as they were -/
def hidE (ε : VEnv) : List (Nat × T) → Prop
  | [] => True
  | (h, t) :: r => (match ε[h]? with | some (some s) => s.t = t | _ => False) ∧ hidE ε r
def hidF (ε : VEnv) : List (Nat × T) → Bool
  | [] => true
  | (h, _) :: r => (match ε[h]? with | some (some s) => s.fr | _ => false) && hidF ε r
def hidD (ε : VEnv) : List (Nat × T) → List Nat
  | [] => []
  | (h, _) :: r => h :: ((match ε[h]? with | some (some s) => s.D | _ => []) ++ hidD ε r)
def itemV (ε : VEnv) (hs : List (Nat × T)) (t : T) : SV := ({ t := t, own := false, fr := hidF ε hs, D := hidD ε hs } : SV).cl
def vtLen : VTs → Nat
  | .nil => 0
  | .cons _ r => vtLen r + 1
mutual
def slotsT : VT → List Nat
  | .nm i => [i]
  | .tp ts => slotsTs ts
def slotsTs : VTs → List Nat
  | .nil => []
  | .cons t r => slotsT t ++ slotsTs r
end
mutual
def wG : VT → SV → VEnv → (VEnv → Prop) → Prop
  | .nm i, s, ε, Q => Q (setV ε i s.cl)
  | .tp us, s, ε, Q => match s.t with
    | .tup xs => xs.length = vtLen us ∧ wGs us xs s.fr s.D ε Q
    | _ => False
def wGs : VTs → List T → Bool → List Nat → VEnv → (VEnv → Prop) → Prop
  | .cons u r, x :: xs, fr, D, ε, Q => wG u ({ t := x, own := false, fr := fr, D := D } : SV).cl ε fun ε' => wGs r xs fr (slotsT u ++ D) ε' Q
  | .nil, [], _, _, ε, Q => Q ε
  | _, _, _, _, _, _ => False
end
/-- a list built item by item -/
def wComp (tg : VT) (hs : List (Nat × T)) (εr : VEnv) (cond : VEnv → G → (Bool → G → Prop) → Prop) (elt : VEnv → G → KV G → Prop) (own : List Nat) (Q : KV G) : List T → List SV → G → Prop
  | [], acc, S => Q (mkL (ts acc) (frs acc) (own ++ slotsT tg ++ Ds acc)) S
  | t :: r, acc, S => wG tg (itemV εr hs t) εr fun ε1 => cond ε1 S fun k S1 =>
        if k = true then elt ε1 S1 fun s S2 => acc.length < sizeLine ∧ wComp tg hs εr cond elt own Q r (acc ++ [s.cl]) S2 else wComp tg hs εr cond elt own Q r acc S1
def wipeV (ε : VEnv) : List Nat → VEnv
  | [] => ε
  | i :: r => (wipeV ε r).set i none
def itemsOf : T → Option (List T)
  | .lst xs => some xs
  | .tup xs => some xs
  | .str x => some (x.cps.toList.map fun c => .str ⟨#[c]⟩)
  | .fdc ks _ => some ks
  | _ => none
def enumOf : T → Option (List T)
  | .lst xs => some xs
  | .str x => some (x.cps.toList.map fun c => .str ⟨#[c]⟩)
  | _ => none
def zipOf : T → T → Option (List T × List T)
  | .lst xs, .lst ys => some (xs, ys)
  | .tup xs, .tup ys => some (xs, ys)
  | _, _ => none
def enumT : Nat → List T → List T
  | _, [] => []
  | n, t :: r => .tup [.int n, t] :: enumT (n + 1) r
def zipT : List T → List T → List T
  | a :: r, b :: q => .tup [a, b] :: zipT r q
  | _, _ => []
def rngT (lo : Int) : Nat → List T
  | 0 => []
  | n + 1 => .int lo :: rngT (lo + 1) n
mutual
def wE : VE → VEnv → G → KV G → KX G → Prop
  | .v i, ε, S, Q, X => match getV ε i with | some s => Q s S | none => False
  | .k c, ε, S, Q, X => Q { t := c } S
  | .g x, ε, S, Q, X => Q { t := Γ.con x } S
  | .dn, ε, S, Q, X => Q { t := .fdc [] [] } S
  | .its e, ε, S, Q, X => wE e ε S (fun x S1 => match x.t with | .fdc ks vs => Q (mkL (prsT ks vs) x.fr x.D) S1 | _ => False) X
  | .bin op a b, ε, S, Q, X => wE a ε S (fun x S1 => wE b ε S1 (fun y S2 => binW op x.t y.t fun r => Q (resV [x, y] r) S2) X) X
  | .cmp op a b, ε, S, Q, X => wE a ε S (fun x S1 => wE b ε S1 (fun y S2 => cmpW op x.t y.t fun k => Q { t := .bl k } S2) X) X
  | .chain o1 o2 a b c, ε, S, Q, X => wE a ε S (fun x S1 => wE b ε S1 (fun y S2 => cmpW o1 x.t y.t fun k =>
      if k = true then wE c ε S2 (fun z S3 => cmpW o2 y.t z.t fun k => Q { t := .bl k } S3) X else Q { t := .bl false } S2) X) X
  | .neg a, ε, S, Q, X => wE a ε S (fun x S1 => match x.t with | .int i => Q { t := .int (-i) } S1 | _ => False) X
  | .not a, ε, S, Q, X => wE a ε S (fun x S1 => truT x.t fun k => Q { t := .bl (!k) } S1) X
  | .and a b, ε, S, Q, X => wE a ε S (fun x S1 => truT x.t fun k => if k = true then wE b ε S1 Q X else Q { x with own := false } S1) X
  | .or a b, ε, S, Q, X => wE a ε S (fun x S1 => truT x.t fun k => if k = true then Q { x with own := false } S1 else wE b ε S1 Q X) X
  | .ife c a b, ε, S, Q, X => wT c ε S (fun k S1 => if k = true then wE a ε S1 Q X else wE b ε S1 Q X) X
  | .tup es, ε, S, Q, X => wEs es ε S (fun ss S1 => ss.length ≤ sizeLine ∧ Q (mkTup ss).cl S1) X
  | .lst es, ε, S, Q, X => wEs es ε S (fun ss S1 => ss.length ≤ sizeLine ∧ Q (mkL (ts ss) (frs ss) (Ds ss)) S1) X
  | .ix a b, ε, S, Q, X => wE a ε S (fun x S1 => wE b ε S1 (fun y S2 => ixW x.t y.t fun r => Q (resV [x, y] r) S2) X) X
  | .sl l h a es, ε, S, Q, X => wE a ε S (fun x S1 => wIs es ε S1 (fun is S2 => slW l h x.t is fun r => Q (resV [x] r) S2) X) X
  | .bi id es, ε, S, Q, X => wEs es ε S (fun ss S1 => biW id (ts ss) fun r => Q (resV ss r) S1) X
  | .me id o es, ε, S, Q, X => wE o ε S (fun x S1 => recvT id x.t = true ∧ wEs es ε S1 (fun ss S2 => meW id x.t (ts ss) fun r => Q (resV (x :: ss) r) S2) X) X
  | .isi tys a, ε, S, Q, X => wE a ε S (fun x S1 => isiW tys x.t fun k => Q { t := .bl k } S1) X
  | .isb tys a, ε, S, Q, X => wE a ε S (fun x S1 => isbW (Γ.isl S1) tys x.t fun k => Q { t := .bl k } S1) X
  | .call f es, ε, S, Q, X => wEs es ε S (fun ss S1 => ss.length = Γ.ar f ∧ (Γ.fn f).pre (ts ss) S1 ∧
      (∀ t own fr S2, (Γ.fn f).post (ts ss) S1 t own fr S2 → Q (mkRet ss t own fr) S2) ∧ (∀ x t S2, (Γ.fn f).exc (ts ss) S1 x t S2 → X x (mkRet ss t false false) S2)) X
  | .met e, ε, S, Q, X => wE e ε S (fun s S1 => Q (mkTup [{ t := .str "told" }, s]).cl S1) (fun x s S1 => match Γ.met x with | some tag => Q (mkTup [{ t := .str tag }, s]).cl S1 | none => False)
  | .comp it tg own cond elt, ε, S, Q, X => wI it ε S (fun items hs ε1 S1 => hidE (wipeV ε1 own) hs ∧ wComp tg hs (wipeV ε1 own) (fun ε2 S2 K => wC cond ε2 S2 K (fun _ _ _ => False)) (fun ε2 S2 K => wE elt ε2 S2 K (fun _ _ _ => False)) own Q items [] S1) X
def wEs : VEs → VEnv → G → (List SV → G → Prop) → KX G → Prop
  | .nil, ε, S, Q, X => Q [] S
  | .cons e r, ε, S, Q, X => wE e ε S (fun s S1 => wEs r ε S1 (fun ss S2 => Q (s.cl :: ss) S2) X) X
def wIs : VEs → VEnv → G → (List Int → G → Prop) → KX G → Prop
  | .nil, ε, S, Q, X => Q [] S
  | .cons e r, ε, S, Q, X => wE e ε S (fun s S1 => match s.t with
    | .int i => wIs r ε S1 (fun is S2 => Q (i :: is) S2) X
    | _ => False) X
/-- a test -/
def wT : VE → VEnv → G → (Bool → G → Prop) → KX G → Prop
  | .not a, ε, S, Q, X => wT a ε S (fun k S1 => Q (!k) S1) X
  | .and a b, ε, S, Q, X => wT a ε S (fun k S1 => if k = true then wT b ε S1 Q X else Q false S1) X
  | .or a b, ε, S, Q, X => wT a ε S (fun k S1 => if k = true then Q true S1 else wT b ε S1 Q X) X
  | .cmp op a b, ε, S, Q, X => wE a ε S (fun x S1 => wE b ε S1 (fun y S2 => cmpW op x.t y.t fun k => Q k S2) X) X
  | .chain o1 o2 a b c, ε, S, Q, X => wE a ε S (fun x S1 => wE b ε S1 (fun y S2 => cmpW o1 x.t y.t fun k =>
      if k = true then wE c ε S2 (fun z S3 => cmpW o2 y.t z.t fun k => Q k S3) X else Q false S2) X) X
  | .ife _ _ _, _, _, _, _ => False
  | .v i, ε, S, Q, X => match getV ε i with | some s => truT s.t fun k => Q k S | none => False
  | .isi tys a, ε, S, Q, X => wE a ε S (fun x S1 => isiW tys x.t fun k => Q k S1) X
  | .isb tys a, ε, S, Q, X => wE a ε S (fun x S1 => isbW (Γ.isl S1) tys x.t fun k => Q k S1) X
  | .bi id es, ε, S, Q, X => wEs es ε S (fun ss S1 => biW id (ts ss) fun r => truT (resV ss r).t fun k => Q k S1) X
  | .me id o es, ε, S, Q, X => wE o ε S (fun x S1 => recvT id x.t = true ∧ wEs es ε S1 (fun ss S2 => meW id x.t (ts ss) fun r => truT (resV (x :: ss) r).t fun k => Q k S2) X) X
  | .call f es, ε, S, Q, X => wEs es ε S (fun ss S1 => ss.length = Γ.ar f ∧ (Γ.fn f).pre (ts ss) S1 ∧
      (∀ t own fr S2, (Γ.fn f).post (ts ss) S1 t own fr S2 → truT t fun k => Q k S2) ∧ (∀ x t S2, (Γ.fn f).exc (ts ss) S1 x t S2 → X x (mkRet ss t false false) S2)) X
  | _, _, _, _, _ => False
def wC : VEs → VEnv → G → (Bool → G → Prop) → KX G → Prop
  | .nil, ε, S, Q, X => Q true S
  | .cons c .nil, ε, S, Q, X => wT c ε S Q X
  | _, _, _, _, _ => False
/-- what is walked: the items, the hidden places of the sources -/
def wI : VI → VEnv → G → (List T → List (Nat × T) → VEnv → G → Prop) → KX G → Prop
  | .seq e, ε, S, Q, X => wE e ε S (fun s S1 => ∃ xs, itemsOf s.t = some xs ∧ Q xs [(ε.length, s.t)] (push ε s) S1) X
  | .enum e, ε, S, Q, X => wE e ε S (fun s S1 => ∃ xs, enumOf s.t = some xs ∧ Q (enumT 0 xs) [(ε.length, s.t)] (push ε s) S1) X
  | .zip a b, ε, S, Q, X => wE a ε S (fun x S1 => wE b (push ε x) S1 (fun y S2 => ∃ xs ys, zipOf x.t y.t = some (xs, ys) ∧ Q (zipT xs ys) [(ε.length, x.t), (ε.length + 1, y.t)] (push (push ε x) y) S2) X) X
  | .rng1 a, ε, S, Q, X => wE a ε S (fun x S1 => match x.t with | .int j => -(2 ^ 62) ≤ j ∧ j < 2 ^ 62 ∧ Q (rngT 0 j.toNat) [] ε S1 | _ => False) X
  | .rng2 a b, ε, S, Q, X => wE a ε S (fun x S1 => wE b ε S1 (fun y S2 => match x.t, y.t with | .int i, .int j => (-(2 ^ 62) ≤ i ∧ i < 2 ^ 62 ∧ -(2 ^ 62) ≤ j ∧ j < 2 ^ 62) ∧ Q (rngT i (j - i).toNat) [] ε S2 | _, _ => False) X) X
end

mutual
/-- the list at a put for its address -/
def subT (a : Addr) (ys : List T) : T → T
  | .opq x => if x = a then .lst ys else .opq x
  | .tup xs => .tup (subTs a ys xs)
  | .lst xs => .lst (subTs a ys xs)
  | .dct ks xs => .dct ks (subTs a ys xs)
  | .fdc ks xs => .fdc ks (subTs a ys xs)
  | t => t
def subTs (a : Addr) (ys : List T) : List T → List T
  | [] => []
  | t :: r => subT a ys t :: subTs a ys r
end
/-- the names that may share with D are forgotten -/
def spoil1 (D : List Nat) : Nat → VEnv → VEnv
  | _, [] => []
  | k, none :: r => none :: spoil1 D (k + 1) r
  | k, some s :: r => (if (imm s.t || !D.contains k) = true then some s else none) :: spoil1 D (k + 1) r
structure Dn (G : Type) where
  nx : VEnv → G → Prop
  rt : SV → G → Prop
  ex : KX G
  bk : VEnv → G → Prop := fun _ _ => False
  ct : VEnv → G → Prop := fun _ _ => False
/-- values laid behind the names, one after another, then moved to names -/
def wPar : VEs → VEnv → G → (VEnv → G → Prop) → KX G → Prop
  | .nil, ε, S, Q, X => Q ε S
  | .cons e r, ε, S, Q, X => wE Γ e ε S (fun s S1 => wPar r (push ε s.cl) S1 Q X) X
def moveV (ε : VEnv) (h i : Nat) : Option VEnv := match ε[h]? with
  | some (some s) => some (setV (ε.set h none) i s.moved)
  | _ => none
def moveAll : List Nat → Nat → VEnv → Option VEnv
  | [], _, ε => some ε
  | i :: r, h, ε => (moveV ε h i).bind (moveAll r (h + 1))
def wLoop (tg : VT) (h0 : Nat) (hs : List (Nat × T)) (body : VEnv → G → Dn G → Prop) (D : Dn G) : List T → VEnv → G → Prop
  | [], ε, S => hidE ε hs ∧ D.nx (ε.take h0) S
  | t :: r, ε, S => hidE ε hs ∧ wG tg (itemV ε hs t) ε fun ε1 =>
        body ε1 S { D with nx := wLoop tg h0 hs body D r, ct := wLoop tg h0 hs body D r, bk := fun ε2 S2 => D.nx (ε2.take h0) S2 }
mutual
def wS : VS → VEnv → G → Dn G → Prop
  | .set i e, ε, S, D => wE Γ e ε S (fun s S1 => D.nx (setV ε i s.cl) S1) D.ex
  | .setT tg e, ε, S, D => wE Γ e ε S (fun s S1 => wG tg s ε fun ε1 => D.nx ε1 S1) D.ex
  | .par is es, ε, S, D => wPar Γ es ε S (fun ε1 S1 => ∃ ε2, moveAll is ε.length ε1 = some ε2 ∧ ε1.length = ε.length + is.length ∧ D.nx (ε2.take ε.length) S1) D.ex
  | .app i e, ε, S, D => match ε[i]? with
      | some (some s0) => match s0.t with
        | .lst xs => s0.own = true ∧ wE Γ e ε S (fun s S1 => xs.length < sizeLine ∧ i ∉ s.cl.D ∧
            D.nx (setV (poison i s0.D ε) i { t := .lst (xs ++ [s.t]), own := true, fr := s0.fr && s.cl.fr, D := joinD s0.D s.cl.D }) S1) D.ex
        | _ => False
      | _ => False
  | .extd i e, ε, S, D => match ε[i]? with
      | some (some s0) => match s0.t with
        | .lst xs => s0.own = true ∧ wE Γ e ε S (fun s S1 => match s.t with
          | .lst ys => xs.length + ys.length ≤ sizeLine ∧ (i ∉ (mkL ys s.fr s.D).D ∧
            D.nx (setV (poison i s0.D ε) i { t := .lst (xs ++ ys), own := true, fr := s0.fr && (mkL ys s.fr s.D).fr, D := joinD s0.D (mkL ys s.fr s.D).D }) S1)
          | _ => False) D.ex
        | _ => False
      | _ => False
  | .sto i k e, ε, S, D => False
  | .drop e, ε, S, D => wE Γ e ε S (fun _ S1 => D.nx ε S1) D.ex
  | .ret e, ε, S, D => match e with
    | .v i => match ε[i]? with | some (some s) => D.rt s S | _ => False
    | e => wE Γ e ε S D.rt D.ex
  | .retN, ε, S, D => D.rt { t := .non } S
  | .ite c a b, ε, S, D => wT Γ c ε S (fun k S1 => if k = true then wB a ε S1 D else wB b ε S1 D) D.ex
  | .whl c b, ε, S, D => ∃ W : Nat → VEnv → G → Prop, (∃ m, W m ε S) ∧ ∀ m ε S, W m ε S →
      wT Γ c ε S (fun k S1 => if k = true then wB b ε S1 { D with nx := fun ε' S' => ∃ m', m' < m ∧ W m' ε' S', ct := fun ε' S' => ∃ m', m' < m ∧ W m' ε' S', bk := D.nx } else D.nx ε S1) D.ex
  | .loop it tg b, ε, S, D => wI Γ it ε S (fun items hs ε1 S1 => wLoop tg ε.length hs (fun ε2 S2 D2 => wB b ε2 S2 D2) D items ε1 S1) D.ex
  | .rai c e, ε, S, D => wE Γ e ε S (fun s S1 => D.ex (Γ.cls c) s S1) D.ex
  | .pas, ε, S, D => D.nx ε S
  | .brk, ε, S, D => D.bk ε S
  | .cnt, ε, S, D => D.ct ε S
  | .frg is s, ε, S, D => wS s ε S { D with nx := fun ε1 S1 => D.nx (wipeV ε1 is) S1 }
  | .setB i e, ε, S, D => wE Γ e ε S (fun s S1 => match s.t with
    | .lst xs => s.fr = true ∧ s.D = [] ∧ imms xs = true ∧ ∀ a, D.nx (ε.set i (some { t := .opq a })) (Γ.put S1 a xs)
    | _ => D.nx (setV ε i s.cl) S1) D.ex
  | .apb i j c, ε, S, D => match ε[i]?, ε[j]? with
    | some (some s), some (some sj) => match s.t with
      | .opq a => ∃ xs, Γ.box S a xs ∧ imm c = true ∧ xs.length < sizeLine ∧ i ≠ j ∧
          D.nx ((ε.set i (some { t := .lst (xs ++ [c]), own := false, fr := false, D := [j] })).set j (some { t := subT a (xs ++ [c]) sj.t, own := false, fr := false, D := i :: sj.D })) (Γ.off S)
      | _ => False
    | _, _ => False
  | .spo e, ε, S, D => wE Γ e ε S (fun s S1 => s.fr = true ∧ Γ.spo s.t ∧ D.nx (spoil1 s.D 0 ε) S1) D.ex
def wB : VB → VEnv → G → Dn G → Prop
  | .nil, ε, S, D => D.nx ε S
  | .cons s r, ε, S, D => wS s ε S { D with nx := fun ε1 S1 => wB r ε1 S1 D }
end
end
end Vs

-- Vs5
namespace Vs
open PySem L2

structure Fin (K : PySem.W.Frag) (H : Hp) (F : Addr → Prop) (QR : Res → Prop) (Q' : VK) : Prop where
  at_ : ∀ t v, QR (.at t) → imm t = true → Rep K H (fun _ => False) t v → Q' v H
  sub : ∀ t v, QR (.sub t) → Rep K H F t v → Q' v H
  nl : ∀ tr vs p, QR (.nl tr) → Reps K H F tr vs → H p = none → Q' (.ref p) (upd H p (.lst vs))
  nt : ∀ tr vs p, QR (.nt tr) → Reps K H F tr vs → H p = none → Q' (.ref p) (upd H p (.tup vs))
  nf : ∀ ks tr (kvs : List (Key × V)) p o, QR (.nf ks tr) → ks = kvs.map (fun q => keyT q.1) → Reps K H F tr (kvs.map (·.2)) → H p = none → Q' (.ref p) (upd H p (.frz o (.dK kvs)))

section
variable {b : Bx} {W : Wit} {ε : VEnv} {σ : L2.St} {S : b.g.G} {H : Hp} {F : Addr → Prop}
theorem Reps.imm0 {K : PySem.W.Frag} {tr : List T} {vs : List V} (hi : imms tr = true) (h : Reps K H F tr vs) : Reps K H (fun _ => False) tr vs := Reps.imm _ _ hi h
theorem mkL_ok {vs : List V} {ss : List SV} {q : Addr} {tr : List T} {ws : List V} {Dn : List Nat} (B : BOk b W ε σ S H) (j : Joint b W ε S H F vs ss) (hq : H q = none) (hr : Reps b.K H F tr ws) (hD : ∀ i, i ∉ Dn → i ∉ Ds ss) :
    VOk b W ε S (upd H q (.lst ws)) (.ref q) (mkL tr (frs ss) Dn) := by
  have k : Stp b.g S H S (upd H q (.lst ws)) := .new hq
  unfold mkL
  split
  · rename_i hi
    have j0 : Joint b W ε S H (fun _ => False) [] [] := ⟨rfl, ⟨fun _ q => q.elim, fun _ q => q.elim, fun _ _ q => q.elim, fun _ q => q.elim⟩, fun _ q => q.elim, fun _ _ _ _ _ q => q.elim⟩
    refine j0.lst B hq ⟨ws, upd_same, Reps.keep k.imm (fun a f => f.elim) _ _ (Reps.imm0 hi hr)⟩ (fun _ => rfl) (fun i _ => by simp [Ds])
  · refine j.lst B hq ⟨ws, upd_same, Reps.keep k.imm (fun a f => ⟨⟨.inl f, ?_⟩, j.ok.at_ k a f⟩) _ _ hr⟩ (fun z => z) hD
    rintro rfl
    obtain ⟨o, e⟩ := j.ok.tr a f
    rw [hq] at e; cases e
theorem part_ok {vs : List V} {ss : List SV} {t : T} {v : V} (j : Joint b W ε S H F vs ss) (hr : Rep b.K H F t v) : VOk b W ε S H v ({ t := t, own := false, fr := frs ss, D := Ds ss } : SV).cl :=
  VOk.cl ⟨F, 0, ⟨RepS.plain hr rfl, j.ok, (fun z => by cases z), j.rs, fun i s' ei => ⟨(fun z => by cases z), j.pr i s' ei⟩⟩⟩
theorem fin_of {vs : List V} {ss : List SV} {Q : SV → Prop} {Q' : VK} (B : BOk b W ε σ S H) (j : Joint b W ε S H F vs ss)
    (hq : ∀ s v H', Q s → Stp b.g S H S H' → b.g.SI S H' → VOk b W ε S H' v s → Q' v H') : Fin b.K H F (fun r => Q (resV ss r)) Q' where
  at_ := fun t v q hi r => hq _ v H q .refl B.si (VOk.imm r hi rfl)
  sub := fun t v q r => hq _ v H q .refl B.si (part_ok j r)
  nl := fun tr ws p q r hp => hq _ _ _ q (.new hp) (Glo.new B.si hp) (mkL_ok B j hp r fun _ z => z)
  nt := fun tr ws p q r hp => by
    refine hq _ _ _ q (.new hp) (Glo.new B.si hp) (VOk.cl ?_)
    have k : Stp b.g S H S (upd H p (.tup ws)) := .new hp
    refine ⟨F, 0, ⟨RepS.plain ⟨p, ws, rfl, .inl (.inl upd_same), Reps.keep k.imm (fun a f => ⟨f, j.ok.at_ k a f⟩) _ _ r⟩ rfl, j.ok.step k, (fun z => by cases z), j.rs, fun i s' ei => ⟨(fun z => by cases z), j.pr i s' ei⟩⟩⟩
  nf := fun ks tr kvs p o q ek r hp => by
    refine hq _ _ _ q (.new hp) (Glo.new B.si hp) (VOk.cl ?_)
    have k : Stp b.g S H S (upd H p (.frz o (.dK kvs))) := .new hp
    exact ⟨F, 0, ⟨RepS.plain ⟨p, o, kvs, rfl, upd_same, ek, Reps.keep k.imm (fun a f => ⟨f, j.ok.at_ k a f⟩) _ _ r⟩ rfl, j.ok.step k, (fun z => by cases z), j.rs, fun i s' ei => ⟨(fun z => by cases z), j.pr i s' ei⟩⟩⟩
end

/-! ### the operations, by values -/
section
variable {K : PySem.W.Frag} {H : Hp} {F : Addr → Prop} {a c : T} {x y : V} {Q' : VK}
def rBin (K : PySem.W.Frag) (op : Operator) : R2 := match op with
  | .Add => fun x y H Q => rI0 (fun i j => .int (i + j)) x y H Q ∨ (∃ i j, x = .str i ∧ y = .str j ∧ i.length + j.length ≤ sizeLine ∧ Q (.str (i ++ j)) H) ∨ rCat x y H Q
  | .Sub => rI0 fun i j => .int (i - j)
  | .Mult => fun x y H Q => rI CMul (fun i j => .int (i * j)) x y H Q ∨ rRep x y H Q ∨ rMulS x y H Q
  | .Mod => rI (fun _ j => 0 < j) fun i j => .int (i % j)
  | .FloorDiv => rI CDivW fun i j => .int (i / j)
  | .Pow => rI CPow fun i j => .int (i ^ j.toNat)
  | _ => fun _ _ _ _ => False
theorem op_bin {X : Cx} (op : Operator) : OpR X (binaryOp op) (rBin X.K op) := by
  cases op with
  | Add => exact op_add.or (op_add_str.or op_cat)
  | Sub => exact op_sub
  | Mult => exact op_mul.or (op_rep.or op_mulS)
  | Mod => exact op_mod
  | FloorDiv => exact op_fdivW
  | Pow => exact op_pow
  | _ => exact fun _ _ _ _ _ _ _ _ _ _ _ _ h => h.elim
theorem Reps.flat {tr : List T} {vs : List V} (h : Reps K H F tr vs) : ∀ n, Reps K H F (List.replicate n tr).flatten (List.replicate n vs).flatten
  | 0 => rfl
  | n + 1 => by rw [List.replicate_succ, List.flatten_cons, List.replicate_succ, List.flatten_cons]; exact h.append (Reps.flat h n)
theorem bin_ok {op : Operator} {QR : Res → Prop} (ha : Rep K H F a x) (hb : Rep K H F c y) (h : binW op a c QR) (f : Fin K H F QR Q') : rBin K op x y H Q' := by
  unfold binW at h
  split at h
  · obtain rfl := ha
    obtain rfl := hb
    exact .inl ⟨_, _, rfl, rfl, f.at_ _ _ h rfl rfl⟩
  · obtain rfl := ha
    obtain rfl := hb
    exact .inr (.inl ⟨_, _, rfl, rfl, h.1, f.at_ _ _ h.2 rfl rfl⟩)
  · obtain ⟨p, vs, rfl, hp, _, r1⟩ := ha
    replace r1 := Reps.off r1
    obtain ⟨q, ws, rfl, hq, _, r2⟩ := hb
    replace r2 := Reps.off r2
    exact .inr (.inr ⟨p, q, vs, ws, rfl, rfl, hp, hq, by rw [← r1.length, ← r2.length]; exact h.1, fun z hz => f.nl _ _ _ h.2 (r1.append r2) hz⟩)
  · obtain rfl := ha
    obtain rfl := hb
    exact ⟨_, _, rfl, rfl, f.at_ _ _ h rfl rfl⟩
  · obtain rfl := ha
    obtain rfl := hb
    exact .inl ⟨_, _, rfl, rfl, h.1, f.at_ _ _ h.2 rfl rfl⟩
  · obtain ⟨p, vs, rfl, hp, _, r1⟩ := ha
    replace r1 := Reps.off r1
    obtain rfl := hb
    obtain ⟨h1, h2, h3, h4⟩ := h
    exact .inr (.inl ⟨p, _, vs, rfl, rfl, hp, by omega, h2, by rw [← r1.length]; exact h3, fun z hz => f.nl _ _ _ h4 (r1.flat _) hz⟩)
  · obtain rfl := ha
    obtain rfl := hb
    obtain ⟨h1, h2, h3, h4, h5⟩ := h
    exact .inr (.inr ⟨_, _, rfl, rfl, h1, h2, h3, h4, f.at_ _ _ h5 rfl rfl⟩)
  · obtain rfl := ha
    obtain rfl := hb
    exact ⟨_, _, rfl, rfl, h.1, f.at_ _ _ h.2 rfl rfl⟩
  · obtain rfl := ha
    obtain rfl := hb
    exact ⟨_, _, rfl, rfl, h.1, f.at_ _ _ h.2 rfl rfl⟩
  · obtain rfl := ha
    obtain rfl := hb
    exact ⟨_, _, rfl, rfl, h.1, f.at_ _ _ h.2 rfl rfl⟩
  · exact h.elim

mutual
theorem toD_ok : ∀ (t : T) (v : V) (d : PyData), toD t = some d → Rep K H F t v → Dp K H v d
  | .non, v, d, e, h => by obtain rfl := h; simp [toD] at e; subst e; exact .non
  | .bl b, v, d, e, h => by obtain rfl := h; simp [toD] at e; subst e; exact .bl b
  | .int i, v, d, e, h => by obtain rfl := h; simp [toD] at e; subst e; exact .int i
  | .str x, v, d, e, h => by obtain rfl := h; simp [toD] at e; subst e; exact .str x
  | .tup xs, v, d, e, ⟨a, vs, e1, h1, r⟩ => by
    subst e1
    cases q : toDs xs with
    | none => simp [toD, q] at e
    | some ds => simp [toD, q] at e; subst e; exact .tup h1 (toDs_ok xs vs ds q r)
  | .lst xs, v, d, e, ⟨a, vs, e1, h1, f, r⟩ => by
    subst e1
    cases q : toDs xs with
    | none => simp [toD, q] at e
    | some ds => simp [toD, q] at e; subst e; exact .lst (SqL.of h1) (toDs_ok xs vs ds q r.off)
  | .opq _, _, _, e, _ => by simp [toD] at e
  | .dct _ _, _, _, e, _ => by simp [toD] at e
theorem toDs_ok : ∀ (tr : List T) (vs : List V) (ds : List PyData), toDs tr = some ds → Reps K H F tr vs → DpAll K H vs ds
  | [], vs, ds, e, h => by obtain rfl := h; simp [toDs] at e; subst e; exact .nil
  | t :: r, vs, ds, e, ⟨v, ws, e1, h1, h2⟩ => by
    subst e1
    cases q1 : toD t with
    | none => simp [toDs, q1] at e
    | some d =>
      cases q2 : toDs r with
      | none => simp [toDs, q1, q2] at e
      | some ds' =>
        simp [toDs, q1, q2] at e
        subst e
        exact .cons (toD_ok t v d q1 h1) (toDs_ok r ws ds' q2 h2)
end
def rEqq (K : PySem.W.Frag) : R2 := fun x y H Q => rEq x y H Q ∨ rEqD K x y H Q
def rNee (K : PySem.W.Frag) : R2 := fun x y H Q => rNe x y H Q ∨ rNeD K x y H Q
theorem eq_ok {QB : Bool → Prop} (ha : Rep K H F a x) (hb : Rep K H F c y) (h : eqW a c QB) (f : ∀ k, QB k → Q' (.bl k) H) : rEqq K x y H Q' := by
  unfold eqW at h
  split at h
  all_goals first
    | (obtain rfl := ha; obtain rfl := hb; refine .inl ⟨rfl, ?_⟩; have e := f _ h; simpa using e)
    | skip
  split at h
  · rename_i d e h1 h2
    obtain ⟨q1, q2, q3⟩ := h
    exact .inr ⟨d, e, toD_ok _ _ _ h1 ha, toD_ok _ _ _ h2 hb, q1, q2, f _ q3⟩
  · exact h.elim
theorem ne_ok {QB : Bool → Prop} (ha : Rep K H F a x) (hb : Rep K H F c y) (h : eqW a c fun k => QB (!k)) (f : ∀ k, QB k → Q' (.bl k) H) : rNee K x y H Q' := by
  unfold eqW at h
  split at h
  all_goals first
    | (obtain rfl := ha; obtain rfl := hb; refine .inl ⟨rfl, ?_⟩; have e := f _ h; simpa using e)
    | skip
  split at h
  · rename_i d e h1 h2
    obtain ⟨q1, q2, q3⟩ := h
    exact .inr ⟨d, e, toD_ok _ _ _ h1 ha, toD_ok _ _ _ h2 hb, q1, q2, f _ q3⟩
  · exact h.elim
def rCmp (K : PySem.W.Frag) (op : CmpOp) : R2 := match op with
  | .Eq => rEqq K
  | .NotEq => rNee K
  | .Is => fun x y H Q => y = .non ∧ Q (.bl (decide (x = .non))) H
  | .IsNot => fun x y H Q => y = .non ∧ Q (.bl (!decide (x = .non))) H
  | .Lt => rI0 fun i j => .bl (decide (i < j))
  | .LtE => rI0 fun i j => .bl (decide (i ≤ j))
  | .Gt => rI0 fun i j => .bl (decide (j < i))
  | .GtE => rI0 fun i j => .bl (decide (j ≤ i))
  | .In => fun x y H Q => ∃ i j, x = .str i ∧ y = .str j ∧ Q (.bl (isIn i j)) H
  | .NotIn => fun x y H Q => ∃ i j, x = .str i ∧ y = .str j ∧ Q (.bl (!isIn i j)) H
theorem op_cmp {X : Cx} (hu : X.A.units + 64 < cLine) (op : CmpOp) : OpR X (compareOp op) (rCmp X.K op) := by
  cases op with
  | Eq => exact op_eq.or (op_eqD hu)
  | NotEq => exact op_ne.or (op_neD hu)
  | Is => exact op_isN
  | IsNot => exact op_notN
  | Lt => exact op_lt
  | LtE => exact op_le
  | Gt => exact op_gt
  | GtE => exact op_ge
  | In => exact op_in_str
  | NotIn => exact op_notin_str
theorem isN_of (ha : Rep K H F a x) : decide (x = V.non) = isNonT a := by
  cases a with
  | non => obtain rfl := ha; rfl
  | bl b => obtain rfl := ha; rfl
  | int b => obtain rfl := ha; rfl
  | str b => obtain rfl := ha; rfl
  | opq b => obtain rfl := ha; rfl
  | tup b => obtain ⟨_, _, rfl, _⟩ := ha; rfl
  | lst b => obtain ⟨_, _, rfl, _⟩ := ha; rfl
  | dct _ b => obtain ⟨_, _, rfl, _⟩ := ha; rfl
  | fdc _ b => obtain ⟨_, _, _, rfl, _⟩ := ha; rfl
theorem cmp_ok {op : CmpOp} {QB : Bool → Prop} (ha : Rep K H F a x) (hb : Rep K H F c y) (h : cmpW op a c QB) (f : ∀ k, QB k → Q' (.bl k) H) : rCmp K op x y H Q' := by
  cases op with
  | Eq => exact eq_ok ha hb h f
  | NotEq => exact ne_ok ha hb h f
  | Is =>
    unfold cmpW at h
    simp only at h
    split at h
    · obtain rfl := hb
      refine ⟨rfl, ?_⟩
      rw [isN_of ha]
      exact f _ h
    · exact h.elim
  | IsNot =>
    unfold cmpW at h
    simp only at h
    split at h
    · obtain rfl := hb
      refine ⟨rfl, ?_⟩
      rw [isN_of ha]
      exact f _ h
    · exact h.elim
  | _ =>
    unfold cmpW at h
    simp only at h
    split at h
    · obtain rfl := ha
      obtain rfl := hb
      exact ⟨_, _, rfl, rfl, f _ h⟩
    · exact h.elim

theorem Reps.atI {tr : List T} {vs : List V} {i : Int} {t : T} (h : Reps K H F tr vs) (e : atI tr i = some t) : ∃ v, L2.atI vs i = some v ∧ Rep K H F t v := by
  have hl := h.length
  unfold L2.atI at e ⊢
  rw [hl] at e
  cases q : ixN vs.length i with
  | none => rw [q] at e; cases e
  | some k =>
    rw [q] at e
    exact h.get e
theorem ix_ok {QR : Res → Prop} (ha : Rep K H F a x) (hb : Rep K H F c y) (h : ixW a c QR) (f : Fin K H F QR Q') : rIx K x y H Q' := by
  unfold ixW at h
  split at h
  · obtain ⟨p, vs, rfl, hp, _, r⟩ := ha
    replace r := Reps.off r
    obtain rfl := hb
    obtain ⟨t, e, q⟩ := h
    obtain ⟨v, e2, r2⟩ := r.atI e
    exact .inl ⟨p, vs, _, v, rfl, rfl, SqL.of hp, e2, f.sub _ _ q r2⟩
  · obtain ⟨p, vs, rfl, hp, r⟩ := ha
    obtain rfl := hb
    obtain ⟨t, e, q⟩ := h
    obtain ⟨v, e2, r2⟩ := r.atI e
    exact .inr (.inl ⟨p, vs, _, v, rfl, rfl, hp, e2, f.sub _ _ q r2⟩)
  · obtain rfl := ha
    obtain rfl := hb
    obtain ⟨hz, cc, e, q⟩ := h
    exact .inr (.inr ⟨_, _, cc, rfl, rfl, hz, e, f.at_ _ _ q rfl rfl⟩)
  · exact h.elim
theorem cut_ok {tr : List T} {vs : List V} (r : Reps K H F tr vs) (lo hi : Option Int) : Reps K H F (cutT tr lo hi) (cutV vs lo hi) := by
  unfold cutT cutV
  rw [r.length]
  exact (r.drop _).take _
def rSl (K : PySem.W.Frag) : V → Option Int → Option Int → Hp → VK → Prop := fun x lo hi H Q => rSlS x lo hi H Q ∨ rSlL K x lo hi H Q
theorem sl_any {X : Cx} : SlR X (rSl X.K) := sl_str.or sl_list

theorem strs_ok : ∀ {tr : List T} {vs : List V} {ys : List Str}, strsOf tr = some ys → Reps K H F tr vs → vs = ys.map V.str
  | [], vs, ys, e, h => by obtain rfl := h; simp [strsOf] at e; subst e; rfl
  | .str x :: r, vs, ys, e, ⟨v, ws, e1, h1, h2⟩ => by
    subst e1
    cases q : strsOf r with
    | none => simp [strsOf, q] at e
    | some zs =>
      simp [strsOf, q] at e
      subst e
      obtain rfl := h1
      rw [strs_ok q h2]; rfl
  | .non :: r, _, _, e, _ => by simp [strsOf] at e
  | .bl _ :: r, _, _, e, _ => by simp [strsOf] at e
  | .int _ :: r, _, _, e, _ => by simp [strsOf] at e
  | .opq _ :: r, _, _, e, _ => by simp [strsOf] at e
  | .tup _ :: r, _, _, e, _ => by simp [strsOf] at e
  | .lst _ :: r, _, _, e, _ => by simp [strsOf] at e
  | .dct _ _ :: r, _, _, e, _ => by simp [strsOf] at e
theorem bls_ok : ∀ {tr : List T} {vs : List V} {ys : List Bool}, blsOf tr = some ys → Reps K H F tr vs → vs = ys.map V.bl
  | [], vs, ys, e, h => by obtain rfl := h; simp [blsOf] at e; subst e; rfl
  | .bl x :: r, vs, ys, e, ⟨v, ws, e1, h1, h2⟩ => by
    subst e1
    cases q : blsOf r with
    | none => simp [blsOf, q] at e
    | some zs =>
      simp [blsOf, q] at e
      subst e
      obtain rfl := h1
      rw [bls_ok q h2]; rfl
  | .non :: r, _, _, e, _ => by simp [blsOf] at e
  | .str _ :: r, _, _, e, _ => by simp [blsOf] at e
  | .int _ :: r, _, _, e, _ => by simp [blsOf] at e
  | .opq _ :: r, _, _, e, _ => by simp [blsOf] at e
  | .tup _ :: r, _, _, e, _ => by simp [blsOf] at e
  | .lst _ :: r, _, _, e, _ => by simp [blsOf] at e
  | .dct _ _ :: r, _, _, e, _ => by simp [blsOf] at e
theorem reps_strs (ys : List Str) : Reps K H F (ys.map T.str) (ys.map V.str) := by
  induction ys with
  | nil => rfl
  | cons y r ih => exact ⟨_, _, rfl, rfl, ih⟩
theorem rep_kT (k : Key) : Rep K H F (keyT k) (kV k) := by cases k <;> rfl
theorem reps_keys {κ : Type} (kvs : List (Key × κ)) : Reps K H F (kvs.map fun p => keyT p.1) (kvs.map fun kv => kV kv.1) := by
  induction kvs with
  | nil => rfl
  | cons y r ih => exact ⟨_, _, rfl, rep_kT _, ih⟩

/-- truth -/
theorem tru_of {QB : Bool → Prop} (ha : Rep K H F a x) (h : truT a QB) : ∃ k, TruV K x H k ∧ QB k := by
  cases a with
  | non => obtain rfl := ha; exact ⟨false, rfl, h⟩
  | bl b => obtain rfl := ha; exact ⟨b, rfl, h⟩
  | int b => obtain rfl := ha; exact ⟨_, rfl, h⟩
  | str y =>
    obtain rfl := ha
    refine ⟨_, ⟨h.1, rfl⟩, ?_⟩
    have e : ((y.length : Int) != 0) = (y.length != 0) := by
      cases hh : y.length with
      | zero => rfl
      | succ n => exact (bne_iff_ne.mpr (by omega)).trans (bne_iff_ne.mpr (by omega)).symm
    rw [e]; exact h.2
  | opq b => exact h.elim
  | tup ts =>
    obtain ⟨p, vs, rfl, hp, r⟩ := ha
    refine ⟨_, .inr (.inl ⟨vs, hp, rfl⟩), ?_⟩
    have hl := r.length
    have e : vs.isEmpty = ts.isEmpty := by cases vs <;> cases ts <;> simp_all
    rw [e]; exact h
  | lst ts =>
    obtain ⟨p, vs, rfl, hp, _, r⟩ := ha
    replace r := Reps.off r
    refine ⟨_, .inl ⟨vs, SqL.of hp, rfl⟩, ?_⟩
    have hl := r.length
    have e : vs.isEmpty = ts.isEmpty := by cases vs <;> cases ts <;> simp_all
    rw [e]; exact h
  | dct ks ts =>
    obtain ⟨p, kvs, rfl, hp, _, ek, r⟩ := ha
    refine ⟨_, .inr (.inr ⟨kvs, hp, rfl⟩), ?_⟩
    have e : kvs.isEmpty = ks.isEmpty := by rw [ek]; cases kvs <;> rfl
    rw [e]; exact h
  | fdc ks ts => exact h.elim

/-! built-in functions -/
def biV : BI → Value
  | .len => .builtin "len" | .abs => .builtin "abs" | .int => .type "int" | .bool => .type "bool" | .str => .type "str" | .list => .type "list" | .tuple => .type "tuple" | .all => .builtin "all" | .any => .builtin "any" | .dict => .type "dict"
def rListS : List V → Hp → VK → Prop := fun xs H Q => ∃ x : Str, xs = [.str x] ∧ x.length ≤ sizeLine ∧ ∀ p, H p = none → Q (.ref p) (upd H p (.lst (x.cps.toList.map fun c => V.str ⟨#[c]⟩)))
theorem signs_of : ∀ (l : List Nat) (us : List Value), us.length = l.length → (∀ (j : Nat) (v : Value), us[j]? = some v → ∃ c u, l[j]? = some c ∧ v = .str ⟨#[c]⟩ u) → Vals (l.map fun c => V.str ⟨#[c]⟩) us
  | [], us, hl, _ => by
    have : us = [] := List.length_eq_zero_iff.mp hl
    subst this; exact .nil
  | c :: l, [], hl, _ => by simp at hl
  | c :: l, u :: us, hl, h => by
    obtain ⟨c', t, e1, e2⟩ := h 0 u rfl
    simp at e1
    subst e1
    exact .cons ⟨t, e2⟩ (signs_of l us (by simpa using hl) fun j v e => by simpa using h (j + 1) v (by simpa using e))
theorem itemsOf_signs {x : Str} {acc : Array Value} (h : ItemsOf (SignAt x) acc x.cps.size) : Vals (x.cps.toList.map fun c => V.str ⟨#[c]⟩) acc.toList := by
  refine signs_of _ _ (by simpa using h.1) fun j v e => ?_
  obtain ⟨c, u, e1, e2⟩ := h.2 j v (by simpa using e)
  exact ⟨c, u, by simpa using e1, e2⟩
theorem call_list_strR {X : Cx} (hc : X.calm = true) : CallR X (.type "list") rListS := by
  intro pins s σ H xs us Q I r h
  obtain ⟨x, rfl, hz, q⟩ := h
  obtain ⟨u, rfl, t, rfl⟩ := vals1 r
  refine PySem.call_list_str (I.ok.hd hc) x t (fun h' tk acc' c' hk hS hacc => ?_) hz
  refine ⟨.ref s.heap.objs.size, _, I.laid (t' := tk) (o := .lst (x.cps.toList.map fun c => V.str ⟨#[c]⟩)) hk (Nat.le_refl _) ?_, rfl, q _ (I.hok.fresh (Nat.le_refl _))⟩
  exact ⟨by rw [List.length_map]; exact hz, acc'.toList, c', itemsOf_signs hacc, by simpa using hS⟩
/-- dict(xs) of pairs, locked at its making -/
def rDictF (K : PySem.W.Frag) : List V → Hp → VK → Prop := fun xs H Q => ∃ (a : Addr) (ps : List Addr) (kvs : List (Key × V)), xs = [.ref a] ∧ SqL K H a (ps.map V.ref) ∧ Paired (fun p kv => SqT K H p [kV kv.1, kv.2]) ps kvs ∧
  ∀ p o, H p = none → Q (.ref p) (upd H p (.frz o (.dK (mergeK [] kvs))))
theorem call_dictF {X : Cx} (hc : X.calm = true) : CallR X (.type "dict") (rDictF X.K) := by
  intro pins s σ H xs us Q I rv h
  obtain ⟨a, ps, kvs, e1, e2, e3, q⟩ := h
  refine thn (call_dictP hc pins s σ H xs us (fun v H1 => ∃ p, v = .ref p ∧ H p = none ∧ H1 = upd H p (.dK (mergeK [] kvs))) I rv ⟨a, ps, kvs, e1, e2, e3, fun p hp => ⟨p, rfl, hp, rfl⟩⟩) fun u s1 hh => ?_
  obtain ⟨v, H1, I1, r1, p, rfl, hp, rfl⟩ := hh
  obtain ⟨od, J⟩ := I1.lock (d := p) upd_same trivial
  rw [upd_upd] at J
  exact ⟨.ref p, _, J, r1, q p od hp⟩
theorem merge_nodup : ∀ {kvs acc : List (Key × V)}, ((acc ++ kvs).map (·.1)).Nodup → mergeK acc kvs = acc ++ kvs
  | [], acc, _ => by simp [mergeK]
  | p :: r, acc, h => by
    have e : mergeK acc (p :: r) = mergeK (putK acc p.1 p.2) r := rfl
    have hn : (acc.any fun kv => decide (kv.1 = p.1)) = false := by
      rw [List.any_eq_false]
      intro q hq
      simp only [decide_eq_true_eq]
      intro z
      rw [List.map_append, List.nodup_append] at h
      exact h.2.2 q.1 (List.mem_map_of_mem hq) p.1 (by simp) z
    have e2 : putK acc p.1 p.2 = acc ++ [p] := by
      unfold putK
      rw [hn]
      simp
    rw [e, e2, merge_nodup (by simpa using h)]
    simp
theorem key_ok {K : PySem.W.Frag} {H : Hp} {F : Addr → Prop} {k : T} {x : V} {k' : Key} (e : keyOf k = some k') (r : Rep K H F k x) : x = kV k' ∧ k = keyT k' := by
  cases k <;> simp only [keyOf, Option.some.injEq, reduceCtorEq] at e
  · subst e; obtain rfl := r; exact ⟨rfl, rfl⟩
  · subst e; obtain rfl := r; exact ⟨rfl, rfl⟩
theorem pairs_ok {K : PySem.W.Frag} {H : Hp} {F : Addr → Prop} : ∀ {ts : List T} {ws : List V} {kts : List (Key × T)}, pairsOf ts = some kts → Reps K H F ts ws →
    ∃ (ps : List Addr) (kvs : List (Key × V)), ws = ps.map V.ref ∧ Paired (fun p kv => SqT K H p [kV kv.1, kv.2]) ps kvs ∧ kvs.map (·.1) = kts.map (·.1) ∧ Reps K H F (kts.map (·.2)) (kvs.map (·.2))
  | [], ws, kts, e, r => by
    simp only [pairsOf, Option.some.injEq] at e
    subst e
    obtain rfl := r
    exact ⟨[], [], rfl, .nil, rfl, rfl⟩
  | t :: ts, ws, kts, e, r => by
    unfold pairsOf at e
    split at e
    · rename_i h1
      cases h1
    · rename_i k v r' h1
      cases h1
      split at e
      · rename_i k' l e1 e2
        cases e
        obtain ⟨w, wr, rfl, ⟨a, us, rfl, hq, r2⟩, r3⟩ := r
        obtain ⟨x1, u1, rfl, q1, x2, u2, rfl, q2, rfl⟩ := r2
        obtain ⟨rfl, rfl⟩ := key_ok e1 q1
        obtain ⟨ps, kvs, rfl, h2, h3, h4⟩ := pairs_ok e2 r3
        exact ⟨a :: ps, (k', x2) :: kvs, rfl, .cons hq h2, by simp [h3], x2, _, rfl, q2, h4⟩
      · cases e
    · cases e
def rBi (K : PySem.W.Frag) (id : BI) : List V → Hp → VK → Prop := match id with
  | .len => fun xs H Q => ∃ x n, xs = [x] ∧ LenV K x H n ∧ Q (.int n) H
  | .abs => fun xs H Q => ∃ i, xs = [.int i] ∧ Q (.int (if i < 0 then -i else i)) H
  | .int => fun xs H Q => ((∃ i, xs = [.int i] ∧ Q (.int i) H) ∨ ∃ k, xs = [.bl k] ∧ Q (.int (if k then 1 else 0)) H) ∨ (∃ a n, xs = [.str a] ∧ PySem.intText? a = some n ∧ a.length ≤ 640 ∧ Q (.int n) H)
  | .list => fun xs H Q => (∃ p ys, xs = [.ref p] ∧ (SqL K H p ys ∨ SqT K H p ys) ∧ ∀ l, H l = none → Q (.ref l) (upd H l (.lst ys))) ∨ rListS xs H Q ∨ rListD xs H Q
  | .tuple => fun xs H Q => ∃ p ys, xs = [.ref p] ∧ ((SqL K H p ys ∧ ∀ l, H l = none → Q (.ref l) (upd H l (.tup ys))) ∨ (SqT K H p ys ∧ Q (.ref p) H))
  | .all => rAll K
  | .dict => rDictF K
  | .any => rAny K
  | _ => fun _ _ _ => False
theorem CallR.or {X : Cx} {f : Value} {r r' : List V → Hp → VK → Prop} (h : CallR X f r) (h' : CallR X f r') : CallR X f (fun xs H Q => r xs H Q ∨ r' xs H Q) := by
  intro pins s σ H xs us Q I rv q
  rcases q with q | q
  · exact h pins s σ H xs us Q I rv q
  · exact h' pins s σ H xs us Q I rv q
theorem call_bi {X : Cx} (hc : X.calm = true) (id : BI) : CallR X (biV id) (rBi X.K id) := by
  cases id with
  | len => exact call_len
  | abs => exact call_abs
  | int => exact CallR.or call_int1 call_int_str
  | list => exact CallR.or call_list_of (CallR.or (call_list_strR hc) (call_list_dK hc))
  | tuple => exact call_tuple_of
  | all => exact cr_all hc
  | dict => exact call_dictF hc
  | any => exact cr_any hc
  | _ => exact fun _ _ _ _ _ _ _ _ _ h => h.elim
theorem bi_ok {id : BI} {tr : List T} {vs : List V} {QR : Res → Prop} (ha : Reps K H F tr vs) (h : biW id tr QR) (f : Fin K H F QR Q') : rBi K id vs H Q' := by
  unfold biW at h
  split at h
  · obtain ⟨v, r, rfl, h1, rfl⟩ := ha
    obtain rfl := h1
    exact ⟨_, _, rfl, ⟨h.1, rfl⟩, f.at_ _ _ h.2 rfl rfl⟩
  · obtain ⟨v, r, rfl, ⟨p, vs, rfl, hp, _, r1⟩, rfl⟩ := ha
    replace r1 := Reps.off r1
    exact ⟨_, _, rfl, .inl ⟨vs, SqL.of hp, rfl⟩, by rw [← r1.length]; exact f.at_ _ _ h rfl rfl⟩
  · obtain ⟨v, r, rfl, ⟨p, vs, rfl, hp, r1⟩, rfl⟩ := ha
    exact ⟨_, _, rfl, .inr ⟨vs, hp, rfl⟩, by rw [← r1.length]; exact f.at_ _ _ h rfl rfl⟩
  · obtain ⟨v, r, rfl, h1, rfl⟩ := ha
    obtain rfl := h1
    exact ⟨_, rfl, f.at_ _ _ h rfl rfl⟩
  · obtain ⟨v, r, rfl, h1, rfl⟩ := ha
    obtain rfl := h1
    exact .inl (.inl ⟨_, rfl, f.at_ _ _ h rfl rfl⟩)
  · obtain ⟨v, r, rfl, h1, rfl⟩ := ha
    obtain rfl := h1
    obtain ⟨hz, n, e, q⟩ := h
    exact .inr ⟨_, n, rfl, e, hz, f.at_ _ _ q rfl rfl⟩
  · obtain ⟨v, r, rfl, ⟨p, vs, rfl, hp, _, r1⟩, rfl⟩ := ha
    replace r1 := Reps.off r1
    exact .inl ⟨p, vs, rfl, .inl (SqL.of hp), fun l hl => f.nl _ _ _ h r1 hl⟩
  · obtain ⟨v, r, rfl, ⟨p, vs, rfl, hp, r1⟩, rfl⟩ := ha
    exact .inl ⟨p, vs, rfl, .inr hp, fun l hl => f.nl _ _ _ h r1 hl⟩
  · rename_i x
    obtain ⟨v, r, rfl, h1, rfl⟩ := ha
    obtain rfl := h1
    refine .inr (.inl ⟨_, rfl, h.1, fun p hp => f.nl _ _ _ h.2 ?_ hp⟩)
    have e1 : (x.cps.toList.map fun c => T.str ⟨#[c]⟩) = (x.cps.toList.map fun c => (⟨#[c]⟩ : Str)).map T.str := by rw [List.map_map]; rfl
    have e2 : (x.cps.toList.map fun c => V.str ⟨#[c]⟩) = (x.cps.toList.map fun c => (⟨#[c]⟩ : Str)).map V.str := by rw [List.map_map]; rfl
    rw [e1, e2]
    exact reps_strs _
  · obtain ⟨v, r, rfl, ⟨p, kvs, rfl, hp, _, ek, r1⟩, rfl⟩ := ha
    refine .inr (.inr ⟨p, kvs, rfl, hp, fun q hq => f.nl _ _ _ h ?_ hq⟩)
    rw [ek]
    exact reps_keys kvs
  · obtain ⟨v, r, rfl, ⟨p, vs, rfl, hp, _, r1⟩, rfl⟩ := ha
    replace r1 := Reps.off r1
    exact ⟨p, vs, rfl, .inl ⟨SqL.of hp, fun l hl => f.nt _ _ _ h r1 hl⟩⟩
  · obtain ⟨v, r, rfl, ⟨p, vs, rfl, hp, r1⟩, rfl⟩ := ha
    exact ⟨p, vs, rfl, .inr ⟨hp, f.sub _ _ h ⟨p, vs, rfl, hp, r1⟩⟩⟩
  · obtain ⟨v, r, rfl, ⟨p, vs, rfl, hp, _, r1⟩, rfl⟩ := ha
    replace r1 := Reps.off r1
    obtain ⟨kts, e, nd, q⟩ := h
    obtain ⟨ps, kvs, rfl, h2, h3, h4⟩ := pairs_ok e r1
    refine ⟨p, ps, kvs, rfl, SqL.of hp, h2, fun z o hz => ?_⟩
    have e5 : mergeK [] kvs = kvs := by rw [merge_nodup (by simpa [h3] using nd)]; rfl
    have e6 : (kts.map fun p => keyT p.1) = kvs.map fun p => keyT p.1 := by
      have z := congrArg (List.map keyT) h3
      simpa [List.map_map, Function.comp_def] using z.symm
    rw [e5]
    exact f.nf _ _ kvs z o q e6 h4 hz
  · obtain ⟨v, r, rfl, ⟨p, vs, rfl, hp, _, r1⟩, rfl⟩ := ha
    replace r1 := Reps.off r1
    obtain ⟨bs, e, q⟩ := h
    exact ⟨p, bs, rfl, SqL.of (by rw [← bls_ok e r1]; exact hp), f.at_ _ _ q rfl rfl⟩
  · obtain ⟨v, r, rfl, ⟨p, vs, rfl, hp, _, r1⟩, rfl⟩ := ha
    replace r1 := Reps.off r1
    obtain ⟨bs, e, q⟩ := h
    exact ⟨p, bs, rfl, SqL.of (by rw [← bls_ok e r1]; exact hp), f.at_ _ _ q rfl rfl⟩
  · exact h.elim

/-! methods of built-in types -/
def meN : ME → String × Str × String
  | .split => ("str", "split", "str.split") | .join => ("str", "join", "str.join") | .rstrip => ("str", "rstrip", "str.rstrip") | .isdigit => ("str", "isdigit", "str.isdigit") | .index => ("str", "index", "str.index")
  | .items => ("dict", "items", "dict.items")
def rIdx : V → List V → Hp → VK → Prop := fun x xs H Q => ∃ (a b : Str) (k : Nat), x = .str a ∧ xs = [.str b] ∧ Txt.index0 a b = some k ∧ Q (.int k) H
def rMe (K : PySem.W.Frag) (id : ME) : V → List V → Hp → VK → Prop := match id with
  | .split => fun x xs H Q => ∃ a b, x = .str a ∧ xs = [.str b] ∧ (b.length == 0) = false ∧ a.length + 2 ≤ sizeLine ∧ rNewStrs (Txt.split a b) H Q
  | .join => fun x xs H Q => ∃ a p, ∃ ys : List Str, x = .str a ∧ xs = [.ref p] ∧ (SqL K H p (ys.map V.str) ∨ SqT K H p (ys.map V.str)) ∧ (ys.map (·.length)).sum + ys.length * a.length ≤ 16777216 ∧ Q (.str (Txt.join a ys)) H
  | .rstrip => fun x xs H Q => ∃ a b, x = .str a ∧ xs = [.str b] ∧ a.length ≤ sizeLine ∧ Q (.str (Txt.rstripChars a b)) H
  | .isdigit => fun x xs H Q => ∃ a, x = .str a ∧ xs = [] ∧ True ∧ Q (.bl (Txt.isdigit a)) H
  | .index => rIdx
  | .items => fun _ _ _ _ => False
theorem mt_idx {X : Cx} (hc : X.calm = true) : MtR X "str.index" rIdx := by
  intro pins s σ H x xs v us Q I rx rs h
  obtain ⟨a, b, k, rfl, rfl, e, q⟩ := h
  have z := mt_indexX (X := X) (W := fun _ _ _ _ => False) hc takes0 pins s σ H (.str a) [.str b] v us Q I rx rs ⟨a, b, rfl, rfl, fun k' e' => ?_, fun e' => ?_⟩
  · exact z
  · rw [e] at e'; cases e'; exact q
  · rw [e] at e'; cases e'
theorem mt_me {X : Cx} (hc : X.calm = true) (id : ME) : MtR X (meN id).2.2 (rMe X.K id) := by
  cases id with
  | split => exact mt_split
  | join => exact mt_join
  | rstrip => exact mt_rstripChars
  | isdigit => exact mt_isdigit
  | index => exact mt_idx hc
  | items => exact fun _ _ _ _ _ _ _ _ _ _ _ _ h => h.elim
theorem me_ok {id : ME} {o : T} {x : V} {tr : List T} {vs : List V} {QR : Res → Prop} (ho : Rep K H F o x) (ha : Reps K H F tr vs) (h : meW id o tr QR) (f : Fin K H F QR Q') : tyV K (meN id).1 x H ∧ rMe K id x vs H Q' := by
  unfold meW at h
  split at h
  · obtain rfl := ho
    obtain ⟨v, r, rfl, h1, rfl⟩ := ha
    obtain rfl := h1
    exact ⟨rfl, _, _, rfl, rfl, h.1, h.2.1, fun p hp => f.nl _ _ _ h.2.2 (reps_strs _) hp⟩
  · obtain rfl := ho
    obtain ⟨v, r, rfl, ⟨p, vs, rfl, hp, _, r1⟩, rfl⟩ := ha
    replace r1 := Reps.off r1
    obtain ⟨ys, e, hz, q⟩ := h
    exact ⟨rfl, _, p, ys, rfl, rfl, .inl (SqL.of (by rw [← strs_ok e r1]; exact hp)), by rw [Nat.mul_comm]; exact hz, f.at_ _ _ q rfl rfl⟩
  · obtain rfl := ho
    obtain ⟨v, r, rfl, h1, rfl⟩ := ha
    obtain rfl := h1
    exact ⟨rfl, _, _, rfl, rfl, h.1, f.at_ _ _ h.2 rfl rfl⟩
  · obtain rfl := ho
    obtain rfl := ha
    exact ⟨rfl, _, rfl, rfl, trivial, f.at_ _ _ h rfl rfl⟩
  · obtain rfl := ho
    obtain ⟨v, r, rfl, h1, rfl⟩ := ha
    obtain rfl := h1
    obtain ⟨k, e, q⟩ := h
    exact ⟨rfl, _, _, k, rfl, rfl, e, f.at_ _ _ q rfl rfl⟩
  · exact h.elim

/-! isinstance -/
def kitsA : List String := ["NoneType", "bool", "int", "str", "tuple", "list", "dict"]
def kitsB : List String := ["int", "str", "bool", "list", "tuple", "dict"]
theorem kit_tab : (kitsA.all fun a => kitsB.all fun b => decide (kitB a b = some (a == b || (a == "bool" && b == "int")))) = true := by decide +kernel
theorem kit_one {a b : String} (ha : a ∈ kitsA) (hb : b ∈ kitsB) : PySem.W.kitOne K (.type a) (.type b) = some (a == b || (a == "bool" && b == "int")) :=
  kit_ty (of_decide_eq_true (List.all_eq_true.mp (List.all_eq_true.mp kit_tab a ha) b hb))
theorem kit_any {a : String} (ha : a ∈ kitsA) : ∀ {tys : List String}, (∀ y ∈ tys, y ∈ kitsB) → PySem.W.kitAny K (.type a) (tys.map Value.type) = some (tys.any fun y => a == y || (a == "bool" && y == "int"))
  | [], _ => rfl
  | y :: r, h => by
    refine kitAny_cons (kit_one ha (h y List.mem_cons_self)) (fun e => ?_) (fun e => ?_)
    · rw [kit_any ha (fun z hz => h z (List.mem_cons_of_mem _ hz))]
      simp only [List.any_cons, e, Bool.false_or]
    · simp only [List.any_cons, e, Bool.true_or]
theorem tyN_ok {n : String} (h : Rep K H F a x) (e : tyN a = some n) : TyX K H x (.type n) ∧ n ∈ kitsA := by
  cases a with
  | non => obtain rfl := h; simp [tyN] at e; subst e; exact ⟨.base .non, by decide⟩
  | bl b => obtain rfl := h; simp [tyN] at e; subst e; exact ⟨.base (.bl b), by decide⟩
  | int b => obtain rfl := h; simp [tyN] at e; subst e; exact ⟨.base (.int b), by decide⟩
  | str b => obtain rfl := h; simp [tyN] at e; subst e; exact ⟨.base (.str b), by decide⟩
  | opq b => simp [tyN] at e
  | tup ts =>
    obtain ⟨p, vs, rfl, hp, r⟩ := h
    simp [tyN] at e; subst e
    refine ⟨?_, by decide⟩
    rcases hp with (hp | ⟨o, hp⟩) | ⟨o, its, n, h1, h2, _⟩
    · exact .base (.tup hp)
    · exact .fTuple hp
    · exact .kTuple h1 h2
  | lst ts =>
    obtain ⟨p, vs, rfl, hp, _, r⟩ := h
    simp [tyN] at e; subst e
    exact ⟨.base (.lst hp), by decide⟩
  | dct ks ts =>
    obtain ⟨p, kvs, rfl, hp, _, r⟩ := h
    simp [tyN] at e; subst e
    exact ⟨.base (.dK hp), by decide⟩
  | fdc ks ts =>
    obtain ⟨p, o, kvs, rfl, hp, _, r⟩ := h
    simp [tyN] at e; subst e
    exact ⟨.fDict hp, by decide⟩
end
end Vs

-- Vs6
namespace Vs
open PySem L2

section
variable (b : Bx) (Γ : Gam b.g.G) (Ev : XK)
def ExR (W : Wit) (ε : VEnv) (S : b.g.G) (H : Hp) (Xc : KX b.g.G) : Prop :=
  ∀ x s S' d v H', Xc x s S' → Stp b.g S H S' H' → b.g.SI S' H' → H' d = some (.xd [(x.fld, v)]) → VOk b W ε S' H' v s → Ev (.ref x.cls) (some d) H'
def RdE (e : VE) : TE := fun σ H Q' => ∃ (W : Wit) (ε : VEnv) (hv : List (Option V)) (S : b.g.G) (Q : KV b.g.G) (Xc : KX b.g.G),
  σ.length = b.nN ∧ BOk b W ε (σ ++ hv) S H ∧ wE Γ e ε S Q Xc ∧ ExR b Ev W ε S H Xc ∧
  ∀ s v S' H', Q s S' → Stp b.g S H S' H' → BOk b W ε (σ ++ hv) S' H' → VOk b W ε S' H' v s → Q' v H'
def RdEs (es : VEs) : TA := fun σ H Q' => ∃ (W : Wit) (ε : VEnv) (hv : List (Option V)) (S : b.g.G) (Q : List SV → b.g.G → Prop) (Xc : KX b.g.G),
  σ.length = b.nN ∧ BOk b W ε (σ ++ hv) S H ∧ wEs Γ es ε S Q Xc ∧ ExR b Ev W ε S H Xc ∧
  ∀ ss vs S' H', Q ss S' → Stp b.g S H S' H' → BOk b W ε (σ ++ hv) S' H' → VOks b W ε S' H' vs ss → Q' vs H'
def RdT (c : VE) : TT := fun σ H Q' => ∃ (W : Wit) (ε : VEnv) (hv : List (Option V)) (S : b.g.G) (Q : Bool → b.g.G → Prop) (Xc : KX b.g.G),
  σ.length = b.nN ∧ BOk b W ε (σ ++ hv) S H ∧ wT Γ c ε S Q Xc ∧ ExR b Ev W ε S H Xc ∧
  ∀ k S' H', Q k S' → Stp b.g S H S' H' → BOk b W ε (σ ++ hv) S' H' → Q' k H'
end

section
variable {b : Bx} {Γ : Gam b.g.G} {Ev : XK} {W : Wit} {ε : VEnv} {σ : L2.St} {hv : List (Option V)} {S S' : b.g.G} {H H' : Hp} {Xc : KX b.g.G}
theorem ExR.step (h : ExR b Ev W ε S H Xc) (k : Stp b.g S H S' H') : ExR b Ev W ε S' H' Xc :=
  fun x s S2 d v H2 hx k2 => h x s S2 d v H2 hx (k.trans k2)
variable {Q' : VK} {QA : List V → Hp → Prop} {QT : Bool → Hp → Prop}
theorem atom {t : T} {v : V} (hr : Rep b.K H (fun _ => False) t v) (hi : imm t = true) : VOk b W ε S H v { t := t } := VOk.imm hr hi rfl
theorem joint1 {v : V} {s : SV} (h : VOk b W ε S H v s) : ∃ F, Joint b W ε S H F [v] [s] :=
  VOks.join (vs := [v]) (ss := [s]) ⟨s, [], rfl, h, rfl⟩
theorem joint2 {v u : V} {s t : SV} (h : VOk b W ε S H v s) (h' : VOk b W ε S H u t) : ∃ F, Joint b W ε S H F [v, u] [s, t] :=
  VOks.join (vs := [v, u]) (ss := [s, t]) ⟨s, [t], rfl, h, t, [], rfl, h', rfl⟩
theorem jointC {v : V} {vs : List V} {s : SV} {ss : List SV} (h : VOk b W ε S H v s) (h' : VOks b W ε S H vs ss) : ∃ F, Joint b W ε S H F (v :: vs) (s :: ss) :=
  VOks.join (vs := v :: vs) (ss := s :: ss) ⟨s, ss, rfl, h, h'⟩

theorem rd_v {i : Nat} (hi : i < b.nN) (h : RdE b Γ Ev (.v i) σ H Q') : tVar i σ H Q' := by
  obtain ⟨W, ε, hv, S, Q, Xc, hl, B, w, hx, k⟩ := h
  unfold wE at w
  split at w
  · rename_i s e
    obtain ⟨v, e1, ok⟩ := B.env.get e
    refine ⟨v, ?_, k s v S H w .refl B ok⟩
    rwa [List.getElem?_append_left (by omega)] at e1
  · exact w.elim
theorem rd_k {t : T} {v : V} (hr : ∀ H, Rep b.K H (fun _ => False) t v) (hi : imm t = true) (h : RdE b Γ Ev (.k t) σ H Q') : tC v σ H Q' := by
  obtain ⟨W, ε, hv, S, Q, Xc, hl, B, w, hx, k⟩ := h
  unfold wE at w
  exact k _ v S H w .refl B (atom (hr H) hi)
theorem rd_g {x : Nat} {v : V} (hr : ∀ H, Rep b.K H (fun _ => False) (Γ.con x) v) (hi : imm (Γ.con x) = true) (h : RdE b Γ Ev (.g x) σ H Q') : tC v σ H Q' := by
  obtain ⟨W, ε, hv, S, Q, Xc, hl, B, w, hx, k⟩ := h
  unfold wE at w
  exact k _ v S H w .refl B (atom (hr H) hi)
def tDnF : TE := fun _ H Q => ∀ p o, H p = none → Q (.ref p) (upd H p (.frz o (.dK [])))
theorem rd_dn (h : RdE b Γ Ev .dn σ H Q') : tDnF σ H Q' := by
  obtain ⟨W, ε, hv, S, Q, Xc, hl, B, w, hx, k⟩ := h
  unfold wE at w
  exact fun p o hp => k _ _ S _ w (.new hp) (B.new hp) (atom ⟨p, o, [], rfl, upd_same, rfl, rfl⟩ rfl)
/-- list(d.items()) of a dict that is not changed any more -/
def rItemsF : V → Hp → VK → Prop := fun x H Q => ∃ (d : Addr) (o : Obj) (kvs : List (Key × V)), x = .ref d ∧ H d = some (.frz o (.dK kvs)) ∧
  ∀ (H' : Hp) (p : Addr) (ts : List Addr), (∀ b u, H b = some u → H' b = some u) → H p = none → H' p = some (.lst (ts.map V.ref)) → Paired (fun (t : Addr) (q : Key × V) => H' t = some (.tup [kV q.1, q.2])) ts kvs → Q (.ref p) H'
theorem prs_ok {K : PySem.W.Frag} {H : Hp} {F : Addr → Prop} : ∀ {ts : List Addr} {kvs : List (Key × V)} {vs : List T}, Paired (fun (t : Addr) (q : Key × V) => H t = some (.tup [kV q.1, q.2])) ts kvs → Reps K H F vs (kvs.map (·.2)) →
    Reps K H F (prsT (kvs.map fun q => keyT q.1) vs) (ts.map V.ref)
  | _, _, vs, .nil, r => by
    cases vs with
    | nil => rfl
    | cons _ _ => obtain ⟨_, _, z, _⟩ := r; cases z
  | _, _, vs, .cons (a := t) (b := q) h hr, r => by
    cases vs with
    | nil => have z : _ = _ := r; cases z
    | cons v vs =>
      obtain ⟨x, ws, e, r1, r2⟩ := r
      cases e
      exact ⟨.ref t, _, rfl, ⟨t, _, rfl, .inl (.inl h), kV q.1, _, rfl, rep_kT q.1, q.2, [], rfl, r1, rfl⟩, prs_ok hr r2⟩
theorem rd_its {e : VE} (h : RdE b Γ Ev (.its e) σ H Q') : RdE b Γ Ev e σ H fun x H1 => rItemsF x H1 Q' := by
  obtain ⟨W, ε, hv, S, Q, Xc, hl, B, w, hx, k⟩ := h
  unfold wE at w
  refine ⟨W, ε, hv, S, _, Xc, hl, B, w, hx, fun x v S1 H1 w1 k1 B1 o1 => ?_⟩
  obtain ⟨F, p0, q⟩ := o1
  have rp := q.rep.rep
  split at w1
  · rename_i ks vs ex
    rw [ex] at rp
    obtain ⟨d, o, kvs, rfl, hd, rfl, r⟩ := rp
    refine ⟨d, o, kvs, rfl, hd, fun H' p ts kp hp hlist prs => ?_⟩
    have stp : Stp b.g S1 H1 S1 H' := ⟨fun a u e _ => kp a u e, fun _ z => .inl z, fun a u e => ⟨u, kp a u e⟩⟩
    have si : b.g.SI S1 H' := b.g.stab B1.si (fun a ha => by
      obtain ⟨u, e, _⟩ := b.g.trk B1.si ha
      rw [kp a u e, e]) fun a u _ e => kp a u e
    have rr : Reps b.K H' F (prsT (kvs.map fun q => keyT q.1) vs) (ts.map V.ref) := prs_ok prs (Reps.keep stp.imm (fun a f => ⟨f, fun u e => kp a u e⟩) _ _ r)
    have n0 : b.H0 p = none := B1.st.none hp
    have notF : ∀ a, F a → a ≠ p := fun a f z => by
      obtain ⟨u, e⟩ := q.ok.tr a f
      rw [z, hp] at e; cases e
    have out : ∀ i s', ε[i]? = some (some s') → ¬ W.F i p := fun i s' e f => by
      obtain ⟨u, e'⟩ := (B1.env.ok i s' e).tr p f
      rw [hp] at e'; cases e'
    have outp : ∀ i s', ε[i]? = some (some s') → s'.own = true → p ≠ W.p i := fun i s' e ho z => by
      obtain ⟨v', _, r'⟩ := B1.env.at_ i s' e
      unfold RepS at r'
      rw [if_pos ho] at r'
      exact out i s' e (z ▸ r'.2.1)
    have prs0 : p ∉ W.rs := fun hm => by
      obtain ⟨u, e⟩ := B1.rt p hm
      rw [hp] at e; cases e
    have nA : ¬ b.g.SA S1 p := Glo.notSA B1.si hp
    have ok2 := q.ok.step stp
    refine k _ _ S1 H' w1 (k1.trans stp) (B1.step stp si) ?_
    unfold mkL
    split
    · rename_i him
      refine ⟨fun a => a = p, p, ?_, ⟨fun a f => f ▸ nA, fun a f => ⟨_, f ▸ hlist⟩, fun _ a f => f ▸ n0, fun a f => .inl (f ▸ n0)⟩, fun _ => n0, fun a f => f ▸ prs0, fun j s' e => ⟨fun _ => ⟨out j s' e, outp j s' e⟩, fun _ a f => f ▸ out j s' e⟩⟩
      unfold RepS
      rw [if_pos rfl]
      exact ⟨rfl, rfl, _, hlist, Reps.keep KeepI.refl (fun a f => f.elim) _ _ (Reps.imm0 him rr)⟩
    · refine ⟨fun a => F a ∨ a = p, p, ?_, ⟨fun a f => f.elim (ok2.ap a) fun f => f ▸ nA, fun a f => f.elim (ok2.tr a) fun f => ⟨_, f ▸ hlist⟩, fun hf a f => f.elim (q.ok.nw hf a) fun f => f ▸ n0, fun a f => f.elim (q.ok.src a) fun f => .inl (f ▸ n0)⟩,
        fun _ => n0, fun a f => f.elim (q.rs a) fun f => f ▸ prs0, fun j s' e => ⟨fun _ => ⟨out j s' e, outp j s' e⟩, fun hj a f => f.elim ((q.pr j s' e).2 hj a) fun f => f ▸ out j s' e⟩⟩
      unfold RepS
      rw [if_pos rfl]
      exact ⟨rfl, .inr rfl, _, hlist, Reps.keep KeepI.refl (fun a f => ⟨⟨.inl f, notF a f⟩, fun _ z => z⟩) _ _ rr⟩
  · exact w1.elim
/-- two expressions, then an operation on their values -/
theorem rd_two {e : VE} {a c : VE} {r : R2} {P : SV → SV → b.g.G → KV b.g.G → Prop} (he : ∀ ε S Q X, wE Γ e ε S Q X → wE Γ a ε S (fun x S1 => wE Γ c ε S1 (fun y S2 => P x y S2 Q) X) X)
    (hp : ∀ W ε S H (σx : L2.St) x y v u Q (Q' : VK), BOk b W ε σx S H → VOk b W ε S H v x → VOk b W ε S H u y → P x y S Q → (∀ s v H', Q s S → Stp b.g S H S H' → b.g.SI S H' → VOk b W ε S H' v s → Q' v H') → r v u H Q')
    (h : RdE b Γ Ev e σ H Q') : tOp r (RdE b Γ Ev a) (RdE b Γ Ev c) σ H Q' := by
  obtain ⟨W, ε, hv, S, Q, Xc, hl, B, w, hx, k⟩ := h
  refine ⟨W, ε, hv, S, _, Xc, hl, B, he ε S Q Xc w, hx, fun x v S1 H1 w1 k1 B1 o1 => ?_⟩
  refine ⟨W, ε, hv, S1, _, Xc, hl, B1, w1, hx.step k1, fun y u S2 H2 w2 k2 B2 o2 => ?_⟩
  exact hp W ε S2 H2 _ x y v u Q Q' B2 (o1.step k2) o2 w2 fun s z H3 q k3 si o => k s z S2 H3 q ((k1.trans k2).trans k3) (B2.step k3 si) o
theorem rd_bin {op : Operator} {a c : VE} (h : RdE b Γ Ev (.bin op a c) σ H Q') : tOp (rBin b.K op) (RdE b Γ Ev a) (RdE b Γ Ev c) σ H Q' :=
  rd_two (P := fun x y S Q => binW op x.t y.t fun r => Q (resV [x, y] r) S) (fun ε S Q X w => by unfold wE at w; exact w) (fun W ε S H σx x y v u Q Q' B o1 o2 p f => by
    obtain ⟨F, j⟩ := joint2 o1 o2
    obtain ⟨v1, r1, e1, q1, v2, r2, e2, q2, e3⟩ := j.rep
    cases e1
    cases e2
    exact bin_ok q1 q2 p (fin_of (Q := fun s => Q s S) B j fun s v H' q k si o => f s v H' q k si o)) h
theorem rd_cmp {op : CmpOp} {a c : VE} (h : RdE b Γ Ev (.cmp op a c) σ H Q') : tOp (rCmp b.K op) (RdE b Γ Ev a) (RdE b Γ Ev c) σ H Q' :=
  rd_two (P := fun x y S Q => cmpW op x.t y.t fun k => Q { t := .bl k } S) (fun ε S Q X w => by unfold wE at w; exact w) (fun W ε S H σx x y v u Q Q' B o1 o2 p f => by
    obtain ⟨F, j⟩ := joint2 o1 o2
    obtain ⟨v1, r1, e1, q1, v2, r2, e2, q2, e3⟩ := j.rep
    cases e1
    cases e2
    exact cmp_ok q1 q2 p fun k q => f _ _ H q .refl B.si (atom rfl rfl)) h
theorem rd_ix {a c : VE} (h : RdE b Γ Ev (.ix a c) σ H Q') : tOp (rIx b.K) (RdE b Γ Ev a) (RdE b Γ Ev c) σ H Q' :=
  rd_two (P := fun x y S Q => ixW x.t y.t fun r => Q (resV [x, y] r) S) (fun ε S Q X w => by unfold wE at w; exact w) (fun W ε S H σx x y v u Q Q' B o1 o2 p f => by
    obtain ⟨F, j⟩ := joint2 o1 o2
    obtain ⟨v1, r1, e1, q1, v2, r2, e2, q2, e3⟩ := j.rep
    cases e1
    cases e2
    exact ix_ok q1 q2 p (fin_of (Q := fun s => Q s S) B j fun s v H' q k si o => f s v H' q k si o)) h
theorem rd_neg {a : VE} (h : RdE b Γ Ev (.neg a) σ H Q') : tUn (rU fun i => .int (-i)) (RdE b Γ Ev a) σ H Q' := by
  obtain ⟨W, ε, hv, S, Q, Xc, hl, B, w, hx, k⟩ := h
  unfold wE at w
  refine ⟨W, ε, hv, S, _, Xc, hl, B, w, hx, fun x v S1 H1 w1 k1 B1 o1 => ?_⟩
  obtain ⟨F, r⟩ := o1.rep
  revert w1 r
  cases x.t with
  | int i =>
    intro w1 r
    exact ⟨i, r, k _ _ S1 H1 w1 k1 B1 (atom rfl rfl)⟩
  | _ => intro w1; exact w1.elim
theorem tru_use {s : SV} {v : V} {QB : Bool → Prop} (o : VOk b W ε S H v s) (h : truT s.t QB) : ∃ k, TruV b.K v H k ∧ QB k :=
  let ⟨_, r⟩ := o.rep
  tru_of r h
theorem rd_not {a : VE} (h : RdE b Γ Ev (.not a) σ H Q') : tNotT b.K (RdE b Γ Ev a) σ H Q' := by
  obtain ⟨W, ε, hv, S, Q, Xc, hl, B, w, hx, k⟩ := h
  unfold wE at w
  refine ⟨W, ε, hv, S, _, Xc, hl, B, w, hx, fun x v S1 H1 w1 k1 B1 o1 => ?_⟩
  obtain ⟨c, e, q⟩ := tru_use o1 w1
  exact ⟨c, e, k _ _ S1 H1 q k1 B1 (atom rfl rfl)⟩
theorem VOk.plain {s : SV} {v : V} (h : VOk b W ε S H v s) : VOk b W ε S H v { s with own := false } := by
  obtain ⟨F, p, q⟩ := h
  exact ⟨F, p, RepS.plain q.rep.rep rfl, q.ok, (fun z => by cases z), q.rs, fun j s' e => ⟨(fun z => by cases z), (q.pr j s' e).2⟩⟩
theorem rd_and {a c : VE} (h : RdE b Γ Ev (.and a c) σ H Q') : tAndT b.K (RdE b Γ Ev a) (RdE b Γ Ev c) σ H Q' := by
  obtain ⟨W, ε, hv, S, Q, Xc, hl, B, w, hx, k⟩ := h
  unfold wE at w
  refine ⟨W, ε, hv, S, _, Xc, hl, B, w, hx, fun x v S1 H1 w1 k1 B1 o1 => ?_⟩
  obtain ⟨c, e, q⟩ := tru_use o1 w1
  refine ⟨c, e, ?_⟩
  cases c with
  | true => exact ⟨W, ε, hv, S1, _, Xc, hl, B1, q, hx.step k1, fun y u S2 H2 w2 k2 B2 o2 => k _ _ S2 H2 w2 (k1.trans k2) B2 o2⟩
  | false => exact k _ _ S1 H1 q k1 B1 o1.plain
theorem rd_or {a c : VE} (h : RdE b Γ Ev (.or a c) σ H Q') : tOrT b.K (RdE b Γ Ev a) (RdE b Γ Ev c) σ H Q' := by
  obtain ⟨W, ε, hv, S, Q, Xc, hl, B, w, hx, k⟩ := h
  unfold wE at w
  refine ⟨W, ε, hv, S, _, Xc, hl, B, w, hx, fun x v S1 H1 w1 k1 B1 o1 => ?_⟩
  obtain ⟨c, e, q⟩ := tru_use o1 w1
  refine ⟨c, e, ?_⟩
  cases c with
  | false => exact ⟨W, ε, hv, S1, _, Xc, hl, B1, q, hx.step k1, fun y u S2 H2 w2 k2 B2 o2 => k _ _ S2 H2 w2 (k1.trans k2) B2 o2⟩
  | true => exact k _ _ S1 H1 q k1 B1 o1.plain
theorem rd_ife {c a d : VE} (h : RdE b Γ Ev (.ife c a d) σ H Q') : tIf (RdT b Γ Ev c) (RdE b Γ Ev a) (RdE b Γ Ev d) σ H Q' := by
  obtain ⟨W, ε, hv, S, Q, Xc, hl, B, w, hx, k⟩ := h
  unfold wE at w
  refine ⟨W, ε, hv, S, _, Xc, hl, B, w, hx, fun c S1 H1 w1 k1 B1 => ?_⟩
  cases c with
  | true => exact ⟨W, ε, hv, S1, _, Xc, hl, B1, w1, hx.step k1, fun y u S2 H2 w2 k2 B2 o2 => k _ _ S2 H2 w2 (k1.trans k2) B2 o2⟩
  | false => exact ⟨W, ε, hv, S1, _, Xc, hl, B1, w1, hx.step k1, fun y u S2 H2 w2 k2 B2 o2 => k _ _ S2 H2 w2 (k1.trans k2) B2 o2⟩
theorem rds_nil (h : RdEs b Γ Ev .nil σ H QA) : tNil σ H QA := by
  obtain ⟨W, ε, hv, S, Q, Xc, hl, B, w, hx, k⟩ := h
  unfold wEs at w
  exact k [] [] S H w .refl B rfl
theorem rds_cons {e : VE} {r : VEs} (h : RdEs b Γ Ev (.cons e r) σ H QA) : tCons (RdE b Γ Ev e) (RdEs b Γ Ev r) σ H QA := by
  obtain ⟨W, ε, hv, S, Q, Xc, hl, B, w, hx, k⟩ := h
  unfold wEs at w
  refine ⟨W, ε, hv, S, _, Xc, hl, B, w, hx, fun x v S1 H1 w1 k1 B1 o1 => ?_⟩
  refine ⟨W, ε, hv, S1, _, Xc, hl, B1, w1, hx.step k1, fun ss vs S2 H2 w2 k2 B2 o2 => ?_⟩
  exact k _ _ S2 H2 w2 (k1.trans k2) B2 ⟨_, ss, rfl, (o1.step k2).cl, o2⟩
theorem rd_tup {es : VEs} (h : RdE b Γ Ev (.tup es) σ H Q') : tTup (RdEs b Γ Ev es) σ H Q' := by
  obtain ⟨W, ε, hv, S, Q, Xc, hl, B, w, hx, k⟩ := h
  unfold wE at w
  refine ⟨W, ε, hv, S, _, Xc, hl, B, w, hx, fun ss vs S1 H1 w1 k1 B1 o1 => ?_⟩
  refine ⟨by rw [o1.length]; exact w1.1, fun p hp => ?_⟩
  exact k _ _ S1 _ w1.2 (k1.trans (.new hp)) (B1.new hp) (o1.tup hp).cl
theorem rd_lst {es : VEs} (h : RdE b Γ Ev (.lst es) σ H Q') : tLst (RdEs b Γ Ev es) σ H Q' := by
  obtain ⟨W, ε, hv, S, Q, Xc, hl, B, w, hx, k⟩ := h
  unfold wE at w
  refine ⟨W, ε, hv, S, _, Xc, hl, B, w, hx, fun ss vs S1 H1 w1 k1 B1 o1 => ?_⟩
  refine ⟨by rw [o1.length]; exact w1.1, fun p hp => ?_⟩
  obtain ⟨F, j⟩ := o1.join
  exact k _ _ S1 _ w1.2 (k1.trans (.new hp)) (B1.new hp) (mkL_ok B1 j hp j.rep fun _ z => z)
theorem rd_bi {id : BI} {es : VEs} (h : RdE b Γ Ev (.bi id es) σ H Q') : tCB (rBi b.K id) (RdEs b Γ Ev es) σ H Q' := by
  obtain ⟨W, ε, hv, S, Q, Xc, hl, B, w, hx, k⟩ := h
  unfold wE at w
  refine ⟨W, ε, hv, S, _, Xc, hl, B, w, hx, fun ss vs S1 H1 w1 k1 B1 o1 => ?_⟩
  obtain ⟨F, j⟩ := o1.join
  exact bi_ok j.rep w1 (fin_of (Q := fun s => Q s S1) B1 j fun s v H' q k2 si o => k s v S1 H' q (k1.trans k2) (B1.step k2 si) o)
theorem recv_ok {id : ME} {o : T} {x : V} (h : recvT id o = true) {F : Addr → Prop} (r : Rep b.K H F o x) : tyV b.K (meN id).1 x H := by
  cases id <;> cases o <;> simp only [recvT, Bool.false_eq_true] at h
  case items.dct =>
    obtain ⟨a, kvs, rfl, e, _⟩ := r
    first
      | exact .inl ⟨rfl, .inl ⟨kvs, e⟩⟩
      | exact .inr (.inr (.inl ⟨rfl, .inl ⟨kvs, e⟩⟩))
      | exact .inr (.inr (.inl ⟨rfl, kvs, e⟩))
      | exact .inl ⟨rfl, kvs, e⟩
  all_goals
    obtain rfl := r
    rfl
theorem rd_me {id : ME} {o : VE} {es : VEs} (h : RdE b Γ Ev (.me id o es) σ H Q') :
    tBM b.K (meN id).1 (rMe b.K id) (RdE b Γ Ev o) (RdEs b Γ Ev es) σ H Q' := by
  obtain ⟨W, ε, hv, S, Q, Xc, hl, B, w, hx, k⟩ := h
  unfold wE at w
  refine ⟨W, ε, hv, S, _, Xc, hl, B, w, hx, fun x v S1 H1 w1 k1 B1 o1 => ?_⟩
  obtain ⟨w0, w1⟩ := w1
  refine ⟨let ⟨_, r⟩ := o1.rep; recv_ok w0 r, ?_⟩
  refine ⟨W, ε, hv, S1, _, Xc, hl, B1, w1, hx.step k1, fun ss vs S2 H2 w2 k2 B2 o2 => ?_⟩
  obtain ⟨F, j⟩ := jointC (o1.step k2) o2
  obtain ⟨v1, r1, e1, q1, q2⟩ := j.rep
  cases e1
  exact (me_ok q1 q2 w2 (fin_of (Q := fun s => Q s S2) B2 j fun s v H' q k3 si o => k s v S2 H' q ((k1.trans k2).trans k3) (B2.step k3 si) o)).2
theorem rd_isi {tys : List String} {a : VE} (h : RdE b Γ Ev (.isi tys a) σ H Q') :
    RdE b Γ Ev a σ H fun x H1 => ∃ n k, n ∈ kitsA ∧ k = (tys.any fun y => n == y || (n == "bool" && y == "int")) ∧ ∀ H2, (H2 = H1 ∨ ∃ p vs, H1 p = none ∧ H2 = upd H1 p (.tup vs)) → TyX b.K H2 x (.type n) ∧ Q' (.bl k) H2 := by
  obtain ⟨W, ε, hv, S, Q, Xc, hl, B, w, hx, k⟩ := h
  unfold wE at w
  refine ⟨W, ε, hv, S, _, Xc, hl, B, w, hx, fun x v S1 H1 w1 k1 B1 o1 => ?_⟩
  unfold isiW at w1
  split at w1
  · rename_i n e
    have h0 : ∀ H2, VOk b W ε S1 H2 v x → TyX b.K H2 v (.type n) ∧ n ∈ kitsA := fun H2 o => let ⟨_, r⟩ := o.rep; tyN_ok r e
    refine ⟨n, _, (h0 _ o1).2, rfl, fun H2 hH => ?_⟩
    rcases hH with rfl | ⟨p, vs, hp, rfl⟩
    · exact ⟨(h0 _ o1).1, k _ _ S1 H2 w1 k1 B1 (atom rfl rfl)⟩
    · exact ⟨(h0 _ (o1.step (.new hp))).1, k _ _ S1 _ w1 (k1.trans (.new hp)) (B1.new hp) (atom rfl rfl)⟩
  · exact w1.elim
theorem rd_call {f : Nat} {es : VEs} (h : RdE b Γ Ev (.call f es) σ H Q') : RdEs b Γ Ev es σ H fun vs H1 => spC b.K b.g (Γ.ar f) (Γ.fn f) vs H1 Q' Ev := by
  obtain ⟨W, ε, hv, S, Q, Xc, hl, B, w, hx, k⟩ := h
  unfold wE at w
  refine ⟨W, ε, hv, S, _, Xc, hl, B, w, hx, fun ss vs S1 H1 w1 k1 B1 o1 => ?_⟩
  obtain ⟨hn, hp, hq, he⟩ := w1
  exact call_con B1 o1 hn hp (fun t own fr S2 hpost v H2 k2 si o => k _ v S2 H2 (hq t own fr S2 hpost) (k1.trans k2) (B1.step k2 si) o)
    fun x t S2 hexc d v H2 k2 si hd o => hx x _ S2 d v H2 (he x t S2 hexc) (k1.trans k2) si hd o
def partsOf (l h : Bool) (es : VEs) : Option (Option VE × Option VE) := match l, h, es with
  | false, false, .nil => some (none, none)
  | true, false, .cons x .nil => some (some x, none)
  | false, true, .cons y .nil => some (none, some y)
  | true, true, .cons x (.cons y .nil) => some (some x, some y)
  | _, _, _ => none
def tOpt (o : Option VE) (b : Bx) (Γ : Gam b.g.G) (Ev : XK) : TO := match o with
  | none => tNoPart
  | some e => tPart (RdE b Γ Ev e)
theorem cut_use {x : V} {s : SV} {lo hi : Option Int} {Q : KV b.g.G} (B : BOk b W ε (σ ++ hv) S H) (o1 : VOk b W ε S H x s) (h : cutW s.t lo hi fun r => Q (resV [s] r) S)
    (k : ∀ s v H', Q s S → Stp b.g S H S H' → b.g.SI S H' → VOk b W ε S H' v s → Q' v H') : rSl b.K x lo hi H Q' := by
  obtain ⟨F, j⟩ := joint1 o1
  have f := fin_of (Q := fun s => Q s S) (Q' := Q') B j fun s v H' q k3 si o => k s v H' q k3 si o
  obtain ⟨v1, r1, e3, q1, q2⟩ := j.rep
  cases e3
  have q1 : Rep b.K H F s.t x := q1
  revert h q1
  cases s.t with
  | str z =>
    intro h q1
    obtain rfl := q1
    exact .inl ⟨z, rfl, h.1, f.at_ _ _ h.2 rfl rfl⟩
  | lst xs =>
    intro h q1
    obtain ⟨p, ws, rfl, hp, _, r⟩ := q1
    exact .inr ⟨p, ws, rfl, SqL.of hp, fun q hq => f.nl _ _ _ h (cut_ok r.off _ _) hq⟩
  | _ => intro h; exact h.elim
theorem int_use {e : VE} {r : VEs} {Q : List Int → b.g.G → Prop} {K : Option Int → Hp → Prop} (hl : σ.length = b.nN) (B : BOk b W ε (σ ++ hv) S H) (w : wIs Γ (.cons e r) ε S Q Xc) (hx : ExR b Ev W ε S H Xc)
    (k : ∀ i S' H', wIs Γ r ε S' (fun is S2 => Q (i :: is) S2) Xc → Stp b.g S H S' H' → BOk b W ε (σ ++ hv) S' H' → K (some i) H') : tPart (RdE b Γ Ev e) σ H K := by
  unfold wIs at w
  refine ⟨W, ε, hv, S, _, Xc, hl, B, w, hx, fun y u S2 H2 w2 k2 B2 o2 => ?_⟩
  obtain ⟨F, q⟩ := o2.rep
  revert w2 q
  cases y.t with
  | int i =>
    intro w2 q
    exact ⟨i, q, k i S2 H2 w2 k2 B2⟩
  | _ => intro w2; exact w2.elim
theorem rd_sl {l hh : Bool} {a : VE} {es : VEs} {lo hi : Option VE} (hp : partsOf l hh es = some (lo, hi)) (h : RdE b Γ Ev (.sl l hh a es) σ H Q') :
    tSl (rSl b.K) (RdE b Γ Ev a) (tOpt lo b Γ Ev) (tOpt hi b Γ Ev) σ H Q' := by
  obtain ⟨W, ε, hv, S, Q, Xc, hl, B, w, hx, k⟩ := h
  unfold wE at w
  refine ⟨W, ε, hv, S, _, Xc, hl, B, w, hx, fun x v S1 H1 w1 k1 B1 o1 => ?_⟩
  unfold partsOf at hp
  split at hp
  · cases hp
    unfold wIs at w1
    exact cut_use B1 o1 w1 fun s z H2 q k2 si o => k s z S1 H2 q (k1.trans k2) (B1.step k2 si) o
  · cases hp
    simp only [tOpt]
    refine int_use hl B1 w1 (hx.step k1) fun i S2 H2 w2 k2 B2 => ?_
    unfold wIs at w2
    exact cut_use B2 (o1.step k2) w2 fun s z H3 q k3 si o => k s z S2 H3 q ((k1.trans k2).trans k3) (B2.step k3 si) o
  · cases hp
    simp only [tOpt, tNoPart]
    refine int_use hl B1 w1 (hx.step k1) fun i S2 H2 w2 k2 B2 => ?_
    unfold wIs at w2
    exact cut_use B2 (o1.step k2) w2 fun s z H3 q k3 si o => k s z S2 H3 q ((k1.trans k2).trans k3) (B2.step k3 si) o
  · cases hp
    simp only [tOpt]
    refine int_use hl B1 w1 (hx.step k1) fun i S2 H2 w2 k2 B2 => ?_
    skip
    refine int_use hl B2 w2 (hx.step (k1.trans k2)) fun i2 S3 H3 w3 k3 B3 => ?_
    unfold wIs at w3
    exact cut_use B3 ((o1.step k2).step k3) w3 fun s z H4 q k4 si o => k s z S3 H4 q (((k1.trans k2).trans k3).trans k4) (B3.step k4 si) o
  · cases hp
/-! ### tests -/
theorem rt_not {a : VE} (h : RdT b Γ Ev (.not a) σ H QT) : tNot (RdT b Γ Ev a) σ H QT := by
  obtain ⟨W, ε, hv, S, Q, Xc, hl, B, w, hx, k⟩ := h
  unfold wT at w
  exact ⟨W, ε, hv, S, _, Xc, hl, B, w, hx, fun c S1 H1 w1 k1 B1 => k _ S1 H1 w1 k1 B1⟩
theorem rt_and {a c : VE} (h : RdT b Γ Ev (.and a c) σ H QT) : tAnd (RdT b Γ Ev a) (RdT b Γ Ev c) σ H QT := by
  obtain ⟨W, ε, hv, S, Q, Xc, hl, B, w, hx, k⟩ := h
  unfold wT at w
  refine ⟨W, ε, hv, S, _, Xc, hl, B, w, hx, fun c S1 H1 w1 k1 B1 => ?_⟩
  cases c with
  | true => exact ⟨W, ε, hv, S1, _, Xc, hl, B1, w1, hx.step k1, fun c S2 H2 w2 k2 B2 => k c S2 H2 w2 (k1.trans k2) B2⟩
  | false => exact k _ S1 H1 w1 k1 B1
theorem rt_or {a c : VE} (h : RdT b Γ Ev (.or a c) σ H QT) : tOr (RdT b Γ Ev a) (RdT b Γ Ev c) σ H QT := by
  obtain ⟨W, ε, hv, S, Q, Xc, hl, B, w, hx, k⟩ := h
  unfold wT at w
  refine ⟨W, ε, hv, S, _, Xc, hl, B, w, hx, fun c S1 H1 w1 k1 B1 => ?_⟩
  cases c with
  | false => exact ⟨W, ε, hv, S1, _, Xc, hl, B1, w1, hx.step k1, fun c S2 H2 w2 k2 B2 => k c S2 H2 w2 (k1.trans k2) B2⟩
  | true => exact k _ S1 H1 w1 k1 B1
/-- where a test's reading is its expression's, then truth -/
theorem rt_val {e : VE} (he : ∀ ε S Q X, wT Γ e ε S Q X → wE Γ e ε S (fun s S1 => truT s.t fun k => Q k S1) X) (h : RdT b Γ Ev e σ H QT) :
    RdE b Γ Ev e σ H fun x H' => ∃ k, TruV b.K x H' k ∧ QT k H' := by
  obtain ⟨W, ε, hv, S, Q, Xc, hl, B, w, hx, k⟩ := h
  refine ⟨W, ε, hv, S, _, Xc, hl, B, he ε S Q Xc w, hx, fun x v S1 H1 w1 k1 B1 o1 => ?_⟩
  obtain ⟨c, e, q⟩ := tru_use o1 w1
  exact ⟨c, e, k _ S1 H1 q k1 B1⟩
theorem rt_cmp {op : CmpOp} {a c : VE} (h : RdT b Γ Ev (.cmp op a c) σ H QT) : tTest (tOp (rCmp b.K op) (RdE b Γ Ev a) (RdE b Γ Ev c)) σ H QT := by
  obtain ⟨W, ε, hv, S, Q, Xc, hl, B, w, hx, k⟩ := h
  unfold wT at w
  refine ⟨W, ε, hv, S, _, Xc, hl, B, w, hx, fun x v S1 H1 w1 k1 B1 o1 => ?_⟩
  refine ⟨W, ε, hv, S1, _, Xc, hl, B1, w1, hx.step k1, fun y u S2 H2 w2 k2 B2 o2 => ?_⟩
  obtain ⟨F, j⟩ := joint2 (o1.step k2) o2
  obtain ⟨v1, r1, e1, q1, v2, r2, e2, q2, e3⟩ := j.rep
  cases e1
  cases e2
  exact cmp_ok q1 q2 w2 fun c q => ⟨c, rfl, k _ S2 H2 q (k1.trans k2) B2⟩
theorem rt_chain {o1 o2 : CmpOp} {a c d : VE} (h : RdT b Γ Ev (.chain o1 o2 a c d) σ H QT) : tTest (tChain (rCmp b.K o1) (rCmp b.K o2) (RdE b Γ Ev a) (RdE b Γ Ev c) (RdE b Γ Ev d)) σ H QT := by
  obtain ⟨W, ε, hv, S, Q, Xc, hl, B, w, hx, k⟩ := h
  unfold wT at w
  refine ⟨W, ε, hv, S, _, Xc, hl, B, w, hx, fun x v S1 H1 w1 k1 B1 p1 => ?_⟩
  refine ⟨W, ε, hv, S1, _, Xc, hl, B1, w1, hx.step k1, fun y u S2 H2 w2 k2 B2 p2 => ?_⟩
  obtain ⟨F, j⟩ := joint2 (p1.step k2) p2
  obtain ⟨v1, r1, e1, q1, v2, r2, e2, q2, e3⟩ := j.rep
  cases e1
  cases e2
  refine cmp_ok q1 q2 w2 fun c q => ⟨c, rfl, ?_⟩
  cases c with
  | false => exact ⟨false, rfl, k _ S2 H2 q (k1.trans k2) B2⟩
  | true =>
    refine ⟨W, ε, hv, S2, _, Xc, hl, B2, q, hx.step (k1.trans k2), fun z t S3 H3 w3 k3 B3 p3 => ?_⟩
    obtain ⟨F, j⟩ := joint2 (p2.step k3) p3
    obtain ⟨v1, r1, e1, q1, v2, r2, e2, q2, e3⟩ := j.rep
    cases e1
    cases e2
    exact cmp_ok q1 q2 w3 fun c q => ⟨c, rfl, k _ S3 H3 q ((k1.trans k2).trans k3) B3⟩
theorem rd_chain {o1 o2 : CmpOp} {a c d : VE} (h : RdE b Γ Ev (.chain o1 o2 a c d) σ H Q') : tChain (rCmp b.K o1) (rCmp b.K o2) (RdE b Γ Ev a) (RdE b Γ Ev c) (RdE b Γ Ev d) σ H Q' := by
  obtain ⟨W, ε, hv, S, Q, Xc, hl, B, w, hx, k⟩ := h
  unfold wE at w
  refine ⟨W, ε, hv, S, _, Xc, hl, B, w, hx, fun x v S1 H1 w1 k1 B1 p1 => ?_⟩
  refine ⟨W, ε, hv, S1, _, Xc, hl, B1, w1, hx.step k1, fun y u S2 H2 w2 k2 B2 p2 => ?_⟩
  obtain ⟨F, j⟩ := joint2 (p1.step k2) p2
  obtain ⟨v1, r1, e1, q1, v2, r2, e2, q2, e3⟩ := j.rep
  cases e1
  cases e2
  refine cmp_ok q1 q2 w2 fun c q => ⟨c, rfl, ?_⟩
  cases c with
  | false => exact k _ _ S2 H2 q (k1.trans k2) B2 (atom rfl rfl)
  | true =>
    refine ⟨W, ε, hv, S2, _, Xc, hl, B2, q, hx.step (k1.trans k2), fun z t S3 H3 w3 k3 B3 p3 => ?_⟩
    obtain ⟨F, j⟩ := joint2 (p2.step k3) p3
    obtain ⟨v1, r1, e1, q1, v2, r2, e2, q2, e3⟩ := j.rep
    cases e1
    cases e2
    exact cmp_ok q1 q2 w3 fun c q => k _ _ S3 H3 q ((k1.trans k2).trans k3) B3 (atom rfl rfl)
end
end Vs

-- Vs7
namespace Vs
open PySem L2

/-- all but the places of L is as it was -/
structure Agr (L : List Nat) (W : Wit) (ε : VEnv) (W' : Wit) (ε' : VEnv) : Prop where
  len : ε'.length = ε.length
  rs : W'.rs = W.rs
  ag : ∀ j, j ∉ L → W'.F j = W.F j ∧ W'.p j = W.p j ∧ ∀ s', ε'[j]? = some (some s') → ∃ s, ε[j]? = some (some s) ∧ s.own = s'.own
  al : ∀ j, j ∉ L → ∀ s, ε[j]? = some (some s) → ∃ s', ε'[j]? = some (some s') ∧ s'.own = s.own
theorem Agr.trans {L M : List Nat} {W W1 W2 : Wit} {ε ε1 ε2 : VEnv} (a : Agr L W ε W1 ε1) (c : Agr M W1 ε1 W2 ε2) : Agr (L ++ M) W ε W2 ε2 := by
  refine ⟨c.len.trans a.len, c.rs.trans a.rs, fun j hj => ?_, fun j hj s e => ?_⟩
  · simp only [List.mem_append, not_or] at hj
    obtain ⟨a1, a2, a3⟩ := a.ag j hj.1
    obtain ⟨c1, c2, c3⟩ := c.ag j hj.2
    refine ⟨c1.trans a1, c2.trans a2, fun s' e => ?_⟩
    obtain ⟨s1, e1, o1⟩ := c3 s' e
    obtain ⟨s0, e0, o0⟩ := a3 s1 e1
    exact ⟨s0, e0, o0.trans o1⟩
  · simp only [List.mem_append, not_or] at hj
    obtain ⟨s1, e1, o1⟩ := a.al j hj.1 s e
    obtain ⟨s2, e2, o2⟩ := c.al j hj.2 s1 e1
    exact ⟨s2, e2, o2.trans o1⟩
section
variable {b : Bx}
theorem mark_al {i : Nat} {D : List Nat} : ∀ {ε : VEnv} {k j : Nat} {s : SV}, ε[j]? = some (some s) → ∃ s', (mark i D k ε)[j]? = some (some s') ∧ s'.own = s.own ∧ s'.t = s.t
  | [], _, _, _, h => by simp at h
  | none :: r, k, 0, s, h => by simp at h
  | none :: r, k, j + 1, s, h => by
    obtain ⟨s', e, o⟩ := mark_al (i := i) (D := D) (k := k + 1) (ε := r) (j := j) (by simpa using h)
    exact ⟨s', by simpa [mark] using e, o⟩
  | some s0 :: r, k, 0, s, h => by
    have : s0 = s := by simpa using h
    subst this
    refine ⟨_, by simp [mark]; rfl, ?_⟩
    split <;> exact ⟨rfl, rfl⟩
  | some s0 :: r, k, j + 1, s, h => by
    obtain ⟨s', e, o⟩ := mark_al (i := i) (D := D) (k := k + 1) (ε := r) (j := j) (by simpa using h)
    exact ⟨s', by simpa [mark] using e, o⟩
theorem setV_al {ε : VEnv} {i j : Nat} {s s0 : SV} (hj : j ≠ i) (h : ε[j]? = some (some s0)) : ∃ s', (setV ε i s)[j]? = some (some s') ∧ s'.own = s0.own ∧ s'.t = s0.t := by
  unfold setV
  split
  · exact ⟨s0, by rw [List.getElem?_set_ne (Ne.symm hj)]; exact h, rfl, rfl⟩
  · rename_i d ds _
    obtain ⟨s', e, o⟩ := mark_al (i := i) (D := d :: ds) (k := 0) h
    exact ⟨s', by rw [List.getElem?_set_ne (Ne.symm hj)]; exact e, o⟩
end
/-- stores at the places of L alone -/
def Sto (L : List Nat) (σ σ' : L2.St) : Prop := σ'.length = σ.length ∧ ∀ vs : List Nat, (∀ i ∈ L, i ∈ vs) → wipe σ' vs = wipe σ vs
theorem Sto.trans {L M : List Nat} {σ σ1 σ2 : L2.St} (a : Sto L σ σ1) (c : Sto M σ1 σ2) : Sto (L ++ M) σ σ2 :=
  ⟨c.1.trans a.1, fun vs h => (c.2 vs fun i hi => h i (List.mem_append_right _ hi)).trans (a.2 vs fun i hi => h i (List.mem_append_left _ hi))⟩
theorem wipe_set {σ : L2.St} {i : Nat} {x : Option V} : ∀ {vs : List Nat}, i ∈ vs → wipe (σ.set i x) vs = wipe σ vs
  | v :: vs, h => by
    unfold wipe
    by_cases hi : i ∈ vs
    · rw [wipe_set hi]
    · have e : v = i := by
        rcases List.mem_cons.mp h with e | e
        · exact e.symm
        · exact absurd e hi
      subst e
      have q : ∀ (ws : List Nat), v ∉ ws → wipe (σ.set v x) ws = (wipe σ ws).set v x := by
        intro ws
        induction ws with
        | nil => intro _; rfl
        | cons u us ih =>
          intro hu
          simp only [List.mem_cons, not_or] at hu
          unfold wipe
          rw [ih hu.2, List.set_comm _ _ (fun z => hu.1 z)]
      rw [q vs hi, List.set_set]
theorem Sto.set {σ : L2.St} {i : Nat} {x : Option V} : Sto [i] σ (σ.set i x) :=
  ⟨by simp, fun vs h => wipe_set (h i (by simp))⟩

section
variable (b : Bx)
def RdG (u : VT) : TG := fun v σ H Q => ∃ (W : Wit) (ε : VEnv) (hv : List (Option V)) (S : b.g.G) (s : SV) (K : VEnv → Prop),
  σ.length = b.nN ∧ BOk b W ε (σ ++ hv) S H ∧ VOk b W ε S H v s ∧ wG u s ε K ∧
  ∀ W' ε' σ', K ε' → BOk b W' ε' (σ' ++ hv) S H → Agr (slotsT u) W ε W' ε' → Sto (slotsT u) σ σ' → Q σ' H
def RdGs (us : VTs) : TGs := fun vs σ H Q => ∃ (W : Wit) (ε : VEnv) (hv : List (Option V)) (S : b.g.G) (xs : List T) (fr : Bool) (D : List Nat) (F : Addr → Prop) (K : VEnv → Prop),
  σ.length = b.nN ∧ BOk b W ε (σ ++ hv) S H ∧ Reps b.K H F xs vs ∧ Okay b S H F fr ∧ (∀ a, F a → a ∉ W.rs) ∧ (∀ j s', ε[j]? = some (some s') → j ∉ D → ∀ a, F a → ¬ W.F j a) ∧ wGs us xs fr D ε K ∧
  ∀ W' ε' σ', K ε' → BOk b W' ε' (σ' ++ hv) S H → Agr (slotsTs us) W ε W' ε' → Sto (slotsTs us) σ σ' → Q σ' H
end
section
variable {b : Bx} {Γ : Gam b.g.G} {Ev : XK} {W : Wit} {ε : VEnv} {σ : L2.St} {hv : List (Option V)} {S S' : b.g.G} {H H' : Hp} {Xc : KX b.g.G} {v : V} {vs : List V} {Qg : L2.St → Hp → Prop}
theorem rg_nm {i : Nat} (hi : i < b.nN) (h : RdG b (.nm i) v σ H Qg) : gName i v σ H Qg := by
  obtain ⟨W, ε, hv, S, s, K, hl, B, o, w, k⟩ := h
  unfold wG at w
  obtain ⟨F, p, q⟩ := o.cl
  have e := B.env.set1 (i := i) (by rw [List.length_append]; omega) q
  rw [List.set_append_left _ _ (by omega)] at e
  refine k (W.set i F p) _ _ w ⟨e, B.st, B.si, B.rt⟩ ⟨setV_length, rfl, fun j hj => ?_, fun j hj s0 e0 => ?_⟩ Sto.set
  · have hj' : j ≠ i := fun z => hj (by simp [slotsT, z])
    refine ⟨Wit.neF hj', Wit.nep hj', fun s' es => ?_⟩
    rcases setV_get es with ⟨z, _⟩ | ⟨_, s0, d, _, o0, _⟩
    · exact absurd z hj'
    · exact ⟨s0, d, o0.symm⟩
  · have hj' : j ≠ i := fun z => hj (by simp [slotsT, z])
    obtain ⟨s', e', o', _⟩ := setV_al (s := s.cl) hj' e0
    exact ⟨s', e', o'⟩
theorem rgs_nil (h : RdGs b .nil vs σ H Qg) : gNil vs σ H Qg := by
  obtain ⟨W, ε, hv, S, xs, fr, D, F, K, hl, B, r, ok, rs, pr, w, k⟩ := h
  cases xs with
  | nil =>
    unfold wGs at w
    obtain rfl := r
    exact ⟨rfl, k W ε σ w B ⟨rfl, rfl, fun j _ => ⟨rfl, rfl, fun s' e => ⟨s', e, rfl⟩⟩, fun j _ s e => ⟨s, e, rfl⟩⟩ ⟨rfl, fun _ _ => rfl⟩⟩
  | cons x xs => unfold wGs at w; exact w.elim
theorem rgs_cons {u : VT} {us : VTs} (h : RdGs b (.cons u us) vs σ H Qg) : gCons (RdG b u) (RdGs b us) vs σ H Qg := by
  obtain ⟨W, ε, hv, S, xs, fr, D, F, K, hl, B, r, ok, rs, pr, w, k⟩ := h
  cases xs with
  | nil => unfold wGs at w; exact w.elim
  | cons x xs =>
    unfold wGs at w
    obtain ⟨v, ws, rfl, r1, r2⟩ := r
    refine ⟨v, ws, rfl, W, ε, hv, S, _, _, hl, B, ?_, w, fun W1 ε1 σ1 w1 B1 a1 t1 => ?_⟩
    · exact VOk.cl ⟨F, 0, RepS.plain r1 rfl, ok, (fun z => by cases z), rs, fun j s' e => ⟨(fun z => by cases z), pr j s' e⟩⟩
    · refine ⟨W1, ε1, hv, S, xs, fr, slotsT u ++ D, F, K, t1.1.trans hl, B1, r2, ok, (by rw [a1.rs]; exact rs), fun j s' e hj a f => ?_, w1, fun W2 ε2 σ2 w2 B2 a2 t2 => ?_⟩
      · simp only [List.mem_append, not_or] at hj
        obtain ⟨q1, q2, q3⟩ := a1.ag j hj.1
        obtain ⟨s0, e0, _⟩ := q3 s' e
        rw [q1]
        exact pr j s0 e0 hj.2 a f
      · exact k W2 ε2 σ2 w2 B2 (a1.trans a2) (t1.trans t2)
theorem rg_tp {us : VTs} (h : RdG b (.tp us) v σ H Qg) : gTup b.K (vtLen us) (RdGs b us) v σ H Qg := by
  obtain ⟨W, ε, hv, S, s, K, hl, B, ⟨F, p, o⟩, w, k⟩ := h
  unfold wG at w
  split at w
  · rename_i xs ht
    have r := o.rep.rep
    rw [ht] at r
    obtain ⟨a, ws, rfl, hq, r⟩ := r
    refine ⟨a, ws, rfl, hq, r.length.symm.trans w.1, W, ε, hv, S, xs, s.fr, s.D, F, K, hl, B, r, o.ok, o.rs, fun j s' e => (o.pr j s' e).2, w.2, k⟩
  · exact w.elim

/-! ### what is walked -/
structure WalkT (K : PySem.W.Frag) (Hs : Hp) (J : It) (sv : List (T × V)) (items : List T) : Prop where
  go : ∀ i H, KeepI Hs H → (∀ p ∈ sv, ∃ F, Rep K H F p.1 p.2) → i < items.length → J.go i H
  stop : ∀ i H, KeepI Hs H → (∀ p ∈ sv, ∃ F, Rep K H F p.1 p.2) → items.length ≤ i → J.stop i H
  yld : ∀ i H F x H', KeepI Hs H → (∀ p ∈ sv, Rep K H F p.1 p.2) → i < items.length → J.yld i H x H' → ∃ t, items[i]? = some t ∧
    ((H' = H ∧ Rep K H F t x) ∨ ∃ p vs tr, t = .tup tr ∧ x = .ref p ∧ H p = none ∧ H' = upd H p (.tup vs) ∧ Reps K H F tr vs)
def SV2 (σ : L2.St) : List (Nat × T) → List (T × V) → Prop
  | [], sv => sv = []
  | (h, t) :: r, sv => ∃ v q, sv = (t, v) :: q ∧ σ[h]? = some (some v) ∧ SV2 σ r q
structure Ext (W : Wit) (ε : VEnv) (W1 : Wit) (ε1 : VEnv) : Prop where
  rs : W1.rs = W.rs
  al : ∀ j s, ε[j]? = some (some s) → W1.F j = W.F j ∧ W1.p j = W.p j ∧ ∃ s', ε1[j]? = some (some s') ∧ s'.own = s.own
theorem VOk.narrow {W1 : Wit} {ε1 : VEnv} {s : SV} (h : VOk b W1 ε1 S H v s) (x : Ext W ε W1 ε1) : VOk b W ε S H v s := by
  obtain ⟨F, p, q⟩ := h
  refine ⟨F, p, q.rep, q.ok, q.nw, (by rw [← x.rs]; exact q.rs), fun j s' e => ?_⟩
  obtain ⟨f1, f2, s1, e1, o1⟩ := x.al j s' e
  have z := q.pr j s1 e1
  rw [f1, f2, o1] at z
  exact z
theorem ExR.wide {W1 : Wit} {ε1 : VEnv} (h : ExR b Ev W ε S H Xc) (x : Ext W ε W1 ε1) : ExR b Ev W1 ε1 S H Xc :=
  fun e s S' d v H' hx k si hd o => h e s S' d v H' hx k si hd (o.narrow x)
theorem Ext.refl : Ext W ε W ε := ⟨rfl, fun j s e => ⟨rfl, rfl, s, e, rfl⟩⟩
theorem Ext.trans {W1 W2 : Wit} {ε1 ε2 : VEnv} (a : Ext W ε W1 ε1) (c : Ext W1 ε1 W2 ε2) : Ext W ε W2 ε2 := by
  refine ⟨c.rs.trans a.rs, fun j s e => ?_⟩
  obtain ⟨a1, a2, s1, e1, o1⟩ := a.al j s e
  obtain ⟨c1, c2, s2, e2, o2⟩ := c.al j s1 e1
  exact ⟨c1.trans a1, c2.trans a2, s2, e2, o2.trans o1⟩
theorem push_al {ε : VEnv} {j : Nat} {s s0 : SV} (h : ε[j]? = some (some s0)) : ∃ s', (push ε s)[j]? = some (some s') ∧ s'.own = s0.own ∧ s'.t = s0.t := by
  have hj := (List.getElem?_eq_some_iff.mp h).1
  exact setV_al (by omega) (by rw [List.getElem?_append_left hj]; exact h)
theorem push_self {ε : VEnv} {s : SV} : (push ε s)[ε.length]? = some (some s) := by
  unfold push setV
  split
  · rw [List.getElem?_set_self (by simp)]
  · rw [List.getElem?_set_self (by rw [mark_length]; simp)]
theorem push_length {ε : VEnv} {s : SV} : (push ε s).length = ε.length + 1 := by
  unfold push
  rw [setV_length]; simp
theorem BOk.push (B : BOk b W ε σ S H) {s : SV} (o : VOk b W ε S H v s) : ∃ W1, BOk b W1 (Vs.push ε s) (σ ++ [some v]) S H ∧ Ext W ε W1 (Vs.push ε s) := by
  obtain ⟨F, p, q⟩ := o
  refine ⟨W.set ε.length F p, ⟨B.env.push1 q, B.st, B.si, B.rt⟩, rfl, fun j s0 e => ?_⟩
  have hj := (List.getElem?_eq_some_iff.mp e).1
  obtain ⟨s', e', o', _⟩ := push_al (s := s) e
  exact ⟨Wit.neF (by omega), Wit.nep (by omega), s', e', o'⟩
/-- what the sources tell at a turn -/
theorem src_ok (B : BOk b W ε σ S H) : ∀ {hs : List (Nat × T)} {sv : List (T × V)}, SV2 σ hs sv → hidE ε hs →
    ∃ F, (∀ p ∈ sv, Rep b.K H F p.1 p.2) ∧ Okay b S H F (hidF ε hs) ∧ (∀ a, F a → a ∉ W.rs) ∧ ∀ j s', ε[j]? = some (some s') → j ∉ hidD ε hs → ∀ a, F a → ¬ W.F j a
  | [], sv, e, _ => by
    obtain rfl := e
    exact ⟨fun _ => False, fun p hp => absurd hp (by simp), ⟨fun _ q => q.elim, fun _ q => q.elim, fun _ _ q => q.elim, fun _ q => q.elim⟩, fun _ q => q.elim, fun _ _ _ _ _ q => q.elim⟩
  | (h, t) :: r, sv, ⟨v, q, e, ev, e2⟩, hh => by
    subst e
    unfold hidE at hh
    obtain ⟨h1, h2⟩ := hh
    obtain ⟨F2, a1, a2, a3, a4⟩ := src_ok B e2 h2
    split at h1
    · rename_i s hs
      subst h1
      obtain ⟨v', e', rp⟩ := B.env.at_ h s hs
      rw [ev] at e'
      cases e'
      have okh := B.env.ok h s hs
      refine ⟨fun a => W.F h a ∨ F2 a, fun p hp => ?_, ⟨fun a f => f.elim (okh.ap a) (a2.ap a), fun a f => f.elim (okh.tr a) (a2.tr a), fun hf a f => ?_, fun a f => f.elim (okh.src a) (a2.src a)⟩, fun a f => f.elim (B.env.rs h s hs a) (a3 a), fun j s' ej hj a f => ?_⟩
      · rcases List.mem_cons.mp hp with rfl | hp
        · exact Rep.keep KeepI.refl (fun a f => ⟨.inl f, fun _ z => z⟩) _ _ rp.rep
        · exact Rep.keep KeepI.refl (fun a f => ⟨.inr f, fun _ z => z⟩) _ _ (a1 p hp)
      · unfold hidF at hf
        rw [hs] at hf
        have hf' : s.fr = true ∧ hidF ε r = true := by simpa using hf
        exact f.elim (okh.nw hf'.1 a) (a2.nw hf'.2 a)
      · unfold hidD at hj
        rw [hs] at hj
        simp only [List.mem_cons, List.mem_append, not_or] at hj
        rcases f with f | f
        · exact (B.env.pr h s j s' hs ej (fun z => hj.1 z.symm)).2 hj.2.1 a f
        · exact a4 j s' ej hj.2.2 a f
    · exact h1.elim
theorem item_ok {J : It} {hs : List (Nat × T)} {sv : List (T × V)} {items : List T} {i : Nat} {x : V} (B : BOk b W ε σ S H) (e : SV2 σ hs sv) (hh : hidE ε hs) {Hs : Hp} (w : WalkT b.K Hs J sv items) (ki : KeepI Hs H) (hi : i < items.length) (y : J.yld i H x H') :
    ∃ t, items[i]? = some t ∧ Stp b.g S H S H' ∧ BOk b W ε σ S H' ∧ VOk b W ε S H' x (itemV ε hs t) := by
  obtain ⟨F, a1, a2, a3, a4⟩ := src_ok B e hh
  obtain ⟨t, et, q⟩ := w.yld i H F x H' ki a1 hi y
  refine ⟨t, et, ?_⟩
  rcases q with ⟨rfl, r⟩ | ⟨p, ws, tr, rfl, rfl, hp, rfl, r⟩
  · exact ⟨.refl, B, VOk.cl ⟨F, 0, RepS.plain r rfl, a2, (fun z => by cases z), a3, fun j s' ej => ⟨(fun z => by cases z), a4 j s' ej⟩⟩⟩
  · have k : Stp b.g S H S (upd H p (.tup ws)) := .new hp
    refine ⟨k, B.new hp, VOk.cl ⟨F, 0, RepS.plain ⟨p, ws, rfl, .inl (.inl upd_same), Reps.keep k.imm (fun a f => ⟨f, a2.at_ k a f⟩) _ _ r⟩ rfl, a2.step k, (fun z => by cases z), a3, fun j s' ej => ⟨(fun z => by cases z), a4 j s' ej⟩⟩⟩
theorem src_some (B : BOk b W ε σ S H) {hs : List (Nat × T)} {sv : List (T × V)} (e : SV2 σ hs sv) (hh : hidE ε hs) : ∀ p ∈ sv, ∃ F, Rep b.K H F p.1 p.2 := fun p hp => by
  obtain ⟨F, a1, _⟩ := src_ok B e hh
  exact ⟨F, a1 p hp⟩
end
end Vs

-- Vs8
namespace Vs
open PySem L2

/-! ### walks over trees -/
section
variable {K : PySem.W.Frag} {a c : Addr} {xs ys : List T}
theorem walkT_list : WalkT K Hs (Itl K a) [(.lst xs, .ref a)] xs where
  go := fun i H _ h hi => by
    obtain ⟨F, a', vs, e, hp, _, r⟩ := h _ List.mem_cons_self
    cases e
    have hl := r.length
    exact ⟨vs, vs[i]'(by omega), SqL.of hp, List.getElem?_eq_getElem _⟩
  stop := fun i H _ h hi => by
    obtain ⟨F, a', vs, e, hp, _, r⟩ := h _ List.mem_cons_self
    cases e
    exact ⟨vs, SqL.of hp, by rw [← r.length]; exact hi⟩
  yld := fun i H F x H' _ h hi y => by
    obtain ⟨a', vs, e, hp, _, r⟩ := h _ List.mem_cons_self
    cases e
    obtain ⟨e1, y⟩ := y
    obtain ⟨t, et, q⟩ := r.get' (y vs (SqL.of hp))
    replace q := Rep.off q
    exact ⟨t, et, .inl ⟨e1, q⟩⟩
theorem walkT_keys {Hs : Hp} {d : Addr} {o : Obj} {kvs : List (Key × V)} {vs : List T} (h0 : Hs d = some (.frz o (.dK kvs))) : WalkT K Hs (Itk d o kvs) [(.fdc (kvs.map fun q => keyT q.1) vs, .ref d)] (kvs.map fun q => keyT q.1) where
  go := fun i H ki h hi => ⟨ki _ _ trivial h0, by simpa using hi⟩
  stop := fun i H ki h hi => ⟨ki _ _ trivial h0, by simpa using hi⟩
  yld := fun i H F x H' ki h hi y => by
    obtain ⟨rfl, k, v, e, rfl⟩ := y
    refine ⟨keyT k, by rw [List.getElem?_map, e]; rfl, .inl ⟨rfl, rep_kT k⟩⟩
theorem walkT_tup : WalkT K Hs (Itt K a) [(.tup xs, .ref a)] xs where
  go := fun i H _ h hi => by
    obtain ⟨F, a', vs, e, hp, r⟩ := h _ List.mem_cons_self
    cases e
    have hl := r.length
    exact ⟨vs, vs[i]'(by omega), hp, List.getElem?_eq_getElem _⟩
  stop := fun i H _ h hi => by
    obtain ⟨F, a', vs, e, hp, r⟩ := h _ List.mem_cons_self
    cases e
    exact ⟨vs, hp, by rw [← r.length]; exact hi⟩
  yld := fun i H F x H' _ h hi y => by
    obtain ⟨a', vs, e, hp, r⟩ := h _ List.mem_cons_self
    cases e
    obtain ⟨e1, y⟩ := y
    obtain ⟨t, et, q⟩ := r.get' (y vs hp)
    exact ⟨t, et, .inl ⟨e1, q⟩⟩
theorem walkT_str {z : Str} : WalkT K Hs (Its z) [(.str z, .str z)] (z.cps.toList.map fun c => .str ⟨#[c]⟩) where
  go := fun i H _ h hi => by
    show i < z.cps.size
    simpa using hi
  stop := fun i H _ h hi => by
    show z.cps.size ≤ i
    simpa using hi
  yld := fun i H F x H' _ h hi y => by
    obtain ⟨e1, c, ec, ex⟩ := y
    refine ⟨.str ⟨#[c]⟩, ?_, .inl ⟨e1, ex⟩⟩
    rw [List.getElem?_map]
    simp [ec]
theorem rngT_length : ∀ (n : Nat) (lo : Int), (rngT lo n).length = n
  | 0, _ => rfl
  | n + 1, lo => by simp [rngT, rngT_length n]
theorem rngT_get : ∀ (n : Nat) (lo : Int) (i : Nat), i < n → (rngT lo n)[i]? = some (.int (lo + i))
  | n + 1, lo, 0, _ => by simp [rngT]
  | n + 1, lo, i + 1, h => by
    have e : lo + 1 + (i : Int) = lo + ((i + 1 : Nat) : Int) := by omega
    simp only [rngT, List.getElem?_cons_succ]
    rw [rngT_get n (lo + 1) i (by omega), e]
theorem walkT_rng {lo : Int} {n : Nat} : WalkT K Hs (Itr lo n) [] (rngT lo n) where
  go := fun i H _ h hi => by rw [rngT_length] at hi; exact hi
  stop := fun i H _ h hi => by rw [rngT_length] at hi; exact hi
  yld := fun i H F x H' _ h hi y => by
    obtain ⟨e1, ex⟩ := y
    rw [rngT_length] at hi
    exact ⟨_, rngT_get n lo i hi, .inl ⟨e1, ex⟩⟩
theorem enumT_length : ∀ (xs : List T) (n : Nat), (enumT n xs).length = xs.length
  | [], _ => rfl
  | x :: r, n => by simp [enumT, enumT_length r]
theorem enumT_get : ∀ (xs : List T) (n i : Nat) (t : T), xs[i]? = some t → (enumT n xs)[i]? = some (.tup [.int ((n + i : Nat) : Int), t])
  | [], _, _, _, h => by simp at h
  | x :: r, n, 0, t, h => by simp at h; subst h; simp [enumT]
  | x :: r, n, i + 1, t, h => by
    simp only [enumT, List.getElem?_cons_succ]
    rw [enumT_get r (n + 1) i t (by simpa using h), show n + 1 + i = n + (i + 1) by omega]
theorem walkT_enum : WalkT K Hs (Ite K a) [(.lst xs, .ref a)] (enumT 0 xs) where
  go := fun i H _ h hi => by
    obtain ⟨F, a', vs, e, hp, _, r⟩ := h _ List.mem_cons_self
    cases e
    have hl := r.length
    rw [enumT_length] at hi
    exact ⟨vs, vs[i]'(by omega), SqL.of hp, List.getElem?_eq_getElem _⟩
  stop := fun i H _ h hi => by
    obtain ⟨F, a', vs, e, hp, _, r⟩ := h _ List.mem_cons_self
    cases e
    rw [enumT_length] at hi
    exact ⟨vs, SqL.of hp, by rw [← r.length]; exact hi⟩
  yld := fun i H F x H' _ h hi y => by
    obtain ⟨a', vs, e, hp, _, r⟩ := h _ List.mem_cons_self
    cases e
    obtain ⟨p, z, ex, hn, e1, y⟩ := y
    obtain ⟨t, et, q⟩ := r.get' (y vs (SqL.of hp))
    replace q := Rep.off q
    refine ⟨_, enumT_get xs 0 i t et, .inr ⟨p, _, _, rfl, ex, hn, e1, ?_⟩⟩
    rw [Nat.zero_add]
    exact ⟨_, _, rfl, rfl, _, _, rfl, q, rfl⟩
theorem zipT_length : ∀ (xs ys : List T), (zipT xs ys).length = min xs.length ys.length
  | [], ys => by simp [zipT]
  | x :: r, [] => by simp [zipT]
  | x :: r, y :: q => by simp [zipT, zipT_length r q]
theorem zipT_get : ∀ (xs ys : List T) (i : Nat) (t u : T), xs[i]? = some t → ys[i]? = some u → (zipT xs ys)[i]? = some (.tup [t, u])
  | [], _, _, _, _, h, _ => by simp at h
  | _ :: _, [], _, _, _, _, h => by simp at h
  | x :: r, y :: q, 0, t, u, h, h' => by simp at h h'; subst h; subst h'; simp [zipT]
  | x :: r, y :: q, i + 1, t, u, h, h' => by
    simp only [zipT, List.getElem?_cons_succ]
    exact zipT_get r q i t u (by simpa using h) (by simpa using h')
theorem walkT_zip : WalkT K Hs (Itz K a c) [(.lst xs, .ref a), (.lst ys, .ref c)] (zipT xs ys) where
  go := fun i H _ h hi => by
    obtain ⟨F, a', vs, e, hp, _, r⟩ := h _ List.mem_cons_self
    obtain ⟨F2, a2, ws, e2, hq, _, r2⟩ := h _ (List.mem_cons_of_mem _ List.mem_cons_self)
    cases e
    cases e2
    have hl := r.length
    have hl2 := r2.length
    rw [zipT_length] at hi
    exact ⟨vs, ws, vs[i]'(by omega), ws[i]'(by omega), SqL.of hp, SqL.of hq, List.getElem?_eq_getElem _, List.getElem?_eq_getElem _⟩
  stop := fun i H _ h hi => by
    obtain ⟨F, a', vs, e, hp, _, r⟩ := h _ List.mem_cons_self
    obtain ⟨F2, a2, ws, e2, hq, _, r2⟩ := h _ (List.mem_cons_of_mem _ List.mem_cons_self)
    cases e
    cases e2
    have hl := r.length
    have hl2 := r2.length
    rw [zipT_length] at hi
    exact ⟨vs, ws, SqL.of hp, SqL.of hq, by omega⟩
  yld := fun i H F x H' _ h hi y => by
    obtain ⟨a', vs, e, hp, _, r⟩ := h _ List.mem_cons_self
    obtain ⟨a2, ws, e2, hq, _, r2⟩ := h _ (List.mem_cons_of_mem _ List.mem_cons_self)
    cases e
    cases e2
    obtain ⟨p, z, z2, ex, hn, e1, y1, y2⟩ := y
    obtain ⟨t, et, q⟩ := r.get' (y1 vs (SqL.of hp))
    obtain ⟨u, eu, q2⟩ := r2.get' (y2 ws (SqL.of hq))
    replace q := Rep.off q
    replace q2 := Rep.off q2
    exact ⟨_, zipT_get xs ys i t u et eu, .inr ⟨p, _, _, rfl, ex, hn, e1, _, _, rfl, q, _, _, rfl, q2, rfl⟩⟩
theorem walkT_zipT : WalkT K Hs (RZ.ItzT K a c) [(.tup xs, .ref a), (.tup ys, .ref c)] (zipT xs ys) where
  go := fun i H _ h hi => by
    obtain ⟨F, a', vs, e, hp, r⟩ := h _ List.mem_cons_self
    obtain ⟨F2, a2, ws, e2, hq, r2⟩ := h _ (List.mem_cons_of_mem _ List.mem_cons_self)
    cases e
    cases e2
    have hl := r.length
    have hl2 := r2.length
    rw [zipT_length] at hi
    exact ⟨vs, ws, vs[i]'(by omega), ws[i]'(by omega), hp, hq, List.getElem?_eq_getElem _, List.getElem?_eq_getElem _⟩
  stop := fun i H _ h hi => by
    obtain ⟨F, a', vs, e, hp, r⟩ := h _ List.mem_cons_self
    obtain ⟨F2, a2, ws, e2, hq, r2⟩ := h _ (List.mem_cons_of_mem _ List.mem_cons_self)
    cases e
    cases e2
    have hl := r.length
    have hl2 := r2.length
    rw [zipT_length] at hi
    exact ⟨vs, ws, hp, hq, by omega⟩
  yld := fun i H F x H' _ h hi y => by
    obtain ⟨a', vs, e, hp, r⟩ := h _ List.mem_cons_self
    obtain ⟨a2, ws, e2, hq, r2⟩ := h _ (List.mem_cons_of_mem _ List.mem_cons_self)
    cases e
    cases e2
    obtain ⟨p, z, z2, ex, hn, e1, y1, y2⟩ := y
    obtain ⟨t, et, q⟩ := r.get' (y1 vs hp)
    obtain ⟨u, eu, q2⟩ := r2.get' (y2 ws hq)
    exact ⟨_, zipT_get xs ys i t u et eu, .inr ⟨p, _, _, rfl, ex, hn, e1, _, _, rfl, q, _, _, rfl, q2, rfl⟩⟩
end

section
variable (b : Bx) (Γ : Gam b.g.G) (Ev : XK)
def RdI (it : VI) : TI := fun σ H R => ∃ (W : Wit) (ε : VEnv) (hv : List (Option V)) (S : b.g.G) (Qi : List T → List (Nat × T) → VEnv → b.g.G → Prop) (Xc : KX b.g.G),
  σ.length = b.nN ∧ BOk b W ε (σ ++ hv) S H ∧ wI Γ it ε S Qi Xc ∧ ExR b Ev W ε S H Xc ∧
  ∀ items hs ε1 S1 W1 hv1 sv J H1, Qi items hs ε1 S1 → Stp b.g S H S1 H1 → BOk b W1 ε1 (σ ++ (hv ++ hv1)) S1 H1 → Ext W ε W1 ε1 → (∀ σ' : L2.St, σ'.length = b.nN → SV2 (σ' ++ (hv ++ hv1)) hs sv) →
    hidE ε1 hs → (∀ p ∈ hs, ε.length ≤ p.1) → WalkT b.K H1 J sv items → R J H1
end
section
variable {b : Bx} {Γ : Gam b.g.G} {Ev : XK} {W : Wit} {ε : VEnv} {σ : L2.St} {hv : List (Option V)} {S S' : b.g.G} {H H' : Hp} {Xc : KX b.g.G} {R : It → Hp → Prop}
theorem hv_get {σ' : L2.St} {x : V} (B : BOk b W ε (σ ++ hv) S H) (hl : σ.length = b.nN) (h : σ'.length = b.nN) : (σ' ++ (hv ++ [some x]))[ε.length]? = some (some x) := by
  have e := B.env.len
  rw [List.length_append] at e
  rw [List.getElem?_append_right (by omega), List.getElem?_append_right (by omega), show ε.length - σ'.length - hv.length = 0 by omega]
  rfl
theorem hid_self {s : SV} : hidE (push ε s) [(ε.length, s.t)] := by
  unfold hidE hidE
  rw [push_self]
  exact ⟨rfl, trivial⟩
/-- one source laid behind -/
theorem one_src {s : SV} {v : V} (B : BOk b W ε (σ ++ hv) S H) (hl : σ.length = b.nN) (o : VOk b W ε S H v s) :
    ∃ W1, BOk b W1 (push ε s) (σ ++ (hv ++ [some v])) S H ∧ Ext W ε W1 (push ε s) ∧ ∀ σ' : L2.St, σ'.length = b.nN → SV2 (σ' ++ (hv ++ [some v])) [(ε.length, s.t)] [(s.t, v)] := by
  obtain ⟨W1, B1, x⟩ := B.push o
  refine ⟨W1, by rw [← List.append_assoc]; exact B1, x, fun σ' h => ⟨v, [], rfl, hv_get B hl h, rfl⟩⟩
theorem ri_seq {e : VE} (h : RdI b Γ Ev (.seq e) σ H R) : RdE b Γ Ev e σ H fun x H1 =>
    (∃ a, x = .ref a ∧ (∃ xs, SqL b.K H1 a xs) ∧ R (Itl b.K a) H1) ∨ (∃ a, x = .ref a ∧ (∃ xs, SqT b.K H1 a xs) ∧ R (Itt b.K a) H1) ∨ (∃ z, x = .str z ∧ R (Its z) H1) ∨ ∃ d o kvs, x = .ref d ∧ H1 d = some (.frz o (.dK kvs)) ∧ R (Itk d o kvs) H1 := by
  obtain ⟨W, ε, hv, S, Q, Xc, hl, B, w, hx, k⟩ := h
  unfold wI at w
  refine ⟨W, ε, hv, S, _, Xc, hl, B, w, hx, fun x v S1 H1 w1 k1 B1 o1 => ?_⟩
  obtain ⟨xs, ei, q⟩ := w1
  obtain ⟨W1, B2, x2, sv⟩ := one_src B1 hl o1
  obtain ⟨F, r⟩ := o1.rep
  have fin := fun J wk => k xs _ _ S1 W1 _ _ J H1 q k1 B2 x2 sv hid_self (by simp) wk
  revert ei r fin
  cases x.t with
  | lst ts =>
    intro ei r fin
    simp only [itemsOf, Option.some.injEq] at ei
    subst ei
    obtain ⟨a, vs, rfl, hp, _⟩ := r
    exact .inl ⟨a, rfl, ⟨vs, SqL.of hp⟩, fin _ walkT_list⟩
  | tup ts =>
    intro ei r fin
    simp only [itemsOf, Option.some.injEq] at ei
    subst ei
    obtain ⟨a, vs, rfl, hp, _⟩ := r
    exact .inr (.inl ⟨a, rfl, ⟨vs, hp⟩, fin _ walkT_tup⟩)
  | str z =>
    intro ei r fin
    simp only [itemsOf, Option.some.injEq] at ei
    subst ei
    obtain rfl := r
    exact .inr (.inr (.inl ⟨z, rfl, fin _ walkT_str⟩))
  | fdc ks ts =>
    intro ei r fin
    simp only [itemsOf, Option.some.injEq] at ei
    subst ei
    obtain ⟨d, o, kvs, rfl, hd, rfl, _⟩ := r
    exact .inr (.inr (.inr ⟨d, o, kvs, rfl, hd, fin _ (walkT_keys hd)⟩))
  | _ => intro ei; simp [itemsOf] at ei
theorem ri_rng1 {e : VE} (h : RdI b Γ Ev (.rng1 e) σ H R) : RdE b Γ Ev e σ H fun x H1 => ∃ j : Int, x = .int j ∧ -(2 ^ 62) ≤ j ∧ j < 2 ^ 62 ∧ R (Itr 0 j.toNat) H1 := by
  obtain ⟨W, ε, hv, S, Q, Xc, hl, B, w, hx, k⟩ := h
  unfold wI at w
  refine ⟨W, ε, hv, S, _, Xc, hl, B, w, hx, fun x v S1 H1 w1 k1 B1 o1 => ?_⟩
  obtain ⟨F, r⟩ := o1.rep
  revert w1 r
  cases x.t with
  | int j =>
    intro w1 r
    obtain ⟨h1, h2, q⟩ := w1
    exact ⟨j, r, h1, h2, k _ _ _ S1 W [] [] _ H1 q k1 (by rw [List.append_nil]; exact B1) .refl (fun _ _ => rfl) trivial (by simp) walkT_rng⟩
  | _ => intro w1; exact w1.elim
theorem ri_rng2 {e d : VE} (h : RdI b Γ Ev (.rng2 e d) σ H R) : RdE b Γ Ev e σ H fun x H1 => RdE b Γ Ev d σ H1 fun y H2 => ∃ i j : Int, x = .int i ∧ y = .int j ∧ (-(2 ^ 62) ≤ i ∧ i < 2 ^ 62 ∧ -(2 ^ 62) ≤ j ∧ j < 2 ^ 62) ∧ R (Itr i (j - i).toNat) H2 := by
  obtain ⟨W, ε, hv, S, Q, Xc, hl, B, w, hx, k⟩ := h
  unfold wI at w
  refine ⟨W, ε, hv, S, _, Xc, hl, B, w, hx, fun x v S1 H1 w1 k1 B1 o1 => ?_⟩
  refine ⟨W, ε, hv, S1, _, Xc, hl, B1, w1, hx.step k1, fun y u S2 H2 w2 k2 B2 o2 => ?_⟩
  obtain ⟨F, r⟩ := o1.rep
  obtain ⟨F2, r2⟩ := o2.rep
  revert w2 r r2
  cases x.t with
  | int i =>
    cases y.t with
    | int j =>
      intro w2 r r2
      exact ⟨i, j, r, r2, w2.1, k _ _ _ S2 W [] [] _ H2 w2.2 (k1.trans k2) (by rw [List.append_nil]; exact B2) .refl (fun _ _ => rfl) trivial (by simp) walkT_rng⟩
    | _ => intro w2; exact w2.elim
  | _ => intro w2; exact w2.elim
end
end Vs

-- Vs9
namespace Vs
open PySem L2 PySem.Spec PyProof.Rows

/-! ### enumerate of a text -/
def IteS (z : Str) : It := ⟨fun i _ => i < z.cps.size, fun i H v H' => ∃ p c, v = .ref p ∧ H p = none ∧ H' = upd H p (.tup [.int (i : Nat), .str ⟨#[c]⟩]) ∧ z.cps[i]? = some c, fun i _ => z.cps.size ≤ i⟩
theorem turn_enumS {P : Program} {w : World} {K : PySem.W.Frag} {elts : List Expr} {kk : Nat} {tpos : Pos} (z : Str) (t : Tok) (e it : Addr) :
    Turn P w K (.Tuple elts kk tpos) (IteS z) [e, it] e (fun i h => (∃ old, IsEnum h e it ((i : Nat) : Int) old) ∧ h.IsStrIter it (strIterType z) z t i ∧ e ≠ it ∧ i ≤ z.cps.size) where
  mem := by simp
  obj := fun i h st b hb => by
    obtain ⟨⟨old, he⟩, ⟨o, ho, hc, hd⟩, _⟩ := st
    have q : b = e ∨ b = it := by simpa using hb
    rcases q with rfl | rfl
    · exact ⟨_, he, fun v q => nomatch q⟩
    · exact ⟨o, ho, fun v q => by rw [hd] at q; cases q⟩
  keep := fun i h h' st k => by
    obtain ⟨⟨old, he⟩, ⟨o, ho, r⟩, q⟩ := st
    exact ⟨⟨old, k e (by simp) _ he⟩, ⟨o, k it (by simp) _ ho, r⟩, q⟩
  item := by
    intro X hP hw hK hc i pins s σ H E I hf st hg
    subst hP hw hK
    obtain ⟨⟨old, he⟩, hit, hne, hle⟩ := st
    have hel : e < s.heap.objs.size := Heap.lt_size he
    have hil : it < s.heap.objs.size := by obtain ⟨_, q, _⟩ := hit; exact Heap.lt_size q
    refine wpAny_pyNext_enum_itemD (Draws.text (prog := X.prog) (w := X.w) (A := X.A.in1) (I.ok.hd hc) it z t) he hit hg hne (fun q => hne (List.mem_singleton.mp q)) fun x h' tk hx ho hit' hT hsz hk => ?_
    obtain ⟨c, u, hcx, rfl⟩ := hx
    refine ⟨_, rfl, wpAny_letOwnedTupleGo_enum (s := { s with heap := h', toks := tk + 1 }) ho fun h2 he2 sb => ?_⟩
    have hT2 := (sb.2 _ (Nat.ne_of_gt hel)).trans hT
    have nO : ObjOk X.prog X.w (upd H s.heap.objs.size (.tup [.int (i : Nat), .str ⟨#[c]⟩])) h2 s.heap.objs.size (.tup [.int (i : Nat), .str ⟨#[c]⟩]) :=
      ⟨by show 2 ≤ sizeLine; decide, _, .cons ⟨_, rfl⟩ (.cons ⟨_, rfl⟩ .nil), ⟨_, hT2, rfl, _, rfl⟩⟩
    have kp : ∀ b ob, b ∉ [e, it] → s.heap.get? b = some ob → h2.get? b = some ob := fun b ob hb q => by
      simp only [List.mem_cons, List.not_mem_nil, or_false, not_or] at hb
      exact (sb.2 b hb.1).trans (hk b ob hb.1 hb.2 q)
    have I1 : Inv X pins σ (upd H s.heap.objs.size (.tup [.int (i : Nat), .str ⟨#[c]⟩])) { s with heap := h2, toks := tk + 1 } := I.turnedNew (ch := [e, it]) kp hf (Nat.le_refl _) nO
    refine ⟨.ref s.heap.objs.size, _, I1, rfl, ⟨_, c, rfl, I.hok.fresh (Nat.le_refl _), rfl, hcx⟩, ⟨⟨.str ⟨#[c]⟩ u, ?_⟩, ?_, hne, hg⟩, fun b hb => ?_⟩
    · have e1 : ((i + 1 : Nat) : Int) = (i : Int) + 1 := by omega
      rw [e1]; exact he2
    · obtain ⟨o, q1, q2⟩ := hit'
      exact ⟨o, (sb.2 it (Ne.symm hne)).trans q1, q2⟩
    · have q : b = e ∨ b = it := by simpa using hb
      have hb' : b < s.heap.objs.size := by
        rcases q with rfl | rfl
        · exact hel
        · exact hil
      rw [upd_ne (Nat.ne_of_lt hb')]
      exact (hf b hb).1
  done := by
    intro X hP hw hK hc i pins s σ H E I hf st hg
    subst hP hw hK
    obtain ⟨⟨old, he⟩, hit, hne, hle⟩ := st
    obtain ⟨f0, f1, f2, f3, f4, f5⟩ := hf it (by simp)
    have ei : i = z.cps.size := Nat.le_antisymm hle hg
    rw [ei] at hit
    exact wpAny_pyNext_enum_endD (Draws.text (prog := X.prog) (w := X.w) (A := X.A.in1) (I.ok.hd hc) it z t) he hit fun h' eb => ⟨rfl, I.turned (t' := s.toks) (fun b o hb q => eb b o hb q) f0 f1 f3 f4 f5⟩
  self := fun A i s Q E st h => by
    obtain ⟨⟨_, he⟩, _⟩ := st
    exact wpAny_pyIter_enum he h
theorem walkT_enumS {K : PySem.W.Frag} {z : Str} : WalkT K Hs (IteS z) [(.str z, .str z)] (enumT 0 (z.cps.toList.map fun c => .str ⟨#[c]⟩)) where
  go := fun i H _ h hi => by
    rw [enumT_length] at hi
    show i < z.cps.size
    simpa using hi
  stop := fun i H _ h hi => by
    rw [enumT_length] at hi
    show z.cps.size ≤ i
    simpa using hi
  yld := fun i H F x H' _ h hi y => by
    obtain ⟨p, c, ex, hn, e1, y⟩ := y
    refine ⟨_, enumT_get _ 0 i (.str ⟨#[c]⟩) ?_, .inr ⟨p, _, _, rfl, ex, hn, e1, ?_⟩⟩
    · rw [List.getElem?_map]
      simp [y]
    · rw [Nat.zero_add]
      exact ⟨_, _, rfl, rfl, _, _, rfl, rfl, rfl⟩

section
variable {X : Cx} {tg : Expr} {te : TE}
/-- e, whatever is walked: a list, a tuple, a text -/
theorem pi_any {l : Expr} (hl : PE X l te) : PI X tg l (fun σ H R => te σ H fun x H1 =>
    (∃ a, x = .ref a ∧ (∃ xs, SqL X.K H1 a xs) ∧ R (Itl X.K a) H1) ∨ (∃ a, x = .ref a ∧ (∃ xs, SqT X.K H1 a xs) ∧ R (Itt X.K a) H1) ∨ (∃ z, x = .str z ∧ R (Its z) H1) ∨ ∃ d o kvs, x = .ref d ∧ H1 d = some (.frz o (.dK kvs)) ∧ R (Itk d o kvs) H1) := by
  refine ⟨fun pins s σ H R I h => ?_⟩
  refine thn (hl.run pins s σ H _ I h) fun v s1 ⟨x, H1, I1, r1, q1⟩ => ?_
  have fp : ∀ b ∈ [s1.heap.objs.size], FpOk X pins H1 b := fun b hb => by
    rw [List.mem_singleton.mp hb]
    exact I1.fpOk (Nat.le_refl _) (I1.hok.fresh (Nat.le_refl _))
  rcases q1 with ⟨a, rfl, ⟨xs, hq⟩, q⟩ | ⟨a, rfl, ⟨xs, hq⟩, q⟩ | ⟨z, rfl, q⟩ | ⟨d, o, kvs, rfl, hd, q⟩
  · cases r1
    obtain ⟨its, rv, pl, _⟩ := I1.list hq
    exact wpAny_pyIter_list pl.isList ⟨_, _, _, _, H1, rfl, I1.kept (t' := s1.toks) (fun b o e => Heap.get?_push_of_some _ e), turn_list a _, ⟨_, Heap.get?_push_size _ rfl, rfl, rfl⟩, fp, q⟩
  · cases r1
    obtain ⟨its, rv, pl, _⟩ := I1.tuple hq
    exact wpAny_pyIter_tuple (show s1.heap.IsTuple a its.toArray from pl) ⟨_, _, _, _, H1, rfl, I1.kept (t' := s1.toks) (fun b o e => Heap.get?_push_of_some _ e), turn_tuple a _, ⟨_, Heap.get?_push_size _ rfl, rfl, rfl⟩, fp, q⟩
  · obtain ⟨t, rfl⟩ := r1
    cases ha : z.cps.all (· < 128)
    · exact wpAny_pyIter_wide ha ⟨_, _, _, _, H1, rfl, I1.kept (t' := s1.toks) (fun b o e => Heap.get?_push_of_some _ e), turn_str _ z t "str_iterator" (.inr rfl), ⟨_, Heap.get?_push_size _ rfl, rfl, rfl⟩, fp, q⟩
    · exact wpAny_pyIter_ascii ha ⟨_, _, _, _, H1, rfl, I1.kept (t' := s1.toks) (fun b o e => Heap.get?_push_of_some _ e), turn_str _ z t "str_ascii_iterator" (.inl rfl), ⟨_, Heap.get?_push_size _ rfl, rfl, rfl⟩, fp, q⟩
  · cases r1
    obtain ⟨hs, hgd, hx, es, ep, vs, hdt, hsz, kv, hm⟩ := I1.frzK hd
    refine iter_keys hs hgd hx hdt (pi_one (tk := s1.toks) I1 _ (turn_keys _ hdt) ⟨_, Heap.get?_push_size _ rfl, rfl, ?_⟩ q)
    rw [hsz] <;> rfl
def rEnum (K : PySem.W.Frag) (x : V) (H : Hp) (R : It → Hp → Prop) : Prop := (∃ a xs, x = .ref a ∧ SqL K H a xs ∧ R (Ite K a) H) ∨ ∃ z, x = .str z ∧ R (IteS z) H
theorem pi_enumA {e : Expr} {p pos tpos : Pos} {elts : List Expr} {kk : Nat} (hg : Gl X "enumerate") (hm : X.mg "enumerate" = none) (ha : PE X e te) (hs : starEach [e] X.env = [(false, eval e X.env)]) :
    PI X (.Tuple elts kk tpos) (.Call (.Name "enumerate" p) [e] [] pos) (fun σ H R => te σ H fun x H1 => rEnum X.K x H1 R) := by
  refine ⟨fun pins s σ H R I h => ?_⟩
  have hp : PA X [e] (tCons te tNil) := pa_cons ha pa_nil hs
  refine Call_ (ld_blt I hg hm boot_enumerate (PyProof.Rows.callWith_type1 (thn (hp.run pos pins s σ H (fun vs H1 => match vs with | [x] => rEnum X.K x H1 R | _ => False) I h) fun us s1 ⟨vs, H1, I1, r1, q1⟩ => ?_) hs rfl))
  obtain ⟨x, rfl, q⟩ : ∃ x, vs = [x] ∧ rEnum X.K x H1 R := by
    cases vs with
    | nil => exact q1.elim
    | cons x r =>
      cases r with
      | nil => exact ⟨x, rfl, q1⟩
      | cons _ _ => exact q1.elim
  obtain ⟨u, rfl, ru⟩ := vals1 r1
  have fp2 : ∀ b, b ∈ [s1.heap.objs.size + 1, s1.heap.objs.size] → FpOk X pins H1 b := fun b hb => by
    have q : b = s1.heap.objs.size + 1 ∨ b = s1.heap.objs.size := by simpa using hb
    have hle : s1.heap.objs.size ≤ b := by
      rcases q with z | z
      · rw [z]; exact Nat.le_add_right _ _
      · rw [z]; exact Nat.le_refl _
    exact I1.fpOk hle (I1.hok.fresh hle)
  rcases q with ⟨a, xs, rfl, hq, q⟩ | ⟨z, rfl, q⟩
  · cases ru
    obtain ⟨its, rv, pl, _⟩ := I1.list hq
    exact call_enumerate_list pl.isList fun h' he hit hsz hk => wpAny_pyIter_enum he
      ⟨_, _, _, _, H1, rfl, I1.kept (t' := s1.toks) hk, turn_enum a (s1.heap.objs.size + 1) s1.heap.objs.size, ⟨⟨.none, he⟩, hit, Nat.succ_ne_self _⟩, fp2, q⟩
  · obtain ⟨t, rfl⟩ := ru
    exact call_enumerate_str fun h' he hit hsz hk => wpAny_pyIter_enum he
      ⟨_, _, _, _, H1, rfl, I1.kept (t' := s1.toks) hk, turn_enumS z t (s1.heap.objs.size + 1) s1.heap.objs.size, ⟨⟨.none, he⟩, hit, Nat.succ_ne_self _, Nat.zero_le _⟩, fp2, q⟩
end

section
variable {b : Bx} {Γ : Gam b.g.G} {Ev : XK} {W : Wit} {ε : VEnv} {σ : L2.St} {hv : List (Option V)} {S S' : b.g.G} {H H' : Hp} {Xc : KX b.g.G} {R : It → Hp → Prop}
theorem ri_enum {e : VE} (h : RdI b Γ Ev (.enum e) σ H R) : RdE b Γ Ev e σ H fun x H1 => rEnum b.K x H1 R := by
  obtain ⟨W, ε, hv, S, Q, Xc, hl, B, w, hx, k⟩ := h
  unfold wI at w
  refine ⟨W, ε, hv, S, _, Xc, hl, B, w, hx, fun x v S1 H1 w1 k1 B1 o1 => ?_⟩
  obtain ⟨xs, ei, q⟩ := w1
  obtain ⟨W1, B2, x2, sv⟩ := one_src B1 hl o1
  obtain ⟨F, r⟩ := o1.rep
  have fin := fun J wk => k (enumT 0 xs) _ _ S1 W1 _ _ J H1 q k1 B2 x2 sv hid_self (by simp) wk
  revert ei r fin
  cases x.t with
  | lst ts =>
    intro ei r fin
    simp only [enumOf, Option.some.injEq] at ei
    subst ei
    obtain ⟨a, vs, rfl, hp, _⟩ := r
    exact .inl ⟨a, vs, rfl, SqL.of hp, fin _ walkT_enum⟩
  | str z =>
    intro ei r fin
    simp only [enumOf, Option.some.injEq] at ei
    subst ei
    obtain rfl := r
    exact .inr ⟨z, rfl, fin _ walkT_enumS⟩
  | _ => intro ei; simp [enumOf] at ei
theorem hid2 {s t : SV} : hidE (push (push ε s) t) [(ε.length, s.t), (ε.length + 1, t.t)] := by
  unfold hidE
  obtain ⟨s', e, _, et⟩ := push_al (s := t) (push_self (ε := ε) (s := s))
  rw [e]
  refine ⟨et, ?_⟩
  unfold hidE hidE
  have e2 := push_self (ε := push ε s) (s := t)
  rw [push_length] at e2
  rw [e2]
  exact ⟨rfl, trivial⟩
theorem ri_zip {e d : VE} (h : RdI b Γ Ev (.zip e d) σ H R) : RdE b Γ Ev e σ H fun x H1 => RdE b Γ Ev d σ H1 fun y H2 => ∃ a c : Addr, x = .ref a ∧ y = .ref c ∧
    ((∃ xs ys, SqL b.K H2 a xs ∧ SqL b.K H2 c ys ∧ R (Itz b.K a c) H2) ∨ (∃ xs ys, SqT b.K H2 a xs ∧ SqT b.K H2 c ys ∧ R (RZ.ItzT b.K a c) H2)) := by
  obtain ⟨W, ε, hv, S, Q, Xc, hl, B, w, hx, k⟩ := h
  unfold wI at w
  refine ⟨W, ε, hv, S, _, Xc, hl, B, w, hx, fun x v S1 H1 w1 k1 B1 o1 => ?_⟩
  obtain ⟨W1, B2, x2, sv⟩ := one_src B1 hl o1
  refine ⟨W1, push ε x, hv ++ [some v], S1, _, Xc, hl, B2, w1, (hx.step k1).wide x2, fun y u S2 H2 w2 k2 B3 o2 => ?_⟩
  obtain ⟨xs, ys, ei, q⟩ := w2
  obtain ⟨W2, B4, x3, sv2⟩ := one_src B3 hl o2
  obtain ⟨F, r⟩ := (o1.step k2).rep
  obtain ⟨F2, r2⟩ := o2.rep
  have ea : hv ++ [some v] ++ [some u] = hv ++ [some v, some u] := by simp
  rw [ea] at B4 sv2
  have sv3 : ∀ σ' : L2.St, σ'.length = b.nN → SV2 (σ' ++ (hv ++ [some v, some u])) [(ε.length, x.t), (ε.length + 1, y.t)] [(x.t, v), (y.t, u)] := fun σ' h => by
    obtain ⟨v1, q1, e1, e2, _⟩ := sv σ' h
    obtain ⟨u1, q2, e3, e4, _⟩ := sv2 σ' h
    cases e1
    cases e3
    rw [push_length] at e4
    refine ⟨v, _, rfl, ?_, u, [], rfl, e4, rfl⟩
    have hlt := (List.getElem?_eq_some_iff.mp e2).1
    have e5 : σ' ++ (hv ++ [some v, some u]) = (σ' ++ (hv ++ [some v])) ++ [some u] := by simp
    rw [e5, List.getElem?_append_left hlt]
    exact e2
  have fin := fun J wk => k (zipT xs ys) _ _ S2 W2 _ _ J H2 q (k1.trans k2) B4 (x2.trans x3) sv3 hid2 (by simp) wk
  revert ei r r2 fin
  cases x.t with
  | lst ts =>
    cases y.t with
    | lst us =>
      intro ei r r2 fin
      simp only [zipOf, Option.some.injEq, Prod.mk.injEq] at ei
      obtain ⟨rfl, rfl⟩ := ei
      obtain ⟨a, vs, rfl, hp, _⟩ := r
      obtain ⟨c, ws, rfl, hq, _⟩ := r2
      exact ⟨a, c, rfl, rfl, .inl ⟨vs, ws, SqL.of hp, SqL.of hq, fin _ walkT_zip⟩⟩
    | _ => intro ei; simp [zipOf] at ei
  | tup ts =>
    cases y.t with
    | tup us =>
      intro ei r r2 fin
      simp only [zipOf, Option.some.injEq, Prod.mk.injEq] at ei
      obtain ⟨rfl, rfl⟩ := ei
      obtain ⟨a, vs, rfl, hp, _⟩ := r
      obtain ⟨c, ws, rfl, hq, _⟩ := r2
      exact ⟨a, c, rfl, rfl, .inr ⟨vs, ws, hp, hq, fin _ walkT_zipT⟩⟩
    | _ => intro ei; simp [zipOf] at ei
  | _ => intro ei; cases y.t <;> simp [zipOf] at ei
end
end Vs

-- Vs10
namespace Vs
open PySem L2

section
variable (b : Bx) (Γ : Gam b.g.G) (Ev : XK)
structure DnR (hv : List (Option V)) (Hs : Hp) (Dd : Dn b.g.G) (D : Ends) : Prop where
  nx : ∀ W ε σ S H, Dd.nx ε S → σ.length = b.nN → BOk b W ε (σ ++ hv) S H → KeepI Hs H → D.nx σ H
  bk : ∀ W ε σ S H, Dd.bk ε S → σ.length = b.nN → BOk b W ε (σ ++ hv) S H → KeepI Hs H → D.bk σ H
  ct : ∀ W ε σ S H, Dd.ct ε S → σ.length = b.nN → BOk b W ε (σ ++ hv) S H → KeepI Hs H → D.ct σ H
  rt : ∀ s v S H F p, Dd.rt s S → Stp b.g b.S0 b.H0 S H → b.g.SI S H → RepS b.K H F p v s → Okay b S H F s.fr → (s.own = true → b.H0 p = none) → D.rt v H
  ex : ∀ x s S d v H F, Dd.ex x s S → Stp b.g b.S0 b.H0 S H → b.g.SI S H → H d = some (.xd [(x.fld, v)]) → Rep b.K H F s.t v → Okay b S H F s.fr → Ev (.ref x.cls) (some d) H
def RdS (st : VS) : TS := fun D σ H => ∃ (W : Wit) (ε : VEnv) (hv : List (Option V)) (S : b.g.G) (Dd : Dn b.g.G),
  σ.length = b.nN ∧ BOk b W ε (σ ++ hv) S H ∧ wS Γ st ε S Dd ∧ DnR b Ev hv H Dd D
def RdB (st : VB) : TS := fun D σ H => ∃ (W : Wit) (ε : VEnv) (hv : List (Option V)) (S : b.g.G) (Dd : Dn b.g.G),
  σ.length = b.nN ∧ BOk b W ε (σ ++ hv) S H ∧ wB Γ st ε S Dd ∧ DnR b Ev hv H Dd D
def RdP (es : VEs) : TA := fun σ H Q' => ∃ (W : Wit) (ε : VEnv) (hv : List (Option V)) (S : b.g.G) (Q : VEnv → b.g.G → Prop) (Xc : KX b.g.G),
  σ.length = b.nN ∧ BOk b W ε (σ ++ hv) S H ∧ wPar Γ es ε S Q Xc ∧ ExR b Ev W ε S H Xc ∧
  ∀ ε1 S1 W1 vs H1, Q ε1 S1 → Stp b.g S H S1 H1 → BOk b W1 ε1 (σ ++ (hv ++ vs.map some)) S1 H1 → Q' vs H1
end
section
variable {b : Bx} {Γ : Gam b.g.G} {Ev : XK} {W : Wit} {ε : VEnv} {σ : L2.St} {hv : List (Option V)} {S S' : b.g.G} {H H' : Hp} {Xc : KX b.g.G} {Dd : Dn b.g.G} {D : Ends}
theorem KeepI.trans {H H1 H2 : Hp} (a : KeepI H H1) (c : KeepI H1 H2) : KeepI H H2 := fun x o i e => c x o i (a x o i e)
theorem DnR.later {Hs : Hp} (d : DnR b Ev hv Hs Dd D) (k : KeepI Hs H) : DnR b Ev hv H Dd D :=
  ⟨fun W ε σ S H' q h1 B k2 => d.nx W ε σ S H' q h1 B (k.trans k2), fun W ε σ S H' q h1 B k2 => d.bk W ε σ S H' q h1 B (k.trans k2), fun W ε σ S H' q h1 B k2 => d.ct W ε σ S H' q h1 B (k.trans k2), d.rt, d.ex⟩
theorem DnR.exr {Hs : Hp} (d : DnR b Ev hv Hs Dd D) (B : BOk b W ε σ S H) : ExR b Ev W ε S H Dd.ex := fun x s S' a v H' hx k si ha o => by
  obtain ⟨F, p, q⟩ := o
  exact d.ex x s S' a v H' F hx (B.st.trans k) si ha q.rep.rep q.ok
theorem VOk.ret {Hs : Hp} {s : SV} {v : V} (d : DnR b Ev hv Hs Dd D) (B : BOk b W ε σ S H) (o : VOk b W ε S H v s) (h : Dd.rt s S) : D.rt v H := by
  obtain ⟨F, p, q⟩ := o
  exact d.rt s v S H F p h B.st B.si q.rep q.ok q.nw
theorem rb_nil (h : RdB b Γ Ev .nil D σ H) : tNext D σ H := by
  obtain ⟨W, ε, hv, S, Dd, hl, B, w, d⟩ := h
  unfold wB at w
  exact d.nx W ε σ S H w hl B KeepI.refl
theorem rb_cons {s : VS} {r : VB} (h : RdB b Γ Ev (.cons s r) D σ H) : tSeq (RdS b Γ Ev s) (RdB b Γ Ev r) D σ H := by
  obtain ⟨W, ε, hv, S, Dd, hl, B, w, d⟩ := h
  unfold wB at w
  exact ⟨W, ε, hv, S, _, hl, B, w, fun W1 ε1 σ1 S1 H1 n hl1 B1 k1 => ⟨W1, ε1, hv, S1, Dd, hl1, B1, n, d.later k1⟩, d.bk, d.ct, d.rt, d.ex⟩
theorem rs_pas (h : RdS b Γ Ev .pas D σ H) : tNext D σ H := by
  obtain ⟨W, ε, hv, S, Dd, hl, B, w, d⟩ := h
  unfold wS at w
  exact d.nx W ε σ S H w hl B KeepI.refl
theorem rs_brk (h : RdS b Γ Ev .brk D σ H) : tBreak D σ H := by
  obtain ⟨W, ε, hv, S, Dd, hl, B, w, d⟩ := h
  unfold wS at w
  exact d.bk W ε σ S H w hl B KeepI.refl
theorem rs_cnt (h : RdS b Γ Ev .cnt D σ H) : tCont D σ H := by
  obtain ⟨W, ε, hv, S, Dd, hl, B, w, d⟩ := h
  unfold wS at w
  exact d.ct W ε σ S H w hl B KeepI.refl
theorem set_app {i : Nat} {v : Option V} (hi : i < σ.length) : (σ ++ hv).set i v = σ.set i v ++ hv := List.set_append_left _ _ hi
theorem rs_set {i : Nat} {e : VE} (hi : i < b.nN) (h : RdS b Γ Ev (.set i e) D σ H) : tAsg (RdE b Γ Ev e) (gName i) D σ H := by
  obtain ⟨W, ε, hv, S, Dd, hl, B, w, d⟩ := h
  unfold wS at w
  refine ⟨W, ε, hv, S, _, _, hl, B, w, d.exr B, fun s v S1 H1 w1 k1 B1 o1 => ?_⟩
  obtain ⟨W2, B2⟩ := B1.set (i := i) (by rw [List.length_append]; omega) o1.cl
  rw [set_app (by omega)] at B2
  exact d.nx W2 _ _ S1 H1 w1 (by simpa using hl) B2 k1.imm
theorem rs_setT {tg : VT} {e : VE} (h : RdS b Γ Ev (.setT tg e) D σ H) : tAsg (RdE b Γ Ev e) (RdG b tg) D σ H := by
  obtain ⟨W, ε, hv, S, Dd, hl, B, w, d⟩ := h
  unfold wS at w
  refine ⟨W, ε, hv, S, _, _, hl, B, w, d.exr B, fun s v S1 H1 w1 k1 B1 o1 => ?_⟩
  exact ⟨W, ε, hv, S1, s, _, hl, B1, o1, w1, fun W2 ε2 σ2 n B2 a2 t2 => d.nx W2 ε2 σ2 S1 H1 n (t2.1.trans hl) B2 k1.imm⟩
theorem rs_drop {e : VE} (h : RdS b Γ Ev (.drop e) D σ H) : tDrop (RdE b Γ Ev e) D σ H := by
  obtain ⟨W, ε, hv, S, Dd, hl, B, w, d⟩ := h
  unfold wS at w
  exact ⟨W, ε, hv, S, _, _, hl, B, w, d.exr B, fun s v S1 H1 w1 k1 B1 o1 => d.nx W ε σ S1 H1 w1 hl B1 k1.imm⟩
def isV : VE → Bool
  | .v _ => true
  | _ => false
theorem rs_ret {e : VE} (he : isV e = false) (h : RdS b Γ Ev (.ret e) D σ H) : tRet (RdE b Γ Ev e) D σ H := by
  obtain ⟨W, ε, hv, S, Dd, hl, B, w, d⟩ := h
  unfold wS at w
  have w' : wE Γ e ε S Dd.rt Dd.ex := by
    cases e <;> first | exact w | simp [isV] at he
  exact ⟨W, ε, hv, S, _, _, hl, B, w', d.exr B, fun s v S1 H1 w1 k1 B1 o1 => o1.ret d B1 w1⟩
theorem rs_retV {i : Nat} (hi : i < b.nN) (h : RdS b Γ Ev (.ret (.v i)) D σ H) : tRet (tVar i) D σ H := by
  obtain ⟨W, ε, hv, S, Dd, hl, B, w, d⟩ := h
  unfold wS at w
  simp only at w
  split at w
  · rename_i s e
    obtain ⟨v, ev, r⟩ := B.env.at_ i s e
    refine ⟨v, by rwa [List.getElem?_append_left (by omega)] at ev, ?_⟩
    exact d.rt s v S H _ _ w B.st B.si r (B.env.ok i s e) (B.env.nw i s e)
  · exact w.elim
theorem rs_retN (h : RdS b Γ Ev .retN D σ H) : tRetN D σ H := by
  obtain ⟨W, ε, hv, S, Dd, hl, B, w, d⟩ := h
  unfold wS at w
  exact (atom (b := b) (W := W) (ε := ε) (S := S) (H := H) (t := .non) (v := .non) rfl rfl).ret d B w
theorem rs_ite {c : VE} {x y : VB} (h : RdS b Γ Ev (.ite c x y) D σ H) : tIfS (RdT b Γ Ev c) (RdB b Γ Ev x) (RdB b Γ Ev y) D σ H := by
  obtain ⟨W, ε, hv, S, Dd, hl, B, w, d⟩ := h
  unfold wS at w
  refine ⟨W, ε, hv, S, _, _, hl, B, w, d.exr B, fun k S1 H1 w1 k1 B1 => ?_⟩
  cases k with
  | true => exact ⟨W, ε, hv, S1, Dd, hl, B1, w1, d.later k1.imm⟩
  | false => exact ⟨W, ε, hv, S1, Dd, hl, B1, w1, d.later k1.imm⟩
theorem rs_whl {c : VE} {x : VB} (h : RdS b Γ Ev (.whl c x) D σ H) : tWhile (RdT b Γ Ev c) (RdB b Γ Ev x) D σ H := by
  obtain ⟨W, ε, hv, S, Dd, hl, B, w, d⟩ := h
  unfold wS at w
  obtain ⟨Iv, ⟨m0, w0⟩, turn⟩ := w
  refine ⟨fun m σ H' => σ.length = b.nN ∧ KeepI H H' ∧ ∃ W ε S, BOk b W ε (σ ++ hv) S H' ∧ Iv m ε S, ⟨m0, hl, KeepI.refl, W, ε, S, B, w0⟩, ?_⟩
  rintro m σ1 H1 ⟨hl1, ki1, W1, ε1, S1, B1, w1⟩
  refine ⟨W1, ε1, hv, S1, _, _, hl1, B1, turn m ε1 S1 w1, d.exr B1, fun k S2 H2 w2 k2 B2 => ?_⟩
  have ki2 := ki1.trans k2.imm
  cases k with
  | false => exact d.nx W1 ε1 σ1 S2 H2 w2 hl1 B2 ki2
  | true =>
    refine ⟨fun σ' H' => ∃ m', m' < m ∧ σ'.length = b.nN ∧ KeepI H H' ∧ ∃ W ε S, BOk b W ε (σ' ++ hv) S H' ∧ Iv m' ε S, fun σ' H' ⟨m', hm, q⟩ => ⟨m', hm, q⟩, W1, ε1, hv, S2, _, hl1, B2, w2, ?_⟩
    exact ⟨fun W3 ε3 σ3 S3 H3 ⟨m', hm, q⟩ hl3 B3 k3 => ⟨m', hm, hl3, ki2.trans k3, W3, ε3, S3, B3, q⟩, fun W3 ε3 σ3 S3 H3 q hl3 B3 k3 => d.nx W3 ε3 σ3 S3 H3 q hl3 B3 (ki2.trans k3),
      fun W3 ε3 σ3 S3 H3 ⟨m', hm, q⟩ hl3 B3 k3 => ⟨m', hm, hl3, ki2.trans k3, W3, ε3, S3, B3, q⟩, d.rt, d.ex⟩
theorem BOk.take (B : BOk b W ε σ S H) (n : Nat) : BOk b W (ε.take n) (σ.take n) S H := ⟨B.env.take n, B.st, B.si, B.rt⟩
theorem take_hv {σ : L2.St} {hv hv1 : List (Option V)} {n : Nat} (h : n = (σ ++ hv).length) : (σ ++ (hv ++ hv1)).take n = σ ++ hv := by
  subst h
  rw [← List.append_assoc, List.take_left' rfl]
theorem rs_loop {it : VI} {tg : VT} {x : VB} (h : RdS b Γ Ev (.loop it tg x) D σ H) : tFor (RdI b Γ Ev it) (RdG b tg) (RdB b Γ Ev x) D σ H := by
  obtain ⟨W, ε, hv, S, Dd, hl, B, w, d⟩ := h
  unfold wS at w
  refine ⟨W, ε, hv, S, _, _, hl, B, w, d.exr B, fun items hs ε1 S1 W1 hv1 sv J H1 w1 k1 B1 x1 hsv hid hge wk => ?_⟩
  have h0 : ∀ σ' : L2.St, σ'.length = b.nN → ε.length = (σ' ++ hv).length := fun σ' h => by
    rw [← B.env.len, List.length_append, List.length_append, hl, h]
  refine ⟨fun i m σ' H' => m = items.length - i ∧ i ≤ items.length ∧ σ'.length = b.nN ∧ KeepI H1 H' ∧ ∃ W' ε' S', BOk b W' ε' (σ' ++ (hv ++ hv1)) S' H' ∧ wLoop tg ε.length hs (fun ε2 S2 D2 => wB Γ x ε2 S2 D2) Dd (items.drop i) ε' S',
    ⟨_, rfl, Nat.zero_le _, hl, KeepI.refl, W1, ε1, S1, B1, w1⟩, ?_⟩
  rintro i m σ2 H2 ⟨rfl, hi, hl2, ki2, W2, ε2, S2, B2, w2⟩
  have sv2 := hsv σ2 hl2
  by_cases hlt : i < items.length
  · obtain ⟨t, rest, ed⟩ : ∃ t rest, items.drop i = t :: rest := by
      cases e : items.drop i with
      | nil => have := List.drop_eq_nil_iff.mp e; omega
      | cons t r => exact ⟨t, r, rfl⟩
    have et : items[i]? = some t := by
      have e := congrArg (fun l => l[0]?) ed
      simpa using e
    have er : items.drop (i + 1) = rest := by
      rw [← List.drop_drop, ed]; rfl
    rw [ed] at w2
    unfold wLoop at w2
    obtain ⟨hh, w2⟩ := w2
    refine .inr ⟨wk.go i H2 ki2 (src_some B2 sv2 hh) hlt, fun σ' H' => ∃ m', m' < items.length - i ∧ m' = items.length - (i + 1) ∧ i + 1 ≤ items.length ∧ σ'.length = b.nN ∧ KeepI H1 H' ∧ ∃ W' ε' S', BOk b W' ε' (σ' ++ (hv ++ hv1)) S' H' ∧ wLoop tg ε.length hs (fun ε2 S2 D2 => wB Γ x ε2 S2 D2) Dd (items.drop (i + 1)) ε' S',
      fun σ' H' ⟨m', hm, q⟩ => ⟨m', hm, q⟩, fun y H3 hy => ?_⟩
    obtain ⟨t', et', k3, B3, o3⟩ := item_ok B2 sv2 hh wk ki2 hlt hy
    rw [et] at et'
    cases et'
    refine ⟨W2, ε2, hv ++ hv1, S2, _, _, hl2, B3, o3, w2, fun W4 ε4 σ4 n4 B4 a4 t4 => ?_⟩
    have hl4 : σ4.length = b.nN := t4.1.trans hl2
    refine ⟨W4, ε4, hv ++ hv1, S2, _, hl4, B4, n4, ?_⟩
    have again : ∀ W ε σ S H, wLoop tg _ hs (fun ε2 S2 D2 => wB Γ x ε2 S2 D2) Dd rest ε S → σ.length = b.nN → BOk b W ε (σ ++ (hv ++ hv1)) S H → KeepI H3 H → _ := fun W5 ε5 σ5 S5 H5 w5 hl5 B5 k5 =>
      (⟨items.length - (i + 1), by omega, rfl, hlt, hl5, (ki2.trans k3.imm).trans k5, W5, ε5, S5, B5, by rw [er]; exact w5⟩ : ∃ m', m' < items.length - i ∧ m' = items.length - (i + 1) ∧ i + 1 ≤ items.length ∧ σ5.length = b.nN ∧ KeepI H1 H5 ∧ ∃ W' ε' S', BOk b W' ε' (σ5 ++ (hv ++ hv1)) S' H5 ∧ wLoop tg ε.length hs (fun ε2 S2 D2 => wB Γ x ε2 S2 D2) Dd (items.drop (i + 1)) ε' S')
    refine ⟨again, fun W5 ε5 σ5 S5 H5 w5 hl5 B5 k5 => ?_, again, d.rt, d.ex⟩
    have B6 := B5.take ε.length
    rw [take_hv (h0 σ5 hl5)] at B6
    exact d.nx W5 _ σ5 S5 H5 w5 hl5 B6 (k1.imm.trans ((ki2.trans k3.imm).trans k5))
  · have ei : i = items.length := by omega
    subst ei
    rw [List.drop_length] at w2
    unfold wLoop at w2
    obtain ⟨hh, w2⟩ := w2
    refine .inl ⟨wk.stop _ H2 ki2 (src_some B2 sv2 hh) (Nat.le_refl _), ?_⟩
    have B6 := B2.take ε.length
    rw [take_hv (h0 σ2 hl2)] at B6
    exact d.nx W2 _ σ2 S2 H2 w2 hl2 B6 (k1.imm.trans ki2)
end
end Vs

-- Vs11
namespace Vs
open PySem L2
section
variable {b : Bx} {Γ : Gam b.g.G} {Ev : XK} {W : Wit} {ε : VEnv} {σ : L2.St} {hv : List (Option V)} {S S' : b.g.G} {H H' : Hp} {Xc : KX b.g.G} {Dd : Dn b.g.G} {D : Ends}
theorem SV.cl_t (s : SV) : s.cl.t = s.t := by
  unfold SV.cl
  split <;> rfl
/-- what is put behind a name's own list -/
theorem grow {i : Nat} {s0 : SV} {xs ys : List T} {vs ws : List V} {fr : Bool} {Dn : List Nat} {F : Addr → Prop} (B : BOk b W ε σ S H) (e : ε[i]? = some (some s0)) (ho : s0.own = true) (ht : s0.t = .lst xs)
    (hp : H (W.p i) = some (.lst vs)) (hr : Reps b.K H (fun a => W.F i a ∧ a ≠ W.p i) xs vs) (hr2 : Reps b.K H F ys ws) (ok : Okay b S H F fr) (rs : ∀ a, F a → a ∉ W.rs)
    (pr : ∀ j s', ε[j]? = some (some s') → j ∉ Dn → ∀ a, F a → ¬ W.F j a) (hi : i ∉ Dn) :
    ∃ W', BOk b W' (setV (poison i s0.D ε) i { t := .lst (xs ++ ys), own := true, fr := s0.fr && fr, D := joinD s0.D Dn }) σ S (upd H (W.p i) (.lst (vs ++ ws))) := by
  have oki := B.env.ok i s0 e
  have hFi : W.F i (W.p i) := by
    obtain ⟨v, _, r⟩ := B.env.at_ i s0 e
    unfold RepS at r
    rw [if_pos ho] at r
    exact r.2.1
  have seq : KeepI H (upd H (W.p i) (.lst (vs ++ ws))) := KeepI.off hp fun z => z
  refine B.mutate (s' := { t := .lst (xs ++ ys), own := true, fr := s0.fr && fr, D := joinD s0.D Dn }) (Fn := fun a => W.F i a ∨ F a) e ho ⟨vs ++ ws, upd_same, Reps.append ?_ ?_⟩ (.inl hFi) ?_ rfl (fun a f => f.elim (B.env.rs i s0 e a) (rs a)) (fun j s2 hj ej hD a f => ?_)
  · refine Reps.keep seq (fun a f => ⟨⟨.inl f.1, f.2⟩, fun o q => by rw [upd_ne f.2]; exact q⟩) _ _ hr
  · have np : ∀ a, F a → a ≠ W.p i := fun a f z => pr i s0 e hi a f (z ▸ hFi)
    exact Reps.keep seq (fun a f => ⟨⟨.inr f, np a f⟩, fun o q => by rw [upd_ne (np a f)]; exact q⟩) _ _ hr2
  · refine ⟨fun a f => f.elim (oki.ap a) (ok.ap a), fun a f => f.elim (oki.tr a) (ok.tr a), fun hf a f => ?_, fun a f => f.elim (oki.src a) (ok.src a)⟩
    have hf' : s0.fr = true ∧ fr = true := by simpa using hf
    exact f.elim (oki.nw hf'.1 a) (ok.nw hf'.2 a)
  · have hD' : j ∉ joinD s0.D Dn := hD
    rw [mem_joinD, not_or] at hD'
    rcases f with f | f
    · exact (B.env.pr i s0 j s2 e ej (Ne.symm hj)).2 hD'.1 a f
    · exact pr j s2 ej hD'.2 a f
theorem own_at {i : Nat} {s0 : SV} {xs : List T} (B : BOk b W ε (σ ++ hv) S H) (hi : i < σ.length) (e : ε[i]? = some (some s0)) (ho : s0.own = true) (ht : s0.t = .lst xs) :
    ∃ vs, σ[i]? = some (some (.ref (W.p i))) ∧ H (W.p i) = some (.lst vs) ∧ Reps b.K H (fun a => W.F i a ∧ a ≠ W.p i) xs vs := by
  obtain ⟨v, ev, r⟩ := B.env.at_ i s0 e
  unfold RepS at r
  rw [if_pos ho, ht] at r
  obtain ⟨rfl, _, vs, hp, hr⟩ := r
  rw [List.getElem?_append_left hi] at ev
  exact ⟨vs, ev, hp, hr⟩
theorem rs_app {i : Nat} {e : VE} (hi : i < b.nN) (h : RdS b Γ Ev (.app i e) D σ H) :
    ∃ v, σ[i]? = some (some v) ∧ tyV b.K "list" v H ∧ RdE b Γ Ev e σ H fun y H1 => rAppend v [y] H1 fun _ H2 => D.nx σ H2 := by
  obtain ⟨W, ε, hv, S, Dd, hl, B, w, d⟩ := h
  unfold wS at w
  split at w
  · rename_i s0 es
    split at w
    · rename_i xs ht
      obtain ⟨ho, w⟩ := w
      obtain ⟨vs, ev, hp, hr⟩ := own_at B (by omega) es ho ht
      refine ⟨_, ev, .inl ⟨rfl, vs, SqL.of hp⟩, W, ε, hv, S, _, _, hl, B, w, d.exr B, fun s y S1 H1 w1 k1 B1 o1 => ?_⟩
      obtain ⟨hz, hiD, n⟩ := w1
      obtain ⟨vs1, _, hp1, hr1⟩ := own_at B1 (by omega) es ho ht
      obtain ⟨F, p, o⟩ := o1.cl
      have hy : Reps b.K H1 F [s.t] [y] := by
        have q := o.rep.rep
        rw [SV.cl_t] at q
        exact Reps.one q
      obtain ⟨W2, B2⟩ := grow B1 es ho ht hp1 hr1 hy o.ok o.rs (fun j s' ej => (o.pr j s' ej).2) hiD
      refine ⟨W.p i, vs1, y, rfl, rfl, hp1, by rw [← hr1.length]; exact hz, d.nx W2 _ σ S1 _ n hl B2 (k1.imm.trans (KeepI.off hp1 fun z => z))⟩
    · exact w.elim
  · exact w.elim
theorem rs_extd {i : Nat} {e : VE} (hi : i < b.nN) (h : RdS b Γ Ev (.extd i e) D σ H) :
    ∃ v, σ[i]? = some (some v) ∧ tyV b.K "list" v H ∧ RdE b Γ Ev e σ H fun y H1 => rExtend v [y] H1 fun _ H2 => D.nx σ H2 := by
  obtain ⟨W, ε, hv, S, Dd, hl, B, w, d⟩ := h
  unfold wS at w
  split at w
  · rename_i s0 es
    split at w
    · rename_i xs ht
      obtain ⟨ho, w⟩ := w
      obtain ⟨vs, ev, hp, hr⟩ := own_at B (by omega) es ho ht
      refine ⟨_, ev, .inl ⟨rfl, vs, SqL.of hp⟩, W, ε, hv, S, _, _, hl, B, w, d.exr B, fun s y S1 H1 w1 k1 B1 o1 => ?_⟩
      obtain ⟨vs1, _, hp1, hr1⟩ := own_at B1 (by omega) es ho ht
      obtain ⟨F, p, o⟩ := o1
      have q := o.rep.rep
      have ok := o.ok
      have pr := fun j s' ej => (o.pr j s' ej).2
      revert w1 q
      cases s.t with
      | lst ys =>
        intro w1 q
        obtain ⟨hz, hiD, n⟩ := w1
        obtain ⟨a, ws, rfl, hq, _, hr2⟩ := q
        have fin : ∃ W2, BOk b W2 (setV (poison i s0.D ε) i { t := .lst (xs ++ ys), own := true, fr := s0.fr && (mkL ys s.fr s.D).fr, D := joinD s0.D (mkL ys s.fr s.D).D }) (σ ++ hv) S1 (upd H1 (W.p i) (.lst (vs1 ++ ws))) := by
          revert hiD
          unfold mkL
          split
          · rename_i him
            intro hiD
            exact grow B1 es ho ht hp1 hr1 (Reps.imm0 him hr2) ⟨fun _ q => q.elim, fun _ q => q.elim, fun _ _ q => q.elim, fun _ q => q.elim⟩ (fun _ q => q.elim) (fun _ _ _ _ _ q => q.elim) (by simp)
          · intro hiD
            exact grow B1 es ho ht hp1 hr1 hr2.off ok o.rs pr hiD
        obtain ⟨W2, B2⟩ := fin
        exact ⟨W.p i, a, vs1, ws, rfl, rfl, hp1, hq, by rw [← hr1.length, ← hr2.length]; exact hz, d.nx W2 _ σ S1 _ n hl B2 (k1.imm.trans (KeepI.off hp1 fun z => z))⟩
      | _ => intro w1; exact w1.elim
    · exact w.elim
  · exact w.elim
theorem rs_rai {c : Nat} {e : VE} (h : RdS b Γ Ev (.rai c e) D σ H) :
    RdE b Γ Ev e σ H fun v H1 => ∀ d, H1 d = none → Ev (.ref (Γ.cls c).cls) (some d) (upd H1 d (.xd [((Γ.cls c).fld, v)])) := by
  obtain ⟨W, ε, hv, S, Dd, hl, B, w, d⟩ := h
  unfold wS at w
  refine ⟨W, ε, hv, S, _, _, hl, B, w, d.exr B, fun s v S1 H1 w1 k1 B1 o1 => fun q hq => ?_⟩
  have B2 := B1.new (o := .xd [((Γ.cls c).fld, v)]) hq
  have k : Stp b.g S1 H1 S1 (upd H1 q (.xd [((Γ.cls c).fld, v)])) := .new hq
  obtain ⟨F, p, o⟩ := o1.step k
  exact d.ex (Γ.cls c) s S1 q v _ F w1 B2.st B2.si upd_same o.rep.rep o.ok

/-! ### several names at once -/
theorem rp_nil {QA : List V → Hp → Prop} (h : RdP b Γ Ev .nil σ H QA) : tNil σ H QA := by
  obtain ⟨W, ε, hv, S, Q, Xc, hl, B, w, hx, k⟩ := h
  unfold wPar at w
  exact k ε S W [] H w .refl (by simpa using B)
theorem rp_cons {e : VE} {r : VEs} {QA : List V → Hp → Prop} (h : RdP b Γ Ev (.cons e r) σ H QA) : tCons (RdE b Γ Ev e) (RdP b Γ Ev r) σ H QA := by
  obtain ⟨W, ε, hv, S, Q, Xc, hl, B, w, hx, k⟩ := h
  unfold wPar at w
  refine ⟨W, ε, hv, S, _, Xc, hl, B, w, hx, fun x v S1 H1 w1 k1 B1 o1 => ?_⟩
  obtain ⟨W1, B2, x2, _⟩ := one_src B1 hl o1.cl
  refine ⟨W1, push ε x.cl, hv ++ [some v], S1, _, Xc, hl, B2, w1, (hx.step k1).wide x2, fun ε1 S2 W2 vs H2 w2 k2 B3 => ?_⟩
  exact k ε1 S2 W2 (v :: vs) H2 w2 (k1.trans k2) (by simpa using B3)
def setAll : List Nat → List V → L2.St → L2.St
  | i :: is, v :: vs, σ => setAll is vs (σ.set i (some v))
  | _, _, σ => σ
theorem moveV_len {ε ε2 : VEnv} {h i : Nat} (e : moveV ε h i = some ε2) : ε2.length = ε.length := by
  unfold moveV at e
  split at e
  · cases e; rw [setV_length]; simp
  · cases e
theorem moveAll_len : ∀ {is : List Nat} {h : Nat} {ε ε2 : VEnv}, moveAll is h ε = some ε2 → ε2.length = ε.length
  | [], _, _, _, e => by cases e; rfl
  | i :: is, h, ε, ε2, e => by
    unfold moveAll at e
    cases q : moveV ε h i with
    | none => rw [q] at e; cases e
    | some ε1 => rw [q] at e; exact (moveAll_len e).trans (moveV_len q)
theorem moves : ∀ {is : List Nat} {vs us : List V} {W : Wit} {ε ε2 : VEnv} {σ : L2.St} {h : Nat}, BOk b W ε (σ ++ (hv ++ (us ++ vs).map some)) S H → σ.length = b.nN → (∀ i ∈ is, i < b.nN) → h = b.nN + hv.length + us.length → is.length = vs.length →
    moveAll is h ε = some ε2 → ∃ W2, BOk b W2 ε2 (setAll is vs σ ++ (hv ++ (us ++ vs).map some)) S H ∧ (setAll is vs σ).length = b.nN
  | [], [], us, W, ε, ε2, σ, h, B, hl, hi, hh, hs, e => by
    cases e
    exact ⟨W, B, hl⟩
  | i :: is, v :: vs, us, W, ε, ε2, σ, h, B, hl, hi, hh, hs, e => by
    unfold moveAll at e
    cases q : moveV ε h i with
    | none => rw [q] at e; cases e
    | some ε1 =>
      rw [q] at e
      have e : moveAll is (h + 1) ε1 = some ε2 := e
      unfold moveV at q
      split at q
      · rename_i s es
        cases q
        obtain ⟨v', ev, o⟩ := B.env.move es
        have ev2 : v' = v := by
          rw [List.getElem?_append_right (by omega), List.getElem?_append_right (by omega), show h - σ.length - hv.length = us.length by omega] at ev
          simpa using ev.symm
        subst ev2
        have B1 : BOk b W (ε.set h none) (σ ++ (hv ++ (us ++ v' :: vs).map some)) S H := ⟨B.env.kill h, B.st, B.si, B.rt⟩
        have hi0 := hi i List.mem_cons_self
        obtain ⟨W3, B3⟩ := B1.set (i := i) (by rw [List.length_append]; omega) ⟨_, _, o⟩
        rw [List.set_append_left _ _ (by omega)] at B3
        have el : us ++ v' :: vs = (us ++ [v']) ++ vs := by simp
        rw [el] at B3
        obtain ⟨W4, B4, hl4⟩ := moves (us := us ++ [v']) B3 (by simpa using hl) (fun j hj => hi j (List.mem_cons_of_mem _ hj)) (by simp; omega) (by simpa using hs) e
        rw [← el] at B4
        exact ⟨W4, B4, hl4⟩
      · cases q
  | [], _ :: _, _, _, _, _, _, _, _, _, _, _, hs, _ => by simp at hs
  | _ :: _, [], _, _, _, _, _, _, _, _, _, _, hs, _ => by simp at hs
theorem rs_par {is : List Nat} {es : VEs} (hi : ∀ i ∈ is, i < b.nN) (h : RdS b Γ Ev (.par is es) D σ H) :
    RdP b Γ Ev es σ H fun vs H1 => vs.length = is.length ∧ ∀ H2, (H2 = H1 ∨ ∃ p ws, H1 p = none ∧ H2 = upd H1 p (.tup ws)) → D.nx (setAll is vs σ) H2 := by
  obtain ⟨W, ε, hv, S, Dd, hl, B, w, d⟩ := h
  unfold wS at w
  refine ⟨W, ε, hv, S, _, _, hl, B, w, d.exr B, fun ε1 S1 W1 vs H1 w1 k1 B1 => ?_⟩
  obtain ⟨ε2, hm, hlen, n⟩ := w1
  have l0 := B.env.len
  have l1 := B1.env.len
  simp only [List.length_append, List.length_map] at l0 l1
  have hvl : vs.length = is.length := by omega
  refine ⟨hvl, fun H2 hH => ?_⟩
  have B2 : BOk b W1 ε1 (σ ++ (hv ++ vs.map some)) S1 H2 := by
    rcases hH with rfl | ⟨p, ws, hp, rfl⟩
    · exact B1
    · exact B1.new hp
  have ki : KeepI H1 H2 := by
    rcases hH with rfl | ⟨p, ws, hp, rfl⟩
    · exact KeepI.refl
    · exact fun a o _ e => by rw [upd_ne (ne_of_none e hp)]; exact e
  obtain ⟨W3, B3, hl3⟩ := moves (us := []) (hv := hv) (by simpa using B2) hl hi (h := ε.length) (by simp; omega) hvl.symm hm
  have B4 := B3.take ε.length
  rw [take_hv (by rw [List.length_append]; omega)] at B4
  exact d.nx W3 _ _ S1 H2 n hl3 B4 (k1.imm.trans ki)
end
end Vs

-- Vs12
namespace Vs
open PySem L2
section
variable {b : Bx} {Γ : Gam b.g.G} {Ev : XK} {W : Wit} {ε : VEnv} {σ : L2.St} {hv : List (Option V)} {S S' : b.g.G} {H H' : Hp} {Xc : KX b.g.G} {F : Addr → Prop}
/-! ### lists built item by item -/
theorem BOk.reserve {D : Addr} {o : HO} (B : BOk b W ε σ S H) (hD : H D = none) (k : Stp b.g S H S' H') (si : b.g.SI S' H') (h' : H' D = some o) : BOk b { W with rs := D :: W.rs } ε σ S' H' := by
  have B' := B.step k si
  refine ⟨⟨B'.env.len, B'.env.at_, B'.env.ok, B'.env.nw, fun i s e a f => ?_, B'.env.pr⟩, B'.st, B'.si, fun q hq => ?_⟩
  · show a ∉ D :: W.rs
    simp only [List.mem_cons, not_or]
    refine ⟨fun z => ?_, B.env.rs i s e a f⟩
    obtain ⟨o, e⟩ := (B.env.ok i s e).tr a f
    rw [z, hD] at e; cases e
  · rcases List.mem_cons.mp hq with rfl | hq
    · exact ⟨_, h'⟩
    · exact B'.rt q hq
theorem wipeV_length : ∀ {own : List Nat}, (wipeV ε own).length = ε.length
  | [] => rfl
  | _ :: r => by unfold wipeV; rw [List.length_set, wipeV_length]
theorem wipeV_some {j : Nat} {s : SV} : ∀ {own : List Nat}, (wipeV ε own)[j]? = some (some s) → ε[j]? = some (some s) ∧ j ∉ own
  | [], h => ⟨h, by simp⟩
  | i :: r, h => by
    unfold wipeV at h
    by_cases hi : i = j
    · subst hi
      by_cases hl : i < (wipeV ε r).length
      · rw [List.getElem?_set_self hl] at h; cases h
      · rw [List.getElem?_eq_none (by simpa using hl)] at h; cases h
    · rw [List.getElem?_set_ne hi] at h
      obtain ⟨h1, h2⟩ := wipeV_some h
      exact ⟨h1, by simp only [List.mem_cons, not_or]; exact ⟨fun z => hi z.symm, h2⟩⟩
theorem wipeV_get {j : Nat} : ∀ {own : List Nat}, j ∉ own → (wipeV ε own)[j]? = ε[j]?
  | [], _ => rfl
  | i :: r, h => by
    simp only [List.mem_cons, not_or] at h
    unfold wipeV
    rw [List.getElem?_set_ne (fun z => h.1 z.symm), wipeV_get h.2]
theorem wipe_get {j : Nat} : ∀ {own : List Nat}, j ∉ own → (wipe σ own)[j]? = σ[j]?
  | [], _ => rfl
  | i :: r, h => by
    simp only [List.mem_cons, not_or] at h
    unfold wipe
    rw [List.getElem?_set_ne (fun z => h.1 z.symm), wipe_get h.2]
theorem wipe_wipe {own : List Nat} : wipe (wipe σ own) own = wipe σ own := by
  apply List.ext_getElem?
  intro j
  by_cases hj : j ∈ own
  · have q : ∀ τ : L2.St, ∀ own : List Nat, j ∈ own → j < τ.length → (wipe τ own)[j]? = some none := by
      intro τ own
      induction own with
      | nil => intro h; simp at h
      | cons i r ih =>
        intro h hl
        unfold wipe
        by_cases hi : i = j
        · subst hi
          rw [List.getElem?_set_self (by rw [wipe_length]; exact hl)]
        · rw [List.getElem?_set_ne hi]
          rcases List.mem_cons.mp h with h | h
          · exact absurd h.symm hi
          · exact ih h hl
    by_cases hl : j < σ.length
    · rw [q _ _ hj (by rw [wipe_length]; exact hl), q _ _ hj hl]
    · rw [List.getElem?_eq_none (by simp [wipe_length]; omega), List.getElem?_eq_none (by simp [wipe_length]; omega)]
  · rw [wipe_get hj]
theorem BOk.wipe (B : BOk b W ε (σ ++ hv) S H) {own : List Nat} (ho : ∀ i ∈ own, i < σ.length) : BOk b W (wipeV ε own) (L2.wipe σ own ++ hv) S H := by
  have l0 := B.env.len
  rw [List.length_append] at l0
  refine ⟨⟨by rw [List.length_append, wipe_length, wipeV_length]; exact l0, fun i s e => ?_, fun i s e => B.env.ok i s (wipeV_some e).1, fun i s e => B.env.nw i s (wipeV_some e).1, fun i s e => B.env.rs i s (wipeV_some e).1,
    fun i s j s' e e' => B.env.pr i s j s' (wipeV_some e).1 (wipeV_some e').1⟩, B.st, B.si, B.rt⟩
  obtain ⟨e1, e2⟩ := wipeV_some e
  obtain ⟨v, ev, r⟩ := B.env.at_ i s e1
  refine ⟨v, ?_, r⟩
  by_cases hi : i < σ.length
  · rw [List.getElem?_append_left (by rw [wipe_length]; exact hi), wipe_get e2]
    rwa [List.getElem?_append_left hi] at ev
  · rw [List.getElem?_append_right (by rw [wipe_length]; omega), wipe_length]
    rwa [List.getElem?_append_right (by omega)] at ev
theorem SV2.app {σ1 σ2 : L2.St} (hlen : σ1.length = σ2.length) : ∀ {hs : List (Nat × T)} {sv : List (T × V)}, SV2 (σ1 ++ hv) hs sv → (∀ p ∈ hs, σ1.length ≤ p.1) → SV2 (σ2 ++ hv) hs sv
  | [], _, h, _ => h
  | (h, t) :: r, sv, ⟨v, q, e, ev, e2⟩, hh => by
    have h0 : σ1.length ≤ h := hh (h, t) List.mem_cons_self
    refine ⟨v, q, e, ?_, SV2.app hlen e2 fun p hp => hh p (List.mem_cons_of_mem _ hp)⟩
    rw [List.getElem?_append_right (by omega)] at ev ⊢
    rwa [← hlen]
/-- what is gathered so far -/
structure Gath (b : Bx) (W : Wit) (ε : VEnv) (D : Addr) (L : List Nat) (S : b.g.G) (H : Hp) (F : Addr → Prop) (vs : List V) (acc : List SV) : Prop where
  rep : Reps b.K H F (ts acc) vs
  ok : Okay b S H F (frs acc)
  rs : ∀ a, F a → a ∉ W.rs ∧ a ≠ D
  pr : ∀ j s', ε[j]? = some (some s') → j ∉ L → j ∉ Ds acc → ∀ a, F a → ¬ W.F j a
theorem Gath.nil {D : Addr} {L : List Nat} : Gath b W ε D L S H (fun _ => False) [] [] :=
  ⟨rfl, ⟨fun _ q => q.elim, fun _ q => q.elim, fun _ _ q => q.elim, fun _ q => q.elim⟩, fun _ q => q.elim, fun _ _ _ _ _ _ q => q.elim⟩
theorem ts_app {a c : List SV} : ts (a ++ c) = ts a ++ ts c := by simp [ts]
theorem frs_app {a c : List SV} : frs (a ++ c) = (frs a && frs c) := by simp [frs]
theorem Ds_app {a c : List SV} : Ds (a ++ c) = Ds a ++ Ds c := by simp [Ds]
theorem Gath.step {D : Addr} {L : List Nat} {vs : List V} {acc : List SV} (g : Gath b W ε D L S H F vs acc) (k : Stp b.g S H S' H') : Gath b W ε D L S' H' F vs acc :=
  ⟨Reps.keep k.imm (fun a f => ⟨f, g.ok.at_ k a f⟩) _ _ g.rep, g.ok.step k, g.rs, g.pr⟩
theorem Gath.add {D : Addr} {L : List Nat} {vs : List V} {acc : List SV} {v : V} {s : SV} (g : Gath b W ε D L S H F vs acc) {W' : Wit} {ε' : VEnv} (hrs : W'.rs = D :: W.rs) (hW : ∀ j, j ∉ L → W'.F j = W.F j) (o : VOk b W' ε' S H v s)
    (hε : ∀ j s', ε[j]? = some (some s') → j ∉ L → ∃ s2, ε'[j]? = some (some s2)) : ∃ F', Gath b W ε D L S H F' (vs ++ [v]) (acc ++ [s]) := by
  obtain ⟨F2, p, q⟩ := o
  refine ⟨fun a => F a ∨ F2 a, ?_, ⟨fun a f => f.elim (g.ok.ap a) (q.ok.ap a), fun a f => f.elim (g.ok.tr a) (q.ok.tr a), fun hf a f => ?_, fun a f => f.elim (g.ok.src a) (q.ok.src a)⟩, fun a f => ?_, fun j s' e hj hd a f => ?_⟩
  · rw [ts_app]
    exact Reps.append (Reps.keep KeepI.refl (fun a f => ⟨.inl f, fun _ z => z⟩) _ _ g.rep) (Reps.keep KeepI.refl (fun a f => ⟨.inr f, fun _ z => z⟩) _ _ (Reps.one q.rep.rep))
  · rw [frs_app] at hf
    have hf' : frs acc = true ∧ s.fr = true := by simpa [frs] using hf
    exact f.elim (g.ok.nw hf'.1 a) (q.ok.nw hf'.2 a)
  · rcases f with f | f
    · exact g.rs a f
    · have z := q.rs a f
      rw [hrs] at z
      simp only [List.mem_cons, not_or] at z
      exact ⟨z.2, z.1⟩
  · rw [Ds_app] at hd
    simp only [List.mem_append, not_or] at hd
    rcases f with f | f
    · exact g.pr j s' e hj hd.1 a f
    · obtain ⟨s2, e2⟩ := hε j s' e hj
      have z := (q.pr j s2 e2).2 (fun z => hd.2 (by simpa [Ds] using z)) a f
      rwa [hW j hj] at z
theorem Gath.poke {D : Addr} {L : List Nat} {vs : List V} {acc : List SV} {xs : List V} {o : HO} (g : Gath b W ε D L S H F vs acc) (hD : H D = some (.lst xs)) : Gath b W ε D L S (upd H D o) F vs acc := by
  have seq : KeepI H (upd H D o) := KeepI.off hD fun z => z
  refine ⟨Reps.keep seq (fun a f => ⟨f, fun u e => by rw [upd_ne (g.rs a f).2]; exact e⟩) _ _ g.rep, ⟨g.ok.ap, fun a f => ?_, g.ok.nw, g.ok.src⟩, g.rs, g.pr⟩
  rw [upd_ne (g.rs a f).2]
  exact g.ok.tr a f
/-- what was behind D is as it was -/
theorem Stp.poke {g : Glo} {S S' : g.G} {H H' : Hp} {D : Addr} {o : HO} (k : Stp g S H S' H') (hD : H D = Option.none) : Stp g S H S' (upd H' D o) := by
  refine ⟨fun a u hu hk => ?_, k.sa, fun a u hu => ?_⟩
  · rw [upd_ne (ne_of_none hu hD)]; exact k.keep a u hu hk
  · rw [upd_ne (ne_of_none hu hD)]; exact k.there a u hu
theorem Gath.fin {D : Addr} {L : List Nat} {vs : List V} {acc : List SV} (g : Gath b W ε D L S H F vs acc) (B : BOk b W ε σ S' H') (k : Stp b.g S' H' S H) (hD0 : H' D = none) (hD : H D = some (.lst vs)) (hA : ¬ b.g.SA S D) :
    VOk b W ε S H (.ref D) (mkL (ts acc) (frs acc) (L ++ Ds acc)) := by
  have n0 : b.H0 D = none := B.st.none hD0
  have out : ∀ i s', ε[i]? = some (some s') → ¬ W.F i D := fun i s' e f => by
    obtain ⟨o', e'⟩ := (B.env.ok i s' e).tr D f
    rw [hD0] at e'; cases e'
  have outp : ∀ i s', ε[i]? = some (some s') → s'.own = true → D ≠ W.p i := fun i s' e ho z => by
    obtain ⟨v', _, r⟩ := B.env.at_ i s' e
    unfold RepS at r
    rw [if_pos ho] at r
    exact out i s' e (z ▸ r.2.1)
  have Drs : D ∉ W.rs := fun hm => by
    obtain ⟨o', e'⟩ := B.rt D hm
    rw [hD0] at e'; cases e'
  unfold mkL
  split
  · rename_i hi
    refine ⟨fun a => a = D, D, ?_, ⟨fun a f => f ▸ hA, fun a f => ⟨_, f ▸ hD⟩, fun _ a f => f ▸ n0, fun a f => .inl (f ▸ n0)⟩, fun _ => n0, fun a f => f ▸ Drs, fun j s' e => ⟨fun _ => ⟨out j s' e, outp j s' e⟩, fun _ a f => f ▸ out j s' e⟩⟩
    unfold RepS
    rw [if_pos rfl]
    exact ⟨rfl, rfl, vs, hD, Reps.keep KeepI.refl (fun a f => f.elim) _ _ (Reps.imm0 hi g.rep)⟩
  · refine ⟨fun a => F a ∨ a = D, D, ?_, ⟨fun a f => f.elim (g.ok.ap a) fun f => f ▸ hA, fun a f => f.elim (g.ok.tr a) fun f => ⟨_, f ▸ hD⟩, fun hf a f => f.elim (g.ok.nw hf a) fun f => f ▸ n0, fun a f => f.elim (g.ok.src a) fun f => .inl (f ▸ n0)⟩,
      fun _ => n0, fun a f => f.elim (fun f => (g.rs a f).1) fun f => f ▸ Drs, fun j s' e => ⟨fun _ => ⟨out j s' e, outp j s' e⟩, fun hj a f => ?_⟩⟩
    · unfold RepS
      rw [if_pos rfl]
      exact ⟨rfl, .inr rfl, vs, hD, Reps.keep KeepI.refl (fun a f => ⟨⟨.inl f, (g.rs a f).2⟩, fun _ z => z⟩) _ _ g.rep⟩
    · have hj' : j ∉ L ∧ j ∉ Ds acc := by simpa [List.mem_append, not_or] using hj
      rcases f with f | f
      · exact g.pr j s' e hj'.1 hj'.2 a f
      · exact f ▸ out j s' e
def tCond (b : Bx) (Γ : Gam b.g.G) : VEs → TT
  | .nil => tYes
  | .cons c .nil => RdT b Γ E0 c
  | _ => fun _ _ _ => False
theorem rd_cond {cond : VEs} {QT : Bool → Hp → Prop} {K : Bool → b.g.G → Prop} (hl : σ.length = b.nN) (B : BOk b W ε (σ ++ hv) S H) (w : wC Γ cond ε S K (fun _ _ _ => False))
    (k : ∀ c S' H', K c S' → Stp b.g S H S' H' → BOk b W ε (σ ++ hv) S' H' → QT c H') : tCond b Γ cond σ H QT := by
  match cond, w with
  | .nil, w =>
    unfold wC at w
    exact k true S H w .refl B
  | .cons c .nil, w =>
    unfold wC at w
    exact ⟨W, ε, hv, S, K, _, hl, B, w, fun _ _ _ _ _ _ z => z.elim, k⟩
  | .cons c (.cons _ _), w =>
    unfold wC at w
    exact w.elim
theorem hid_wipe {own : List Nat} : ∀ {hs : List (Nat × T)}, hidE ε hs → (∀ p ∈ hs, p.1 ∉ own) → hidE (wipeV ε own) hs
  | [], _, _ => trivial
  | (h, t) :: r, hh, hn => by
    unfold hidE at hh ⊢
    rw [wipeV_get (hn (h, t) List.mem_cons_self)]
    exact ⟨hh.1, hid_wipe hh.2 fun p hp => hn p (List.mem_cons_of_mem _ hp)⟩
theorem rd_comp {it : VI} {tg : VT} {own : List Nat} {cond : VEs} {elt : VE} {Q' : VK} (ho : ∀ i ∈ own, i < b.nN) (ht : ∀ i ∈ slotsT tg, i ∈ own) (h : RdE b Γ Ev (.comp it tg own cond elt) σ H Q') :
    tLc (RdI b Γ Ev it) (RdG b tg) (tCond b Γ cond) (RdE b Γ E0 elt) own σ H Q' := by
  obtain ⟨W, ε, hv, S, Q, Xc, hl, B, w, hx, k⟩ := h
  unfold wE at w
  refine ⟨W, ε, hv, S, _, Xc, hl, B, w, hx, fun items hs ε1 S1 W1 hv1 sv J H1 w1 k1 B1 x1 hsv hid hge wk => ?_⟩
  obtain ⟨hidr, w1⟩ := w1
  have l0 := B.env.len
  rw [List.length_append] at l0
  intro D hD
  have hlw : (wipe σ own).length = b.nN := by rw [wipe_length]; exact hl
  have notA : ∀ {S2 S3 : b.g.G} {H2 H3 : Hp}, Stp b.g S2 H2 S3 H3 → (∃ o, H2 D = some o) → ¬ b.g.SA S2 D → ¬ b.g.SA S3 D := fun k2 e n z => by
    obtain ⟨o, e⟩ := e
    rcases k2.sa D z with z | z
    · exact n z
    · rw [e] at z; cases z
  have nA1 : ¬ b.g.SA S1 D := Glo.notSA B1.si hD
  refine ⟨fun i m H' => m = items.length - i ∧ i ≤ items.length ∧ ∃ S' F vs acc, Stp b.g S1 H1 S' H' ∧ b.g.SI S' H' ∧ H' D = some (.lst vs) ∧ ¬ b.g.SA S' D ∧ Gath b W1 ε1 D (own ++ slotsT tg) S' H' F vs acc ∧
      wComp tg hs (wipeV ε1 own) (fun ε2 S2 K => wC Γ cond ε2 S2 K (fun _ _ _ => False)) (fun ε2 S2 K => wE Γ elt ε2 S2 K (fun _ _ _ => False)) own Q (items.drop i) acc S',
    ⟨_, rfl, Nat.zero_le _, S1, _, [], [], .new hD, Glo.new B1.si hD, upd_same, nA1, Gath.nil, w1⟩, ?_⟩
  rintro i m H2 ⟨rfl, hi, S2, F, vs, acc, k2, si2, hD2, nA2, g2, w2⟩
  have B2 := B1.reserve hD k2 si2 hD2
  have C2 := B2.wipe (own := own) (fun i hi => by rw [hl]; exact ho i hi)
  have svw : SV2 (wipe σ own ++ (hv ++ hv1)) hs sv := hsv _ hlw
  have some2 := src_some C2 svw hidr
  have ki2 : KeepI H1 H2 := k2.imm
  by_cases hlt : i < items.length
  · obtain ⟨t, rest, ed⟩ : ∃ t rest, items.drop i = t :: rest := by
      cases e : items.drop i with
      | nil => have := List.drop_eq_nil_iff.mp e; omega
      | cons t r => exact ⟨t, r, rfl⟩
    have et : items[i]? = some t := by
      have e := congrArg (fun l => l[0]?) ed
      simpa using e
    have er : items.drop (i + 1) = rest := by
      rw [← List.drop_drop, ed]; rfl
    rw [ed] at w2
    unfold wComp at w2
    refine .inr ⟨wk.go i H2 ki2 some2 hlt, fun H' => ∃ S' F vs acc, Stp b.g S1 H1 S' H' ∧ b.g.SI S' H' ∧ H' D = some (.lst vs) ∧ ¬ b.g.SA S' D ∧ Gath b W1 ε1 D (own ++ slotsT tg) S' H' F vs acc ∧
        wComp tg hs (wipeV ε1 own) (fun ε2 S2 K => wC Γ cond ε2 S2 K (fun _ _ _ => False)) (fun ε2 S2 K => wE Γ elt ε2 S2 K (fun _ _ _ => False)) own Q rest acc S',
      fun H' hN => ⟨items.length - (i + 1), by omega, rfl, hlt, by rw [er]; exact hN⟩, fun y H3 hy => ?_⟩
    obtain ⟨t', et', k3, B3, o3⟩ := item_ok C2 svw hidr wk ki2 hlt hy
    rw [et] at et'
    cases et'
    refine ⟨_, _, hv ++ hv1, S2, _, _, hlw, B3, o3, w2, fun W4 ε4 σ4 n4 B4 a4 t4 => ?_⟩
    have hl4 : σ4.length = b.nN := t4.1.trans hlw
    refine ⟨(t4.2 own ht).trans wipe_wipe, rd_cond hl4 B4 n4 fun c S5 H5 n5 k5 B5 => ?_⟩
    have k35 := k3.trans k5
    have k15 : Stp b.g S1 H1 S5 H5 := k2.trans k35
    have hD5 : H5 D = some (.lst vs) := k35.keep D _ hD2 (.inl nA2)
    have nA5 : ¬ b.g.SA S5 D := notA k35 ⟨_, hD2⟩ nA2
    have g5 := g2.step k35
    cases c with
    | false => exact ⟨S5, F, vs, acc, k15, B5.si, hD5, nA5, g5, n5⟩
    | true =>
      refine ⟨W4, ε4, hv ++ hv1, S5, _, _, hl4, B5, n5, fun _ _ _ _ _ _ z => z.elim, fun s y2 S6 H6 n6 k6 B6 o6 => ?_⟩
      obtain ⟨hz, n6⟩ := n6
      have k16 := k15.trans k6
      have hD6 : H6 D = some (.lst vs) := k6.keep D _ hD5 (.inl nA5)
      have nA6 : ¬ b.g.SA S6 D := notA k6 ⟨_, hD5⟩ nA5
      have g6 := g5.step k6
      have hL : ∀ j, j ∉ own ++ slotsT tg → j ∉ own ∧ j ∉ slotsT tg := fun j hj => by simpa [List.mem_append, not_or] using hj
      obtain ⟨F7, g7⟩ := g6.add (W' := W4) (ε' := ε4) a4.rs (fun j hj => (a4.ag j (hL j hj).2).1) o6.cl (fun j s' e hj => by
        have e' : (wipeV ε1 own)[j]? = some (some s') := by rw [wipeV_get (hL j hj).1]; exact e
        obtain ⟨s2, e2, _⟩ := a4.al j (hL j hj).2 s' e'
        exact ⟨s2, e2⟩)
      refine ⟨vs, hD6, ?_, S6, F7, vs ++ [y2], acc ++ [s.cl], k16.poke hD, ?_, upd_same, nA6, g7.poke hD6, n6⟩
      · have e := g6.rep.length
        rw [← e]
        simpa [ts] using hz
      · refine b.g.stab B6.si (fun a ha => upd_ne (fun z => nA6 (z ▸ ha))) fun a u iu eu => ?_
        rw [upd_ne (fun z => by rw [z, hD6] at eu; cases eu; exact iu)]
        exact eu
  · have ei : i = items.length := by omega
    subst ei
    rw [List.drop_length] at w2
    unfold wComp at w2
    have o := g2.fin B1 k2 hD hD2 nA2
    have B2' := B1.step k2 si2
    refine .inl ⟨wk.stop _ H2 ki2 some2 (Nat.le_refl _), k _ _ S2 H2 w2 (k1.trans k2) (B.step (k1.trans k2) si2) (o.narrow x1)⟩
end
end Vs

-- Vs13
namespace Vs
open PySem PySem.Spec PyProof.Rows L2

/-! ### weaker readings -/
section
variable {X : Cx}
theorem we {e : Expr} {t t' : TE} (h : PE X e t) (w : ∀ {σ H Q}, t' σ H Q → t σ H Q) : PE X e t' := ⟨fun pins s σ H Q I q => h.run pins s σ H Q I (w q)⟩
theorem wt {e : Expr} {t t' : TT} (h : PT X e t) (w : ∀ {σ H Q}, t' σ H Q → t σ H Q) : PT X e t' := ⟨fun pins s σ H Q I q => h.run pins s σ H Q I (w q)⟩
theorem ww {e : Expr} {t t' : TT} (h : PW X e t) (w : ∀ {σ H Q}, t' σ H Q → t σ H Q) : PW X e t' := ⟨fun wh pins s σ H Q I q => h.run wh pins s σ H Q I (w q)⟩
theorem wts {e : List Expr} {t t' : TT} (h : PTs X e t) (w : ∀ {σ H Q}, t' σ H Q → t σ H Q) : PTs X e t' := ⟨fun pins s σ H Q I q => h.run pins s σ H Q I (w q)⟩
theorem wa {e : List Expr} {t t' : TA} (h : PA X e t) (w : ∀ {σ H Q}, t' σ H Q → t σ H Q) : PA X e t' := ⟨fun pos pins s σ H Q I q => h.run pos pins s σ H Q I (w q)⟩
theorem ws {e : Stmt} {t t' : TS} (h : PS X e t) (w : ∀ {D σ H}, t' D σ H → t D σ H) : PS X e t' := ⟨fun pins s σ H D I q => h.run pins s σ H D I (w q)⟩
theorem wss {e : List Stmt} {t t' : TS} (h : PSs X e t) (w : ∀ {D σ H}, t' D σ H → t D σ H) : PSs X e t' := ⟨fun pins s σ H D I q => h.run pins s σ H D I (w q)⟩
theorem wgt {e : Expr} {t t' : TG} (h : PG X e t) (w : ∀ {v σ H Q}, t' v σ H Q → t v σ H Q) : PG X e t' := by
  obtain ⟨h⟩ := h
  constructor
  intros
  rename_i q
  refine h _ _ _ _ _ _ _ ?_ ?_ (w q) <;> assumption
theorem wgts {e : List Expr} {t t' : TGs} (h : PGs X e t) (w : ∀ {v σ H Q}, t' v σ H Q → t v σ H Q) : PGs X e t' := by
  obtain ⟨h⟩ := h
  constructor
  intros
  rename_i q
  refine h _ _ _ _ _ _ _ ?_ ?_ (w q) <;> assumption
theorem wi {tg e : Expr} {t t' : TI} (h : PI X tg e t) (w : ∀ {σ H R}, t' σ H R → t σ H R) : PI X tg e t' := ⟨fun pins s σ H R I q => h.run pins s σ H R I (w q)⟩
end

/-- a context for the readings -/
structure Cok (X : Cx) (b : Bx) (Ev : XK) : Prop where
  K : b.K = X.K
  nN : b.nN = X.N.length
  calm : X.calm = true
  nd : X.N.Nodup
  hu : X.A.units + 64 < cLine
  tk : Takes X (fun cls d _ H => Ev cls d H)
section
variable {X : Cx} {b : Bx} {Γ : Gam b.g.G} {Ev : XK}
theorem Cok.lt (C : Cok X b Ev) {i : Nat} {x : Str} (h : X.N[i]? = some x) : i < b.nN := by
  rw [C.nN]
  exact (List.getElem?_eq_some_iff.mp h).1
theorem Cok.blk (C : Cok X b Ev) {s : Shared} {H : Hp} {scope : Scope} {ce : Env} {fp : List Addr} : Cok (X.blk s H scope ce fp) b E0 :=
  ⟨C.K, C.nN, C.calm, C.nd, C.hu, fun u s' x => takes0 u s' x⟩
variable {a c e : Expr} {es : List Expr} {va vc ve vd : VE} {ves : VEs} {pos p p2 p3 : Pos} {x : Str}

/-! ### expressions -/
theorem de_v (C : Cok X b Ev) (i : Nat) (hN : X.N[i]? = some x := by rfl) (hv : Vis X.env.scope x := by first | exact Or.inl rfl | exact Or.inr (Or.inl rfl) | exact Or.inr (Or.inr rfl)) (hd : (x == ("__debug__" : Str)) = false := by decide)
    (hcd : (x == ("__classdict__" : Str)) = false := by decide) : PE X (.Name x pos) (RdE b Γ Ev (.v i)) := we (pe_var hN hv hd hcd) (rd_v (C.lt hN))
theorem de_int {i : Int} {j} : PE X (.Constant (.int i) j pos) (RdE b Γ Ev (.k (.int i))) := we pe_int (rd_k (fun _ => rfl) rfl)
theorem de_str {i : Str} {j} : PE X (.Constant (.str i) j pos) (RdE b Γ Ev (.k (.str i))) := we pe_str (rd_k (fun _ => rfl) rfl)
theorem de_bl {i : Bool} {j} : PE X (.Constant (.bool i) j pos) (RdE b Γ Ev (.k (.bl i))) := we pe_bl (rd_k (fun _ => rfl) rfl)
theorem de_non {j} : PE X (.Constant .none j pos) (RdE b Γ Ev (.k .non)) := we pe_non (rd_k (fun _ => rfl) rfl)
theorem pe_dnF : PE X (.Dict [] [] pos) tDnF := ⟨fun pins s σ H Q I h => by
  refine thn (pe_dnewK.run pins s σ H (fun v H1 => ∃ p, v = .ref p ∧ H p = none ∧ H1 = upd H p (.dK [])) I fun p hp => ⟨p, rfl, hp, rfl⟩) fun u s1 hh => ?_
  obtain ⟨v, H1, I1, r1, p, rfl, hp, rfl⟩ := hh
  obtain ⟨od, J⟩ := I1.lock (d := p) upd_same trivial
  rw [upd_upd] at J
  exact ⟨.ref p, _, J, r1, h p od hp⟩⟩
theorem pe_itemsF {e : Expr} {te : TE} {p apos cpos pos : Pos} (calm : X.calm = true) (he : PE X e te) (gl : Gl X "list") (no : X.mg "list" = none) (base : attributeBase e "items" X.env (eval e X.env) = eval e X.env := by rfl) (line : (apos.endLine == cpos.line) = true := by rfl)
    (star : starEach [.Call (.Attribute e "items" apos) [] [] cpos] X.env = (false, eval (.Call (.Attribute e "items" apos) [] [] cpos) X.env) :: starEach [] X.env := by rfl) :
    PE X (.Call (.Name "list" p) [.Call (.Attribute e "items" apos) [] [] cpos] [] pos) (fun σ H Q => te σ H fun x H1 => rItemsF x H1 Q) := by
  refine ⟨fun pins s σ H Q I given => wpAny_Call_Name_kw (ld_blt I gl no (by rfl) (PyProof.Rows.callWith_type1 ?_ star rfl))⟩
  rw [star]
  show wpAny _ _ (spliced ((false, eval (.Call (.Attribute e "items" apos) [] [] cpos) X.env) :: backTo pos (starEach [] X.env))) _ _ s
  refine Calls.spliced_cons (wpAny_Call_method (T := "dict") (id := "dict.items") base rfl line F.plainAttrs_dict F.slot_dict_items F.type_dict_items (thn (he.run pins s σ H _ I given) fun u s1 got => ?_))
  obtain ⟨x, H1, I1, rx, d, ob, kvs, rfl, locked, want⟩ := got
  obtain rfl : u = Value.ref d := rx
  obtain ⟨_, small, notSys, vs, kv, isD⟩ := I1.hok d _ locked
  obtain ⟨ep, place⟩ := isD.dictAt
  have same : kvs.length = vs.length := Paired.length kv
  have I2 : Inv X pins σ H1 { s1 with heap := s1.heap.push { cls := .type "dict_items", data := .fields #[.ref d] } } := I1.kept (t' := s1.toks) fun b ob q => Heap.get?_push_of_some _ q
  refine ⟨isD.typeIs, isD.mapOf.noDict, ?_⟩
  show wpAny _ _ (callWith cpos (.builtin "dict.items") [.ref d] [] []) _ X.xe s1
  refine method_meetsIn F.slot_dict_items F.entry_dict_items rfl (PySem.evalArgs_none ⟨rfl, isD.typeIs, F.args_dict_items_1 _, _, meets_dict_items (mixKind X.prog X.w) d notSys, ⟨vs, isD⟩, Calls.spliced_nil ?_⟩)
  refine PySem.W.kdx_call (knd := mixKind X.prog X.w) (kvs := vs) (ep := ep) (I1.ok.hd calm) ⟨_, Heap.get?_push_size _ rfl, rfl, rfl⟩ (place.push _) (by omega) fun h' tk acc c as hk hS hl hG hacc => ?_
  obtain ⟨H', k1, k2, _, _, k5, k6, J⟩ := LiI.items_laid (tk := tk) I2 small kv hk hS hl hG hacc
  exact ⟨.ref _, H', J, rfl, want H' _ as k1 k2 k5 k6⟩
theorem de_its {e : Expr} {ve : VE} {p apos cpos pos : Pos} (C : Cok X b Ev) (no : X.mg "list" = none) (he : PE X e (RdE b Γ Ev ve)) (gl : Gl X "list" := by rfl) (base : attributeBase e "items" X.env (eval e X.env) = eval e X.env := by rfl) (line : (apos.endLine == cpos.line) = true := by rfl)
    (star : starEach [.Call (.Attribute e "items" apos) [] [] cpos] X.env = (false, eval (.Call (.Attribute e "items" apos) [] [] cpos) X.env) :: starEach [] X.env := by rfl) :
    PE X (.Call (.Name "list" p) [.Call (.Attribute e "items" apos) [] [] cpos] [] pos) (RdE b Γ Ev (.its ve)) := we (pe_itemsF C.calm he gl no base line star) rd_its
theorem de_dn : PE X (.Dict [] [] pos) (RdE b Γ Ev .dn) := we pe_dnF rd_dn
theorem de_g {n : Nat} {v : V} {u : Value} (hm : X.mg x = some u) (r : RelV v u) (hr : ∀ H, Rep b.K H (fun _ => False) (Γ.con n) v) (hi : imm (Γ.con n) = true) (hg : Gl X x := by rfl) (hd : (x == ("__debug__" : Str)) = false := by decide) :
    PE X (.Name x pos) (RdE b Γ Ev (.g n)) := we (pe_glob hg hm r hd) (rd_g hr hi)
theorem de_bin (C : Cok X b Ev) {op : Operator} (ha : PE X a (RdE b Γ Ev va)) (hc : PE X c (RdE b Γ Ev vc)) : PE X (.BinOp a op c pos) (RdE b Γ Ev (.bin op va vc)) :=
  we (pe_op (by rw [C.K]; exact op_bin op) ha hc) rd_bin
theorem de_cmp (C : Cok X b Ev) {op : CmpOp} (ha : PE X a (RdE b Γ Ev va)) (hc : PE X c (RdE b Γ Ev vc)) (hm : behindInMarks op c = false := by rfl) : PE X (.Compare a [op] [c] pos) (RdE b Γ Ev (.cmp op va vc)) :=
  we (pe_cmpR (by rw [C.K]; exact op_cmp C.hu op) ha hc hm) rd_cmp
theorem de_chain (C : Cok X b Ev) {o1 o2 : CmpOp} (ha : PE X a (RdE b Γ Ev va)) (hc : PE X c (RdE b Γ Ev vc)) (he : PE X e (RdE b Γ Ev ve)) (hm : lastMarks [o1, o2] [c, e] = false := by rfl) : PE X (.Compare a [o1, o2] [c, e] pos) (RdE b Γ Ev (.chain o1 o2 va vc ve)) :=
  we (pe_chain (by rw [C.K]; exact op_cmp C.hu o1) (by rw [C.K]; exact op_cmp C.hu o2) ha hc he hm) rd_chain
theorem de_neg (ha : PE X a (RdE b Γ Ev va)) : PE X (.UnaryOp .USub a pos) (RdE b Γ Ev (.neg va)) := we (pe_un un_neg ha) rd_neg
theorem de_not (C : Cok X b Ev) (ha : PE X a (RdE b Γ Ev va)) : PE X (.UnaryOp .Not a pos) (RdE b Γ Ev (.not va)) := we (pe_notT ha) (by rw [← C.K]; exact rd_not)
theorem de_one {op} (ha : PE X a (RdE b Γ Ev va)) : PE X (.BoolOp op [a] pos) (RdE b Γ Ev va) := pe_one ha
theorem de_and (C : Cok X b Ev) {r : List Expr} (ha : PE X a (RdE b Γ Ev va)) (hc : PE X (.BoolOp .And (c :: r) pos) (RdE b Γ Ev vc)) : PE X (.BoolOp .And (a :: c :: r) pos) (RdE b Γ Ev (.and va vc)) := we (pe_andT ha hc) (by rw [← C.K]; exact rd_and)
theorem de_or (C : Cok X b Ev) {r : List Expr} (ha : PE X a (RdE b Γ Ev va)) (hc : PE X (.BoolOp .Or (c :: r) pos) (RdE b Γ Ev vc)) : PE X (.BoolOp .Or (a :: c :: r) pos) (RdE b Γ Ev (.or va vc)) := we (pe_orT ha hc) (by rw [← C.K]; exact rd_or)
theorem de_ife (hc : PT X c (RdT b Γ Ev vc)) (ha : PE X a (RdE b Γ Ev va)) (he : PE X e (RdE b Γ Ev ve)) : PE X (.IfExp c a e pos) (RdE b Γ Ev (.ife vc va ve)) := we (pe_ifExp hc ha he) rd_ife
theorem das_nil : PA X [] (RdEs b Γ Ev .nil) := wa pa_nil rds_nil
theorem das_cons (ha : PE X a (RdE b Γ Ev va)) (hr : PA X es (RdEs b Γ Ev ves)) (hs : starEach (a :: es) X.env = (false, eval a X.env) :: starEach es X.env := by rfl) : PA X (a :: es) (RdEs b Γ Ev (.cons va ves)) := wa (pa_cons ha hr hs) rds_cons
theorem de_tup {x1} (h : PA X es (RdEs b Γ Ev ves)) : PE X (.Tuple es x1 pos) (RdE b Γ Ev (.tup ves)) := we (pe_tup h) rd_tup
theorem de_lst (h : PA X es (RdEs b Γ Ev ves)) : PE X (.List es pos) (RdE b Γ Ev (.lst ves)) := we (pe_lst h) rd_lst
theorem de_ix (C : Cok X b Ev) (ha : PE X a (RdE b Γ Ev va)) (hc : PE X c (RdE b Γ Ev vc)) (hs : PlainIx c := by intro o i; rfl) : PE X (.Subscript a c pos) (RdE b Γ Ev (.ix va vc)) := we (pe_ix ix_seq ha hc hs) (by rw [← C.K]; exact rd_ix)
theorem dpo_none : PO X none tNoPart := po_none
theorem dpo_some (h : PE X e (RdE b Γ Ev ve)) : PO X (some e) (tPart (RdE b Γ Ev ve)) := po_some h
theorem de_sl00 (C : Cok X b Ev) (ha : PE X a (RdE b Γ Ev va)) : PE X (.Subscript a (.Slice none none none p2) pos) (RdE b Γ Ev (.sl false false va .nil)) :=
  we (pe_slice (by rw [C.K]; exact sl_any) ha po_none po_none) (rd_sl (lo := none) (hi := none) rfl)
theorem de_sl10 (C : Cok X b Ev) (ha : PE X a (RdE b Γ Ev va)) (hc : PE X c (RdE b Γ Ev vc)) : PE X (.Subscript a (.Slice (some c) none none p2) pos) (RdE b Γ Ev (.sl true false va (.cons vc .nil))) :=
  we (pe_slice (by rw [C.K]; exact sl_any) ha (po_some hc) po_none) (rd_sl (lo := some vc) (hi := none) rfl)
theorem de_sl01 (C : Cok X b Ev) (ha : PE X a (RdE b Γ Ev va)) (hc : PE X c (RdE b Γ Ev vc)) : PE X (.Subscript a (.Slice none (some c) none p2) pos) (RdE b Γ Ev (.sl false true va (.cons vc .nil))) :=
  we (pe_slice (by rw [C.K]; exact sl_any) ha po_none (po_some hc)) (rd_sl (lo := none) (hi := some vc) rfl)
theorem de_sl11 (C : Cok X b Ev) (ha : PE X a (RdE b Γ Ev va)) (hc : PE X c (RdE b Γ Ev vc)) (he : PE X e (RdE b Γ Ev ve)) : PE X (.Subscript a (.Slice (some c) (some e) none p2) pos) (RdE b Γ Ev (.sl true true va (.cons vc (.cons ve .nil)))) :=
  we (pe_slice (by rw [C.K]; exact sl_any) ha (po_some hc) (po_some he)) (rd_sl (lo := some vc) (hi := some ve) rfl)
theorem de_biB (C : Cok X b Ev) (id : BI) {n : String} (hn0 : biV id = .builtin n) (hm : X.mg x = none) (ha : PA X (e :: es) (RdEs b Γ Ev ves)) (hg : Gl X x := by rfl) (hv : bootBuiltins x = some (.builtin n) := by rfl) (hn : x ≠ "__name__" := by decide) (hdb : (x == ("__debug__" : Str)) = false := by decide)
    (he : starEach (e :: es) X.env = (false, eval e X.env) :: starEach es X.env := by rfl) (hpl : (backTo pos (starEach es X.env)).any (·.1) = false := by rfl) : PE X (.Call (.Name x p) (e :: es) [] pos) (RdE b Γ Ev (.bi id ves)) :=
  we (pe_callB (r := rBi b.K id) (by rw [C.K, ← hn0]; exact call_bi C.calm id) hg hm hv ha hn hdb he hpl) rd_bi
theorem de_biT (C : Cok X b Ev) (id : BI) {n : String} (hn0 : biV id = .type n) (hm : X.mg x = none) (ha : PA X (e :: es) (RdEs b Γ Ev ves)) (hg : Gl X x := by rfl) (hv : bootBuiltins x = some (.type n) := by rfl) (hn : x ≠ "__name__" := by decide) (hdb : (x == ("__debug__" : Str)) = false := by decide)
    (he : starEach (e :: es) X.env = (false, eval e X.env) :: starEach es X.env := by rfl) (hpl : (backTo pos (starEach es X.env)).any (·.1) = false := by rfl) : PE X (.Call (.Name x p) (e :: es) [] pos) (RdE b Γ Ev (.bi id ves)) :=
  we (pe_callTy (r := rBi b.K id) (by rw [C.K, ← hn0]; exact call_bi C.calm id) hg hm hv ha hn hdb he hpl) rd_bi
theorem RdE.mono {σ : L2.St} {H : Hp} {Q Q' : VK} (h : RdE b Γ Ev ve σ H Q) (k : ∀ v H', Q v H' → Q' v H') : RdE b Γ Ev ve σ H Q' := by
  obtain ⟨W, ε, hv, S, Qs, Xc, hl, B, w, hx, q⟩ := h
  exact ⟨W, ε, hv, S, Qs, Xc, hl, B, w, hx, fun s v S' H' h1 h2 h3 h4 => k v H' (q s v S' H' h1 h2 h3 h4)⟩
theorem de_me0 (C : Cok X b Ev) (id : ME) {name : Str} {n : String} {apos cpos : Pos} (e1 : (meN id).2.2 = n) (e0 : (meN id).1 = "str") (slot : Slot "str" name n) (hty : typeOf (.builtin n) = pure (.type "method_descriptor")) (ho : PE X a (RdE b Γ Ev va))
    (hbase : attributeBase a name X.env (eval a X.env) = eval a X.env := by rfl) (hline : (apos.endLine == cpos.line) = true := by rfl) : PE X (.Call (.Attribute a name apos) [] [] cpos) (RdE b Γ Ev (.me id va .nil)) :=
  we (pe_bm0 (r := rMe b.K id) F.plainAttrs_str slot hty (by rw [C.K, ← e1]; exact mt_me C.calm id) ho hbase hline) fun h => RdE.mono (rd_me h) fun v H' ⟨h1, h2⟩ => by
    rw [← C.K, ← e0]
    exact ⟨h1, rds_nil h2⟩
theorem de_me (C : Cok X b Ev) (id : ME) {name : Str} {n : String} {apos cpos : Pos} (e1 : (meN id).2.2 = n) (e0 : (meN id).1 = "str") (slot : Slot "str" name n) (hty : typeOf (.builtin n) = pure (.type "method_descriptor")) (ho : PE X a (RdE b Γ Ev va)) (ha : PA X (e :: es) (RdEs b Γ Ev ves))
    (hbase : attributeBase a name X.env (eval a X.env) = eval a X.env := by rfl)
    (hfew : ((backTo cpos (starEach (e :: es) X.env)).all (fun x => !x.1) && (backToKw cpos (keywordEach [] X.env)).all (fun x => x.1.isSome)
      && decide ((e :: es).length + ([] : List Keyword).length + (if ([] : List Keyword).isEmpty then 0 else 1) < 30)) = true := by rfl)
    (hline : (apos.endLine == cpos.line) = true := by rfl) (hs : starEach (e :: es) X.env = (false, eval e X.env) :: starEach es X.env := by rfl) (hplain : (backTo cpos (starEach es X.env)).any (·.1) = false := by rfl) : PE X (.Call (.Attribute a name apos) (e :: es) [] cpos) (RdE b Γ Ev (.me id va ves)) :=
  we (pe_bm (r := rMe b.K id) F.plainAttrs_str slot hty (by rw [C.K, ← e1]; exact mt_me C.calm id) ho ha hbase hfew hline hs hplain) (by rw [← C.K, ← e0]; exact rd_me)
theorem de_call (C : Cok X b Ev) {k : Nat} {f : Addr} {n : Nat} {fd : FuncData} {ps : List Str} (F : FnOk X.prog X.w X.K X.mg X.base (L2.CX X.prog X.w) k f fd ps (spC b.K b.g (Γ.ar n) (Γ.fn n))) (hr : Room k X.A) (hm : X.mg x = some (.ref f)) (hk : PySem.W.keepIn X.K (.ref f) = true) (hb : Binds X.K fd ps [])
    (ha : PA X (e :: es) (RdEs b Γ Ev ves)) (hg : Gl X x := by rfl) (hdb : (x == ("__debug__" : Str)) = false := by decide) (he : starEach (e :: es) X.env = (false, eval e X.env) :: starEach es X.env := by rfl) (hpl : (backTo pos (starEach es X.env)).any (·.1) = false := by rfl) :
    PE X (.Call (.Name x p) (e :: es) [] pos) (RdE b Γ Ev (.call n ves)) :=
  we (pe_callS (E := fun _ => Ev) F hr hg hm hk hb (fun σ => passAt C.tk σ) ha hdb he hpl) rd_call
theorem de_comp (C : Cok X b Ev) {elt tg iter : Expr} {ifs : List Expr} {scope : Scope} {own : List (Str × Nat)} {it : VI} {vt : VT} {cond : VEs} (hi : PI X tg iter (RdI b Γ Ev it)) (ok : BlkOk X.N X.env.scope scope own)
    (hg : ∀ (s : Shared) (H : Hp) (L : Addr) (cl : List (Str × Addr)) (fp : List Addr), Cok (X.blk s H scope (compEnvC scope cl L X.env) fp) b E0 → PG (X.blk s H scope (compEnvC scope cl L X.env) fp) tg (RdG b vt))
    (ht : ∀ (s : Shared) (H : Hp) (L : Addr) (cl : List (Str × Addr)) (fp : List Addr), Cok (X.blk s H scope (compEnvC scope cl L X.env) fp) b E0 → PTs (X.blk s H scope (compEnvC scope cl L X.env) fp) ifs (tCond b Γ cond))
    (he : ∀ (s : Shared) (H : Hp) (L : Addr) (cl : List (Str × Addr)) (fp : List Addr), Cok (X.blk s H scope (compEnvC scope cl L X.env) fp) b E0 → PE (X.blk s H scope (compEnvC scope cl L X.env) fp) elt (RdE b Γ E0 ve))
    (hsub : (slotsT vt).all (fun i => (own.map (·.2)).contains i) = true := by decide) (hs : ∀ x, foldedSetIterable iter X.env x = pure x := by intro _; rfl) :
    PE X (.ListComp elt [⟨tg, iter, ifs, 0⟩] scope pos) (RdE b Γ Ev (.comp it vt (own.map (·.2)) cond ve)) :=
  we (pe_lc C.calm C.nd hi ok (fun s H L cl fp => hg s H L cl fp C.blk) (fun s H L cl fp => ht s H L cl fp C.blk) (fun s H L cl fp => he s H L cl fp C.blk) hs)
    (rd_comp (fun i hi => by
      obtain ⟨q, hq, rfl⟩ := List.mem_map.mp hi
      exact C.lt (ok.ix q hq)) (fun i hi => by simpa using List.all_eq_true.mp hsub i hi))
theorem dc_nil : PTs X [] (tCond b Γ .nil) := pts_nil
theorem dc_one (hc : PT X c (RdT b Γ E0 vc)) : PTs X [c] (tCond b Γ (.cons vc .nil)) := pts_one hc

/-! ### tests -/
theorem dt_not (ha : PT X a (RdT b Γ Ev va)) : PT X (.UnaryOp .Not a pos) (RdT b Γ Ev (.not va)) := wt (pt_not ha) rt_not
theorem dw_and1 (ha : PT X a (RdT b Γ Ev va)) : PW X (.BoolOp .And [a] pos) (RdT b Γ Ev va) := pw_and1 ha
theorem dw_or1 (ha : PT X a (RdT b Γ Ev va)) : PW X (.BoolOp .Or [a] pos) (RdT b Γ Ev va) := pw_or1 ha
theorem dw_and {r : List Expr} (ha : PT X a (RdT b Γ Ev va)) (hc : PW X (.BoolOp .And (c :: r) pos) (RdT b Γ Ev vc)) : PW X (.BoolOp .And (a :: c :: r) pos) (RdT b Γ Ev (.and va vc)) := ww (pw_and ha hc) rt_and
theorem dw_or {r : List Expr} (ha : PT X a (RdT b Γ Ev va)) (hc : PW X (.BoolOp .Or (c :: r) pos) (RdT b Γ Ev vc)) : PW X (.BoolOp .Or (a :: c :: r) pos) (RdT b Γ Ev (.or va vc)) := ww (pw_or ha hc) rt_or
theorem dt_w (h : PW X a (RdT b Γ Ev va)) : PT X a (RdT b Γ Ev va) := h.pt
theorem dt_cmp (C : Cok X b Ev) {op : CmpOp} (ha : PE X a (RdE b Γ Ev va)) (hc : PE X c (RdE b Γ Ev vc)) (hm : behindInMarks op c = false := by rfl) : PT X (.Compare a [op] [c] pos) (RdT b Γ Ev (.cmp op va vc)) :=
  wt (pt_cmpR (by rw [C.K]; exact op_cmp C.hu op) ha hc hm) rt_cmp
theorem dt_chain (C : Cok X b Ev) {o1 o2 : CmpOp} (ha : PE X a (RdE b Γ Ev va)) (hc : PE X c (RdE b Γ Ev vc)) (he : PE X e (RdE b Γ Ev ve)) (hm : lastMarks [o1, o2] [c, e] = false := by rfl) : PT X (.Compare a [o1, o2] [c, e] pos) (RdT b Γ Ev (.chain o1 o2 va vc ve)) :=
  wt (pt_chain (by rw [C.K]; exact op_cmp C.hu o1) (by rw [C.K]; exact op_cmp C.hu o2) ha hc he hm) rt_chain
/-- a test by its value -/
def valT : VE → Bool
  | .v _ | .isi _ _ | .isb _ _ | .bi _ _ | .me _ _ _ | .call _ _ => true
  | _ => false
theorem valT_ok {v : VE} (h : valT v = true) : ∀ ε S Q X, wT Γ v ε S Q X → wE Γ v ε S (fun s S1 => truT s.t fun k => Q k S1) X := by
  intro ε S Q X w
  cases v <;> simp only [valT, Bool.false_eq_true] at h
  case v i =>
    unfold wT at w
    unfold wE
    unfold getV at w ⊢
    split at w
    · rename_i s es
      split at es
      · rename_i s0 e0
        cases es
        simpa [e0] using w
      · cases es
    · exact w.elim
  case isi tys a =>
    unfold wT at w
    unfold wE
    exact w
  case isb tys a =>
    unfold wT at w
    unfold wE
    exact w
  case bi id es =>
    unfold wT at w
    unfold wE
    exact w
  case me id o es =>
    unfold wT at w
    unfold wE
    exact w
  case call f es =>
    unfold wT at w
    unfold wE
    have key : ∀ (t : T) (own fr : Bool) (ss : List SV), (mkRet ss t own fr).t = t := fun _ _ _ _ => rfl
    exact w
theorem dt_val (C : Cok X b Ev) (ha : PE X a (RdE b Γ Ev va)) (hv : valT va = true := by rfl) (he : ∀ whole, isTrue a X.env whole = (do let v ← whole; standAt a.pos; holding [v] (truthy v)) := by intro _; rfl) : PT X a (RdT b Γ Ev va) :=
  wt (pt_truth ha he) (by rw [← C.K]; exact rt_val (valT_ok hv))
end
end Vs

-- Vs14
namespace Vs
open PySem PySem.Spec PyProof.Rows L2
section
variable {X : Cx} {b : Bx} {Γ : Gam b.g.G} {Ev : XK}
variable {a c e : Expr} {es : List Expr} {va vc ve vd : VE} {ves : VEs} {pos p p2 p3 : Pos} {x : Str}

/-! ### isinstance -/
theorem pt_nil : PA X [] (fun _ H Q => Q (([] : List String).map V.ty) H) := wa pa_nil fun h => h
theorem pt_cons {T : String} {tys : List String} (hm : X.mg x = none) (hr : PA X es (fun _ H Q => Q (tys.map V.ty) H)) (hg : Gl X x := by rfl) (hv : bootBuiltins x = some (.type T) := by rfl) (hn : x ≠ "__name__" := by decide) (hd : (x == ("__debug__" : Str)) = false := by decide)
    (hs : starEach (.Name x p :: es) X.env = (false, eval (.Name x p) X.env) :: starEach es X.env := by rfl) : PA X (.Name x p :: es) (fun _ H Q => Q ((T :: tys).map V.ty) H) :=
  wa (pa_cons (pe_bltn (v := .ty T) hg hm hv rfl hn hd) hr hs) fun h => h
theorem de_isi1 (C : Cok X b Ev) {T : String} {es1 : List Expr} (hm0 : X.mg "isinstance" = none) (ha : PE X a (RdE b Γ Ev va)) (ht : PA X es1 (fun _ H Q => Q (([T] : List String).map V.ty) H)) (hT : T ∈ kitsB := by decide) (hg : Gl X "isinstance" := by rfl)
    (he : starEach (a :: es1) X.env = (false, eval a X.env) :: starEach es1 X.env := by rfl) (hpl : (backTo pos (starEach es1 X.env)).any (·.1) = false := by rfl) :
    PE X (.Call (.Name "isinstance" p) (a :: es1) [] pos) (RdE b Γ Ev (.isi [T] va)) :=
  we (pe_callB call_isi hg hm0 (by rfl) (pa_cons ha ht he) (by decide) (by decide) he hpl) fun h => RdE.mono (rd_isi h) fun v H1 ⟨n, k, h2, h3, h4⟩ => by
    obtain ⟨h1, h5⟩ := h4 H1 (.inl rfl)
    refine ⟨v, .ty T, .type n, .type T, k, rfl, .ty _, by rw [← C.K]; exact h1, ?_, h5⟩
    rw [h3]
    simpa using kit_one (K := X.K) h2 hT
theorem clsv_all : ∀ (tys : List String), Paired ClsV (tys.map V.ty) (tys.map Value.type)
  | [] => .nil
  | _ :: r => .cons (.ty _) (clsv_all r)
theorem de_isiT (C : Cok X b Ev) {tys : List String} {es1 : List Expr} {k1 : Nat} (hm0 : X.mg "isinstance" = none) (ha : PE X a (RdE b Γ Ev va)) (ht : PA X es1 (fun _ H Q => Q (tys.map V.ty) H)) (hT : (tys.all fun y => kitsB.contains y) = true := by decide) (hz : tys.length ≤ 1000 := by decide) (hg : Gl X "isinstance" := by rfl)
    (he : starEach (a :: [.Tuple es1 k1 p2]) X.env = (false, eval a X.env) :: starEach [.Tuple es1 k1 p2] X.env := by rfl) (hpl : (backTo pos (starEach [.Tuple es1 k1 p2] X.env)).any (·.1) = false := by rfl)
    (he2 : starEach [.Tuple es1 k1 p2] X.env = (false, eval (.Tuple es1 k1 p2) X.env) :: starEach [] X.env := by rfl) :
    PE X (.Call (.Name "isinstance" p) [a, .Tuple es1 k1 p2] [] pos) (RdE b Γ Ev (.isi tys va)) :=
  we (pe_callB call_isiT hg hm0 (by rfl) (pa_cons ha (pa_cons (pe_tup ht) pa_nil he2) he) (by decide) (by decide) he hpl) fun h => RdE.mono (rd_isi h) fun v H1 ⟨n, k, h2, h3, h4⟩ => by
    refine ⟨?_, fun q hq => ?_⟩
    · rw [List.length_map, sizeLine_eq]; omega
    · obtain ⟨h1, h5⟩ := h4 _ (.inr ⟨q, tys.map V.ty, hq, rfl⟩)
      refine ⟨v, q, tys.map V.ty, .type n, tys.map Value.type, k, rfl, upd_same, clsv_all tys, ?_, ?_, h5⟩
      · rw [← C.K]
        exact h1
      · rw [h3]
        exact kit_any h2 fun y hy => by simpa using List.all_eq_true.mp hT y hy

/-! ### walks -/
theorem di_seq (C : Cok X b Ev) {tg : Expr} (ha : PE X a (RdE b Γ Ev va)) : PI X tg a (RdI b Γ Ev (.seq va)) := wi (pi_any ha) (by rw [← C.K]; exact ri_seq)
theorem di_enum (C : Cok X b Ev) {elts : List Expr} {kk : Nat} {tpos : Pos} (hm : X.mg "enumerate" = none) (ha : PE X a (RdE b Γ Ev va)) (hg : Gl X "enumerate" := by rfl) (hs : starEach [a] X.env = [(false, eval a X.env)] := by rfl) :
    PI X (.Tuple elts kk tpos) (.Call (.Name "enumerate" p) [a] [] pos) (RdI b Γ Ev (.enum va)) := wi (pi_enumA hg hm ha hs) (by rw [← C.K]; exact ri_enum)
theorem di_zip (C : Cok X b Ev) {elts : List Expr} {kk : Nat} {tpos : Pos} (hm : X.mg "zip" = none) (ha : PE X a (RdE b Γ Ev va)) (hc : PE X c (RdE b Γ Ev vc)) (hg : Gl X "zip" := by rfl)
    (hs : starEach [a, c] X.env = (false, eval a X.env) :: starEach [c] X.env := by rfl) (hpl : (backTo pos (starEach [c] X.env)).any (·.1) = false := by rfl) (hs2 : starEach [c] X.env = (false, eval c X.env) :: starEach [] X.env := by rfl) :
    PI X (.Tuple elts kk tpos) (.Call (.Name "zip" p) [a, c] [] pos) (RdI b Γ Ev (.zip va vc)) := wi (RZ.pi_zipA hg hm (pa_cons ha (pa_cons hc pa_nil hs2) hs) hs hpl) fun h => by
  refine RdE.mono (ri_zip h) fun v H1 h1 => RdE.mono h1 fun u H2 ⟨q, r, e1, e2, h3⟩ => ?_
  subst e1
  subst e2
  rw [C.K] at h3
  rcases h3 with ⟨xs, ys, h4, h5, h6⟩ | ⟨xs, ys, h4, h5, h6⟩
  · exact ⟨q, r, xs, ys, rfl, .inl ⟨h4, h5, h6⟩⟩
  · exact ⟨q, r, xs, ys, rfl, .inr ⟨h4, h5, h6⟩⟩
theorem di_rng1 {tg : Expr} (hm : X.mg "range" = none) (ha : PE X a (RdE b Γ Ev va)) (hg : Gl X "range" := by rfl) (hs : starEach [a] X.env = [(false, eval a X.env)] := by rfl) (hs0 : starEach [a] X.env = (false, eval a X.env) :: starEach [] X.env := by rfl) :
    PI X tg (.Call (.Name "range" p) [a] [] pos) (RdI b Γ Ev (.rng1 va)) := wi (pi_range1 hg hm (pa_cons ha pa_nil hs0) hs) fun h => RdE.mono (ri_rng1 h) fun v H1 ⟨j, e, q⟩ => by
  subst e
  exact ⟨j, rfl, q⟩
theorem di_rng2 {tg : Expr} (hm : X.mg "range" = none) (ha : PE X a (RdE b Γ Ev va)) (hc : PE X c (RdE b Γ Ev vc)) (hg : Gl X "range" := by rfl) (hs : starEach [a, c] X.env = [(false, eval a X.env), (false, eval c X.env)] := by rfl)
    (hs0 : starEach [a, c] X.env = (false, eval a X.env) :: starEach [c] X.env := by rfl) (hs1 : starEach [c] X.env = (false, eval c X.env) :: starEach [] X.env := by rfl) (hs2 : starEach [c] X.env = [(false, eval c X.env)] := by rfl) :
    PI X tg (.Call (.Name "range" p) [a, c] [] pos) (RdI b Γ Ev (.rng2 va vc)) := wi (pi_range2 hg hm (pa_cons ha (pa_cons hc pa_nil hs1) hs0) hs hs2) fun h => RdE.mono (ri_rng2 h) fun v H1 h1 => RdE.mono h1 fun u H2 ⟨i, j, e1, e2, q⟩ => by
  subst e1
  subst e2
  exact ⟨i, j, rfl, q⟩

/-! ### targets -/
theorem dg_nm (C : Cok X b Ev) (i : Nat) (hi : X.N[i]? = some x := by rfl) (hx : Loc X.env.scope x := by first | exact Or.inl rfl | exact Or.inr rfl) (hf : X.fn x = true ∨ X.env.scope.names.lookup x = some .local := by first | exact .inl rfl | exact .inr rfl | assumption) :
    PG X (.Name x pos) (RdG b (.nm i)) := wgt (pg_name C.nd hi hx hf) (rg_nm (C.lt hi))
theorem dgs_nil : PGs X [] (RdGs b .nil) := wgts pgs_nil rgs_nil
theorem dgs_cons {u : VT} {us : VTs} (h1 : PG X e (RdG b u)) (h2 : PGs X es (RdGs b us)) (hs : (assignEach (e :: es) X.env).map (·.2) = assign e X.env :: (assignEach es X.env).map (·.2) := by rfl) : PGs X (e :: es) (RdGs b (.cons u us)) := wgts (pgs_cons h1 h2 hs) rgs_cons
theorem dg_tp (C : Cok X b Ev) {us : VTs} {k1 : Nat} (h : PGs X es (RdGs b us)) (hn : (assignEach es X.env).length = vtLen us := by rfl) (hst : (assignEach es X.env).findIdx? (·.1) = none := by rfl) : PG X (.Tuple es k1 pos) (RdG b (.tp us)) :=
  wgt (pg_tup C.calm h hn hst) (by rw [← C.K]; exact rg_tp)

/-! ### statements -/
variable {b1 b2 : List Stmt} {st : Stmt} {vs : VS} {vb vb2 : VB} {lpos : Pos}
theorem dss_nil : PSs X [] (RdB b Γ Ev .nil) := wss pss_nil rb_nil
theorem dss_cons (h1 : PS X st (RdS b Γ Ev vs)) (h2 : PSs X b1 (RdB b Γ Ev vb)) : PSs X (st :: b1) (RdB b Γ Ev (.cons vs vb)) := wss (pss_cons h1 h2) rb_cons
theorem ds_pas : PS X (.Pass pos) (RdS b Γ Ev .pas) := ws ps_pass rs_pas
theorem ds_doc {t : Str} {j} : PS X (.Expr (.Constant (.str t) j pos) p) (RdS b Γ Ev .pas) := ws ps_doc rs_pas
theorem ds_brk : PS X (.Break pos) (RdS b Γ Ev .brk) := ws ps_break rs_brk
theorem ds_cnt : PS X (.Continue pos) (RdS b Γ Ev .cnt) := ws ps_continue rs_cnt
theorem ds_set (C : Cok X b Ev) (i : Nat) (he : PE X e (RdE b Γ Ev ve)) (hi : X.N[i]? = some x := by rfl) (hx : Loc X.env.scope x := by first | exact Or.inl rfl | exact Or.inr rfl) (hs : swapsWith e (some (.Name x p)) pos.line X.env = pure false := by rfl)
    (hf : X.fn x = true ∨ X.env.scope.names.lookup x = some .local := by first | exact .inl rfl | exact .inr rfl | assumption) : PS X (.Assign [.Name x p] e pos) (RdS b Γ Ev (.set i ve)) := ws (ps_set C.nd hi hx he hs hf) (rs_set (C.lt hi))
theorem ds_setLc (C : Cok X b Ev) (i : Nat) {elt tg iter : Expr} {ifs : List Expr} {scope : Scope} {own : List (Str × Nat)} {it : VI} {vt : VT} {cond : VEs} (hi : PI X tg iter (RdI b Γ Ev it)) (ok : BlkOk X.N X.env.scope scope own)
    (hg : ∀ (s : Shared) (H : Hp) (L : Addr) (cl : List (Str × Addr)) (fp : List Addr), Cok (X.blk s H scope (compEnvC scope cl L X.env) fp) b E0 → PG (X.blk s H scope (compEnvC scope cl L X.env) fp) tg (RdG b vt))
    (ht : ∀ (s : Shared) (H : Hp) (L : Addr) (cl : List (Str × Addr)) (fp : List Addr), Cok (X.blk s H scope (compEnvC scope cl L X.env) fp) b E0 → PTs (X.blk s H scope (compEnvC scope cl L X.env) fp) ifs (tCond b Γ cond))
    (he : ∀ (s : Shared) (H : Hp) (L : Addr) (cl : List (Str × Addr)) (fp : List Addr), Cok (X.blk s H scope (compEnvC scope cl L X.env) fp) b E0 → PE (X.blk s H scope (compEnvC scope cl L X.env) fp) elt (RdE b Γ E0 ve))
    (hy : X.N[i]? = some x := by rfl) (hyl : X.env.scope.names.lookup x = some .local := by rfl) (hsw : swapsWith (.ListComp elt [⟨tg, iter, ifs, 0⟩] scope p3) (some (.Name x p)) pos.line X.env = pure true := by rfl)
    (hsub : (slotsT vt).all (fun i => (own.map (·.2)).contains i) = true := by decide) (hs : ∀ x, foldedSetIterable iter X.env x = pure x := by intro _; rfl) :
    PS X (.Assign [.Name x p] (.ListComp elt [⟨tg, iter, ifs, 0⟩] scope p3) pos) (RdS b Γ Ev (.set i (.comp it vt (own.map (·.2)) cond ve))) :=
  ws (ps_setLc C.calm C.nd hy hyl hsw hi ok (fun s H L cl fp => hg s H L cl fp C.blk) (fun s H L cl fp => ht s H L cl fp C.blk) (fun s H L cl fp => he s H L cl fp C.blk) hs)
    fun h => rd_comp (fun i hi => by
      obtain ⟨q, hq, rfl⟩ := List.mem_map.mp hi
      exact C.lt (ok.ix q hq)) (fun i hi => by simpa using List.all_eq_true.mp hsub i hi) (rs_set (C.lt hy) h)
theorem ds_setT (C : Cok X b Ev) {tg : Expr} {vt : VT} (he : PE X e (RdE b Γ Ev ve)) (hg : PG X tg (RdG b vt)) (hs : swapsWithSole [tg] e pos.line X.env = pure false := by rfl) (hw : swappedStores [tg] e X.env = pure none := by rfl)
    (h1 : (assignEach [tg] X.env).map (·.2) = [assign tg X.env] := by rfl) : PS X (.Assign [tg] e pos) (RdS b Γ Ev (.setT vt ve)) := ws (ps_asg he hg hs hw h1) rs_setT
/-- the values of a row of names -/
theorem dps_nil : PA X [] (RdP b Γ Ev .nil) := wa pa_nil rp_nil
theorem dps_cons (ha : PE X a (RdE b Γ Ev va)) (hr : PA X es (RdP b Γ Ev ves)) (hs : starEach (a :: es) X.env = (false, eval a X.env) :: starEach es X.env := by rfl) : PA X (a :: es) (RdP b Γ Ev (.cons va ves)) := wa (pa_cons ha hr hs) rp_cons
theorem RdP.mono {σ : L2.St} {H : Hp} {Q Q' : List V → Hp → Prop} (h : RdP b Γ Ev ves σ H Q) (k : ∀ v H', Q v H' → Q' v H') : RdP b Γ Ev ves σ H Q' := by
  obtain ⟨W, ε, hv, S, Qs, Xc, hl, B, w, hx, q⟩ := h
  exact ⟨W, ε, hv, S, Qs, Xc, hl, B, w, hx, fun ε1 S1 W1 vs H1 h1 h2 h3 => k vs H1 (q ε1 S1 W1 vs H1 h1 h2 h3)⟩
theorem ds_par2 (C : Cok X b Ev) (i j : Nat) {x y : Str} {a c : Expr} {px py pt : Pos} {kt k2 pt2} (ha : PA X [a, c] (RdP b Γ Ev ves)) (hi : X.N[i]? = some x := by rfl) (hj : X.N[j]? = some y := by rfl) (hij : i ≠ j := by decide)
    (hx : X.env.scope.names.lookup x = some .local := by rfl) (hy : X.env.scope.names.lookup y = some .local := by rfl)
    (hw : swappedStores [.Tuple [.Name x px, .Name y py] kt pt] (.Tuple [a, c] k2 pt2) X.env = pure (some [x, y]) := by rfl)
    (hs : swapsWithSole [.Tuple [.Name x px, .Name y py] kt pt] (.Tuple [a, c] k2 pt2) pos.line X.env = pure false := by rfl) :
    PS X (.Assign [.Tuple [.Name x px, .Name y py] kt pt] (.Tuple [a, c] k2 pt2) pos) (RdS b Γ Ev (.par [i, j] ves)) :=
  ws (ps_par C.calm C.nd hi hj hij hx hy ha hw hs) fun h => RdP.mono (rs_par (fun k hk => by
    rcases List.mem_cons.mp hk with rfl | hk
    · exact C.lt hi
    · rcases List.mem_cons.mp hk with rfl | hk
      · exact C.lt hj
      · cases hk) h) fun vs H1 ⟨hl, q⟩ => by
    match vs, hl with
    | [v, w], _ => exact ⟨v, w, rfl, q H1 (.inl rfl)⟩
theorem ds_par3 (C : Cok X b Ev) (i j l : Nat) {x y z : Str} {a c d : Expr} {px py pz pt : Pos} {kt k2 pt2} (ha : PA X [a, c, d] (RdP b Γ Ev ves)) (hi : X.N[i]? = some x := by rfl) (hj : X.N[j]? = some y := by rfl) (hl : X.N[l]? = some z := by rfl) (hij : i ≠ j := by decide) (hil : i ≠ l := by decide) (hjl : j ≠ l := by decide)
    (hx : X.env.scope.names.lookup x = some .local := by rfl) (hy : X.env.scope.names.lookup y = some .local := by rfl) (hz : X.env.scope.names.lookup z = some .local := by rfl)
    (hw : swappedStores [.Tuple [.Name x px, .Name y py, .Name z pz] kt pt] (.Tuple [a, c, d] k2 pt2) X.env = pure (some [x, y, z]) := by rfl)
    (hs : swapsWithSole [.Tuple [.Name x px, .Name y py, .Name z pz] kt pt] (.Tuple [a, c, d] k2 pt2) pos.line X.env = pure false := by rfl) :
    PS X (.Assign [.Tuple [.Name x px, .Name y py, .Name z pz] kt pt] (.Tuple [a, c, d] k2 pt2) pos) (RdS b Γ Ev (.par [i, j, l] ves)) :=
  ws (ps_par3 C.calm C.nd hi hj hl hij hil hjl hx hy hz ha hw hs) fun h => RdP.mono (rs_par (fun k hk => by
    rcases List.mem_cons.mp hk with rfl | hk
    · exact C.lt hi
    · rcases List.mem_cons.mp hk with rfl | hk
      · exact C.lt hj
      · rcases List.mem_cons.mp hk with rfl | hk
        · exact C.lt hl
        · cases hk) h) fun vs H1 ⟨hl, q⟩ => by
    match vs, hl with
    | [u, v, w], _ => exact ⟨u, v, w, rfl, q H1 (.inl rfl)⟩
/-- a row of names, the tuple made -/
def gNames : List Nat → TGs
  | [] => gNil
  | i :: r => gCons (gName i) (gNames r)
theorem gNames_ok {is : List Nat} : ∀ {vs : List V} {σ : L2.St} {H : Hp} {Q : L2.St → Hp → Prop}, vs.length = is.length → Q (setAll is vs σ) H → gNames is vs σ H Q := by
  induction is with
  | nil =>
    intro vs σ H Q hl q
    match vs, hl with
    | [], _ => exact ⟨rfl, q⟩
  | cons i is ih =>
    intro vs σ H Q hl q
    match vs, hl with
    | v :: vs, hl => exact ⟨v, vs, rfl, ih (by simpa using hl) q⟩
theorem pgn_nil : PGs X [] (gNames []) := pgs_nil
theorem pgn_cons (C : Cok X b Ev) {is : List Nat} (i : Nat) (h2 : PGs X es (gNames is)) (hi : X.N[i]? = some x := by rfl) (hx : Loc X.env.scope x := by first | exact Or.inl rfl | exact Or.inr rfl) (hf : X.fn x = true ∨ X.env.scope.names.lookup x = some .local := by first | exact .inl rfl | exact .inr rfl | assumption)
    (hs : (assignEach (.Name x p :: es) X.env).map (·.2) = assign (.Name x p) X.env :: (assignEach es X.env).map (·.2) := by rfl) : PGs X (.Name x p :: es) (gNames (i :: is)) := pgs_cons (pg_name C.nd hi hx hf) h2 hs
theorem ds_parN (C : Cok X b Ev) {is : List Nat} {ns : List Expr} {pt : Pos} {kt k2 pt2} (ha : PA X es (RdP b Γ Ev ves)) (hg : PGs X ns (gNames is)) (hi : (is.all fun i => decide (i < X.N.length)) = true := by rfl) (hl : is.length ≤ 1000 := by decide)
    (hn : (assignEach ns X.env).length = is.length := by rfl) (hst : (assignEach ns X.env).findIdx? (·.1) = none := by rfl)
    (hs : swapsWithSole [.Tuple ns kt pt] (.Tuple es k2 pt2) pos.line X.env = pure false := by rfl) (hw : swappedStores [.Tuple ns kt pt] (.Tuple es k2 pt2) X.env = pure none := by rfl)
    (h1 : (assignEach [.Tuple ns kt pt] X.env).map (·.2) = [assign (.Tuple ns kt pt) X.env] := by rfl) : PS X (.Assign [.Tuple ns kt pt] (.Tuple es k2 pt2) pos) (RdS b Γ Ev (.par is ves)) :=
  ws (ps_asg (pe_tup ha) (pg_tup C.calm hg hn hst) hs hw h1) fun h => RdP.mono (rs_par (fun k hk => by rw [C.nN]; simpa using List.all_eq_true.mp hi k hk) h) fun vs H1 ⟨hl2, q⟩ => by
    refine ⟨by rw [sizeLine_eq]; omega, fun q1 hq => ⟨q1, vs, rfl, .inl (.inl upd_same), hl2, gNames_ok hl2 (q _ (.inr ⟨q1, vs, hq, rfl⟩))⟩⟩
theorem ds_app (C : Cok X b Ev) (i : Nat) {nm apos cpos : Pos} (he : PE X e (RdE b Γ Ev ve)) (hN : X.N[i]? = some x := by rfl) (hv : Vis X.env.scope x := by first | exact Or.inl rfl | exact Or.inr (Or.inl rfl) | exact Or.inr (Or.inr rfl)) (hd : (x == ("__debug__" : Str)) = false := by decide)
    (hcd : (x == ("__classdict__" : Str)) = false := by decide) (hbase : attributeBase (.Name x nm) "append" X.env (eval (.Name x nm) X.env) = eval (.Name x nm) X.env := by rfl)
    (hfew : ((backTo cpos (starEach [e] X.env)).all (fun x => !x.1) && (backToKw cpos (keywordEach [] X.env)).all (fun x => x.1.isSome)
      && decide (([e] : List Expr).length + ([] : List Keyword).length + (if ([] : List Keyword).isEmpty then 0 else 1) < 30)) = true := by rfl)
    (hline : (apos.endLine == cpos.line) = true := by rfl) (hs : starEach [e] X.env = (false, eval e X.env) :: starEach [] X.env := by rfl) (hplain : (backTo cpos (starEach [] X.env)).any (·.1) = false := by rfl)
    (hsw : swapsWith (.Call (.Attribute (.Name x nm) "append" apos) [e] [] cpos) none pos.line X.env = pure false := by rfl) :
    PS X (.Expr (.Call (.Attribute (.Name x nm) "append" apos) [e] [] cpos) pos) (RdS b Γ Ev (.app i ve)) :=
  ws (ps_expr (pe_bm F.plainAttrs_list F.slot_list_append F.type_list_append mt_append (pe_var hN hv hd hcd) (pa_cons he pa_nil hs) hbase hfew hline hs hplain) hsw) fun h => by
    obtain ⟨v, h1, h2, h3⟩ := rs_app (C.lt hN) h
    rw [C.K] at h2
    exact ⟨v, h1, h2, h3⟩
theorem ds_extd (C : Cok X b Ev) (i : Nat) {nm apos cpos : Pos} (he : PE X e (RdE b Γ Ev ve)) (hN : X.N[i]? = some x := by rfl) (hv : Vis X.env.scope x := by first | exact Or.inl rfl | exact Or.inr (Or.inl rfl) | exact Or.inr (Or.inr rfl)) (hd : (x == ("__debug__" : Str)) = false := by decide)
    (hcd : (x == ("__classdict__" : Str)) = false := by decide) (hbase : attributeBase (.Name x nm) "extend" X.env (eval (.Name x nm) X.env) = eval (.Name x nm) X.env := by rfl)
    (hfew : ((backTo cpos (starEach [e] X.env)).all (fun x => !x.1) && (backToKw cpos (keywordEach [] X.env)).all (fun x => x.1.isSome)
      && decide (([e] : List Expr).length + ([] : List Keyword).length + (if ([] : List Keyword).isEmpty then 0 else 1) < 30)) = true := by rfl)
    (hline : (apos.endLine == cpos.line) = true := by rfl) (hs : starEach [e] X.env = (false, eval e X.env) :: starEach [] X.env := by rfl) (hplain : (backTo cpos (starEach [] X.env)).any (·.1) = false := by rfl)
    (hsw : swapsWith (.Call (.Attribute (.Name x nm) "extend" apos) [e] [] cpos) none pos.line X.env = pure false := by rfl) :
    PS X (.Expr (.Call (.Attribute (.Name x nm) "extend" apos) [e] [] cpos) pos) (RdS b Γ Ev (.extd i ve)) :=
  ws (ps_expr (pe_bm F.plainAttrs_list F.slot_list_extend F.type_list_extend mt_extend (pe_var hN hv hd hcd) (pa_cons he pa_nil hs) hbase hfew hline hs hplain) hsw) fun h => by
    obtain ⟨v, h1, h2, h3⟩ := rs_extd (C.lt hN) h
    rw [C.K] at h2
    exact ⟨v, h1, h2, h3⟩
theorem ds_drop (he : PE X e (RdE b Γ Ev ve)) (hs : swapsWith e none pos.line X.env = pure false := by rfl) : PS X (.Expr e pos) (RdS b Γ Ev (.drop ve)) := ws (ps_expr he hs) rs_drop
theorem ds_ret (he : PE X e (RdE b Γ Ev ve)) (hv : isV ve = false := by rfl) : PS X (.Return (some e) pos) (RdS b Γ Ev (.ret ve)) := ws (ps_ret he) (rs_ret hv)
theorem ds_retV (C : Cok X b Ev) (i : Nat) (hN : X.N[i]? = some x := by rfl) (hv : Vis X.env.scope x := by first | exact Or.inl rfl | exact Or.inr (Or.inl rfl) | exact Or.inr (Or.inr rfl)) (hd : (x == ("__debug__" : Str)) = false := by decide)
    (hcd : (x == ("__classdict__" : Str)) = false := by decide) : PS X (.Return (some (.Name x p)) pos) (RdS b Γ Ev (.ret (.v i))) := ws (ps_ret (pe_var hN hv hd hcd)) (rs_retV (C.lt hN))
theorem ds_retN : PS X (.Return none pos) (RdS b Γ Ev .retN) := ws ps_retN rs_retN
theorem ds_ite (hc : PT X c (RdT b Γ Ev vc)) (ha : PSs X b1 (RdB b Γ Ev vb)) (hb : PSs X b2 (RdB b Γ Ev vb2)) : PS X (.If c b1 b2 pos) (RdS b Γ Ev (.ite vc vb vb2)) := ws (ps_if hc ha hb) rs_ite
theorem ds_whl (hp : PassesOwn (model X.prog X.w) X.A X.env X.xe) (hc : PT X c (RdT b Γ Ev vc)) (hb : PSs X b1 (RdB b Γ Ev vb)) : PS X (.While c b1 [] pos) (RdS b Γ Ev (.whl vc vb)) := ws (ps_while hp hc hb) rs_whl
theorem ds_loop (C : Cok X b Ev) (hp : PassesOwn (model X.prog X.w) X.A X.env X.xe) {tg iter : Expr} {it : VI} {vt : VT} (hi : PI X tg iter (RdI b Γ Ev it)) (hg : PG X tg (RdG b vt)) (hb : PSs X b1 (RdB b Γ Ev vb)) (hs : ∀ x, foldedSetIterable iter X.env x = pure x := by intro _; rfl) : PS X (.For tg iter b1 [] pos) (RdS b Γ Ev (.loop it vt vb)) :=
  ws (ps_for hp C.calm hi hg hb hs) rs_loop
end

/-! ### own errors -/
def spInit (K : PySem.W.Frag) (fld : Str) : Sp := fun vs H Q _ => ∃ (a C : Addr) (v : V), vs = [.ref a, v] ∧ OexC K C ∧ PySem.W.findIn K (.ref C) fld = some none ∧ H a = some (exo a C none) ∧
  ∀ dx, H dx = none → dx ≠ a → Q .non (upd (upd H dx (exd dx [(fld, v)])) a (exo a C (some dx)))
structure ExK (P : Program) (w : World) (K : PySem.W.Frag) (mg : Str → Option Value) (base : Heap) (x : Str) (C : Addr) (fld : Str) (k : Nat) : Prop where
  T : OexC K C
  no : PySem.W.findIn K (.ref C) fld = some none
  gC : mg x = some (.ref C)
  ini : ∃ (fI : Addr) (fd : FuncData) (p1 p2 : Str), PySem.W.findIn K (.ref C) "__init__" = some (some (.ref fI)) ∧ PySem.W.typeIn K (.ref fI) = some (.type "function") ∧ FnOk P w K mg base (L2.CX P w) k fI fd [p1, p2] (spInit K fld) ∧ Binds K fd [p1, p2] []
section
variable {X : Cx} {b : Bx} {Γ : Gam b.g.G} {Ev : XK} {e : Expr} {ve : VE} {pos p p2 p3 : Pos} {x : Str}
theorem ds_rai (C : Cok X b Ev) {n : Nat} {k : Nat} (T : ExK X.prog X.w X.K X.mg X.base x (Γ.cls n).cls (Γ.cls n).fld k) (hr : Room (k + 1) X.A) (he : PE X e (RdE b Γ Ev ve)) (hg : Gl X x := by rfl) (hdb : (x == ("__debug__" : Str)) = false := by decide)
    (hs : starEach [e] X.env = (false, eval e X.env) :: starEach [] X.env := by rfl) (hpl : (backTo p2 (starEach [] X.env)).any (·.1) = false := by rfl) :
    PS X (.Raise (some (.Call (.Name x p) [e] [] p2)) none pos) (RdS b Γ Ev (.rai n ve)) := by
  obtain ⟨T1, no, gC, fI, fd, q1, q2, i1, i2, F1, b1⟩ := T
  refine ws (ps_raise C.calm C.tk (pmk_oex (dvs := []) (ds := []) T1 i1 i2 F1 hr b1 .nil passL hg gC (pa_cons he pa_nil hs) hdb hs hpl)) fun h => ?_
  have h2 := rs_rai h
  unfold tMkO tCons tNil
  refine RdE.mono h2 fun v H1 hk => ⟨by simp, fun a ha => ⟨a, (Γ.cls n).cls, v, rfl, T1, no, upd_same, fun dx hdx hne => ⟨rfl, dx, [((Γ.cls n).fld, v)], upd_same, ?_, ?_, ?_⟩⟩⟩
  · rw [upd_ne hne, upd_same]
  · rw [upd_ne hne] at hdx
    exact hdx
  · rw [upd_ne hne] at hdx
    have e : upd (del (upd (upd (upd H1 a (exo a (Γ.cls n).cls none)) dx (exd dx [((Γ.cls n).fld, v)])) a (exo a (Γ.cls n).cls (some dx))) a) dx (.xd [((Γ.cls n).fld, v)]) = upd H1 dx (.xd [((Γ.cls n).fld, v)]) := by
      funext q
      by_cases h1 : q = dx
      · subst h1
        rw [upd_same, upd_same]
      · rw [upd_ne h1, upd_ne h1]
        by_cases h2 : q = a
        · subst h2
          rw [del_same, ha]
        · rw [del_ne h2, upd_ne h2, upd_ne h1, upd_ne h2]
    rw [e]
    exact hk dx hdx
end
end Vs

-- Vs15
namespace Vs
open PySem PySem.Spec PyProof.Rows L2

/-! ### a def's entry and its promise -/
def argV (n : Nat) (t : T) : Option SV := some (if imm t = true then { t := t } else { t := t, own := false, fr := false, D := List.range n })
def entV (m : Nat) (tr : List T) : VEnv := tr.map (argV tr.length) ++ List.replicate (m - tr.length) none
def endC {G : Type} (C : Con G) (tr : List T) (S : G) : Dn G where
  nx := fun _ S' => C.post tr S .non false true S'
  rt := fun s S' => C.post tr S s.t s.own s.fr S'
  ex := fun x s S' => C.exc tr S x s.t S'
section
variable {K : PySem.W.Frag} {g : Glo} {S : g.G} {H : Hp} {F : Addr → Prop}
abbrev bxE (K : PySem.W.Frag) (g : Glo) (S : g.G) (H : Hp) (F : Addr → Prop) (m : Nat) : Bx := ⟨K, g, S, H, F, m⟩
theorem ent_ok {m : Nat} {tr : List T} {vs : List V} (hm : tr.length ≤ m) (hr : Reps K H F tr vs) (hs : g.SI S H) (hF : ∀ a, F a → ¬ g.SA S a ∧ ∃ o, H a = some o) :
    ∃ W, BOk (bxE K g S H F m) W (entV m tr) (vs.map some ++ List.replicate (m - vs.length) none) S H := by
  have hl := hr.length
  have get : ∀ i s, (entV m tr)[i]? = some (some s) → ∃ t, tr[i]? = some t ∧ argV tr.length t = some s := fun i s e => by
    unfold entV at e
    by_cases hi : i < tr.length
    · rw [List.getElem?_append_left (by simpa using hi), List.getElem?_map] at e
      cases q : tr[i]? with
      | none => rw [q] at e; cases e
      | some t => rw [q] at e; exact ⟨t, q, by simpa using e⟩
    · rw [List.getElem?_append_right (by simp; omega), List.getElem?_replicate] at e
      split at e <;> cases e
  refine ⟨⟨fun i a => F a ∧ ∀ t, tr[i]? = some t → imm t = false, fun _ => 0, []⟩, ⟨?_, fun i s e => ?_, fun i s e => ?_, fun i s e ho => ?_, fun i s e a f => by simp, fun i s j s' e e' hne => ⟨fun ho => ?_, fun hj a f f' => ?_⟩⟩, .refl, hs, fun q hq => by cases hq⟩
  · simp [entV, hl]
  · obtain ⟨t, et, ea⟩ := get i s e
    obtain ⟨v, ev, r⟩ := hr.get et
    refine ⟨v, ?_, ?_⟩
    · have hi := (List.getElem?_eq_some_iff.mp ev).1
      rw [List.getElem?_append_left (by simpa using hi), List.getElem?_map, ev]; rfl
    · unfold argV at ea
      split at ea
      · rename_i him
        cases ea
        exact RepS.plain (Rep.imm _ _ him r) rfl
      · rename_i him
        cases ea
        refine RepS.plain (Rep.keep KeepI.refl (fun a f => ⟨⟨f, fun t' e' => ?_⟩, fun _ z => z⟩) _ _ r) rfl
        rw [et] at e'; cases e'
        simpa using him
  · obtain ⟨t, et, ea⟩ := get i s e
    unfold argV at ea
    split at ea
    · rename_i him
      cases ea
      have no : ∀ a, ¬ (F a ∧ ∀ t, tr[i]? = some t → imm t = false) := fun a z => by rw [z.2 t et] at him; cases him
      exact ⟨fun a f => (no a f).elim, fun a f => (no a f).elim, fun _ a f => (no a f).elim, fun a f => (no a f).elim⟩
    · cases ea
      exact ⟨fun a f => (hF a f.1).1, fun a f => (hF a f.1).2, (fun z => by cases z), fun a f => .inr f.1⟩
  · obtain ⟨t, et, ea⟩ := get i s e
    unfold argV at ea
    split at ea <;> (cases ea; cases ho)
  · obtain ⟨t, et, ea⟩ := get i s e
    unfold argV at ea
    split at ea <;> (cases ea; cases ho)
  · obtain ⟨t, et, ea⟩ := get i s e
    obtain ⟨t', et', ea'⟩ := get j s' e'
    unfold argV at ea
    split at ea
    · rename_i him
      have z : imm t = false := f.2 t et
      rw [z] at him; cases him
    · cases ea
      exact hj (List.mem_range.mpr (List.getElem?_eq_some_iff.mp et').1)
end
section
variable {P : Program} {w : World} {K : PySem.W.Frag} {mg : Str → Option Value} {base : Heap}
/-- a def keeps its promise -/
theorem fn_con {x qual : Str} {st : Stmt} {f : Addr} {fd : FuncData} {N ps : List Str} {k : Nat} {g : Glo} {C : Con g.G} {n : Nat} {Γ : Gam g.G} {vb : VB} (Fn : Fun K x qual st f fd) (Sc : FnScope N ps (defScope st)) (hn : ps.length = n) (hN : n ≤ N.length)
    (hd : ∀ (cdv : Value) (A : Around) (outer : List Env) (s : Shared) (H : Hp) (E : XK) (S : g.G) (F : Addr → Prop), Room k (A.deeper (envOfC qual (defScope st) s.heap.objs.size f cdv)) →
      Cok (cxOf (L2.CX P w) P w K mg base N qual (defScope st) f cdv A outer s H E) (bxE K g S H F N.length) E → PSs (cxOf (L2.CX P w) P w K mg base N qual (defScope st) f cdv A outer s H E) (defBody st) (RdB (bxE K g S H F N.length) Γ E vb))
    (hp : ∀ tr S, tr.length = n → C.pre tr S → wB Γ vb (entV N.length tr) S (endC C tr S)) : FnOk P w K mg base (L2.CX P w) (k + 1) f fd ps (spC K g n C) := by
  refine Fn.okX Sc (fun vs H Q E h => ?_) (fun cdv A outer s H vs Q E hr h => ?_)
  · obtain ⟨tr, S, F, hl, _⟩ := h
    rw [hl, hn]
  · obtain ⟨tr, S, F, hl, hrep, hsi, hF, hpre, hpost, hexc⟩ := h
    have htl : tr.length = n := hrep.length.trans hl
    have hC : Cok (cxOf (L2.CX P w) P w K mg base N qual (defScope st) f cdv A outer s H E) (bxE K g S H F N.length) E :=
      ⟨rfl, rfl, rfl, Sc.nd, by have := hr.un; show A.units + 3 + 64 < cLine; change A.units + 3 + 16 * k + 200 < cLine at this; omega, takes_of rfl rfl rfl rfl⟩
    refine ⟨_, hd cdv A outer s H E S F hr hC, ?_⟩
    obtain ⟨W, B⟩ := ent_ok (m := N.length) (by omega) hrep hsi hF
    refine ⟨W, _, [], S, endC C tr S, ?_, ?_, hp tr S htl hpre, ?_⟩
    · show (vs.map some ++ List.replicate (N.length - vs.length) none).length = N.length
      simp; omega
    · rw [List.append_nil]
      exact B
    · refine ⟨fun W ε σ S' H' q _ B _ => ?_, fun _ _ _ _ _ q _ _ _ => q.elim, fun _ _ _ _ _ q _ _ _ => q.elim, fun s v S' H' F' p q k si r ok nw => ?_, fun x s S' d v H' F' q k si hd r ok => ?_⟩
      · exact hpost _ _ _ _ q .non H' (fun _ => False) 0 B.st B.si (RepS.plain rfl rfl) (fun _ z => z.elim) (fun z => by cases z)
      · refine hpost _ _ _ _ q v H' F' p k si r (fun a f => ⟨ok.ap a f, ok.tr a f, ?_⟩) nw
        cases e : s.fr with
        | true => exact .inl (ok.nw e a f)
        | false => exact (ok.src a f).imp id fun z => ⟨rfl, z⟩
      · exact hexc _ _ _ q d v H' F' k si hd r (fun a f => ⟨ok.ap a f, ok.tr a f, ok.src a f⟩)
end
end Vs

-- Vs16
namespace Vs
open PySem PySem.Spec PyProof.Rows L2
/-- a def of the top that keeps a promise -/
structure FnK (P : Program) (w : World) (K : PySem.W.Frag) (mg : Str → Option Value) (base : Heap) (g : Glo) (x : Str) (k n : Nat) (C : Con g.G) : Prop where
  ex : ∃ (f : Addr) (fd : FuncData) (ps : List Str), FnOk P w K mg base (L2.CX P w) k f fd ps (spC K g n C) ∧ mg x = some (.ref f) ∧ PySem.W.keepIn K (.ref f) = true ∧ Binds K fd ps []
section
variable {X : Cx} {b : Bx} {Γ : Gam b.g.G} {Ev : XK} {e : Expr} {es : List Expr} {ve : VE} {ves : VEs} {pos p p2 p3 : Pos} {x : Str}
theorem de_callK (C : Cok X b Ev) {j k n : Nat} (h : FnK X.prog X.w X.K X.mg X.base b.g x j (Γ.ar n) (Γ.fn n)) (hr : Room k X.A) (hj : j ≤ k)
    (ha : PA X (e :: es) (RdEs b Γ Ev ves)) (hg : Gl X x := by rfl) (hdb : (x == ("__debug__" : Str)) = false := by decide) (he : starEach (e :: es) X.env = (false, eval e X.env) :: starEach es X.env := by rfl) (hpl : (backTo pos (starEach es X.env)).any (·.1) = false := by rfl) :
    PE X (.Call (.Name x p) (e :: es) [] pos) (RdE b Γ Ev (.call n ves)) := by
  obtain ⟨f, fd, ps, F, hm, hk, hb⟩ := h
  rw [← C.K] at F
  exact de_call C (by rw [← C.K]; exact F) (hr.mono hj) hm hk hb ha hg hdb he hpl
end
end Vs

-- Vs17
namespace Vs
open PySem PySem.Spec PyProof.Rows L2

/-! ### the stream of draws -/
structure Sg where
  st : Addr
  ad : Addr
  sc : List Int
  s1 : Int
  s2 : Int
  s3 : Int
structure Sg.Ok (s : Sg) : Prop where
  ne : s.st ≠ s.ad
  h1 : 0 ≤ s.s1
  h2 : 0 ≤ s.s2
  h3 : 0 ≤ s.s3
  h4 : s.s3 < 2147483629
structure Sg.At (s : Sg) (H : Hp) : Prop where
  ok : s.Ok
  a1 : H s.st = some (.lst [.ref s.ad, .int s.s1, .int s.s2, .int s.s3])
  a2 : H s.ad = some (.lst (s.sc.map V.int))

section
variable (K : PySem.W.Frag)
def dAdd : R2 := rI0 fun i j => .int (i + j)
def dMul : R2 := rI CMul fun i j => .int (i * j)
def dMod : R2 := rI (fun _ j => 0 < j) fun i j => .int (i % j)
def dPow : R2 := rI CPow fun i j => .int (i ^ j.toNat)
def dDiv : R2 := rI CDivW fun i j => .int (i / j)
def dGe : R2 := rI0 fun i j => .bl (decide (j ≤ i))
def dGt : R2 := rI0 fun i j => .bl (decide (j < i))
def dAbs : List V → Hp → VK → Prop := fun xs H Q => ∃ i, xs = [.int i] ∧ Q (.int (if i < 0 then -i else i)) H
def dInt : List V → Hp → VK → Prop := fun xs H Q => (∃ i, xs = [.int i] ∧ Q (.int i) H) ∨ ∃ k, xs = [.bl k] ∧ Q (.int (if k then 1 else 0)) H
def xAt (i : Int) : TE := tOp (rIx K) (tVar 0) (tC (.int i))
def kI (i : Int) : TE := tC (.int i)
def put (te : TE) (i : Int) : TS := tAsg te (gSub (tVar 0) (kI i) rSetL)
def aInt (te : TE) : TE := tCB dInt (tCons te tNil)
def tDrawC : TT := tAnd (tTest (tOp rEq (xAt K 1) (kI 0))) (tTest (tOp (rNeD K) (xAt K 0) (tLst tNil)))
def tDrawB : TS := tSeq (tAsg (tCB dAbs (tCons (tBM K "list" rPopAt (xAt K 0) (tCons (kI 0) tNil)) tNil)) (gName 2))
  (tSeq (put (tOp dMod (aInt (tOp dAdd (tOp dAdd (tOp dMul (xAt K 3) (kI 6151)) (tVar 2)) (kI 7))) (kI 2147483629)) 3)
    (put (tIf (tTest (tOp dGe (tVar 2) (tOp dPow (kI 10) (kI 18)))) (tVar 2) (kI 0)) 1))
def tDrawD : TS := tSeq (tAsg (tOp dMod (aInt (xAt K 1)) (tVar 1)) (gName 3)) (tSeq (put (tOp dDiv (xAt K 1) (tVar 1)) 1) (tRet (tVar 3)))
def tDrawM : TE := tOp dMod (aInt (tOp dPow (tOp dAdd (tOp dAdd (xAt K 3) (tOp dMul (kI 8191) (xAt K 2))) (kI 50021)) (kI 5))) (kI 2147483587)
def tDrawR : TE := tOp dMod (tOp dMod (aInt (tOp dPow (tOp dAdd (tOp dAdd (tOp dMul (tVar 4) (kI 40009)) (tOp dMul (kI 20011) (xAt K 2))) (kI 31)) (kI 3))) (kI 1000000009)) (tVar 1)
def tDraw : TS := tSeq (put (tOp dAdd (xAt K 2) (kI 1)) 2) (tSeq (tWhile (tDrawC K) (tDrawB K)) (tSeq (tIfS (tTest (tOp dGt (xAt K 1) (kI 0))) (tDrawD K) tNext) (tSeq (tAsg (tDrawM K) (gName 4)) (tRet (tDrawR K)))))
end
section
variable {K : PySem.W.Frag} {σ : L2.St} {H : Hp} {s : Sg} {Q : VK} {D : Ends}
/-- the stream's state s stands in H; all else of H0 is as it was -/
structure Drw (H0 H : Hp) (s s' : Sg) : Prop where
  at_ : s'.At H
  st : s'.st = s.st
  ad : s'.ad = s.ad
  keep : ∀ a o, H0 a = some o → a ≠ s.st → a ≠ s.ad → H a = some o
  there : ∀ a o, H0 a = some o → ∃ o', H a = some o'
theorem Drw.refl (h : s.At H) : Drw H H s s := ⟨h, rfl, rfl, fun _ _ e _ _ => e, fun _ o e => ⟨o, e⟩⟩
variable {H0 : Hp} {s0 : Sg}
theorem Drw.new {p : Addr} {o : HO} (h : Drw H0 H s0 s) (hp : H p = none) : Drw H0 (upd H p o) s0 s := by
  have ne : ∀ {a u}, H a = some u → a ≠ p := fun e => ne_of_none e hp
  refine ⟨⟨h.at_.ok, by rw [upd_ne (ne h.at_.a1)]; exact h.at_.a1, by rw [upd_ne (ne h.at_.a2)]; exact h.at_.a2⟩, h.st, h.ad, fun a u e n1 n2 => ?_, fun a u e => ?_⟩
  · have q := h.keep a u e n1 n2
    rw [upd_ne (ne q)]; exact q
  · obtain ⟨u', q⟩ := h.there a u e
    exact ⟨u', by rw [upd_ne (ne q)]; exact q⟩
theorem Drw.putSt {s1 s2 s3 : Int} (h : Drw H0 H s0 s) (ok : (Sg.mk s.st s.ad s.sc s1 s2 s3).Ok) : Drw H0 (upd H s.st (.lst [.ref s.ad, .int s1, .int s2, .int s3])) s0 ⟨s.st, s.ad, s.sc, s1, s2, s3⟩ := by
  refine ⟨⟨ok, upd_same, by show upd H s.st _ s.ad = _; rw [upd_ne (Ne.symm h.at_.ok.ne)]; exact h.at_.a2⟩, h.st, h.ad, fun a u e n1 n2 => ?_, fun a u e => ?_⟩
  · rw [upd_ne (by rw [h.st]; exact n1)]
    exact h.keep a u e n1 n2
  · by_cases z : a = s.st
    · rw [z]; exact ⟨_, upd_same⟩
    · rw [upd_ne z]; exact h.there a u e
theorem Drw.putAd {sc : List Int} (h : Drw H0 H s0 s) : Drw H0 (upd H s.ad (.lst (sc.map V.int))) s0 ⟨s.st, s.ad, sc, s.s1, s.s2, s.s3⟩ := by
  refine ⟨⟨⟨h.at_.ok.ne, h.at_.ok.h1, h.at_.ok.h2, h.at_.ok.h3, h.at_.ok.h4⟩, by show upd H s.ad _ s.st = _; rw [upd_ne h.at_.ok.ne]; exact h.at_.a1, upd_same⟩, h.st, h.ad, fun a u e n1 n2 => ?_, fun a u e => ?_⟩
  · rw [upd_ne (by rw [h.ad]; exact n2)]
    exact h.keep a u e n1 n2
  · by_cases z : a = s.ad
    · rw [z]; exact ⟨_, upd_same⟩
    · rw [upd_ne z]; exact h.there a u e
/-- the cells of the stream -/
theorem x_at {i : Int} {v : V} (h : s.At H) (hs : σ[0]? = some (some (.ref s.st))) (hi : atI [V.ref s.ad, .int s.s1, .int s.s2, .int s.s3] i = some v) (q : Q v H) : xAt K i σ H Q :=
  ⟨_, hs, .inl ⟨s.st, _, i, v, rfl, rfl, SqL.of h.a1, hi, q⟩⟩
theorem put_at {te : TE} {i : Int} {j : Nat} (h : te σ H fun v H1 => ∃ s1 : Sg, s1.At H1 ∧ σ[0]? = some (some (.ref s1.st)) ∧ ixN 4 i = some j ∧ D.nx σ (upd H1 s1.st (.lst ([V.ref s1.ad, .int s1.s1, .int s1.s2, .int s1.s3].set j v))))
    (mono : ∀ {Q Q' : VK}, te σ H Q → (∀ v H', Q v H' → Q' v H') → te σ H Q') : put te i D σ H :=
  mono h fun v H1 ⟨s1, h1, h2, h3, h4⟩ => ⟨_, h2, s1.st, _, i, j, rfl, rfl, h1.a1, h3, h4⟩
end
end Vs

-- Vs18
namespace Vs
open PySem PySem.Spec PyProof.Rows L2
section
variable {K : PySem.W.Frag} {H H0 : Hp} {s s0 : Sg} {m : Int} {Q : VK}
def dσ (st : Addr) (m : Int) (c d e : Option V) : L2.St := [some (.ref st), some (.int m), c, d, e]
theorem lst_ne {xs : List V} (h : SqL K H s.ad xs) : True := trivial
theorem eqv_nil (l : List Int) : (PyData.eqv (.list (l.map PyData.int)) (.list [])) = l.isEmpty := by
  cases l <;> rfl
theorem shaped_ints (l : List Int) : SeqAt.shaped (.list (l.map PyData.int)) = true := by
  have h : ∀ l : List Int, PyData.canLayAll0 (l.map PyData.int) = true ∧ PyData.depthAll (l.map PyData.int) = 0 := by
    intro l
    induction l with
    | nil => exact ⟨rfl, rfl⟩
    | cons a r ih => exact ⟨by simp [PyData.canLayAll0, PyData.canLay0, ih.1], by simp [PyData.depthAll, PyData.depth, ih.2]⟩
  have e1 : PyData.canLay0 (.list (l.map PyData.int)) = true := by simp [PyData.canLay0, (h l).1]
  have e2 : PyData.depth (.list (l.map PyData.int)) ≤ 64 := by simp [PyData.depth, (h l).2]
  unfold SeqAt.shaped
  rw [e1, decide_eq_true e2]; rfl
theorem dp_ints : ∀ (l : List Int), DpAll K H (l.map V.int) (l.map PyData.int)
  | [] => .nil
  | a :: r => .cons (.int a) (dp_ints r)
/-- the test of the loop -/
theorem draw_test {c d e : Option V} {QT : Bool → Hp → Prop} (h : Drw H0 H s0 s) (q : ∀ H', Drw H0 H' s0 s → QT (decide (s.s1 = 0) && !s.sc.isEmpty) H') : tDrawC K (dσ s.st m c d e) H QT := by
  refine x_at h.at_ rfl rfl ⟨rfl, _, rfl, ?_⟩
  by_cases h1 : s.s1 = 0
  · have e1 : decide (V.int s.s1 = V.int 0) = true := by simp [h1]
    rw [e1]
    refine iteT (x_at h.at_ rfl rfl ⟨by decide, fun p hp => ⟨.list (s.sc.map PyData.int), .list [], .lst (SqL.of (by rw [upd_ne (ne_of_none h.at_.a2 hp)]; exact h.at_.a2)) (dp_ints _), .lst (SqL.of upd_same) .nil, shaped_ints _, rfl, ⟨_, rfl, ?_⟩⟩⟩)
    have z := q _ (h.new (o := .lst []) hp)
    rw [eqv_nil]
    simpa [h1] using z
  · have e1 : decide (V.int s.s1 = V.int 0) = false := by simp [h1]
    rw [e1]
    refine iteF ?_
    have z := q _ h
    simpa [h1] using z
theorem erase0 (a : Int) (r : List Int) : ((a :: r).map V.int).eraseIdx 0 = r.map V.int := rfl
/-- a turn -/
theorem draw_body {c d e : Option V} {D : Ends} {a : Int} {r : List Int} (h : Drw H0 H s0 s) (hc : s.sc = a :: r)
    (q : ∀ c' H' s', Drw H0 H' s0 s' → s'.sc = r → s'.s2 = s.s2 → s'.st = s.st → D.nx (dσ s.st m c' d e) H') : tDrawB K D (dσ s.st m c d e) H := by
  have ok := h.at_.ok
  have hpop : rPopAt (.ref s.ad) [.int 0] H (fun y H1 => dAbs [y] H1 fun x H2 => (tSeq (put (tOp dMod (aInt (tOp dAdd (tOp dAdd (tOp dMul (xAt K 3) (kI 6151)) (tVar 2)) (kI 7))) (kI 2147483629)) 3)
    (put (tIf (tTest (tOp dGe (tVar 2) (tOp dPow (kI 10) (kI 18)))) (tVar 2) (kI 0)) 1)) D ((dσ s.st m c d e).set 2 (some x)) H2) := by
    refine ⟨s.ad, s.sc.map V.int, 0, 0, .int a, rfl, rfl, h.at_.a2, by decide, by decide, ?_, ?_, ?_⟩
    · rw [hc]
      exact seqIndex_of (k := 0) (by decide) (by simp)
    · rw [hc]; rfl
    · rw [hc, erase0]
      refine ⟨a, rfl, ?_⟩
      have h1 : Drw H0 (upd H s.ad (.lst (r.map V.int))) s0 ⟨s.st, s.ad, r, s.s1, s.s2, s.s3⟩ := h.putAd (sc := r)
      obtain ⟨cc, ec⟩ : ∃ cc : Int, cc = (if a < 0 then -a else a) := ⟨_, rfl⟩
      have c0 : 0 ≤ cc := by rw [ec]; split <;> omega
      rw [← ec]
      have h3 := ok.h3
      have h4 := ok.h4
      have hb : CMul s.s3 6151 := .inl ⟨by omega, by omega⟩
      have pm : (0 : Int) < 2147483629 := by decide
      refine x_at (s := ⟨s.st, s.ad, r, s.s1, s.s2, s.s3⟩) h1.at_ rfl rfl ⟨_, 6151, rfl, rfl, hb, ⟨.int cc, rfl, _, cc, rfl, rfl, _, 7, rfl, rfl, .inl ⟨_, rfl, _, 2147483629, rfl, rfl, pm, ?_⟩⟩⟩
      refine ⟨.ref s.st, rfl, s.st, _, 3, 3, rfl, rfl, h1.at_.a1, rfl, ?_⟩
      obtain ⟨z3, e3⟩ : ∃ z3 : Int, z3 = (s.s3 * 6151 + cc + 7) % 2147483629 := ⟨_, rfl⟩
      show (put (tIf (tTest (tOp dGe (tVar 2) (tOp dPow (kI 10) (kI 18)))) (tVar 2) (kI 0)) 1) D (dσ s.st m (some (.int cc)) d e) (upd _ s.st (.lst [.ref s.ad, .int s.s1, .int s.s2, .int ((s.s3 * 6151 + cc + 7) % 2147483629)]))
      rw [← e3]
      have b1 : 0 ≤ z3 := by rw [e3]; exact Int.emod_nonneg _ (by decide)
      have b2 : z3 < 2147483629 := by rw [e3]; exact Int.emod_lt_of_pos _ (by decide)
      have h2 := h1.putSt (s1 := s.s1) (s2 := s.s2) (s3 := z3) ⟨ok.ne, ok.h1, ok.h2, b1, b2⟩
      refine ⟨.int cc, rfl, 10, 18, rfl, rfl, ⟨by decide, by decide, by decide⟩, cc, _, rfl, rfl, _, rfl, ?_⟩
      have fin : ∀ z1 : Int, 0 ≤ z1 → (gSub (tVar 0) (kI 1) rSetL) (.int z1) (dσ s.st m (some (.int cc)) d e) (upd (upd H s.ad (.lst (r.map V.int))) s.st (.lst [.ref s.ad, .int s.s1, .int s.s2, .int z3])) D.nx := fun z1 hz => by
        refine ⟨.ref s.st, rfl, s.st, _, 1, 1, rfl, rfl, h2.at_.a1, rfl, ?_⟩
        exact q _ _ _ (h2.putSt (s1 := z1) (s2 := s.s2) (s3 := z3) ⟨ok.ne, hz, ok.h2, b1, b2⟩) rfl rfl rfl
      show if decide (_ ≤ cc) = true then _ else _
      split
      · exact ⟨.int cc, rfl, fin cc c0⟩
      · exact fin 0 (by decide)
  exact x_at h.at_ rfl rfl ⟨.inl ⟨rfl, _, SqL.of h.at_.a2⟩, hpop⟩
theorem drawM_ok {st ad : Addr} {sc : List Int} {a1 a2 a3 : Int} {c d e : Option V} (h : (Sg.mk st ad sc a1 a2 a3).At H) (h2 : a2 ≤ 2 ^ 40) (q : ∀ z : Int, 0 ≤ z → z < 2147483587 → Q (.int z) H) : tDrawM K (dσ st m c d e) H Q := by
  have p2 : 0 ≤ a2 := h.ok.h2
  have p3 : 0 ≤ a3 := h.ok.h3
  have p4 : a3 < 2147483629 := h.ok.h4
  have hb : CMul 8191 a2 := .inl ⟨by decide, by decide⟩
  have hp : CPow (a3 + 8191 * a2 + 50021) 5 := ⟨by decide, by decide, by omega⟩
  have pm : (0 : Int) < 2147483587 := by decide
  refine x_at h rfl rfl (x_at h rfl rfl ⟨8191, a2, rfl, rfl, hb, a3, 8191 * a2, rfl, rfl, _, 50021, rfl, rfl, _, 5, rfl, rfl, hp, .inl ⟨_, rfl, _, 2147483587, rfl, rfl, pm, q _ (Int.emod_nonneg _ (by decide)) (Int.emod_lt_of_pos _ pm)⟩⟩)
theorem drawR_ok {st ad : Addr} {sc : List Int} {a1 a2 a3 z : Int} {c d : Option V} (h : (Sg.mk st ad sc a1 a2 a3).At H) (h2 : a2 ≤ 2 ^ 40) (hm : 0 < m) (z0 : 0 ≤ z) (z1 : z < 2147483587) (q : ∀ r : Int, 0 ≤ r → r < m → Q (.int r) H) : tDrawR K (dσ st m c d (some (.int z))) H Q := by
  have p2 : 0 ≤ a2 := h.ok.h2
  have hb1 : CMul z 40009 := .inl ⟨by omega, by omega⟩
  have hb : CMul 20011 a2 := .inl ⟨by decide, by decide⟩
  have hp : CPow (z * 40009 + 20011 * a2 + 31) 3 := ⟨by decide, by decide, by omega⟩
  have pm : (0 : Int) < 1000000009 := by decide
  refine ⟨.int z, rfl, z, 40009, rfl, rfl, hb1, x_at h rfl rfl ⟨20011, a2, rfl, rfl, hb, _, _, rfl, rfl, _, 31, rfl, rfl, _, 3, rfl, rfl, hp, .inl ⟨_, rfl, _, 1000000009, rfl, rfl, pm, ?_⟩⟩⟩
  exact ⟨.int m, rfl, _, m, rfl, rfl, hm, q _ (Int.emod_nonneg _ (by omega)) (Int.emod_lt_of_pos _ hm)⟩
/-- many(stream, m) -/
theorem draw_pure (h : s.At H) (hm : 0 < m) (hm2 : m < 2 ^ 64) (h2 : s.s2 < 2 ^ 40) (q : ∀ d H' s', Drw H H' s s' → s'.s2 = s.s2 + 1 → 0 ≤ d → d < m → Q (.int d) H') :
    tDraw K { nx := fun _ H' => Q .non H', rt := Q } (dσ s.st m none none none) H := by
  obtain ⟨st, ad, sc, a1, a2, a3⟩ := s
  have ok := h.ok
  have h0 := Drw.refl h
  have p2 : 0 ≤ a2 := ok.h2
  have h2 : a2 < 2 ^ 40 := h2
  have hlog : m.natAbs.log2 < 9000 := by
    have a : m.natAbs < 2 ^ 64 := by omega
    have b : m.natAbs ≠ 0 := by omega
    have c := (Nat.log2_lt b).mpr a
    omega
  have hA := h0.putSt (s1 := a1) (s2 := a2 + 1) (s3 := a3) ⟨ok.ne, ok.h1, by show 0 ≤ a2 + 1; omega, ok.h3, ok.h4⟩
  refine x_at h rfl rfl ⟨_, 1, rfl, rfl, .ref st, rfl, st, _, 2, 2, rfl, rfl, h.a1, rfl, ?_⟩
  show (tSeq (tWhile (tDrawC K) (tDrawB K)) _) _ (dσ st m none none none) (upd H st (.lst [.ref ad, .int a1, .int (a2 + 1), .int a3]))
  refine ⟨fun n σ H' => ∃ c s', σ = dσ st m c none none ∧ Drw H H' ⟨st, ad, sc, a1, a2, a3⟩ s' ∧ s'.s2 = a2 + 1 ∧ s'.sc.length = n, ⟨sc.length, none, _, rfl, hA, rfl, rfl⟩, ?_⟩
  rintro n σ H1 ⟨c, ⟨st1, ad1, sc1, b1, b2, b3⟩, rfl, h1, e2, en⟩
  obtain rfl : st1 = st := h1.st
  obtain rfl : ad1 = ad := h1.ad
  obtain rfl : b2 = a2 + 1 := e2
  have hst : (Sg.mk st1 ad1 sc1 b1 (a2 + 1) b3).st = st1 := rfl
  refine draw_test (s := ⟨st1, ad1, sc1, b1, a2 + 1, b3⟩) h1 fun H2 h3 => ?_
  have ok1 := h3.at_.ok
  cases hb : (decide (b1 = 0) && !sc1.isEmpty) with
  | true =>
    refine iteT ⟨fun σ' H' => ∃ n', n' < n ∧ ∃ c s', σ' = dσ st1 m c none none ∧ Drw H H' ⟨st1, ad1, sc, a1, a2, a3⟩ s' ∧ s'.s2 = a2 + 1 ∧ s'.sc.length = n', fun σ' H' ⟨n', hn, z⟩ => ⟨n', hn, z⟩, ?_⟩
    obtain ⟨a, r, hc⟩ : ∃ a r, sc1 = a :: r := by
      cases hs : sc1 with
      | nil => rw [hs] at hb; simp at hb
      | cons a r => exact ⟨a, r, rfl⟩
    refine draw_body (s := ⟨st1, ad1, sc1, b1, a2 + 1, b3⟩) h3 hc fun c' H' s' hd hr h2' hst' => ⟨r.length, ?_, c', s', rfl, hd, h2', by rw [hr]⟩
    have en' : sc1.length = n := en
    rw [← en', hc]; simp
  | false =>
    refine iteF ?_
    refine x_at (s := ⟨st1, ad1, sc1, b1, a2 + 1, b3⟩) h3.at_ rfl rfl ⟨_, 0, rfl, rfl, _, rfl, ?_⟩
    show if decide (0 < b1) = true then _ else _
    have hm0 : m ≠ 0 := by omega
    have c1 : 0 ≤ b1 := ok1.h1
    by_cases hp : 0 < b1
    · rw [if_pos (decide_eq_true hp)]
      refine x_at (s := ⟨st1, ad1, sc1, b1, a2 + 1, b3⟩) h3.at_ rfl rfl (.inl ⟨_, rfl, .int m, rfl, _, m, rfl, rfl, hm, ?_⟩)
      refine x_at (s := ⟨st1, ad1, sc1, b1, a2 + 1, b3⟩) h3.at_ rfl rfl ⟨.int m, rfl, _, m, rfl, rfl, ⟨hm, hlog⟩, .ref st1, rfl, st1, _, 1, 1, rfl, rfl, h3.at_.a1, rfl, ?_⟩
      refine ⟨_, rfl, ?_⟩
      have h5 := h3.putSt (s1 := b1 / m) (s2 := a2 + 1) (s3 := b3) ⟨ok1.ne, Int.ediv_nonneg c1 (by omega), ok1.h2, ok1.h3, ok1.h4⟩
      exact q _ _ _ h5 rfl (Int.emod_nonneg _ hm0) (Int.emod_lt_of_pos _ hm)
    · rw [if_neg (by simpa using hp)]
      refine drawM_ok h3.at_ (by omega) fun z z0 z1 => ?_
      exact drawR_ok h3.at_ (by omega) hm z0 z1 fun r r0 r1 => q r _ _ h3 rfl r0 r1
end
end Vs

-- Vs19
namespace Vs
open PySem PySem.Spec PyProof.Rows L2

/-! ### what a law keeps apart: the script, the stream, the tables, a list told twice -/
structure GS where
  scr : Option (Addr × List Int × Bool) := none
  str : Option Sg := none
  box : Option (Addr × List T) := none
def ScrAt (K : PySem.W.Frag) (H : Hp) (a : Addr) (ns : List Int) : Bool → Prop
  | true => H a = some (.lst (ns.map V.int))
  | false => (∃ o, H a = some (.frz o (.lst (ns.map V.int)))) ∨ (∀ H', SqL K H' a (ns.map V.int))
structure GSI (K : PySem.W.Frag) (Tb : List (Addr × Str)) (S : GS) (H : Hp) : Prop where
  scr : ∀ a ns b, S.scr = some (a, ns, b) → ScrAt K H a ns b
  str : ∀ s, S.str = some s → s.At H
  tab : LamX.Tabs Tb H
  box : ∀ a xs, S.box = some (a, xs) → imms xs = true ∧ (∃ vs, H a = some (.lst vs) ∧ Reps K H (fun _ => False) xs vs) ∧ (∀ s, S.str = some s → a ≠ s.st ∧ a ≠ s.ad) ∧ ∀ ns, S.scr ≠ some (a, ns, true)
  apart : ∀ a ns s, S.scr = some (a, ns, true) → S.str = some s → a ≠ s.st ∧ a ≠ s.ad
def GSA (Tb : List (Addr × Str)) (S : GS) (a : Addr) : Prop :=
  (∃ ns, S.scr = some (a, ns, true)) ∨ (∃ s, S.str = some s ∧ (a = s.st ∨ a = s.ad)) ∨ (∃ p ∈ Tb, a = p.1) ∨ ∃ xs, S.box = some (a, xs)
section
variable {K : PySem.W.Frag} {Tb : List (Addr × Str)} {S S' : GS} {H H' : Hp}
theorem Tabs.stab (h : LamX.Tabs Tb H) (k : ∀ p ∈ Tb, H' p.1 = H p.1) (i : ∀ a o, ImmO o → H a = some o → H' a = some o) : LamX.Tabs Tb H' := fun p hp => by
  obtain ⟨ps, h1, h2, h3⟩ := h p hp
  refine ⟨ps, by rw [k p hp]; exact h1, h2, fun pos cv hc => ?_⟩
  obtain ⟨c, e1, e2⟩ := h3 pos cv hc
  exact ⟨c, e1, i _ _ (by unfold LamX.CodeO; trivial) e2⟩
def glo (K : PySem.W.Frag) (Tb : List (Addr × Str)) : Glo where
  G := GS
  SA := GSA Tb
  SI := GSI K Tb
  trk := fun {S H a} h ha => by
    rcases ha with ⟨ns, e⟩ | ⟨s, e, rfl | rfl⟩ | ⟨p, hp, rfl⟩ | ⟨xs, e⟩
    · exact ⟨_, h.scr _ _ _ e, fun z => z⟩
    · exact ⟨_, (h.str s e).a1, fun z => z⟩
    · exact ⟨_, (h.str s e).a2, fun z => z⟩
    · obtain ⟨ps, h1, _⟩ := h.tab p hp
      exact ⟨_, h1, fun z => z⟩
    · obtain ⟨_, ⟨vs, e2, _⟩, _⟩ := h.box _ _ e
      exact ⟨_, e2, fun z => z⟩
  stab := fun {S H H'} h k i => by
    refine ⟨fun a ns b e => ?_, fun s e => ?_, ?_, fun a xs e => ?_, h.apart⟩
    · have q := h.scr a ns b e
      cases b with
      | true =>
        show H' a = _
        rw [k a (.inl ⟨ns, e⟩)]
        exact q
      | false => exact q.imp (fun ⟨o, z⟩ => ⟨o, i _ _ trivial z⟩) id
    · have q := h.str s e
      exact ⟨q.ok, by rw [k _ (.inr (.inl ⟨s, e, .inl rfl⟩))]; exact q.a1, by rw [k _ (.inr (.inl ⟨s, e, .inr rfl⟩))]; exact q.a2⟩
    · exact Tabs.stab h.tab (fun p hp => k _ (.inr (.inr (.inl ⟨p, hp, rfl⟩)))) i
    · obtain ⟨h1, ⟨vs, e2, r⟩, h3⟩ := h.box a xs e
      exact ⟨h1, ⟨vs, by rw [k a (.inr (.inr (.inr ⟨xs, e⟩)))]; exact e2, Reps.keep i (fun a f => f.elim) _ _ r⟩, h3⟩
/-- the stream stands at a, at most n were drawn -/
def Strm (S : GS) (a : Addr) (n : Int) : Prop := ∃ s, S.str = some s ∧ s.st = a ∧ s.s2 ≤ n
/-- n more are drawn at most -/
structure Dr (n : Int) (S S' : GS) : Prop where
  str : ∀ a m, Strm S a m → Strm S' a (m + n)
  box : S'.box = S.box
theorem Dr.refl : Dr 0 S S := ⟨fun a m h => by rw [Int.add_zero]; exact h, rfl⟩
theorem Dr.trans {n m : Int} {S'' : GS} (a : Dr n S S') (b : Dr m S' S'') : Dr (n + m) S S'' := ⟨fun x k h => by rw [← Int.add_assoc]; exact b.str _ _ (a.str x k h), b.box.trans a.box⟩
theorem Strm.le {a : Addr} {n m : Int} (h : Strm S a n) (k : n ≤ m) : Strm S a m := let ⟨s, e, r, q⟩ := h; ⟨s, e, r, Int.le_trans q k⟩
theorem Dr.le {n m : Int} (h : Dr n S S') (k : n ≤ m) : Dr m S S' := ⟨fun a j x => (h.str a j x).le (by omega), h.box⟩
def cDraw : Con GS where
  pre := fun tr S => ∃ a m, tr = [.opq a, .int m] ∧ 0 < m ∧ m < 2 ^ 64 ∧ Strm S a (2 ^ 40 - 1)
  post := fun tr S t own fr S' => ∃ a m d, tr = [.opq a, .int m] ∧ t = .int d ∧ 0 ≤ d ∧ d < m ∧ own = false ∧ fr = true ∧ Dr 1 S S'
def cStream : Con GS where
  pre := fun tr S => ∃ a ns b, tr = [.opq a] ∧ S.scr = some (a, ns, b) ∧ S.str = none ∧ S.box = none ∧ ns.length ≤ 1000
  post := fun tr S t own fr S' => ∃ a, t = .opq a ∧ own = false ∧ fr = true ∧ Strm S' a 0 ∧ S'.box = none
theorem draw_sp {vs : List V} {Q : VK} {E : XK} (h : spC K (glo K Tb) 2 cDraw vs H Q E) : tDraw K { nx := fun _ H' => Q .non H', rt := Q } (L2.start ["stream", "many", "cell", "digit", "mixed"] vs) H := by
  obtain ⟨tr, S, F, hl, hr, hs, hF, ⟨a, m, rfl, hm, hm2, s, es, rfl, e2⟩, hq, _⟩ := h
  obtain ⟨v1, r1, rfl, rfl, v2, r2, rfl, rfl, rfl⟩ := hr
  refine draw_pure (s := s) (hs.str s es) hm hm2 (by omega) fun d H' s' hd h2 d0 d1 => ?_
  have SI0 : GSI K Tb S H := hs
  have imm_kept : ∀ a o, ImmO o → H a = some o → H' a = some o := fun b o hi e => hd.keep b o e (fun z => by rw [z, (hs.str s es).a1] at e; cases e; exact hi) (fun z => by rw [z, (hs.str s es).a2] at e; cases e; exact hi)
  have nst : ∀ b u, H b = some u → (∀ xs, u ≠ .lst xs) → b ≠ s.st ∧ b ≠ s.ad := fun b u e n => ⟨fun z => by rw [z, (hs.str s es).a1] at e; exact n _ (Option.some.inj e).symm, fun z => by rw [z, (hs.str s es).a2] at e; exact n _ (Option.some.inj e).symm⟩
  have sa : ∀ b, GSA Tb { S with str := some s' } b → GSA Tb S b := fun b z => by
    rcases z with ⟨ns, e⟩ | ⟨s2, e, q⟩ | q | ⟨xs, e⟩
    · exact .inl ⟨ns, e⟩
    · cases e
      rw [hd.st, hd.ad] at q
      exact .inr (.inl ⟨s, es, q⟩)
    · exact .inr (.inr (.inl q))
    · exact .inr (.inr (.inr ⟨xs, e⟩))
  have stp : Stp (glo K Tb) S H { S with str := some s' } H' := by
    refine ⟨fun b o e n => ?_, fun b z => .inl (sa b z), hd.there⟩
    rcases n with n | n
    · exact hd.keep b o e (fun z => n (.inr (.inl ⟨s, es, .inl z⟩))) (fun z => n (.inr (.inl ⟨s, es, .inr z⟩)))
    · exact imm_kept b o n e
  have si : GSI K Tb { S with str := some s' } H' := by
    refine ⟨fun b ns bb e => ?_, fun s2 e => ?_, ?_, fun b xs e => ?_, fun b ns s2 e1 e2 => ?_⟩
    · have q := SI0.scr b ns bb e
      cases bb with
      | true => exact hd.keep _ _ q (SI0.apart b ns s e es).1 (SI0.apart b ns s e es).2
      | false => exact q.imp (fun ⟨o, z⟩ => ⟨o, imm_kept _ _ trivial z⟩) id
    · cases e
      exact hd.at_
    · refine Tabs.stab SI0.tab (fun p hp => ?_) imm_kept
      obtain ⟨ps, h1, _⟩ := SI0.tab p hp
      have n := nst p.1 _ h1 (fun xs z => by cases z)
      rw [hd.keep _ _ h1 n.1 n.2, h1]
    · obtain ⟨h1, ⟨us, e3, r⟩, h3⟩ := SI0.box b xs e
      have n := h3.1 s es
      refine ⟨h1, ⟨us, hd.keep _ _ e3 n.1 n.2, Reps.keep imm_kept (fun a f => f.elim) _ _ r⟩, fun s2 e4 => ?_, h3.2⟩
      cases e4
      rw [hd.st, hd.ad]
      exact n
    · cases e2
      rw [hd.st, hd.ad]
      exact SI0.apart b ns s e1 es
  refine hq (.int d) false true { S with str := some s' } ⟨s.st, m, d, rfl, rfl, d0, d1, rfl, rfl, ⟨fun a k ⟨s2, e3, e4, e5⟩ => ?_, rfl⟩⟩ (.int d) H' (fun _ => False) 0 stp si (RepS.plain rfl rfl) (fun _ z => z.elim) (fun z => by cases z)
  rw [es] at e3
  cases e3
  exact ⟨s', rfl, hd.st.trans e4, by omega⟩
end
end Vs

-- Vs20
namespace Vs
open PySem PySem.Spec PyProof.Rows L2
def dList (K : PySem.W.Frag) : List V → Hp → VK → Prop := fun xs H Q => ∃ p ys, xs = [.ref p] ∧ (SqL K H p ys ∨ SqT K H p ys) ∧ ∀ l, H l = none → Q (.ref l) (upd H l (.lst ys))
def tStream (K : PySem.W.Frag) : TS := tRet (tLst (tCons (tCB (dList K) (tCons (tVar 0) tNil)) (tCons (kI 0) (tCons (kI 0) (tCons (kI 19) tNil)))))
section
variable {K : PySem.W.Frag} {Tb : List (Addr × Str)} {S S' : GS} {H H' : Hp}
theorem ScrAt.seq {a : Addr} {ns : List Int} : ∀ {b : Bool}, ScrAt K H a ns b → SqL K H a (ns.map V.int)
  | true, h => .inl (.inl h)
  | false, .inl ⟨o, h⟩ => .inl (.inr ⟨o, h⟩)
  | false, .inr h => h H
theorem ScrAt.new {a p : Addr} {ns : List Int} {o : HO} (hp : H p = none) : ∀ {b : Bool}, ScrAt K H a ns b → ScrAt K (upd H p o) a ns b
  | true, h => by
    show upd H p o a = _
    rw [upd_ne (ne_of_none h hp)]; exact h
  | false, .inl ⟨u, h⟩ => .inl ⟨u, by rw [upd_ne (ne_of_none h hp)]; exact h⟩
  | false, .inr h => .inr h
theorem GSI.new {p : Addr} {o : HO} (h : GSI K Tb S H) (hp : H p = none) : GSI K Tb S (upd H p o) := Glo.new (g := glo K Tb) h hp
theorem stream_sp {vs : List V} {Q : VK} {E : XK} (h : spC K (glo K Tb) 1 cStream vs H Q E) : tStream K { nx := fun _ H' => Q .non H', rt := Q } (L2.start ["script"] vs) H := by
  obtain ⟨tr, S, F, hl, hr, hs, hF, ⟨a, ns, b, rfl, es, e2, e3, hz⟩, hq, _⟩ := h
  obtain ⟨v1, r1, rfl, rfl, rfl⟩ := hr
  have hs : GSI K Tb S H := hs
  refine ⟨.ref a, rfl, a, ns.map V.int, rfl, .inl (hs.scr a ns b es).seq, fun l hl => ?_⟩
  refine ⟨by show 4 ≤ sizeLine; rw [sizeLine_eq]; decide, fun p hp => ?_⟩
  have npl : p ≠ l := fun z => by rw [z, upd_same] at hp; cases hp
  have hp0 : H p = none := by rw [upd_ne npl] at hp; exact hp
  have hs2 : GSI K Tb S (upd (upd H l (.lst (ns.map V.int))) p (.lst [.ref l, .int 0, .int 0, .int 19])) := (hs.new hl).new hp
  have stp : Stp (glo K Tb) S H { S with str := some ⟨p, l, ns, 0, 0, 19⟩ } (upd (upd H l (.lst (ns.map V.int))) p (.lst [.ref l, .int 0, .int 0, .int 19])) := by
    refine ⟨fun x o e _ => ?_, fun x z => ?_, fun x o e => ⟨o, ?_⟩⟩
    · rw [upd_ne (ne_of_none e hp0), upd_ne (ne_of_none e hl)]; exact e
    · rcases z with ⟨ns2, e⟩ | ⟨s2, e, q⟩ | q | ⟨xs, e⟩
      · exact .inl (.inl ⟨ns2, e⟩)
      · cases e
        rcases q with rfl | rfl
        · exact .inr hp0
        · exact .inr hl
      · exact .inl (.inr (.inr (.inl q)))
      · rw [e3] at e; cases e
    · rw [upd_ne (ne_of_none e hp0), upd_ne (ne_of_none e hl)]; exact e
  have si : GSI K Tb { S with str := some ⟨p, l, ns, 0, 0, 19⟩ } (upd (upd H l (.lst (ns.map V.int))) p (.lst [.ref l, .int 0, .int 0, .int 19])) := by
    refine ⟨hs2.scr, fun s2 e => ?_, hs2.tab, fun x xs e => ?_, fun x ns2 s2 e1 e4 => ?_⟩
    · cases e
      exact ⟨⟨npl, Int.le_refl 0, Int.le_refl 0, (by decide : (0 : Int) ≤ 19), (by decide : (19 : Int) < 2147483629)⟩, upd_same, by show upd _ p _ l = _; rw [upd_ne (Ne.symm npl), upd_same]⟩
    · rw [e3] at e; cases e
    · cases e4
      have q : H x = some _ := hs.scr x ns2 true e1
      exact ⟨ne_of_none q hp0, ne_of_none q hl⟩
  exact hq (.opq p) false true { S with str := some ⟨p, l, ns, 0, 0, 19⟩ } ⟨p, rfl, rfl, rfl, ⟨⟨p, l, ns, 0, 0, 19⟩, rfl, rfl, Int.le_refl 0⟩, e3⟩ (.ref p) _ (fun _ => False) 0 stp si (RepS.plain rfl rfl) (fun _ z => z.elim) (fun z => by cases z)
variable {P : Program} {w : World} {mg : Str → Option Value} {base : Heap}
/-- a def by a reading of its own -/
theorem fn_own {x qual : Str} {st : Stmt} {f : Addr} {fd : FuncData} {N ps : List Str} {k : Nat} {g : Glo} {C : Con g.G} {n : Nat} {t : TS} (Fn : Fun K x qual st f fd) (Sc : FnScope N ps (defScope st)) (hn : ps.length = n)
    (hd : ∀ (cdv : Value) (A : Around) (outer : List Env) (s : Shared) (H : Hp) (E : XK), Room k (A.deeper (envOfC qual (defScope st) s.heap.objs.size f cdv)) → (A.deeper (envOfC qual (defScope st) s.heap.objs.size f cdv)).units + 64 < cLine →
      PSs (cxOf (L2.CX P w) P w K mg base N qual (defScope st) f cdv A outer s H E) (defBody st) t)
    (hp : ∀ vs H Q E, spC K g n C vs H Q E → t { nx := fun _ H' => Q .non H', rt := Q } (L2.start N vs) H) : FnOk P w K mg base (L2.CX P w) (k + 1) f fd ps (spC K g n C) := by
  refine Fn.okX Sc (fun vs H Q E h => ?_) (fun cdv A outer s H vs Q E hr h => ⟨t, hd cdv A outer s H E hr ?_, hp vs H Q E h⟩)
  · obtain ⟨tr, S, F, hl, _⟩ := h
    rw [hl, hn]
  · have := hr.un
    omega
end
end Vs

-- Vs21
namespace Vs
open PySem PySem.Spec PyProof.Rows L2

/-! ### several clauses, each with a name for the error -/
abbrev Clause := Value × (Addr → Value → Option Addr → TS)
/-- what the clauses want of an error: the name's slot is i -/
def wClauses (K : PySem.W.Frag) (i : Nat) (out : WX) (D : Ends) : List Clause → WX
  | [] => out
  | (c, ts) :: more => fun cls d σ H => ∃ hit, PySem.W.exmOne K cls c = some hit ∧
      (hit = true → ∀ a, H a = none → ts a cls d { nx := fun τ G => D.nx (τ.set i none) G, rt := D.rt, bk := fun τ G => D.bk (τ.set i none) G, ct := fun τ G => D.ct (τ.set i none) G } (σ.set i (some (.ref a))) H) ∧
      (hit = false → wClauses K i out D more cls d σ H)
inductive ClausesOk (X : Cx) (n : Str) : List ExceptHandler → List Clause → Prop
  | none : ClausesOk X n [] []
  | more {x : Str} {c : Value} {ts : Addr → Value → Option Addr → TS} {b₀ : Stmt} {suite : List Stmt} {np hp : Pos} {rest : List ExceptHandler} {cl : List Clause} (nm : Names X x c)
      (su : ∀ (a : Addr) (oe : Obj) (cls : Value) (d : Option Addr) (pn : List (Addr × Obj)), Zc cls d oe → (∃ vs, oe.data = .fields vs) → PSs (X.suite a ((a, oe) :: pn)) (b₀ :: suite) (ts a cls d)) (r : ClausesOk X n rest cl) :
      ClausesOk X n (.ExceptHandler (some (.Name x np)) (some n) (b₀ :: suite) hp :: rest) ((c, ts) :: cl)
section
variable {X : Cx} {n : Str} {i : Nat} {body : List Stmt} {h₀ : ExceptHandler} {hds : List ExceptHandler} {cl : List Clause} {pos : Pos} {tb : WX → TS} {out : WX}
theorem ps_try_clauses (stk : X.stack = X.env :: X.outer) (fr0 : X.env.frame = some X.env.locals) (nd : X.N.Nodup) (ix : X.N[i]? = some n) (lo : X.env.kindOf n = some .local) (tk : Takes X out)
    (hb : ∀ (W : WX) (pn : List (Addr × Obj)) (xe : Value → Shared → Prop), Takes (X.tr pn xe) W → PassesOwn (model X.prog X.w) X.A X.env xe → PSs (X.tr pn xe) body (tb W))
    (hh : ClausesOk X n (h₀ :: hds) cl) : PS X (.Try body (h₀ :: hds) [] [] pos) (fun D σ H => tb (wClauses X.K i out D cl) D σ H) := by
  refine ⟨fun pins s σ H D I h => ?_⟩
  have xok := I.ok
  have frames : X.A.frames = some (X.env :: X.outer) := by rw [xok.frames, stk]
  refine wpAny_Try_except (wpAny_mono ((hb (wClauses X.K i out D cl) (X.pn ++ pins)
    (fun er t₁ => wpAny (model X.prog X.w) X.A (noteFrame er X.env) (fun _ t₂ => wpAny (model X.prog X.w) X.A (setFlight er none) (fun _ t₃ => wpAny (model X.prog X.w) X.A (handleBy er X.env (h₀ :: hds)) (SP X pins D) X.xe t₃) X.xe t₂) X.xe t₁)
    (fun u s' air => ?_) PassesOwn.looking).run [] s σ H D (I.toTry _) h) (fun fl s1 done => ?_) (fun _ _ z => z))
  · obtain ⟨a, B, sI, pins', σ', H', cls, d, rfl, J0, ground, slots, sky0, fresh, osE, bareE, want⟩ := air
    have J : Inv X pins σ' H' sI := J0.ofTry xok
    have sky : Sky B (X.env :: X.outer) a (Zc cls d) X.env.locals s'.heap := by rw [← stk]; exact sky0
    show wpAny (model X.prog X.w) X.A (noteFrame (.ref a) X.env) _ _ _
    refine Sky.land Zc.steady frames fr0 sky fun g3 fly3 up3 => ?_
    have J3 : Inv X pins σ' H' { s' with heap := g3 } := J.landed ground fly3.1 (slots.trans up3) osE bareE
    obtain ⟨o3, v3, at3, z3, dat3⟩ := fly3.there
    have off : a ∉ L2.frs (X.env :: X.outer) := fun hm => by
      obtain ⟨_, o', e', no⟩ := fly3.2.2.1.mem hm
      rw [at3] at e'
      cases e'
      exact no _ dat3
    have offL : a ≠ X.env.locals := fun z => off (List.mem_filterMap.mpr ⟨X.env, List.mem_cons_self, by rw [fr0, z]⟩)
    have offF : a ∉ X.fs := fun hm => by
      obtain ⟨en, hen, q⟩ := List.mem_filterMap.mp hm
      exact off (List.mem_filterMap.mpr ⟨en, List.mem_cons_of_mem _ hen, q⟩)
    have S3 := J3.suite at3 dat3 fresh offL offF
    have look : PySem.W.Looks (model X.prog X.w) g3 (typeOf (.ref a)) cls := fun A Q E t k q => wpAny_typeOf_ref (k _ _ at3) (by rw [z3.1]; exact q)
    have walk : ∀ {hs : List ExceptHandler} {l : List Clause}, ClausesOk X n hs l → wClauses X.K i out D l cls d σ' H' → wpAny (model X.prog X.w) X.A (handleBy (.ref a) X.env hs) (SP X pins D) X.xe { s' with heap := g3 } := by
      intro hs l ok
      induction ok with
      | none =>
        intro w
        refine wpAny_handleBy_nil ?_
        obtain ⟨_, _, _, oe, vs, T, _, _, ea, _, ed, e1, _⟩ := id fly3
        unfold PySem.passOn
        refine wpAny_bind (wpAny_field ea ed e1 ?_)
        rw [if_neg (show ¬ ((Value.ref T == Value.none) = true) from by simp)]
        have last : wpAny (model X.prog X.w) X.A (setFlight (.ref a) X.env.frame) (fun _ t => wpAny (model X.prog X.w) X.A (throw (.ref a) : Sem Flow) (SP X pins D) X.xe t) X.xe { s' with heap := g3 } := by
          rw [fr0]
          refine HandSPX.setFlight_upZ fly3 fun g4 held up4 => wpAny_throw (tk _ _ ?_)
          exact ⟨a, B, sI, pins, σ', H', cls, d, rfl, J, ground, (slots.trans up3).trans up4, .inr (.inr (by rw [stk]; exact held)), fresh, osE, bareE, w⟩
        first
          | exact wpAny_bind (wpAny_pure (wpAny_bind last))
          | exact wpAny_bind last
      | @more x c ts b₀ suite np hp rest l2 nm su r ih =>
        intro w
        obtain ⟨hit, he, yes, no⟩ := w
        refine wpAny_handleBy_cons (codeAny_handlers_test ?_) (by intro q; cases q)
        have named : ∀ {Q : Value → Shared → Prop} {E : Value → Shared → Prop}, Q c { s' with heap := g3 } → wpAny (model X.prog X.w) (X.A.mark (some (.ref a))) (eval (.Name x np) X.env) Q E { s' with heap := g3 } := fun {Q E} q => by
          obtain ⟨gl, dbg, m | ⟨m, bl, nn⟩⟩ := nm
          · exact ld_glob (X := X.suite a ((a, o3) :: (X.pn ++ pins))) S3 gl m q dbg
          · exact ld_blt (X := X.suite a ((a, o3) :: (X.pn ++ pins))) S3 gl m bl q nn dbg
        refine named ((PySem.W.exm_one (M := model X.prog X.w) (J3.kIn) look he).here ?_)
        cases hit with
        | false =>
          show wpAny _ X.A (handleBy (.ref a) X.env rest) _ _ _
          exact ih (no rfl)
        | true =>
          refine codeAny_handlers_suite_as (HandSPX.lands_againZ fly3 fun g4 fly4 up4 => ?_)
          have J4 : Inv X pins σ' H' { s' with heap := g4 } := J.landed ground fly4.1 ((slots.trans up3).trans up4) osE bareE
          obtain ⟨o4, v4, at4, z4, dat4⟩ := fly4.there
          have S4 := J4.suite at4 dat4 fresh offL offF
          refine store_ok (X := X.suite a ((a, o4) :: (X.pn ++ pins))) (v := .ref a) S4 nd ix (.inl lo) rfl (fun s5 S5 => ?_) (.inr lo)
          refine wpAny_mono ((su a o4 cls d (X.pn ++ pins) z4 ⟨_, dat4⟩).run [] s5 _ H' _ S5 (yes rfl a fresh)) (fun fl s6 done => ?_) (fun _ _ z => False.elim z)
          have gone : ∀ {τ : L2.St} {G : Hp} {Q : Shared → Prop}, Inv (X.suite a ((a, o4) :: (X.pn ++ pins))) [] τ G s6 → (∀ s7, Inv X pins (τ.set i none) G s7 → Q s7) →
              wpAny (model X.prog X.w) X.A (do bindName X.env n .none; unbindBehindTheSuite X.env n hp) (fun _ s7 => Q s7) X.xe s6 := fun {τ G Q} S6 hq => gone_ok (S6.unsuite xok) nd ix lo hq
          cases fl with
          | ret u =>
            obtain ⟨v6, τ, G, S6, r6, q6⟩ := done
            exact gone S6 fun s7 J7 => ⟨_, _, _, J7, r6, q6⟩
          | next =>
            obtain ⟨τ, G, S6, q6⟩ := done
            exact gone S6 fun s7 J7 => ⟨_, _, J7, q6⟩
          | brk =>
            obtain ⟨τ, G, S6, q6⟩ := done
            exact gone S6 fun s7 J7 => ⟨_, _, J7, q6⟩
          | cont =>
            obtain ⟨τ, G, S6, q6⟩ := done
            exact gone S6 fun s7 J7 => ⟨_, _, J7, q6⟩
    exact walk hh want
  · cases fl with
    | ret u =>
      obtain ⟨v, τ, G, J1, r, q⟩ := done
      exact ⟨v, τ, G, J1.ofTry xok, r, q⟩
    | next =>
      obtain ⟨τ, G, J1, q⟩ := done
      exact wpAny_execs_nil ⟨τ, G, J1.ofTry xok, q⟩
    | brk =>
      obtain ⟨τ, G, J1, q⟩ := done
      exact ⟨τ, G, J1.ofTry xok, q⟩
    | cont =>
      obtain ⟨τ, G, J1, q⟩ := done
      exact ⟨τ, G, J1.ofTry xok, q⟩
end
end Vs

-- Vs22
namespace Vs
open PySem PySem.Spec PyProof.Rows L2 LamX

/-! ### a lambda handed on: what its making leaves, to the word -/
/-- the heap behind the making of a lambda whose code objects are listed at P under the name q; c': its code object -/
def LamStep (P : Addr) (q : Str) (H H1 : Hp) : Prop :=
  H1 = H ∨ ∃ (ps more : Array Value) (c' : Addr), H P = some (.tbl ps) ∧ H c' = none ∧ H1 = upd (upd H P (.tbl (ps ++ more))) c' (CodeO c' q)
section
variable {X : Cx} {pins : List (Addr × Obj)} {σ : L2.St} {H : Hp} {s : Shared}
theorem lam_new {c P : Addr} {params : Arguments} {body : Expr} {scope : Scope} {pos : Pos} {E : Value → Shared → Prop} {Q : Value → Shared → Prop} (I : Inv X pins σ H s) (TB : TabB X.base X.mg c P) (code : X.env.code = .ref c)
    (tab : TabS H P (X.env.qual ++ "<lambda>")) (nodef : defaultsOf params X.env = ([], [])) (free : ∀ y ∈ scope.names, y.2 = .free → ∃ c, X.env.cells.lookup y.1 = some c)
    (h : ∀ (f c' : Addr) (pm ctv : Value) (H1 : Hp) (s' : Shared), Inv X pins σ H1 s' → LamStep P (X.env.qual ++ "<lambda>") H H1 → TabS H1 P (X.env.qual ++ "<lambda>") →
      s'.heap.get? f = some (PySem.W.kla_obj "<lambda>" (X.env.qual ++ "<lambda>") params body scope (cloFrom X.env.cells scope.names []) pm c' ctv) → H1 f = none → f ∉ L2.frs X.stack → H1 c' = some (CodeO c' (X.env.qual ++ "<lambda>")) → Q (.ref f) s') :
    wpAny (model X.prog X.w) X.A (eval (.Lambda params body scope pos) X.env) Q E s := by
  obtain ⟨ps, atP, triples, codes⟩ := id tab
  have blP : s.heap.BuiltinsAt X.mg P := TB.bm.keeps I.bk
  have objP : s.heap.get? P = some { cls := .none, data := .fields ps } := I.hok P _ atP
  have offstack : ∀ f, s.heap.objs.size ≤ f → f ∉ L2.frs X.stack := fun f big hm => by
    rcases List.mem_cons.mp (I.stkSub _ hm) with e | e
    · have lt := I.lt
      rw [← e] at lt
      exact absurd (Nat.lt_of_lt_of_le lt big) (Nat.lt_irrefl f)
    · exact I.nofs big e
  refine PySem.W.kla_eval nodef ?_
  cases found : codeAmong pos ps.toList with
  | some cv =>
    obtain ⟨c', e, known⟩ := codes pos cv found
    subst e
    refine PySem.W.kla_makeFunctionHit (mg := X.mg) (c := c) (P := P) (ps := ps) (closure_ok free) I.ok.glob (I.mod.glob.keeps I.bk) code (TB.code.keeps I.bk) objP triples found blP fun ctv h' tk kept size => ?_
    refine h h'.objs.size c' ((X.mg "__name__").getD .none) ctv H _ (I.kept (h' := h'.push (PySem.W.kla_obj "<lambda>" (X.env.qual ++ "<lambda>") params body scope (cloFrom X.env.cells scope.names []) ((X.mg "__name__").getD .none) c' ctv)) (t' := tk)
      fun b o e => Heap.get?_push_of_some _ (kept b o e)) (.inl rfl) tab (Heap.get?_push_size _ rfl) (I.hok.fresh size) (offstack _ size) known
  | none =>
    refine PySem.W.kla_makeFunction (mg := X.mg) (c := c) (P := P) (ps := ps) (closure_ok free) I.ok.glob (I.mod.glob.keeps I.bk) code (TB.code.keeps I.bk) objP triples found TB.gP blP fun c' ctv h' tk kept big lt rec table => ?_
    obtain ⟨c2, oc, fv, t, e2, hoc, hd, hv⟩ := rec
    cases e2
    have size : s.heap.objs.size ≤ h'.objs.size := by omega
    have newC : H c' = none := I.hok.fresh big
    have PneC : P ≠ c' := ne_of_none atP newC
    have I1 := inv_table (t' := tk) (more := #[rawInt pos.line, rawInt pos.col, .ref c']) (h' := h'.push (PySem.W.kla_obj "<lambda>" (X.env.qual ++ "<lambda>") params body scope (cloFrom X.env.cells scope.names []) ((X.mg "__name__").getD .none) c' ctv)) I atP
      (fun b o hb e => Heap.get?_push_of_some _ (kept b o hb e)) (Heap.get?_push_of_some _ table) big ⟨oc, fv, t, Heap.get?_push_of_some _ hoc, hd, hv⟩
    have newF : upd (upd H P (.tbl (ps ++ #[rawInt pos.line, rawInt pos.col, .ref c']))) c' (CodeO c' (X.env.qual ++ "<lambda>")) h'.objs.size = none := by
      have n1 : h'.objs.size ≠ c' := by omega
      have n2 : h'.objs.size ≠ P := Nat.ne_of_gt (Nat.lt_of_lt_of_le (Heap.lt_size objP) size)
      rw [upd_ne n1, upd_ne n2]
      exact I.hok.fresh size
    have eL : (ps ++ #[rawInt pos.line, rawInt pos.col, .ref c']).toList = ps.toList ++ [rawInt pos.line, rawInt pos.col, .ref c'] := by simp
    refine h h'.objs.size c' ((X.mg "__name__").getD .none) ctv _ _ I1 (.inr ⟨ps, _, c', atP, newC, rfl⟩) ⟨_, by rw [upd_ne PneC, upd_same], by rw [eL]; exact PySem.TriplesOk_snoc _ _ _ _ triples, fun p' cv hcv => ?_⟩ (Heap.get?_push_size _ rfl) newF (offstack _ size) upd_same
    rw [eL] at hcv
    rcases among_app _ triples hcv with z | z
    · obtain ⟨c0, e1, e2⟩ := codes p' cv z
      refine ⟨c0, e1, ?_⟩
      rw [upd_ne (ne_of_none e2 newC), upd_ne (fun z => by rw [z, atP] at e2; exact codeO_ne _ (Option.some.inj e2).symm)]
      exact e2
    · exact ⟨c', z, upd_same⟩
/-- x(lambda: body): T what the def makes of the lambda's reading -/
def tMet (P : Addr) (q : Str) (T : (XK → Hp → VK → Prop) → Hp → VK → Prop) (t : XK → TE) : TE := fun σ H Q => TabS H P q ∧ ∀ H1, LamStep P q H H1 → TabS H1 P q → T (fun E H' Q' => t E σ H' Q') H1 Q
theorem pe_met {T : (XK → Hp → VK → Prop) → Hp → VK → Prop} {x a : Str} {g c P : Addr} {k : Nat} {pg : Arguments} {bg : List Stmt} {sg : Scope} {dV kV doc pm cdv ct oc : Value} {an od : Option Addr} {osl : Array (Option Value)} {Ng : List Str}
    {params : Arguments} {body : Expr} {scope : Scope} {t : XK → TE} {p lpos pos : Pos} (gl : Gl X x) (hm : X.mg x = some (.ref g)) (kp : PySem.W.keepIn X.K (.ref g) = true)
    (lk : X.K.lookup g = some ⟨oc, od, .func (PySem.W.fnOf x x pg bg sg dV kV doc pm an cdv ct), osl⟩) (cg : PySem.W.codeIn X.K cdv x = true) (bi : L2.Binds X.K (PySem.W.fnOf x x pg bg sg dV kV doc pm an cdv ct) [a] []) (Sg : FnScope Ng [a] sg) (hNg : Ng[0]? = some a) (hva : Vis sg a)
    (G : GivesTo X Ng x sg g cdv bg a (X.env.qual ++ "<lambda>") T)
    (TB : TabB X.base X.mg c P) (code : X.env.code = .ref c) (hr : Room (k + 2) X.A) (L : LamS X.env.scope scope) (nodef : defaultsOf params X.env = ([], []))
    (bind : ∀ (q : Str) (cl : List (Str × Addr)) (pm cv ctv : Value), bindArgs (PySem.W.kla_fn "<lambda>" q params body scope cl pm cv ctv) ⟨[], []⟩ = pure [])
    (hbody : ∀ (A : Around) (outer : List Env) (s : Shared) (H : Hp) (E : XK) (f c' : Addr), Room k (A.deeper (lamEnv X scope s.heap.objs.size f c')) → PE (lamCx X A outer s H E scope f c') body (t E))
    (d1 : (x == ("__debug__" : Str)) = false := by decide) (d2 : (a == ("__debug__" : Str)) = false := by decide) (d3 : (a == ("__classdict__" : Str)) = false := by decide) :
    PE X (.Call (.Name x p) [.Lambda params body scope lpos] [] pos) (tMet P (X.env.qual ++ "<lambda>") T t) := by
  refine ⟨fun pins s σ H Q I h => ?_⟩
  obtain ⟨tab, h⟩ := h
  refine wpAny_Call_Name_kw (ld_glob I gl hm ?_ d1)
  refine PySem.W.callWith_K (h₀ := X.base) I.ok.mod.kin kp ?_ (by rfl) (by rfl)
  show wpAny _ _ (spliced ((false, eval (.Lambda params body scope lpos) X.env) :: backTo pos (starEach [] X.env))) _ _ s
  refine Calls.spliced_cons (lam_new I TB code tab nodef (L.has I.ok) fun f c' pm' ctv H1 s' I1 step tab1 hf newF offF known => Calls.spliced_nil ⟨I1.kIn, ?_⟩)
  have ran : codeAny (model X.prog X.w) X.A (.call (.ref g) ⟨[.ref f], []⟩) (CR C8.CX0 X.stack X.prog X.w H1 s' Q C8.E0) s' := by
    refine run_ofS (N := Ng) (ps := [a]) (us := [.ref f]) (vs := [.ref f]) lk cg Sg hr I1.env0 (bi s' [.ref f] I1.kIn rfl) (.cons rfl .nil) rfl fun hr' => ?_
    obtain ⟨t', ht', hq'⟩ := G f c' s' H1 Q (fun E H' Q' => t E σ H' Q') (fun W pn xe E p1 p2 tk hW => pe_act (i := 0) I1 L hf newF offF (bind _ _ _ _ _) tk hW hr' (fun A outer s H hr2 => hbody A outer s H E f c' hr2) hNg hva d2 d3) known (h H1 step tab1)
    exact ⟨t', ht'.nox, hq'⟩
  refine wpAny_call (codeAny_mono ran fun r s2 hq => ?_)
  cases r with
  | error e => exact (show False from hq).elim
  | ok fl =>
    cases fl with
    | ret u => exact I1.after hq
    | next => exact False.elim hq
    | brk => exact False.elim hq
    | cont => exact False.elim hq
end
/-! ### _law_met: try: return ("told", ask()), then clauses that tell a field -/
structure MetC where
  C : Addr
  tag : Str
  fld : Str
def hMet (K : PySem.W.Frag) (Q : VK) : List MetC → XK
  | [] => fun _ _ _ => False
  | m :: r => fun cls d H => ∃ hit, PySem.W.exmOne K cls (.ref m.C) = some hit ∧
      (hit = true → cls = .ref m.C ∧ ∃ (dd : Addr) (fs : List (Str × V)) (v : V), d = some dd ∧ H dd = some (.xd fs) ∧ fs.lookup m.fld = some v ∧ ∀ p, H p = none → Q (.ref p) (upd H p (.tup [.str m.tag, v]))) ∧
      (hit = false → hMet K Q r cls d H)
def TMet (K : PySem.W.Frag) (cl : List MetC) : (XK → Hp → VK → Prop) → Hp → VK → Prop := fun tl H Q =>
  tl (hMet K Q cl) H fun v H1 => ([V.str "told", v] : List V).length ≤ sizeLine ∧ ∀ p, H1 p = none → Q (.ref p) (upd H1 p (.tup [.str "told", v]))
/-- the suite of a clause -/
def tMetC (m : MetC) : Addr → Value → Option Addr → TS := fun a cls d => tRet (tTup (tCons (tC (.str m.tag)) (tCons (tXf a cls d m.C m.fld (tVar 1)) tNil)))
theorem met_clauses {K : PySem.W.Frag} {Q : VK} {D : Ends} {u v : Option V} (hD : D.rt = Q) : ∀ (cl : List MetC) (cls : Value) (d : Option Addr) (H : Hp), hMet K Q cl cls d H → wClauses K 1 (fun _ _ _ _ => False) D (cl.map fun m => (Value.ref m.C, tMetC m)) cls d [u, v] H
  | [], _, _, _, h => h
  | m :: r, cls, d, H, ⟨hit, h1, h2, h3⟩ => by
    refine ⟨hit, h1, fun e a ha => ?_, fun e => met_clauses hD r cls d H (h3 e)⟩
    obtain ⟨rfl, dd, fs, v, rfl, h4, h5, h6⟩ := h2 e
    refine ⟨.ref a, rfl, rfl, rfl, dd, fs, v, rfl, h4, h5, ?_⟩
    refine ⟨by show 2 ≤ sizeLine; rw [sizeLine_eq]; decide, fun p hp => ?_⟩
    show D.rt _ _
    rw [hD]
    exact h6 p hp
end Vs

-- Vs23
namespace Vs
open PySem PySem.Spec PyProof.Rows L2 LamX
section
variable {X : Cx}
theorem met_gives {x a e q : Str} {sg : Scope} {g : Addr} {cdg : Value} {cl : List MetC} {j kk : Nat} {h0 : ExceptHandler} {hds : List ExceptHandler} {p1 p2 p3 p4 pc p8 : Pos} (nd : [a, e].Nodup) (ke : sg.names.lookup e = some .local)
    (hcl : ∀ s H, ClausesOk (cxOf C8.CX0 X.prog X.w X.K X.mg X.base [a, e] x sg g cdg X.A X.stack s H C8.E0).nox e (h0 :: hds) (cl.map fun m => (Value.ref m.C, tMetC m))) :
    GivesTo X [a, e] x sg g cdg [.Try [.Return (some (.Tuple [.Constant (.str "told") j pc, .Call (.Name a p1) [] [] p2] kk p3)) p4] (h0 :: hds) [] [] p8] a q (TMet X.K cl) := by
  intro f c' s H Q tl act hc h
  refine ⟨_, pss_one (ps_try_clauses (X := (cxOf C8.CX0 X.prog X.w X.K X.mg X.base [a, e] x sg g cdg X.A X.stack s H C8.E0).nox) (i := 1) (n := e)
      (tb := fun W D σ H => ∃ Ech : XK, (∀ cls d σ' H', Ech cls d H' → σ'.length = 2 → W cls d σ' H') ∧ σ[0]? = some (some (.ref f)) ∧ H c' = some (CodeO c' q) ∧ tl Ech H fun v H1 => ([V.str "told", v] : List V).length ≤ sizeLine ∧ ∀ p, H1 p = none → D.rt (.ref p) (upd H1 p (.tup [.str "told", v])))
      rfl rfl nd rfl ke L2.takes0 (fun W pn xe tk _ => ?_) (hcl s H)), ?_⟩
  · refine ⟨fun pins s' σ H' D I h' => ?_⟩
    obtain ⟨Ech, hW, h1, h2, h3⟩ := h'
    have tk2 : Takes ((cxOf C8.CX0 X.prog X.w X.K X.mg X.base [a, e] x sg g cdg X.A X.stack s H C8.E0).tr pn xe) (fun cls d σ H => σ.length = 2 → W cls d σ H) := fun u s' ⟨a1, B, sI, pins, σ, H, cls, d, e1, I, nb, up, sky, na, os, ag, w⟩ =>
      tk u s' ⟨a1, B, sI, pins, σ, H, cls, d, e1, I, nb, up, sky, na, os, ag, w I.len⟩
    exact (pss_one (ps_ret (pe_tup (pa_cons pe_str (pa_cons (act _ pn xe Ech p1 p2 tk2 hW) pa_nil))))).run pins s' σ H' D I ⟨h1, h2, h3⟩
  · refine ⟨hMet X.K Q cl, fun cls d σ' H' hh hl => ?_, rfl, hc, h⟩
    match σ', hl with
    | [u, v], _ => exact met_clauses rfl cl cls d H' hh
end
section
variable {K : PySem.W.Frag} {Tb : List (Addr × Str)} {S0 : GS} {H0 : Hp} {F0 : Addr → Prop} {n : Nat} {Γ : Gam GS} {Ev : XK} {σ : L2.St} {S : GS} {H H1 : Hp} {Q' : VK} {P : Addr} {q : Str} {cl : List MetC}
theorem lam_stp (hP : (P, q) ∈ Tb) (hu : ∀ p ∈ Tb, p.1 = P → p.2 = q) (si : GSI K Tb S H) (h : LamStep P q H H1) (tab : TabS H1 P q) : Stp (glo K Tb) S H S H1 ∧ GSI K Tb S H1 := by
  rcases h with rfl | ⟨ps, more, c', eP, ec, rfl⟩
  · exact ⟨.refl, si⟩
  · have at_ : ∀ b o, H b = some o → (∀ ps, o ≠ .tbl ps) → upd (upd H P (.tbl (ps ++ more))) c' (CodeO c' q) b = some o := fun b o e n => by
      rw [upd_ne (ne_of_none e ec), upd_ne (fun z => by rw [z, eP] at e; exact n _ (Option.some.inj e).symm)]
      exact e
    have imm_kept : ∀ b o, ImmO o → H b = some o → upd (upd H P (.tbl (ps ++ more))) c' (CodeO c' q) b = some o := fun b o i e => at_ b o e fun ps z => by rw [z] at i; exact i
    refine ⟨⟨fun b o e nn => ?_, fun b z => .inl z, fun b o e => ?_⟩, ⟨fun a ns bb e => ?_, fun s e => ?_, fun p hp => ?_, fun a xs e => ?_, si.apart⟩⟩
    · by_cases hb : b = P
      · rcases nn with nn | nn
        · exact absurd (.inr (.inr (.inl ⟨(P, q), hP, hb⟩))) nn
        · exact imm_kept b o nn e
      · rw [upd_ne (ne_of_none e ec), upd_ne hb]
        exact e
    · by_cases hb : b = P
      · rw [hb, upd_ne (ne_of_none eP ec), upd_same]
        exact ⟨_, rfl⟩
      · exact ⟨o, by rw [upd_ne (ne_of_none e ec), upd_ne hb]; exact e⟩
    · have z := si.scr a ns bb e
      cases bb with
      | true => exact at_ _ _ z fun ps z => by cases z
      | false => exact z.imp (fun ⟨o, w⟩ => ⟨o, imm_kept _ _ trivial w⟩) id
    · have z := si.str s e
      exact ⟨z.ok, at_ _ _ z.a1 (fun ps z => by cases z), at_ _ _ z.a2 (fun ps z => by cases z)⟩
    · by_cases hb : p.1 = P
      · rw [hu p hp hb, hb]
        exact tab
      · obtain ⟨qs, e1, e2, e3⟩ := si.tab p hp
        refine ⟨qs, by rw [upd_ne (ne_of_none e1 ec), upd_ne hb]; exact e1, e2, fun pos cv hcv => ?_⟩
        obtain ⟨c0, e4, e5⟩ := e3 pos cv hcv
        exact ⟨c0, e4, imm_kept _ _ (by unfold CodeO; trivial) e5⟩
    · obtain ⟨h1, ⟨us, e3, r⟩, h3⟩ := si.box a xs e
      exact ⟨h1, ⟨us, at_ _ _ e3 (fun ps z => by cases z), Reps.keep imm_kept (fun a f => f.elim) _ _ r⟩, h3⟩
/-- what the clauses tell of the errors that Γ.met knows -/
def MetOk (K : PySem.W.Frag) (Γ : Gam GS) (cl : List MetC) : Prop := ∀ x tag, Γ.met x = some tag → ∀ (Q : VK) (d : Addr) (H : Hp) (v : V), H d = some (.xd [(x.fld, v)]) → (∀ p, H p = none → Q (.ref p) (upd H p (.tup [.str tag, v]))) → hMet K Q cl (.ref x.cls) (some d) H
theorem rd_met {e : VE} (hP : (P, q) ∈ Tb) (hu : ∀ p ∈ Tb, p.1 = P → p.2 = q) (hm : MetOk K Γ cl) (h : RdE (bxE K (glo K Tb) S0 H0 F0 n) Γ Ev (.met e) σ H Q') :
    tMet P q (TMet K cl) (fun E => RdE (bxE K (glo K Tb) S0 H0 F0 n) Γ E e) σ H Q' := by
  obtain ⟨W, ε, hv, S, Q, Xc, hl, B, w, hx, k⟩ := h
  have w : wE (G := GS) Γ e ε S (fun s S1 => Q (mkTup [{ t := .str "told" }, s]).cl S1) (fun x s S1 => match Γ.met x with | some tag => Q (mkTup [{ t := .str tag }, s]).cl S1 | none => False) := by
    simp only [wE] at w
    exact w
  have si : GSI K Tb S H := B.si
  refine ⟨si.tab _ hP, fun H1 st tab => ?_⟩
  obtain ⟨k1, si1⟩ := lam_stp hP hu si st tab
  have B1 := B.step k1 si1
  refine ⟨W, ε, hv, S, _, _, hl, B1, w, fun x s S2 d v H2 hx2 k2 si2 hd o2 => ?_, fun s v S2 H2 q2 k2 B2 o2 => ⟨by show 2 ≤ sizeLine; rw [sizeLine_eq]; decide, fun p hp => ?_⟩⟩
  · have hx2 : (match Γ.met x with | some tag => Q (mkTup [{ t := .str tag }, s]).cl S2 | none => False) := hx2
    cases em : Γ.met x with
    | none => rw [em] at hx2; exact hx2.elim
    | some tag =>
      rw [em] at hx2
      refine hm x tag em Q' d H2 v hd fun p hp => ?_
      have B2 := B1.step k2 si2
      exact k _ _ S2 _ hx2 ((k1.trans k2).trans (.new hp)) (B2.new hp) (VOks.tup (vs := [.str tag, v]) (ss := [{ t := .str tag }, s]) ⟨_, _, rfl, atom rfl rfl, _, _, rfl, o2, rfl⟩ hp).cl
  · exact k _ _ S2 _ q2 ((k1.trans k2).trans (.new hp)) (B2.new hp) (VOks.tup (vs := [.str "told", v]) (ss := [{ t := .str "told" }, s]) ⟨_, _, rfl, atom rfl rfl, _, _, rfl, o2, rfl⟩ hp).cl
end
end Vs

-- Vs24
namespace Vs
open PySem PySem.Spec PyProof.Rows L2 LamX
/-! ### the law's own def -/
def spLaw (n : Nat) (Tb : List (Addr × Str)) (K : PySem.W.Frag) : Sp := fun vs H Q _ => ∃ (a : Addr) (ns : List Int), vs = [.ref a] ∧ ns.length ≤ n ∧ SqL K H a (ns.map V.int) ∧ (∀ p ∈ Tb, H p.1 = some (.tbl #[])) ∧ ∀ H', Q (.bl true) H'
def lawEnd : Dn GS where
  nx := fun _ _ => False
  rt := fun s _ => s.t = .bl true
  ex := fun _ _ _ => False
section
variable {P : Program} {w : World} {K : PySem.W.Frag} {mg : Str → Option Value} {base : Heap}
theorem scr_cases {H : Hp} {a : Addr} {ns : List Int} (h : SqL K H a (ns.map V.int)) : ∃ b, ScrAt K H a ns b := by
  rcases h with (h | ⟨o, h⟩) | h
  · exact ⟨true, h⟩
  · exact ⟨false, .inl ⟨o, h⟩⟩
  · exact ⟨false, .inr fun H' => .inr h⟩
theorem law_fn {x : Str} {st : Stmt} {f c : Addr} {oc kV doc pm ct : Value} {od an : Option Addr} {osl : Array (Option Value)} {N : List Str} {k n : Nat} {Tb : List (Addr × Str)} {Γ : Gam GS} {vb : VB} {a0 : Str}
    (lk : K.lookup f = some ⟨oc, od, .func (PySem.W.fnOf x x (defArgs st) (defBody st) (defScope st) .none kV doc pm an (.ref c) ct), osl⟩) (hcd : PySem.W.codeIn K (.ref c) x = true) (Sc : FnScope N [a0] (defScope st)) (hN : 1 ≤ N.length)
    (hd : ∀ (A : Around) (outer : List Env) (s : Shared) (H : Hp) (E : XK) (S : GS) (F : Addr → Prop), Room k (A.deeper (envOfC x (defScope st) s.heap.objs.size f (.ref c))) →
      Cok (cxOf (L2.CX P w) P w K mg base N x (defScope st) f (.ref c) A outer s H E) (bxE K (glo K Tb) S H F N.length) E → (∀ a, F a) → PSs (cxOf (L2.CX P w) P w K mg base N x (defScope st) f (.ref c) A outer s H E) (defBody st) (RdB (bxE K (glo K Tb) S H F N.length) Γ E vb))
    (hp : ∀ a ns b, ns.length ≤ n → wB Γ vb (entV N.length [.opq a]) ⟨some (a, ns, b), none, none⟩ lawEnd) : FnOk P w K mg base (L2.CX P w) (k + 1) f (PySem.W.fnOf x x (defArgs st) (defBody st) (defScope st) .none kV doc pm an (.ref c) ct) [a0] (spLaw n Tb K) := by
  refine fn_of lk hcd Sc (fun vs H Q E h => ?_) fun A outer s H vs Q E hr h => ?_
  · obtain ⟨a, ns, rfl, _⟩ := h
    rfl
  · obtain ⟨a, ns, rfl, hl, hsq, htb, hq⟩ := h
    obtain ⟨b, hb⟩ := scr_cases hsq
    have hC : ∀ S F, Cok (cxOf (L2.CX P w) P w K mg base N x (defScope st) f (.ref c) A outer s H E) (bxE K (glo K Tb) S H F N.length) E := fun S F =>
      ⟨rfl, rfl, rfl, Sc.nd, by have := hr.un; show A.units + 3 + 64 < cLine; change A.units + 3 + 16 * k + 200 < cLine at this; omega, takes_of rfl rfl rfl rfl⟩
    have si : GSI K Tb ⟨some (a, ns, b), none, none⟩ H := by
      refine ⟨fun a' ns' b' e => ?_, (fun s e => by cases e), fun p hp => TabS.nil (htb p hp), (fun a xs e => by cases e), (fun a ns s e e2 => by cases e2)⟩
      cases e
      exact hb
    refine ⟨_, hd A outer s H E ⟨some (a, ns, b), none, none⟩ (fun _ => True) hr (hC _ _) fun _ => trivial, ?_⟩
    obtain ⟨W, B0⟩ := ent_ok (K := K) (g := glo K Tb) (S := ⟨some (a, ns, b), none, none⟩) (F := fun _ => False) (m := N.length) (tr := [T.opq a]) (vs := [V.ref a]) hN (Reps.one rfl) si (fun _ z => z.elim)
    have B : BOk (bxE K (glo K Tb) ⟨some (a, ns, b), none, none⟩ H (fun _ => True) N.length) W _ _ _ H :=
      ⟨⟨B0.env.len, B0.env.at_, fun i s e => ⟨(B0.env.ok i s e).ap, (B0.env.ok i s e).tr, (B0.env.ok i s e).nw, fun _ _ => .inr trivial⟩, B0.env.nw, B0.env.rs, B0.env.pr⟩, B0.st, B0.si, B0.rt⟩
    refine ⟨W, _, [], ⟨some (a, ns, b), none, none⟩, lawEnd, ?_, ?_, hp a ns b hl, ?_⟩
    · show ([V.ref a].map some ++ List.replicate (N.length - 1) none).length = N.length
      simp; omega
    · rw [List.append_nil]
      exact B
    · refine ⟨fun _ _ _ _ _ q _ _ _ => q.elim, fun _ _ _ _ _ q _ _ _ => q.elim, fun _ _ _ _ _ q _ _ _ => q.elim, fun s v S' H' F' p' q k si r ok nw => ?_, fun x s S' d v H' F' q k si hd r ok => q.elim⟩
      have e : v = .bl true := by
        have z := r.rep
        rw [show s.t = .bl true from q] at z
        exact z
      rw [e]
      exact hq H'
end
/-! ### _law_met(lambda: e) -/
structure MetK (P : Program) (w : World) (K : PySem.W.Frag) (mg : Str → Option Value) (base : Heap) (x a : Str) (Ng : List Str) (pg : Arguments) (bg : List Stmt) (sg : Scope) (g : Addr) (cdv : Value) : Prop where
  gl : mg x = some (.ref g)
  kp : PySem.W.keepIn K (.ref g) = true
  lk : ∃ (oc : Value) (od : Option Addr) (dV kV doc pm ct : Value) (an : Option Addr) (osl : Array (Option Value)), K.lookup g = some ⟨oc, od, .func (PySem.W.fnOf x x pg bg sg dV kV doc pm an cdv ct), osl⟩ ∧ L2.Binds K (PySem.W.fnOf x x pg bg sg dV kV doc pm an cdv ct) [a] []
  cg : PySem.W.codeIn K cdv x = true
  Sg : FnScope Ng [a] sg
  hNg : Ng[0]? = some a
  hva : Vis sg a
section
variable {X : Cx} {Tb : List (Addr × Str)} {S : GS} {H0 : Hp} {F : Addr → Prop} {n : Nat} {Γ : Gam GS} {Ev : XK} {cl : List MetC} {ve : VE}
theorem de_met {x a : Str} {g c P0 : Addr} {k : Nat} {pg : Arguments} {bg : List Stmt} {sg : Scope} {cdv : Value} {Ng : List Str} {params : Arguments} {body : Expr} {scope : Scope} {p lpos pos : Pos}
    (C : Cok X (bxE X.K (glo X.K Tb) S H0 F n) Ev) (M : MetK X.prog X.w X.K X.mg X.base x a Ng pg bg sg g cdv) (G : GivesTo X Ng x sg g cdv bg a (X.env.qual ++ "<lambda>") (TMet X.K cl))
    (TB : TabB X.base X.mg c P0) (code : X.env.code = .ref c) (hP : (P0, X.env.qual ++ "<lambda>") ∈ Tb) (hu : ∀ p ∈ Tb, p.1 = P0 → p.2 = X.env.qual ++ "<lambda>") (hm : MetOk X.K Γ cl) (hr : Room (k + 2) X.A)
    (hbody : ∀ (A : Around) (outer : List Env) (s : Shared) (H : Hp) (E : XK) (f c' : Addr), Room k (A.deeper (lamEnv X scope s.heap.objs.size f c')) → Cok (lamCx X A outer s H E scope f c') (bxE X.K (glo X.K Tb) S H0 F n) E →
      PE (lamCx X A outer s H E scope f c') body (RdE (bxE X.K (glo X.K Tb) S H0 F n) Γ E ve))
    (gl : Gl X x := by rfl) (L : lamSB X.env.scope scope = true := by decide +kernel) (nodef : defaultsOf params X.env = ([], []) := by rfl)
    (bind : ∀ (q : Str) (cl : List (Str × Addr)) (pm cv ctv : Value), bindArgs (PySem.W.kla_fn "<lambda>" q params body scope cl pm cv ctv) ⟨[], []⟩ = pure [] := by intro _ _ _ _ _; rfl)
    (d1 : (x == ("__debug__" : Str)) = false := by decide) (d2 : (a == ("__debug__" : Str)) = false := by decide) (d3 : (a == ("__classdict__" : Str)) = false := by decide) :
    PE X (.Call (.Name x p) [.Lambda params body scope lpos] [] pos) (RdE (bxE X.K (glo X.K Tb) S H0 F n) Γ Ev (.met ve)) := by
  obtain ⟨g1, g2, ⟨oc, od, dV, kV, doc, pm, ct, an, osl, lk, bi⟩, g4, g5, g6, g7⟩ := M
  refine we (pe_met (t := fun E => RdE (bxE X.K (glo X.K Tb) S H0 F n) Γ E ve) gl g1 g2 lk g4 bi g5 g6 g7 G TB code hr (lamS_by L) nodef bind (fun A outer s H E f c' hr2 => hbody A outer s H E f c' hr2 ?_) d1 d2 d3) (rd_met hP hu hm)
  refine ⟨rfl, C.nN, rfl, C.nd, ?_, takes_of rfl rfl rfl rfl⟩
  have := hr2.un
  show (A.deeper (lamEnv X scope s.heap.objs.size f c')).units + 64 < cLine
  omega
end
end Vs

-- Vs25
namespace Vs
open PySem PySem.Spec PyProof.Rows L2
/-- a def called with m values by place, then by the names ks, in the parameters' order -/
structure FnKw (P : Program) (w : World) (K : PySem.W.Frag) (mg : Str → Option Value) (base : Heap) (g : Glo) (x : Str) (k n m : Nat) (ks : List Str) (C : Con g.G) : Prop where
  ex : ∃ (f : Addr) (fd : FuncData) (ps : List Str), FnOk P w K mg base (L2.CX P w) k f fd ps (spC K g n C) ∧ mg x = some (.ref f) ∧ PySem.W.keepIn K (.ref f) = true ∧
    ∀ (s : Shared) (us ws : List Value), us.length = m → ws.length = ks.length → BindsTo s fd ⟨us, ks.zip ws⟩ (ps.zip (us ++ ws))
section
variable {X : Cx} {b : Bx} {Γ : Gam b.g.G} {Ev : XK} {e : Expr} {es : List Expr} {ve : VE} {ves vfs : VEs} {pos p p2 p3 : Pos} {x : Str} {kws : List Keyword} {ks : List Str} {m : Nat}
theorem dk_nil : PK X [] (RdEs b Γ Ev .nil) := ⟨fun pos pins s σ H Q I q => pk_nil.run pos pins s σ H Q I (rds_nil q)⟩
theorem dk_cons {nm : Option Str} {kpos : Pos} (ha : PE X e (RdE b Γ Ev ve)) (hr : PK X kws (RdEs b Γ Ev ves)) : PK X (⟨nm, e, kpos⟩ :: kws) (RdEs b Γ Ev (.cons ve ves)) :=
  ⟨fun pos pins s σ H Q I q => (pk_cons ha hr).run pos pins s σ H Q I (rds_cons q)⟩
theorem RdEs.len {σ : L2.St} {H : Hp} {Q : List V → Hp → Prop} (h : RdEs b Γ Ev ves σ H Q) : RdEs b Γ Ev ves σ H fun vs H1 => Q vs H1 := h
/-- values in two parts -/
def appV (es fs : VEs) : VEs := match es with
  | .nil => fs
  | .cons e r => .cons e (appV r fs)
theorem de_callKw0 (C : Cok X b Ev) {j k n : Nat} (h : FnKw X.prog X.w X.K X.mg X.base b.g x j (Γ.ar n) 0 ks (Γ.fn n)) (hr : Room k X.A) (hj : j ≤ k) (hn : Γ.ar n = ks.length) (hkw : PK X kws (RdEs b Γ Ev ves))
    (hall : (backToKw pos (keywordEach kws X.env)).all (·.1.isSome) = true := by rfl) (hks : (backToKw pos (keywordEach kws X.env)).filterMap (·.1) = ks := by rfl) (hg : Gl X x := by rfl) (hdb : (x == ("__debug__" : Str)) = false := by decide)
    (hpl : ((backTo pos (starEach [] X.env)).any (·.1) || (backToKw pos (keywordEach kws X.env)).any (·.1.isNone)) = false := by rfl) :
    PE X (.Call (.Name x p) [] kws pos) (RdE b Γ Ev (.call n ves)) := by
  obtain ⟨f, fd, ps, F, hm, hk, hb⟩ := h
  refine ⟨fun pins s σ H Q I q => ?_⟩
  refine wpAny_Call_Name_kw (ld_glob I hg hm ?_ hdb)
  refine PySem.W.callWith_KW0 (h₀ := X.base) I.ok.mod.kin hk hall (thn (hkw.run pos pins s σ H _ I (rd_call q)) fun ws s2 hz => ?_) hpl
  obtain ⟨zs, H2, I2, rz, q2⟩ := hz
  refine ⟨I2.kIn, ?_⟩
  rw [hks, C.K] at *
  have hlen : zs.length = ks.length := by
    obtain ⟨tr, S, F', hl, _⟩ := q2
    rw [hl, hn]
  have hwl : ws.length = ks.length := by rw [← rz.length, hlen]
  have r2 : Vals zs ([] ++ ws) := rz
  refine wpAny_call (codeAny_mono ((F.mono hj).run X.A X.stack s2 H2 ⟨[], ks.zip ws⟩ ([] ++ ws) zs Q Ev hr I2.env0 (hb s2 [] ws rfl hwl) r2 q2) fun r s' hq => ?_)
  cases r with
  | error e => exact passes_call C.tk (fun _ _ _ _ h => h) pins σ H2 s2 e s' I2 hq
  | ok fl =>
    cases fl with
    | ret u => exact I2.after hq
    | next => exact False.elim hq
    | brk => exact False.elim hq
    | cont => exact False.elim hq
end
end Vs

-- Vs26
namespace Vs
open PySem PySem.Spec PyProof.Rows L2
section
variable {P : Program} {w : World} {K : PySem.W.Frag} {mg : Str → Option Value} {base : Heap}
/-- the __init__ of an own error: self.fld = its one argument -/
theorem ini_fn {qual : Str} {st : Stmt} {fI : Addr} {fd : FuncData} {a p fld : Str} {k : Nat} (Fn : Fun K "__init__" qual st fI fd) (Sc : FnScope [a, p] [a, p] (defScope st))
    (hd : ∀ (cdv : Value) (A : Around) (outer : List Env) (s : Shared) (H : Hp) (E : XK), PSs (cxOf (L2.CX P w) P w K mg base [a, p] qual (defScope st) fI cdv A outer s H E) (defBody st) (tOst K fld (tVar 0) (tVar 1))) :
    FnOk P w K mg base (L2.CX P w) (k + 1) fI fd [a, p] (spInit K fld) := by
  refine Fn.okX Sc (fun vs H Q E h => ?_) (fun cdv A outer s H vs Q E hr h => ⟨_, hd cdv A outer s H E, ?_⟩)
  · obtain ⟨x, C, v, rfl, _⟩ := h
    rfl
  · obtain ⟨x, C, v, rfl, h1, h2, h3, h4⟩ := h
    exact ⟨v, rfl, .ref x, rfl, x, C, rfl, h1, h2, .inl ⟨h3, h4⟩⟩
end
end Vs

-- Vs27
namespace Vs
open PySem PySem.Spec PyProof.Rows L2
section
variable {b : Bx} {Γ : Gam b.g.G} {Ev : XK} {W : Wit} {ε : VEnv} {σ : L2.St} {hv : List (Option V)} {S S' : b.g.G} {H H' : Hp} {Xc : KX b.g.G} {Dd : Dn b.g.G} {D : Ends} {Q' : VK}
/-! ### isinstance of the list kept apart -/
theorem rd_isb (hB : ∀ S H a, b.g.SI S H → Γ.isl S a → ∃ vs, H a = some (.lst vs)) {tys : List String} {a : VE} (h : RdE b Γ Ev (.isb tys a) σ H Q') :
    RdE b Γ Ev a σ H fun x H1 => ∃ n k, n ∈ kitsA ∧ k = (tys.any fun y => n == y || (n == "bool" && y == "int")) ∧ ∀ H2, (H2 = H1 ∨ ∃ p vs, H1 p = none ∧ H2 = upd H1 p (.tup vs)) → TyX b.K H2 x (.type n) ∧ Q' (.bl k) H2 := by
  obtain ⟨W, ε, hv, S, Q, Xc, hl, B, w, hx, k⟩ := h
  unfold wE at w
  refine ⟨W, ε, hv, S, _, Xc, hl, B, w, hx, fun x v S1 H1 w1 k1 B1 o1 => ?_⟩
  by_cases hq : ∃ a, x.t = .opq a
  · obtain ⟨a, e⟩ := hq
    rw [e] at w1
    obtain ⟨hi, w1⟩ := w1
    obtain ⟨vs, ha⟩ := hB S1 H1 a B1.si hi
    have ev : v = .ref a := by
      obtain ⟨_, r⟩ := o1.rep
      rw [e] at r
      exact r
    subst ev
    refine ⟨"list", _, by decide, rfl, fun H2 hH => ?_⟩
    rcases hH with rfl | ⟨p, vs2, hp, rfl⟩
    · exact ⟨.base (.lst ha), k _ _ S1 H2 w1 k1 B1 (atom rfl rfl)⟩
    · exact ⟨.base (.lst (xs := vs) (by rw [upd_ne (ne_of_none ha hp)]; exact ha)), k _ _ S1 _ w1 (k1.trans (.new hp)) (B1.new hp) (atom rfl rfl)⟩
  · have w2 : isiW tys x.t fun k => Q { t := .bl k } S1 := by
      revert w1
      unfold isbW
      split
      · rename_i a e
        exact absurd ⟨a, e⟩ hq
      · exact id
    unfold isiW at w2
    split at w2
    · rename_i n e
      have h0 : ∀ H2, VOk b W ε S1 H2 v x → TyX b.K H2 v (.type n) ∧ n ∈ kitsA := fun H2 o => let ⟨_, r⟩ := o.rep; tyN_ok r e
      refine ⟨n, _, (h0 _ o1).2, rfl, fun H2 hH => ?_⟩
      rcases hH with rfl | ⟨p, vs, hp, rfl⟩
      · exact ⟨(h0 _ o1).1, k _ _ S1 H2 w2 k1 B1 (atom rfl rfl)⟩
      · exact ⟨(h0 _ (o1.step (.new hp))).1, k _ _ S1 _ w2 (k1.trans (.new hp)) (B1.new hp) (atom rfl rfl)⟩
    · exact w2.elim
/-! ### names forgotten behind a statement -/
theorem EOk.wipe (h : EOk b W ε σ S H) : ∀ is, EOk b W (wipeV ε is) σ S H
  | [] => h
  | i :: r => (EOk.wipe h r).kill i
theorem rs_frg {is : List Nat} {s : VS} (h : RdS b Γ Ev (.frg is s) D σ H) : RdS b Γ Ev s D σ H := by
  obtain ⟨W, ε, hv, S, Dd, hl, B, w, d⟩ := h
  unfold wS at w
  exact ⟨W, ε, hv, S, _, hl, B, w, fun W1 ε1 σ1 S1 H1 q hl1 B1 k1 => d.nx W1 _ σ1 S1 H1 q hl1 ⟨B1.env.wipe is, B1.st, B1.si, B1.rt⟩ k1, d.bk, d.ct, d.rt, d.ex⟩
/-! ### what is below a value is spoilt -/
def spSpo (K : PySem.W.Frag) (g : Glo) (P : T → Prop) : Sp := fun vs H Q _ =>
  ∃ (t : T) (S : g.G) (F : Addr → Prop) (v : V), vs = [v] ∧ Rep K H F t v ∧ g.SI S H ∧ (∀ a, F a → ¬ g.SA S a ∧ ∃ o, H a = some o) ∧ P t ∧
    ∀ H', KeepI H H' → (∀ a o, H a = some o → ¬ F a → H' a = some o) → (∀ a o, H a = some o → ∃ o', H' a = some o') → Q .non H'
theorem spoil1_get {D : List Nat} : ∀ {ε : VEnv} {k j : Nat} {s : SV}, (spoil1 D k ε)[j]? = some (some s) → ε[j]? = some (some s) ∧ (imm s.t = true ∨ k + j ∉ D)
  | [], _, _, _, h => by simp [spoil1] at h
  | none :: r, k, 0, s, h => by simp [spoil1] at h
  | none :: r, k, j + 1, s, h => by
    have h' : (spoil1 D (k + 1) r)[j]? = some (some s) := by simpa [spoil1] using h
    obtain ⟨h1, h2⟩ := spoil1_get h'
    exact ⟨by simpa using h1, by rw [show k + (j + 1) = k + 1 + j by omega]; exact h2⟩
  | some s0 :: r, k, 0, s, h => by
    have h' : (if (imm s0.t || !D.contains k) = true then some s0 else none) = some s := by simpa [spoil1] using h
    split at h'
    · rename_i hc
      cases h'
      refine ⟨rfl, ?_⟩
      simpa [List.contains_eq_mem] using hc
    · cases h'
  | some s0 :: r, k, j + 1, s, h => by
    have h' : (spoil1 D (k + 1) r)[j]? = some (some s) := by simpa [spoil1] using h
    obtain ⟨h1, h2⟩ := spoil1_get h'
    exact ⟨by simpa using h1, by rw [show k + (j + 1) = k + 1 + j by omega]; exact h2⟩
theorem spoil1_length {D : List Nat} : ∀ {ε : VEnv} {k : Nat}, (spoil1 D k ε).length = ε.length
  | [], _ => rfl
  | none :: r, k => by simp [spoil1, spoil1_length]
  | some _ :: r, k => by simp [spoil1, spoil1_length]
theorem RepS.immown {K : PySem.W.Frag} {F : Addr → Prop} {p : Addr} {v : V} {s : SV} (r : RepS K H F p v s) (i : imm s.t = true) : s.own = false := by
  cases ho : s.own with
  | false => rfl
  | true =>
    unfold RepS at r
    rw [if_pos ho] at r
    obtain ⟨_, _, q⟩ := r
    cases ht : s.t with
    | lst ts => rw [ht] at i; simp [imm] at i
    | dct ks ts => rw [ht] at i; simp [imm] at i
    | _ => rw [ht] at q; exact q.elim
theorem BOk.spoil {Dn : List Nat} {F : Addr → Prop} (B : BOk b W ε σ S H) (hF : ∀ a, F a → ¬ b.g.SA S a) (hN : ∀ a, F a → b.H0 a = none) (pr : ∀ j s', ε[j]? = some (some s') → j ∉ Dn → ∀ a, F a → ¬ W.F j a)
    (ki : KeepI H H') (off : ∀ a o, H a = some o → ¬ F a → H' a = some o) (th : ∀ a o, H a = some o → ∃ o', H' a = some o') : BOk b W (spoil1 Dn 0 ε) σ S H' := by
  have nF : ∀ a, b.g.SA S a → ¬ F a := fun a z f => hF a f z
  refine ⟨⟨by rw [spoil1_length]; exact B.env.len, fun i s e => ?_, fun i s e => ?_, fun i s e => B.env.nw i s (spoil1_get e).1, fun i s e => B.env.rs i s (spoil1_get e).1, fun i s j s' e e' => B.env.pr i s j s' (spoil1_get e).1 (spoil1_get e').1⟩, ⟨fun a o e z => ?_, B.st.sa, fun a o e => ?_⟩, ?_, fun q hq => ?_⟩
  · obtain ⟨e1, z⟩ := spoil1_get e
    obtain ⟨v, ev, r⟩ := B.env.at_ i s e1
    refine ⟨v, ev, ?_⟩
    rcases z with z | z
    · have ho := r.immown z
      exact RepS.plain (Rep.imm _ _ z (Rep.keep (F' := fun _ => True) ki (fun a f => absurd f (by simp)) _ _ (Rep.imm (F' := fun _ => False) _ _ z r.rep))) ho
    · refine r.keep ki fun a f o eo => off a o eo fun fa => ?_
      exact pr i s e1 (by simpa using z) a fa f
  · obtain ⟨e1, z⟩ := spoil1_get e
    have ok := B.env.ok i s e1
    exact ⟨ok.ap, fun a f => let ⟨o, eo⟩ := ok.tr a f; th a o eo, ok.nw, ok.src⟩
  · refine off a o (B.st.keep a o e z) fun f => ?_
    rw [hN a f] at e; cases e
  · obtain ⟨o1, e1⟩ := B.st.there a o e
    exact th a o1 e1
  · refine b.g.stab B.si (fun a ha => ?_) ki
    obtain ⟨o, eo, _⟩ := b.g.trk B.si ha
    rw [eo]
    exact off a o eo (nF a ha)
  · obtain ⟨o, eo⟩ := B.rt q hq
    exact th q o eo
theorem rs_spo {e : VE} (h : RdS b Γ Ev (.spo e) D σ H) : RdE b Γ Ev e σ H fun v H1 => spSpo b.K b.g Γ.spo [v] H1 (fun _ H2 => D.nx σ H2) Ev := by
  obtain ⟨W, ε, hv, S, Dd, hl, B, w, d⟩ := h
  unfold wS at w
  refine ⟨W, ε, hv, S, _, _, hl, B, w, d.exr B, fun s v S1 H1 w1 k1 B1 o1 => ?_⟩
  obtain ⟨hfr, hsp, n⟩ := w1
  obtain ⟨F, p, q⟩ := o1
  refine ⟨s.t, S1, F, v, rfl, q.rep.rep, B1.si, fun a f => ⟨q.ok.ap a f, q.ok.tr a f⟩, hsp, fun H' ki off th => ?_⟩
  exact d.nx W _ σ S1 H' n hl (B1.spoil q.ok.ap (q.ok.nw hfr) (fun j s' ej => (q.pr j s' ej).2) ki off th) (k1.imm.trans ki)
end
/-! ### the list kept apart -/
section
variable {K : PySem.W.Frag} {Tb : List (Addr × Str)} {S0 S : GS} {H0 H H' : Hp} {F0 : Addr → Prop} {n : Nat} {Γ : Gam GS} {Ev : XK} {W : Wit} {ε : VEnv} {σ : L2.St} {hv : List (Option V)} {D : Ends}
def putG (S : GS) (a : Addr) (xs : List T) : GS := { S with box := some (a, xs) }
def offG (S : GS) : GS := { S with box := none }
/-- Γ knows the list kept apart -/
structure BoxG (Γ : Gam GS) : Prop where
  isl : ∀ S a, Γ.isl S a → ∃ xs, S.box = some (a, xs)
  put : Γ.put = putG
  off : Γ.off = offG
  box : ∀ S a xs, Γ.box S a xs → S.box = some (a, xs)
theorem BoxG.hB (h : BoxG Γ) : ∀ (S : GS) H a, (glo K Tb).SI S H → Γ.isl S a → ∃ vs, H a = some (.lst vs) := fun S H a si hi => by
  obtain ⟨xs, e⟩ := h.isl S a hi
  have si : GSI K Tb S H := si
  obtain ⟨_, ⟨vs, e2, _⟩, _⟩ := si.box a xs e
  exact ⟨vs, e2⟩
theorem put_si {a : Addr} {xs : List T} {vs : List V} {F : Addr → Prop} (si : GSI K Tb S H) (ha : ¬ GSA Tb S a) (e : H a = some (.lst vs)) (hi : imms xs = true) (r : Reps K H F xs vs) : GSI K Tb (putG S a xs) H := by
  refine ⟨si.scr, si.str, si.tab, fun x zs ez => ?_, si.apart⟩
  cases ez
  exact ⟨hi, ⟨vs, e, Reps.imm _ _ hi r⟩, fun s es => ⟨fun z => ha (.inr (.inl ⟨s, es, .inl z⟩)), fun z => ha (.inr (.inl ⟨s, es, .inr z⟩))⟩, fun ns z => ha (.inl ⟨ns, z⟩)⟩
theorem put_sa {a x : Addr} {xs : List T} (h : GSA Tb (putG S a xs) x) : GSA Tb S x ∨ x = a := by
  rcases h with z | z | z | ⟨zs, z⟩
  · exact .inl (.inl z)
  · exact .inl (.inr (.inl z))
  · exact .inl (.inr (.inr (.inl z)))
  · cases z
    exact .inr rfl
theorem off_sa {x : Addr} (h : GSA Tb (offG S) x) : GSA Tb S x := by
  rcases h with z | z | z | ⟨zs, z⟩
  · exact .inl z
  · exact .inr (.inl z)
  · exact .inr (.inr (.inl z))
  · cases z
theorem rs_setB (hG : BoxG Γ) {i : Nat} {e : VE} (hi : i < n) (h : RdS (bxE K (glo K Tb) S0 H0 F0 n) Γ Ev (.setB i e) D σ H) : tAsg (RdE (bxE K (glo K Tb) S0 H0 F0 n) Γ Ev e) (gName i) D σ H := by
  obtain ⟨W, ε, hv, S, Dd, hl, B, w, d⟩ := h
  have w : wS (G := GS) Γ (.setB i e) ε S Dd := w
  simp only [wS] at w
  refine ⟨W, ε, hv, S, _, _, hl, B, w, d.exr B, fun s v S1 H1 w1 k1 B1 o1 => ?_⟩
  have hl' : σ.length = n := hl
  have w1 : (match s.t with
    | .lst xs => s.fr = true ∧ s.D = [] ∧ imms xs = true ∧ ∀ a, Dd.nx (ε.set i (some { t := .opq a })) (Γ.put S1 a xs)
    | _ => Dd.nx (setV ε i s.cl) S1) := w1
  by_cases hq : ∃ xs, s.t = .lst xs
  · obtain ⟨xs, et⟩ := hq
    rw [et] at w1
    obtain ⟨hfr, hD, hi2, w1⟩ := w1
    obtain ⟨F, p, q⟩ := o1
    have r := q.rep.rep
    rw [et] at r
    obtain ⟨a, vs, rfl, ha, hFa, hr⟩ := r
    have si1 : GSI K Tb S1 H1 := B1.si
    have na : ¬ GSA Tb S1 a := q.ok.ap a hFa
    have n0 : H0 a = none := q.ok.nw hfr a hFa
    have w1 := w1 a
    rw [hG.put] at w1
    have pr : ∀ j s', ε[j]? = some (some s') → ¬ W.F j a := fun j s' ej f => (q.pr j s' ej).2 (by rw [hD]; simp) a hFa f
    refine d.nx (W.set i (fun _ => False) 0) _ _ (putG S1 a xs) H1 w1 (by simpa using hl) ?_ k1.imm
    rw [← set_app (by omega)]
    refine ⟨⟨?_, fun j s' ej => ?_, fun j s' ej => ?_, fun j s' ej ho => ?_, fun j s' ej => ?_, fun j s' m s2 ej em hne => ?_⟩, ⟨B1.st.keep, fun x z => ?_, B1.st.there⟩, put_si si1 na ha hi2 hr, B1.rt⟩
    · have := B1.env.len
      simpa using this
    · rcases set_get ej with ⟨rfl, rfl⟩ | ⟨hj, ej⟩
      · refine ⟨.ref a, List.getElem?_set_self (by rw [List.length_append]; omega), ?_⟩
        exact RepS.plain rfl rfl
      · obtain ⟨v', ev, r'⟩ := B1.env.at_ j s' ej
        exact ⟨v', by rw [List.getElem?_set_ne (Ne.symm hj)]; exact ev, by rw [Wit.neF hj, Wit.nep hj]; exact r'⟩
    · rcases set_get ej with ⟨rfl, rfl⟩ | ⟨hj, ej⟩
      · rw [Wit.setF]
        exact ⟨fun _ f => f.elim, fun _ f => f.elim, fun _ _ f => f.elim, fun _ f => f.elim⟩
      · rw [Wit.neF hj]
        have ok := B1.env.ok j s' ej
        refine ⟨fun x f z => ?_, ok.tr, ok.nw, ok.src⟩
        rcases put_sa z with z | z
        · exact ok.ap x f z
        · exact pr j s' ej (z ▸ f)
    · rcases set_get ej with ⟨rfl, rfl⟩ | ⟨hj, ej⟩
      · cases ho
      · rw [Wit.nep hj]
        exact B1.env.nw j s' ej ho
    · rcases set_get ej with ⟨rfl, rfl⟩ | ⟨hj, ej⟩
      · rw [Wit.setF]
        exact fun _ f => f.elim
      · rw [Wit.neF hj]
        exact B1.env.rs j s' ej
    · rcases set_get ej with ⟨rfl, rfl⟩ | ⟨hj, ej⟩
      · rw [Wit.setF]
        exact ⟨(fun z => by cases z), fun _ _ f => f.elim⟩
      · rcases set_get em with ⟨rfl, rfl⟩ | ⟨hm, em⟩
        · rw [Wit.setF]
          exact ⟨(fun _ z => by cases z), fun _ _ _ f => f.elim⟩
        · rw [Wit.neF hj, Wit.neF hm, Wit.nep hj, Wit.nep hm]
          exact B1.env.pr j s' m s2 ej em hne
    · rcases put_sa z with z | rfl
      · exact B1.st.sa x z
      · exact .inr n0
  · have w2 : Dd.nx (setV ε i s.cl) S1 := by
      revert w1
      split
      · rename_i xs e
        exact absurd ⟨xs, e⟩ hq
      · exact id
    obtain ⟨W2, B2⟩ := B1.set (i := i) (by rw [List.length_append]; omega) o1.cl
    rw [set_app (by omega)] at B2
    exact d.nx W2 _ _ S1 H1 w2 (by simpa using hl) B2 k1.imm
mutual
theorem Rep.subst {a : Addr} {ys : List T} {ws : List V} (hk : KeepI H H') (ha : H' a = some (.lst ws)) (hy : Reps K H' (fun _ => False) ys ws) :
    ∀ {F F' : Addr → Prop} (hf : ∀ x, F x → F' x ∧ x ≠ a ∧ ∀ o, H x = some o → H' x = some o) (hFa : F' a) (t : T) (v : V), Rep K H F t v → Rep K H' F' (subT a ys t) v
  | _, _, hf, hFa, .non, _, h => h
  | _, _, hf, hFa, .bl _, _, h => h
  | _, _, hf, hFa, .int _, _, h => h
  | _, _, hf, hFa, .str _, _, h => h
  | _, F', hf, hFa, .opq x, v, h => by
    unfold subT
    split
    · rename_i z
      subst z
      exact ⟨x, ws, h, ha, hFa, Reps.keep (fun _ _ _ e => e) (fun _ f => f.elim) _ _ hy⟩
    · exact h
  | _, _, hf, hFa, .tup ts, _, ⟨b, vs, e, q, r⟩ => ⟨b, vs, e, sqT_imm hk q, Reps.subst hk ha hy hf hFa ts vs r⟩
  | _, _, hf, hFa, .lst ts, _, ⟨b, vs, e, q, f, r⟩ => ⟨b, vs, e, (hf b f).2.2 _ q, (hf b f).1, Reps.subst hk ha hy (fun x z => ⟨⟨(hf x z.1).1, z.2⟩, (hf x z.1).2⟩) ⟨hFa, Ne.symm (hf b f).2.1⟩ ts vs r⟩
  | _, _, hf, hFa, .dct ks ts, _, ⟨b, kvs, e, q, f, ek, r⟩ => ⟨b, kvs, e, (hf b f).2.2 _ q, (hf b f).1, ek, Reps.subst hk ha hy (fun x z => ⟨⟨(hf x z.1).1, z.2⟩, (hf x z.1).2⟩) ⟨hFa, Ne.symm (hf b f).2.1⟩ ts _ r⟩
  | _, _, hf, hFa, .fdc ks ts, _, ⟨b, o, kvs, e, q, ek, r⟩ => ⟨b, o, kvs, e, hk _ _ trivial q, ek, Reps.subst hk ha hy hf hFa ts _ r⟩
theorem Reps.subst {a : Addr} {ys : List T} {ws : List V} (hk : KeepI H H') (ha : H' a = some (.lst ws)) (hy : Reps K H' (fun _ => False) ys ws) :
    ∀ {F F' : Addr → Prop} (hf : ∀ x, F x → F' x ∧ x ≠ a ∧ ∀ o, H x = some o → H' x = some o) (hFa : F' a) (ts : List T) (vs : List V), Reps K H F ts vs → Reps K H' F' (subTs a ys ts) vs
  | _, _, hf, hFa, [], _, h => h
  | _, _, hf, hFa, t :: ts, _, ⟨v, r, e, h1, h2⟩ => ⟨v, r, e, Rep.subst hk ha hy hf hFa t v h1, Reps.subst hk ha hy hf hFa ts r h2⟩
end
theorem set2_get {ε : VEnv} {i j m : Nat} {s1 s2 s : SV} (hij : i ≠ j) (e : ((ε.set i (some s1)).set j (some s2))[m]? = some (some s)) : (m = j ∧ s = s2) ∨ (m = i ∧ m ≠ j ∧ s = s1) ∨ (m ≠ i ∧ m ≠ j ∧ ε[m]? = some (some s)) := by
  rcases set_get e with z | ⟨z, e⟩
  · exact .inl z
  · rcases set_get e with ⟨z2, e2⟩ | ⟨z2, e⟩
    · exact .inr (.inl ⟨z2, z, e2⟩)
    · exact .inr (.inr ⟨z2, z, e⟩)
def WFa (F : Nat → Addr → Prop) (i j : Nat) (a : Addr) (m : Nat) : Addr → Prop := if m = i then (fun x => x = a) else if m = j then (fun x => F j x ∨ x = a) else F m
theorem rs_apb (hG : BoxG Γ) {i j : Nat} {c : T} {cv : V} (hi : i < n) (hF : ∀ a, F0 a) (hc : ∀ H, Rep K H (fun _ => False) c cv) (h : RdS (bxE K (glo K Tb) S0 H0 F0 n) Γ Ev (.apb i j c) D σ H) :
    ∃ v, σ[i]? = some (some v) ∧ tyV K "list" v H ∧ rAppend v [cv] H fun _ H2 => D.nx σ H2 := by
  obtain ⟨W, ε, hv, S, Dd, hl, B, w, d⟩ := h
  have w : wS (G := GS) Γ (.apb i j c) ε S Dd := w
  simp only [wS] at w
  have hl' : σ.length = n := hl
  split at w
  · rename_i s sj es ej
    split at w
    · rename_i a et
      obtain ⟨xs, hb, hci, hz, hij, w⟩ := w
      have hb := hG.box S a xs hb
      rw [hG.off] at w
      obtain ⟨v, ev, r⟩ := B.env.at_ i s es
      have r := r.rep
      rw [et] at r
      obtain rfl : v = .ref a := r
      rw [List.getElem?_append_left (by omega)] at ev
      have si : GSI K Tb S H := B.si
      obtain ⟨hxi, ⟨vs, ha, hr⟩, hst, hsc⟩ := si.box a xs hb
      have sa : GSA Tb S a := .inr (.inr (.inr ⟨xs, hb⟩))
      refine ⟨_, ev, .inl ⟨rfl, vs, SqL.of ha⟩, a, vs, cv, rfl, rfl, ha, by rw [← hr.length]; exact hz, ?_⟩
      have ki : KeepI H (upd H a (.lst (vs ++ [cv]))) := KeepI.off ha fun z => z
      have keep : ∀ x, x ≠ a → ∀ o, H x = some o → upd H a (.lst (vs ++ [cv])) x = some o := fun x z o e => by rw [upd_ne z]; exact e
      have nsa : ¬ GSA Tb (offG S) a := by
        rintro (⟨ns, z⟩ | ⟨s2, e2, z⟩ | ⟨p, hp, z⟩ | ⟨zs, z⟩)
        · exact hsc ns z
        · exact z.elim (hst s2 e2).1 (hst s2 e2).2
        · obtain ⟨ps, e3, _⟩ := si.tab p hp
          rw [← z, ha] at e3; cases e3
        · cases z
      have nF : ∀ k sk, ε[k]? = some (some sk) → ∀ x, W.F k x → x ≠ a := fun k sk ek x f z => (B.env.ok k sk ek).ap x f (z ▸ sa)
      have hy : Reps K (upd H a (.lst (vs ++ [cv]))) (fun _ => False) (xs ++ [c]) (vs ++ [cv]) := (Reps.keep ki (fun _ f => f.elim) _ _ hr).append (Reps.one (hc _))
      have n0 : ∀ o, H0 a = some o → GSA Tb S0 a ∧ ¬ ImmO o := fun o e => by
        have q : GSA Tb S0 a := by
          rcases B.st.sa a sa with z | z
          · exact z
          · have z : H0 a = none := z
            rw [e] at z; cases z
        refine ⟨q, fun im => ?_⟩
        have e2 := B.st.keep a o e (.inr im)
        rw [ha] at e2; cases e2; exact im
      have th : ∀ {F : Addr → Prop}, (∀ x, F x → ∃ o, H x = some o) → ∀ x, F x → ∃ o, upd H a (.lst (vs ++ [cv])) x = some o := fun hh x f => by
        by_cases z : x = a
        · exact ⟨_, by rw [z]; exact upd_same⟩
        · rw [upd_ne z]; exact hh x f
      refine d.nx ⟨WFa W.F i j a, W.p, W.rs.filter fun x => x != a⟩ _ σ (offG S) _ w hl ?_ ki
      have Fi : ∀ {m}, m = i → WFa W.F i j a m = fun x => x = a := fun z => by unfold WFa; exact if_pos z
      have Fj : ∀ {m}, m ≠ i → m = j → WFa W.F i j a m = fun x => W.F j x ∨ x = a := fun z z2 => by unfold WFa; rw [if_neg z, if_pos z2]
      have Fk : ∀ {m}, m ≠ i → m ≠ j → WFa W.F i j a m = W.F m := fun z z2 => by unfold WFa; rw [if_neg z, if_neg z2]
      have rsa : ∀ {x}, x ∈ W.rs.filter (fun x => x != a) → x ∈ W.rs ∧ x ≠ a := fun {x} hx => by simpa using hx
      refine ⟨⟨?_, fun m s' em => ?_, fun m s' em => ?_, fun m s' em ho => ?_, fun m s' em => ?_, fun m s' k s2 em ek hne => ?_⟩, ⟨fun x o e z => ?_, fun x z => B.st.sa x (off_sa z), fun x o e => ?_⟩, ?_, fun q hq => ?_⟩
      · have := B.env.len
        simpa using this
      · show ∃ v, _ ∧ RepS K _ (WFa W.F i j a m) _ v s'
        rcases set2_get hij em with ⟨rfl, rfl⟩ | ⟨rfl, hmj, rfl⟩ | ⟨hmi, hmj, em⟩
        · obtain ⟨v, ev2, r2⟩ := B.env.at_ m sj ej
          refine ⟨v, ev2, ?_⟩
          rw [Fj (Ne.symm hij) rfl]
          exact RepS.plain (Rep.subst ki upd_same hy (fun x f => ⟨.inl f, nF m sj ej x f, keep x (nF m sj ej x f)⟩) (.inr rfl) _ _ r2.rep) rfl
        · refine ⟨.ref a, by rw [List.getElem?_append_left (by omega)]; exact ev, ?_⟩
          rw [Fi rfl]
          exact RepS.plain ⟨a, _, rfl, upd_same, rfl, Reps.keep (fun _ _ _ e => e) (fun _ f => f.elim) _ _ hy⟩ rfl
        · obtain ⟨v, ev2, r2⟩ := B.env.at_ m s' em
          refine ⟨v, ev2, ?_⟩
          rw [Fk hmi hmj]
          exact r2.keep ki fun x f => keep x (nF m s' em x f)
      · show Okay _ _ _ (WFa W.F i j a m) _
        rcases set2_get hij em with ⟨rfl, rfl⟩ | ⟨rfl, hmj, rfl⟩ | ⟨hmi, hmj, em⟩
        · rw [Fj (Ne.symm hij) rfl]
          have ok := B.env.ok m sj ej
          refine ⟨fun x f z => ?_, fun x f => ?_, (fun z => by cases z), fun x f => .inr (hF x)⟩
          · rcases f with f | rfl
            · exact ok.ap x f (off_sa z)
            · exact nsa z
          · rcases f with f | rfl
            · exact th ok.tr x f
            · exact ⟨_, upd_same⟩
        · rw [Fi rfl]
          refine ⟨fun x f z => nsa (f ▸ z), fun x f => by
            have f : x = a := f
            subst f
            exact ⟨_, upd_same⟩, (fun z => by cases z), fun x f => .inr (hF x)⟩
        · rw [Fk hmi hmj]
          have ok := B.env.ok m s' em
          exact ⟨fun x f z => ok.ap x f (off_sa z), th ok.tr, ok.nw, ok.src⟩
      · rcases set2_get hij em with ⟨rfl, rfl⟩ | ⟨rfl, hmj, rfl⟩ | ⟨hmi, hmj, em⟩
        · cases ho
        · cases ho
        · exact B.env.nw m s' em ho
      · show ∀ x, WFa W.F i j a m x → _
        rcases set2_get hij em with ⟨rfl, rfl⟩ | ⟨rfl, hmj, rfl⟩ | ⟨hmi, hmj, em⟩
        · rw [Fj (Ne.symm hij) rfl]
          rintro x (f | rfl) hx
          · exact B.env.rs m sj ej x f (rsa hx).1
          · exact (rsa hx).2 rfl
        · rw [Fi rfl]
          rintro x rfl hx
          exact (rsa hx).2 rfl
        · rw [Fk hmi hmj]
          exact fun x f hx => B.env.rs m s' em x f (rsa hx).1
      · show _ ∧ (_ → ∀ x, WFa W.F i j a m x → ¬ WFa W.F i j a k x)
        rcases set2_get hij em with ⟨rfl, rfl⟩ | ⟨rfl, hmj, rfl⟩ | ⟨hmi, hmj, em2⟩
        · refine ⟨(fun z => by cases z), fun hD x f => ?_⟩
          rw [Fj (Ne.symm hij) rfl] at f
          simp only [List.mem_cons, not_or] at hD
          rcases set2_get hij ek with ⟨rfl, rfl⟩ | ⟨rfl, hkj, rfl⟩ | ⟨hki, hkj, ek2⟩
          · exact absurd rfl hne
          · exact absurd rfl hD.1
          · rw [Fk hki hkj]
            rcases f with f | rfl
            · exact (B.env.pr m sj k s2 ej ek2 hne).2 hD.2 x f
            · exact fun f2 => nF k s2 ek2 x f2 rfl
        · refine ⟨(fun z => by cases z), fun hD x f => ?_⟩
          rw [Fi rfl] at f
          subst f
          rcases set2_get hij ek with ⟨rfl, rfl⟩ | ⟨rfl, hkj, rfl⟩ | ⟨hki, hkj, ek2⟩
          · exact absurd (List.mem_cons_self) hD
          · exact absurd rfl hne
          · rw [Fk hki hkj]
            exact fun f2 => nF k s2 ek2 x f2 rfl
        · rw [Fk hmi hmj]
          rcases set2_get hij ek with ⟨rfl, rfl⟩ | ⟨rfl, hkj, rfl⟩ | ⟨hki, hkj, ek2⟩
          · refine ⟨(fun _ z => by cases z), fun hD x f f2 => ?_⟩
            rw [Fj (Ne.symm hij) rfl] at f2
            rcases f2 with f2 | rfl
            · exact (B.env.pr m s' k sj em2 ej hne).2 hD x f f2
            · exact nF m s' em2 x f rfl
          · refine ⟨(fun _ z => by cases z), fun hD x f f2 => ?_⟩
            rw [Fi rfl] at f2
            exact nF m s' em2 x f f2
          · rw [Fk hki hkj]
            exact B.env.pr m s' k s2 em2 ek2 hne
      · by_cases hx : x = a
        · subst hx
          obtain ⟨q1, q2⟩ := n0 o e
          exact (z.elim (fun z => z q1) fun z => q2 z).elim
        · exact keep x hx o (B.st.keep x o e z)
      · obtain ⟨o', e'⟩ := B.st.there x o e
        exact th (F := fun y => y = x) (fun y hy => ⟨o', hy ▸ e'⟩) x rfl
      · refine ⟨fun x ns bb e => ?_, fun s2 e => ?_, fun p hp => ?_, (fun x zs e => by cases e), si.apart⟩
        · have q := si.scr x ns bb e
          cases bb with
          | true => exact keep x (fun z => hsc ns (z ▸ e)) _ q
          | false => exact q.imp (fun ⟨o, z⟩ => ⟨o, ki _ _ trivial z⟩) id
        · have q := si.str s2 e
          exact ⟨q.ok, keep _ (Ne.symm (hst s2 e).1) _ q.a1, keep _ (Ne.symm (hst s2 e).2) _ q.a2⟩
        · obtain ⟨ps, e1, e2, e3⟩ := si.tab p hp
          refine ⟨ps, keep _ (fun z => ?_) _ e1, e2, fun pos cv2 hcv => ?_⟩
          · rw [z, ha] at e1; cases e1
          · obtain ⟨c0, e4, e5⟩ := e3 pos cv2 hcv
            exact ⟨c0, e4, ki _ _ (by unfold LamX.CodeO; trivial) e5⟩
      · exact th (F := fun y => y ∈ W.rs) B.rt q (rsa hq).1
    · exact w.elim
  · exact w.elim
end
end Vs

-- Vs28
namespace Vs
open PySem PySem.Spec PyProof.Rows L2
section
variable {X : Cx} {b : Bx} {Γ : Gam b.g.G} {Ev : XK} {a c e : Expr} {es : List Expr} {va vc ve vd : VE} {ves : VEs} {pos p p2 p3 : Pos} {x : Str} {st : Stmt}
theorem de_isb1 (C : Cok X b Ev) (hB : ∀ S H a, b.g.SI S H → Γ.isl S a → ∃ vs, H a = some (.lst vs)) {T : String} {es1 : List Expr} (hm0 : X.mg "isinstance" = none) (ha : PE X a (RdE b Γ Ev va)) (ht : PA X es1 (fun _ H Q => Q (([T] : List String).map V.ty) H)) (hT : T ∈ kitsB := by decide) (hg : Gl X "isinstance" := by rfl)
    (he : starEach (a :: es1) X.env = (false, eval a X.env) :: starEach es1 X.env := by rfl) (hpl : (backTo pos (starEach es1 X.env)).any (·.1) = false := by rfl) :
    PE X (.Call (.Name "isinstance" p) (a :: es1) [] pos) (RdE b Γ Ev (.isb [T] va)) :=
  we (pe_callB call_isi hg hm0 (by rfl) (pa_cons ha ht he) (by decide) (by decide) he hpl) fun h => RdE.mono (rd_isb hB h) fun v H1 ⟨n, k, h2, h3, h4⟩ => by
    obtain ⟨h1, h5⟩ := h4 H1 (.inl rfl)
    refine ⟨v, .ty T, .type n, .type T, k, rfl, .ty _, by rw [← C.K]; exact h1, ?_, h5⟩
    rw [h3]
    simpa using kit_one (K := X.K) h2 hT
theorem ds_frg (is : List Nat) {s : VS} (h : PS X st (RdS b Γ Ev s)) : PS X st (RdS b Γ Ev (.frg is s)) := ws h rs_frg
/-- a def that spoils what is below its argument -/
structure SpoK (P : Program) (w : World) (K : PySem.W.Frag) (mg : Str → Option Value) (base : Heap) (x : Str) (k : Nat) (sp : Sp) : Prop where
  ex : ∃ (f : Addr) (fd : FuncData) (ps : List Str), FnOk P w K mg base (L2.CX P w) k f fd ps sp ∧ mg x = some (.ref f) ∧ PySem.W.keepIn K (.ref f) = true ∧ Binds K fd ps []
theorem pe_spo {sp : Sp} {te : TE} (tk : ∀ σ, PassesAt (L2.CX X.prog X.w) X σ Ev) {j k : Nat} (h : SpoK X.prog X.w X.K X.mg X.base x j sp) (hr : Room k X.A) (hj : j ≤ k) (he : PE X e te)
    (hg : Gl X x := by rfl) (hdb : (x == ("__debug__" : Str)) = false := by decide) (hs : starEach [e] X.env = (false, eval e X.env) :: starEach [] X.env := by rfl) (hpl : (backTo pos (starEach [] X.env)).any (·.1) = false := by rfl) :
    PE X (.Call (.Name x p) [e] [] pos) (fun σ H Q => te σ H fun v H1 => sp [v] H1 Q Ev) := by
  obtain ⟨f, fd, ps, F, hm, hk, hb⟩ := h
  exact we (pe_callS (E := fun _ => Ev) F (hr.mono hj) hg hm hk hb tk (pa_cons he pa_nil hs) hdb hs hpl) fun q => q
theorem ds_spo (C : Cok X b Ev) {j k : Nat} (h : SpoK X.prog X.w X.K X.mg X.base x j (spSpo X.K b.g Γ.spo)) (hr : Room k X.A) (hj : j ≤ k) (he : PE X e (RdE b Γ Ev ve))
    (hsw : swapsWith (.Call (.Name x p) [e] [] p2) none pos.line X.env = pure false := by rfl)
    (hg : Gl X x := by rfl) (hdb : (x == ("__debug__" : Str)) = false := by decide) (hs : starEach [e] X.env = (false, eval e X.env) :: starEach [] X.env := by rfl) (hpl : (backTo p2 (starEach [] X.env)).any (·.1) = false := by rfl) :
    PS X (.Expr (.Call (.Name x p) [e] [] p2) pos) (RdS b Γ Ev (.spo ve)) :=
  ws (ps_expr (pe_spo (fun σ => passAt C.tk σ) h hr hj he hg hdb hs hpl) hsw) fun q => by
    have q := rs_spo q
    rw [C.K] at q
    exact q
end
section
variable {X : Cx} {Tb : List (Addr × Str)} {S0 : GS} {H0 : Hp} {F0 : Addr → Prop} {n : Nat} {Γ : Gam GS} {Ev : XK} {e : Expr} {ve : VE} {pos p p2 p3 : Pos} {x : Str}
theorem ds_setB (C : Cok X (bxE X.K (glo X.K Tb) S0 H0 F0 n) Ev) (hG : BoxG Γ) (i : Nat) (he : PE X e (RdE (bxE X.K (glo X.K Tb) S0 H0 F0 n) Γ Ev ve)) (hi : X.N[i]? = some x := by rfl) (hx : Loc X.env.scope x := by first | exact Or.inl rfl | exact Or.inr rfl) (hs : swapsWith e (some (.Name x p)) pos.line X.env = pure false := by rfl)
    (hf : X.fn x = true ∨ X.env.scope.names.lookup x = some .local := by first | exact .inl rfl | exact .inr rfl | assumption) : PS X (.Assign [.Name x p] e pos) (RdS (bxE X.K (glo X.K Tb) S0 H0 F0 n) Γ Ev (.setB i ve)) := ws (ps_set C.nd hi hx he hs hf) (rs_setB hG (C.lt hi))
theorem ds_apb (C : Cok X (bxE X.K (glo X.K Tb) S0 H0 F0 n) Ev) (hG : BoxG Γ) (hF : ∀ a, F0 a) (i j : Nat) {ct : T} {cv : V} (hc : ∀ H, Rep X.K H (fun _ => False) ct cv) {nm apos cpos : Pos} (he : PE X e (tC cv)) (hN : X.N[i]? = some x := by rfl) (hv : Vis X.env.scope x := by first | exact Or.inl rfl | exact Or.inr (Or.inl rfl) | exact Or.inr (Or.inr rfl)) (hd : (x == ("__debug__" : Str)) = false := by decide)
    (hcd : (x == ("__classdict__" : Str)) = false := by decide) (hbase : attributeBase (.Name x nm) "append" X.env (eval (.Name x nm) X.env) = eval (.Name x nm) X.env := by rfl)
    (hfew : ((backTo cpos (starEach [e] X.env)).all (fun x => !x.1) && (backToKw cpos (keywordEach [] X.env)).all (fun x => x.1.isSome)
      && decide (([e] : List Expr).length + ([] : List Keyword).length + (if ([] : List Keyword).isEmpty then 0 else 1) < 30)) = true := by rfl)
    (hline : (apos.endLine == cpos.line) = true := by rfl) (hs : starEach [e] X.env = (false, eval e X.env) :: starEach [] X.env := by rfl) (hplain : (backTo cpos (starEach [] X.env)).any (·.1) = false := by rfl)
    (hsw : swapsWith (.Call (.Attribute (.Name x nm) "append" apos) [e] [] cpos) none pos.line X.env = pure false := by rfl) :
    PS X (.Expr (.Call (.Attribute (.Name x nm) "append" apos) [e] [] cpos) pos) (RdS (bxE X.K (glo X.K Tb) S0 H0 F0 n) Γ Ev (.apb i j ct)) :=
  ws (ps_expr (pe_bm F.plainAttrs_list F.slot_list_append F.type_list_append mt_append (pe_var hN hv hd hcd) (pa_cons he pa_nil hs) hbase hfew hline hs hplain) hsw) fun h => by
    obtain ⟨v, h1, h2, h3⟩ := rs_apb hG (C.lt hN) hF hc h
    exact ⟨v, h1, h2, h3⟩
end
/-! ### _law_spoilt -/
mutual
def nL : T → Nat
  | .lst xs => nLs xs + 1
  | .tup xs => nLs xs
  | _ => 0
def nLs : List T → Nat
  | [] => 0
  | t :: r => nL t + nLs r
end
def wide : Nat → Nat → T → Prop
  | _, _, .non => True
  | _, _, .bl _ => True
  | _, _, .int _ => True
  | _, _, .str _ => True
  | n + 1, m, .tup xs => ∀ x ∈ xs, wide n m x
  | n + 1, m, .lst xs => xs.length ≤ m ∧ ∀ x ∈ xs, wide n m x
  | _, _, _ => False
def spoT (n : Nat) (t : T) : Prop := ∃ m, wide n m t ∧ m + nL t ≤ sizeLine
structure Af (H H' : Hp) (F : Addr → Prop) (c : Nat) : Prop where
  ki : KeepI H H'
  off : ∀ a o, H a = some o → ¬ F a → H' a = some o
  th : ∀ a o, H a = some o → ∃ o', H' a = some o'
  gr : ∀ a vs, F a → H a = some (.lst vs) → ∃ xs : List Str, H' a = some (.lst (vs ++ xs.map V.str)) ∧ xs.length ≤ c
section
variable {K : PySem.W.Frag} {g : Glo} {H H' H2 : Hp} {F F' : Addr → Prop} {c d : Nat}
theorem Af.refl : Af H H F 0 := ⟨fun _ _ _ e => e, fun _ _ e _ => e, fun _ o e => ⟨o, e⟩, fun a vs _ e => ⟨[], by simpa using e, Nat.le_refl 0⟩⟩
theorem Af.trans (x : Af H H' F c) (y : Af H' H2 F d) : Af H H2 F (c + d) := by
  refine ⟨fun a o i e => y.ki a o i (x.ki a o i e), fun a o e n => y.off a o (x.off a o e n) n, fun a o e => let ⟨o1, e1⟩ := x.th a o e; y.th a o1 e1, fun a vs f e => ?_⟩
  obtain ⟨xs, e1, l1⟩ := x.gr a vs f e
  obtain ⟨ys, e2, l2⟩ := y.gr a _ f e1
  exact ⟨xs ++ ys, by rw [e2]; simp, by simp; omega⟩
theorem Af.le (x : Af H H' F c) (h : c ≤ d) : Af H H' F d := ⟨x.ki, x.off, x.th, fun a vs f e => let ⟨xs, e1, l⟩ := x.gr a vs f e; ⟨xs, e1, Nat.le_trans l h⟩⟩
theorem Af.new {p : Addr} {o : HO} (hp : H p = none) : Af H (upd H p o) F 0 :=
  ⟨fun a u _ e => by rw [upd_ne (ne_of_none e hp)]; exact e, fun a u e _ => by rw [upd_ne (ne_of_none e hp)]; exact e, fun a u e => ⟨u, by rw [upd_ne (ne_of_none e hp)]; exact e⟩,
    fun a vs _ e => ⟨[], by rw [upd_ne (ne_of_none e hp)]; simpa using e, Nat.le_refl 0⟩⟩
theorem Af.wide {a : Addr} {vs : List V} (x : Af H H' (fun y => F y ∧ y ≠ a) c) (h : ∀ y o, H y = some o → F y → ImmO o ∨ ∃ vs, o = .lst vs) : Af H H' F c := by
  refine ⟨x.ki, fun y o e n => x.off y o e fun z => n z.1, x.th, fun y vs f e => ?_⟩
  by_cases z : y = a
  · exact ⟨[], by have := x.off y _ e (fun q => q.2 z); simpa using this, Nat.zero_le _⟩
  · exact x.gr y vs ⟨f, z⟩ e
theorem Af.widen {a : Addr} (x : Af H H' (fun y => F y ∧ y ≠ a) c) : Af H H' F c := by
  refine ⟨x.ki, fun y o e n => x.off y o e fun z => n z.1, x.th, fun y vs f e => ?_⟩
  by_cases z : y = a
  · exact ⟨[], by have := x.off y _ e (fun q => q.2 z); simpa using this, Nat.zero_le _⟩
  · exact x.gr y vs ⟨f, z⟩ e
theorem Af.narrow {a : Addr} (x : Af H H' F c) (h : ∀ y vs, H y = some (.lst vs) → F y → y = a → H' y = some (.lst vs)) (h2 : ∀ y o, H y = some o → F y → y = a → H' y = some o) : Af H H' (fun y => F y ∧ y ≠ a) c :=
  ⟨x.ki, fun y o e n => by
    by_cases f : F y
    · exact h2 y o e f (Classical.byContradiction fun z => n ⟨f, z⟩)
    · exact x.off y o e f, x.th, fun y vs f e => x.gr y vs f.1 e⟩
theorem Reps.strs : ∀ (xs : List Str), Reps K H F (xs.map T.str) (xs.map V.str)
  | [] => rfl
  | x :: r => ⟨_, _, rfl, rfl, Reps.strs r⟩
theorem nLs_app : ∀ (xs ys : List T), nLs (xs ++ ys) = nLs xs + nLs ys
  | [], ys => by simp [nLs]
  | x :: xs, ys => by simp [nLs, nLs_app xs ys]; omega
theorem nLs_strs : ∀ (xs : List Str), nLs (xs.map T.str) = 0
  | [] => rfl
  | x :: r => by simp [nLs, nL, nLs_strs r]
theorem wide_str {n m : Nat} {x : Str} : wide n m (.str x) := by cases n <;> simp [Vs.wide]
theorem wide_mono {m m' : Nat} (h : m ≤ m') : ∀ (n : Nat) (t : T), Vs.wide n m t → Vs.wide n m' t
  | 0, t, w => by cases t <;> simp_all [Vs.wide]
  | n + 1, t, w => by
    cases t <;> simp_all [Vs.wide]
    · exact fun x hx => wide_mono h n x (w x hx)
    · exact ⟨by omega, fun x hx => wide_mono h n x (w.2 x hx)⟩
theorem grow_list {n m : Nat} (ih : ∀ (t : T) (v : V), Vs.wide n m t → Rep K H F t v → ∃ t', Rep K H' F t' v ∧ Vs.wide n (m + c) t' ∧ nL t' = nL t ∧ tyN t' = tyN t) :
    ∀ (xs : List T) (vs : List V), (∀ x ∈ xs, Vs.wide n m x) → Reps K H F xs vs → ∃ xs', Reps K H' F xs' vs ∧ (∀ x ∈ xs', Vs.wide n (m + c) x) ∧ nLs xs' = nLs xs ∧ xs'.length = xs.length
  | [], vs, _, r => ⟨[], r, fun _ h => (List.not_mem_nil h).elim, rfl, rfl⟩
  | t :: xs, vs, w, ⟨v, r, e, h1, h2⟩ => by
    obtain ⟨t', a1, a2, a3⟩ := ih t v (w t List.mem_cons_self) h1
    obtain ⟨xs', b1, b2, b3, b4⟩ := grow_list ih xs r (fun x hx => w x (List.mem_cons_of_mem _ hx)) h2
    refine ⟨t' :: xs', ⟨v, r, e, a1, b1⟩, fun x hx => ?_, by simp [nLs, a3.1, b3], by simp [b4]⟩
    rcases List.mem_cons.mp hx with rfl | hx
    · exact a2
    · exact b2 x hx
theorem grow_rep {m : Nat} (ki : KeepI H H') : ∀ (n : Nat) {F : Addr → Prop} (gr : ∀ a vs, F a → H a = some (.lst vs) → ∃ xs : List Str, H' a = some (.lst (vs ++ xs.map V.str)) ∧ xs.length ≤ c) (t : T) (v : V), Vs.wide n m t → Rep K H F t v →
    ∃ t', Rep K H' F t' v ∧ Vs.wide n (m + c) t' ∧ nL t' = nL t ∧ tyN t' = tyN t
  | n, F, gr, .non, v, w, r => ⟨.non, r, by cases n <;> simp [Vs.wide], rfl, rfl⟩
  | n, F, gr, .bl _, v, w, r => ⟨.bl _, r, by cases n <;> simp [Vs.wide], rfl, rfl⟩
  | n, F, gr, .int _, v, w, r => ⟨.int _, r, by cases n <;> simp [Vs.wide], rfl, rfl⟩
  | n, F, gr, .str _, v, w, r => ⟨.str _, r, by cases n <;> simp [Vs.wide], rfl, rfl⟩
  | n + 1, F, gr, .tup xs, v, w, ⟨a, vs, e, q, r⟩ => by
    obtain ⟨xs', b1, b2, b3, b4⟩ := grow_list (grow_rep ki n gr) xs vs (by simpa [Vs.wide] using w) r
    exact ⟨.tup xs', ⟨a, vs, e, sqT_imm ki q, b1⟩, by simpa [Vs.wide] using b2, by simp [nL, b3], rfl⟩
  | n + 1, F, gr, .lst xs, v, w, ⟨a, vs, e, q, f, r⟩ => by
    have w' : xs.length ≤ m ∧ ∀ x ∈ xs, Vs.wide n m x := by simpa [Vs.wide] using w
    obtain ⟨xs', b1, b2, b3, b4⟩ := grow_list (grow_rep ki n (F := fun y => F y ∧ y ≠ a) fun y vs fy ey => gr y vs fy.1 ey) xs vs w'.2 r
    obtain ⟨zs, e1, l1⟩ := gr a vs f q
    refine ⟨.lst (xs' ++ zs.map T.str), ⟨a, _, e, e1, f, Reps.append b1 (Reps.strs zs)⟩, ?_, by simp [nL, nLs_app, nLs_strs, b3], rfl⟩
    simp only [Vs.wide]
    refine ⟨by simp; omega, fun x hx => ?_⟩
    rcases List.mem_append.mp hx with hx | hx
    · exact b2 x hx
    · obtain ⟨z, _, rfl⟩ := List.mem_map.mp hx
      exact wide_str
  | 0, F, gr, .tup _, v, w, r => by simp [Vs.wide] at w
  | 0, F, gr, .lst _, v, w, r => by simp [Vs.wide] at w
  | n, F, gr, .opq _, v, w, r => by cases n <;> simp [Vs.wide] at w
  | n, F, gr, .dct _ _, v, w, r => by cases n <;> simp [Vs.wide] at w
  | n, F, gr, .fdc _ _, v, w, r => by cases n <;> simp [Vs.wide] at w
end
end Vs

-- Vs29
namespace Vs
open PySem PySem.Spec PyProof.Rows L2
def tIsiV (K : PySem.W.Frag) (tys : List String) (i : Nat) : TE := fun σ H Q => ∃ v n, σ[i]? = some (some v) ∧ n ∈ kitsA ∧ ∀ H2, (H2 = H ∨ ∃ p vs, H p = none ∧ H2 = upd H p (.tup vs)) → TyX K H2 v (.type n) ∧ Q (.bl (tys.any fun y => n == y || (n == "bool" && y == "int"))) H2
section
variable {X : Cx} {a : Expr} {pos p p2 : Pos}
theorem pe_isiV {i : Nat} {T : String} {es1 : List Expr} (hm0 : X.mg "isinstance" = none) (ha : PE X a (tVar i)) (ht : PA X es1 (fun _ H Q => Q (([T] : List String).map V.ty) H)) (hT : T ∈ kitsB := by decide) (hg : Gl X "isinstance" := by rfl)
    (he : starEach (a :: es1) X.env = (false, eval a X.env) :: starEach es1 X.env := by rfl) (hpl : (backTo pos (starEach es1 X.env)).any (·.1) = false := by rfl) :
    PE X (.Call (.Name "isinstance" p) (a :: es1) [] pos) (tIsiV X.K [T] i) :=
  we (pe_callB call_isi hg hm0 (by rfl) (pa_cons ha ht he) (by decide) (by decide) he hpl) fun {σ H Q} h => by
    obtain ⟨v, n, h1, h2, h4⟩ := h
    obtain ⟨h3, h5⟩ := h4 H (.inl rfl)
    refine ⟨v, h1, v, .ty T, .type n, .type T, _, rfl, .ty _, h3, ?_, h5⟩
    simpa using kit_one (K := X.K) h2 hT
theorem pe_isiVT {i : Nat} {tys : List String} {es1 : List Expr} {k1 : Nat} (hm0 : X.mg "isinstance" = none) (ha : PE X a (tVar i)) (ht : PA X es1 (fun _ H Q => Q (tys.map V.ty) H)) (hT : (tys.all fun y => kitsB.contains y) = true := by decide) (hz : tys.length ≤ 1000 := by decide) (hg : Gl X "isinstance" := by rfl)
    (he : starEach (a :: [.Tuple es1 k1 p2]) X.env = (false, eval a X.env) :: starEach [.Tuple es1 k1 p2] X.env := by rfl) (hpl : (backTo pos (starEach [.Tuple es1 k1 p2] X.env)).any (·.1) = false := by rfl)
    (he2 : starEach [.Tuple es1 k1 p2] X.env = (false, eval (.Tuple es1 k1 p2) X.env) :: starEach [] X.env := by rfl) :
    PE X (.Call (.Name "isinstance" p) [a, .Tuple es1 k1 p2] [] pos) (tIsiV X.K tys i) :=
  we (pe_callB call_isiT hg hm0 (by rfl) (pa_cons ha (pa_cons (pe_tup ht) pa_nil he2) he) (by decide) (by decide) he hpl) fun {σ H Q} h => by
    obtain ⟨v, n, h1, h2, h4⟩ := h
    refine ⟨v, h1, ?_, fun q hq => ?_⟩
    · rw [List.length_map, sizeLine_eq]; omega
    · obtain ⟨h3, h5⟩ := h4 _ (.inr ⟨q, tys.map V.ty, hq, rfl⟩)
      refine ⟨v, q, tys.map V.ty, .type n, tys.map Value.type, _, rfl, upd_same, clsv_all tys, h3, ?_, h5⟩
      exact kit_any h2 fun y hy => by simpa using List.all_eq_true.mp hT y hy
end
def spSpoN (K : PySem.W.Frag) (g : Glo) (n : Nat) : Sp := fun vs H Q _ =>
  ∃ (t : T) (S : g.G) (F : Addr → Prop) (v : V), vs = [v] ∧ Rep K H F t v ∧ g.SI S H ∧ (∀ a, F a → ¬ g.SA S a ∧ ∃ o, H a = some o) ∧ spoT n t ∧ ∀ H', Af H H' F (nL t) → Q .non H'
theorem spSpo_of {K : PySem.W.Frag} {g : Glo} {n : Nat} {P : T → Prop} (hP : ∀ t, P t → spoT n t) {vs : List V} {H : Hp} {Q : VK} {E : XK} (h : spSpo K g P vs H Q E) : spSpoN K g n vs H Q E := by
  obtain ⟨t, S, F, v, e, r, si, hF, hp, k⟩ := h
  exact ⟨t, S, F, v, e, r, si, hF, hP t hp, fun H' a => k H' a.ki a.off a.th⟩
def tAnyI (K : PySem.W.Frag) (te : TE) : TI := fun σ H R => te σ H fun x H1 =>
    (∃ a, x = .ref a ∧ (∃ xs, SqL K H1 a xs) ∧ R (Itl K a) H1) ∨ (∃ a, x = .ref a ∧ (∃ xs, SqT K H1 a xs) ∧ R (Itt K a) H1) ∨ (∃ z, x = .str z ∧ R (Its z) H1) ∨ ∃ d o kvs, x = .ref d ∧ H1 d = some (.frz o (.dK kvs)) ∧ R (Itk d o kvs) H1
def tTru (K : PySem.W.Frag) (te : TE) : TT := fun σ H Q => te σ H fun x H' => ∃ k, TruV K x H' k ∧ Q k H'
def tApp0 (K : PySem.W.Frag) (i : Nat) (c : V) : TS := fun D σ H => ∃ v, σ[i]? = some (some v) ∧ tyV K "list" v H ∧ rAppend v [c] H fun _ H2 => D.nx σ H2
def tSpoilt (K : PySem.W.Frag) (sp : Sp) (E : XK) : TS :=
  tSeq (tIfS (tTru K (tIsiV K ["dict"] 0)) (fun _ _ _ => False) tNext)
    (tSeq (tIfS (tTru K (tIsiV K ["list", "tuple"] 0)) (tSeq (tFor (tAnyI K (tVar 0)) (gName 2) (tSeq (tDrop fun σ H Q => tVar 2 σ H fun v H1 => sp [v] H1 Q E) tNext)) tNext) tNext)
      (tSeq (tIfS (tTru K (tIsiV K ["list"] 0)) (tSeq (tApp0 K 0 (.str "late")) tNext) tNext) tNext))
section
variable {K : PySem.W.Frag} {g : Glo} {S : g.G} {H H' H2 : Hp} {F F' : Addr → Prop} {c d : Nat} {Q : VK} {E : XK} {D : Ends}
theorem Af.si (si : g.SI S H) (hF : ∀ a, F a → ¬ g.SA S a) (x : Af H H' F c) : g.SI S H' :=
  g.stab si (fun a ha => by
    obtain ⟨o, eo, _⟩ := g.trk si ha
    rw [eo]; exact x.off a o eo fun f => hF a f ha) x.ki
theorem nLs_take {xs : List T} {i : Nat} {t : T} (h : xs[i]? = some t) : nLs (xs.take (i + 1)) = nLs (xs.take i) + nL t := by
  have e : xs.take (i + 1) = xs.take i ++ [t] := by
    rw [List.take_succ, h]; rfl
  rw [e, nLs_app]
  simp [nLs]
theorem nLs_le {xs : List T} {i : Nat} : nLs (xs.take i) ≤ nLs xs := by
  have e : nLs xs = nLs (xs.take i ++ xs.drop i) := by rw [List.take_append_drop]
  rw [e, nLs_app]; omega
/-- the walk over the parts -/
theorem spo_walk {n m : Nat} {xs : List T} {vs : List V} {J : It} {σ0 : L2.St} {v0 : V} (si : g.SI S H) (hF : ∀ a, F a → ¬ g.SA S a ∧ ∃ o, H a = some o) (r : Reps K H F xs vs) (hw : ∀ x ∈ xs, wide n m x) (hm : m + nLs xs ≤ sizeLine)
    (h0 : σ0[0]? = some (some v0)) (hl : σ0.length = 3)
    (go : ∀ i H' c, Af H H' F c → i < vs.length → J.go i H') (yl : ∀ i H' x H2 c, Af H H' F c → J.yld i H' x H2 → H2 = H' ∧ vs[i]? = some x) (stp : ∀ H' c, Af H H' F c → J.stop vs.length H')
    (fin : ∀ σ' H', σ'[0]? = some (some v0) → σ'.length = 3 → Af H H' F (nLs xs) → D.nx σ' H') :
    ∃ W : Nat → Nat → L2.St → Hp → Prop, (∃ m, W 0 m σ0 H) ∧ ∀ (i m : Nat) (σ : L2.St) (H : Hp), W i m σ H → J.stop i H ∧ D.nx σ H ∨ J.go i H ∧ ∃ N : L2.St → Hp → Prop,
      (∀ (σ' : L2.St) (H' : Hp), N σ' H' → ∃ m', m' < m ∧ W (i + 1) m' σ' H') ∧ ∀ (x : V) (H' : Hp), J.yld i H x H' → gName 2 x σ H' fun σ2 H2 =>
        tSeq (tDrop fun σ H Q => tVar 2 σ H fun v H1 => spSpoN K g n [v] H1 Q E) tNext { nx := N, rt := D.rt, bk := D.nx, ct := N } σ2 H2 := by
  have hlen := r.length
  refine ⟨fun i m σ' H' => m = vs.length - i ∧ i ≤ vs.length ∧ σ'[0]? = some (some v0) ∧ σ'.length = 3 ∧ Af H H' F (nLs (xs.take i)), ⟨_, rfl, Nat.zero_le _, h0, hl, by simpa [nLs] using Af.refl⟩, ?_⟩
  rintro i _ σ1 H1 ⟨rfl, hi, h1, hl1, af⟩
  by_cases hlt : i < vs.length
  · refine .inr ⟨go i H1 _ af hlt, fun σ' H' => ∃ m', m' < vs.length - i ∧ m' = vs.length - (i + 1) ∧ i + 1 ≤ vs.length ∧ σ'[0]? = some (some v0) ∧ σ'.length = 3 ∧ Af H H' F (nLs (xs.take (i + 1))), fun σ' H' ⟨m', hm', q⟩ => ⟨m', hm', q⟩, fun x H2 hy => ?_⟩
    obtain ⟨rfl, ex⟩ := yl i H1 x H2 _ af hy
    obtain ⟨t, et, rt⟩ := r.get' ex
    have wt := hw t (List.mem_of_getElem? et)
    obtain ⟨t', r', w', l', _⟩ := grow_rep af.ki n af.gr t x wt rt
    have nt := nLs_take et
    have le := nLs_le (xs := xs) (i := i + 1)
    show tSeq _ _ _ (σ1.set 2 (some x)) H2
    refine ⟨x, ?_, t', S, F, x, rfl, r', Af.si si (fun a f => (hF a f).1) af, fun a f => ⟨(hF a f).1, let ⟨o, eo⟩ := (hF a f).2; af.th a o eo⟩, ⟨_, w', by rw [l']; omega⟩, fun H3 af3 => ?_⟩
    · rw [List.getElem?_set_self (by omega)]
    · refine ⟨_, Nat.sub_lt_sub_left hlt (Nat.lt_succ_self i), rfl, hlt, ?_, by simpa using hl1, ?_⟩
      · rw [List.getElem?_set_ne (by decide)]; exact h1
      · rw [nt]
        rw [l'] at af3
        exact af.trans af3
  · have e : i = vs.length := by omega
    subst e
    rw [← hlen, List.take_length] at af
    exact .inl ⟨stp H1 _ af, fin σ1 H1 h1 hl1 af⟩
theorem spo_body {n : Nat} {vs : List V} (h : spSpoN K g (n + 1) vs H Q E) : tSpoilt K (spSpoN K g n) E { nx := fun _ H' => Q .non H', rt := Q } (L2.start ["thing", "key", "part"] vs) H := by
  obtain ⟨t, S, F, v, rfl, r, si, hF, ⟨m, hw, hm⟩, k⟩ := h
  have st0 : (L2.start ["thing", "key", "part"] [v])[0]? = some (some v) := rfl
  have hl0 : (L2.start ["thing", "key", "part"] [v]).length = 3 := rfl
  have aft : ∀ {H1 H2 : Hp}, (H2 = H1 ∨ ∃ p vs, H1 p = none ∧ H2 = upd H1 p (.tup vs)) → Af H1 H2 F 0 := fun h => by
    rcases h with rfl | ⟨p, us, hp, rfl⟩
    · exact .refl
    · exact .new hp
  have tyAt : ∀ {H' : Hp} {c : Nat} {n : String}, tyN t = some n → Af H H' F c → TyX K H' v (.type n) ∧ n ∈ kitsA := fun {H' c n} e af => by
    obtain ⟨t', r', w', _, e'⟩ := grow_rep af.ki _ af.gr t v hw r
    exact tyN_ok r' (e'.trans e)
  have tst : ∀ {tn : String}, tyN t = some tn → ∀ (tys : List String) (A : TS) (D : Ends) (σ : L2.St) (H' : Hp) (c : Nat), Af H H' F c → σ[0]? = some (some v) →
      (∀ H2, Af H H2 F c → if (tys.any fun y => tn == y || (tn == "bool" && y == "int")) = true then A D σ H2 else D.nx σ H2) → tIfS (tTru K (tIsiV K tys 0)) A tNext D σ H' := fun {tn} e tys A D σ H' c af h0 q => by
    refine ⟨v, tn, h0, (tyAt e af).2, fun H2 hH => ?_⟩
    have af2 : Af H H2 F c := af.trans (d := 0) (aft hH)
    exact ⟨(tyAt e af2).1, _, rfl, q H2 af2⟩
  have sm : ∀ {σ : L2.St} {H' : Hp}, tSeq (fun _ _ _ => True) tNext { nx := fun _ H' => Q .non H', rt := Q } σ H' → True := fun _ => trivial
  unfold tSpoilt
  cases t with
  | non => exact tst rfl _ _ _ _ _ 0 .refl st0 fun H1 a1 => tst rfl _ _ _ _ _ 0 a1 st0 fun H2 a2 => tst rfl _ _ _ _ _ 0 a2 st0 fun H3 a3 => k H3 a3
  | bl b => exact tst rfl _ _ _ _ _ 0 .refl st0 fun H1 a1 => tst rfl _ _ _ _ _ 0 a1 st0 fun H2 a2 => tst rfl _ _ _ _ _ 0 a2 st0 fun H3 a3 => k H3 a3
  | int i => exact tst rfl _ _ _ _ _ 0 .refl st0 fun H1 a1 => tst rfl _ _ _ _ _ 0 a1 st0 fun H2 a2 => tst rfl _ _ _ _ _ 0 a2 st0 fun H3 a3 => k H3 a3
  | str x => exact tst rfl _ _ _ _ _ 0 .refl st0 fun H1 a1 => tst rfl _ _ _ _ _ 0 a1 st0 fun H2 a2 => tst rfl _ _ _ _ _ 0 a2 st0 fun H3 a3 => k H3 a3
  | opq a => simp [Vs.wide] at hw
  | dct _ _ => simp [Vs.wide] at hw
  | fdc _ _ => simp [Vs.wide] at hw
  | tup xs =>
    refine tst rfl _ _ _ _ _ 0 .refl st0 fun H1 a1 => tst rfl _ _ _ _ _ 0 a1 st0 fun H2 a2 => ?_
    rw [if_pos (by decide)]
    obtain ⟨a, ws, rfl, q, r⟩ := r
    have q2 := sqT_imm a2.ki q
    have r2 : ∃ xs', Reps K H2 F xs' ws ∧ (∀ x ∈ xs', wide n m x) ∧ nLs xs' = nLs xs ∧ xs'.length = xs.length := by
      obtain ⟨xs', b1, b2, b3, b4⟩ := grow_list (grow_rep (m := m) a2.ki n a2.gr) xs ws (by simpa [Vs.wide] using hw) r
      exact ⟨xs', b1, b2, b3, b4⟩
    obtain ⟨xs', b1, b2, b3, b4⟩ := r2
    have hF2 : ∀ a, F a → ¬ g.SA S a ∧ ∃ o, H2 a = some o := fun a f => ⟨(hF a f).1, let ⟨o, eo⟩ := (hF a f).2; a2.th a o eo⟩
    have si2 := Af.si si (fun a f => (hF a f).1) a2
    refine ⟨.ref a, st0, .inr (.inl ⟨a, rfl, ⟨ws, q2⟩, ?_⟩)⟩
    refine spo_walk si2 hF2 b1 b2 (by rw [b3]; simpa [nL] using hm) st0 hl0 (fun i H' c af hi => ⟨ws, ws[i], sqT_imm af.ki q2, List.getElem?_eq_getElem _⟩) (fun i H' x H3 c af y => ⟨y.1, y.2 ws (sqT_imm af.ki q2)⟩)
      (fun H' c af => ⟨ws, sqT_imm af.ki q2, Nat.le_refl _⟩) fun σ' H' h0 _ af => ?_
    have af3 : Af H H' F (nLs xs) := by
      have z := a2.trans af
      rw [b3, Nat.zero_add] at z
      exact z
    exact tst rfl _ _ _ _ _ (nLs xs) af3 h0 fun H4 a4 => k H4 (by simpa [nL] using a4)
  | lst xs =>
    refine tst rfl _ _ _ _ _ 0 .refl st0 fun H1 a1 => tst rfl _ _ _ _ _ 0 a1 st0 fun H2 a2 => ?_
    rw [if_pos (by decide)]
    have hw2 : xs.length ≤ m ∧ ∀ x ∈ xs, wide n m x := by simpa [Vs.wide] using hw
    obtain ⟨a, ws, rfl, q, fa, r⟩ := r
    have q2 : H2 a = some (.lst ws) := by
      obtain ⟨zs, e1, l1⟩ := a2.gr a ws fa q
      have : zs = [] := List.length_eq_zero_iff.mp (by omega)
      subst this
      simpa using e1
    obtain ⟨xs', b1, b2, b3, b4⟩ := grow_list (grow_rep (m := m) a2.ki n (F := fun y => F y ∧ y ≠ a) fun y vs f e => a2.gr y vs f.1 e) xs ws hw2.2 r
    have hF2 : ∀ y, (F y ∧ y ≠ a) → ¬ g.SA S y ∧ ∃ o, H2 y = some o := fun y f => ⟨(hF y f.1).1, let ⟨o, eo⟩ := (hF y f.1).2; a2.th y o eo⟩
    have si2 := Af.si si (fun a f => (hF a f).1) a2
    have kp : ∀ {H' : Hp} {c : Nat}, Af H2 H' (fun y => F y ∧ y ≠ a) c → H' a = some (.lst ws) := fun af => af.off a _ q2 fun z => z.2 rfl
    have hm2 : m + (nLs xs + 1) ≤ sizeLine := by simpa [nL] using hm
    refine ⟨.ref a, st0, .inl ⟨a, rfl, ⟨ws, SqL.of q2⟩, ?_⟩⟩
    refine spo_walk si2 hF2 b1 b2 (by rw [b3]; omega) st0 hl0 (fun i H' c af hi => ⟨ws, ws[i], SqL.of (kp af), List.getElem?_eq_getElem _⟩) (fun i H' x H3 c af y => ⟨y.1, y.2 ws (SqL.of (kp af))⟩)
      (fun H' c af => ⟨ws, SqL.of (kp af), Nat.le_refl _⟩) fun σ' H' h0 _ af => ?_
    have af3 : Af H H' F (nLs xs) := by
      have z := a2.trans af.widen
      rw [b3, Nat.zero_add] at z
      exact z
    have q3 := kp af
    refine tst rfl _ _ _ _ _ (nLs xs) af3 h0 fun H4 a4 => ?_
    rw [if_pos (by decide)]
    obtain ⟨zs, e4, l4⟩ := a4.gr a ws fa q
    refine ⟨.ref a, h0, .inl ⟨rfl, _, SqL.of e4⟩, a, _, .str "late", rfl, rfl, e4, ?_, k _ ?_⟩
    · have := r.length
      simp
      omega
    · refine ⟨fun y o i e => ?_, fun y o e f => ?_, fun y o e => ?_, fun y vs f e => ?_⟩
      · have z := a4.ki y o i e
        rw [upd_ne (fun w => by rw [w, e4] at z; cases z; exact i)]
        exact z
      · rw [upd_ne (fun (w : y = a) => f (w ▸ fa))]
        exact a4.off y o e f
      · by_cases w : y = a
        · exact ⟨_, by rw [w]; exact upd_same⟩
        · rw [upd_ne w]; exact a4.th y o e
      · by_cases w : y = a
        · subst w
          rw [q] at e
          cases e
          exact ⟨zs ++ [("late" : Str)], by rw [upd_same]; simp, by simp [nL]; omega⟩
        · obtain ⟨us, e5, l5⟩ := a4.gr y vs f e
          exact ⟨us, by rw [upd_ne w]; exact e5, by simp [nL]; omega⟩
end
end Vs

-- Vs30
namespace Vs
open PySem PySem.Spec PyProof.Rows L2
/-! ### what the head tells of an own error's class -/
def clsB (K : PySem.W.Frag) (C : Addr) : Bool := match K.lookup C with
  | some ⟨.type ty, _, .cls cd, sl⟩ => decide (ty = "type") && (match cd.mro, sl.toList with
    | .ref c0 :: tl, [_, _, _, _, some (.builtin nw), _] => decide (c0 = C) && (decide (nw = "ValueError.__new__") && (cd.hasDict && (!cd.hasDel && PySem.HandSPX.refsVE tl)))
    | _, _ => false)
  | _ => false
def oexB (K : PySem.W.Frag) (C : Addr) : Bool := clsB K C && (decide (PySem.W.findIn K (.ref C) "__setattr__" = some (some (.builtin "object.__setattr__"))) && (decide (PySem.W.subIn K (.ref C) (.type "BaseException") = some true) &&
  (decide (PySem.W.typeIn K (.ref C) = some (.type "type")) && PySem.W.keepIn K (.ref C))))
theorem oexB_ok {K : PySem.W.Frag} {C : Addr} (h : oexB K C = true) : OexC K C := by
  obtain ⟨h1, h⟩ := Bool.and_eq_true_iff.mp h
  obtain ⟨h2, h⟩ := Bool.and_eq_true_iff.mp h
  obtain ⟨h3, h⟩ := Bool.and_eq_true_iff.mp h
  obtain ⟨h4, h5⟩ := Bool.and_eq_true_iff.mp h
  refine ⟨?_, of_decide_eq_true h2, of_decide_eq_true h3, of_decide_eq_true h4, h5⟩
  unfold clsB at h1
  cases e : K.lookup C with
  | none => rw [e] at h1; cases h1
  | some o =>
    obtain ⟨oc, od, dt, sl⟩ := o
    rw [e] at h1
    cases oc with
    | type ty =>
      cases dt with
      | cls cd =>
        obtain ⟨g1, g2⟩ := Bool.and_eq_true_iff.mp h1
        have g1 := of_decide_eq_true g1
        subst g1
        obtain ⟨nm, bs, mro, ns, qn, hd, sn, sub, ab, col, del⟩ := cd
        obtain ⟨l⟩ := sl
        dsimp only at g2
        split at g2
        · rename_i c0 tl k0 k1 k2 k3 nw k5 em es
          obtain ⟨q1, g2⟩ := Bool.and_eq_true_iff.mp g2
          obtain ⟨q2, g2⟩ := Bool.and_eq_true_iff.mp g2
          obtain ⟨q3, g2⟩ := Bool.and_eq_true_iff.mp g2
          obtain ⟨q4, q5⟩ := Bool.and_eq_true_iff.mp g2
          have q1 := of_decide_eq_true q1
          have q2 := of_decide_eq_true q2
          have q4 : del = false := by simpa using q4
          subst q1 q2 q3 q4
          exact ⟨_, _, _, _, _, _, _, _, _, _, _, _, _, _, _, rfl, q5⟩
        · cases g2
      | _ => cases h1
    | _ => cases h1
end Vs

-- K24all
namespace K24
open PySem PySem.Spec PyProof.Rows L2 LamX Vs
def top (i : Nat) : Stmt := PySem.Challenge.pw_provenkind_k24_whole_tokens_of_texts.main.body.getD i (.Pass ⟨0, 0, 0, 0⟩)
def blts : List Str := ["isinstance", "str", "len", "int", "enumerate", "list", "abs", "dict", "tuple", "bool", "zip", "all", "range"]
-- functions: 0 check_text, 1 run_end, 2 word_end, 3 row_tokens, 4 tokens, 5 _law_stream, 6 _law_draw, 7 _law_pick, 8 _law_copied, 9 _law_same, 10 _law_spoilt, 11 _law_span, 12 _law_word_span, 13 _law_row_tokens, 14 _law_drawn_row, 15 _law_met, 16 law
-- classes: 0 KindError, 1 NoText, 2 Unread
-- constants: 0 LETTERS, 1 FIGURES
/-! ### NoText -/
abbrev s_NoText : Stmt := inClass (top 4) 0
theorem sc_NoText : FnScope ["self", "text"] ["self", "text"] (defScope s_NoText) := ⟨rfl, rfl, rfl, by decide +kernel, rfl, by decide +kernel, by decide +kernel⟩
theorem d_NoText {P : Program} {w : World} {K : PySem.W.Frag} {mg : Str → Option Value} {base : Heap} {fI : Addr} (cdv : Value) (A : Around) (outer : List Env) (s : Shared) (H : Hp) (E : XK) :
    PSs (cxOf (L2.CX P w) P w K mg base ["self", "text"] "NoText.__init__" (defScope s_NoText) fI cdv A outer s H E) (defBody s_NoText) (tOst K "text" (tVar 0) (tVar 1)) := pss_one (ps_ost (pv 0) (pv 1))
/-! ### Unread -/
abbrev s_Unread : Stmt := inClass (top 5) 0
theorem sc_Unread : FnScope ["self", "at"] ["self", "at"] (defScope s_Unread) := ⟨rfl, rfl, rfl, by decide +kernel, rfl, by decide +kernel, by decide +kernel⟩
theorem d_Unread {P : Program} {w : World} {K : PySem.W.Frag} {mg : Str → Option Value} {base : Heap} {fI : Addr} (cdv : Value) (A : Around) (outer : List Env) (s : Shared) (H : Hp) (E : XK) :
    PSs (cxOf (L2.CX P w) P w K mg base ["self", "at"] "Unread.__init__" (defScope s_Unread) fI cdv A outer s H E) (defBody s_Unread) (tOst K "at" (tVar 0) (tVar 1)) := pss_one (ps_ost (pv 0) (pv 1))
/-! ### _law_met -/
abbrev s__law_met : Stmt := top 24
theorem sc__law_met : FnScope ["ask", "e"] ["ask"] (defScope s__law_met) := ⟨rfl, rfl, rfl, by decide +kernel, rfl, by decide +kernel, by decide +kernel⟩
theorem g__law_met {X : Cx} {g : Addr} {cdv : Value} {q : Str} {C_NoText : Addr} (x_NoText : XfC X.K C_NoText) (n_NoText : PySem.W.findIn X.K (.ref C_NoText) "text" = some none) (m_NoText : X.mg "NoText" = some (.ref C_NoText)) {C_Unread : Addr} (x_Unread : XfC X.K C_Unread) (n_Unread : PySem.W.findIn X.K (.ref C_Unread) "at" = some none) (m_Unread : X.mg "Unread" = some (.ref C_Unread)) :
    LamX.GivesTo X ["ask", "e"] "_law_met" (defScope s__law_met) g cdv (defBody s__law_met) "ask" q (TMet X.K [⟨C_NoText, "text", "text"⟩, ⟨C_Unread, "unread", "at"⟩]) := met_gives (by decide) rfl fun s H => (.more ⟨rfl, by decide, .inl m_NoText⟩ (fun a oe cls d pn hz hf => pss_one (ps_ret (pe_tup (pa_cons pe_str (pa_cons (pe_xf x_NoText n_NoText hz hf (pv 1)) pa_nil))))) (.more ⟨rfl, by decide, .inl m_Unread⟩ (fun a oe cls d pn hz hf => pss_one (ps_ret (pe_tup (pa_cons pe_str (pa_cons (pe_xf x_Unread n_Unread hz hf (pv 1)) pa_nil))))) .none))
/-! ### check_text -/
abbrev s_check_text : Stmt := top 8
def v_check_text : VB := .cons (.ite (.not (.isb ["str"] (.v 0))) (.cons (.rai 1 (.v 0)) (.nil)) (.nil)) (.nil)
theorem sc_check_text : FnScope ["text"] ["text"] (defScope s_check_text) := ⟨rfl, rfl, rfl, by decide +kernel, rfl, by decide +kernel, by decide +kernel⟩
theorem d_check_text {P : Program} {w : World} {K : PySem.W.Frag} {mg : Str → Option Value} {base : Heap} {g : Glo} {Γ : Gam g.G} {S : g.G} {F : Addr → Prop} {f : Addr} {cdv : Value} {A : Around} {outer : List Env} {s : Shared} {H : Hp} {E : XK} {k : Nat}
    (B : ∀ x ∈ blts, mg x = none) {jx_NoText : Nat} (x_NoText : ExK P w K mg base "NoText" (Γ.cls 1).cls (Γ.cls 1).fld jx_NoText) (hx_NoText : jx_NoText + 1 ≤ k) (hB : ∀ S H a, g.SI S H → Γ.isl S a → ∃ vs, H a = some (.lst vs))
    (hr : Room k (A.deeper (envOfC "check_text" (defScope s_check_text) s.heap.objs.size f cdv))) (C : Cok (cxOf (L2.CX P w) P w K mg base ["text"] "check_text" (defScope s_check_text) f cdv A outer s H E) (bxE K g S H F ["text"].length) E) :
    PSs (cxOf (L2.CX P w) P w K mg base ["text"] "check_text" (defScope s_check_text) f cdv A outer s H E) (defBody s_check_text) (RdB (bxE K g S H F ["text"].length) Γ E v_check_text) := by
  exact (dss_cons (ds_ite (dt_not (dt_val C (de_isb1 C hB (T := "str") (B "isinstance" (by decide)) (de_v C 0) (pt_cons (B "str" (by decide)) pt_nil)))) (dss_cons (ds_rai C x_NoText (hr.mono hx_NoText) (de_v C 0))
    dss_nil) dss_nil)
    dss_nil)
/-! ### run_end -/
abbrev s_run_end : Stmt := top 9
def v_run_end : VB := .cons (.set 3 (.v 1)) (.cons (.whl (.and (.cmp .Lt (.v 3) (.bi .len (.cons (.v 0) (.nil)))) (.cmp .In (.ix (.v 0) (.v 3)) (.v 2))) (.cons (.set 3 (.bin .Add (.v 3) (.k (.int 1)))) (.nil))) (.cons (.ret (.v 3)) (.nil)))
theorem sc_run_end : FnScope ["row", "place", "signs", "end"] ["row", "place", "signs"] (defScope s_run_end) := ⟨rfl, rfl, rfl, by decide +kernel, rfl, by decide +kernel, by decide +kernel⟩
theorem d_run_end {P : Program} {w : World} {K : PySem.W.Frag} {mg : Str → Option Value} {base : Heap} {g : Glo} {Γ : Gam g.G} {S : g.G} {F : Addr → Prop} {f : Addr} {cdv : Value} {A : Around} {outer : List Env} {s : Shared} {H : Hp} {E : XK} {k : Nat}
    (B : ∀ x ∈ blts, mg x = none)
    (hr : Room k (A.deeper (envOfC "run_end" (defScope s_run_end) s.heap.objs.size f cdv))) (C : Cok (cxOf (L2.CX P w) P w K mg base ["row", "place", "signs", "end"] "run_end" (defScope s_run_end) f cdv A outer s H E) (bxE K g S H F ["row", "place", "signs", "end"].length) E) :
    PSs (cxOf (L2.CX P w) P w K mg base ["row", "place", "signs", "end"] "run_end" (defScope s_run_end) f cdv A outer s H E) (defBody s_run_end) (RdB (bxE K g S H F ["row", "place", "signs", "end"].length) Γ E v_run_end) := by
  exact (dss_cons (ds_set C 3 (de_v C 1))
    (dss_cons (ds_whl (passes_of rfl) (dt_w (dw_and (dt_cmp C (de_v C 3) (de_biB C .len rfl (B "len" (by decide)) (das_cons (de_v C 0) das_nil))) (dw_and1 (dt_cmp C (de_ix C (de_v C 0) (de_v C 3)) (de_v C 2))))) (dss_cons (ds_set C 3 (de_bin C (de_v C 3) de_int))
    dss_nil))
    (dss_cons (ds_retV C 3)
    dss_nil)))
/-! ### word_end -/
abbrev s_word_end : Stmt := top 10
def v_word_end : VB := .cons (.set 2 (.call 1 (.cons (.v 0) (.cons (.v 1) (.cons (.g 0) (.nil)))))) (.cons (.ite (.and (.cmp .Gt (.v 2) (.v 1)) (.and (.cmp .Eq (.sl true true (.v 0) (.cons (.v 2) (.cons (.bin .Add (.v 2) (.k (.int 1))) (.nil)))) (.k (.str "_"))) (.cmp .Gt (.call 1 (.cons (.v 0) (.cons (.bin .Add (.v 2) (.k (.int 1))) (.cons (.g 0) (.nil))))) (.bin .Add (.v 2) (.k (.int 1)))))) (.cons (.ret (.call 1 (.cons (.v 0) (.cons (.bin .Add (.v 2) (.k (.int 1))) (.cons (.g 0) (.nil)))))) (.nil)) (.nil)) (.cons (.ret (.v 2)) (.nil)))
theorem sc_word_end : FnScope ["row", "place", "end"] ["row", "place"] (defScope s_word_end) := ⟨rfl, rfl, rfl, by decide +kernel, rfl, by decide +kernel, by decide +kernel⟩
theorem d_word_end {P : Program} {w : World} {K : PySem.W.Frag} {mg : Str → Option Value} {base : Heap} {g : Glo} {Γ : Gam g.G} {S : g.G} {F : Addr → Prop} {f : Addr} {cdv : Value} {A : Around} {outer : List Env} {s : Shared} {H : Hp} {E : XK} {k : Nat}
    (B : ∀ x ∈ blts, mg x = none) (k_LETTERS : ∃ t, mg "LETTERS" = some (.str "abcdefghijklmnopqrstuvwxyz" t)) (i_LETTERS : Γ.con 0 = .str "abcdefghijklmnopqrstuvwxyz") {j_run_end : Nat} (c_run_end : FnK P w K mg base g "run_end" j_run_end (Γ.ar 1) (Γ.fn 1)) (h_run_end : j_run_end ≤ k)
    (hr : Room k (A.deeper (envOfC "word_end" (defScope s_word_end) s.heap.objs.size f cdv))) (C : Cok (cxOf (L2.CX P w) P w K mg base ["row", "place", "end"] "word_end" (defScope s_word_end) f cdv A outer s H E) (bxE K g S H F ["row", "place", "end"].length) E) :
    PSs (cxOf (L2.CX P w) P w K mg base ["row", "place", "end"] "word_end" (defScope s_word_end) f cdv A outer s H E) (defBody s_word_end) (RdB (bxE K g S H F ["row", "place", "end"].length) Γ E v_word_end) := by
  obtain ⟨t_LETTERS, k_LETTERS⟩ := k_LETTERS
  have g_LETTERS : ∀ {X : Cx} {pos : Pos} {Ev : XK}, X.mg = mg → Gl X "LETTERS" → PE X (.Name "LETTERS" pos) (RdE (bxE K g S H F ["row", "place", "end"].length) Γ Ev (.g 0)) := fun e1 e2 => de_g (v := .str "abcdefghijklmnopqrstuvwxyz") (by rw [e1]; exact k_LETTERS) ⟨_, rfl⟩ (fun _ => by rw [i_LETTERS]; rfl) (by rw [i_LETTERS]; rfl) e2
  exact (dss_cons (ds_set C 2 (de_callK C c_run_end hr h_run_end (das_cons (de_v C 0) (das_cons (de_v C 1) (das_cons (g_LETTERS rfl rfl) das_nil)))))
    (dss_cons (ds_ite (dt_w (dw_and (dt_cmp C (de_v C 2) (de_v C 1)) (dw_and (dt_cmp C (de_sl11 C (de_v C 0) (de_v C 2) (de_bin C (de_v C 2) de_int)) de_str) (dw_and1 (dt_cmp C (de_callK C c_run_end hr h_run_end (das_cons (de_v C 0) (das_cons (de_bin C (de_v C 2) de_int) (das_cons (g_LETTERS rfl rfl) das_nil)))) (de_bin C (de_v C 2) de_int)))))) (dss_cons (ds_ret (de_callK C c_run_end hr h_run_end (das_cons (de_v C 0) (das_cons (de_bin C (de_v C 2) de_int) (das_cons (g_LETTERS rfl rfl) das_nil)))))
    dss_nil) dss_nil)
    (dss_cons (ds_retV C 2)
    dss_nil)))
/-! ### row_tokens -/
abbrev s_row_tokens : Stmt := top 11
def v_row_tokens : VB := .cons (.par [1, 2, 0] (.cons (.lst (.nil)) (.cons (.k (.int 0)) (.cons (.ix (.me .split (.v 0) (.cons (.k (.str "#")) (.nil))) (.k (.int 0))) (.nil))))) (.cons (.whl (.cmp .Lt (.v 2) (.bi .len (.cons (.v 0) (.nil)))) (.cons (.par [3, 4] (.cons (.ix (.v 0) (.v 2)) (.cons (.bin .Add (.v 2) (.k (.int 1))) (.nil)))) (.cons (.ite (.cmp .In (.v 3) (.g 0)) (.cons (.set 4 (.call 2 (.cons (.v 0) (.cons (.v 2) (.nil))))) (.cons (.app 1 (.tup (.cons (.k (.str "word")) (.cons (.sl true true (.v 0) (.cons (.v 2) (.cons (.v 4) (.nil)))) (.cons (.v 2) (.nil)))))) (.nil))) (.cons (.ite (.cmp .In (.v 3) (.g 1)) (.cons (.set 4 (.call 1 (.cons (.v 0) (.cons (.v 2) (.cons (.g 1) (.nil)))))) (.cons (.app 1 (.tup (.cons (.k (.str "number")) (.cons (.bi .int (.cons (.sl true true (.v 0) (.cons (.v 2) (.cons (.v 4) (.nil)))) (.nil))) (.cons (.v 2) (.nil)))))) (.nil))) (.cons (.ite (.cmp .In (.v 3) (.k (.str "(),"))) (.cons (.app 1 (.tup (.cons (.k (.str "sign")) (.cons (.v 3) (.cons (.v 2) (.nil)))))) (.nil)) (.cons (.ite (.cmp .NotEq (.v 3) (.k (.str " "))) (.cons (.set 4 (.call 2 (.cons (.v 0) (.cons (.bin .Add (.v 2) (.k (.int 1))) (.nil))))) (.cons (.ite (.or (.cmp .NotEq (.v 3) (.k (.str "'"))) (.cmp .Eq (.v 4) (.bin .Add (.v 2) (.k (.int 1))))) (.cons (.ret (.tup (.cons (.v 1) (.cons (.v 2) (.nil))))) (.nil)) (.nil)) (.cons (.app 1 (.tup (.cons (.k (.str "quote")) (.cons (.sl true true (.v 0) (.cons (.bin .Add (.v 2) (.k (.int 1))) (.cons (.v 4) (.nil)))) (.cons (.v 2) (.nil)))))) (.nil)))) (.nil)) (.nil))) (.nil))) (.nil))) (.cons (.set 2 (.v 4)) (.nil))))) (.cons (.ret (.tup (.cons (.v 1) (.cons (.k .non) (.nil))))) (.nil)))
theorem sc_row_tokens : FnScope ["row", "found", "place", "sign", "end"] ["row"] (defScope s_row_tokens) := ⟨rfl, rfl, rfl, by decide +kernel, rfl, by decide +kernel, by decide +kernel⟩
theorem d_row_tokens {P : Program} {w : World} {K : PySem.W.Frag} {mg : Str → Option Value} {base : Heap} {g : Glo} {Γ : Gam g.G} {S : g.G} {F : Addr → Prop} {f : Addr} {cdv : Value} {A : Around} {outer : List Env} {s : Shared} {H : Hp} {E : XK} {k : Nat}
    (B : ∀ x ∈ blts, mg x = none) (k_LETTERS : ∃ t, mg "LETTERS" = some (.str "abcdefghijklmnopqrstuvwxyz" t)) (i_LETTERS : Γ.con 0 = .str "abcdefghijklmnopqrstuvwxyz") (k_FIGURES : ∃ t, mg "FIGURES" = some (.str "0123456789" t)) (i_FIGURES : Γ.con 1 = .str "0123456789") {j_word_end : Nat} (c_word_end : FnK P w K mg base g "word_end" j_word_end (Γ.ar 2) (Γ.fn 2)) (h_word_end : j_word_end ≤ k) {j_run_end : Nat} (c_run_end : FnK P w K mg base g "run_end" j_run_end (Γ.ar 1) (Γ.fn 1)) (h_run_end : j_run_end ≤ k)
    (hr : Room k (A.deeper (envOfC "row_tokens" (defScope s_row_tokens) s.heap.objs.size f cdv))) (C : Cok (cxOf (L2.CX P w) P w K mg base ["row", "found", "place", "sign", "end"] "row_tokens" (defScope s_row_tokens) f cdv A outer s H E) (bxE K g S H F ["row", "found", "place", "sign", "end"].length) E) :
    PSs (cxOf (L2.CX P w) P w K mg base ["row", "found", "place", "sign", "end"] "row_tokens" (defScope s_row_tokens) f cdv A outer s H E) (defBody s_row_tokens) (RdB (bxE K g S H F ["row", "found", "place", "sign", "end"].length) Γ E v_row_tokens) := by
  obtain ⟨t_LETTERS, k_LETTERS⟩ := k_LETTERS
  have g_LETTERS : ∀ {X : Cx} {pos : Pos} {Ev : XK}, X.mg = mg → Gl X "LETTERS" → PE X (.Name "LETTERS" pos) (RdE (bxE K g S H F ["row", "found", "place", "sign", "end"].length) Γ Ev (.g 0)) := fun e1 e2 => de_g (v := .str "abcdefghijklmnopqrstuvwxyz") (by rw [e1]; exact k_LETTERS) ⟨_, rfl⟩ (fun _ => by rw [i_LETTERS]; rfl) (by rw [i_LETTERS]; rfl) e2
  obtain ⟨t_FIGURES, k_FIGURES⟩ := k_FIGURES
  have g_FIGURES : ∀ {X : Cx} {pos : Pos} {Ev : XK}, X.mg = mg → Gl X "FIGURES" → PE X (.Name "FIGURES" pos) (RdE (bxE K g S H F ["row", "found", "place", "sign", "end"].length) Γ Ev (.g 1)) := fun e1 e2 => de_g (v := .str "0123456789") (by rw [e1]; exact k_FIGURES) ⟨_, rfl⟩ (fun _ => by rw [i_FIGURES]; rfl) (by rw [i_FIGURES]; rfl) e2
  exact (dss_cons (by first | exact ds_par3 C 1 2 0 (dps_cons (de_lst das_nil) (dps_cons de_int (dps_cons (de_ix C (de_me C .split rfl rfl PySem.F.slot_str_split PySem.F.type_str_split (de_v C 0) (das_cons de_str das_nil)) de_int) dps_nil))) | exact ds_parN C (dps_cons (de_lst das_nil) (dps_cons de_int (dps_cons (de_ix C (de_me C .split rfl rfl PySem.F.slot_str_split PySem.F.type_str_split (de_v C 0) (das_cons de_str das_nil)) de_int) dps_nil))) (pgn_cons C 1 (pgn_cons C 2 (pgn_cons C 0 pgn_nil))))
    (dss_cons (ds_whl (passes_of rfl) (dt_cmp C (de_v C 2) (de_biB C .len rfl (B "len" (by decide)) (das_cons (de_v C 0) das_nil))) (dss_cons (by first | exact ds_par2 C 3 4 (dps_cons (de_ix C (de_v C 0) (de_v C 2)) (dps_cons (de_bin C (de_v C 2) de_int) dps_nil)) | exact ds_parN C (dps_cons (de_ix C (de_v C 0) (de_v C 2)) (dps_cons (de_bin C (de_v C 2) de_int) dps_nil)) (pgn_cons C 3 (pgn_cons C 4 pgn_nil)))
    (dss_cons (ds_ite (dt_cmp C (de_v C 3) (g_LETTERS rfl rfl)) (dss_cons (ds_set C 4 (de_callK C c_word_end hr h_word_end (das_cons (de_v C 0) (das_cons (de_v C 2) das_nil))))
    (dss_cons (ds_app C 1 (de_tup (das_cons de_str (das_cons (de_sl11 C (de_v C 0) (de_v C 2) (de_v C 4)) (das_cons (de_v C 2) das_nil)))))
    dss_nil)) (dss_cons (ds_ite (dt_cmp C (de_v C 3) (g_FIGURES rfl rfl)) (dss_cons (ds_set C 4 (de_callK C c_run_end hr h_run_end (das_cons (de_v C 0) (das_cons (de_v C 2) (das_cons (g_FIGURES rfl rfl) das_nil)))))
    (dss_cons (ds_app C 1 (de_tup (das_cons de_str (das_cons (de_biT C .int rfl (B "int" (by decide)) (das_cons (de_sl11 C (de_v C 0) (de_v C 2) (de_v C 4)) das_nil)) (das_cons (de_v C 2) das_nil)))))
    dss_nil)) (dss_cons (ds_ite (dt_cmp C (de_v C 3) de_str) (dss_cons (ds_app C 1 (de_tup (das_cons de_str (das_cons (de_v C 3) (das_cons (de_v C 2) das_nil)))))
    dss_nil) (dss_cons (ds_ite (dt_cmp C (de_v C 3) de_str) (dss_cons (ds_set C 4 (de_callK C c_word_end hr h_word_end (das_cons (de_v C 0) (das_cons (de_bin C (de_v C 2) de_int) das_nil))))
    (dss_cons (ds_ite (dt_w (dw_or (dt_cmp C (de_v C 3) de_str) (dw_or1 (dt_cmp C (de_v C 4) (de_bin C (de_v C 2) de_int))))) (dss_cons (ds_ret (de_tup (das_cons (de_v C 1) (das_cons (de_v C 2) das_nil))))
    dss_nil) dss_nil)
    (dss_cons (ds_app C 1 (de_tup (das_cons de_str (das_cons (de_sl11 C (de_v C 0) (de_bin C (de_v C 2) de_int) (de_v C 4)) (das_cons (de_v C 2) das_nil)))))
    dss_nil))) dss_nil)
    dss_nil))
    dss_nil))
    dss_nil))
    (dss_cons (ds_set C 2 (de_v C 4))
    dss_nil))))
    (dss_cons (ds_ret (de_tup (das_cons (de_v C 1) (das_cons de_non das_nil))))
    dss_nil)))
/-! ### tokens -/
abbrev s_tokens : Stmt := top 12
def v_tokens : VB := .cons (.drop (.call 0 (.cons (.v 0) (.nil)))) (.cons (.set 1 (.lst (.nil))) (.cons (.loop (.enum (.me .split (.v 0) (.cons (.k (.str "\n")) (.nil)))) (.tp (.cons (.nm 2) (.cons (.nm 3) (.nil)))) (.cons (.setT (.tp (.cons (.nm 4) (.cons (.nm 5) (.nil)))) (.call 3 (.cons (.v 3) (.nil)))) (.cons (.ite (.cmp .IsNot (.v 5) (.k .non)) (.cons (.rai 2 (.tup (.cons (.v 2) (.cons (.v 5) (.nil))))) (.nil)) (.nil)) (.cons (.app 1 (.v 4)) (.nil))))) (.cons (.ret (.v 1)) (.nil))))
theorem sc_tokens : FnScope ["text", "found", "line", "row", "some", "bad"] ["text"] (defScope s_tokens) := ⟨rfl, rfl, rfl, by decide +kernel, rfl, by decide +kernel, by decide +kernel⟩
theorem d_tokens {P : Program} {w : World} {K : PySem.W.Frag} {mg : Str → Option Value} {base : Heap} {g : Glo} {Γ : Gam g.G} {S : g.G} {F : Addr → Prop} {f : Addr} {cdv : Value} {A : Around} {outer : List Env} {s : Shared} {H : Hp} {E : XK} {k : Nat}
    (B : ∀ x ∈ blts, mg x = none) {j_row_tokens : Nat} (c_row_tokens : FnK P w K mg base g "row_tokens" j_row_tokens (Γ.ar 3) (Γ.fn 3)) (h_row_tokens : j_row_tokens ≤ k) {j_check_text : Nat} (c_check_text : FnK P w K mg base g "check_text" j_check_text (Γ.ar 0) (Γ.fn 0)) (h_check_text : j_check_text ≤ k) {jx_Unread : Nat} (x_Unread : ExK P w K mg base "Unread" (Γ.cls 2).cls (Γ.cls 2).fld jx_Unread) (hx_Unread : jx_Unread + 1 ≤ k)
    (hr : Room k (A.deeper (envOfC "tokens" (defScope s_tokens) s.heap.objs.size f cdv))) (C : Cok (cxOf (L2.CX P w) P w K mg base ["text", "found", "line", "row", "some", "bad"] "tokens" (defScope s_tokens) f cdv A outer s H E) (bxE K g S H F ["text", "found", "line", "row", "some", "bad"].length) E) :
    PSs (cxOf (L2.CX P w) P w K mg base ["text", "found", "line", "row", "some", "bad"] "tokens" (defScope s_tokens) f cdv A outer s H E) (defBody s_tokens) (RdB (bxE K g S H F ["text", "found", "line", "row", "some", "bad"].length) Γ E v_tokens) := by
  exact (dss_cons (ds_drop (de_callK C c_check_text hr h_check_text (das_cons (de_v C 0) das_nil)))
    (dss_cons (ds_set C 1 (de_lst das_nil))
    (dss_cons (ds_loop C (passes_of rfl) (di_enum C (B "enumerate" (by decide)) (de_me C .split rfl rfl PySem.F.slot_str_split PySem.F.type_str_split (de_v C 0) (das_cons de_str das_nil))) (dg_tp C (dgs_cons (dg_nm C 2) (dgs_cons (dg_nm C 3) dgs_nil))) (dss_cons (ds_setT C (de_callK C c_row_tokens hr h_row_tokens (das_cons (de_v C 3) das_nil)) (dg_tp C (dgs_cons (dg_nm C 4) (dgs_cons (dg_nm C 5) dgs_nil))))
    (dss_cons (ds_ite (dt_cmp C (de_v C 5) de_non) (dss_cons (ds_rai C x_Unread (hr.mono hx_Unread) (de_tup (das_cons (de_v C 2) (das_cons (de_v C 5) das_nil))))
    dss_nil) dss_nil)
    (dss_cons (ds_app C 1 (de_v C 4))
    dss_nil))))
    (dss_cons (ds_retV C 1)
    dss_nil))))
/-! ### _law_stream -/
abbrev s__law_stream : Stmt := top 14
theorem sc__law_stream : FnScope ["script"] ["script"] (defScope s__law_stream) := ⟨rfl, rfl, rfl, by decide +kernel, rfl, by decide +kernel, by decide +kernel⟩
theorem d__law_stream {P : Program} {w : World} {K : PySem.W.Frag} {mg : Str → Option Value} {base : Heap} {f : Addr} {cdv : Value} {A : Around} {outer : List Env} {s : Shared} {H : Hp} {E : XK} (B : ∀ x ∈ blts, mg x = none) (hu : (A.deeper (envOfC "_law_stream" (defScope s__law_stream) s.heap.objs.size f cdv)).units + 64 < cLine) :
    PSs (cxOf (L2.CX P w) P w K mg base ["script"] "_law_stream" (defScope s__law_stream) f cdv A outer s H E) (defBody s__law_stream) (tStream K) := by
  have nd : (["script"] : List Str).Nodup := sc__law_stream.nd
  exact (pss_one (ps_ret (pe_lst (pa_cons (pe_callTy (r := dList K) call_list_of rfl (B "list" (by decide)) (by rfl) (pa_cons (pv 0) pa_nil)) (pa_cons pe_int (pa_cons pe_int (pa_cons pe_int pa_nil)))))))
/-! ### _law_draw -/
abbrev s__law_draw : Stmt := top 15
theorem sc__law_draw : FnScope ["stream", "many", "cell", "digit", "mixed"] ["stream", "many"] (defScope s__law_draw) := ⟨rfl, rfl, rfl, by decide +kernel, rfl, by decide +kernel, by decide +kernel⟩
theorem d__law_draw {P : Program} {w : World} {K : PySem.W.Frag} {mg : Str → Option Value} {base : Heap} {f : Addr} {cdv : Value} {A : Around} {outer : List Env} {s : Shared} {H : Hp} {E : XK} (B : ∀ x ∈ blts, mg x = none) (hu : (A.deeper (envOfC "_law_draw" (defScope s__law_draw) s.heap.objs.size f cdv)).units + 64 < cLine) :
    PSs (cxOf (L2.CX P w) P w K mg base ["stream", "many", "cell", "digit", "mixed"] "_law_draw" (defScope s__law_draw) f cdv A outer s H E) (defBody s__law_draw) (tDraw K) := by
  have nd : (["stream", "many", "cell", "digit", "mixed"] : List Str).Nodup := sc__law_draw.nd
  exact (pss_cons (ps_asg (pe_op op_add (pe_ix ix_seq (pv 0) pe_int (by intro o i; rfl)) pe_int) (pg_sub (pv 0) pe_int set_list))
    (pss_cons (ps_while (passes_of rfl) (pw_and (pt_cmpR op_eq (pe_ix ix_seq (pv 0) pe_int (by intro o i; rfl)) pe_int rfl) (pw_and1 (pt_cmpR (op_neD hu) (pe_ix ix_seq (pv 0) pe_int (by intro o i; rfl)) (pe_lst pa_nil) rfl))).pt
      (pss_cons (ps_set (i := 2) nd rfl (Or.inl rfl) (pe_callB (r := dAbs) call_abs rfl (B "abs" (by decide)) (by rfl) (pa_cons (pe_bm PySem.F.plainAttrs_list PySem.F.slot_list_pop PySem.F.type_list_pop mt_popAt (pe_ix ix_seq (pv 0) pe_int (by intro o i; rfl)) (pa_cons pe_int pa_nil)) pa_nil)))
      (pss_cons (ps_asg (pe_op op_mod (pe_callTy (r := dInt) call_int1 rfl (B "int" (by decide)) (by rfl) (pa_cons (pe_op op_add (pe_op op_add (pe_op op_mul (pe_ix ix_seq (pv 0) pe_int (by intro o i; rfl)) pe_int) (pv 2)) pe_int) pa_nil)) pe_int) (pg_sub (pv 0) pe_int set_list))
      (pss_one (ps_asg (pe_ifExp (pt_cmpR op_ge (pv 2) (pe_op op_pow pe_int pe_int) rfl) (pv 2) pe_int) (pg_sub (pv 0) pe_int set_list))))))
    (pss_cons (ps_if (pt_cmpR op_gt (pe_ix ix_seq (pv 0) pe_int (by intro o i; rfl)) pe_int rfl)
      (pss_cons (ps_set (i := 3) nd rfl (Or.inl rfl) (pe_op op_mod (pe_callTy (r := dInt) call_int1 rfl (B "int" (by decide)) (by rfl) (pa_cons (pe_ix ix_seq (pv 0) pe_int (by intro o i; rfl)) pa_nil)) (pv 1)))
      (pss_cons (ps_asg (pe_op op_fdivW (pe_ix ix_seq (pv 0) pe_int (by intro o i; rfl)) (pv 1)) (pg_sub (pv 0) pe_int set_list)) (pss_one (ps_ret (pv 3))))) pss_nil)
    (pss_cons (ps_set (i := 4) nd rfl (Or.inl rfl) (pe_op op_mod (pe_callTy (r := dInt) call_int1 rfl (B "int" (by decide)) (by rfl) (pa_cons (pe_op op_pow (pe_op op_add (pe_op op_add (pe_ix ix_seq (pv 0) pe_int (by intro o i; rfl)) (pe_op op_mul pe_int (pe_ix ix_seq (pv 0) pe_int (by intro o i; rfl)))) pe_int) pe_int) pa_nil)) pe_int))
    (pss_one (ps_ret (pe_op op_mod (pe_op op_mod (pe_callTy (r := dInt) call_int1 rfl (B "int" (by decide)) (by rfl) (pa_cons (pe_op op_pow (pe_op op_add (pe_op op_add (pe_op op_mul (pv 4) pe_int) (pe_op op_mul pe_int (pe_ix ix_seq (pv 0) pe_int (by intro o i; rfl)))) pe_int) pe_int) pa_nil)) pe_int) (pv 1))))))))
/-! ### _law_pick -/
abbrev s__law_pick : Stmt := top 16
def v__law_pick : VB := .cons (.ret (.ix (.v 1) (.call 6 (.cons (.v 0) (.cons (.bi .len (.cons (.v 1) (.nil))) (.nil)))))) (.nil)
theorem sc__law_pick : FnScope ["stream", "things"] ["stream", "things"] (defScope s__law_pick) := ⟨rfl, rfl, rfl, by decide +kernel, rfl, by decide +kernel, by decide +kernel⟩
theorem d__law_pick {P : Program} {w : World} {K : PySem.W.Frag} {mg : Str → Option Value} {base : Heap} {g : Glo} {Γ : Gam g.G} {S : g.G} {F : Addr → Prop} {f : Addr} {cdv : Value} {A : Around} {outer : List Env} {s : Shared} {H : Hp} {E : XK} {k : Nat}
    (B : ∀ x ∈ blts, mg x = none) {j__law_draw : Nat} (c__law_draw : FnK P w K mg base g "_law_draw" j__law_draw (Γ.ar 6) (Γ.fn 6)) (h__law_draw : j__law_draw ≤ k)
    (hr : Room k (A.deeper (envOfC "_law_pick" (defScope s__law_pick) s.heap.objs.size f cdv))) (C : Cok (cxOf (L2.CX P w) P w K mg base ["stream", "things"] "_law_pick" (defScope s__law_pick) f cdv A outer s H E) (bxE K g S H F ["stream", "things"].length) E) :
    PSs (cxOf (L2.CX P w) P w K mg base ["stream", "things"] "_law_pick" (defScope s__law_pick) f cdv A outer s H E) (defBody s__law_pick) (RdB (bxE K g S H F ["stream", "things"].length) Γ E v__law_pick) := by
  exact (dss_cons (ds_ret (de_ix C (de_v C 1) (de_callK C c__law_draw hr h__law_draw (das_cons (de_v C 0) (das_cons (de_biB C .len rfl (B "len" (by decide)) (das_cons (de_v C 1) das_nil)) das_nil)))))
    dss_nil)
/-! ### _law_copied -/
abbrev s__law_copied : Stmt := top 17
def v__law_copied : VB := .cons (.ite (.isi ["list", "tuple"] (.v 0)) (.cons (.set 1 (.comp (.seq (.v 0)) (.nm 2) [2] (.nil) (.call 8 (.cons (.v 2) (.nil))))) (.cons (.ret (.ife (.isi ["list"] (.v 0)) (.v 1) (.bi .tuple (.cons (.v 1) (.nil))))) (.nil))) (.nil)) (.cons (.ite (.isi ["dict"] (.v 0)) (.cons (.ret (.bi .dict (.cons (.comp (.seq (.v 0)) (.nm 3) [3] (.nil) (.tup (.cons (.v 3) (.cons (.call 8 (.cons (.ix (.v 0) (.v 3)) (.nil))) (.nil))))) (.nil)))) (.nil)) (.nil)) (.cons (.ret (.v 0)) (.nil)))
theorem sc__law_copied : FnScope ["thing", "some", "one", "key"] ["thing"] (defScope s__law_copied) := ⟨rfl, rfl, rfl, by decide +kernel, rfl, by decide +kernel, by decide +kernel⟩
theorem d__law_copied {P : Program} {w : World} {K : PySem.W.Frag} {mg : Str → Option Value} {base : Heap} {g : Glo} {Γ : Gam g.G} {S : g.G} {F : Addr → Prop} {f : Addr} {cdv : Value} {A : Around} {outer : List Env} {s : Shared} {H : Hp} {E : XK} {k : Nat}
    (B : ∀ x ∈ blts, mg x = none) {j__law_copied : Nat} (c__law_copied : FnK P w K mg base g "_law_copied" j__law_copied (Γ.ar 8) (Γ.fn 8)) (h__law_copied : j__law_copied ≤ k)
    (hr : Room k (A.deeper (envOfC "_law_copied" (defScope s__law_copied) s.heap.objs.size f cdv))) (C : Cok (cxOf (L2.CX P w) P w K mg base ["thing", "some", "one", "key"] "_law_copied" (defScope s__law_copied) f cdv A outer s H E) (bxE K g S H F ["thing", "some", "one", "key"].length) E) :
    PSs (cxOf (L2.CX P w) P w K mg base ["thing", "some", "one", "key"] "_law_copied" (defScope s__law_copied) f cdv A outer s H E) (defBody s__law_copied) (RdB (bxE K g S H F ["thing", "some", "one", "key"].length) Γ E v__law_copied) := by
  exact (dss_cons (ds_ite (dt_val C (de_isiT C (tys := ["list", "tuple"]) (B "isinstance" (by decide)) (de_v C 0) (pt_cons (B "list" (by decide)) (pt_cons (B "tuple" (by decide)) pt_nil)))) (dss_cons (by first | exact ds_set C 1 (de_comp C (own := [("one", 2)]) (di_seq C (de_v C 0)) (blkOk_by (show blkC ["thing", "some", "one", "key"] (defScope s__law_copied) _ _ = true by decide +kernel)) (fun _ _ _ _ _ C' => (dg_nm C' 2)) (fun _ _ _ _ _ C' => dc_nil) (fun _ _ _ _ _ C' => (de_callK C' c__law_copied hr h__law_copied (das_cons (de_v C' 2) das_nil)))) | exact ds_setLc C 1 (own := [("one", 2)]) (di_seq C (de_v C 0)) (blkOk_by (show blkC ["thing", "some", "one", "key"] (defScope s__law_copied) _ _ = true by decide +kernel)) (fun _ _ _ _ _ C' => (dg_nm C' 2)) (fun _ _ _ _ _ C' => dc_nil) (fun _ _ _ _ _ C' => (de_callK C' c__law_copied hr h__law_copied (das_cons (de_v C' 2) das_nil))))
    (dss_cons (ds_ret (de_ife (dt_val C (de_isi1 C (T := "list") (B "isinstance" (by decide)) (de_v C 0) (pt_cons (B "list" (by decide)) pt_nil))) (de_v C 1) (de_biT C .tuple rfl (B "tuple" (by decide)) (das_cons (de_v C 1) das_nil))))
    dss_nil)) dss_nil)
    (dss_cons (ds_ite (dt_val C (de_isi1 C (T := "dict") (B "isinstance" (by decide)) (de_v C 0) (pt_cons (B "dict" (by decide)) pt_nil))) (dss_cons (ds_ret (de_biT C .dict rfl (B "dict" (by decide)) (das_cons (de_comp C (own := [("key", 3)]) (di_seq C (de_v C 0)) (blkOk_by (show blkC ["thing", "some", "one", "key"] (defScope s__law_copied) _ _ = true by decide +kernel)) (fun _ _ _ _ _ C' => (dg_nm C' 3)) (fun _ _ _ _ _ C' => dc_nil) (fun _ _ _ _ _ C' => (de_tup (das_cons (de_v C' 3) (das_cons (de_callK C' c__law_copied hr h__law_copied (das_cons (de_ix C' (de_v C' 0) (de_v C' 3)) das_nil)) das_nil))))) das_nil)))
    dss_nil) dss_nil)
    (dss_cons (ds_retV C 0)
    dss_nil)))
/-! ### _law_same -/
abbrev s__law_same : Stmt := top 18
def v__law_same : VB := .cons (.ite (.isi ["list", "tuple"] (.v 1)) (.cons (.ite (.or (.cmp .NotEq (.isi ["list"] (.v 0)) (.isi ["list"] (.v 1))) (.cmp .NotEq (.isi ["tuple"] (.v 0)) (.isi ["tuple"] (.v 1)))) (.cons (.ret (.k (.bl false))) (.nil)) (.nil)) (.cons (.ret (.and (.cmp .Eq (.bi .len (.cons (.v 0) (.nil))) (.bi .len (.cons (.v 1) (.nil)))) (.bi .all (.cons (.comp (.zip (.v 0) (.v 1)) (.tp (.cons (.nm 2) (.cons (.nm 3) (.nil)))) [2, 3] (.nil) (.call 9 (.cons (.v 2) (.cons (.v 3) (.nil))))) (.nil))))) (.nil))) (.nil)) (.cons (.ite (.isi ["dict"] (.v 1)) (.cons (.ret (.and (.isi ["dict"] (.v 0)) (.call 9 (.cons (.its (.v 0)) (.cons (.its (.v 1)) (.nil)))))) (.nil)) (.nil)) (.cons (.ite (.or (.isi ["bool"] (.v 1)) (.isi ["bool"] (.v 0))) (.cons (.ret (.and (.isi ["bool"] (.v 1)) (.and (.isi ["bool"] (.v 0)) (.cmp .Eq (.v 0) (.v 1))))) (.nil)) (.nil)) (.cons (.ite (.or (.cmp .Is (.v 1) (.k .non)) (.cmp .Is (.v 0) (.k .non))) (.cons (.ret (.and (.cmp .Is (.v 1) (.k .non)) (.cmp .Is (.v 0) (.k .non)))) (.nil)) (.nil)) (.cons (.ite (.or (.cmp .NotEq (.isi ["int"] (.v 1)) (.isi ["int"] (.v 0))) (.cmp .NotEq (.isi ["str"] (.v 1)) (.isi ["str"] (.v 0)))) (.cons (.ret (.k (.bl false))) (.nil)) (.nil)) (.cons (.ret (.and (.not (.isi ["list", "tuple", "dict"] (.v 0))) (.cmp .Eq (.v 0) (.v 1)))) (.nil))))))
theorem sc__law_same : FnScope ["found", "due", "mine", "theirs"] ["found", "due"] (defScope s__law_same) := ⟨rfl, rfl, rfl, by decide +kernel, rfl, by decide +kernel, by decide +kernel⟩
theorem d__law_same {P : Program} {w : World} {K : PySem.W.Frag} {mg : Str → Option Value} {base : Heap} {g : Glo} {Γ : Gam g.G} {S : g.G} {F : Addr → Prop} {f : Addr} {cdv : Value} {A : Around} {outer : List Env} {s : Shared} {H : Hp} {E : XK} {k : Nat}
    (B : ∀ x ∈ blts, mg x = none) {j__law_same : Nat} (c__law_same : FnK P w K mg base g "_law_same" j__law_same (Γ.ar 9) (Γ.fn 9)) (h__law_same : j__law_same ≤ k)
    (hr : Room k (A.deeper (envOfC "_law_same" (defScope s__law_same) s.heap.objs.size f cdv))) (C : Cok (cxOf (L2.CX P w) P w K mg base ["found", "due", "mine", "theirs"] "_law_same" (defScope s__law_same) f cdv A outer s H E) (bxE K g S H F ["found", "due", "mine", "theirs"].length) E) :
    PSs (cxOf (L2.CX P w) P w K mg base ["found", "due", "mine", "theirs"] "_law_same" (defScope s__law_same) f cdv A outer s H E) (defBody s__law_same) (RdB (bxE K g S H F ["found", "due", "mine", "theirs"].length) Γ E v__law_same) := by
  exact (dss_cons (ds_ite (dt_val C (de_isiT C (tys := ["list", "tuple"]) (B "isinstance" (by decide)) (de_v C 1) (pt_cons (B "list" (by decide)) (pt_cons (B "tuple" (by decide)) pt_nil)))) (dss_cons (ds_ite (dt_w (dw_or (dt_cmp C (de_isi1 C (T := "list") (B "isinstance" (by decide)) (de_v C 0) (pt_cons (B "list" (by decide)) pt_nil)) (de_isi1 C (T := "list") (B "isinstance" (by decide)) (de_v C 1) (pt_cons (B "list" (by decide)) pt_nil))) (dw_or1 (dt_cmp C (de_isi1 C (T := "tuple") (B "isinstance" (by decide)) (de_v C 0) (pt_cons (B "tuple" (by decide)) pt_nil)) (de_isi1 C (T := "tuple") (B "isinstance" (by decide)) (de_v C 1) (pt_cons (B "tuple" (by decide)) pt_nil)))))) (dss_cons (ds_ret de_bl)
    dss_nil) dss_nil)
    (dss_cons (ds_ret (de_and C (de_cmp C (de_biB C .len rfl (B "len" (by decide)) (das_cons (de_v C 0) das_nil)) (de_biB C .len rfl (B "len" (by decide)) (das_cons (de_v C 1) das_nil))) (de_one (de_biB C .all rfl (B "all" (by decide)) (das_cons (de_comp C (own := [("mine", 2), ("theirs", 3)]) (di_zip C (B "zip" (by decide)) (de_v C 0) (de_v C 1)) (blkOk_by (show blkC ["found", "due", "mine", "theirs"] (defScope s__law_same) _ _ = true by decide +kernel)) (fun _ _ _ _ _ C' => (dg_tp C' (dgs_cons (dg_nm C' 2) (dgs_cons (dg_nm C' 3) dgs_nil)))) (fun _ _ _ _ _ C' => dc_nil) (fun _ _ _ _ _ C' => (de_callK C' c__law_same hr h__law_same (das_cons (de_v C' 2) (das_cons (de_v C' 3) das_nil))))) das_nil)))))
    dss_nil)) dss_nil)
    (dss_cons (ds_ite (dt_val C (de_isi1 C (T := "dict") (B "isinstance" (by decide)) (de_v C 1) (pt_cons (B "dict" (by decide)) pt_nil))) (dss_cons (ds_ret (de_and C (de_isi1 C (T := "dict") (B "isinstance" (by decide)) (de_v C 0) (pt_cons (B "dict" (by decide)) pt_nil)) (de_one (de_callK C c__law_same hr h__law_same (das_cons (de_its C (B "list" (by decide)) (de_v C 0)) (das_cons (de_its C (B "list" (by decide)) (de_v C 1)) das_nil))))))
    dss_nil) dss_nil)
    (dss_cons (ds_ite (dt_w (dw_or (dt_val C (de_isi1 C (T := "bool") (B "isinstance" (by decide)) (de_v C 1) (pt_cons (B "bool" (by decide)) pt_nil))) (dw_or1 (dt_val C (de_isi1 C (T := "bool") (B "isinstance" (by decide)) (de_v C 0) (pt_cons (B "bool" (by decide)) pt_nil)))))) (dss_cons (ds_ret (de_and C (de_isi1 C (T := "bool") (B "isinstance" (by decide)) (de_v C 1) (pt_cons (B "bool" (by decide)) pt_nil)) (de_and C (de_isi1 C (T := "bool") (B "isinstance" (by decide)) (de_v C 0) (pt_cons (B "bool" (by decide)) pt_nil)) (de_one (de_cmp C (de_v C 0) (de_v C 1))))))
    dss_nil) dss_nil)
    (dss_cons (ds_ite (dt_w (dw_or (dt_cmp C (de_v C 1) de_non) (dw_or1 (dt_cmp C (de_v C 0) de_non)))) (dss_cons (ds_ret (de_and C (de_cmp C (de_v C 1) de_non) (de_one (de_cmp C (de_v C 0) de_non))))
    dss_nil) dss_nil)
    (dss_cons (ds_ite (dt_w (dw_or (dt_cmp C (de_isi1 C (T := "int") (B "isinstance" (by decide)) (de_v C 1) (pt_cons (B "int" (by decide)) pt_nil)) (de_isi1 C (T := "int") (B "isinstance" (by decide)) (de_v C 0) (pt_cons (B "int" (by decide)) pt_nil))) (dw_or1 (dt_cmp C (de_isi1 C (T := "str") (B "isinstance" (by decide)) (de_v C 1) (pt_cons (B "str" (by decide)) pt_nil)) (de_isi1 C (T := "str") (B "isinstance" (by decide)) (de_v C 0) (pt_cons (B "str" (by decide)) pt_nil)))))) (dss_cons (ds_ret de_bl)
    dss_nil) dss_nil)
    (dss_cons (ds_ret (de_and C (de_not C (de_isiT C (tys := ["list", "tuple", "dict"]) (B "isinstance" (by decide)) (de_v C 0) (pt_cons (B "list" (by decide)) (pt_cons (B "tuple" (by decide)) (pt_cons (B "dict" (by decide)) pt_nil))))) (de_one (de_cmp C (de_v C 0) (de_v C 1)))))
    dss_nil))))))
/-! ### _law_spoilt -/
abbrev s__law_spoilt : Stmt := top 19
theorem sc__law_spoilt : FnScope ["thing", "key", "part"] ["thing"] (defScope s__law_spoilt) := ⟨rfl, rfl, rfl, by decide +kernel, rfl, by decide +kernel, by decide +kernel⟩
theorem d__law_spoilt {P : Program} {w : World} {K : PySem.W.Frag} {mg : Str → Option Value} {base : Heap} {f : Addr} {cdv : Value} {A : Around} {outer : List Env} {s : Shared} {H : Hp} {E : XK} {k j : Nat} {sp : Sp} {b : Bx} (B : ∀ x ∈ blts, mg x = none) (c_s : SpoK P w K mg base "_law_spoilt" j sp) (hj : j ≤ k)
    (hr : Room k (A.deeper (envOfC "_law_spoilt" (defScope s__law_spoilt) s.heap.objs.size f cdv))) (C : Cok (cxOf (L2.CX P w) P w K mg base ["thing", "key", "part"] "_law_spoilt" (defScope s__law_spoilt) f cdv A outer s H E) b E) :
    PSs (cxOf (L2.CX P w) P w K mg base ["thing", "key", "part"] "_law_spoilt" (defScope s__law_spoilt) f cdv A outer s H E) (defBody s__law_spoilt) (tSpoilt K sp E) := by
  have nd : (["thing", "key", "part"] : List Str).Nodup := sc__law_spoilt.nd
  exact (pss_cons (ps_if (pt_truth (pe_isiV (B "isinstance" (by decide)) (pv 0) (pt_cons (B "dict" (by decide)) pt_nil)) (by intro _; rfl)) ⟨fun _ _ _ _ _ _ h => h.elim⟩ pss_nil)
    (pss_cons (ps_if (pt_truth (pe_isiVT (B "isinstance" (by decide)) (pv 0) (pt_cons (B "list" (by decide)) (pt_cons (B "tuple" (by decide)) pt_nil))) (by intro _; rfl))
      (pss_cons (ps_for (passes_of rfl) rfl (pi_any (pv 0)) (pg_name nd rfl (Or.inl rfl)) (pss_cons (ps_expr (pe_spo (fun σ => passAt C.tk σ) c_s hr hj (pv 2))) pss_nil)) pss_nil) pss_nil)
    (pss_cons (ps_if (pt_truth (pe_isiV (B "isinstance" (by decide)) (pv 0) (pt_cons (B "list" (by decide)) pt_nil)) (by intro _; rfl))
      (pss_cons (ws (ps_expr (pe_bm PySem.F.plainAttrs_list PySem.F.slot_list_append PySem.F.type_list_append mt_append (pv 0) (pa_cons pe_str pa_nil))) fun h => h) pss_nil) pss_nil) pss_nil)))
/-! ### _law_span -/
abbrev s__law_span : Stmt := top 20
def v__law_span : VB := .cons (.set 3 (.k (.int 0))) (.cons (.loop (.seq (.sl true false (.v 0) (.cons (.v 1) (.nil)))) (.nm 4) (.cons (.ite (.cmp .NotIn (.v 4) (.v 2)) (.cons (.ret (.v 3)) (.nil)) (.nil)) (.cons (.set 3 (.bin .Add (.v 3) (.k (.int 1)))) (.nil)))) (.cons (.ret (.v 3)) (.nil)))
theorem sc__law_span : FnScope ["row", "place", "signs", "found", "sign"] ["row", "place", "signs"] (defScope s__law_span) := ⟨rfl, rfl, rfl, by decide +kernel, rfl, by decide +kernel, by decide +kernel⟩
theorem d__law_span {P : Program} {w : World} {K : PySem.W.Frag} {mg : Str → Option Value} {base : Heap} {g : Glo} {Γ : Gam g.G} {S : g.G} {F : Addr → Prop} {f : Addr} {cdv : Value} {A : Around} {outer : List Env} {s : Shared} {H : Hp} {E : XK} {k : Nat}
    (B : ∀ x ∈ blts, mg x = none)
    (hr : Room k (A.deeper (envOfC "_law_span" (defScope s__law_span) s.heap.objs.size f cdv))) (C : Cok (cxOf (L2.CX P w) P w K mg base ["row", "place", "signs", "found", "sign"] "_law_span" (defScope s__law_span) f cdv A outer s H E) (bxE K g S H F ["row", "place", "signs", "found", "sign"].length) E) :
    PSs (cxOf (L2.CX P w) P w K mg base ["row", "place", "signs", "found", "sign"] "_law_span" (defScope s__law_span) f cdv A outer s H E) (defBody s__law_span) (RdB (bxE K g S H F ["row", "place", "signs", "found", "sign"].length) Γ E v__law_span) := by
  exact (dss_cons (ds_set C 3 de_int)
    (dss_cons (ds_loop C (passes_of rfl) (di_seq C (de_sl10 C (de_v C 0) (de_v C 1))) (dg_nm C 4) (dss_cons (ds_ite (dt_cmp C (de_v C 4) (de_v C 2)) (dss_cons (ds_retV C 3)
    dss_nil) dss_nil)
    (dss_cons (ds_set C 3 (de_bin C (de_v C 3) de_int))
    dss_nil)))
    (dss_cons (ds_retV C 3)
    dss_nil)))
/-! ### _law_word_span -/
abbrev s__law_word_span : Stmt := top 21
def v__law_word_span : VB := .cons (.set 2 (.k (.str "abcdefghijklmnopqrstuvwxyz"))) (.cons (.set 3 (.call 11 (.cons (.v 0) (.cons (.v 1) (.cons (.v 2) (.nil)))))) (.cons (.set 4 (.ife (.and (.cmp .Gt (.v 3) (.k (.int 0))) (.cmp .Eq (.sl true true (.v 0) (.cons (.bin .Add (.v 1) (.v 3)) (.cons (.bin .Add (.bin .Add (.v 1) (.v 3)) (.k (.int 1))) (.nil)))) (.k (.str "_")))) (.call 11 (.cons (.v 0) (.cons (.bin .Add (.bin .Add (.v 1) (.v 3)) (.k (.int 1))) (.cons (.v 2) (.nil))))) (.k (.int 0)))) (.cons (.ret (.ife (.cmp .Gt (.v 4) (.k (.int 0))) (.bin .Add (.bin .Add (.v 3) (.k (.int 1))) (.v 4)) (.v 3))) (.nil))))
theorem sc__law_word_span : FnScope ["row", "place", "signs", "word", "more"] ["row", "place"] (defScope s__law_word_span) := ⟨rfl, rfl, rfl, by decide +kernel, rfl, by decide +kernel, by decide +kernel⟩
theorem d__law_word_span {P : Program} {w : World} {K : PySem.W.Frag} {mg : Str → Option Value} {base : Heap} {g : Glo} {Γ : Gam g.G} {S : g.G} {F : Addr → Prop} {f : Addr} {cdv : Value} {A : Around} {outer : List Env} {s : Shared} {H : Hp} {E : XK} {k : Nat}
    (B : ∀ x ∈ blts, mg x = none) {j__law_span : Nat} (c__law_span : FnK P w K mg base g "_law_span" j__law_span (Γ.ar 11) (Γ.fn 11)) (h__law_span : j__law_span ≤ k)
    (hr : Room k (A.deeper (envOfC "_law_word_span" (defScope s__law_word_span) s.heap.objs.size f cdv))) (C : Cok (cxOf (L2.CX P w) P w K mg base ["row", "place", "signs", "word", "more"] "_law_word_span" (defScope s__law_word_span) f cdv A outer s H E) (bxE K g S H F ["row", "place", "signs", "word", "more"].length) E) :
    PSs (cxOf (L2.CX P w) P w K mg base ["row", "place", "signs", "word", "more"] "_law_word_span" (defScope s__law_word_span) f cdv A outer s H E) (defBody s__law_word_span) (RdB (bxE K g S H F ["row", "place", "signs", "word", "more"].length) Γ E v__law_word_span) := by
  exact (dss_cons (ds_set C 2 de_str)
    (dss_cons (ds_set C 3 (de_callK C c__law_span hr h__law_span (das_cons (de_v C 0) (das_cons (de_v C 1) (das_cons (de_v C 2) das_nil)))))
    (dss_cons (ds_set C 4 (de_ife (dt_w (dw_and (dt_cmp C (de_v C 3) de_int) (dw_and1 (dt_cmp C (de_sl11 C (de_v C 0) (de_bin C (de_v C 1) (de_v C 3)) (de_bin C (de_bin C (de_v C 1) (de_v C 3)) de_int)) de_str)))) (de_callK C c__law_span hr h__law_span (das_cons (de_v C 0) (das_cons (de_bin C (de_bin C (de_v C 1) (de_v C 3)) de_int) (das_cons (de_v C 2) das_nil)))) de_int))
    (dss_cons (ds_ret (de_ife (dt_cmp C (de_v C 4) de_int) (de_bin C (de_bin C (de_v C 3) de_int) (de_v C 4)) (de_v C 3)))
    dss_nil))))
/-! ### _law_row_tokens -/
abbrev s__law_row_tokens : Stmt := top 22
def v__law_row_tokens : VB := .cons (.par [0, 1, 2] (.cons (.ife (.cmp .In (.k (.str "#")) (.v 0)) (.sl false true (.v 0) (.cons (.me .index (.v 0) (.cons (.k (.str "#")) (.nil))) (.nil))) (.v 0)) (.cons (.lst (.nil)) (.cons (.k (.int 0)) (.nil))))) (.cons (.loop (.enum (.v 0)) (.tp (.cons (.nm 3) (.cons (.nm 4) (.nil)))) (.cons (.par [5, 6] (.cons (.call 12 (.cons (.v 0) (.cons (.v 3) (.nil)))) (.cons (.call 11 (.cons (.v 0) (.cons (.v 3) (.cons (.k (.str "0123456789")) (.nil))))) (.nil)))) (.cons (.set 7 (.ife (.cmp .Eq (.v 4) (.k (.str "'"))) (.call 12 (.cons (.v 0) (.cons (.bin .Add (.v 3) (.k (.int 1))) (.nil)))) (.k (.int 0)))) (.cons (.ite (.cmp .Gt (.v 2) (.k (.int 0))) (.cons (.set 2 (.bin .Sub (.v 2) (.k (.int 1)))) (.nil)) (.cons (.ite (.cmp .Gt (.v 5) (.k (.int 0))) (.cons (.app 1 (.tup (.cons (.k (.str "word")) (.cons (.sl true true (.v 0) (.cons (.v 3) (.cons (.bin .Add (.v 3) (.v 5)) (.nil)))) (.cons (.v 3) (.nil)))))) (.cons (.set 2 (.bin .Sub (.v 5) (.k (.int 1)))) (.nil))) (.cons (.ite (.cmp .Gt (.v 6) (.k (.int 0))) (.cons (.app 1 (.tup (.cons (.k (.str "number")) (.cons (.bi .int (.cons (.sl true true (.v 0) (.cons (.v 3) (.cons (.bin .Add (.v 3) (.v 6)) (.nil)))) (.nil))) (.cons (.v 3) (.nil)))))) (.cons (.set 2 (.bin .Sub (.v 6) (.k (.int 1)))) (.nil))) (.cons (.ite (.cmp .Gt (.v 7) (.k (.int 0))) (.cons (.app 1 (.tup (.cons (.k (.str "quote")) (.cons (.sl true true (.v 0) (.cons (.bin .Add (.v 3) (.k (.int 1))) (.cons (.bin .Add (.bin .Add (.v 3) (.k (.int 1))) (.v 7)) (.nil)))) (.cons (.v 3) (.nil)))))) (.cons (.set 2 (.v 7)) (.nil))) (.cons (.ite (.cmp .In (.v 4) (.k (.str "(),"))) (.cons (.app 1 (.tup (.cons (.k (.str "sign")) (.cons (.v 4) (.cons (.v 3) (.nil)))))) (.nil)) (.cons (.ite (.cmp .NotEq (.v 4) (.k (.str " "))) (.cons (.ret (.tup (.cons (.v 1) (.cons (.v 3) (.nil))))) (.nil)) (.nil)) (.nil))) (.nil))) (.nil))) (.nil))) (.nil))) (.nil))))) (.cons (.ret (.tup (.cons (.v 1) (.cons (.k .non) (.nil))))) (.nil)))
theorem sc__law_row_tokens : FnScope ["row", "found", "skip", "place", "sign", "word", "figures", "quoted"] ["row"] (defScope s__law_row_tokens) := ⟨rfl, rfl, rfl, by decide +kernel, rfl, by decide +kernel, by decide +kernel⟩
theorem d__law_row_tokens {P : Program} {w : World} {K : PySem.W.Frag} {mg : Str → Option Value} {base : Heap} {g : Glo} {Γ : Gam g.G} {S : g.G} {F : Addr → Prop} {f : Addr} {cdv : Value} {A : Around} {outer : List Env} {s : Shared} {H : Hp} {E : XK} {k : Nat}
    (B : ∀ x ∈ blts, mg x = none) {j__law_word_span : Nat} (c__law_word_span : FnK P w K mg base g "_law_word_span" j__law_word_span (Γ.ar 12) (Γ.fn 12)) (h__law_word_span : j__law_word_span ≤ k) {j__law_span : Nat} (c__law_span : FnK P w K mg base g "_law_span" j__law_span (Γ.ar 11) (Γ.fn 11)) (h__law_span : j__law_span ≤ k)
    (hr : Room k (A.deeper (envOfC "_law_row_tokens" (defScope s__law_row_tokens) s.heap.objs.size f cdv))) (C : Cok (cxOf (L2.CX P w) P w K mg base ["row", "found", "skip", "place", "sign", "word", "figures", "quoted"] "_law_row_tokens" (defScope s__law_row_tokens) f cdv A outer s H E) (bxE K g S H F ["row", "found", "skip", "place", "sign", "word", "figures", "quoted"].length) E) :
    PSs (cxOf (L2.CX P w) P w K mg base ["row", "found", "skip", "place", "sign", "word", "figures", "quoted"] "_law_row_tokens" (defScope s__law_row_tokens) f cdv A outer s H E) (defBody s__law_row_tokens) (RdB (bxE K g S H F ["row", "found", "skip", "place", "sign", "word", "figures", "quoted"].length) Γ E v__law_row_tokens) := by
  exact (dss_cons (by first | exact ds_par3 C 0 1 2 (dps_cons (de_ife (dt_cmp C de_str (de_v C 0)) (de_sl01 C (de_v C 0) (de_me C .index rfl rfl PySem.F.slot_str_index PySem.F.type_str_index (de_v C 0) (das_cons de_str das_nil))) (de_v C 0)) (dps_cons (de_lst das_nil) (dps_cons de_int dps_nil))) | exact ds_parN C (dps_cons (de_ife (dt_cmp C de_str (de_v C 0)) (de_sl01 C (de_v C 0) (de_me C .index rfl rfl PySem.F.slot_str_index PySem.F.type_str_index (de_v C 0) (das_cons de_str das_nil))) (de_v C 0)) (dps_cons (de_lst das_nil) (dps_cons de_int dps_nil))) (pgn_cons C 0 (pgn_cons C 1 (pgn_cons C 2 pgn_nil))))
    (dss_cons (ds_loop C (passes_of rfl) (di_enum C (B "enumerate" (by decide)) (de_v C 0)) (dg_tp C (dgs_cons (dg_nm C 3) (dgs_cons (dg_nm C 4) dgs_nil))) (dss_cons (by first | exact ds_par2 C 5 6 (dps_cons (de_callK C c__law_word_span hr h__law_word_span (das_cons (de_v C 0) (das_cons (de_v C 3) das_nil))) (dps_cons (de_callK C c__law_span hr h__law_span (das_cons (de_v C 0) (das_cons (de_v C 3) (das_cons de_str das_nil)))) dps_nil)) | exact ds_parN C (dps_cons (de_callK C c__law_word_span hr h__law_word_span (das_cons (de_v C 0) (das_cons (de_v C 3) das_nil))) (dps_cons (de_callK C c__law_span hr h__law_span (das_cons (de_v C 0) (das_cons (de_v C 3) (das_cons de_str das_nil)))) dps_nil)) (pgn_cons C 5 (pgn_cons C 6 pgn_nil)))
    (dss_cons (ds_set C 7 (de_ife (dt_cmp C (de_v C 4) de_str) (de_callK C c__law_word_span hr h__law_word_span (das_cons (de_v C 0) (das_cons (de_bin C (de_v C 3) de_int) das_nil))) de_int))
    (dss_cons (ds_ite (dt_cmp C (de_v C 2) de_int) (dss_cons (ds_set C 2 (de_bin C (de_v C 2) de_int))
    dss_nil) (dss_cons (ds_ite (dt_cmp C (de_v C 5) de_int) (dss_cons (ds_app C 1 (de_tup (das_cons de_str (das_cons (de_sl11 C (de_v C 0) (de_v C 3) (de_bin C (de_v C 3) (de_v C 5))) (das_cons (de_v C 3) das_nil)))))
    (dss_cons (ds_set C 2 (de_bin C (de_v C 5) de_int))
    dss_nil)) (dss_cons (ds_ite (dt_cmp C (de_v C 6) de_int) (dss_cons (ds_app C 1 (de_tup (das_cons de_str (das_cons (de_biT C .int rfl (B "int" (by decide)) (das_cons (de_sl11 C (de_v C 0) (de_v C 3) (de_bin C (de_v C 3) (de_v C 6))) das_nil)) (das_cons (de_v C 3) das_nil)))))
    (dss_cons (ds_set C 2 (de_bin C (de_v C 6) de_int))
    dss_nil)) (dss_cons (ds_ite (dt_cmp C (de_v C 7) de_int) (dss_cons (ds_app C 1 (de_tup (das_cons de_str (das_cons (de_sl11 C (de_v C 0) (de_bin C (de_v C 3) de_int) (de_bin C (de_bin C (de_v C 3) de_int) (de_v C 7))) (das_cons (de_v C 3) das_nil)))))
    (dss_cons (ds_set C 2 (de_v C 7))
    dss_nil)) (dss_cons (ds_ite (dt_cmp C (de_v C 4) de_str) (dss_cons (ds_app C 1 (de_tup (das_cons de_str (das_cons (de_v C 4) (das_cons (de_v C 3) das_nil)))))
    dss_nil) (dss_cons (ds_ite (dt_cmp C (de_v C 4) de_str) (dss_cons (ds_ret (de_tup (das_cons (de_v C 1) (das_cons (de_v C 3) das_nil))))
    dss_nil) dss_nil)
    dss_nil))
    dss_nil))
    dss_nil))
    dss_nil))
    dss_nil))
    dss_nil))))
    (dss_cons (ds_ret (de_tup (das_cons (de_v C 1) (das_cons de_non das_nil))))
    dss_nil)))
/-! ### _law_drawn_row -/
abbrev s__law_drawn_row : Stmt := top 23
def v__law_drawn_row : VB := .cons (.par [1, 2] (.cons (.k (.str "")) (.cons (.lst (.cons (.k (.str "agent")) (.cons (.k (.str "say")) (.cons (.k (.str "a")) (.cons (.k (.str "zz")) (.cons (.k (.str "'a")) (.cons (.k (.str "'")) (.cons (.k (.str "''b")) (.cons (.k (.str "proved")) (.cons (.k (.str "a_b")) (.cons (.k (.str "fair_mean")) (.cons (.k (.str "abcdefgh")) (.cons (.k (.str "0")) (.cons (.k (.str "7")) (.cons (.k (.str "0012")) (.cons (.k (.str "345678901234")) (.nil))))))))))))))))) (.nil)))) (.cons (.loop (.rng1 (.call 6 (.cons (.v 0) (.cons (.k (.int 10)) (.nil))))) (.nm 3) (.cons (.set 4 (.call 7 (.cons (.v 0) (.cons (.bin .Add (.bin .Add (.v 2) (.bi .list (.cons (.k (.str "(),")) (.nil)))) (.lst (.cons (.k (.str " ")) (.cons (.k (.str "  ")) (.cons (.k (.str " ")) (.cons (.k (.str " ")) (.nil))))))) (.nil))))) (.cons (.set 5 (.bin .Sub (.bi .len (.cons (.v 1) (.nil))) (.bi .len (.cons (.me .rstrip (.v 1) (.cons (.k (.str "0123456789")) (.nil))) (.nil))))) (.cons (.set 1 (.bin .Add (.v 1) (.ife (.and (.me .isdigit (.v 4) (.nil)) (.cmp .Gt (.bin .Add (.v 5) (.bi .len (.cons (.v 4) (.nil)))) (.k (.int 30)))) (.bin .Add (.k (.str " ")) (.v 4)) (.v 4)))) (.nil))))) (.cons (.ite (.cmp .Eq (.call 6 (.cons (.v 0) (.cons (.k (.int 5)) (.nil)))) (.k (.int 0))) (.cons (.set 6 (.call 6 (.cons (.v 0) (.cons (.bin .Add (.bi .len (.cons (.v 1) (.nil))) (.k (.int 1))) (.nil))))) (.cons (.set 7 (.call 7 (.cons (.v 0) (.cons (.bin .Add (.bi .list (.cons (.k (.str "@-:A_+;{}~Z.[]")) (.nil))) (.lst (.cons (.k (.str "\t")) (.cons (.k (.str "'")) (.cons (.k (.str "'1 ")) (.cons (.k (.str "a1 ")) (.cons (.k (.str "'a_b")) (.cons (.k (.str "_")) (.cons (.k (.str "_a")) (.nil)))))))))) (.nil))))) (.cons (.set 1 (.bin .Add (.bin .Add (.sl false true (.v 1) (.cons (.v 6) (.nil))) (.v 7)) (.sl true false (.v 1) (.cons (.v 6) (.nil))))) (.nil)))) (.nil)) (.cons (.ret (.bin .Add (.v 1) (.ife (.cmp .Eq (.call 6 (.cons (.v 0) (.cons (.k (.int 4)) (.nil)))) (.k (.int 0))) (.call 7 (.cons (.v 0) (.cons (.lst (.cons (.k (.str "# no @ sign ' 12")) (.cons (.k (.str "#")) (.cons (.k (.str "#a#b")) (.nil))))) (.nil)))) (.k (.str ""))))) (.nil))))
theorem sc__law_drawn_row : FnScope ["stream", "found", "some", "turn", "piece", "tail", "at", "odd"] ["stream"] (defScope s__law_drawn_row) := ⟨rfl, rfl, rfl, by decide +kernel, rfl, by decide +kernel, by decide +kernel⟩
theorem d__law_drawn_row {P : Program} {w : World} {K : PySem.W.Frag} {mg : Str → Option Value} {base : Heap} {g : Glo} {Γ : Gam g.G} {S : g.G} {F : Addr → Prop} {f : Addr} {cdv : Value} {A : Around} {outer : List Env} {s : Shared} {H : Hp} {E : XK} {k : Nat}
    (B : ∀ x ∈ blts, mg x = none) {j__law_draw : Nat} (c__law_draw : FnK P w K mg base g "_law_draw" j__law_draw (Γ.ar 6) (Γ.fn 6)) (h__law_draw : j__law_draw ≤ k) {j__law_pick : Nat} (c__law_pick : FnK P w K mg base g "_law_pick" j__law_pick (Γ.ar 7) (Γ.fn 7)) (h__law_pick : j__law_pick ≤ k)
    (hr : Room k (A.deeper (envOfC "_law_drawn_row" (defScope s__law_drawn_row) s.heap.objs.size f cdv))) (C : Cok (cxOf (L2.CX P w) P w K mg base ["stream", "found", "some", "turn", "piece", "tail", "at", "odd"] "_law_drawn_row" (defScope s__law_drawn_row) f cdv A outer s H E) (bxE K g S H F ["stream", "found", "some", "turn", "piece", "tail", "at", "odd"].length) E) :
    PSs (cxOf (L2.CX P w) P w K mg base ["stream", "found", "some", "turn", "piece", "tail", "at", "odd"] "_law_drawn_row" (defScope s__law_drawn_row) f cdv A outer s H E) (defBody s__law_drawn_row) (RdB (bxE K g S H F ["stream", "found", "some", "turn", "piece", "tail", "at", "odd"].length) Γ E v__law_drawn_row) := by
  exact (dss_cons (by first | exact ds_par2 C 1 2 (dps_cons de_str (dps_cons (de_lst (das_cons de_str (das_cons de_str (das_cons de_str (das_cons de_str (das_cons de_str (das_cons de_str (das_cons de_str (das_cons de_str (das_cons de_str (das_cons de_str (das_cons de_str (das_cons de_str (das_cons de_str (das_cons de_str (das_cons de_str das_nil)))))))))))))))) dps_nil)) | exact ds_parN C (dps_cons de_str (dps_cons (de_lst (das_cons de_str (das_cons de_str (das_cons de_str (das_cons de_str (das_cons de_str (das_cons de_str (das_cons de_str (das_cons de_str (das_cons de_str (das_cons de_str (das_cons de_str (das_cons de_str (das_cons de_str (das_cons de_str (das_cons de_str das_nil)))))))))))))))) dps_nil)) (pgn_cons C 1 (pgn_cons C 2 pgn_nil)))
    (dss_cons (ds_loop C (passes_of rfl) (di_rng1 (B "range" (by decide)) (de_callK C c__law_draw hr h__law_draw (das_cons (de_v C 0) (das_cons de_int das_nil)))) (dg_nm C 3) (dss_cons (ds_set C 4 (de_callK C c__law_pick hr h__law_pick (das_cons (de_v C 0) (das_cons (de_bin C (de_bin C (de_v C 2) (de_biT C .list rfl (B "list" (by decide)) (das_cons de_str das_nil))) (de_lst (das_cons de_str (das_cons de_str (das_cons de_str (das_cons de_str das_nil)))))) das_nil))))
    (dss_cons (ds_set C 5 (de_bin C (de_biB C .len rfl (B "len" (by decide)) (das_cons (de_v C 1) das_nil)) (de_biB C .len rfl (B "len" (by decide)) (das_cons (de_me C .rstrip rfl rfl PySem.F.slot_str_rstrip PySem.F.type_str_rstrip (de_v C 1) (das_cons de_str das_nil)) das_nil))))
    (dss_cons (ds_set C 1 (de_bin C (de_v C 1) (de_ife (dt_w (dw_and (dt_val C (de_me0 C .isdigit rfl rfl PySem.F.slot_str_isdigit PySem.F.type_str_isdigit (de_v C 4))) (dw_and1 (dt_cmp C (de_bin C (de_v C 5) (de_biB C .len rfl (B "len" (by decide)) (das_cons (de_v C 4) das_nil))) de_int)))) (de_bin C de_str (de_v C 4)) (de_v C 4))))
    dss_nil))))
    (dss_cons (ds_ite (dt_cmp C (de_callK C c__law_draw hr h__law_draw (das_cons (de_v C 0) (das_cons de_int das_nil))) de_int) (dss_cons (ds_set C 6 (de_callK C c__law_draw hr h__law_draw (das_cons (de_v C 0) (das_cons (de_bin C (de_biB C .len rfl (B "len" (by decide)) (das_cons (de_v C 1) das_nil)) de_int) das_nil))))
    (dss_cons (ds_set C 7 (de_callK C c__law_pick hr h__law_pick (das_cons (de_v C 0) (das_cons (de_bin C (de_biT C .list rfl (B "list" (by decide)) (das_cons de_str das_nil)) (de_lst (das_cons de_str (das_cons de_str (das_cons de_str (das_cons de_str (das_cons de_str (das_cons de_str (das_cons de_str das_nil))))))))) das_nil))))
    (dss_cons (ds_set C 1 (de_bin C (de_bin C (de_sl01 C (de_v C 1) (de_v C 6)) (de_v C 7)) (de_sl10 C (de_v C 1) (de_v C 6))))
    dss_nil))) dss_nil)
    (dss_cons (ds_ret (de_bin C (de_v C 1) (de_ife (dt_cmp C (de_callK C c__law_draw hr h__law_draw (das_cons (de_v C 0) (das_cons de_int das_nil))) de_int) (de_callK C c__law_pick hr h__law_pick (das_cons (de_v C 0) (das_cons (de_lst (das_cons de_str (das_cons de_str (das_cons de_str das_nil)))) das_nil))) de_str)))
    dss_nil))))
/-! ### law -/
abbrev s_law : Stmt := top 25
def v_law : VB := .cons (.set 1 (.call 5 (.cons (.v 0) (.nil)))) (.cons (.loop (.rng1 (.k (.int 9))) (.nm 2) (.cons (.set 3 (.comp (.rng1 (.call 7 (.cons (.v 1) (.cons (.lst (.cons (.k (.int 1)) (.cons (.k (.int 1)) (.cons (.k (.int 2)) (.cons (.k (.int 3)) (.cons (.k (.int 5)) (.nil))))))) (.nil))))) (.nm 13) [13] (.nil) (.call 14 (.cons (.v 1) (.nil))))) (.cons (.par [4, 5] (.cons (.me .join (.k (.str "\n")) (.cons (.v 3) (.nil))) (.cons (.comp (.seq (.v 3)) (.nm 13) [13] (.nil) (.call 13 (.cons (.v 13) (.nil)))) (.nil)))) (.cons (.set 6 (.comp (.enum (.v 5)) (.tp (.cons (.nm 14) (.cons (.tp (.cons (.nm 12) (.cons (.nm 15) (.nil)))) (.nil)))) [14, 12, 15] (.cons (.cmp .IsNot (.v 15) (.k .non)) .nil) (.tup (.cons (.v 14) (.cons (.v 15) (.nil)))))) (.cons (.set 7 (.ife (.cmp .NotEq (.v 6) (.lst (.nil))) (.tup (.cons (.k (.str "unread")) (.cons (.ix (.v 6) (.k (.int 0))) (.nil)))) (.tup (.cons (.k (.str "told")) (.cons (.comp (.seq (.v 5)) (.tp (.cons (.nm 12) (.cons (.nm 15) (.nil)))) [12, 15] (.nil) (.v 12)) (.nil)))))) (.cons (.set 8 (.lst (.cons (.met (.call 4 (.cons (.v 4) (.nil)))) (.nil)))) (.cons (.app 8 (.met (.call 4 (.cons (.v 4) (.nil))))) (.cons (.ite (.not (.call 9 (.cons (.v 8) (.cons (.lst (.cons (.v 7) (.cons (.v 7) (.nil)))) (.nil))))) (.cons (.ret (.k (.bl false))) (.nil)) (.nil)) (.cons (.ite (.cmp .Eq (.v 6) (.lst (.nil))) (.cons (.spo (.ix (.ix (.v 8) (.k (.int 0))) (.k (.int 1)))) (.nil)) (.nil)) (.cons (.ite (.not (.call 9 (.cons (.met (.call 4 (.cons (.v 4) (.nil)))) (.cons (.v 7) (.nil))))) (.cons (.ret (.k (.bl false))) (.nil)) (.nil)) (.cons (.set 9 (.call 7 (.cons (.v 1) (.cons (.lst (.cons (.k .non) (.cons (.k (.int 5)) (.cons (.k (.bl true)) (.cons (.lst (.nil)) (.cons (.lst (.cons (.k (.str "letters a")) (.nil))) (.cons (.tup (.cons (.k (.str "a")) (.nil))) (.cons (.dn) (.cons (.neg (.k (.int 1))) (.nil)))))))))) (.nil))))) (.cons (.setB 10 (.call 8 (.cons (.v 9) (.nil)))) (.cons (.set 11 (.lst (.cons (.met (.call 4 (.cons (.v 10) (.nil)))) (.nil)))) (.cons (.app 11 (.met (.call 4 (.cons (.v 10) (.nil))))) (.cons (.ite (.isb ["list"] (.v 10)) (.cons (.apb 10 11 (.str "late")) (.nil)) (.nil)) (.cons (.frg [2, 3, 4, 5, 6, 7, 8, 9, 10, 11, 12, 13, 14, 15, 16] (.ite (.not (.call 9 (.cons (.v 11) (.cons (.bin .Mult (.lst (.cons (.tup (.cons (.k (.str "text")) (.cons (.v 10) (.nil)))) (.nil))) (.k (.int 2))) (.nil))))) (.cons (.ret (.k (.bl false))) (.nil)) (.nil))) (.nil))))))))))))))))) (.cons (.set 12 (.lst (.cons (.call 4 (.cons (.k (.str "")) (.nil))) (.cons (.call 4 (.cons (.k (.str "let 'be be a# x\n")) (.nil))) (.cons (.call 4 (.cons (.k (.str "\n\n")) (.nil))) (.cons (.call 4 (.cons (.bin .Add (.bin .Mult (.k (.str "a")) (.k (.int 150))) (.bin .Mult (.k (.str "(")) (.k (.int 50)))) (.nil))) (.cons (.call 4 (.cons (.k (.str "01,2")) (.nil))) (.cons (.call 4 (.cons (.k (.str "a_b'c_d e_f")) (.nil))) (.nil))))))))) (.cons (.set 7 (.lst (.cons (.lst (.cons (.lst (.nil)) (.nil))) (.cons (.lst (.cons (.lst (.cons (.tup (.cons (.k (.str "word")) (.cons (.k (.str "let")) (.cons (.k (.int 0)) (.nil))))) (.cons (.tup (.cons (.k (.str "quote")) (.cons (.k (.str "be")) (.cons (.k (.int 4)) (.nil))))) (.cons (.tup (.cons (.k (.str "word")) (.cons (.k (.str "be")) (.cons (.k (.int 8)) (.nil))))) (.cons (.tup (.cons (.k (.str "word")) (.cons (.k (.str "a")) (.cons (.k (.int 11)) (.nil))))) (.nil)))))) (.cons (.lst (.nil)) (.nil)))) (.cons (.lst (.cons (.lst (.nil)) (.cons (.lst (.nil)) (.cons (.lst (.nil)) (.nil))))) (.nil)))))) (.cons (.app 7 (.lst (.cons (.bin .Add (.lst (.cons (.tup (.cons (.k (.str "word")) (.cons (.bin .Mult (.k (.str "a")) (.k (.int 150))) (.cons (.k (.int 0)) (.nil))))) (.nil))) (.comp (.rng1 (.k (.int 50))) (.nm 16) [16] (.nil) (.tup (.cons (.k (.str "sign")) (.cons (.k (.str "(")) (.cons (.bin .Add (.k (.int 150)) (.v 16)) (.nil))))))) (.nil)))) (.cons (.extd 7 (.lst (.cons (.lst (.cons (.lst (.cons (.tup (.cons (.k (.str "number")) (.cons (.k (.int 1)) (.cons (.k (.int 0)) (.nil))))) (.cons (.tup (.cons (.k (.str "sign")) (.cons (.k (.str ",")) (.cons (.k (.int 2)) (.nil))))) (.cons (.tup (.cons (.k (.str "number")) (.cons (.k (.int 2)) (.cons (.k (.int 3)) (.nil))))) (.nil))))) (.nil))) (.cons (.lst (.cons (.lst (.cons (.tup (.cons (.k (.str "word")) (.cons (.k (.str "a_b")) (.cons (.k (.int 0)) (.nil))))) (.cons (.tup (.cons (.k (.str "quote")) (.cons (.k (.str "c_d")) (.cons (.k (.int 3)) (.nil))))) (.cons (.tup (.cons (.k (.str "word")) (.cons (.k (.str "e_f")) (.cons (.k (.int 8)) (.nil))))) (.nil))))) (.nil))) (.nil))))) (.cons (.ret (.call 9 (.cons (.v 12) (.cons (.v 7) (.nil))))) (.nil)))))))
theorem sc_law : FnScope ["script", "stream", "turn", "drawn", "text", "made", "bads", "due", "found", "thing", "mine", "met", "some", "row", "line", "bad", "at"] ["script"] (defScope s_law) := ⟨rfl, rfl, rfl, by decide +kernel, rfl, by decide +kernel, by decide +kernel⟩
theorem d_law {P : Program} {w : World} {K : PySem.W.Frag} {mg : Str → Option Value} {base : Heap} {Tb : List (Addr × Str)} {Γ : Gam GS} {S : GS} {F : Addr → Prop} {f c P0 : Addr} {A : Around} {outer : List Env} {s : Shared} {H : Hp} {E : XK} {kk : Nat}
    (B : ∀ x ∈ blts, mg x = none) {j__law_same : Nat} (c__law_same : FnK P w K mg base (glo K Tb) "_law_same" j__law_same (Γ.ar 9) (Γ.fn 9)) (h__law_same : j__law_same ≤ kk) {j_tokens : Nat} (c_tokens : FnK P w K mg base (glo K Tb) "tokens" j_tokens (Γ.ar 4) (Γ.fn 4)) (h_tokens : j_tokens ≤ kk) {j__law_copied : Nat} (c__law_copied : FnK P w K mg base (glo K Tb) "_law_copied" j__law_copied (Γ.ar 8) (Γ.fn 8)) (h__law_copied : j__law_copied ≤ kk) {j__law_pick : Nat} (c__law_pick : FnK P w K mg base (glo K Tb) "_law_pick" j__law_pick (Γ.ar 7) (Γ.fn 7)) (h__law_pick : j__law_pick ≤ kk) {j__law_row_tokens : Nat} (c__law_row_tokens : FnK P w K mg base (glo K Tb) "_law_row_tokens" j__law_row_tokens (Γ.ar 13) (Γ.fn 13)) (h__law_row_tokens : j__law_row_tokens ≤ kk) {j__law_drawn_row : Nat} (c__law_drawn_row : FnK P w K mg base (glo K Tb) "_law_drawn_row" j__law_drawn_row (Γ.ar 14) (Γ.fn 14)) (h__law_drawn_row : j__law_drawn_row ≤ kk) {j__law_stream : Nat} (c__law_stream : FnK P w K mg base (glo K Tb) "_law_stream" j__law_stream (Γ.ar 5) (Γ.fn 5)) (h__law_stream : j__law_stream ≤ kk) {jw_tokens : Nat} (w_tokens : FnKw P w K mg base (glo K Tb) "tokens" jw_tokens (Γ.ar 4) 0 ["text"] (Γ.fn 4)) (hw_tokens : jw_tokens ≤ kk) (aw_tokens : Γ.ar 4 = 1) {C_NoText : Addr} (xm_NoText : XfC K C_NoText) (n_NoText : PySem.W.findIn K (.ref C_NoText) "text" = some none) (m_NoText : mg "NoText" = some (.ref C_NoText)) {C_Unread : Addr} (xm_Unread : XfC K C_Unread) (n_Unread : PySem.W.findIn K (.ref C_Unread) "at" = some none) (m_Unread : mg "Unread" = some (.ref C_Unread)) {gM : Addr} {cdM : Value} (M_met : MetK P w K mg base "_law_met" "ask" ["ask", "e"] (defArgs s__law_met) (defBody s__law_met) (defScope s__law_met) gM cdM) (TB : TabB base mg c P0) (hP : (P0, (envOfC "law" (defScope s_law) 0 f (.ref c)).qual ++ "<lambda>") ∈ Tb) (hu : ∀ p ∈ Tb, p.1 = P0 → p.2 = (envOfC "law" (defScope s_law) 0 f (.ref c)).qual ++ "<lambda>") (hm : MetOk K Γ [⟨C_NoText, "text", "text"⟩, ⟨C_Unread, "unread", "at"⟩]) (hG : BoxG Γ) (hFt : ∀ a, F a) {js : Nat} (c__law_spoilt : SpoK P w K mg base "_law_spoilt" js (spSpo K (glo K Tb) Γ.spo)) (h__law_spoilt : js ≤ kk)
    (hr : Room (kk + 2) (A.deeper (envOfC "law" (defScope s_law) s.heap.objs.size f (.ref c)))) (C : Cok (cxOf (L2.CX P w) P w K mg base ["script", "stream", "turn", "drawn", "text", "made", "bads", "due", "found", "thing", "mine", "met", "some", "row", "line", "bad", "at"] "law" (defScope s_law) f (.ref c) A outer s H E) (bxE K (glo K Tb) S H F ["script", "stream", "turn", "drawn", "text", "made", "bads", "due", "found", "thing", "mine", "met", "some", "row", "line", "bad", "at"].length) E) :
    PSs (cxOf (L2.CX P w) P w K mg base ["script", "stream", "turn", "drawn", "text", "made", "bads", "due", "found", "thing", "mine", "met", "some", "row", "line", "bad", "at"] "law" (defScope s_law) f (.ref c) A outer s H E) (defBody s_law) (RdB (bxE K (glo K Tb) S H F ["script", "stream", "turn", "drawn", "text", "made", "bads", "due", "found", "thing", "mine", "met", "some", "row", "line", "bad", "at"].length) Γ E v_law) := by
  have hB : ∀ (S : GS) H a, (glo K Tb).SI S H → Γ.isl S a → ∃ vs, H a = some (.lst vs) := hG.hB
  exact (dss_cons (ds_set C 1 (de_callK C c__law_stream hr (Nat.le_add_right_of_le h__law_stream) (das_cons (de_v C 0) das_nil)))
    (dss_cons (ds_loop C (passes_of rfl) (di_rng1 (B "range" (by decide)) de_int) (dg_nm C 2) (dss_cons (by first | exact ds_set C 3 (de_comp C (own := [("row", 13)]) (di_rng1 (B "range" (by decide)) (de_callK C c__law_pick hr (Nat.le_add_right_of_le h__law_pick) (das_cons (de_v C 1) (das_cons (de_lst (das_cons de_int (das_cons de_int (das_cons de_int (das_cons de_int (das_cons de_int das_nil)))))) das_nil)))) (blkOk_by (show blkC ["script", "stream", "turn", "drawn", "text", "made", "bads", "due", "found", "thing", "mine", "met", "some", "row", "line", "bad", "at"] (defScope s_law) _ _ = true by decide +kernel)) (fun _ _ _ _ _ C' => (dg_nm C' 13)) (fun _ _ _ _ _ C' => dc_nil) (fun _ _ _ _ _ C' => (de_callK C' c__law_drawn_row hr (Nat.le_add_right_of_le h__law_drawn_row) (das_cons (de_v C' 1) das_nil)))) | exact ds_setLc C 3 (own := [("row", 13)]) (di_rng1 (B "range" (by decide)) (de_callK C c__law_pick hr (Nat.le_add_right_of_le h__law_pick) (das_cons (de_v C 1) (das_cons (de_lst (das_cons de_int (das_cons de_int (das_cons de_int (das_cons de_int (das_cons de_int das_nil)))))) das_nil)))) (blkOk_by (show blkC ["script", "stream", "turn", "drawn", "text", "made", "bads", "due", "found", "thing", "mine", "met", "some", "row", "line", "bad", "at"] (defScope s_law) _ _ = true by decide +kernel)) (fun _ _ _ _ _ C' => (dg_nm C' 13)) (fun _ _ _ _ _ C' => dc_nil) (fun _ _ _ _ _ C' => (de_callK C' c__law_drawn_row hr (Nat.le_add_right_of_le h__law_drawn_row) (das_cons (de_v C' 1) das_nil))))
    (dss_cons (by first | exact ds_par2 C 4 5 (dps_cons (de_me C .join rfl rfl PySem.F.slot_str_join PySem.F.type_str_join de_str (das_cons (de_v C 3) das_nil)) (dps_cons (de_comp C (own := [("row", 13)]) (di_seq C (de_v C 3)) (blkOk_by (show blkC ["script", "stream", "turn", "drawn", "text", "made", "bads", "due", "found", "thing", "mine", "met", "some", "row", "line", "bad", "at"] (defScope s_law) _ _ = true by decide +kernel)) (fun _ _ _ _ _ C' => (dg_nm C' 13)) (fun _ _ _ _ _ C' => dc_nil) (fun _ _ _ _ _ C' => (de_callK C' c__law_row_tokens hr (Nat.le_add_right_of_le h__law_row_tokens) (das_cons (de_v C' 13) das_nil)))) dps_nil)) | exact ds_parN C (dps_cons (de_me C .join rfl rfl PySem.F.slot_str_join PySem.F.type_str_join de_str (das_cons (de_v C 3) das_nil)) (dps_cons (de_comp C (own := [("row", 13)]) (di_seq C (de_v C 3)) (blkOk_by (show blkC ["script", "stream", "turn", "drawn", "text", "made", "bads", "due", "found", "thing", "mine", "met", "some", "row", "line", "bad", "at"] (defScope s_law) _ _ = true by decide +kernel)) (fun _ _ _ _ _ C' => (dg_nm C' 13)) (fun _ _ _ _ _ C' => dc_nil) (fun _ _ _ _ _ C' => (de_callK C' c__law_row_tokens hr (Nat.le_add_right_of_le h__law_row_tokens) (das_cons (de_v C' 13) das_nil)))) dps_nil)) (pgn_cons C 4 (pgn_cons C 5 pgn_nil)))
    (dss_cons (by first | exact ds_set C 6 (de_comp C (own := [("line", 14), ("some", 12), ("bad", 15)]) (di_enum C (B "enumerate" (by decide)) (de_v C 5)) (blkOk_by (show blkC ["script", "stream", "turn", "drawn", "text", "made", "bads", "due", "found", "thing", "mine", "met", "some", "row", "line", "bad", "at"] (defScope s_law) _ _ = true by decide +kernel)) (fun _ _ _ _ _ C' => (dg_tp C' (dgs_cons (dg_nm C' 14) (dgs_cons (dg_tp C' (dgs_cons (dg_nm C' 12) (dgs_cons (dg_nm C' 15) dgs_nil))) dgs_nil)))) (fun _ _ _ _ _ C' => (dc_one (dt_cmp C' (de_v C' 15) de_non))) (fun _ _ _ _ _ C' => (de_tup (das_cons (de_v C' 14) (das_cons (de_v C' 15) das_nil))))) | exact ds_setLc C 6 (own := [("line", 14), ("some", 12), ("bad", 15)]) (di_enum C (B "enumerate" (by decide)) (de_v C 5)) (blkOk_by (show blkC ["script", "stream", "turn", "drawn", "text", "made", "bads", "due", "found", "thing", "mine", "met", "some", "row", "line", "bad", "at"] (defScope s_law) _ _ = true by decide +kernel)) (fun _ _ _ _ _ C' => (dg_tp C' (dgs_cons (dg_nm C' 14) (dgs_cons (dg_tp C' (dgs_cons (dg_nm C' 12) (dgs_cons (dg_nm C' 15) dgs_nil))) dgs_nil)))) (fun _ _ _ _ _ C' => (dc_one (dt_cmp C' (de_v C' 15) de_non))) (fun _ _ _ _ _ C' => (de_tup (das_cons (de_v C' 14) (das_cons (de_v C' 15) das_nil)))))
    (dss_cons (ds_set C 7 (de_ife (dt_cmp C (de_v C 6) (de_lst das_nil)) (de_tup (das_cons de_str (das_cons (de_ix C (de_v C 6) de_int) das_nil))) (de_tup (das_cons de_str (das_cons (de_comp C (own := [("some", 12), ("bad", 15)]) (di_seq C (de_v C 5)) (blkOk_by (show blkC ["script", "stream", "turn", "drawn", "text", "made", "bads", "due", "found", "thing", "mine", "met", "some", "row", "line", "bad", "at"] (defScope s_law) _ _ = true by decide +kernel)) (fun _ _ _ _ _ C' => (dg_tp C' (dgs_cons (dg_nm C' 12) (dgs_cons (dg_nm C' 15) dgs_nil)))) (fun _ _ _ _ _ C' => dc_nil) (fun _ _ _ _ _ C' => (de_v C' 12))) das_nil)))))
    (dss_cons (ds_set C 8 (de_lst (das_cons (de_met C M_met (g__law_met xm_NoText n_NoText m_NoText xm_Unread n_Unread m_Unread) TB rfl hP hu hm hr (fun _ _ _ _ _ _ _ hr2 C2 => (de_callK C2 c_tokens hr2 h_tokens (das_cons (de_v C2 4) das_nil))) (L := (show LamX.lamSB (defScope s_law) _ = true by decide +kernel))) das_nil)))
    (dss_cons (ds_app C 8 (de_met C M_met (g__law_met xm_NoText n_NoText m_NoText xm_Unread n_Unread m_Unread) TB rfl hP hu hm hr (fun _ _ _ _ _ _ _ hr2 C2 => (de_callKw0 C2 w_tokens hr2 hw_tokens aw_tokens (dk_cons (de_v C2 4) dk_nil))) (L := (show LamX.lamSB (defScope s_law) _ = true by decide +kernel))))
    (dss_cons (ds_ite (dt_not (dt_val C (de_callK C c__law_same hr (Nat.le_add_right_of_le h__law_same) (das_cons (de_v C 8) (das_cons (de_lst (das_cons (de_v C 7) (das_cons (de_v C 7) das_nil))) das_nil))))) (dss_cons (ds_ret de_bl)
    dss_nil) dss_nil)
    (dss_cons (ds_ite (dt_cmp C (de_v C 6) (de_lst das_nil)) (dss_cons (ds_spo C c__law_spoilt hr (Nat.le_add_right_of_le h__law_spoilt) (de_ix C (de_ix C (de_v C 8) de_int) de_int))
    dss_nil) dss_nil)
    (dss_cons (ds_ite (dt_not (dt_val C (de_callK C c__law_same hr (Nat.le_add_right_of_le h__law_same) (das_cons (de_met C M_met (g__law_met xm_NoText n_NoText m_NoText xm_Unread n_Unread m_Unread) TB rfl hP hu hm hr (fun _ _ _ _ _ _ _ hr2 C2 => (de_callK C2 c_tokens hr2 h_tokens (das_cons (de_v C2 4) das_nil))) (L := (show LamX.lamSB (defScope s_law) _ = true by decide +kernel))) (das_cons (de_v C 7) das_nil))))) (dss_cons (ds_ret de_bl)
    dss_nil) dss_nil)
    (dss_cons (ds_set C 9 (de_callK C c__law_pick hr (Nat.le_add_right_of_le h__law_pick) (das_cons (de_v C 1) (das_cons (de_lst (das_cons de_non (das_cons de_int (das_cons de_bl (das_cons (de_lst das_nil) (das_cons (de_lst (das_cons de_str das_nil)) (das_cons (de_tup (das_cons de_str das_nil)) (das_cons de_dn (das_cons (de_neg de_int) das_nil))))))))) das_nil))))
    (dss_cons (ds_setB C hG 10 (de_callK C c__law_copied hr (Nat.le_add_right_of_le h__law_copied) (das_cons (de_v C 9) das_nil)))
    (dss_cons (ds_set C 11 (de_lst (das_cons (de_met C M_met (g__law_met xm_NoText n_NoText m_NoText xm_Unread n_Unread m_Unread) TB rfl hP hu hm hr (fun _ _ _ _ _ _ _ hr2 C2 => (de_callK C2 c_tokens hr2 h_tokens (das_cons (de_v C2 10) das_nil))) (L := (show LamX.lamSB (defScope s_law) _ = true by decide +kernel))) das_nil)))
    (dss_cons (ds_app C 11 (de_met C M_met (g__law_met xm_NoText n_NoText m_NoText xm_Unread n_Unread m_Unread) TB rfl hP hu hm hr (fun _ _ _ _ _ _ _ hr2 C2 => (de_callKw0 C2 w_tokens hr2 hw_tokens aw_tokens (dk_cons (de_v C2 10) dk_nil))) (L := (show LamX.lamSB (defScope s_law) _ = true by decide +kernel))))
    (dss_cons (ds_ite (dt_val C (de_isb1 C hB (T := "list") (B "isinstance" (by decide)) (de_v C 10) (pt_cons (B "list" (by decide)) pt_nil))) (dss_cons (ds_apb C hG hFt 10 11 (ct := .str "late") (cv := .str "late") (fun _ => rfl) pe_str)
    dss_nil) dss_nil)
    (dss_cons (ds_frg _ (ds_ite (dt_not (dt_val C (de_callK C c__law_same hr (Nat.le_add_right_of_le h__law_same) (das_cons (de_v C 11) (das_cons (de_bin C (de_lst (das_cons (de_tup (das_cons de_str (das_cons (de_v C 10) das_nil))) das_nil)) de_int) das_nil))))) (dss_cons (ds_ret de_bl)
    dss_nil) dss_nil))
    dss_nil))))))))))))))))
    (dss_cons (ds_set C 12 (de_lst (das_cons (de_callK C c_tokens hr (Nat.le_add_right_of_le h_tokens) (das_cons de_str das_nil)) (das_cons (de_callK C c_tokens hr (Nat.le_add_right_of_le h_tokens) (das_cons de_str das_nil)) (das_cons (de_callK C c_tokens hr (Nat.le_add_right_of_le h_tokens) (das_cons de_str das_nil)) (das_cons (de_callK C c_tokens hr (Nat.le_add_right_of_le h_tokens) (das_cons (de_bin C (de_bin C de_str de_int) (de_bin C de_str de_int)) das_nil)) (das_cons (de_callK C c_tokens hr (Nat.le_add_right_of_le h_tokens) (das_cons de_str das_nil)) (das_cons (de_callK C c_tokens hr (Nat.le_add_right_of_le h_tokens) (das_cons de_str das_nil)) das_nil))))))))
    (dss_cons (ds_set C 7 (de_lst (das_cons (de_lst (das_cons (de_lst das_nil) das_nil)) (das_cons (de_lst (das_cons (de_lst (das_cons (de_tup (das_cons de_str (das_cons de_str (das_cons de_int das_nil)))) (das_cons (de_tup (das_cons de_str (das_cons de_str (das_cons de_int das_nil)))) (das_cons (de_tup (das_cons de_str (das_cons de_str (das_cons de_int das_nil)))) (das_cons (de_tup (das_cons de_str (das_cons de_str (das_cons de_int das_nil)))) das_nil))))) (das_cons (de_lst das_nil) das_nil))) (das_cons (de_lst (das_cons (de_lst das_nil) (das_cons (de_lst das_nil) (das_cons (de_lst das_nil) das_nil)))) das_nil)))))
    (dss_cons (ds_app C 7 (de_lst (das_cons (de_bin C (de_lst (das_cons (de_tup (das_cons de_str (das_cons (de_bin C de_str de_int) (das_cons de_int das_nil)))) das_nil)) (de_comp C (own := [("at", 16)]) (di_rng1 (B "range" (by decide)) de_int) (blkOk_by (show blkC ["script", "stream", "turn", "drawn", "text", "made", "bads", "due", "found", "thing", "mine", "met", "some", "row", "line", "bad", "at"] (defScope s_law) _ _ = true by decide +kernel)) (fun _ _ _ _ _ C' => (dg_nm C' 16)) (fun _ _ _ _ _ C' => dc_nil) (fun _ _ _ _ _ C' => (de_tup (das_cons de_str (das_cons de_str (das_cons (de_bin C' de_int (de_v C' 16)) das_nil))))))) das_nil)))
    (dss_cons (ds_extd C 7 (de_lst (das_cons (de_lst (das_cons (de_lst (das_cons (de_tup (das_cons de_str (das_cons de_int (das_cons de_int das_nil)))) (das_cons (de_tup (das_cons de_str (das_cons de_str (das_cons de_int das_nil)))) (das_cons (de_tup (das_cons de_str (das_cons de_int (das_cons de_int das_nil)))) das_nil)))) das_nil)) (das_cons (de_lst (das_cons (de_lst (das_cons (de_tup (das_cons de_str (das_cons de_str (das_cons de_int das_nil)))) (das_cons (de_tup (das_cons de_str (das_cons de_str (das_cons de_int das_nil)))) (das_cons (de_tup (das_cons de_str (das_cons de_str (das_cons de_int das_nil)))) das_nil)))) das_nil)) das_nil))))
    (dss_cons (ds_ret (de_callK C c__law_same hr (Nat.le_add_right_of_le h__law_same) (das_cons (de_v C 12) (das_cons (de_v C 7) das_nil))))
    dss_nil)))))))
end K24

-- K24h
namespace K24
open PySem PySem.Spec PyProof.Rows L2 LamX Vs
def htop (i : Nat) : Stmt := PySem.Challenge.pw_provenkind_k24_whole_tokens_of_texts.main.body.getD i (.Pass ⟨0, 0, 0, 0⟩)
def dd_check_text : He.DefD := ⟨("check_text", none), "check_text", "check_text", defArgs (htop 8), defBody (htop 8), defScope (htop 8), [], []⟩
def dd_run_end : He.DefD := ⟨("run_end", none), "run_end", "run_end", defArgs (htop 9), defBody (htop 9), defScope (htop 9), [], []⟩
def dd_word_end : He.DefD := ⟨("word_end", none), "word_end", "word_end", defArgs (htop 10), defBody (htop 10), defScope (htop 10), [], []⟩
def dd_row_tokens : He.DefD := ⟨("row_tokens", none), "row_tokens", "row_tokens", defArgs (htop 11), defBody (htop 11), defScope (htop 11), [], []⟩
def dd_tokens : He.DefD := ⟨("tokens", none), "tokens", "tokens", defArgs (htop 12), defBody (htop 12), defScope (htop 12), [], []⟩
def dd__law_stream : He.DefD := ⟨("_law_stream", none), "_law_stream", "_law_stream", defArgs (htop 14), defBody (htop 14), defScope (htop 14), [], []⟩
def dd__law_draw : He.DefD := ⟨("_law_draw", none), "_law_draw", "_law_draw", defArgs (htop 15), defBody (htop 15), defScope (htop 15), [], []⟩
def dd__law_pick : He.DefD := ⟨("_law_pick", none), "_law_pick", "_law_pick", defArgs (htop 16), defBody (htop 16), defScope (htop 16), [], []⟩
def dd__law_copied : He.DefD := ⟨("_law_copied", none), "_law_copied", "_law_copied", defArgs (htop 17), defBody (htop 17), defScope (htop 17), [], []⟩
def dd__law_same : He.DefD := ⟨("_law_same", none), "_law_same", "_law_same", defArgs (htop 18), defBody (htop 18), defScope (htop 18), [], []⟩
def dd__law_spoilt : He.DefD := ⟨("_law_spoilt", none), "_law_spoilt", "_law_spoilt", defArgs (htop 19), defBody (htop 19), defScope (htop 19), [], []⟩
def dd__law_span : He.DefD := ⟨("_law_span", none), "_law_span", "_law_span", defArgs (htop 20), defBody (htop 20), defScope (htop 20), [], []⟩
def dd__law_word_span : He.DefD := ⟨("_law_word_span", none), "_law_word_span", "_law_word_span", defArgs (htop 21), defBody (htop 21), defScope (htop 21), [], []⟩
def dd__law_row_tokens : He.DefD := ⟨("_law_row_tokens", none), "_law_row_tokens", "_law_row_tokens", defArgs (htop 22), defBody (htop 22), defScope (htop 22), [], []⟩
def dd__law_drawn_row : He.DefD := ⟨("_law_drawn_row", none), "_law_drawn_row", "_law_drawn_row", defArgs (htop 23), defBody (htop 23), defScope (htop 23), [], []⟩
def dd__law_met : He.DefD := ⟨("_law_met", none), "_law_met", "_law_met", defArgs (htop 24), defBody (htop 24), defScope (htop 24), [], []⟩
def dd_law : He.DefD := ⟨("law", none), "law", "law", defArgs (htop 25), defBody (htop 25), defScope (htop 25), [], []⟩
def dd_NoText : He.DefD := ⟨("NoText", some "__init__"), "__init__", "NoText.__init__", defArgs (inClass (htop 4) 0), defBody (inClass (htop 4) 0), defScope (inClass (htop 4) 0), [], []⟩
def dd_Unread : He.DefD := ⟨("Unread", some "__init__"), "__init__", "Unread.__init__", defArgs (inClass (htop 5) 0), defBody (inClass (htop 5) 0), defScope (inClass (htop 5) 0), [], []⟩
def fn : List He.DefD := [dd_check_text, dd_run_end, dd_word_end, dd_row_tokens, dd_tokens, dd__law_stream, dd__law_draw, dd__law_pick, dd__law_copied, dd__law_same, dd__law_spoilt, dd__law_span, dd__law_word_span, dd__law_row_tokens, dd__law_drawn_row, dd__law_met, dd_law, dd_NoText, dd_Unread]
def fa : List He.Fa := [.str "LETTERS" "abcdefghijklmnopqrstuvwxyz", .str "FIGURES" "0123456789", .glo "check_text", .glo "run_end", .glo "word_end", .glo "row_tokens", .glo "tokens", .glo "_law_stream", .glo "_law_draw", .glo "_law_pick", .glo "_law_copied", .glo "_law_same", .glo "_law_spoilt", .glo "_law_span", .glo "_law_word_span", .glo "_law_row_tokens", .glo "_law_drawn_row", .glo "_law_met", .glo "law", .glo "NoText", .glo "Unread", .free "isinstance", .free "str", .free "len", .free "int", .free "enumerate", .free "list", .free "abs", .free "dict", .free "tuple", .free "bool", .free "zip", .free "all", .free "range", .noat "NoText" "text", .noat "Unread" "at", .meth "NoText" "__init__", .meth "Unread" "__init__", .exm "NoText" "NoText" true, .exm "Unread" "Unread" true, .exm "Unread" "NoText" false, .exm "NoText" "Unread" false]
def ex (K : PySem.W.Frag) : Bool := oexB K (He.ga K "NoText") && (oexB K (He.ga K "Unread") && (xfB K (He.ga K "NoText") && (xfB K (He.ga K "Unread") && (decide (PySem.W.typeIn K (.ref (He.ma K (He.ga K "NoText") "__init__")) = some (.type "function")) && decide (PySem.W.typeIn K (.ref (He.ma K (He.ga K "Unread") "__init__")) = some (.type "function"))))))
def tf : List He.Defn := [("law", none)]
abbrev R : PySem.W.OpenRow := PySem.W.OpenLaw.row PySem.Challenge.rw_provenkind_k24_whole_tokens_of_texts
abbrev hk : PySem.W.Hook := He.hookX 6 fa fn [] tf ex
def ob (s : PySem.W.SharedT) : He.AlX := He.obsX 6 fa fn [] tf ex (HandSHeadRun.getT s)
theorem ob_eq (s : PySem.W.SharedT) : ob s = hk.obs s.abs := He.obsX_eq (HandSHeadRun.getT_eq s)
theorem run (w : World) : HandSHeadRun.RunEq R (PySem.W.view R.prog [25]) hk ob 4000 ["LETTERS", "KindError", "NoText", "Unread", "FIGURES", "check_text", "run_end", "word_end", "row_tokens", "tokens", "_law_stream", "_law_draw", "_law_pick", "_law_copied", "_law_same", "_law_spoilt", "_law_span", "_law_word_span", "_law_row_tokens", "_law_drawn_row", "_law_met"] w := by
  intro os
  kernel_rfl
end K24

-- K24pure1
namespace Vs
open PySem PySem.Spec PyProof.Rows L2
theorem wB_cons {G : Type} {Γ : Gam G} {st : VS} {r : VB} {ε : VEnv} {S : G} {D : Dn G} : wB Γ (.cons st r) ε S D = wS Γ st ε S { D with nx := fun ε1 S1 => wB Γ r ε1 S1 D } := by rw [wB]
theorem wB_nil {G : Type} {Γ : Gam G} {ε : VEnv} {S : G} {D : Dn G} : wB Γ .nil ε S D = D.nx ε S := by rw [wB]
local macro_rules
  | `(tactic| walk_at "vs") => `(tactic| (first | rw [wB_cons] | rw [wB_nil] | skip) <;> simp only [wS, wE, wEs, wIs, wT, wI, wC, wPar, getV, entV, argV, imm, imms, if_true, if_false, List.length_cons, List.length_nil, List.map_cons, List.map_nil, List.cons_append, List.nil_append, List.getElem?_cons_zero, List.getElem?_cons_succ, Nat.zero_add, Nat.reduceAdd, Nat.reduceSub, List.replicate, List.set_cons_zero, List.set_cons_succ, setV, SV.cl, binW, cmpW, ixW, eqW, biW, meW, isiW, slW, cutW, truT, resV, mkRet, mkTup, mkL, ts, frs, Ds, Bool.false_eq_true, reduceIte])
theorem isIn_one (c : Nat) (s : Str) : isIn ⟨#[c]⟩ s = decide (c ∈ s.cps.toList) := by
  have h := StrLaws.found_one s c
  exact h
theorem atI_nat {α : Type} {l : List α} {i : Nat} {x : α} (h : l[i]? = some x) : atI l (i : Int) = some x := by
  have hi : i < l.length := (List.getElem?_eq_some_iff.mp h).1
  unfold atI ixN
  rw [if_pos (by omega)]
  have : ((i : Int) < l.length) := by omega
  simp [this, h]
/-- how many signs of l, from place p on, are in s -/
def spanC (s : List Nat) (l : List Nat) : Nat := (l.takeWhile fun c => decide (c ∈ s)).length
theorem spanC_cons {s : List Nat} {c : Nat} {l : List Nat} : spanC s (c :: l) = if c ∈ s then spanC s l + 1 else 0 := by
  unfold spanC
  rw [List.takeWhile_cons]
  by_cases h : c ∈ s
  · simp [h]
  · simp [h]
theorem spanC_nil {s : List Nat} : spanC s [] = 0 := rfl
theorem spanC_le {s l : List Nat} : spanC s l ≤ l.length := by
  unfold spanC
  exact (List.takeWhile_sublist _).length_le
def v_run_end : VB := .cons (.set 3 (.v 1)) (.cons (.whl (.and (.cmp .Lt (.v 3) (.bi .len (.cons (.v 0) (.nil)))) (.cmp .In (.ix (.v 0) (.v 3)) (.v 2))) (.cons (.set 3 (.bin .Add (.v 3) (.k (.int 1)))) (.nil))) (.cons (.ret (.v 3)) (.nil)))
def cRunEnd : Con GS where
  pre := fun tr S => ∃ (row signs : Str) (p : Nat), tr = [.str row, .int p, .str signs] ∧ row.length ≤ sizeLine ∧ p ≤ row.length
  post := fun tr S t own fr S' => ∃ (row signs : Str) (p : Nat), tr = [.str row, .int p, .str signs] ∧ t = .int (p + spanC signs.cps.toList (row.cps.toList.drop p) : Nat) ∧ own = false ∧ fr = true ∧ S' = S
theorem run_end_ok {Γ : Gam GS} (tr : List T) (S : GS) (_ : tr.length = 3) (hp : cRunEnd.pre tr S) : wB Γ v_run_end (entV 4 tr) S (endC cRunEnd tr S) := by
  obtain ⟨row, signs, p, rfl, hz, hp⟩ := hp
  simp only [v_run_end]
  walk_at "vs"
  walk_at "vs"
  have hlen : row.cps.toList.length = row.length := by simp [Str.length]
  obtain ⟨n, hn⟩ : ∃ n, n = spanC signs.cps.toList (row.cps.toList.drop p) := ⟨_, rfl⟩
  refine ⟨fun m ε S' => ∃ k : Nat, m = row.length - k ∧ p ≤ k ∧ k ≤ row.length ∧ ε = [some { t := T.str row }, some { t := T.int p }, some { t := T.str signs }, some { t := T.int k }] ∧ S' = S ∧ k + spanC signs.cps.toList (row.cps.toList.drop k) = p + n,
    ⟨_, p, rfl, Nat.le_refl _, hp, rfl, rfl, by rw [hn]⟩, ?_⟩
  rintro m ε S' ⟨k, rfl, hk, hkl, rfl, rfl, hs⟩
  walk_at "vs"
  refine ⟨hz, ?_⟩
  by_cases hlt : k < row.length
  · have e1 : decide ((k : Int) < (row.length : Int)) = true := by simpa using hlt
    rw [e1]
    simp only [if_true]
    obtain ⟨c, hc⟩ : ∃ c, row.cps.toList[k]? = some c := ⟨row.cps.toList[k]'(by omega), List.getElem?_eq_getElem _⟩
    refine ⟨hz, c, atI_nat hc, ?_⟩
    have ed : row.cps.toList.drop k = c :: row.cps.toList.drop (k + 1) := by
      rw [List.drop_eq_getElem_cons (by omega)]
      congr 1
      have := List.getElem?_eq_some_iff.mp hc
      exact this.2
    rw [ed, spanC_cons] at hs
    rw [isIn_one]
    by_cases hm : c ∈ signs.cps.toList
    · rw [decide_eq_true hm]
      simp only [if_true]
      rw [if_pos hm] at hs
      simp only [wB_nil]
      refine ⟨row.length - (k + 1), by omega, k + 1, rfl, by omega, by omega, ?_, trivial, by omega⟩
      simp
    · rw [decide_eq_false hm]
      rw [if_neg hm] at hs
      simp only [Bool.false_eq_true, if_false]
      refine ⟨row, signs, p, rfl, ?_, rfl, rfl, rfl⟩
      rw [← hn, ← show k = p + n by omega]
  · have e1 : decide ((k : Int) < (row.length : Int)) = false := by simpa using hlt
    rw [e1]
    simp only [Bool.false_eq_true, if_false]
    refine ⟨row, signs, p, rfl, ?_, rfl, rfl, rfl⟩
    rw [List.drop_eq_nil_of_le (by omega), spanC_nil] at hs
    rw [← hn, ← show k = p + n by omega]

def letters : Str := "abcdefghijklmnopqrstuvwxyz"
/-- how long a word of letters, "_" within, is from p on -/
def wordC (l : List Nat) (p : Nat) : Nat :=
  let w := spanC letters.cps.toList (l.drop p)
  let m := if 0 < w ∧ l[p + w]? = some 95 then spanC letters.cps.toList (l.drop (p + w + 1)) else 0
  if 0 < m then w + 1 + m else w
def v_word_end : VB := .cons (.set 2 (.call 1 (.cons (.v 0) (.cons (.v 1) (.cons (.g 0) (.nil)))))) (.cons (.ite (.and (.cmp .Gt (.v 2) (.v 1)) (.and (.cmp .Eq (.sl true true (.v 0) (.cons (.v 2) (.cons (.bin .Add (.v 2) (.k (.int 1))) (.nil)))) (.k (.str "_"))) (.cmp .Gt (.call 1 (.cons (.v 0) (.cons (.bin .Add (.v 2) (.k (.int 1))) (.cons (.g 0) (.nil))))) (.bin .Add (.v 2) (.k (.int 1)))))) (.cons (.ret (.call 1 (.cons (.v 0) (.cons (.bin .Add (.v 2) (.k (.int 1))) (.cons (.g 0) (.nil)))))) (.nil)) (.nil)) (.cons (.ret (.v 2)) (.nil)))
def cWordEnd : Con GS where
  pre := fun tr S => ∃ (row : Str) (p : Nat), tr = [.str row, .int p] ∧ row.length ≤ 1000 ∧ p ≤ row.length
  post := fun tr S t own fr S' => ∃ (row : Str) (p : Nat), tr = [.str row, .int p] ∧ t = .int (p + wordC row.cps.toList p : Nat) ∧ own = false ∧ fr = true ∧ S' = S
theorem cut_one (row : Str) (e : Nat) (he : e ≤ row.length) : cutS row (some (e : Int)) (some ((e : Int) + 1)) = ⟨((row.cps.toList.drop e).take 1).toArray⟩ := by
  unfold cutS
  have h1 : HT.sIx row.length 0 (some (e : Int)) = e := by rw [HT.sIx_nat]; omega
  have h2 : HT.sIx row.length row.length (some ((e : Int) + 1)) = min (e + 1) row.length := by
    have z : ((e : Int) + 1) = ((e + 1 : Nat) : Int) := by omega
    rw [z, HT.sIx_nat]
  have hl : row.cps.toList.length = row.length := by simp [Str.length]
  rw [h1, h2]
  by_cases hlt : e < row.length
  · rw [show min (e + 1) row.length - e = 1 by omega]
  · rw [show min (e + 1) row.length - e = 0 by omega, List.drop_eq_nil_of_le (by omega)]
    rfl
theorem cut_is (row : Str) (e c : Nat) (he : e ≤ row.length) : decide (cutS row (some (e : Int)) (some ((e : Int) + 1)) = (⟨#[c]⟩ : Str)) = decide (row.cps.toList[e]? = some c) := by
  rw [cut_one row e he]
  have hl : row.cps.toList.length = row.length := by simp [Str.length]
  by_cases hlt : e < row.length
  · have ed : row.cps.toList.drop e = row.cps.toList[e]'(by omega) :: row.cps.toList.drop (e + 1) := List.drop_eq_getElem_cons (by omega)
    rw [ed, List.getElem?_eq_getElem (by omega)]
    simp
  · rw [List.drop_eq_nil_of_le (by omega), List.getElem?_eq_none (by omega)]
    simp
theorem word_end_ok {Γ : Gam GS} (h1 : Γ.fn 1 = cRunEnd) (a1 : Γ.ar 1 = 3) (g0 : Γ.con 0 = .str letters) (tr : List T) (S : GS) (_ : tr.length = 2) (hp : cWordEnd.pre tr S) : wB Γ v_word_end (entV 3 tr) S (endC cWordEnd tr S) := by
  obtain ⟨row, p, rfl, hz, hp⟩ := hp
  have hz2 : row.length ≤ sizeLine := by rw [sizeLine_eq]; omega
  simp only [v_word_end]
  walk_at "vs"
  simp only [h1, a1, g0]
  refine ⟨trivial, ⟨row, letters, p, rfl, hz2, hp⟩, ?_, fun x t S2 h => h.elim⟩
  rintro t own fr S2 ⟨row', signs', p', e, rfl, rfl, rfl, rfl⟩
  obtain ⟨rfl, rfl, rfl⟩ : row' = row ∧ signs' = letters ∧ p' = p := by
    have e' : [T.str row, T.int p, T.str letters] = [T.str row', T.int p', T.str signs'] := e
    simp only [List.cons.injEq, T.str.injEq, T.int.injEq, and_true] at e'
    exact ⟨e'.1.symm, e'.2.2.symm, by omega⟩
  walk_at "vs"
  simp only [h1, a1, g0]
  obtain ⟨w, hw⟩ : ∃ w, w = spanC letters.cps.toList (row'.cps.toList.drop p') := ⟨_, rfl⟩
  have hl : row'.cps.toList.length = row'.length := by simp [Str.length]
  have hwl : p' + w ≤ row'.length := by
    have z := spanC_le (s := letters.cps.toList) (l := row'.cps.toList.drop p')
    rw [← hw, List.length_drop, hl] at z
    omega
  obtain ⟨M, hM⟩ : ∃ M, M = (if 0 < w ∧ row'.cps.toList[p' + w]? = some 95 then spanC letters.cps.toList (row'.cps.toList.drop (p' + w + 1)) else 0) := ⟨_, rfl⟩
  have eC : wordC row'.cps.toList p' = if 0 < M then w + 1 + M else w := by
    rw [hM, hw]; rfl
  rw [← hw]
  have us : (Str.ofString "_") = (⟨#[95]⟩ : Str) := by rfl
  have im : imm (T.str letters) = true := rfl
  have fall : w = wordC row'.cps.toList p' → wB Γ .nil [some { t := T.str row' }, some { t := T.int p' }, some { t := T.int (p' + w : Nat) }] S2 { nx := fun ε1 S1 => wB Γ (VB.cons (VS.ret (VE.v 2)) VB.nil) ε1 S1 (endC cWordEnd [T.str row', T.int p'] S2), rt := (endC cWordEnd [T.str row', T.int p'] S2).rt, ex := (endC cWordEnd [T.str row', T.int p'] S2).ex, bk := (endC cWordEnd [T.str row', T.int p'] S2).bk, ct := (endC cWordEnd [T.str row', T.int p'] S2).ct } := fun h => by
    simp only [wB_nil]
    walk_at "vs"
    exact ⟨row', p', rfl, by rw [← h], rfl, rfl, rfl⟩
  rw [us, cut_is row' (p' + w) 95 hwl]
  by_cases h0 : 0 < w
  · rw [decide_eq_true (show ((p' : Int) < ((p' + w : Nat) : Int)) by omega)]
    simp only [if_true]
    refine ⟨hz2, ?_⟩
    by_cases hb : row'.cps.toList[p' + w]? = some 95
    · rw [decide_eq_true hb]
      simp only [if_true]
      have hlt : p' + w < row'.length := by
        have z := (List.getElem?_eq_some_iff.mp hb).1
        omega
      obtain ⟨m, hm⟩ : ∃ m, m = spanC letters.cps.toList (row'.cps.toList.drop (p' + w + 1)) := ⟨_, rfl⟩
      rw [if_pos ⟨h0, hb⟩, ← hm] at hM
      rw [hM] at eC
      have e3 : (((p' + w : Nat) : Int) + 1) = ((p' + w + 1 : Nat) : Int) := by omega
      rw [e3]
      refine ⟨trivial, ⟨row', letters, p' + w + 1, rfl, hz2, hlt⟩, ?_, fun x t S2 h => h.elim⟩
      rintro t own fr S3 ⟨r2, s2, p2, e4, rfl, rfl, rfl, rfl⟩
      have e5 : [T.str row', T.int (p' + w + 1 : Nat), T.str letters] = [T.str r2, T.int p2, T.str s2] := e4
      simp only [List.cons.injEq, T.str.injEq, T.int.injEq, and_true] at e5
      obtain ⟨rfl, e6, rfl⟩ := e5
      obtain rfl : p2 = p' + w + 1 := by omega
      rw [← hm]
      show if decide (((p' + w + 1 : Nat) : Int) < ((p' + w + 1 + m : Nat) : Int)) = true then _ else _
      by_cases hm0 : 0 < m
      · rw [decide_eq_true (show ((p' + w + 1 : Nat) : Int) < ((p' + w + 1 + m : Nat) : Int) by omega)]
        simp only [if_true]
        rw [if_pos hm0] at eC
        walk_at "vs"
        simp only [h1, a1, g0]
        rw [e3]
        refine ⟨trivial, ⟨row', letters, p' + w + 1, rfl, hz2, hlt⟩, ?_, fun x t S2 h => h.elim⟩
        rintro t own fr S4 ⟨r2, s2, p2, e4, rfl, rfl, rfl, rfl⟩
        have e5 : [T.str row', T.int (p' + w + 1 : Nat), T.str letters] = [T.str r2, T.int p2, T.str s2] := e4
        simp only [List.cons.injEq, T.str.injEq, T.int.injEq, and_true] at e5
        obtain ⟨rfl, e6, rfl⟩ := e5
        obtain rfl : p2 = p' + w + 1 := by omega
        rw [← hm]
        exact ⟨row', p', rfl, by rw [eC, show p' + (w + 1 + m) = p' + w + 1 + m by omega], rfl, rfl, rfl⟩
      · rw [decide_eq_false (show ¬ ((p' + w + 1 : Nat) : Int) < ((p' + w + 1 + m : Nat) : Int) by omega)]
        simp only [Bool.false_eq_true, if_false]
        rw [if_neg hm0] at eC
        exact fall eC.symm
    · rw [decide_eq_false hb]
      simp only [Bool.false_eq_true, if_false]
      rw [if_neg (fun z => hb z.2)] at hM
      rw [hM, if_neg (by omega)] at eC
      exact fall eC.symm
  · rw [decide_eq_false (show ¬ ((p' : Int) < ((p' + w : Nat) : Int)) by omega)]
    simp only [Bool.false_eq_true, if_false]
    rw [if_neg (fun z => h0 z.1)] at hM
    rw [hM, if_neg (by omega)] at eC
    exact fall eC.symm

def v__law_span : VB := .cons (.set 3 (.k (.int 0))) (.cons (.loop (.seq (.sl true false (.v 0) (.cons (.v 1) (.nil)))) (.nm 4) (.cons (.ite (.cmp .NotIn (.v 4) (.v 2)) (.cons (.ret (.v 3)) (.nil)) (.nil)) (.cons (.set 3 (.bin .Add (.v 3) (.k (.int 1)))) (.nil)))) (.cons (.ret (.v 3)) (.nil)))
def cSpan : Con GS where
  pre := fun tr S => ∃ (row signs : Str) (p : Nat), tr = [.str row, .int p, .str signs] ∧ row.length ≤ sizeLine
  post := fun tr S t own fr S' => ∃ (row signs : Str) (p : Nat), tr = [.str row, .int p, .str signs] ∧ t = .int (spanC signs.cps.toList (row.cps.toList.drop p) : Nat) ∧ own = false ∧ fr = true ∧ S' = S
theorem cut_tail (row : Str) (p : Nat) : (cutS row (some (p : Int)) none).cps.toList = row.cps.toList.drop p := by
  unfold cutS
  have hl : row.cps.toList.length = row.length := by simp [Str.length]
  rw [HT.sIx_nat, HT.sIx_none]
  show ((row.cps.toList.drop (min p row.length)).take (row.length - min p row.length)) = _
  rw [List.take_of_length_le (by rw [List.length_drop, hl]; omega)]
  by_cases h : p ≤ row.length
  · rw [Nat.min_eq_left h]
  · rw [Nat.min_eq_right (by omega), List.drop_eq_nil_of_le (by omega), List.drop_eq_nil_of_le (by omega)]
theorem law_span_ok {Γ : Gam GS} (tr : List T) (S : GS) (_ : tr.length = 3) (hp : cSpan.pre tr S) : wB Γ v__law_span (entV 5 tr) S (endC cSpan tr S) := by
  obtain ⟨row, signs, p, rfl, hz⟩ := hp
  simp only [v__law_span]
  walk_at "vs"
  walk_at "vs"
  simp only [itemsOf]
  refine ⟨hz, _, rfl, ?_⟩
  rw [cut_tail]
  obtain ⟨n, hn⟩ : ∃ n, n = spanC signs.cps.toList (row.cps.toList.drop p) := ⟨_, rfl⟩
  have fin : ∀ k : Nat, k = n → (endC cSpan [T.str row, T.int p, T.str signs] S).rt { t := T.int k } S := fun k e => ⟨row, signs, p, rfl, by rw [e, hn], rfl, rfl, rfl⟩
  have key : ∀ (l : List Nat) (k : Nat) (x : Option SV), k + spanC signs.cps.toList l = n →
      wLoop (VT.nm 4) 5 [(5, T.str (cutS row (some (p : Int)) none))]
        (fun ε2 S2 D2 => wB Γ (VB.cons (VS.ite (VE.cmp CmpOp.NotIn (VE.v 4) (VE.v 2)) (VB.cons (VS.ret (VE.v 3)) VB.nil) VB.nil) (VB.cons (VS.set 3 (VE.bin Operator.Add (VE.v 3) (VE.k (T.int 1)))) VB.nil)) ε2 S2 D2)
        { nx := fun ε1 S1 => wB Γ (VB.cons (VS.ret (VE.v 3)) VB.nil) ε1 S1 (endC cSpan [T.str row, T.int p, T.str signs] S), rt := (endC cSpan [T.str row, T.int p, T.str signs] S).rt, ex := (endC cSpan [T.str row, T.int p, T.str signs] S).ex, bk := (endC cSpan [T.str row, T.int p, T.str signs] S).bk, ct := (endC cSpan [T.str row, T.int p, T.str signs] S).ct }
        (l.map fun c => T.str ⟨#[c]⟩) [some { t := T.str row }, some { t := T.int p }, some { t := T.str signs }, some { t := T.int k }, x, some { t := T.str (cutS row (some (p : Int)) none) }] S := by
    intro l
    induction l with
    | nil =>
      intro k x h
      rw [spanC_nil] at h
      simp only [List.map_nil, wLoop, hidE, List.getElem?_cons_succ, List.getElem?_cons_zero, List.take_succ_cons, List.take_zero, true_and, and_true]
      walk_at "vs"
      exact fin k (by omega)
    | cons c r ih =>
      intro k x h
      rw [spanC_cons] at h
      simp only [List.map_cons, wLoop, hidE, List.getElem?_cons_succ, List.getElem?_cons_zero, true_and, and_true]
      simp only [wG, itemV, SV.cl, imm, if_true]
      walk_at "vs"
      rw [isIn_one]
      by_cases hc : c ∈ signs.cps.toList
      · rw [decide_eq_true hc]
        rw [if_pos hc] at h
        simp only [Bool.not_true, Bool.false_eq_true, if_false]
        walk_at "vs"
        walk_at "vs"
        have e : ((k : Int) + 1) = ((k + 1 : Nat) : Int) := by omega
        rw [e]
        exact ih (k + 1) _ (by omega)
      · rw [decide_eq_false hc]
        rw [if_neg hc] at h
        simp only [Bool.not_false, if_true]
        walk_at "vs"
        exact fin k (by omega)
  exact key _ 0 none (by rw [hn]; omega)

def v__law_word_span : VB := .cons (.set 2 (.k (.str "abcdefghijklmnopqrstuvwxyz"))) (.cons (.set 3 (.call 11 (.cons (.v 0) (.cons (.v 1) (.cons (.v 2) (.nil)))))) (.cons (.set 4 (.ife (.and (.cmp .Gt (.v 3) (.k (.int 0))) (.cmp .Eq (.sl true true (.v 0) (.cons (.bin .Add (.v 1) (.v 3)) (.cons (.bin .Add (.bin .Add (.v 1) (.v 3)) (.k (.int 1))) (.nil)))) (.k (.str "_")))) (.call 11 (.cons (.v 0) (.cons (.bin .Add (.bin .Add (.v 1) (.v 3)) (.k (.int 1))) (.cons (.v 2) (.nil))))) (.k (.int 0)))) (.cons (.ret (.ife (.cmp .Gt (.v 4) (.k (.int 0))) (.bin .Add (.bin .Add (.v 3) (.k (.int 1))) (.v 4)) (.v 3))) (.nil))))
def cWordSpan : Con GS where
  pre := fun tr S => ∃ (row : Str) (p : Nat), tr = [.str row, .int p] ∧ row.length ≤ sizeLine
  post := fun tr S t own fr S' => ∃ (row : Str) (p : Nat), tr = [.str row, .int p] ∧ t = .int (wordC row.cps.toList p : Nat) ∧ own = false ∧ fr = true ∧ S' = S
theorem law_word_span_ok {Γ : Gam GS} (h1 : Γ.fn 11 = cSpan) (a1 : Γ.ar 11 = 3) (tr : List T) (S : GS) (_ : tr.length = 2) (hp : cWordSpan.pre tr S) : wB Γ v__law_word_span (entV 5 tr) S (endC cWordSpan tr S) := by
  obtain ⟨row, p, rfl, hz⟩ := hp
  simp only [v__law_word_span]
  walk_at "vs"
  walk_at "vs"
  simp only [h1, a1]
  refine ⟨trivial, ⟨row, letters, p, rfl, hz⟩, ?_, fun x t S2 h => h.elim⟩
  rintro t own fr S2 ⟨row', signs', p', e, rfl, rfl, rfl, rfl⟩
  have e' : [T.str row, T.int p, T.str letters] = [T.str row', T.int p', T.str signs'] := e
  simp only [List.cons.injEq, T.str.injEq, T.int.injEq, and_true] at e'
  obtain ⟨rfl, e2, rfl⟩ := e'
  obtain rfl : p' = p := by omega
  walk_at "vs"
  simp only [h1, a1]
  obtain ⟨w, hw⟩ : ∃ w, w = spanC letters.cps.toList (row.cps.toList.drop p') := ⟨_, rfl⟩
  obtain ⟨M, hM⟩ : ∃ M, M = (if 0 < w ∧ row.cps.toList[p' + w]? = some 95 then spanC letters.cps.toList (row.cps.toList.drop (p' + w + 1)) else 0) := ⟨_, rfl⟩
  have eC : wordC row.cps.toList p' = if 0 < M then w + 1 + M else w := by
    rw [hM, hw]; rfl
  have us : (Str.ofString "_") = (⟨#[95]⟩ : Str) := by rfl
  have hl : row.cps.toList.length = row.length := by simp [Str.length]
  rw [← hw, us]
  have e3 : ((p' : Int) + (w : Int)) = ((p' + w : Nat) : Int) := by omega
  have e4 : (((p' + w : Nat) : Int) + 1) = ((p' + w + 1 : Nat) : Int) := by omega
  have last : ∀ m : Nat, m = M → wB Γ (VB.cons (VS.ret ((VE.cmp CmpOp.Gt (VE.v 4) (VE.k (T.int 0))).ife (VE.bin Operator.Add (VE.bin Operator.Add (VE.v 3) (VE.k (T.int 1))) (VE.v 4)) (VE.v 3))) VB.nil)
      [some { t := T.str row }, some { t := T.int p' }, some { t := T.str letters }, some { t := T.int w }, some { t := T.int m }] S2 (endC cWordSpan [T.str row, T.int p'] S2) := fun m em => by
    subst em
    walk_at "vs"
    by_cases h : 0 < m
    · rw [decide_eq_true (show (0 : Int) < (m : Int) by omega)]
      simp only [if_true]
      rw [if_pos h] at eC
      exact ⟨row, p', rfl, by rw [eC]; rfl, rfl, rfl, rfl⟩
    · rw [decide_eq_false (show ¬ (0 : Int) < (m : Int) by omega)]
      simp only [Bool.false_eq_true, if_false]
      rw [if_neg h] at eC
      exact ⟨row, p', rfl, by rw [eC], rfl, rfl, rfl⟩
  by_cases h0 : 0 < w
  · rw [decide_eq_true (show (0 : Int) < (w : Int) by omega)]
    simp only [if_true]
    have hwl : p' + w ≤ row.length := by
      have z := spanC_le (s := letters.cps.toList) (l := row.cps.toList.drop p')
      rw [← hw, List.length_drop, hl] at z
      omega
    refine ⟨hz, ?_⟩
    rw [e3, cut_is row (p' + w) 95 hwl]
    by_cases hb : row.cps.toList[p' + w]? = some 95
    · rw [decide_eq_true hb]
      simp only [if_true]
      rw [if_pos ⟨h0, hb⟩] at hM
      rw [e4]
      refine ⟨trivial, ⟨row, letters, p' + w + 1, rfl, hz⟩, ?_, fun x t S2 h => h.elim⟩
      rintro t own fr S3 ⟨r2, s2, p2, e5, rfl, rfl, rfl, rfl⟩
      have e6 : [T.str row, T.int (p' + w + 1 : Nat), T.str letters] = [T.str r2, T.int p2, T.str s2] := e5
      simp only [List.cons.injEq, T.str.injEq, T.int.injEq, and_true] at e6
      obtain ⟨rfl, e7, rfl⟩ := e6
      obtain rfl : p2 = p' + w + 1 := by omega
      exact last _ hM.symm
    · rw [decide_eq_false hb]
      simp only [Bool.false_eq_true, if_false]
      rw [if_neg (fun z => hb z.2)] at hM
      exact last 0 hM.symm
  · rw [decide_eq_false (show ¬ (0 : Int) < (w : Int) by omega)]
    simp only [Bool.false_eq_true, if_false]
    rw [if_neg (fun z => h0 z.1)] at hM
    exact last 0 hM.symm
end Vs

-- K24txt
namespace Vs
open PySem PySem.Spec PyProof.Rows L2
theorem len_tl (x : Str) : x.cps.toList.length = x.length := by simp [Str.length]
theorem str_ext {x y : Str} (h : x.cps.toList = y.cps.toList) : x = y := by
  obtain ⟨a⟩ := x
  obtain ⟨b⟩ := y
  exact congrArg Str.mk (Array.toList_inj.mp h)
/-- what stands before the first sign c -/
def cutH (c : Nat) (row : Str) : Str := ⟨(row.cps.toList.takeWhile fun x => decide (x ≠ c)).toArray⟩
theorem cutH_l (c : Nat) (row : Str) : (cutH c row).cps.toList = row.cps.toList.takeWhile fun x => decide (x ≠ c) := rfl
theorem cutH_le (c : Nat) (row : Str) : (cutH c row).length ≤ row.length := by
  rw [← len_tl, ← len_tl, cutH_l]
  exact (List.takeWhile_sublist _).length_le
theorem takeWhile_all {c : Nat} : ∀ {l : List Nat}, c ∉ l → l.takeWhile (fun x => decide (x ≠ c)) = l
  | [], _ => rfl
  | a :: l, h => by
    have e : a ≠ c := fun z => h (by rw [z]; exact List.mem_cons_self)
    rw [List.takeWhile_cons, if_pos (by simpa using e), takeWhile_all fun z => h (List.mem_cons_of_mem _ z)]
theorem cutH_none {c : Nat} {row : Str} (h : c ∉ row.cps.toList) : cutH c row = row := by
  refine str_ext ?_
  rw [cutH_l]
  exact takeWhile_all h
theorem spl_one (c : Nat) : ∀ (l acc : List Nat), ∃ r, TL.spl [c] 0 acc l = (acc ++ l.takeWhile fun x => decide (x ≠ c)) :: r
  | [], acc => ⟨[], by simp [TL.spl]⟩
  | x :: l, acc => by
    unfold TL.spl
    by_cases h : x = c
    · subst h
      refine ⟨TL.spl [x] ([x].length - 1) [] l, ?_⟩
      rw [if_pos (by simp [TL.pre])]
      simp
    · rw [if_neg (by simp [TL.pre]; exact fun z => h (by first | exact z | exact z.symm))]
      obtain ⟨r, e⟩ := spl_one c l (acc ++ [x])
      refine ⟨r, ?_⟩
      rw [e, List.takeWhile_cons, if_pos (by simpa using h)]
      simp
theorem kind_hash (row : Str) (c : Nat) (hc : c < 256) : ¬ Builtin.Str.strKind row < Builtin.Str.strKind ⟨#[c]⟩ := by
  have e : Builtin.Str.strKind ⟨#[c]⟩ = 1 := by
    unfold Builtin.Str.strKind
    rw [if_pos (by simpa using hc)]
  rw [e]
  unfold Builtin.Str.strKind
  split
  · omega
  · split <;> omega
theorem split_head1 (row : Str) (c : Nat) (hc : c < 256) : ∃ r, Txt.split row ⟨#[c]⟩ = cutH c row :: r := by
  have h := TL.split_spl row ⟨#[c]⟩ (by simp [TL.tl]) (kind_hash row c hc)
  have e : TL.tl (⟨#[c]⟩ : Str) = [c] := rfl
  rw [e] at h
  obtain ⟨r, q⟩ := spl_one c row.cps.toList []
  have q : TL.spl [c] 0 [] (TL.tl row) = ([] ++ row.cps.toList.takeWhile fun x => decide (x ≠ c)) :: r := q
  rw [q, List.nil_append] at h
  cases es : Txt.split row ⟨#[c]⟩ with
  | nil => rw [es] at h; simp at h
  | cons a b =>
    rw [es] at h
    simp only [List.map_cons, List.cons.injEq] at h
    exact ⟨b, by rw [show a = cutH c row from str_ext h.1]⟩
theorem at_one (x : Str) (c i : Nat) : StrLaws.At x ⟨#[c]⟩ x.length i ↔ x.cps.toList[i]? = some c := StrLaws.subAt_one x c i
theorem takeWhile_at {c : Nat} : ∀ {l : List Nat} {k : Nat}, l[k]? = some c → (∀ i, i < k → l[i]? ≠ some c) → l.takeWhile (fun x => decide (x ≠ c)) = l.take k
  | [], k, h, _ => by simp at h
  | a :: l, 0, h, _ => by
    have e : a = c := by simpa using h
    simp [e]
  | a :: l, k + 1, h, hn => by
    have e : a ≠ c := fun z => hn 0 (by omega) (by simp [z])
    rw [List.takeWhile_cons, if_pos (by simpa using e), List.take_succ_cons]
    rw [takeWhile_at (k := k) (by simpa using h) fun i hi z => hn (i + 1) (by omega) (by simpa using z)]
theorem index_hash {row : Str} {c : Nat} (h : c ∈ row.cps.toList) : ∃ k : Nat, Txt.index0 row ⟨#[c]⟩ = some k ∧ cutS row none (some (k : Int)) = cutH c row := by
  rcases StrLaws.occ_head row ⟨#[c]⟩ 1 (Nat.le_refl 1) with ⟨_, hn⟩ | ⟨k, r, e, ha, hk⟩
  · obtain ⟨i, hi⟩ := List.mem_iff_getElem?.mp h
    exact absurd ((at_one row c i).mpr hi) (hn i)
  · refine ⟨k, by unfold Txt.index0; rw [e]; rfl, str_ext ?_⟩
    have hk2 := (at_one row c k).mp ha
    have lt : k < row.length := by
      have := (List.getElem?_eq_some_iff.mp hk2).1
      rwa [len_tl] at this
    rw [cutH_l, takeWhile_at hk2 fun i hi z => hk i hi ((at_one row c i).mpr z)]
    unfold cutS
    rw [HT.sIx_none, HT.sIx_nat, Nat.min_eq_left (Nat.le_of_lt lt)]
    show (row.cps.toList.drop 0).take (k - 0) = row.cps.toList.take k
    rw [List.drop_zero, Nat.sub_zero]
end Vs

-- K24p3
namespace Vs
open PySem PySem.Spec PyProof.Rows L2
local macro_rules
  | `(tactic| walk_at "vs") => `(tactic| (first | rw [wB_cons] | rw [wB_nil] | skip) <;> simp only [wS, wE, wEs, wIs, wT, wI, wC, wPar, getV, entV, argV, imm, imms, if_true, if_false, List.length_cons, List.length_nil, List.map_cons, List.map_nil, List.cons_append, List.nil_append, List.getElem?_cons_zero, List.getElem?_cons_succ, Nat.zero_add, Nat.reduceAdd, Nat.reduceSub, List.replicate, List.set_cons_zero, List.set_cons_succ, setV, SV.cl, binW, cmpW, ixW, eqW, biW, meW, isiW, slW, cutW, truT, resV, mkRet, mkTup, mkL, ts, frs, Ds, Bool.false_eq_true, reduceIte])
def figs : Str := "0123456789"
def fspan (l : List Nat) (p : Nat) : Nat := spanC figs.cps.toList (l.drop p)
def sl (row : Str) (a b : Nat) : Str := cutS row (some (a : Int)) (some (b : Int))
def tWord (row : Str) (p q : Nat) : T := .tup [.str "word", .str (sl row p q), .int p]
def tNum (row : Str) (p q : Nat) : T := .tup [.str "number", .int ((intText? (sl row p q)).getD 0), .int p]
def tQuo (row : Str) (p q : Nat) : T := .tup [.str "quote", .str (sl row (p + 1) q), .int p]
def tSig (c p : Nat) : T := .tup [.str "sign", .str ⟨#[c]⟩, .int p]
/-- what stands at p: its tokens, where the next one begins -/
def tokAt (row : Str) (p c : Nat) : Option (List T × Nat) :=
  if 0 < wordC row.cps.toList p then some ([tWord row p (p + wordC row.cps.toList p)], p + wordC row.cps.toList p)
  else if 0 < fspan row.cps.toList p then some ([tNum row p (p + fspan row.cps.toList p)], p + fspan row.cps.toList p)
  else if c = 39 ∧ 0 < wordC row.cps.toList (p + 1) then some ([tQuo row p (p + 1 + wordC row.cps.toList (p + 1))], p + 1 + wordC row.cps.toList (p + 1))
  else if c ∈ [40, 41, 44] then some ([tSig c p], p + 1)
  else if c = 32 then some ([], p + 1)
  else none
def scan (row : Str) (p : Nat) (acc : List T) : T := match row.cps.toList[p]? with
  | none => .tup [.lst acc, .non]
  | some c => match tokAt row p c with
    | none => .tup [.lst acc, .int p]
    | some (ts, q) => if h : p < q ∧ p < row.length then scan row q (acc ++ ts) else .non
termination_by row.length - p
decreasing_by omega
theorem scan_done {row : Str} {p : Nat} {acc : List T} (h : row.cps.toList[p]? = none) : scan row p acc = .tup [.lst acc, .non] := by
  rw [scan, h]
theorem scan_bad {row : Str} {p c : Nat} {acc : List T} (h : row.cps.toList[p]? = some c) (ht : tokAt row p c = none) : scan row p acc = .tup [.lst acc, .int p] := by
  rw [scan, h]
  simp only [ht]
theorem scan_go {row : Str} {p c q : Nat} {acc ts : List T} (h : row.cps.toList[p]? = some c) (ht : tokAt row p c = some (ts, q)) (hq : p < q) : scan row p acc = scan row q (acc ++ ts) := by
  have lt : p < row.length := by
    have := (List.getElem?_eq_some_iff.mp h).1
    rwa [len_tl] at this
  rw [scan, h]
  simp only [ht]
  rw [dif_pos ⟨hq, lt⟩]
theorem drop_at {l : List Nat} {p c : Nat} (h : l[p]? = some c) : l.drop p = c :: l.drop (p + 1) := by
  obtain ⟨lt, e⟩ := List.getElem?_eq_some_iff.mp h
  rw [List.drop_eq_getElem_cons lt, e]
theorem span_pos {s l : List Nat} {p c : Nat} (h : l[p]? = some c) : 0 < spanC s (l.drop p) ↔ c ∈ s := by
  rw [drop_at h, spanC_cons]
  split
  · simp_all
  · simp_all
theorem span_room {s l : List Nat} {p : Nat} (hp : p ≤ l.length) : p + spanC s (l.drop p) ≤ l.length := by
  have := spanC_le (s := s) (l := l.drop p)
  rw [List.length_drop] at this
  omega
theorem word_pos {l : List Nat} {p c : Nat} (h : l[p]? = some c) : 0 < wordC l p ↔ c ∈ letters.cps.toList := by
  rw [← span_pos (s := letters.cps.toList) h]
  unfold wordC
  simp only
  split
  · rename_i hw
    split
    · exact ⟨fun _ => hw.1, fun _ => by omega⟩
    · exact Iff.rfl
  · rw [if_neg (by omega)]
theorem word_room {l : List Nat} {p : Nat} (hp : p ≤ l.length) : p + wordC l p ≤ l.length := by
  unfold wordC
  simp only
  have h1 := span_room (s := letters.cps.toList) hp
  split
  · rename_i hw
    have lt := (List.getElem?_eq_some_iff.mp hw.2).1
    have h2 := span_room (s := letters.cps.toList) (l := l) (p := p + spanC letters.cps.toList (l.drop p) + 1) (by omega)
    split <;> omega
  · rw [if_neg (by omega)]
    omega
theorem word_over {l : List Nat} {p : Nat} (hp : l.length ≤ p) : wordC l p = 0 := by
  unfold wordC
  simp only
  rw [List.drop_eq_nil_of_le hp, spanC_nil]
  simp
/-- the texts of figures are numbers -/
theorem span_all {s : List Nat} : ∀ (l : List Nat), ∀ c ∈ l.take (spanC s l), c ∈ s
  | [], c, h => by simp [spanC_nil] at h
  | a :: l, c, h => by
    rw [spanC_cons] at h
    by_cases ha : a ∈ s
    · rw [if_pos ha, List.take_succ_cons] at h
      rcases List.mem_cons.mp h with rfl | h
      · exact ha
      · exact span_all l c h
    · rw [if_neg ha] at h; simp at h
theorem sl_l {row : Str} {a b : Nat} (hb : b ≤ row.length) (hab : a ≤ b) : (sl row a b).cps.toList = (row.cps.toList.drop a).take (b - a) := by
  unfold sl cutS
  rw [HT.sIx_nat, HT.sIx_nat, Nat.min_eq_left hb, Nat.min_eq_left (by omega)]
theorem fig_num {row : Str} {p : Nat} (hp : p ≤ row.length) (hl : row.length ≤ 640) (h : 0 < fspan row.cps.toList p) :
    (sl row p (p + fspan row.cps.toList p)).length ≤ 640 ∧ intText? (sl row p (p + fspan row.cps.toList p)) = some ((intText? (sl row p (p + fspan row.cps.toList p))).getD 0) := by
  have hr := span_room (s := figs.cps.toList) (l := row.cps.toList) (p := p) (by rw [len_tl]; exact hp)
  rw [len_tl] at hr
  have e := sl_l (row := row) (a := p) (b := p + fspan row.cps.toList p) hr (by omega)
  rw [Nat.add_sub_cancel_left] at e
  have len : (sl row p (p + fspan row.cps.toList p)).length ≤ 640 := by
    rw [← len_tl, e, List.length_take]
    have : fspan row.cps.toList p ≤ row.length := by unfold fspan; omega
    omega
  refine ⟨len, ?_⟩
  have all : NumText.AllDigits (sl row p (p + fspan row.cps.toList p)).cps.toList := by
    rw [e]
    intro c hc
    have hm := span_all (s := figs.cps.toList) _ c hc
    have : ∀ x ∈ figs.cps.toList, 48 ≤ x ∧ x ≤ 57 := by decide
    exact this c hm
  have ne : (sl row p (p + fspan row.cps.toList p)).cps.toList ≠ [] := by
    rw [e]
    intro z
    have z2 := congrArg List.length z
    rw [List.length_take, List.length_drop, len_tl, List.length_nil] at z2
    unfold fspan at z2 h
    omega
  rw [intText_digits all ne (by omega)]
  rfl
def cRowTokens : Con GS where
  pre := fun tr S => ∃ row : Str, tr = [.str row] ∧ row.length ≤ 640
  post := fun tr S t own fr S' => ∃ row : Str, tr = [.str row] ∧ t = scan (cutH 35 row) 0 [] ∧ own = false ∧ fr = true ∧ S' = S
end Vs

-- K24p4
namespace Vs
open PySem PySem.Spec PyProof.Rows L2
theorem imms_strs {l : List Str} : imms (l.map T.str) = true := by
  induction l with
  | nil => rfl
  | cons a r ih => simp [imms, imm, ih]
theorem imms_strsF {α : Type} {f : α → Str} : ∀ {l : List α}, imms (l.map fun x => T.str (f x)) = true
  | [] => rfl
  | _ :: r => by simp [imms, imm, imms_strsF (l := r)]
theorem joinD_nil : joinD [] [] = [] := rfl
theorem poison_nil {i : Nat} {ε : VEnv} : poison i [] ε = ε := rfl
local macro_rules
  | `(tactic| walk_at "vs") => `(tactic| (first | rw [wB_cons] | rw [wB_nil] | skip) <;> try simp only [joinD_nil, poison_nil, Bool.false_and, Bool.true_and, Bool.and_true, Bool.and_self, List.all_cons, List.all_nil, List.flatMap_cons, List.flatMap_nil, List.append_nil, wS, wE, wEs, wIs, wT, wI, wC, wPar, getV, entV, argV, imm, imms, if_true, if_false, List.length_cons, List.length_nil, List.map_cons, List.map_nil, List.cons_append, List.nil_append, List.getElem?_cons_zero, List.getElem?_cons_succ, Nat.zero_add, Nat.reduceAdd, Nat.reduceSub, List.replicate, List.set_cons_zero, List.set_cons_succ, setV, SV.cl, binW, cmpW, ixW, eqW, biW, meW, isiW, slW, cutW, truT, resV, mkRet, mkTup, mkL, ts, frs, Ds, Bool.false_eq_true, reduceIte, push, moveAll, moveV, SV.moved, recvT, true_and, Option.bind_some, imms_strs, ite_true, List.take_succ_cons, List.take_zero])
theorem row_tokens_ok {Γ : Gam GS} (h1 : Γ.fn 1 = cRunEnd) (a1 : Γ.ar 1 = 3) (h2 : Γ.fn 2 = cWordEnd) (a2 : Γ.ar 2 = 2) (g0 : Γ.con 0 = .str letters) (g1 : Γ.con 1 = .str figs)
    (tr : List T) (S : GS) (_ : tr.length = 1) (hp : cRowTokens.pre tr S) : wB Γ K24.v_row_tokens (entV 5 tr) S (endC cRowTokens tr S) := by
  obtain ⟨row0, rfl, hz⟩ := hp
  obtain ⟨rest, hsp⟩ := split_head1 row0 35 (by decide)
  have eh : (Str.ofString "#") = (⟨#[35]⟩ : Str) := by rfl
  simp only [K24.v_row_tokens]
  walk_at "vs"
  rw [eh, hsp]
  refine ⟨by decide, ?_⟩
  walk_at "vs"
  refine ⟨by decide, by rw [sizeLine_eq]; omega, T.str (cutH 35 row0), atI_nat (i := 0) (by rfl), ?_⟩
  walk_at "vs"
  obtain ⟨row, hrow⟩ : ∃ row, row = cutH 35 row0 := ⟨_, rfl⟩
  have hz1 : row.length ≤ 640 := by
    have := cutH_le 35 row0
    rw [← hrow] at this
    omega
  rw [← hrow]
  have hz2 : row.length ≤ sizeLine := by rw [sizeLine_eq]; omega
  have hlen := len_tl row
  have fin : ∀ t, t = scan row 0 [] → (endC cRowTokens [T.str row0] S).rt { t := t, own := false, fr := true, D := [1] } S := fun t e => ⟨row0, rfl, by rw [e, hrow], rfl, rfl, rfl⟩
  refine ⟨_, rfl, ?_⟩
  walk_at "vs"
  refine ⟨fun m ε S' => ∃ (p : Nat) (acc : List T) (x3 x4 : Option SV), m = row.length - p ∧ p ≤ row.length ∧ acc.length ≤ p ∧ ε = [some { t := T.str row }, some { t := T.lst acc, own := true }, some { t := T.int p }, x3, x4] ∧ S' = S ∧ scan row p acc = scan row 0 [],
    ⟨_, 0, [], none, none, rfl, Nat.zero_le _, Nat.le_refl _, rfl, rfl, rfl⟩, ?_⟩
  rintro m ε S' ⟨p, acc, x3, x4, rfl, hp, hal, rfl, rfl, hs⟩
  walk_at "vs"
  refine ⟨hz2, ?_⟩
  by_cases hlt : p < row.length
  · obtain ⟨c, hc⟩ : ∃ c, row.cps.toList[p]? = some c := ⟨row.cps.toList[p]'(by omega), List.getElem?_eq_getElem _⟩
    rw [decide_eq_true (show ((p : Int) < (row.length : Int)) by omega)]
    simp only [if_true]
    walk_at "vs"
    refine ⟨hz2, c, atI_nat hc, ?_⟩
    refine ⟨_, rfl, ?_⟩
    walk_at "vs"
    have clos : ∀ (ts : List T) (q : Nat) (x : Option SV), tokAt row p c = some (ts, q) → p < q → q ≤ row.length → ts.length ≤ 1 → ∃ m', m' < row.length - p ∧ ∃ (p : Nat) (acc2 : List T) (x3 x4 : Option SV), m' = row.length - p ∧ p ≤ row.length ∧ acc2.length ≤ p ∧
        [some { t := T.str row }, some { t := T.lst (acc ++ ts), own := true }, some { t := T.int (q : Nat) }, x, some { t := T.int (q : Nat) }] = [some { t := T.str row }, some { t := T.lst acc2, own := true }, some { t := T.int (p : Nat) }, x3, x4] ∧ S' = S' ∧ scan row p acc2 = scan row 0 [] :=
      fun ts q x ht hq hqr hts => ⟨row.length - q, by omega, q, acc ++ ts, x, _, rfl, hqr, by simp; omega, rfl, rfl, by rw [← hs, ← scan_go hc ht hq]⟩
    have e1 : ((p : Int) + 1) = ((p + 1 : Nat) : Int) := by omega
    have hwr := word_room (l := row.cps.toList) (p := p) (by omega)
    have hwr2 := word_room (l := row.cps.toList) (p := p + 1) (by omega)
    have hfr : p + fspan row.cps.toList p ≤ row.cps.toList.length := span_room (by omega)
    simp only [g0, g1, isIn_one]
    by_cases hL : c ∈ letters.cps.toList
    · rw [decide_eq_true hL]
      have hw := (word_pos hc).mpr hL
      have ht : tokAt row p c = some ([tWord row p (p + wordC row.cps.toList p)], p + wordC row.cps.toList p) := by unfold tokAt; rw [if_pos hw]
      simp only [if_true]
      walk_at "vs"
      simp only [h2, a2]
      refine ⟨trivial, ⟨row, p, rfl, by omega, hp⟩, ?_, fun x t S2 h => h.elim⟩
      rintro t own fr S2 ⟨r2, p2, e, rfl, rfl, rfl, rfl⟩
      obtain ⟨rfl, rfl⟩ : r2 = row ∧ p2 = p := by
        have e' : [T.str row, T.int p] = [T.str r2, T.int p2] := e
        simp only [List.cons.injEq, T.str.injEq, T.int.injEq, and_true] at e'
        exact ⟨e'.1.symm, by omega⟩
      walk_at "vs"
      refine ⟨hz2, by rw [sizeLine_eq]; decide, by rw [sizeLine_eq]; omega, by simp, ?_⟩
      walk_at "vs"
      walk_at "vs"
      exact clos _ _ _ ht (by omega) (by omega) (by simp)
    · rw [decide_eq_false hL]
      have hw : ¬ 0 < wordC row.cps.toList p := fun z => hL ((word_pos hc).mp z)
      simp only [Bool.false_eq_true, if_false]
      walk_at "vs"
      simp only [g0, g1, isIn_one]
      by_cases hF : c ∈ figs.cps.toList
      · rw [decide_eq_true hF]
        have hf : 0 < fspan row.cps.toList p := (span_pos hc).mpr hF
        have ht : tokAt row p c = some ([tNum row p (p + fspan row.cps.toList p)], p + fspan row.cps.toList p) := by unfold tokAt; rw [if_neg hw, if_pos hf]
        simp only [if_true]
        walk_at "vs"
        simp only [h1, a1, g1]
        refine ⟨trivial, ⟨row, figs, p, rfl, hz2, hp⟩, ?_, fun x t S2 h => h.elim⟩
        rintro t own fr S2 ⟨r2, s2, p2, e, rfl, rfl, rfl, rfl⟩
        obtain ⟨rfl, rfl, rfl⟩ : r2 = row ∧ p2 = p ∧ s2 = figs := by
          have e' : [T.str row, T.int p, T.str figs] = [T.str r2, T.int p2, T.str s2] := e
          simp only [List.cons.injEq, T.str.injEq, T.int.injEq, and_true] at e'
          exact ⟨e'.1.symm, by omega, e'.2.2.symm⟩
        obtain ⟨n1, n2⟩ := fig_num hp hz1 hf
        have hf2 : 0 < spanC figs.cps.toList (List.drop p2 r2.cps.toList) := hf
        have hfr2 : p2 + spanC figs.cps.toList (List.drop p2 r2.cps.toList) ≤ r2.cps.toList.length := hfr
        walk_at "vs"
        refine ⟨hz2, n1, _, n2, by rw [sizeLine_eq]; decide, by rw [sizeLine_eq]; omega, by simp, ?_⟩
        walk_at "vs"
        walk_at "vs"
        exact clos _ _ _ ht (by omega) (by omega) (by simp)
      · rw [decide_eq_false hF]
        have hf : ¬ 0 < fspan row.cps.toList p := fun z => hF ((span_pos hc).mp z)
        simp only [Bool.false_eq_true, if_false]
        walk_at "vs"
        simp only [isIn_one]
        have es : (Str.ofString "(),").cps.toList = [40, 41, 44] := by rfl
        rw [es]
        by_cases hS : c ∈ [40, 41, 44]
        · rw [decide_eq_true hS]
          have hq : ¬ (c = 39 ∧ 0 < wordC row.cps.toList (p + 1)) := fun z => by
            rw [z.1] at hS
            revert hS; decide
          have ht : tokAt row p c = some ([tSig c p], p + 1) := by unfold tokAt; rw [if_neg hw, if_neg hf, if_neg hq, if_pos hS]
          simp only [if_true]
          walk_at "vs"
          refine ⟨by rw [sizeLine_eq]; decide, by rw [sizeLine_eq]; omega, by simp, ?_⟩
          walk_at "vs"
          walk_at "vs"
          rw [e1]
          exact clos _ _ _ ht (by omega) (by omega) (by simp)
        · rw [decide_eq_false hS]
          simp only [Bool.false_eq_true, if_false]
          walk_at "vs"
          have esp : (Str.ofString " ") = (⟨#[32]⟩ : Str) := by rfl
          have eap : (Str.ofString "'") = (⟨#[39]⟩ : Str) := by rfl
          have one : ∀ d : Nat, decide ((⟨#[c]⟩ : Str) = (⟨#[d]⟩ : Str)) = decide (c = d) := fun d => decide_eq_decide.mpr (by simp)
          rw [esp, one]
          by_cases hB : c = 32
          · rw [decide_eq_true hB]
            have hq : ¬ (c = 39 ∧ 0 < wordC row.cps.toList (p + 1)) := fun z => by omega
            have ht : tokAt row p c = some ([], p + 1) := by unfold tokAt; rw [if_neg hw, if_neg hf, if_neg hq, if_neg hS, if_pos hB]
            simp only [Bool.not_true, Bool.false_eq_true, if_false]
            walk_at "vs"
            walk_at "vs"
            walk_at "vs"
            walk_at "vs"
            rw [e1]
            have q := clos [] (p + 1) (some { t := T.str ⟨#[c]⟩ }) ht (by omega) (by omega) (by simp)
            rw [List.append_nil] at q
            exact q
          · rw [decide_eq_false hB]
            simp only [Bool.not_false, if_true]
            walk_at "vs"
            simp only [h2, a2]
            rw [e1]
            refine ⟨trivial, ⟨row, p + 1, rfl, by omega, hlt⟩, ?_, fun x t S2 h => h.elim⟩
            rintro t own fr S2 ⟨r2, p2, e, rfl, rfl, rfl, rfl⟩
            have e' : [T.str row, T.int (p + 1 : Nat)] = [T.str r2, T.int p2] := e
            simp only [List.cons.injEq, T.str.injEq, T.int.injEq, and_true] at e'
            obtain ⟨rfl, e6⟩ := e'
            obtain rfl : p2 = p + 1 := by omega
            walk_at "vs"
            simp only [eap, one, e1]
            have bad : ∀ (u : T), tokAt row p c = none → u = T.tup [T.lst acc, T.int p] → (endC cRowTokens [T.str row0] S2).rt { t := u, own := false, fr := true, D := [1] } S2 := fun u ht eu => fin u (by rw [eu, ← hs, scan_bad hc ht])
            by_cases hA : c = 39
            · rw [decide_eq_true hA]
              simp only [Bool.not_true, Bool.false_eq_true, if_false]
              by_cases hW : 0 < wordC row.cps.toList (p + 1)
              · rw [decide_eq_false (show ¬ (((p + 1 + wordC row.cps.toList (p + 1) : Nat) : Int) = ((p + 1 : Nat) : Int)) by omega)]
                have ht : tokAt row p c = some ([tQuo row p (p + 1 + wordC row.cps.toList (p + 1))], p + 1 + wordC row.cps.toList (p + 1)) := by unfold tokAt; rw [if_neg hw, if_neg hf, if_pos ⟨hA, hW⟩]
                simp only [Bool.false_eq_true, if_false]
                walk_at "vs"
                walk_at "vs"
                simp only [e1]
                refine ⟨hz2, by rw [sizeLine_eq]; decide, by rw [sizeLine_eq]; omega, by simp, ?_⟩
                walk_at "vs"
                walk_at "vs"
                exact clos _ _ _ ht (by omega) (by omega) (by simp)
              · rw [decide_eq_true (show (((p + 1 + wordC row.cps.toList (p + 1) : Nat) : Int) = ((p + 1 : Nat) : Int)) by omega)]
                have ht : tokAt row p c = none := by unfold tokAt; rw [if_neg hw, if_neg hf, if_neg (fun z => hW z.2), if_neg hS, if_neg hB]
                simp only [if_true]
                walk_at "vs"
                exact ⟨by rw [sizeLine_eq]; decide, bad _ ht rfl⟩
            · rw [decide_eq_false hA]
              have ht : tokAt row p c = none := by unfold tokAt; rw [if_neg hw, if_neg hf, if_neg (fun z => hA z.1), if_neg hS, if_neg hB]
              simp only [Bool.not_false, if_true]
              walk_at "vs"
              exact ⟨by rw [sizeLine_eq]; decide, bad _ ht rfl⟩
  · rw [decide_eq_false (show ¬ ((p : Int) < (row.length : Int)) by omega)]
    simp only [Bool.false_eq_true, if_false]
    walk_at "vs"
    rw [scan_done (List.getElem?_eq_none (by omega))] at hs
    exact ⟨by rw [sizeLine_eq]; decide, fin _ hs⟩
end Vs

-- K24lb
namespace Vs
open PySem PySem.Spec PyProof.Rows L2
def lb__law_row_tokens : VB := (.cons (.par [5, 6] (.cons (.call 12 (.cons (.v 0) (.cons (.v 3) (.nil)))) (.cons (.call 11 (.cons (.v 0) (.cons (.v 3) (.cons (.k (.str "0123456789")) (.nil))))) (.nil)))) (.cons (.set 7 (.ife (.cmp .Eq (.v 4) (.k (.str "'"))) (.call 12 (.cons (.v 0) (.cons (.bin .Add (.v 3) (.k (.int 1))) (.nil)))) (.k (.int 0)))) (.cons (.ite (.cmp .Gt (.v 2) (.k (.int 0))) (.cons (.set 2 (.bin .Sub (.v 2) (.k (.int 1)))) (.nil)) (.cons (.ite (.cmp .Gt (.v 5) (.k (.int 0))) (.cons (.app 1 (.tup (.cons (.k (.str "word")) (.cons (.sl true true (.v 0) (.cons (.v 3) (.cons (.bin .Add (.v 3) (.v 5)) (.nil)))) (.cons (.v 3) (.nil)))))) (.cons (.set 2 (.bin .Sub (.v 5) (.k (.int 1)))) (.nil))) (.cons (.ite (.cmp .Gt (.v 6) (.k (.int 0))) (.cons (.app 1 (.tup (.cons (.k (.str "number")) (.cons (.bi .int (.cons (.sl true true (.v 0) (.cons (.v 3) (.cons (.bin .Add (.v 3) (.v 6)) (.nil)))) (.nil))) (.cons (.v 3) (.nil)))))) (.cons (.set 2 (.bin .Sub (.v 6) (.k (.int 1)))) (.nil))) (.cons (.ite (.cmp .Gt (.v 7) (.k (.int 0))) (.cons (.app 1 (.tup (.cons (.k (.str "quote")) (.cons (.sl true true (.v 0) (.cons (.bin .Add (.v 3) (.k (.int 1))) (.cons (.bin .Add (.bin .Add (.v 3) (.k (.int 1))) (.v 7)) (.nil)))) (.cons (.v 3) (.nil)))))) (.cons (.set 2 (.v 7)) (.nil))) (.cons (.ite (.cmp .In (.v 4) (.k (.str "(),"))) (.cons (.app 1 (.tup (.cons (.k (.str "sign")) (.cons (.v 4) (.cons (.v 3) (.nil)))))) (.nil)) (.cons (.ite (.cmp .NotEq (.v 4) (.k (.str " "))) (.cons (.ret (.tup (.cons (.v 1) (.cons (.v 3) (.nil))))) (.nil)) (.nil)) (.nil))) (.nil))) (.nil))) (.nil))) (.nil))) (.nil))))
def lb_tokens : VB := (.cons (.setT (.tp (.cons (.nm 4) (.cons (.nm 5) (.nil)))) (.call 3 (.cons (.v 3) (.nil)))) (.cons (.ite (.cmp .IsNot (.v 5) (.k .non)) (.cons (.rai 2 (.tup (.cons (.v 2) (.cons (.v 5) (.nil))))) (.nil)) (.nil)) (.cons (.app 1 (.v 4)) (.nil))))
def lb__law_drawn_row : VB := (.cons (.set 4 (.call 7 (.cons (.v 0) (.cons (.bin .Add (.bin .Add (.v 2) (.bi .list (.cons (.k (.str "(),")) (.nil)))) (.lst (.cons (.k (.str " ")) (.cons (.k (.str "  ")) (.cons (.k (.str " ")) (.cons (.k (.str " ")) (.nil))))))) (.nil))))) (.cons (.set 5 (.bin .Sub (.bi .len (.cons (.v 1) (.nil))) (.bi .len (.cons (.me .rstrip (.v 1) (.cons (.k (.str "0123456789")) (.nil))) (.nil))))) (.cons (.set 1 (.bin .Add (.v 1) (.ife (.and (.me .isdigit (.v 4) (.nil)) (.cmp .Gt (.bin .Add (.v 5) (.bi .len (.cons (.v 4) (.nil)))) (.k (.int 30)))) (.bin .Add (.k (.str " ")) (.v 4)) (.v 4)))) (.nil))))
end Vs

-- K24p5
namespace Vs
open PySem PySem.Spec PyProof.Rows L2
local macro_rules
  | `(tactic| walk_at "vs") => `(tactic| (first | rw [wB_cons] | rw [wB_nil] | skip) <;> try simp only [joinD_nil, poison_nil, Bool.false_and, Bool.true_and, Bool.and_true, Bool.and_self, List.all_cons, List.all_nil, List.flatMap_cons, List.flatMap_nil, List.append_nil, wS, wE, wEs, wIs, wT, wI, wC, wPar, getV, entV, argV, imm, imms, if_true, if_false, List.length_cons, List.length_nil, List.map_cons, List.map_nil, List.cons_append, List.nil_append, List.getElem?_cons_zero, List.getElem?_cons_succ, Nat.zero_add, Nat.reduceAdd, Nat.reduceSub, List.replicate, List.set_cons_zero, List.set_cons_succ, setV, SV.cl, binW, cmpW, ixW, eqW, biW, meW, isiW, slW, cutW, truT, resV, mkRet, mkTup, mkL, ts, frs, Ds, Bool.false_eq_true, reduceIte, push, moveAll, moveV, SV.moved, recvT, true_and, Option.bind_some, imms_strs, ite_true, List.take_succ_cons, List.take_zero])
theorem lrt_loop {Γ : Gam GS} (h1 : Γ.fn 11 = cSpan) (a1 : Γ.ar 11 = 3) (h2 : Γ.fn 12 = cWordSpan) (a2 : Γ.ar 12 = 2) {row : Str} {S : GS} {D : Dn GS} {R : T} (hz1 : row.length ≤ 640)
    (hnx : ∀ acc x2 x3 x4 x5 x6 x7, T.tup [.lst acc, .non] = R → D.nx [some { t := .str row, D := [8] }, some { t := .lst acc, own := true }, x2, x3, x4, x5, x6, x7] S)
    (hrt : ∀ acc (p : Nat), T.tup [.lst acc, .int p] = R → D.rt { t := .tup [.lst acc, .int p], own := false, fr := true, D := [1] } S) :
    ∀ (l : List Nat) (p k : Nat) (acc : List T) (x3 x4 x5 x6 x7 : Option SV), row.cps.toList.drop p = l → p + k ≤ row.length → acc.length ≤ p → scan row (p + k) acc = R →
      wLoop (.tp (.cons (.nm 3) (.cons (.nm 4) .nil))) 8 [(8, T.str row)] (fun ε2 S2 D2 => wB Γ lb__law_row_tokens ε2 S2 D2) D (enumT p (l.map fun c => .str ⟨#[c]⟩))
        [some { t := .str row, D := [8] }, some { t := .lst acc, own := true }, some { t := .int k }, x3, x4, x5, x6, x7, some { t := .str row, D := [0] }] S := by
  have hz2 : row.length ≤ sizeLine := by rw [sizeLine_eq]; omega
  have hlen := len_tl row
  intro l
  induction l with
  | nil =>
    intro p k acc x3 x4 x5 x6 x7 hl hpk hal hs
    have hp : row.length ≤ p := by
      have z := congrArg List.length hl
      rw [List.length_drop, hlen, List.length_nil] at z
      omega
    simp only [List.map_nil, enumT, wLoop, hidE, List.getElem?_cons_succ, List.getElem?_cons_zero, List.take_succ_cons, List.take_zero, true_and, and_true]
    refine hnx acc _ _ _ _ _ _ ?_
    rw [← hs, scan_done (List.getElem?_eq_none (by omega))]
  | cons c r ih =>
    intro p k acc x3 x4 x5 x6 x7 hl hpk hal hs
    have hc : row.cps.toList[p]? = some c := by
      have z := congrArg (fun l => l[0]?) hl
      simpa using z
    have hr : row.cps.toList.drop (p + 1) = r := by
      rw [← List.drop_drop, hl]; rfl
    have hlt : p < row.length := by
      have := (List.getElem?_eq_some_iff.mp hc).1
      omega
    simp only [List.map_cons, enumT, wLoop, hidE, List.getElem?_cons_succ, List.getElem?_cons_zero, true_and, and_true]
    simp only [wG, wGs, vtLen, slotsT, slotsTs, itemV, SV.cl, imm, imms, if_true, Bool.and_self, setV, List.length_cons, List.length_nil, Nat.zero_add, Nat.reduceAdd, true_and, List.set_cons_succ, List.set_cons_zero]
    simp only [lb__law_row_tokens]
    walk_at "vs"
    simp only [h1, a1, h2, a2]
    refine ⟨trivial, ⟨row, p, rfl, hz2⟩, ?_, fun x t S2 h => h.elim⟩
    rintro t own fr S2 ⟨rw_, pw_, e, rfl, rfl, rfl, rfl⟩
    obtain ⟨rfl, rfl⟩ : rw_ = row ∧ pw_ = p := by
      have e' : [T.str row, T.int p] = [T.str rw_, T.int pw_] := e
      simp only [List.cons.injEq, T.str.injEq, T.int.injEq, and_true] at e'
      exact ⟨e'.1.symm, by omega⟩
    walk_at "vs"
    refine ⟨⟨rw_, figs, pw_, rfl, hz2⟩, ?_, fun x t S2 h => h.elim⟩
    rintro t own fr S3 ⟨r2, s2, p2, e2, rfl, rfl, rfl, rfl⟩
    obtain ⟨rfl, rfl, rfl⟩ : r2 = rw_ ∧ p2 = pw_ ∧ s2 = figs := by
      have e' : [T.str rw_, T.int pw_, T.str figs] = [T.str r2, T.int p2, T.str s2] := e2
      simp only [List.cons.injEq, T.str.injEq, T.int.injEq, and_true] at e'
      exact ⟨e'.1.symm, by omega, e'.2.2.symm⟩
    walk_at "vs"
    refine ⟨_, rfl, ?_⟩
    have esp : (Str.ofString " ") = (⟨#[32]⟩ : Str) := by rfl
    have eap : (Str.ofString "'") = (⟨#[39]⟩ : Str) := by rfl
    have one : ∀ d : Nat, decide ((⟨#[c]⟩ : Str) = (⟨#[d]⟩ : Str)) = decide (c = d) := fun d => decide_eq_decide.mpr (by simp)
    have e1 : ((p2 : Int) + 1) = ((p2 + 1 : Nat) : Int) := by omega
    obtain ⟨w, hw⟩ : ∃ w, w = wordC r2.cps.toList p2 := ⟨_, rfl⟩
    obtain ⟨f, hf⟩ : ∃ f, f = spanC figs.cps.toList (r2.cps.toList.drop p2) := ⟨_, rfl⟩
    obtain ⟨v, hv⟩ : ∃ v, v = if c = 39 then wordC r2.cps.toList (p2 + 1) else 0 := ⟨_, rfl⟩
    have hwr := word_room (l := r2.cps.toList) (p := p2) (by omega)
    have hwr2 := word_room (l := r2.cps.toList) (p := p2 + 1) (by omega)
    have hfr : p2 + f ≤ r2.cps.toList.length := by rw [hf]; exact span_room (by omega)
    have hff : fspan r2.cps.toList p2 = f := by rw [hf]; rfl
    rw [← hw] at hwr
    rw [← hw, ← hf]
    -- the rest of the turn
    have turn : ∀ x7', x7' = some { t := T.int v, own := false, fr := true, D := [] } → wB Γ
        (.cons (.ite (.cmp .Gt (.v 2) (.k (.int 0))) (.cons (.set 2 (.bin .Sub (.v 2) (.k (.int 1)))) (.nil)) (.cons (.ite (.cmp .Gt (.v 5) (.k (.int 0))) (.cons (.app 1 (.tup (.cons (.k (.str "word")) (.cons (.sl true true (.v 0) (.cons (.v 3) (.cons (.bin .Add (.v 3) (.v 5)) (.nil)))) (.cons (.v 3) (.nil)))))) (.cons (.set 2 (.bin .Sub (.v 5) (.k (.int 1)))) (.nil))) (.cons (.ite (.cmp .Gt (.v 6) (.k (.int 0))) (.cons (.app 1 (.tup (.cons (.k (.str "number")) (.cons (.bi .int (.cons (.sl true true (.v 0) (.cons (.v 3) (.cons (.bin .Add (.v 3) (.v 6)) (.nil)))) (.nil))) (.cons (.v 3) (.nil)))))) (.cons (.set 2 (.bin .Sub (.v 6) (.k (.int 1)))) (.nil))) (.cons (.ite (.cmp .Gt (.v 7) (.k (.int 0))) (.cons (.app 1 (.tup (.cons (.k (.str "quote")) (.cons (.sl true true (.v 0) (.cons (.bin .Add (.v 3) (.k (.int 1))) (.cons (.bin .Add (.bin .Add (.v 3) (.k (.int 1))) (.v 7)) (.nil)))) (.cons (.v 3) (.nil)))))) (.cons (.set 2 (.v 7)) (.nil))) (.cons (.ite (.cmp .In (.v 4) (.k (.str "(),"))) (.cons (.app 1 (.tup (.cons (.k (.str "sign")) (.cons (.v 4) (.cons (.v 3) (.nil)))))) (.nil)) (.cons (.ite (.cmp .NotEq (.v 4) (.k (.str " "))) (.cons (.ret (.tup (.cons (.v 1) (.cons (.v 3) (.nil))))) (.nil)) (.nil)) (.nil))) (.nil))) (.nil))) (.nil))) (.nil))) (.nil))
        [some { t := T.str r2, D := [8] }, some { t := T.lst acc, own := true }, some { t := T.int k }, some { t := T.int p2 }, some { t := T.str ⟨#[c]⟩ }, some { t := T.int w }, some { t := T.int f }, x7', some { t := T.str r2, D := [0] }] S3
        { nx := wLoop (.tp (.cons (.nm 3) (.cons (.nm 4) .nil))) 8 [(8, T.str r2)] (fun ε2 S2 D2 => wB Γ lb__law_row_tokens ε2 S2 D2) D (enumT (p2 + 1) (r.map fun c => T.str ⟨#[c]⟩)), rt := D.rt, ex := D.ex, bk := fun ε2 S2 => D.nx (ε2.take 8) S2, ct := wLoop (.tp (.cons (.nm 3) (.cons (.nm 4) .nil))) 8 [(8, T.str r2)] (fun ε2 S2 D2 => wB Γ lb__law_row_tokens ε2 S2 D2) D (enumT (p2 + 1) (r.map fun c => T.str ⟨#[c]⟩)) } := by
      rintro _ rfl
      walk_at "vs"
      by_cases hk : 0 < k
      · rw [decide_eq_true (show ((0 : Int) < (k : Int)) by omega)]
        simp only [if_true]
        walk_at "vs"
        walk_at "vs"
        walk_at "vs"
        rw [show ((k : Int) - 1) = ((k - 1 : Nat) : Int) by omega]
        exact ih (p2 + 1) (k - 1) acc _ _ _ _ _ hr (by omega) (by omega) (by rw [show p2 + 1 + (k - 1) = p2 + k by omega]; exact hs)
      · obtain rfl : k = 0 := by omega
        rw [Nat.add_zero] at hs
        rw [decide_eq_false (show ¬ ((0 : Int) < ((0 : Nat) : Int)) by omega)]
        simp only [Bool.false_eq_true, if_false]
        walk_at "vs"
        by_cases hw0 : 0 < w
        · rw [decide_eq_true (show ((0 : Int) < (w : Int)) by omega)]
          have ht : tokAt r2 p2 c = some ([tWord r2 p2 (p2 + w)], p2 + w) := by unfold tokAt; rw [← hw, if_pos hw0]
          simp only [if_true]
          walk_at "vs"
          simp only [show ((p2 : Int) + (w : Int)) = ((p2 + w : Nat) : Int) by omega]
          refine ⟨hz2, by rw [sizeLine_eq]; decide, by rw [sizeLine_eq]; omega, by simp, ?_⟩
          walk_at "vs"
          walk_at "vs"
          walk_at "vs"
          rw [show ((w : Int) - 1) = ((w - 1 : Nat) : Int) by omega]
          exact ih (p2 + 1) (w - 1) _ _ _ _ _ _ hr (by omega) (by simp; omega) (by rw [show p2 + 1 + (w - 1) = p2 + w by omega]; exact (scan_go hc ht (by omega)).symm.trans hs)
        · rw [decide_eq_false (show ¬ ((0 : Int) < (w : Int)) by omega)]
          simp only [Bool.false_eq_true, if_false]
          walk_at "vs"
          by_cases hf0 : 0 < f
          · rw [decide_eq_true (show ((0 : Int) < (f : Int)) by omega)]
            have ht : tokAt r2 p2 c = some ([tNum r2 p2 (p2 + f)], p2 + f) := by unfold tokAt; rw [← hw, if_neg hw0, hff, if_pos hf0]
            obtain ⟨n1, n2⟩ := fig_num (row := r2) (p := p2) (by omega) hz1 (by rw [hff]; exact hf0)
            rw [hff] at n1 n2
            simp only [if_true]
            walk_at "vs"
            simp only [show ((p2 : Int) + (f : Int)) = ((p2 + f : Nat) : Int) by omega]
            refine ⟨hz2, n1, _, n2, by rw [sizeLine_eq]; decide, by rw [sizeLine_eq]; omega, by simp, ?_⟩
            walk_at "vs"
            walk_at "vs"
            walk_at "vs"
            rw [show ((f : Int) - 1) = ((f - 1 : Nat) : Int) by omega]
            exact ih (p2 + 1) (f - 1) _ _ _ _ _ _ hr (by omega) (by simp; omega) (by rw [show p2 + 1 + (f - 1) = p2 + f by omega]; exact (scan_go hc ht (by omega)).symm.trans hs)
          · rw [decide_eq_false (show ¬ ((0 : Int) < (f : Int)) by omega)]
            simp only [Bool.false_eq_true, if_false]
            walk_at "vs"
            by_cases hv0 : 0 < v
            · rw [decide_eq_true (show ((0 : Int) < (v : Int)) by omega)]
              have hA : c = 39 := Classical.byContradiction fun z => by
                rw [if_neg z] at hv; omega
              rw [if_pos hA] at hv
              have ht : tokAt r2 p2 c = some ([tQuo r2 p2 (p2 + 1 + v)], p2 + 1 + v) := by unfold tokAt; rw [← hw, if_neg hw0, hff, if_neg hf0, ← hv, if_pos ⟨hA, hv0⟩]
              simp only [if_true]
              walk_at "vs"
              simp only [show ((p2 : Int) + 1) = ((p2 + 1 : Nat) : Int) by omega, show (((p2 + 1 : Nat) : Int) + (v : Int)) = ((p2 + 1 + v : Nat) : Int) by omega]
              refine ⟨hz2, by rw [sizeLine_eq]; decide, by rw [sizeLine_eq]; omega, by simp, ?_⟩
              walk_at "vs"
              walk_at "vs"
              walk_at "vs"
              exact ih (p2 + 1) v _ _ _ _ _ _ hr (by omega) (by simp; omega) ((scan_go hc ht (by omega)).symm.trans hs)
            · rw [decide_eq_false (show ¬ ((0 : Int) < (v : Int)) by omega)]
              have hq : ¬ (c = 39 ∧ 0 < wordC r2.cps.toList (p2 + 1)) := fun z => by
                rw [if_pos z.1] at hv
                omega
              have es : (Str.ofString "(),").cps.toList = [40, 41, 44] := by rfl
              simp only [Bool.false_eq_true, if_false]
              walk_at "vs"
              rw [isIn_one, es]
              by_cases hS : c ∈ [40, 41, 44]
              · rw [decide_eq_true hS]
                have ht : tokAt r2 p2 c = some ([tSig c p2], p2 + 1) := by unfold tokAt; rw [← hw, if_neg hw0, hff, if_neg hf0, if_neg hq, if_pos hS]
                simp only [if_true]
                walk_at "vs"
                refine ⟨by rw [sizeLine_eq]; decide, by rw [sizeLine_eq]; omega, by simp, ?_⟩
                walk_at "vs"
                walk_at "vs"
                exact ih (p2 + 1) 0 _ _ _ _ _ _ hr (by omega) (by simp; omega) ((scan_go hc ht (by omega)).symm.trans hs)
              · rw [decide_eq_false hS]
                simp only [Bool.false_eq_true, if_false]
                walk_at "vs"
                rw [esp, one]
                by_cases hB : c = 32
                · rw [decide_eq_true hB]
                  have ht : tokAt r2 p2 c = some ([], p2 + 1) := by unfold tokAt; rw [← hw, if_neg hw0, hff, if_neg hf0, if_neg hq, if_neg hS, if_pos hB]
                  simp only [Bool.not_true, Bool.false_eq_true, if_false]
                  walk_at "vs"
                  walk_at "vs"
                  exact ih (p2 + 1) 0 acc _ _ _ _ _ hr (by omega) (by omega) (by rw [Nat.add_zero]; rw [scan_go hc ht (by omega), List.append_nil] at hs; exact hs)
                · rw [decide_eq_false hB]
                  have ht : tokAt r2 p2 c = none := by unfold tokAt; rw [← hw, if_neg hw0, hff, if_neg hf0, if_neg hq, if_neg hS, if_neg hB]
                  simp only [Bool.not_false, if_true]
                  walk_at "vs"
                  refine ⟨by rw [sizeLine_eq]; decide, hrt _ _ ?_⟩
                  rw [← hs, scan_bad hc ht]
    walk_at "vs"
    rw [eap, one]
    by_cases hA : c = 39
    · rw [decide_eq_true hA]
      simp only [if_true]
      rw [if_pos hA] at hv
      simp only [h2, a2]
      rw [e1]
      refine ⟨trivial, ⟨r2, p2 + 1, rfl, hz2⟩, ?_, fun x t S2 h => h.elim⟩
      rintro t own fr S4 ⟨r4, p4, e4, rfl, rfl, rfl, rfl⟩
      have e' : [T.str r2, T.int (p2 + 1 : Nat)] = [T.str r4, T.int p4] := e4
      simp only [List.cons.injEq, T.str.injEq, T.int.injEq, and_true] at e'
      obtain ⟨rfl, e6⟩ := e'
      obtain rfl : p4 = p2 + 1 := by omega
      refine turn _ ?_
      rw [hv]
      rfl
    · rw [decide_eq_false hA]
      simp only [Bool.false_eq_true, if_false]
      rw [if_neg hA] at hv
      refine turn _ ?_
      rw [hv]
      rfl
end Vs

-- K24p6
namespace Vs
open PySem PySem.Spec PyProof.Rows L2
local macro_rules
  | `(tactic| walk_at "vs") => `(tactic| (first | rw [wB_cons] | rw [wB_nil] | skip) <;> try simp only [joinD_nil, poison_nil, Bool.false_and, Bool.true_and, Bool.and_true, Bool.and_self, List.all_cons, List.all_nil, List.flatMap_cons, List.flatMap_nil, List.append_nil, wS, wE, wEs, wIs, wT, wI, wC, wPar, getV, entV, argV, imm, imms, if_true, if_false, List.length_cons, List.length_nil, List.map_cons, List.map_nil, List.cons_append, List.nil_append, List.getElem?_cons_zero, List.getElem?_cons_succ, Nat.zero_add, Nat.reduceAdd, Nat.reduceSub, List.replicate, List.set_cons_zero, List.set_cons_succ, setV, SV.cl, binW, cmpW, ixW, eqW, biW, meW, isiW, slW, cutW, truT, resV, mkRet, mkTup, mkL, ts, frs, Ds, Bool.false_eq_true, reduceIte, push, moveAll, moveV, SV.moved, recvT, true_and, Option.bind_some, imms_strs, ite_true, List.take_succ_cons, List.take_zero])
theorem law_row_tokens_ok {Γ : Gam GS} (h1 : Γ.fn 11 = cSpan) (a1 : Γ.ar 11 = 3) (h2 : Γ.fn 12 = cWordSpan) (a2 : Γ.ar 12 = 2)
    (tr : List T) (S : GS) (_ : tr.length = 1) (hp : cRowTokens.pre tr S) : wB Γ K24.v__law_row_tokens (entV 8 tr) S (endC cRowTokens tr S) := by
  obtain ⟨row0, rfl, hz⟩ := hp
  have eh : (Str.ofString "#") = (⟨#[35]⟩ : Str) := by rfl
  simp only [K24.v__law_row_tokens]
  walk_at "vs"
  rw [eh, isIn_one]
  obtain ⟨row, hrow⟩ : ∃ row, row = cutH 35 row0 := ⟨_, rfl⟩
  have hz1 : row.length ≤ 640 := by
    have := cutH_le 35 row0
    rw [← hrow] at this
    omega
  have hz2 : row.length ≤ sizeLine := by rw [sizeLine_eq]; omega
  have hz0 : row0.length ≤ sizeLine := by rw [sizeLine_eq]; omega
  have fin : ∀ t, t = scan row 0 [] → (endC cRowTokens [T.str row0] S).rt { t := t, own := false, fr := true, D := [1] } S := fun t e => ⟨row0, rfl, by rw [e, hrow], rfl, rfl, rfl⟩
  have rest : wB Γ (.cons (.loop (.enum (.v 0)) (.tp (.cons (.nm 3) (.cons (.nm 4) .nil))) lb__law_row_tokens) (.cons (.ret (.tup (.cons (.v 1) (.cons (.k .non) .nil)))) .nil))
      [some { t := T.str row }, some { t := T.lst [], own := true }, some { t := T.int 0 }, none, none, none, none, none] S (endC cRowTokens [T.str row0] S) := by
    walk_at "vs"
    refine ⟨_, rfl, ?_⟩
    refine lrt_loop h1 a1 h2 a2 (row := row) (R := scan row 0 []) hz1 ?_ ?_ row.cps.toList 0 0 [] none none none none none rfl (Nat.zero_le _) (Nat.le_refl _) rfl
    · intro acc x2 x3 x4 x5 x6 x7 h
      walk_at "vs"
      walk_at "vs"
      exact ⟨by rw [sizeLine_eq]; simp, fin _ h⟩
    · exact fun acc p h => fin _ h
  by_cases hm : 35 ∈ row0.cps.toList
  · rw [decide_eq_true hm]
    simp only [if_true]
    obtain ⟨k, hk1, hk2⟩ := index_hash hm
    refine ⟨k, hk1, hz0, Nat.zero_le _, _, rfl, ?_⟩
    rw [hk2, ← hrow]
    exact rest
  · rw [decide_eq_false hm]
    simp only [Bool.false_eq_true, if_false]
    have e : row0 = row := by rw [hrow, cutH_none hm]
    refine ⟨Nat.zero_le _, _, rfl, ?_⟩
    rw [← e] at rest
    exact rest
end Vs

-- K24p7
namespace Vs
open PySem PySem.Spec PyProof.Rows L2
local macro_rules
  | `(tactic| walk_at "vs") => `(tactic| (first | rw [wB_cons] | rw [wB_nil] | skip) <;> try simp only [joinD_nil, poison_nil, Bool.false_and, Bool.true_and, Bool.and_true, Bool.and_self, List.all_cons, List.all_nil, List.flatMap_cons, List.flatMap_nil, List.append_nil, wS, wE, wEs, wIs, wT, wI, wC, wPar, getV, entV, argV, imm, imms, if_true, if_false, List.length_cons, List.length_nil, List.map_cons, List.map_nil, List.cons_append, List.nil_append, List.getElem?_cons_zero, List.getElem?_cons_succ, Nat.zero_add, Nat.reduceAdd, Nat.reduceSub, List.replicate, List.set_cons_zero, List.set_cons_succ, setV, SV.cl, binW, cmpW, ixW, eqW, biW, meW, isiW, slW, cutW, truT, resV, mkRet, mkTup, mkL, ts, frs, Ds, Bool.false_eq_true, reduceIte, push, moveAll, moveV, SV.moved, recvT, true_and, Option.bind_some, imms_strs, ite_true, List.take_succ_cons, List.take_zero])
def badOf : T → T
  | .tup [_, b] => b
  | _ => .non
def someOf : T → T
  | .tup [s, _] => s
  | _ => .non
def scanR (row : Str) : T := scan (cutH 35 row) 0 []
def tokOk : T → Bool
  | .tup [.str _, .str _, .int _] => true
  | .tup [.str _, .int _, .int _] => true
  | _ => false
theorem tokAt_ok {row : Str} {p c q : Nat} {ts : List T} (h : tokAt row p c = some (ts, q)) : ts.all tokOk = true ∧ ts.length ≤ 1 := by
  unfold tokAt at h
  split at h
  · cases h; exact ⟨rfl, Nat.le_refl _⟩
  · split at h
    · cases h; exact ⟨rfl, Nat.le_refl _⟩
    · split at h
      · cases h; exact ⟨rfl, Nat.le_refl _⟩
      · split at h
        · cases h; exact ⟨rfl, Nat.le_refl _⟩
        · split at h
          · cases h; exact ⟨rfl, Nat.zero_le _⟩
          · cases h
theorem tokAt_lt {row : Str} {p c q : Nat} {ts : List T} (h : tokAt row p c = some (ts, q)) : p < q := by
  unfold tokAt at h
  split at h
  · cases h; omega
  · split at h
    · cases h; omega
    · split at h
      · cases h; omega
      · split at h
        · cases h; omega
        · split at h
          · cases h; omega
          · cases h
/-- what a row gives: its tokens, where it is bad -/
theorem scan_form (row : Str) : ∀ (n p : Nat) (acc : List T), row.length - p = n → acc.all tokOk = true → acc.length ≤ p → ∃ ts b, scan row p acc = .tup [.lst ts, b] ∧ ts.all tokOk = true ∧ ts.length ≤ max p row.length ∧ (b = .non ∨ ∃ k : Nat, b = .int k) := by
  intro n
  induction n using Nat.strongRecOn with
  | ind n ih =>
    intro p acc hn ha hl
    cases hc : row.cps.toList[p]? with
    | none => exact ⟨acc, .non, scan_done hc, ha, by omega, .inl rfl⟩
    | some c =>
      have lt : p < row.length := by
        have := (List.getElem?_eq_some_iff.mp hc).1
        rwa [len_tl] at this
      cases ht : tokAt row p c with
      | none => exact ⟨acc, .int p, scan_bad hc ht, ha, by omega, .inr ⟨p, rfl⟩⟩
      | some x =>
        obtain ⟨ts, q⟩ := x
        obtain ⟨h1, h2⟩ := tokAt_ok ht
        have hq := tokAt_lt ht
        obtain ⟨us, b, e, e1, e2, e3⟩ := ih (row.length - q) (by omega) q (acc ++ ts) rfl (by simp [ha, h1]) (by simp; omega)
        by_cases hqr : q ≤ row.length
        · exact ⟨us, b, (scan_go hc ht hq).trans e, e1, by omega, e3⟩
        · have hd : row.cps.toList[q]? = none := List.getElem?_eq_none (by rw [len_tl]; omega)
          rw [scan_done hd] at e
          simp only [T.tup.injEq, List.cons.injEq, T.lst.injEq, and_true] at e
          obtain ⟨rfl, rfl⟩ := e
          exact ⟨acc ++ ts, .non, (scan_go hc ht hq).trans (scan_done hd), by simp [ha, h1], by simp; omega, .inl rfl⟩
theorem scanR_form (row : Str) : ∃ ts b, scanR row = .tup [.lst ts, b] ∧ ts.all tokOk = true ∧ ts.length ≤ row.length ∧ (b = .non ∨ ∃ k : Nat, b = .int k) := by
  obtain ⟨ts, b, e, h1, h2, h3⟩ := scan_form (cutH 35 row) _ 0 [] rfl rfl (Nat.le_refl _)
  have := cutH_le 35 row
  exact ⟨ts, b, e, h1, by omega, h3⟩
/-- the first bad row, from number n on -/
def fbad : Nat → List Str → Option T
  | _, [] => none
  | n, r :: rs => if isNonT (badOf (scanR r)) = true then fbad (n + 1) rs else some (.tup [.int n, badOf (scanR r)])
def NL : Str := ⟨#[10]⟩
/-- a thing that is no text -/
def noTxt (t : T) : Prop := (∃ n, tyN t = some n ∧ n ≠ "str") 
def cTokens (xN xU : Exc) : Con GS where
  pre := fun tr S => (∃ x : Str, tr = [.str x] ∧ x.length + 3 ≤ sizeLine ∧ ∀ r ∈ Txt.split x NL, r.length ≤ 640) ∨ (∃ t, tr = [t] ∧ noTxt t) ∨ ∃ a xs, tr = [.opq a] ∧ S.box = some (a, xs)
  post := fun tr S t own fr S' => ∃ x : Str, tr = [.str x] ∧ fbad 0 (Txt.split x NL) = none ∧ t = .lst ((Txt.split x NL).map fun r => someOf (scanR r)) ∧ own = true ∧ fr = true ∧ S' = S
  exc := fun tr S x t S' => S' = S ∧ ((∃ z : Str, tr = [.str z] ∧ x = xU ∧ fbad 0 (Txt.split z NL) = some t) ∨ ((∀ z : Str, tr ≠ [.str z]) ∧ x = xN ∧ tr = [t]))
/-- NoText unless a text -/
def cCheck (xN : Exc) : Con GS where
  pre := fun tr S => (∃ x : Str, tr = [.str x]) ∨ (∃ t, tr = [t] ∧ noTxt t) ∨ ∃ a xs, tr = [.opq a] ∧ S.box = some (a, xs)
  post := fun tr S t own fr S' => (∃ x, tr = [.str x]) ∧ t = .non ∧ own = false ∧ fr = true ∧ S' = S
  exc := fun tr S x t S' => (∀ z : Str, tr ≠ [.str z]) ∧ tr = [t] ∧ x = xN ∧ S' = S
theorem check_ok {Γ : Gam GS} {xN : Exc} (h1 : Γ.cls 1 = xN) (hb : ∀ S a, Γ.isl S a ↔ ∃ xs, S.box = some (a, xs)) (tr : List T) (S : GS) (_ : tr.length = 1) (hp : (cCheck xN).pre tr S) : wB Γ K24.v_check_text (entV 1 tr) S (endC (cCheck xN) tr S) := by
  simp only [K24.v_check_text]
  rcases hp with ⟨x, rfl⟩ | ⟨u, rfl, n, hn, hs⟩ | ⟨a, xs, rfl, hx⟩
  · walk_at "vs"
    simp only [isbW, isiW, tyN, List.any_cons, List.any_nil, Bool.or_false]
    simp (config := { decide := true }) only [Bool.not_true, if_true, Bool.true_or]
    walk_at "vs"
    exact ⟨⟨_, rfl⟩, rfl, rfl, rfl, rfl⟩
  · have go : ∀ ε : VEnv, (∃ s, getV ε 0 = some s ∧ s.t = u) → wB Γ (VB.cons (VS.ite ((VE.isb ["str"] (VE.v 0)).not) (VB.cons (VS.rai 1 (VE.v 0)) VB.nil) VB.nil) VB.nil) ε S (endC (cCheck xN) [u] S) := by
      rintro ε ⟨s, hs1, rfl⟩
      simp only [wB, wS, wT, wE, hs1]
      have e : isbW (Γ.isl S) ["str"] s.t = isiW ["str"] s.t := by
        cases hh : s.t <;> first | rfl | (rw [hh] at hn; simp [tyN] at hn)
      rw [e]
      unfold isiW
      rw [hn]
      have nb : (["str"].any fun y => n == y || (n == "bool" && y == "int")) = false := by
        simp [hs]
      simp only [nb, Bool.not_false, if_true]
      refine ⟨fun z hz => ?_, rfl, h1, rfl⟩
      have : s.t = .str z := by simpa using hz
      rw [this] at hn
      simp only [tyN, Option.some.injEq] at hn
      exact hs hn.symm
    refine go _ ?_
    simp only [getV, entV, argV, List.map_cons, List.map_nil, List.cons_append, List.getElem?_cons_zero]
    exact ⟨_, rfl, by split <;> rfl⟩
  · walk_at "vs"
    simp only [isbW, List.any_cons, List.any_nil, Bool.or_false]
    refine ⟨(hb S a).mpr ⟨xs, hx⟩, ?_⟩
    simp (config := { decide := true }) only [Bool.not_false, if_true]
    walk_at "vs"
    exact ⟨fun z hz => by simp at hz, rfl, h1, rfl⟩
end Vs

-- K24p8
namespace Vs
open PySem PySem.Spec PyProof.Rows L2
local macro_rules
  | `(tactic| walk_at "vs") => `(tactic| (first | rw [wB_cons] | rw [wB_nil] | skip) <;> try simp only [joinD_nil, poison_nil, Bool.false_and, Bool.true_and, Bool.and_true, Bool.and_self, List.all_cons, List.all_nil, List.flatMap_cons, List.flatMap_nil, List.append_nil, wS, wE, wEs, wIs, wT, wI, wC, wPar, getV, entV, argV, imm, imms, if_true, if_false, List.length_cons, List.length_nil, List.map_cons, List.map_nil, List.cons_append, List.nil_append, List.getElem?_cons_zero, List.getElem?_cons_succ, Nat.zero_add, Nat.reduceAdd, Nat.reduceSub, List.replicate, List.set_cons_zero, List.set_cons_succ, setV, SV.cl, binW, cmpW, ixW, eqW, biW, meW, isiW, slW, cutW, truT, resV, mkRet, mkTup, mkL, ts, frs, Ds, Bool.false_eq_true, reduceIte, push, moveAll, moveV, SV.moved, recvT, true_and, Option.bind_some, imms_strs, ite_true, List.take_succ_cons, List.take_zero])
theorem fbad_cons {n : Nat} {r : Str} {rs : List Str} : fbad n (r :: rs) = if isNonT (badOf (scanR r)) = true then fbad (n + 1) rs else some (.tup [.int n, badOf (scanR r)]) := rfl
theorem tok_loop {Γ : Gam GS} {xU : Exc} (h3 : Γ.fn 3 = cRowTokens) (a3 : Γ.ar 3 = 1) (hc : Γ.cls 2 = xU) {x : Str} {S : GS} {D : Dn GS} {rows0 : List Str}
    (hnx : ∀ (ts : List T) (d : List Nat) x2 x3 x4 x5, fbad 0 rows0 = none → ts = rows0.map (fun r => someOf (scanR r)) → D.nx [some { t := .str x }, some { t := .lst ts, own := true, fr := true, D := d }, x2, x3, x4, x5] S)
    (hex : ∀ u, fbad 0 rows0 = some u → D.ex xU { t := u, own := false, fr := true, D := [] } S) (hlen : rows0.length < sizeLine) (hle : ∀ r ∈ rows0, r.length ≤ 640) :
    ∀ (rows : List Str) (p : Nat) (acc : List T) (d : List Nat) (x2 x3 x4 x5 : Option SV), p + rows.length = rows0.length → rows0.drop p = rows → (d = [] ∨ d = [4]) → fbad p rows = fbad 0 rows0 → acc.length = p → acc ++ rows.map (fun r => someOf (scanR r)) = rows0.map (fun r => someOf (scanR r)) →
      wLoop (.tp (.cons (.nm 2) (.cons (.nm 3) .nil))) 6 [(6, T.lst (rows0.map .str))] (fun ε2 S2 D2 => wB Γ lb_tokens ε2 S2 D2) D (enumT p (rows.map .str))
        [some { t := .str x }, some { t := .lst acc, own := true, fr := true, D := d }, x2, x3, x4, x5, some { t := .lst (rows0.map .str), own := true }] S := by
  intro rows
  induction rows with
  | nil =>
    intro p acc d x2 x3 x4 x5 hl hdr hd hf hal ha
    simp only [List.map_nil, enumT, wLoop, hidE, List.getElem?_cons_succ, List.getElem?_cons_zero, List.take_succ_cons, List.take_zero, true_and, and_true]
    refine hnx acc d _ _ _ _ ?_ ?_
    · rw [← hf]; rfl
    · rw [← ha]; simp
  | cons r rows ih =>
    intro p acc d x2 x3 x4 x5 hl hdr hd hf hal ha
    have hr : rows0.drop (p + 1) = rows := by
      rw [← List.drop_drop, hdr]; rfl
    have hrm : r ∈ rows0 := List.mem_of_mem_drop (i := p) (by rw [hdr]; exact List.mem_cons_self)
    obtain ⟨ts, b, es, ht, htl, hb⟩ := scanR_form r
    simp only [List.map_cons, enumT, wLoop, hidE, List.getElem?_cons_succ, List.getElem?_cons_zero, true_and, and_true]
    simp only [wG, wGs, vtLen, slotsT, slotsTs, itemV, SV.cl, imm, imms, if_true, Bool.and_self, setV, List.length_cons, List.length_nil, Nat.zero_add, Nat.reduceAdd, true_and, List.set_cons_succ, List.set_cons_zero]
    simp only [lb_tokens]
    walk_at "vs"
    simp only [h3, a3]
    refine ⟨trivial, ⟨r, rfl, hle r hrm⟩, ?_, fun x t S2 h => h.elim⟩
    rintro t own fr S2 ⟨r', e, rfl, rfl, rfl, rfl⟩
    obtain rfl : r' = r := by
      have e' : [T.str r] = [T.str r'] := e
      simpa using e'.symm
    have es2 : scan (cutH 35 r') 0 [] = .tup [.lst ts, b] := es
    rw [es2]
    simp only [wG, wGs, vtLen, slotsT, slotsTs, Nat.zero_add, Nat.reduceAdd, List.length_cons, List.length_nil, true_and, if_true]
    have ebad : badOf (scanR r') = b := by rw [es]; rfl
    have esome : someOf (scanR r') = .lst ts := by rw [es]; rfl
    have key : b = .non → wB Γ (VB.cons (VS.app 1 (VE.v 4)) VB.nil) [some { t := .str x }, some { t := T.lst acc, own := true, D := d }, some { t := T.int p }, some { t := T.str r' }, some { t := T.lst ts }, some { t := T.non }, some { t := T.lst (List.map T.str rows0), own := true }] S2
        { nx := wLoop (.tp (.cons (.nm 2) (.cons (.nm 3) .nil))) 6 [(6, T.lst (rows0.map .str))] (fun ε2 S2 D2 => wB Γ lb_tokens ε2 S2 D2) D (enumT (p + 1) (rows.map .str)), rt := D.rt, ex := D.ex, bk := fun ε2 S2 => D.nx (List.take 6 ε2) S2, ct := wLoop (.tp (.cons (.nm 2) (.cons (.nm 3) .nil))) 6 [(6, T.lst (rows0.map .str))] (fun ε2 S2 D2 => wB Γ lb_tokens ε2 S2 D2) D (enumT (p + 1) (rows.map .str)) } := by
      intro hbn
      have fin := ih (p + 1) (acc ++ [T.lst ts]) [4] (some { t := T.int p }) (some { t := T.str r' }) (some { t := T.lst ts, own := false, fr := true, D := [1] }) (some { t := T.non }) (by simp at hl; omega) hr (.inr rfl)
        (by rw [← hf, fbad_cons, ebad, hbn]; rfl) (by simp; omega) (by rw [← ha, List.map_cons, esome, List.append_assoc]; rfl)
      simp at hl
      rcases hd with rfl | rfl
      · walk_at "vs"
        refine ⟨by omega, by decide, ?_⟩
        walk_at "vs"
        simp only [joinD, List.filter, List.nil_append, List.contains_nil, Bool.not_false, mark, List.contains_cons, Nat.zero_add, Nat.reduceAdd, Nat.reduceBEq, Bool.or_false, Bool.false_eq_true, if_false, if_true, List.set_cons_succ, List.set_cons_zero]
        exact fin
      · walk_at "vs"
        refine ⟨by omega, by decide, ?_⟩
        walk_at "vs"
        simp (config := { decide := true }) only [joinD, poison, poison1, List.filter, List.nil_append, List.append_nil, List.contains_nil, Bool.not_false, mark, List.contains_cons, Nat.zero_add, Nat.reduceAdd, Nat.reduceBEq, Bool.or_false, Bool.false_eq_true, if_false, if_true, List.set_cons_succ, List.set_cons_zero, imm, imms, Bool.or_true, Bool.true_or, Bool.not_true]
        exact fin
    rcases hb with rfl | ⟨k, rfl⟩
    · simp only [SV.cl, imm, if_true, if_false, Bool.false_eq_true, setV, List.set_cons_succ, List.set_cons_zero, Bool.or_true, Bool.or_self]
      walk_at "vs"
      simp only [isNonT, Bool.not_true, Bool.false_eq_true, if_false]
      walk_at "vs"
      exact key rfl
    · simp only [SV.cl, imm, if_true, if_false, Bool.false_eq_true, setV, List.set_cons_succ, List.set_cons_zero, Bool.or_true, Bool.or_self]
      walk_at "vs"
      simp only [isNonT, Bool.not_false, if_true]
      walk_at "vs"
      rw [hc]
      refine ⟨by rw [sizeLine_eq]; decide, hex _ ?_⟩
      rw [← hf, fbad_cons, ebad]
      rfl
theorem tokens_ok {Γ : Gam GS} {xN xU : Exc} (h0 : Γ.fn 0 = cCheck xN) (a0 : Γ.ar 0 = 1) (h3 : Γ.fn 3 = cRowTokens) (a3 : Γ.ar 3 = 1) (hc : Γ.cls 2 = xU)
    (tr : List T) (S : GS) (_ : tr.length = 1) (hp : (cTokens xN xU).pre tr S) : wB Γ K24.v_tokens (entV 6 tr) S (endC (cTokens xN xU) tr S) := by
  have other : ∀ t, (∀ z : Str, t ≠ .str z) → (cCheck xN).pre [t] S → tr = [t] → wB Γ K24.v_tokens (entV 6 tr) S (endC (cTokens xN xU) tr S) := by
    rintro t ht hpre rfl
    simp only [K24.v_tokens]
    rw [wB_cons]
    simp only [wS, wE, wEs, h0, a0, getV, entV, argV, List.map_cons, List.map_nil, List.cons_append, List.getElem?_cons_zero]
    have e1 : ∀ s : SV, s.t = t → ts [({ t := s.t, own := false, fr := s.fr, D := 0 :: s.D } : SV).cl] = [t] := fun s e => by
      simp only [ts, List.map_cons, List.map_nil, SV.cl]
      split <;> rw [e]
    have e2 : (if imm t = true then ({ t := t } : SV) else { t := t, own := false, fr := false, D := List.range [t].length }).t = t := by split <;> rfl
    rw [e1 _ e2]
    refine ⟨rfl, hpre, ?_, ?_⟩
    · rintro t2 own fr S2 ⟨⟨x, e⟩, _⟩
      exact absurd (by simpa using e) (ht x)
    · rintro x u S2 ⟨_, e, rfl, rfl⟩
      refine ⟨rfl, .inr ⟨fun z e => ht z (by simpa using e), rfl, e⟩⟩
  rcases hp with ⟨x, rfl, hx1, hx2⟩ | ⟨t, rfl, hn⟩ | ⟨a, xs, rfl, hb⟩
  · simp only [K24.v_tokens]
    walk_at "vs"
    simp only [h0, a0]
    refine ⟨trivial, .inl ⟨x, rfl⟩, ?_, ?_⟩
    · rintro t own fr S2 ⟨_, rfl, rfl, rfl, rfl⟩
      walk_at "vs"
      refine ⟨Nat.zero_le _, ?_⟩
      walk_at "vs"
      have en : (Str.ofString "\n") = NL := by rfl
      simp only [en, enumOf]
      refine ⟨by decide, by omega, _, rfl, ?_⟩
      walk_at "vs"
      refine tok_loop h3 a3 hc (x := x) (rows0 := Txt.split x NL) ?_ ?_ ?_ hx2 (Txt.split x NL) 0 [] [] none none none none (by simp) rfl (.inl rfl) rfl rfl rfl
      · intro ts d x2 x3 x4 x5 hf ht
        walk_at "vs"
        exact ⟨x, rfl, hf, by rw [ht], rfl, rfl, rfl⟩
      · exact fun u hu => ⟨rfl, .inl ⟨x, rfl, rfl, hu⟩⟩
      · have := split_le x NL
        omega
    · rintro y u S2 ⟨h, _⟩
      exact absurd rfl (h x)
  · exact other t (fun z e => by obtain ⟨n, h1, h2⟩ := hn; rw [e] at h1; simp only [tyN, Option.some.injEq] at h1; exact h2 h1.symm) (.inr (.inl ⟨t, rfl, hn⟩)) rfl
  · exact other (.opq a) (fun z e => by cases e) (.inr (.inr ⟨a, xs, rfl, hb⟩)) rfl
end Vs

-- K24p9
namespace Vs
open PySem PySem.Spec PyProof.Rows L2
local macro_rules
  | `(tactic| walk_at "vs") => `(tactic| (first | rw [wB_cons] | rw [wB_nil] | skip) <;> try simp only [joinD_nil, poison_nil, Bool.false_and, Bool.true_and, Bool.and_true, Bool.and_self, List.all_cons, List.all_nil, List.flatMap_cons, List.flatMap_nil, List.append_nil, wS, wE, wEs, wIs, wT, wI, wC, wPar, getV, entV, argV, imm, imms, if_true, if_false, List.length_cons, List.length_nil, List.map_cons, List.map_nil, List.cons_append, List.nil_append, List.getElem?_cons_zero, List.getElem?_cons_succ, Nat.zero_add, Nat.reduceAdd, Nat.reduceSub, List.replicate, List.set_cons_zero, List.set_cons_succ, setV, SV.cl, binW, cmpW, ixW, eqW, biW, meW, isiW, slW, cutW, truT, resV, mkRet, mkTup, mkL, ts, frs, Ds, Bool.false_eq_true, reduceIte, push, moveAll, moveV, SV.moved, recvT, true_and, Option.bind_some, imms_strs, ite_true, List.take_succ_cons, List.take_zero])
theorem range1 : List.range 1 = [0] := rfl
theorem range2 : List.range 2 = [0, 1] := rfl
theorem imms_app : ∀ (xs ys : List T), imms (xs ++ ys) = (imms xs && imms ys)
  | [], ys => by simp [imms]
  | x :: xs, ys => by simp [imms, imms_app xs ys, Bool.and_assoc]
theorem comp_pure {G : Type} {tg : VT} {hs : List (Nat × T)} {εr : VEnv} {elt : VEnv → G → KV G → Prop} {own : List Nat} {Q : KV G} {S : G} (f : T → T) :
    ∀ (xs : List T) (acc : List SV), imms (ts acc) = true → (∀ t ∈ xs, ∀ K : KV G, (∀ s : SV, s.t = f t → K s S) → wG tg (itemV εr hs t) εr fun ε1 => elt ε1 S K) → acc.length + xs.length ≤ sizeLine → (∀ t ∈ xs, imm (f t) = true) →
      Q { t := .lst (ts acc ++ xs.map f), own := true } S → wComp tg hs εr (fun ε2 S2 K => K true S2) elt own Q xs acc S
  | [], acc, ha, _, _, _, q => by
    unfold wComp
    simp only [List.map_nil, List.append_nil] at q
    unfold mkL
    rw [if_pos ha]
    exact q
  | t :: xs, acc, ha, he, hl, hi, q => by
    unfold wComp
    simp only [if_true]
    refine he t List.mem_cons_self _ fun s hs => ⟨by simp at hl; omega, ?_⟩
    have e : ts (acc ++ [s.cl]) = ts acc ++ [f t] := by simp [ts, SV.cl_t, hs]
    refine comp_pure f xs (acc ++ [s.cl]) ?_ (fun u hu => he u (List.mem_cons_of_mem _ hu)) (by simp at hl ⊢; omega) (fun u hu => hi u (List.mem_cons_of_mem _ hu)) ?_
    · rw [e, imms_app, ha]
      simp [imms, hi t List.mem_cons_self]
    · rw [e, List.append_assoc]
      exact q
/-- what may be copied: atoms, lists and tuples of texts, {} -/
def cpy : Nat → T → Prop
  | 0, _ => False
  | _ + 1, .non => True
  | _ + 1, .bl _ => True
  | _ + 1, .int _ => True
  | _ + 1, .str _ => True
  | n + 1, .lst xs => xs.length ≤ 1000 ∧ ∀ x ∈ xs, (∃ s, x = .str s) ∧ cpy n x
  | n + 1, .tup xs => xs.length ≤ 1000 ∧ ∀ x ∈ xs, (∃ s, x = .str s) ∧ cpy n x
  | _ + 1, .fdc [] [] => True
  | _ + 1, _ => False
def cCopied (n : Nat) : Con GS where
  pre := fun tr S => ∃ t, tr = [t] ∧ cpy n t
  post := fun tr S t own fr S' => tr = [t] ∧ own = false ∧ fr = true ∧ S' = S
theorem strs_of : ∀ {xs : List T}, (∀ x ∈ xs, ∃ s, x = .str s) → ∃ ys : List Str, xs = ys.map .str
  | [], _ => ⟨[], rfl⟩
  | x :: xs, h => by
    obtain ⟨s, rfl⟩ := h x List.mem_cons_self
    obtain ⟨ys, rfl⟩ := strs_of (xs := xs) fun y hy => h y (List.mem_cons_of_mem _ hy)
    exact ⟨s :: ys, rfl⟩
theorem copied_ok {Γ : Gam GS} {n : Nat} (h8 : Γ.fn 8 = cCopied n) (a8 : Γ.ar 8 = 1) (tr : List T) (S : GS) (_ : tr.length = 1) (hp : (cCopied (n + 1)).pre tr S) : wB Γ K24.v__law_copied (entV 4 tr) S (endC (cCopied (n + 1)) tr S) := by
  obtain ⟨t, rfl, ht⟩ := hp
  have isl : ∀ (y : String) , isiW ["list", "tuple"] (T.lst []) (fun k => k = true) := fun y => by simp [isiW, tyN]
  simp only [K24.v__law_copied]
  cases t with
  | non =>
    walk_at "vs"
    simp (config := { decide := true }) only [tyN, List.any_cons, List.any_nil, Bool.or_false, Bool.false_eq_true, if_false]
    walk_at "vs"
    walk_at "vs"
    simp (config := { decide := true }) only [tyN, List.any_cons, List.any_nil, Bool.or_false, Bool.false_eq_true, if_false]
    walk_at "vs"
    walk_at "vs"
    exact ⟨rfl, rfl, rfl, rfl⟩
  | bl b =>
    walk_at "vs"
    simp (config := { decide := true }) only [tyN, List.any_cons, List.any_nil, Bool.or_false, Bool.false_eq_true, if_false]
    walk_at "vs"
    walk_at "vs"
    simp (config := { decide := true }) only [tyN, List.any_cons, List.any_nil, Bool.or_false, Bool.false_eq_true, if_false]
    walk_at "vs"
    walk_at "vs"
    exact ⟨rfl, rfl, rfl, rfl⟩
  | int z =>
    walk_at "vs"
    simp (config := { decide := true }) only [tyN, List.any_cons, List.any_nil, Bool.or_false, Bool.false_eq_true, if_false]
    walk_at "vs"
    walk_at "vs"
    simp (config := { decide := true }) only [tyN, List.any_cons, List.any_nil, Bool.or_false, Bool.false_eq_true, if_false]
    walk_at "vs"
    walk_at "vs"
    exact ⟨rfl, rfl, rfl, rfl⟩
  | str z =>
    walk_at "vs"
    simp (config := { decide := true }) only [tyN, List.any_cons, List.any_nil, Bool.or_false, Bool.false_eq_true, if_false]
    walk_at "vs"
    walk_at "vs"
    simp (config := { decide := true }) only [tyN, List.any_cons, List.any_nil, Bool.or_false, Bool.false_eq_true, if_false]
    walk_at "vs"
    walk_at "vs"
    exact ⟨rfl, rfl, rfl, rfl⟩
  | lst xs =>
    obtain ⟨hl, hx⟩ := ht
    obtain ⟨ys, rfl⟩ := strs_of fun x h => (hx x h).1
    walk_at "vs"
    simp (config := { decide := true }) only [tyN, List.any_cons, List.any_nil, Bool.or_false, Bool.false_eq_true, if_false, imms_strs, if_true, Bool.true_or]
    walk_at "vs"
    refine ⟨_, rfl, ?_⟩
    simp only [range1, mark, List.contains_cons, List.contains_nil, Nat.zero_add, Nat.reduceAdd, Nat.reduceBEq, Bool.or_false, Bool.false_eq_true, if_false, if_true, List.set_cons_succ, List.set_cons_zero, wipeV, hidE, List.getElem?_cons_succ, List.getElem?_cons_zero, true_and, BEq.rfl]
    refine comp_pure id _ [] rfl ?_ ?_ ?_ ?_
    · intro t ht K hK
      obtain ⟨y, _, rfl⟩ := List.mem_map.mp ht
      simp only [wG, itemV, SV.cl, imm, if_true, setV, List.set_cons_succ, List.set_cons_zero]
      walk_at "vs"
      simp only [h8, a8]
      refine ⟨trivial, ⟨_, rfl, (hx _ ht).2⟩, ?_, fun x t S2 h => h.elim⟩
      rintro u own fr S2 ⟨e, rfl, rfl, rfl⟩
      refine hK _ ?_
      simpa using e.symm
    · rw [sizeLine_eq]; simp at hl ⊢; omega
    · intro t ht
      obtain ⟨y, _, rfl⟩ := List.mem_map.mp ht
      rfl
    · simp only [ts, List.map_nil, List.nil_append, List.map_id]
      walk_at "vs"
      simp (config := { decide := true }) only [tyN, List.any_cons, List.any_nil, Bool.or_false, Bool.false_eq_true, if_false, if_true, Bool.true_or]
      exact ⟨rfl, rfl, rfl, rfl⟩
  | tup xs =>
    obtain ⟨hl, hx⟩ := ht
    obtain ⟨ys, rfl⟩ := strs_of fun x h => (hx x h).1
    walk_at "vs"
    simp (config := { decide := true }) only [tyN, List.any_cons, List.any_nil, Bool.or_false, Bool.false_eq_true, if_false, imms_strs, if_true, Bool.true_or]
    walk_at "vs"
    refine ⟨_, rfl, ?_⟩
    simp only [range1, mark, List.contains_cons, List.contains_nil, Nat.zero_add, Nat.reduceAdd, Nat.reduceBEq, Bool.or_false, Bool.false_eq_true, if_false, if_true, List.set_cons_succ, List.set_cons_zero, wipeV, hidE, List.getElem?_cons_succ, List.getElem?_cons_zero, true_and, BEq.rfl]
    refine comp_pure id _ [] rfl ?_ ?_ ?_ ?_
    · intro t ht K hK
      obtain ⟨y, _, rfl⟩ := List.mem_map.mp ht
      simp only [wG, itemV, SV.cl, imm, if_true, setV, List.set_cons_succ, List.set_cons_zero]
      walk_at "vs"
      simp only [h8, a8]
      refine ⟨trivial, ⟨_, rfl, (hx _ ht).2⟩, ?_, fun x t S2 h => h.elim⟩
      rintro u own fr S2 ⟨e, rfl, rfl, rfl⟩
      refine hK _ ?_
      simpa using e.symm
    · rw [sizeLine_eq]; simp at hl ⊢; omega
    · intro t ht
      obtain ⟨y, _, rfl⟩ := List.mem_map.mp ht
      rfl
    · simp only [ts, List.map_nil, List.nil_append, List.map_id]
      walk_at "vs"
      simp (config := { decide := true }) only [tyN, List.any_cons, List.any_nil, Bool.or_false, Bool.false_eq_true, if_false, if_true, Bool.true_or]
      exact ⟨rfl, rfl, rfl, rfl⟩
  | fdc ks vs =>
    cases ks with
    | cons a b => exact ht.elim
    | nil =>
      cases vs with
      | cons a b => exact ht.elim
      | nil =>
        walk_at "vs"
        simp (config := { decide := true }) only [tyN, List.any_cons, List.any_nil, Bool.or_false, Bool.false_eq_true, if_false, imms_strs, if_true, Bool.true_or]
        walk_at "vs"
        walk_at "vs"
        simp (config := { decide := true }) only [tyN, List.any_cons, List.any_nil, Bool.or_false, Bool.false_eq_true, if_false, imms_strs, if_true, Bool.true_or]
        walk_at "vs"
        refine ⟨_, rfl, ?_⟩
        simp only [range1, mark, List.contains_cons, List.contains_nil, Nat.zero_add, Nat.reduceAdd, Nat.reduceBEq, Bool.or_false, Bool.false_eq_true, if_false, if_true, List.set_cons_succ, List.set_cons_zero, wipeV, hidE, List.getElem?_cons_succ, List.getElem?_cons_zero, true_and, BEq.rfl]
        unfold wComp
        simp only [mkL, ts, List.map_nil, imms, if_true]
        walk_at "vs"
        refine ⟨[], rfl, List.nodup_nil, ?_⟩
        exact ⟨rfl, rfl, rfl, rfl⟩
  | opq a => exact ht.elim
  | dct a b => exact ht.elim
end Vs

-- K24p10
namespace Vs
open PySem PySem.Spec PyProof.Rows L2
local macro_rules
  | `(tactic| walk_at "vs") => `(tactic| (first | rw [wB_cons] | rw [wB_nil] | skip) <;> try simp only [joinD_nil, poison_nil, Bool.false_and, Bool.true_and, Bool.and_true, Bool.and_self, List.all_cons, List.all_nil, List.flatMap_cons, List.flatMap_nil, List.append_nil, wS, wE, wEs, wIs, wT, wI, wC, wPar, getV, entV, argV, imm, imms, if_true, if_false, List.length_cons, List.length_nil, List.map_cons, List.map_nil, List.cons_append, List.nil_append, List.getElem?_cons_zero, List.getElem?_cons_succ, Nat.zero_add, Nat.reduceAdd, Nat.reduceSub, List.replicate, List.set_cons_zero, List.set_cons_succ, setV, SV.cl, binW, cmpW, ixW, eqW, biW, meW, isiW, slW, cutW, truT, resV, mkRet, mkTup, mkL, ts, frs, Ds, Bool.false_eq_true, reduceIte, push, moveAll, moveV, SV.moved, recvT, true_and, Option.bind_some, imms_strs, ite_true, List.take_succ_cons, List.take_zero])
/-! ### environments, their trees alone -/
def trs (ε : VEnv) : List (Option T) := ε.map fun o => o.map fun s => s.t
theorem trs_len {ε : VEnv} : (trs ε).length = ε.length := by simp [trs]
theorem trs_mark {i : Nat} {D : List Nat} : ∀ {ε : VEnv} {k : Nat}, trs (mark i D k ε) = trs ε
  | [], _ => rfl
  | none :: r, k => by
    have e := trs_mark (i := i) (D := D) (ε := r) (k := k + 1)
    simp only [trs] at e
    simp [mark, trs, e]
  | some s :: r, k => by
    have e := trs_mark (i := i) (D := D) (ε := r) (k := k + 1)
    simp only [trs] at e
    simp only [mark, trs, List.map_cons, e, Option.map_some]
    split <;> rfl
theorem trs_setV {ε : VEnv} {i : Nat} {s : SV} : trs (setV ε i s) = (trs ε).set i (some s.t) := by
  unfold setV
  split
  · simp [trs, List.map_set]
  · have e := trs_mark (i := i) (D := s.D) (ε := ε) (k := 0)
    rename_i d ds hd
    rw [hd] at e
    simp only [trs] at e ⊢
    rw [List.map_set, e]
    rfl
theorem trs_push {ε : VEnv} {s : SV} : trs (push ε s) = trs ε ++ [some s.t] := by
  unfold push
  rw [trs_setV]
  have e : trs (ε ++ [none]) = trs ε ++ [none] := by simp [trs]
  rw [e, ← trs_len, set_last]
theorem trs_wipe {ε : VEnv} : ∀ (is : List Nat) (j : Nat), j ∉ is → (trs (wipeV ε is))[j]? = (trs ε)[j]?
  | [], _, _ => rfl
  | i :: r, j, h => by
    have e : trs (wipeV ε (i :: r)) = (trs (wipeV ε r)).set i none := by
      show trs ((wipeV ε r).set i none) = _
      simp [trs, List.map_set]
    rw [e, List.getElem?_set_ne (fun z => h (by rw [z]; exact List.mem_cons_self))]
    exact trs_wipe r j fun z => h (List.mem_cons_of_mem _ z)
theorem wipe_len {ε : VEnv} : ∀ (is : List Nat), (wipeV ε is).length = ε.length
  | [] => rfl
  | i :: r => by
    show ((wipeV ε r).set i none).length = _
    rw [List.length_set, wipe_len r]
theorem push_len {ε : VEnv} {s : SV} : (push ε s).length = ε.length + 1 := by
  unfold push
  rw [setV_length]; simp
theorem trs_get {ε : VEnv} {i : Nat} {t : T} (h : (trs ε)[i]? = some (some t)) : ∃ s, getV ε i = some s ∧ s.t = t := by
  unfold trs at h
  rw [List.getElem?_map] at h
  cases e : ε[i]? with
  | none => rw [e] at h; simp at h
  | some o =>
    rw [e] at h
    cases o with
    | none => simp at h
    | some s =>
      have : s.t = t := by simpa using h
      exact ⟨{ t := s.t, own := false, fr := s.fr, D := i :: s.D }, by unfold getV; rw [e], this⟩
theorem hid_trs {ε : VEnv} : ∀ {hs : List (Nat × T)}, (∀ p ∈ hs, (trs ε)[p.1]? = some (some p.2)) → hidE ε hs
  | [], _ => trivial
  | (h, t) :: r, k => by
    refine ⟨?_, hid_trs fun p hp => k p (List.mem_cons_of_mem _ hp)⟩
    have e := k (h, t) List.mem_cons_self
    unfold trs at e
    rw [List.getElem?_map] at e
    have e : (ε[h]?).map (fun o => o.map fun s => s.t) = some (some t) := e
    cases q : ε[h]? with
    | none => rw [q] at e; simp at e
    | some o =>
      rw [q] at e
      cases o with
      | none => simp at e
      | some s => simpa using e
theorem wG_pair {ε : VEnv} {i j : Nat} {s : SV} {x y : T} {Q : VEnv → Prop} (hs : s.t = .tup [x, y]) (hi : i < ε.length) (hj : j < ε.length) (hij : i ≠ j)
    (h : ∀ ε' : VEnv, ε'.length = ε.length → (trs ε')[i]? = some (some x) → (trs ε')[j]? = some (some y) → Q ε') : wG (.tp (.cons (.nm i) (.cons (.nm j) .nil))) s ε Q := by
  simp only [wG, hs, wGs, vtLen, slotsT, List.length_cons, List.length_nil, Nat.zero_add, Nat.reduceAdd, true_and]
  refine h _ (by rw [setV_length, setV_length]) ?_ ?_
  · rw [trs_setV, List.getElem?_set_ne (Ne.symm hij), trs_setV, List.getElem?_set_self (by rw [trs_len]; exact hi), SV.cl_t, SV.cl_t]
  · rw [trs_setV, List.getElem?_set_self (by rw [trs_len, setV_length]; exact hj), SV.cl_t, SV.cl_t]
/-! ### _law_same -/
def sm : Nat → T → Prop
  | 0, _ => False
  | _ + 1, .non => True
  | _ + 1, .bl _ => True
  | _ + 1, .int _ => True
  | _ + 1, .str _ => True
  | n + 1, .lst xs => xs.length ≤ sizeLine ∧ ∀ x ∈ xs, sm n x
  | n + 1, .tup xs => xs.length ≤ sizeLine ∧ ∀ x ∈ xs, sm n x
  | n + 1, .fdc ks vs => sm n (.lst (prsT ks vs))
  | _ + 1, _ => False
def cSame (n : Nat) : Con GS where
  pre := fun tr S => ∃ t, tr = [t, t] ∧ sm n t
  post := fun tr S t own fr S' => t = .bl true ∧ own = false ∧ fr = true ∧ S' = S
theorem zipT_same : ∀ (xs : List T), zipT xs xs = xs.map fun x => .tup [x, x]
  | [] => rfl
  | x :: xs => by simp [zipT, zipT_same xs]
theorem bls_true {α : Type} : ∀ (xs : List α), ∃ bs, blsOf (xs.map fun _ => T.bl true) = some bs ∧ (bs.all fun b => b) = true
  | [] => ⟨[], rfl, rfl⟩
  | x :: xs => by
    obtain ⟨bs, h1, h2⟩ := bls_true xs
    exact ⟨true :: bs, by simp [blsOf, h1], by simpa using h2⟩
theorem same_comp {Γ : Gam GS} {n : Nat} (h9 : Γ.fn 9 = cSame n) (a9 : Γ.ar 9 = 2) {ε : VEnv} {S : GS} {Q : KV GS} {X : KX GS} {t : T} {xs : List T} (hl : ε.length = 4) (h0 : (trs ε)[0]? = some (some t)) (h1 : (trs ε)[1]? = some (some t))
    (hz : zipOf t t = some (xs, xs)) (hx : ∀ x ∈ xs, sm n x) (hlen : xs.length ≤ sizeLine) (q : Q { t := .lst (xs.map fun _ => T.bl true), own := true } S) :
    wE Γ (.comp (.zip (.v 0) (.v 1)) (.tp (.cons (.nm 2) (.cons (.nm 3) .nil))) [2, 3] .nil (.call 9 (.cons (.v 2) (.cons (.v 3) .nil)))) ε S Q X := by
  obtain ⟨s0, e0, rfl⟩ := trs_get h0
  have h1' : (trs (push ε s0))[1]? = some (some s0.t) := by
    rw [trs_push, List.getElem?_append_left (by rw [trs_len]; omega)]
    exact h1
  obtain ⟨s1, e1, et⟩ := trs_get h1'
  simp only [wE, wI, e0, e1]
  refine ⟨xs, xs, by rw [et]; exact hz, ?_, ?_⟩
  · refine hid_trs fun p hp => ?_
    rcases List.mem_cons.mp hp with rfl | hp
    · rw [trs_wipe _ _ (by simp; omega), trs_push, List.getElem?_append_left (by rw [trs_len, push_len]; omega), trs_push, List.getElem?_append_right (by rw [trs_len]; exact Nat.le_refl _), trs_len, Nat.sub_self]
      rfl
    · obtain rfl := List.mem_singleton.mp hp
      rw [trs_wipe _ _ (by simp; omega), trs_push, List.getElem?_append_right (by rw [trs_len, push_len]; exact Nat.le_refl _), trs_len, push_len, Nat.sub_self]
      rfl
  · rw [zipT_same]
    refine comp_pure (fun _ => T.bl true) _ [] rfl ?_ (by simpa using hlen) (fun _ _ => rfl) ?_
    · intro u hu K hK
      obtain ⟨x, hxm, rfl⟩ := List.mem_map.mp hu
      refine wG_pair (x := x) (y := x) ?_ ?_ ?_ (by decide) ?_
      · unfold itemV
        rw [SV.cl_t]
      · rw [wipe_len, push_len, push_len]; omega
      · rw [wipe_len, push_len, push_len]; omega
      · intro ε' _ h2 h3
        obtain ⟨s2, e2, t2⟩ := trs_get h2
        obtain ⟨s3, e3, t3⟩ := trs_get h3
        simp only [wEs, wE, e2, e3, h9, a9]
        refine ⟨rfl, ⟨x, ?_, hx x hxm⟩, ?_, fun x t S2 h => h.elim⟩
        · simp [ts, SV.cl_t, t2, t3]
        · rintro u own fr S2 ⟨rfl, rfl, rfl, rfl⟩
          exact hK _ rfl
    · simp only [ts, List.map_nil, List.nil_append, List.map_map]
      exact q
theorem same_ok {Γ : Gam GS} {n : Nat} (h9 : Γ.fn 9 = cSame n) (a9 : Γ.ar 9 = 2) (tr : List T) (S : GS) (_ : tr.length = 2) (hp : (cSame (n + 1)).pre tr S) : wB Γ K24.v__law_same (entV 4 tr) S (endC (cSame (n + 1)) tr S) := by
  obtain ⟨t, rfl, ht⟩ := hp
  have el : (entV 4 [t, t]).length = 4 := by simp [entV]
  have ta : ∀ m (u : T), argV m u = some { t := u, own := false, fr := imm u, D := if imm u = true then [] else List.range m } := fun m u => by
    unfold argV
    split
    · rename_i h; rw [h]
    · rename_i h
      have h' : imm u = false := by simpa using h
      rw [h']
  have e0 : (trs (entV 4 [t, t]))[0]? = some (some t) := by simp [entV, trs, ta]
  have e1 : (trs (entV 4 [t, t]))[1]? = some (some t) := by simp [entV, trs, ta]
  generalize entV 4 [t, t] = ε at el e0 e1
  obtain ⟨s0, g0, t0⟩ := trs_get e0
  obtain ⟨s1, g1, t1⟩ := trs_get e1
  have seqs : ∀ xs, (t = .lst xs ∨ t = .tup xs) → xs.length ≤ sizeLine → (∀ x ∈ xs, sm n x) → wB Γ K24.v__law_same ε S (endC (cSame (n + 1)) [t, t] S) := fun xs hxs hl hx => by
    have hz : zipOf t t = some (xs, xs) := by rcases hxs with rfl | rfl <;> rfl
    obtain ⟨bs, b1, b2⟩ := bls_true xs
    have hcomp : ∀ (Q : KV GS) (X : KX GS), Q { t := .lst (xs.map fun _ => T.bl true), own := true } S → wE Γ (.comp (.zip (.v 0) (.v 1)) (.tp (.cons (.nm 2) (.cons (.nm 3) .nil))) [2, 3] .nil (.call 9 (.cons (.v 2) (.cons (.v 3) .nil)))) ε S Q X :=
      fun Q X q => same_comp h9 a9 el e0 e1 hz hx hl q
    simp only [K24.v__law_same]
    generalize (VE.comp (.zip (.v 0) (.v 1)) (.tp (.cons (.nm 2) (.cons (.nm 3) .nil))) [2, 3] .nil (.call 9 (.cons (.v 2) (.cons (.v 3) .nil)))) = vc at hcomp ⊢
    rw [wB_cons]
    rcases hxs with rfl | rfl
    all_goals
      simp (config := { decide := true }) only [wS, wT, wE, g0, g1, t0, t1, isiW, tyN, List.any_cons, List.any_nil, Bool.or_false, Bool.or_true, Bool.true_or, if_true, if_false, Bool.false_eq_true]
      rw [wB_cons]
      simp (config := { decide := true }) only [wS, wT, wE, g0, g1, t0, t1, isiW, tyN, cmpW, eqW, List.any_cons, List.any_nil, Bool.or_false, Bool.or_true, Bool.true_or, if_true, if_false, Bool.false_eq_true, decide_true, Bool.not_true, wB_nil]
      rw [wB_cons]
      simp (config := { decide := true }) only [wS, wT, wE, wEs, g0, g1, t0, t1, cmpW, eqW, ts, List.map_cons, List.map_nil, SV.cl_t, biW, resV, decide_true, if_true, Bool.not_true, truT]
      refine hcomp _ _ ?_
      simp only [SV.cl_t, biW]
      refine ⟨bs, b1, ?_⟩
      rw [b2]
      exact ⟨rfl, rfl, rfl, rfl⟩
  cases t with
  | lst xs => exact seqs xs (.inl rfl) ht.1 ht.2
  | tup xs => exact seqs xs (.inr rfl) ht.1 ht.2
  | fdc ks vs =>
    simp only [K24.v__law_same]
    rw [wB_cons]
    simp (config := { decide := true }) only [wS, wT, wE, g0, g1, t0, t1, isiW, tyN, List.any_cons, List.any_nil, Bool.or_false, Bool.or_true, Bool.true_or, if_true, if_false, Bool.false_eq_true, wB_nil]
    rw [wB_cons]
    simp (config := { decide := true }) only [wS, wT, wE, g0, g1, t0, t1, isiW, tyN, List.any_cons, List.any_nil, Bool.or_false, Bool.or_true, Bool.true_or, if_true, if_false, Bool.false_eq_true, wB_nil]
    rw [wB_cons]
    have mt : ∀ (xs : List T) (a : Bool) (b : List Nat), (mkL xs a b).t = .lst xs := fun xs a b => by
      unfold mkL
      split <;> rfl
    simp (config := { decide := true }) only [wS, wT, wE, wEs, g0, g1, t0, t1, cmpW, eqW, ts, List.map_cons, List.map_nil, SV.cl_t, biW, resV, decide_true, if_true, Bool.not_true, truT, h9, a9, isiW, tyN, List.any_cons, List.any_nil, Bool.or_false, Bool.or_true, Bool.true_or, mt]
    refine ⟨rfl, ⟨_, rfl, ht⟩, ?_, fun x t S2 h => h.elim⟩
    rintro u own fr S2 ⟨rfl, rfl, rfl, rfl⟩
    exact ⟨rfl, rfl, rfl, rfl⟩
  | opq a => exact ht.elim
  | dct a b => exact ht.elim
  | _ =>
    simp only [K24.v__law_same]
    repeat
      rw [wB_cons]
      simp (config := { decide := true }) only [wS, wT, wE, g0, g1, t0, t1, isiW, tyN, cmpW, eqW, isNonT, List.any_cons, List.any_nil, Bool.or_false, Bool.or_true, Bool.true_or, if_true, if_false, Bool.false_eq_true, wB_nil, truT, decide_true, Bool.not_true, Bool.not_false]
    exact ⟨rfl, rfl, rfl, rfl⟩
end Vs

-- K24pure2
namespace Vs
open PySem PySem.Spec PyProof.Rows L2
local macro_rules
  | `(tactic| walk_at "vs") => `(tactic| (first | rw [wB_cons] | rw [wB_nil] | skip) <;> simp only [wS, wE, wEs, wIs, wT, wI, wC, wPar, getV, entV, argV, imm, imms, if_true, if_false, List.length_cons, List.length_nil, List.map_cons, List.map_nil, List.cons_append, List.nil_append, List.getElem?_cons_zero, List.getElem?_cons_succ, Nat.zero_add, Nat.reduceAdd, Nat.reduceSub, List.replicate, List.set_cons_zero, List.set_cons_succ, setV, SV.cl, binW, cmpW, ixW, eqW, biW, meW, isiW, slW, cutW, truT, resV, mkRet, mkTup, mkL, ts, frs, Ds, Bool.false_eq_true, reduceIte])
def v_pick : VB := .cons (.ret (.ix (.v 1) (.call 6 (.cons (.v 0) (.cons (.bi .len (.cons (.v 1) (.nil))) (.nil)))))) (.nil)
def cPick : Con GS where
  pre := fun tr S => ∃ a xs, tr = [.opq a, .lst xs] ∧ xs ≠ [] ∧ xs.length < 2 ^ 60 ∧ Strm S a (2 ^ 40 - 1)
  post := fun tr S t own fr S' => ∃ a xs, tr = [.opq a, .lst xs] ∧ t ∈ xs ∧ own = false ∧ fr = imm t ∧ Dr 1 S S'
theorem pick_ok {Γ : Gam GS} (h6 : Γ.fn 6 = cDraw) (a6 : Γ.ar 6 = 2) (tr : List T) (S : GS) (_ : tr.length = 2) (hp : cPick.pre tr S) : wB Γ v_pick (entV 2 tr) S (endC cPick tr S) := by
  obtain ⟨a, xs, rfl, hne, hlen, hs⟩ := hp
  simp only [v_pick]
  walk_at "vs"
  simp only [h6, a6]
  have hpos : 0 < xs.length := List.length_pos_iff.mpr hne
  refine ⟨trivial, ⟨a, xs.length, rfl, by omega, by omega, hs⟩, ?_, fun x t S2 h => h.elim⟩
  rintro t own fr S2 ⟨a', m, d, e, rfl, d0, d1, rfl, rfl, hd⟩
  have e' : [T.opq a, T.int xs.length] = [T.opq a', T.int m] := e
  simp only [List.cons.injEq, T.opq.injEq, T.int.injEq, and_true] at e'
  obtain ⟨rfl, rfl⟩ := e'
  obtain ⟨i, rfl⟩ := Int.eq_ofNat_of_zero_le d0
  have hi : i < xs.length := by omega
  refine ⟨xs[i], atI_nat (List.getElem?_eq_getElem hi), ?_⟩
  refine ⟨a, xs, rfl, ?_, ?_, ?_, hd⟩
  · split <;> exact List.getElem_mem hi
  · split <;> rfl
  · split
    · rename_i h
      simpa using h.symm
    · rename_i h
      have h' : imm xs[i] = false := by simpa using h
      simp [h', List.all]

end Vs

-- K24p11
namespace Vs
open PySem PySem.Spec PyProof.Rows L2
local macro_rules
  | `(tactic| walk_at "vs") => `(tactic| (first | rw [wB_cons] | rw [wB_nil] | skip) <;> try simp only [joinD_nil, poison_nil, Bool.false_and, Bool.true_and, Bool.and_true, Bool.and_self, List.all_cons, List.all_nil, List.flatMap_cons, List.flatMap_nil, List.append_nil, wS, wE, wEs, wIs, wT, wI, wC, wPar, getV, entV, argV, imm, imms, if_true, if_false, List.length_cons, List.length_nil, List.map_cons, List.map_nil, List.cons_append, List.nil_append, List.getElem?_cons_zero, List.getElem?_cons_succ, Nat.zero_add, Nat.reduceAdd, Nat.reduceSub, List.replicate, List.set_cons_zero, List.set_cons_succ, setV, SV.cl, binW, cmpW, ixW, eqW, biW, meW, isiW, slW, cutW, truT, resV, mkRet, mkTup, mkL, ts, frs, Ds, Bool.false_eq_true, reduceIte, push, moveAll, moveV, SV.moved, recvT, true_and, Option.bind_some, imms_strs, imms_strsF, imms_app, ite_true, List.take_succ_cons, List.take_zero])
/-- a text of a row: short, no line feed in it -/
def okS (n : Nat) (x : Str) : Prop := x.length ≤ n ∧ ∀ c ∈ x.cps.toList, c ≠ 10
theorem okS.le {n m : Nat} {x : Str} (h : okS n x) (k : n ≤ m) : okS m x := ⟨Nat.le_trans h.1 k, h.2⟩
theorem okS.app {n m : Nat} {x y : Str} (h : okS n x) (k : okS m y) : okS (n + m) (x ++ y) := by
  refine ⟨by rw [Str.length_append]; exact Nat.add_le_add h.1 k.1, fun c hc => ?_⟩
  have e : (x ++ y).cps.toList = x.cps.toList ++ y.cps.toList := by
    rw [Str.cps_append, Array.toList_append]
  rw [e] at hc
  rcases List.mem_append.mp hc with hc | hc
  · exact h.2 c hc
  · exact k.2 c hc
def okT (n : Nat) : T → Bool
  | .str x => decide (x.length ≤ n) && x.cps.toList.all fun c => decide (c ≠ 10)
  | _ => false
theorem okT_ok {n : Nat} {t : T} (h : okT n t = true) : ∃ x, t = .str x ∧ okS n x := by
  cases t with
  | str x =>
    obtain ⟨h1, h2⟩ := Bool.and_eq_true_iff.mp h
    exact ⟨x, rfl, of_decide_eq_true h1, fun c hc => of_decide_eq_true (List.all_eq_true.mp h2 c hc)⟩
  | _ => cases h
theorem all_mem {n : Nat} {xs : List T} {t : T} (h : xs.all (okT n) = true) (m : t ∈ xs) : ∃ x, t = .str x ∧ okS n x := okT_ok (List.all_eq_true.mp h t m)
def cDrawnRow : Con GS where
  pre := fun tr S => ∃ a, tr = [.opq a] ∧ Strm S a (2 ^ 39)
  post := fun tr S t own fr S' => ∃ a x, tr = [.opq a] ∧ t = .str x ∧ okS 300 x ∧ own = false ∧ fr = true ∧ Dr 40 S S'
theorem drow_loop {Γ : Gam GS} (h6 : Γ.fn 6 = cDraw) (a6 : Γ.ar 6 = 2) (h7 : Γ.fn 7 = cPick) (a7 : Γ.ar 7 = 2) {a : Addr} {S0 : GS} {D : Dn GS} {xs : List T} {ss : SV} (hs : ss = { t := .lst xs, own := true }) (hx : xs.all (okT 12) = true) (hxl : xs.length ≤ 100) (hxi : imms xs = true)
    (hnx : ∀ (x : Str) x3 x4 x5 (S : GS), okS 140 x → Strm S a (2 ^ 39 + 20) → Dr 12 S0 S → D.nx [some { t := .opq a }, some { t := .str x }, some ss, x3, x4, x5, none, none] S) :
    ∀ (n : Nat) (lo : Int) (x : Str) (x3 x4 x5 : Option SV) (S : GS), n ≤ 10 → okS (13 * (10 - n)) x → Strm S a (2 ^ 39 + 1 + (10 - n)) → Dr (1 + (10 - n)) S0 S →
      wLoop (.nm 3) 8 [] (fun ε2 S2 D2 => wB Γ lb__law_drawn_row ε2 S2 D2) D (rngT lo n) [some { t := .opq a }, some { t := .str x }, some ss, x3, x4, x5, none, none] S := by
  subst hs
  intro n
  induction n with
  | zero =>
    intro lo x x3 x4 x5 S hn hx2 hs hd
    simp only [rngT, wLoop, hidE, List.take_succ_cons, List.take_zero, true_and]
    exact hnx x _ _ _ S (hx2.le (by omega)) (hs.le (by omega)) (hd.le (by omega))
  | succ n ih =>
    intro lo x x3 x4 x5 S hn hx2 hs hd
    simp only [rngT, wLoop, hidE, true_and]
    simp only [wG, wGs, vtLen, slotsT, slotsTs, itemV, SV.cl, imm, imms, if_true, Bool.and_self, setV, List.length_cons, List.length_nil, Nat.zero_add, Nat.reduceAdd, true_and, List.set_cons_succ, List.set_cons_zero]
    simp only [lb__law_drawn_row]
    walk_at "vs"
    simp only [hxi, imms, imm, if_true, Bool.and_self, binW, resV, mkL, imms_app, imms_strsF, h7, a7]
    obtain ⟨ys, hys⟩ : ∃ ys, ys = xs ++ List.map (fun c => T.str { cps := #[c] }) (Str.ofString "(),").cps.toList ++ [T.str (Str.ofString " "), T.str (Str.ofString "  "), T.str (Str.ofString " "), T.str (Str.ofString " ")] := ⟨_, rfl⟩
    have l3 : (List.map (fun c => T.str { cps := #[c] }) (Str.ofString "(),").cps.toList).length = 3 := by rfl
    have hyo : ys.all (okT 12) = true := by
      rw [hys, List.all_append, List.all_append, hx]
      rfl
    have hyl : ys.length = xs.length + 7 := by
      rw [hys, List.length_append, List.length_append, l3]
      rfl
    have hyi : imms ys = true := by
      rw [hys, imms_app, imms_app, hxi]
      rfl
    rw [← hys]
    simp only [Bool.false_eq_true, if_false]
    have hsp : Strm S a (2 ^ 40 - 1) := hs.le (by omega)
    refine ⟨by decide, by rw [l3, sizeLine_eq]; omega, by rw [sizeLine_eq]; decide, by rw [List.length_append, l3, sizeLine_eq]; simp; omega, trivial, ⟨a, ys, rfl, (fun z => by rw [z] at hyl; simp at hyl), by omega, hsp⟩, ?_, fun x t S2 h => h.elim⟩
    rintro t own fr S2 ⟨a2, ys2, e, hm, rfl, rfl, hd2⟩
    have e' : [T.opq a, T.lst ys] = [T.opq a2, T.lst ys2] := e
    simp only [List.cons.injEq, T.opq.injEq, T.lst.injEq, and_true] at e'
    obtain ⟨rfl, rfl⟩ := e'
    obtain ⟨pc, rfl, hpc⟩ := all_mem hyo hm
    have hs2 := hd2.str _ _ hs
    have hd3 := hd.trans hd2
    have xl : x.length ≤ sizeLine := by
      have := hx2.1
      rw [sizeLine_eq]; omega
    have pl : pc.length ≤ sizeLine := by
      have := hpc.1
      rw [sizeLine_eq]; omega
    have rl : (Txt.rstripChars x (Str.ofString "0123456789")).length ≤ sizeLine := Nat.le_trans (len_rstripChars _ _) xl
    walk_at "vs"
    walk_at "vs"
    refine ⟨xl, xl, rl, ?_⟩
    have again : ∀ (y : Str) (x5' : Option SV), okS (13 * (10 - n)) y → wLoop (.nm 3) 8 [] (fun ε2 S2 D2 => wB Γ lb__law_drawn_row ε2 S2 D2) D (rngT (lo + 1) n)
        [some { t := T.opq a }, some { t := T.str y }, some { t := T.lst xs, own := true }, some { t := T.int lo }, some { t := T.str pc }, x5', none, none] S2 := fun y x5' hy =>
      ih (lo + 1) y _ _ _ S2 (by omega) hy (hs2.le (by omega)) (hd3.le (by omega))
    have hsp1 : okS 1 (Str.ofString " ") := ⟨by decide, by decide⟩
    have x1 := hx2.1
    have p1 := hpc.1
    have s1 : (Str.ofString " ").length = 1 := by rfl
    by_cases hdg : Txt.isdigit pc = true
    · rw [if_pos hdg]
      refine ⟨pl, ?_⟩
      by_cases hgt : decide ((30 : Int) < (x.length : Int) - ((Txt.rstripChars x (Str.ofString "0123456789")).length : Int) + (pc.length : Int)) = true
      · rw [if_pos hgt]
        refine ⟨by rw [s1, sizeLine_eq]; omega, by rw [Str.length_append, s1, sizeLine_eq]; omega, ?_⟩
        walk_at "vs"
        exact again _ _ ((hx2.app (hsp1.app hpc)).le (by omega))
      · rw [if_neg hgt]
        refine ⟨by rw [sizeLine_eq]; omega, ?_⟩
        walk_at "vs"
        exact again _ _ ((hx2.app hpc).le (by omega))
    · rw [if_neg hdg]
      refine ⟨by rw [sizeLine_eq]; omega, ?_⟩
      walk_at "vs"
      exact again _ _ ((hx2.app hpc).le (by omega))
end Vs

-- K24p12
namespace Vs
open PySem PySem.Spec PyProof.Rows L2
local macro_rules
  | `(tactic| walk_at "vs") => `(tactic| (first | rw [wB_cons] | rw [wB_nil] | skip) <;> try simp only [joinD_nil, poison_nil, Bool.false_and, Bool.true_and, Bool.and_true, Bool.and_self, List.all_cons, List.all_nil, List.flatMap_cons, List.flatMap_nil, List.append_nil, wS, wE, wEs, wIs, wT, wI, wC, wPar, getV, entV, argV, imm, imms, if_true, if_false, List.length_cons, List.length_nil, List.map_cons, List.map_nil, List.cons_append, List.nil_append, List.getElem?_cons_zero, List.getElem?_cons_succ, Nat.zero_add, Nat.reduceAdd, Nat.reduceSub, List.replicate, List.set_cons_zero, List.set_cons_succ, setV, SV.cl, binW, cmpW, ixW, eqW, biW, meW, isiW, slW, cutW, truT, resV, mkRet, mkTup, mkL, ts, frs, Ds, Bool.false_eq_true, reduceIte, push, moveAll, moveV, SV.moved, recvT, true_and, Option.bind_some, imms_strs, imms_strsF, imms_app, ite_true, List.take_succ_cons, List.take_zero])
theorem cut_mem {x : Str} {lo hi : Option Int} {c : Nat} (h : c ∈ (cutS x lo hi).cps.toList) : c ∈ x.cps.toList := by
  unfold cutS at h
  exact List.mem_of_mem_drop (List.mem_of_mem_take h)
theorem cut_len {x : Str} {lo hi : Option Int} : (cutS x lo hi).length ≤ x.length := by
  rw [← len_tl, ← len_tl]
  unfold cutS
  show ((x.cps.toList.drop _).take _).length ≤ _
  rw [List.length_take, List.length_drop]
  omega
theorem okS.cut {n : Nat} {x : Str} {lo hi : Option Int} (h : okS n x) : okS n (cutS x lo hi) := ⟨Nat.le_trans cut_len h.1, fun c hc => h.2 c (cut_mem hc)⟩
theorem draw_use {a : Addr} {m : Int} {S S' : GS} {t : T} {own fr : Bool} (h : cDraw.post [.opq a, .int m] S t own fr S') : ∃ d, t = .int d ∧ 0 ≤ d ∧ d < m ∧ own = false ∧ fr = true ∧ Dr 1 S S' := by
  obtain ⟨a2, m2, d, e, h1, h2, h3, h4, h5, h6⟩ := h
  simp only [List.cons.injEq, T.opq.injEq, T.int.injEq, and_true] at e
  obtain ⟨rfl, rfl⟩ := e
  exact ⟨d, h1, h2, h3, h4, h5, h6⟩
theorem pick_use {a : Addr} {xs : List T} {S S' : GS} {t : T} {own fr : Bool} (h : cPick.post [.opq a, .lst xs] S t own fr S') : t ∈ xs ∧ own = false ∧ fr = imm t ∧ Dr 1 S S' := by
  obtain ⟨a2, xs2, e, h1, h2, h3, h4⟩ := h
  simp only [List.cons.injEq, T.opq.injEq, T.lst.injEq, and_true] at e
  obtain ⟨rfl, rfl⟩ := e
  exact ⟨h1, h2, h3, h4⟩
theorem drawn_row_ok {Γ : Gam GS} (h6 : Γ.fn 6 = cDraw) (a6 : Γ.ar 6 = 2) (h7 : Γ.fn 7 = cPick) (a7 : Γ.ar 7 = 2) (tr : List T) (S : GS) (_ : tr.length = 1) (hp : cDrawnRow.pre tr S) : wB Γ K24.v__law_drawn_row (entV 8 tr) S (endC cDrawnRow tr S) := by
  obtain ⟨a, rfl, hs⟩ := hp
  simp only [K24.v__law_drawn_row]
  walk_at "vs"
  refine ⟨by rw [sizeLine_eq]; decide, _, rfl, ?_⟩
  walk_at "vs"
  simp only [h6, a6]
  refine ⟨trivial, ⟨a, 10, rfl, by decide, by decide, hs.le (by omega)⟩, ?_, fun x t S2 h => h.elim⟩
  rintro t own fr S1 ⟨a2, m, d, e, rfl, d0, d1, rfl, rfl, hd⟩
  have e' : [T.opq a, T.int 10] = [T.opq a2, T.int m] := e
  simp only [List.cons.injEq, T.opq.injEq, T.int.injEq, and_true] at e'
  obtain ⟨rfl, rfl⟩ := e'
  walk_at "vs"
  refine ⟨by omega, by omega, ?_⟩
  have hs1 := hd.str _ _ hs
  have go := fun (D : Dn GS) hnx => drow_loop (Γ := Γ) h6 a6 h7 a7 (a := a) (S0 := S) (D := D) rfl (xs := [T.str "agent", T.str "say", T.str "a", T.str "zz", T.str "'a", T.str "'", T.str "''b", T.str "proved", T.str "a_b", T.str "fair_mean", T.str "abcdefgh", T.str "0", T.str "7", T.str "0012", T.str "345678901234"]) (by rfl) (by decide) (by rfl) hnx d.toNat 0 Str.empty none none none S1 (by omega) ⟨Nat.zero_le _, by decide⟩ (hs1.le (by omega)) (hd.le (by omega))
  refine go _ ?_
  clear go
  intro x x3 x4 x5 S2 hx hs2 hd2
  generalize (T.lst _ : T) = tl
  have xl : x.length ≤ sizeLine := by
    have := hx.1
    rw [sizeLine_eq]; omega
  have last : ∀ (y : Str) (x6 x7 : Option SV) (S3 : GS), okS 284 y → Strm S3 a (2 ^ 39 + 30) → Dr 20 S S3 → wB Γ
      (.cons (.ret (.bin .Add (.v 1) (.ife (.cmp .Eq (.call 6 (.cons (.v 0) (.cons (.k (.int 4)) (.nil)))) (.k (.int 0))) (.call 7 (.cons (.v 0) (.cons (.lst (.cons (.k (.str "# no @ sign ' 12")) (.cons (.k (.str "#")) (.cons (.k (.str "#a#b")) (.nil))))) (.nil)))) (.k (.str ""))))) (.nil))
      [some { t := T.opq a }, some { t := T.str y }, some { t := tl, own := true }, x3, x4, x5, x6, x7] S3 (endC cDrawnRow [T.opq a] S) := by
    intro y x6 x7 S3 hy hs3 hd3
    have y1 := hy.1
    walk_at "vs"
    simp only [h6, a6, h7, a7]
    refine ⟨trivial, ⟨a, 4, rfl, by decide, by decide, hs3.le (by omega)⟩, ?_, fun x t S2 h => h.elim⟩
    intro t own fr S4 hpost
    obtain ⟨d4, rfl, _, _, rfl, rfl, hd4⟩ := draw_use hpost
    have hs4 := hd4.str _ _ hs3
    have hd5 := hd3.trans hd4
    try simp only [eqW]
    by_cases h0 : d4 = 0
    · rw [decide_eq_true h0]
      simp only [if_true]
      refine ⟨by rw [sizeLine_eq]; decide, trivial, ⟨a, _, rfl, by simp, by simp, hs4.le (by omega)⟩, ?_, fun x t S2 h => h.elim⟩
      intro t own fr S5 hpost
      obtain ⟨hm, rfl, rfl, hd6⟩ := pick_use hpost
      obtain ⟨z, rfl, hz⟩ := all_mem (n := 16) (by rfl) hm
      have z1 := hz.1
      refine ⟨by rw [sizeLine_eq]; omega, a, _, rfl, rfl, (hy.app hz).le (by omega), rfl, rfl, (hd5.trans hd6).le (by omega)⟩
    · rw [decide_eq_false h0]
      simp only [Bool.false_eq_true, if_false]
      refine ⟨by rw [show (Str.ofString "").length = 0 by rfl, sizeLine_eq]; omega, a, _, rfl, rfl, (hy.app (m := 0) ⟨by decide, by decide⟩).le (by omega), rfl, rfl, hd5.le (by omega)⟩
  walk_at "vs"
  walk_at "vs"
  simp only [h6, a6]
  refine ⟨trivial, ⟨a, 5, rfl, by decide, by decide, hs2.le (by omega)⟩, ?_, fun x t S2 h => h.elim⟩
  intro t own fr S3 hpost
  obtain ⟨d3, rfl, _, _, rfl, rfl, hd3⟩ := draw_use hpost
  have hs3 := hd2.str
  have hs3 := hd3.str _ _ hs2
  have hd23 := hd2.trans hd3
  try simp only [eqW]
  by_cases h0 : d3 = 0
  · rw [decide_eq_true h0]
    simp only [if_true]
    walk_at "vs"
    simp only [h6, a6]
    have x1 := hx.1
    refine ⟨xl, trivial, ⟨a, _, rfl, by omega, by omega, hs3.le (by omega)⟩, ?_, fun x t S2 h => h.elim⟩
    intro t own fr S4 hpost
    obtain ⟨d4, rfl, _, _, rfl, rfl, hd4⟩ := draw_use hpost
    have hs4 := hd4.str _ _ hs3
    walk_at "vs"
    walk_at "vs"
    simp only [h7, a7]
    have l14 : (List.map (fun c => T.str { cps := #[c] }) (Str.ofString "@-:A_+;{}~Z.[]").cps.toList).length = 14 := by rfl
    refine ⟨by rw [sizeLine_eq]; decide, by rw [sizeLine_eq]; decide, by rw [l14, sizeLine_eq]; decide, trivial, ⟨a, _, rfl, by simp, by rw [List.length_append, l14]; decide, hs4.le (by omega)⟩, ?_, fun x t S2 h => h.elim⟩
    intro t own fr S5 hpost
    obtain ⟨hm, rfl, rfl, hd5⟩ := pick_use hpost
    obtain ⟨z, rfl, hz⟩ := all_mem (n := 4) (by rfl) hm
    have hs5 := hd5.str _ _ hs4
    have z1 := hz.1
    have c1 : ∀ {lo hi : Option Int}, (cutS x lo hi).length ≤ 140 := fun {lo hi} => Nat.le_trans cut_len x1
    have q1 := @c1 none (some d4)
    have q2 := @c1 (some d4) none
    walk_at "vs"
    walk_at "vs"
    refine ⟨xl, by rw [sizeLine_eq]; omega, xl, by rw [Str.length_append, sizeLine_eq]; omega, ?_⟩
    exact last _ _ _ S5 (((hx.cut.app hz).app hx.cut).le (by omega)) (hs5.le (by omega)) (((hd23.trans hd4).trans hd5).le (by omega))
  · rw [decide_eq_false h0]
    simp only [Bool.false_eq_true, if_false]
    walk_at "vs"
    exact last x _ _ S3 (hx.le (by omega)) (hs3.le (by omega)) (hd23.le (by omega))
end Vs

-- K24p13
namespace Vs
open PySem PySem.Spec PyProof.Rows L2
local macro_rules
  | `(tactic| walk_at "vs") => `(tactic| (first | rw [wB_cons] | rw [wB_nil] | skip) <;> try simp only [joinD_nil, poison_nil, Bool.false_and, Bool.true_and, Bool.and_true, Bool.and_self, List.all_cons, List.all_nil, List.flatMap_cons, List.flatMap_nil, List.append_nil, wS, wE, wEs, wIs, wT, wI, wC, wPar, getV, entV, argV, imm, imms, if_true, if_false, List.length_cons, List.length_nil, List.map_cons, List.map_nil, List.cons_append, List.nil_append, List.getElem?_cons_zero, List.getElem?_cons_succ, Nat.zero_add, Nat.reduceAdd, Nat.reduceSub, List.replicate, List.set_cons_zero, List.set_cons_succ, setV, SV.cl, binW, cmpW, ixW, eqW, biW, meW, isiW, slW, cutW, truT, resV, mkRet, mkTup, mkL, ts, frs, Ds, Bool.false_eq_true, reduceIte, push, moveAll, moveV, SV.moved, recvT, true_and, Option.bind_some, imms_strs, imms_strsF, imms_app, ite_true, List.take_succ_cons, List.take_zero])
theorem cl_plain {t : T} : SV.cl { t := t } = { t := t } := by
  unfold SV.cl
  split <;> rfl
theorem mkL_plain {xs : List T} : mkL xs true [] = { t := .lst xs, own := true } := by
  unfold mkL
  split <;> rfl
theorem drow_elt {Γ : Gam GS} (h14 : Γ.fn 14 = cDrawnRow) (a14 : Γ.ar 14 = 1) {a : Addr} {ε : VEnv} {S : GS} {K : KV GS} {X : KX GS} (hst : (trs ε)[1]? = some (some (.opq a))) (hs : Strm S a (2 ^ 39))
    (k : ∀ (x : Str) (s : SV) (S' : GS), s.cl = { t := .str x } → okS 300 x → Dr 40 S S' → K s S') : wE Γ (.call 14 (.cons (.v 1) .nil)) ε S K X := by
  obtain ⟨s1, e1, t1⟩ := trs_get hst
  simp only [wE, wEs, e1, h14, a14]
  refine ⟨rfl, ⟨a, ?_, hs⟩, ?_, fun x t S2 h => h.elim⟩
  · simp [ts, SV.cl_t, t1]
  · rintro t own fr S2 ⟨a2, x, e, rfl, hx, rfl, rfl, hd2⟩
    exact k x _ S2 rfl hx hd2
/-- the rows drawn -/
theorem drawn_comp {a : Addr} {εr : VEnv} {elt : VEnv → GS → KV GS → Prop} {Q : KV GS} {S0 : GS} (hst : (trs εr)[1]? = some (some (.opq a)))
    (helt : ∀ (ε : VEnv) (S : GS) (K : KV GS), (trs ε)[1]? = some (some (.opq a)) → Strm S a (2 ^ 39) → (∀ (x : Str) (s : SV) (S' : GS), s.cl = { t := .str x } → okS 300 x → Dr 40 S S' → K s S') → elt ε S K) :
    ∀ (n : Nat) (lo : Int) (ys : List Str) (S : GS) (m d : Int), (∀ y ∈ ys, okS 300 y) → ys.length + n ≤ 1000 → Strm S a m → m + 40 * n ≤ 2 ^ 39 → Dr d S0 S →
      (∀ (zs : List Str) (S' : GS), zs.length = ys.length + n → (∀ y ∈ zs, okS 300 y) → Strm S' a (m + 40 * n) → Dr (d + 40 * n) S0 S' → Q { t := .lst (zs.map .str), own := true } S') →
      wComp (.nm 13) [] εr (fun ε2 S2 K => K true S2) elt [13] Q (rngT lo n) (ys.map fun y => { t := .str y }) S
  | 0, lo, ys, S, m, d, hy, hl, hs, hm, hd, q => by
    unfold rngT wComp
    have e : ts (ys.map fun y => ({ t := .str y } : SV)) = ys.map T.str := by simp [ts]
    unfold mkL
    rw [e, if_pos imms_strs]
    exact q ys S rfl hy (hs.le (by omega)) (hd.le (by omega))
  | n + 1, lo, ys, S, m, d, hy, hl, hs, hm, hd, q => by
    unfold rngT wComp
    simp only [wG, if_true, itemV, hidF, hidD, Bool.true_and]
    rw [cl_plain]
    refine helt _ S _ ?_ (hs.le (by omega)) fun x s S2 e hx hd2 => ⟨by rw [List.length_map, sizeLine_eq]; omega, ?_⟩
    · rw [trs_setV, List.getElem?_set_ne (by decide)]
      exact hst
    · have e2 : (ys.map fun y => ({ t := .str y } : SV)) ++ [s.cl] = (ys ++ [x]).map fun y => ({ t := .str y } : SV) := by
        rw [List.map_append, e]
        rfl
      rw [e2]
      refine drawn_comp hst helt n (lo + 1) (ys ++ [x]) S2 (m + 40) (d + 40) ?_ (by simp; omega) (hd2.str _ _ hs) (by omega) (hd.trans hd2) ?_
      · intro y hy2
        rcases List.mem_append.mp hy2 with h | h
        · exact hy y h
        · rw [List.mem_singleton.mp h]; exact hx
      · intro zs S' hl2 hz hs' hd'
        refine q zs S' (by rw [hl2]; simp; omega) hz (hs'.le (by omega)) (hd'.le (by omega))
end Vs

-- K24p14
namespace Vs
open PySem PySem.Spec PyProof.Rows L2
local macro_rules
  | `(tactic| walk_at "vs") => `(tactic| (first | rw [wB_cons] | rw [wB_nil] | skip) <;> try simp only [joinD_nil, poison_nil, Bool.false_and, Bool.true_and, Bool.and_true, Bool.and_self, List.all_cons, List.all_nil, List.flatMap_cons, List.flatMap_nil, List.append_nil, wS, wE, wEs, wIs, wT, wI, wC, wPar, getV, entV, argV, imm, imms, if_true, if_false, List.length_cons, List.length_nil, List.map_cons, List.map_nil, List.cons_append, List.nil_append, List.getElem?_cons_zero, List.getElem?_cons_succ, Nat.zero_add, Nat.reduceAdd, Nat.reduceSub, List.replicate, List.set_cons_zero, List.set_cons_succ, setV, SV.cl, binW, cmpW, ixW, eqW, biW, meW, isiW, slW, cutW, truT, resV, mkRet, mkTup, mkL, ts, frs, Ds, Bool.false_eq_true, reduceIte, push, moveAll, moveV, SV.moved, recvT, true_and, Option.bind_some, imms_strs, imms_strsF, imms_app, ite_true, List.take_succ_cons, List.take_zero])
/-- a list made item by item, its tree alone -/
theorem comp_tree {G : Type} {tg : VT} {hs : List (Nat × T)} {εr : VEnv} {elt : VEnv → G → KV G → Prop} {own : List Nat} {Q : KV G} {S : G} (f : T → T) :
    ∀ (xs : List T) (acc : List SV), (∀ t ∈ xs, ∀ K : KV G, (∀ s : SV, s.t = f t → K s S) → wG tg (itemV εr hs t) εr fun ε1 => elt ε1 S K) → acc.length + xs.length ≤ sizeLine →
      (∀ s : SV, s.t = .lst (ts acc ++ xs.map f) → Q s S) → wComp tg hs εr (fun ε2 S2 K => K true S2) elt own Q xs acc S
  | [], acc, _, _, q => by
    unfold wComp
    refine q _ ?_
    unfold mkL
    split <;> simp
  | t :: xs, acc, he, hl, q => by
    unfold wComp
    simp only [if_true]
    refine he t List.mem_cons_self _ fun s hs => ⟨by simp at hl; omega, ?_⟩
    have e : ts (acc ++ [s.cl]) = ts acc ++ [f t] := by simp [ts, SV.cl_t, hs]
    refine comp_tree f xs (acc ++ [s.cl]) (fun u hu => he u (List.mem_cons_of_mem _ hu)) (by simp at hl ⊢; omega) fun s' e' => q s' ?_
    rw [e', e]
    simp
def badsL : Nat → List Str → List T
  | _, [] => []
  | n, r :: rs => if isNonT (badOf (scanR r)) = true then badsL (n + 1) rs else .tup [.int n, badOf (scanR r)] :: badsL (n + 1) rs
theorem fbad_bads : ∀ (n : Nat) (rs : List Str), fbad n rs = (badsL n rs).head?
  | _, [] => rfl
  | n, r :: rs => by
    rw [fbad_cons]
    unfold badsL
    split
    · exact fbad_bads (n + 1) rs
    · rfl
/-- how a row's bad place is, as a tree -/
theorem scanR_eq (r : Str) : scanR r = .tup [someOf (scanR r), badOf (scanR r)] := by
  obtain ⟨ts, b, e, _⟩ := scanR_form r
  rw [e]; rfl
def pairI : T → Bool
  | .tup [.int _, .int _] => true
  | _ => false
theorem badsL_pair : ∀ (n : Nat) (rs : List Str), (badsL n rs).all pairI = true
  | _, [] => rfl
  | n, r :: rs => by
    unfold badsL
    split
    · exact badsL_pair (n + 1) rs
    · rename_i h
      obtain ⟨ts, b, e, _, _, hb⟩ := scanR_form r
      have eb : badOf (scanR r) = b := by rw [e]; rfl
      rw [eb] at h ⊢
      rcases hb with rfl | ⟨k, rfl⟩
      · exact absurd rfl h
      · simp [pairI, badsL_pair (n + 1) rs]
theorem pair_imms : ∀ (xs : List T), xs.all pairI = true → imms xs = true
  | [], _ => rfl
  | t :: xs, h => by
    simp only [List.all_cons, Bool.and_eq_true] at h
    have e : imm t = true := by
      cases t with
      | tup ys =>
        match ys, h.1 with
        | [.int a, .int b], _ => rfl
      | _ => simp [pairI] at h
    simp [imms, e, pair_imms xs h.2]
theorem pair_data : ∀ (xs : List T), xs.all pairI = true → ∃ ds, toDs xs = some ds ∧ PyData.canLayAll0 ds = true ∧ PyData.depthAll ds ≤ 2 ∧ ds.isEmpty = xs.isEmpty
  | [], _ => ⟨[], rfl, rfl, by simp [PyData.depthAll], rfl⟩
  | t :: xs, h => by
    simp only [List.all_cons, Bool.and_eq_true] at h
    obtain ⟨ds, h1, h2, h3, h4⟩ := pair_data xs h.2
    cases t with
    | tup ys =>
      match ys, h.1 with
      | [.int a, .int b], _ =>
        refine ⟨.tuple [.int a, .int b] :: ds, by simp [toDs, toD, h1], ?_, ?_, rfl⟩
        · simp [PyData.canLayAll0, PyData.canLay0, h2]
        · simp [PyData.depthAll, PyData.depth]
          omega
    | _ => simp [pairI] at h
/-- bads == [] -/
theorem eq_nil {xs : List T} {Q : Bool → Prop} (h : xs.all pairI = true) (q : Q xs.isEmpty) : eqW (.lst xs) (.lst []) Q := by
  obtain ⟨ds, h1, h2, h3, h4⟩ := pair_data xs h
  have e1 : toD (.lst xs) = some (.list ds) := by simp [toD, h1]
  have e2 : toD (.lst []) = some (.list []) := rfl
  have s1 : SeqAt.shaped (.list ds) = true := by
    have a : PyData.canLay0 (.list ds) = true := by simp [PyData.canLay0, h2]
    have b : PyData.depth (.list ds) ≤ 64 := by simp [PyData.depth]; omega
    unfold SeqAt.shaped
    rw [a, decide_eq_true b]; rfl
  have s2 : SeqAt.shaped (.list []) = true := by decide
  have e3 : PyData.eqv (.list ds) (.list []) = xs.isEmpty := by
    rw [← h4]
    cases ds <;> rfl
  unfold eqW
  simp only [e1, e2]
  exact ⟨s1, s2, by rw [e3]; exact q⟩
theorem wG_pair3 {ε : VEnv} {i j k : Nat} {s : SV} {x y z : T} {Q : VEnv → Prop} (hs : s.t = .tup [x, .tup [y, z]]) (hi : i < ε.length) (hj : j < ε.length) (hk : k < ε.length) (hij : i ≠ j) (hik : i ≠ k) (hjk : j ≠ k)
    (h : ∀ ε' : VEnv, ε'.length = ε.length → (trs ε')[i]? = some (some x) → (trs ε')[j]? = some (some y) → (trs ε')[k]? = some (some z) → Q ε') : wG (.tp (.cons (.nm i) (.cons (.tp (.cons (.nm j) (.cons (.nm k) .nil))) .nil))) s ε Q := by
  simp only [wG, hs, wGs, vtLen, slotsT, SV.cl_t, List.length_cons, List.length_nil, Nat.zero_add, Nat.reduceAdd, true_and]
  refine h _ (by rw [setV_length, setV_length, setV_length]) ?_ ?_ ?_
  · rw [trs_setV, List.getElem?_set_ne (Ne.symm hik), trs_setV, List.getElem?_set_ne (Ne.symm hij), trs_setV, List.getElem?_set_self (by rw [trs_len]; exact hi)]
    simp only [SV.cl_t]
  · rw [trs_setV, List.getElem?_set_ne (Ne.symm hjk), trs_setV, List.getElem?_set_self (by rw [trs_len, setV_length]; exact hj)]
    simp only [SV.cl_t]
  · rw [trs_setV, List.getElem?_set_self (by rw [trs_len, setV_length, setV_length]; exact hk)]
    simp only [SV.cl_t]
theorem bads_comp {hs : List (Nat × T)} {εr : VEnv} {Q : KV GS} {S : GS} {cond : VEnv → GS → (Bool → GS → Prop) → Prop} {elt : VEnv → GS → KV GS → Prop} (hl : 16 ≤ εr.length)
    (hcond : ∀ (ε : VEnv) (K : Bool → GS → Prop) (b : T), (trs ε)[15]? = some (some b) → K (!isNonT b) S → cond ε S K)
    (helt : ∀ (ε : VEnv) (K : KV GS) (x b : T), (trs ε)[14]? = some (some x) → (trs ε)[15]? = some (some b) → (∀ s : SV, s.t = .tup [x, b] → K s S) → elt ε S K) :
    ∀ (rows : List Str) (n : Nat) (acc : List SV), imms (ts acc) = true → acc.length + rows.length ≤ sizeLine → Q { t := .lst (ts acc ++ badsL n rows), own := true } S →
      wComp (.tp (.cons (.nm 14) (.cons (.tp (.cons (.nm 12) (.cons (.nm 15) .nil))) .nil))) hs εr cond elt [14, 12, 15] Q (enumT n (rows.map scanR)) acc S
  | [], n, acc, ha, _, q => by
    simp only [List.map_nil, enumT]
    unfold wComp
    simp only [badsL, List.append_nil] at q
    unfold mkL
    rw [if_pos ha]
    exact q
  | r :: rows, n, acc, ha, hle, q => by
    simp only [List.map_cons, enumT]
    unfold wComp
    have hp := badsL_pair n (r :: rows)
    refine wG_pair3 (x := .int n) (y := someOf (scanR r)) (z := badOf (scanR r)) (by unfold itemV; rw [SV.cl_t, ← scanR_eq]) (by omega) (by omega) (by omega) (by decide) (by decide) (by decide) fun ε' _ h14 h12 h15 => ?_
    refine hcond ε' _ _ h15 ?_
    unfold badsL at q hp
    by_cases hb : isNonT (badOf (scanR r)) = true
    · rw [if_pos hb] at q
      rw [if_neg (by rw [hb]; decide)]
      exact bads_comp hl hcond helt rows (n + 1) acc ha (by simp at hle; omega) q
    · have hb' : isNonT (badOf (scanR r)) = false := by simpa using hb
      rw [if_neg hb] at q hp
      rw [if_pos (by rw [hb']; rfl)]
      refine helt ε' _ _ _ h14 h15 fun s es => ⟨by simp at hle; omega, ?_⟩
      have e : ts (acc ++ [s.cl]) = ts acc ++ [.tup [.int n, badOf (scanR r)]] := by
        simp [ts, SV.cl_t, es]
      refine bads_comp hl hcond helt rows (n + 1) _ ?_ (by simp at hle ⊢; omega) ?_
      · rw [e, imms_app, ha]
        simp only [List.all_cons, Bool.and_eq_true] at hp
        have := pair_imms [.tup [.int n, badOf (scanR r)]] (by simp [hp.1])
        rw [this]; rfl
      · rw [e, List.append_assoc]
        exact q
/-! ### statements over environments known by their trees -/
theorem trs_raw {ε : VEnv} {i : Nat} {t : T} (h : (trs ε)[i]? = some (some t)) : ∃ s, ε[i]? = some (some s) ∧ s.t = t := by
  unfold trs at h
  rw [List.getElem?_map] at h
  cases e : ε[i]? with
  | none => rw [e] at h; simp at h
  | some o =>
    rw [e] at h
    cases o with
    | none => simp at h
    | some s => exact ⟨s, rfl, by simpa using h⟩
theorem moved_t (s : SV) : s.moved.t = s.t := by
  unfold SV.moved
  split <;> rfl
theorem moveV_trs {ε : VEnv} {h i : Nat} {t : T} (hh : (trs ε)[h]? = some (some t)) : ∃ ε', moveV ε h i = some ε' ∧ ε'.length = ε.length ∧ trs ε' = ((trs ε).set h none).set i (some t) := by
  obtain ⟨s, e, rfl⟩ := trs_raw hh
  refine ⟨setV (ε.set h none) i s.moved, by unfold moveV; rw [e], by rw [setV_length]; simp, ?_⟩
  rw [trs_setV, moved_t]
  congr 1
  simp [trs, List.map_set]
theorem par2_move {ε : VEnv} {i j : Nat} {s s' : SV} (hi : i < ε.length) (hj : j < ε.length) :
    ∃ ε2, moveAll [i, j] ε.length (push (push ε s) s') = some ε2 ∧ (ε2.take ε.length).length = ε.length ∧ trs (ε2.take ε.length) = ((trs ε).set i (some s.t)).set j (some s'.t) := by
  have e0 : trs (push (push ε s) s') = trs ε ++ [some s.t, some s'.t] := by
    rw [trs_push, trs_push, List.append_assoc]; rfl
  have ln := trs_len (ε := ε)
  have l0 : (push (push ε s) s').length = ε.length + 2 := by rw [push_len, push_len]
  obtain ⟨ε1, m1, l1, t1⟩ := moveV_trs (ε := push (push ε s) s') (h := ε.length) (i := i) (t := s.t) (by rw [e0, List.getElem?_append_right (by omega), ln, Nat.sub_self]; rfl)
  obtain ⟨ε2, m2, l2, t2⟩ := moveV_trs (ε := ε1) (h := ε.length + 1) (i := j) (t := s'.t) (by
    rw [t1, List.getElem?_set_ne (by omega), List.getElem?_set_ne (by omega), e0, List.getElem?_append_right (by omega), ln, Nat.add_sub_cancel_left]; rfl)
  refine ⟨ε2, ?_, by rw [List.length_take, l2, l1, l0]; omega, ?_⟩
  · unfold moveAll
    rw [m1]
    show moveAll [j] (ε.length + 1) ε1 = _
    unfold moveAll
    rw [m2]
    rfl
  · have et : trs (ε2.take ε.length) = (trs ε2).take ε.length := by simp [trs, List.map_take]
    rw [et, t2, t1, e0]
    refine List.ext_getElem? fun k => ?_
    by_cases hk : k < ε.length
    · rw [List.getElem?_take_of_lt hk]
      by_cases h2 : k = j
      · subst h2
        rw [List.getElem?_set_self (by simp only [List.length_set, List.length_append, List.length_cons, List.length_nil]; omega), List.getElem?_set_self (by first | omega | (simp only [List.length_set]; omega))]
      · rw [List.getElem?_set_ne (Ne.symm h2), List.getElem?_set_ne (by omega), List.getElem?_set_ne (Ne.symm h2)]
        by_cases h1 : k = i
        · subst h1
          rw [List.getElem?_set_self (by simp only [List.length_set, List.length_append, List.length_cons, List.length_nil]; omega), List.getElem?_set_self (by first | omega | (simp only [List.length_set]; omega))]
        · rw [List.getElem?_set_ne (Ne.symm h1), List.getElem?_set_ne (by omega), List.getElem?_set_ne (Ne.symm h1), List.getElem?_append_left (by omega)]
    · rw [List.getElem?_eq_none (by rw [List.length_take]; omega), List.getElem?_eq_none (by first | omega | (simp only [List.length_set]; omega))]
end Vs

-- K24p15
namespace Vs
open PySem PySem.Spec PyProof.Rows L2
local macro_rules
  | `(tactic| walk_at "vs") => `(tactic| (first | rw [wB_cons] | rw [wB_nil] | skip) <;> try simp only [joinD_nil, poison_nil, Bool.false_and, Bool.true_and, Bool.and_true, Bool.and_self, List.all_cons, List.all_nil, List.flatMap_cons, List.flatMap_nil, List.append_nil, wS, wE, wEs, wIs, wT, wI, wC, wPar, getV, entV, argV, imm, imms, if_true, if_false, List.length_cons, List.length_nil, List.map_cons, List.map_nil, List.cons_append, List.nil_append, List.getElem?_cons_zero, List.getElem?_cons_succ, Nat.zero_add, Nat.reduceAdd, Nat.reduceSub, List.replicate, List.set_cons_zero, List.set_cons_succ, setV, SV.cl, binW, cmpW, ixW, eqW, biW, meW, isiW, slW, cutW, truT, resV, mkRet, mkTup, mkL, ts, frs, Ds, Bool.false_eq_true, reduceIte, push, moveAll, moveV, SV.moved, recvT, true_and, Option.bind_some, imms_strs, imms_strsF, imms_app, ite_true, List.take_succ_cons, List.take_zero])
structure LG (Γ : Gam GS) (xN xU : Exc) : Prop where
  f4 : Γ.fn 4 = cTokens xN xU
  a4 : Γ.ar 4 = 1
  f5 : Γ.fn 5 = cStream
  a5 : Γ.ar 5 = 1
  f7 : Γ.fn 7 = cPick
  a7 : Γ.ar 7 = 2
  f8 : Γ.fn 8 = cCopied 2
  a8 : Γ.ar 8 = 1
  f9 : Γ.fn 9 = cSame 8
  a9 : Γ.ar 9 = 2
  f13 : Γ.fn 13 = cRowTokens
  a13 : Γ.ar 13 = 1
  f14 : Γ.fn 14 = cDrawnRow
  a14 : Γ.ar 14 = 1
  mN : Γ.met xN = some (Str.ofString "text")
  mU : Γ.met xU = some (Str.ofString "unread")
  isl : ∀ S a, Γ.isl S a ↔ ∃ xs, S.box = some (a, xs)
  put : Γ.put = putG
  off : Γ.off = offG
  box : ∀ S a xs, S.box = some (a, xs) → Γ.box S a xs
  spo : ∀ t, spoT 4 t → Γ.spo t
theorem cl_imm {s : SV} {t : T} (h : s.t = t) (i : imm t = true) : s.cl = { t := t } := by
  unfold SV.cl
  rw [h, if_pos i]
section
variable {Γ : Gam GS} {xN xU : Exc} {ε : VEnv} {S : GS} {Q : KV GS} {X : KX GS} {a : Addr}
theorem e_drawn (L : LG Γ xN xU) {m : Int} (h1 : (trs ε)[1]? = some (some (.opq a))) (hl : ε.length = 17) (hs : Strm S a m) (hm : m + 300 ≤ 2 ^ 39)
    (q : ∀ (zs : List Str) (S' : GS), zs ≠ [] → zs.length ≤ 5 → (∀ y ∈ zs, okS 300 y) → Strm S' a (m + 201) → Dr 201 S S' → Q { t := .lst (zs.map .str), own := true } S') :
    wE Γ (.comp (.rng1 (.call 7 (.cons (.v 1) (.cons (.lst (.cons (.k (.int 1)) (.cons (.k (.int 1)) (.cons (.k (.int 2)) (.cons (.k (.int 3)) (.cons (.k (.int 5)) (.nil))))))) (.nil))))) (.nm 13) [13] (.nil) (.call 14 (.cons (.v 1) (.nil)))) ε S Q X := by
  have helt : ∀ (ε : VEnv) (S : GS) (K : KV GS), (trs ε)[1]? = some (some (.opq a)) → Strm S a (2 ^ 39) → (∀ (x : Str) (s : SV) (S' : GS), s.cl = { t := .str x } → okS 300 x → Dr 40 S S' → K s S') →
      wE Γ (.call 14 (.cons (.v 1) (.nil))) ε S K fun _ _ _ => False := fun ε S K h1 h2 k => drow_elt L.f14 L.a14 h1 h2 k
  generalize (VE.call 14 (.cons (.v 1) (.nil))) = ve at helt ⊢
  obtain ⟨s1, e1, t1⟩ := trs_get h1
  have c1 : s1.cl = { t := .opq a } := cl_imm t1 rfl
  simp only [wE, wEs, wI, e1, c1, cl_plain, L.f7, L.a7, List.length_cons, List.length_nil, ts, List.map_cons, List.map_nil, mkL, imms, imm, Bool.and_self, if_true]
  refine ⟨by rw [sizeLine_eq]; decide, trivial, ⟨a, _, rfl, by simp, by simp, hs.le (by omega)⟩, ?_, fun x t S2 h => h.elim⟩
  intro t own fr S2 hpost
  have hpost : cPick.post [.opq a, .lst [.int 1, .int 1, .int 2, .int 3, .int 5]] S t own fr S2 := by
    unfold SV.cl at hpost
    exact hpost
  obtain ⟨hmm, rfl, rfl, hd⟩ := pick_use hpost
  have hk : ∃ k : Nat, t = .int k ∧ 1 ≤ k ∧ k ≤ 5 := by
    simp only [List.mem_cons, List.not_mem_nil, or_false] at hmm
    rcases hmm with rfl | rfl | rfl | rfl | rfl
    · exact ⟨1, rfl, by omega, by omega⟩
    · exact ⟨1, rfl, by omega, by omega⟩
    · exact ⟨2, rfl, by omega, by omega⟩
    · exact ⟨3, rfl, by omega, by omega⟩
    · exact ⟨5, rfl, by omega, by omega⟩
  obtain ⟨k, rfl, k1, k5⟩ := hk
  have hs2 := hd.str _ _ hs
  simp only [mkRet]
  refine ⟨by omega, by omega, trivial, ?_⟩
  simp only [wC]
  refine drawn_comp (S0 := S) (a := a) ?_ helt k 0 [] S2 (m + 1) 1 (fun _ h => (List.not_mem_nil h).elim) (by simp; omega) hs2 (by omega) hd ?_
  · rw [trs_wipe _ _ (by simp)]
    exact h1
  · intro zs S' hz hy hs' hd'
    refine q zs S' (fun z => by rw [z] at hz; simp at hz; omega) (by simp at hz; omega) hy (hs'.le (by omega)) (hd'.le (by omega))
/-- what _law_met(tokens of the text) tells -/
def dT (zs : List Str) : T := match badsL 0 zs with
  | [] => .tup [.str "told", .lst (zs.map fun r => someOf (scanR r))]
  | b :: _ => .tup [.str "unread", b]
theorem e_met (L : LG Γ xN xU) {text : Str} {zs : List Str} (h4 : (trs ε)[4]? = some (some (.str text))) (hx : text.length + 3 ≤ sizeLine) (hsp : Txt.split text NL = zs) (hz : ∀ r ∈ zs, r.length ≤ 640) (q : Q { t := dT zs } S) :
    wE Γ (.met (.call 4 (.cons (.v 4) .nil))) ε S Q X := by
  obtain ⟨s4, e4, t4⟩ := trs_get h4
  have c4 : s4.cl = { t := .str text } := cl_imm t4 rfl
  simp only [wE, wEs, e4, c4, L.f4, L.a4, List.length_cons, List.length_nil, ts, List.map_cons, List.map_nil]
  refine ⟨trivial, .inl ⟨text, rfl, hx, by rw [hsp]; exact hz⟩, ?_, ?_⟩
  · rintro t own fr S2 ⟨x, e, hf, rfl, rfl, rfl, rfl⟩
    obtain rfl : x = text := by simpa using e.symm
    rw [hsp] at hf ⊢
    have eb : badsL 0 zs = [] := by
      rw [fbad_bads] at hf
      cases h : badsL 0 zs with
      | nil => rfl
      | cons a b => rw [h] at hf; cases hf
    have e1 : dT zs = .tup [.str "told", .lst (zs.map fun r => someOf (scanR r))] := by
      unfold dT
      rw [eb]
    rw [e1] at q
    simp only [mkRet, mkTup, ts, frs, Ds, List.map_cons, List.map_nil, List.all_cons, List.all_nil, List.flatMap_cons, List.flatMap_nil, Bool.true_or, Bool.and_self, if_true, List.append_nil]
    rw [cl_plain]
    exact q
  · rintro x t S2 ⟨rfl, ⟨z, e, rfl, hf⟩ | ⟨hn, _⟩⟩
    · obtain rfl : z = text := by simpa using e.symm
      rw [hsp, fbad_bads] at hf
      rw [L.mU]
      have e1 : dT zs = .tup [.str "unread", t] := by
        unfold dT
        cases h : badsL 0 zs with
        | nil => rw [h] at hf; cases hf
        | cons b r =>
          rw [h] at hf
          have : b = t := Option.some.inj hf
          rw [this]
      rw [e1] at q
      simp only [mkRet, mkTup, ts, frs, Ds, List.map_cons, List.map_nil, List.all_cons, List.all_nil, List.flatMap_cons, List.flatMap_nil, Bool.true_or, Bool.false_or, Bool.and_self, if_true, Bool.false_eq_true, if_false, List.append_nil]
      rw [cl_plain]
      exact q
    · exact absurd rfl (hn text)

theorem e_join (L : LG Γ xN xU) {zs : List Str} (h3 : (trs ε)[3]? = some (some (.lst (zs.map .str)))) (hz : zs.length ≤ 5) (hy : ∀ y ∈ zs, okS 300 y) (q : ∀ s : SV, s.t = .str (Txt.join NL zs) → Q s S) :
    wE Γ (.me .join (.k (.str "\n")) (.cons (.v 3) (.nil))) ε S Q X := by
  obtain ⟨s3, e3, t3⟩ := trs_get h3
  have en : (Str.ofString "\n") = NL := by rfl
  have so : ∀ l : List Str, strsOf (l.map T.str) = some l := fun l => by
    induction l with
    | nil => rfl
    | cons a r ih => simp [strsOf, ih]
  have sm : ∀ l : List Str, (∀ y ∈ l, okS 300 y) → (l.map (·.length)).sum ≤ 300 * l.length := fun l => by
    induction l with
    | nil => intro _; simp
    | cons a r ih =>
      intro h
      have := (h a List.mem_cons_self).1
      have := ih fun y hy => h y (List.mem_cons_of_mem _ hy)
      simp only [List.map_cons, List.sum_cons, List.length_cons]
      omega
  have s1 := sm zs hy
  simp only [wE, wEs, e3, en, recvT, true_and, ts, List.map_cons, List.map_nil, SV.cl_t, t3, meW]
  refine ⟨zs, so zs, ?_, q _ rfl⟩
  have : NL.length = 1 := by rfl
  rw [this]
  omega
theorem e_made (L : LG Γ xN xU) {ε0 : VEnv} {zs : List Str} (h3 : (trs ε)[3]? = some (some (.lst (zs.map .str)))) (hl : 17 ≤ ε.length) (hz : zs.length ≤ 5) (hy : ∀ y ∈ zs, okS 300 y) (q : ∀ s : SV, s.t = .lst (zs.map scanR) → Q s S) :
    wE Γ (.comp (.seq (.v 3)) (.nm 13) [13] (.nil) (.call 13 (.cons (.v 13) (.nil)))) ε S Q X := by
  have helt : ∀ (ε : VEnv) (K : KV GS) (y : Str), (trs ε)[13]? = some (some (.str y)) → y.length ≤ 640 → (∀ s : SV, s.t = scanR y → K s S) → wE Γ (.call 13 (.cons (.v 13) (.nil))) ε S K fun _ _ _ => False := fun ε K y h hy k => by
    obtain ⟨s13, e13, t13⟩ := trs_get h
    simp only [wE, wEs, e13, ts, List.map_cons, List.map_nil, SV.cl_t, t13, L.f13, L.a13, List.length_cons, List.length_nil]
    refine ⟨trivial, ⟨y, rfl, hy⟩, ?_, fun x t S2 h => h.elim⟩
    rintro t own fr S2 ⟨r, e, rfl, rfl, rfl, rfl⟩
    obtain rfl : r = y := by simpa using e.symm
    exact k _ rfl
  generalize (VE.call 13 (.cons (.v 13) (.nil))) = ve at helt ⊢
  obtain ⟨s3, e3, t3⟩ := trs_get h3
  simp only [wE, wI, e3, t3, itemsOf]
  refine ⟨_, rfl, hid_trs fun p hp => ?_, ?_⟩
  · obtain rfl := List.mem_singleton.mp hp
    rw [trs_wipe _ _ (by simp; omega), trs_push, List.getElem?_append_right (by rw [trs_len]; exact Nat.le_refl _), trs_len, Nat.sub_self, t3]
    rfl
  · simp only [wC]
    refine comp_tree (fun t => match t with | .str y => scanR y | _ => .non) _ [] ?_ (by rw [sizeLine_eq]; simp; omega) fun s e => q s (by rw [e]; simp [ts])
    intro t ht K hK
    obtain ⟨y, hym, rfl⟩ := List.mem_map.mp ht
    simp only [wG]
    refine helt _ K y ?_ (by have := (hy y hym).1; omega) hK
    rw [trs_setV, List.getElem?_set_self (by rw [trs_len, wipe_len, push_len]; omega), SV.cl_t]
    unfold itemV
    rw [SV.cl_t]
theorem e_bads (L : LG Γ xN xU) {zs : List Str} (h5 : (trs ε)[5]? = some (some (.lst (zs.map scanR)))) (hl : 17 ≤ ε.length) (hz : zs.length ≤ 5) (q : Q { t := .lst (badsL 0 zs), own := true } S) :
    wE Γ (.comp (.enum (.v 5)) (.tp (.cons (.nm 14) (.cons (.tp (.cons (.nm 12) (.cons (.nm 15) (.nil)))) (.nil)))) [14, 12, 15] (.cons (.cmp .IsNot (.v 15) (.k .non)) .nil) (.tup (.cons (.v 14) (.cons (.v 15) (.nil))))) ε S Q X := by
  have hcond : ∀ (ε : VEnv) (K : Bool → GS → Prop) (b : T), (trs ε)[15]? = some (some b) → K (!isNonT b) S → wC Γ (.cons (.cmp .IsNot (.v 15) (.k .non)) .nil) ε S K fun _ _ _ => False := fun ε K b h k => by
    obtain ⟨s, e, t⟩ := trs_get h
    simp only [wC, wT, wE, e, t, cmpW]
    exact k
  have helt : ∀ (ε : VEnv) (K : KV GS) (x b : T), (trs ε)[14]? = some (some x) → (trs ε)[15]? = some (some b) → (∀ s : SV, s.t = .tup [x, b] → K s S) → wE Γ (.tup (.cons (.v 14) (.cons (.v 15) (.nil)))) ε S K fun _ _ _ => False := fun ε K x b h h' k => by
    obtain ⟨s, e, t⟩ := trs_get h
    obtain ⟨s', e', t'⟩ := trs_get h'
    simp only [wE, wEs, e, e']
    refine ⟨by rw [sizeLine_eq]; simp, k _ ?_⟩
    simp [mkTup, ts, SV.cl_t, t, t']
  generalize (VE.tup (.cons (.v 14) (.cons (.v 15) (.nil)))) = ve at helt ⊢
  generalize (VEs.cons (.cmp .IsNot (.v 15) (.k .non)) .nil) = vc at hcond ⊢
  obtain ⟨s5, e5, t5⟩ := trs_get h5
  simp only [wE, wI, e5, t5, enumOf]
  refine ⟨_, rfl, hid_trs fun p hp => ?_, ?_⟩
  · obtain rfl := List.mem_singleton.mp hp
    rw [trs_wipe _ _ (by simp; omega), trs_push, List.getElem?_append_right (by rw [trs_len]; exact Nat.le_refl _), trs_len, Nat.sub_self, t5]
    rfl
  · refine bads_comp (by rw [wipe_len, push_len]; omega) hcond helt zs 0 [] rfl (by rw [sizeLine_eq]; simp; omega) ?_
    simpa [ts] using q
end
end Vs

-- K24p16
namespace Vs
open PySem PySem.Spec PyProof.Rows L2
local macro_rules
  | `(tactic| walk_at "vs") => `(tactic| (first | rw [wB_cons] | rw [wB_nil] | skip) <;> try simp only [joinD_nil, poison_nil, Bool.false_and, Bool.true_and, Bool.and_true, Bool.and_self, List.all_cons, List.all_nil, List.flatMap_cons, List.flatMap_nil, List.append_nil, wS, wE, wEs, wIs, wT, wI, wC, wPar, getV, entV, argV, imm, imms, if_true, if_false, List.length_cons, List.length_nil, List.map_cons, List.map_nil, List.cons_append, List.nil_append, List.getElem?_cons_zero, List.getElem?_cons_succ, Nat.zero_add, Nat.reduceAdd, Nat.reduceSub, List.replicate, List.set_cons_zero, List.set_cons_succ, setV, SV.cl, binW, cmpW, ixW, eqW, biW, meW, isiW, slW, cutW, truT, resV, mkRet, mkTup, mkL, ts, frs, Ds, Bool.false_eq_true, reduceIte, push, moveAll, moveV, SV.moved, recvT, true_and, Option.bind_some, imms_strs, imms_strsF, imms_app, ite_true, List.take_succ_cons, List.take_zero])
section
variable {Γ : Gam GS} {xN xU : Exc} {ε : VEnv} {S : GS} {Q : KV GS} {X : KX GS} {a : Addr}
theorem e_due (L : LG Γ xN xU) {zs : List Str} (h5 : (trs ε)[5]? = some (some (.lst (zs.map scanR)))) (h6 : (trs ε)[6]? = some (some (.lst (badsL 0 zs)))) (hl : 17 ≤ ε.length) (hz : zs.length ≤ 5) (q : ∀ s : SV, s.t = dT zs → Q s S) :
    wE Γ (.ife (.cmp .NotEq (.v 6) (.lst (.nil))) (.tup (.cons (.k (.str "unread")) (.cons (.ix (.v 6) (.k (.int 0))) (.nil)))) (.tup (.cons (.k (.str "told")) (.cons (.comp (.seq (.v 5)) (.tp (.cons (.nm 12) (.cons (.nm 15) (.nil)))) [12, 15] (.nil) (.v 12)) (.nil))))) ε S Q X := by
  have helt : ∀ (ε : VEnv) (K : KV GS) (x : T), (trs ε)[12]? = some (some x) → (∀ s : SV, s.t = x → K s S) → wE Γ (.v 12) ε S K fun _ _ _ => False := fun ε K x h k => by
    obtain ⟨s, e, t⟩ := trs_get h
    simp only [wE, e]
    exact k s t
  have hcomp : ∀ (Q : KV GS) (X : KX GS), (∀ s : SV, s.t = .lst (zs.map fun r => someOf (scanR r)) → Q s S) → wE Γ (.comp (.seq (.v 5)) (.tp (.cons (.nm 12) (.cons (.nm 15) (.nil)))) [12, 15] (.nil) (.v 12)) ε S Q X := fun Q X q => by
    generalize (VE.v 12) = ve at helt ⊢
    obtain ⟨s5, e5, t5⟩ := trs_get h5
    simp only [wE, wI, e5, t5, itemsOf]
    refine ⟨_, rfl, hid_trs fun p hp => ?_, ?_⟩
    · obtain rfl := List.mem_singleton.mp hp
      rw [trs_wipe _ _ (by simp; omega), trs_push, List.getElem?_append_right (by rw [trs_len]; exact Nat.le_refl _), trs_len, Nat.sub_self, t5]
      rfl
    · simp only [wC]
      refine comp_tree someOf _ [] ?_ (by rw [sizeLine_eq]; simp; omega) fun s e => q s (by rw [e]; simp [ts])
      intro t ht K hK
      obtain ⟨y, hym, rfl⟩ := List.mem_map.mp ht
      refine wG_pair (x := someOf (scanR y)) (y := badOf (scanR y)) (by unfold itemV; rw [SV.cl_t, ← scanR_eq]) (by rw [wipe_len, push_len]; omega) (by rw [wipe_len, push_len]; omega) (by decide) fun ε' _ h12 _ => ?_
      exact helt ε' K _ h12 hK
  generalize (VE.comp (.seq (.v 5)) (.tp (.cons (.nm 12) (.cons (.nm 15) (.nil)))) [12, 15] (.nil) (.v 12)) = vc at hcomp ⊢
  obtain ⟨s6, e6, t6⟩ := trs_get h6
  simp only [wE, wT, wEs, e6, t6, cmpW, ts, List.map_nil, List.length_nil, mkL, imms, if_true]
  refine ⟨Nat.zero_le _, eq_nil (badsL_pair _ _) ?_⟩
  cases hb : badsL 0 zs with
  | nil =>
    simp only [List.isEmpty_nil, Bool.not_true, Bool.false_eq_true, if_false]
    refine hcomp _ _ fun s e => ⟨by rw [sizeLine_eq]; simp, q _ ?_⟩
    simp [mkTup, ts, SV.cl_t, e, dT, hb]
  | cons b r =>
    simp only [List.isEmpty_cons, Bool.not_false, if_true, ixW]
    refine ⟨b, atI_nat (i := 0) rfl, by rw [sizeLine_eq]; simp, q _ ?_⟩
    simp [mkTup, ts, SV.cl_t, resV, dT, hb]
theorem sm_atom {n : Nat} {t : T} (h : (∃ x, t = .str x) ∨ ∃ i, t = .int i) : sm (n + 1) t := by
  rcases h with ⟨x, rfl⟩ | ⟨i, rfl⟩ <;> trivial
theorem sm_tok {n : Nat} {t : T} (h : tokOk t = true) : sm (n + 2) t := by
  cases t with
  | tup xs =>
    have z3 : 3 ≤ sizeLine := by rw [sizeLine_eq]; omega
    match xs, h with
    | [.str a, .str b, .int c], _ => exact ⟨z3, by simp [sm]⟩
    | [.str a, .int b, .int c], _ => exact ⟨z3, by simp [sm]⟩
  | _ => simp [tokOk] at h
theorem sm_row {n : Nat} {r : Str} (h : r.length ≤ 640) : sm (n + 3) (someOf (scanR r)) := by
  obtain ⟨ts, b, e, ht, hl, _⟩ := scanR_form r
  rw [e]
  exact ⟨by rw [sizeLine_eq]; omega, fun x hx => sm_tok (List.all_eq_true.mp ht x hx)⟩
theorem sm_rows {n : Nat} {zs : List Str} (hz : zs.length ≤ 1000) (h : ∀ r ∈ zs, r.length ≤ 640) : sm (n + 4) (.lst (zs.map fun r => someOf (scanR r))) := by
  refine ⟨by rw [sizeLine_eq, List.length_map]; omega, fun x hx => ?_⟩
  obtain ⟨r, hr, rfl⟩ := List.mem_map.mp hx
  exact sm_row (h r hr)
theorem sm_pair {n : Nat} {t : T} (h : pairI t = true) : sm (n + 2) t := by
  cases t with
  | tup xs =>
    match xs, h with
    | [.int a, .int b], _ => exact ⟨by rw [sizeLine_eq]; simp, by simp [sm]⟩
  | _ => simp [pairI] at h
theorem sm_dT {n : Nat} {zs : List Str} (hz : zs.length ≤ 1000) (h : ∀ r ∈ zs, r.length ≤ 640) : sm (n + 5) (dT zs) := by
  unfold dT
  cases hb : badsL 0 zs with
  | nil =>
    refine ⟨by rw [sizeLine_eq]; simp, fun x hx => ?_⟩
    rcases List.mem_cons.mp hx with rfl | hx
    · trivial
    · rw [List.mem_singleton.mp hx]
      exact sm_rows hz h
  | cons b r =>
    have hp := badsL_pair 0 zs
    rw [hb, List.all_cons, Bool.and_eq_true] at hp
    refine ⟨by rw [sizeLine_eq]; simp, fun x hx => ?_⟩
    rcases List.mem_cons.mp hx with rfl | hx
    · trivial
    · rw [List.mem_singleton.mp hx]
      exact sm_pair (n := n + 2) hp.1
theorem sm_two {n : Nat} {t : T} (h : sm n t) : sm (n + 1) (.lst [t, t]) := by
  refine ⟨by rw [sizeLine_eq]; simp, fun x hx => ?_⟩
  have : x = t := by simpa using hx
  rw [this]; exact h
theorem wide_tok {n m : Nat} {t : T} (h : tokOk t = true) : wide (n + 2) m t := by
  cases t with
  | tup xs =>
    match xs, h with
    | [.str a, .str b, .int c], _ => simp [wide]
    | [.str a, .int b, .int c], _ => simp [wide]
  | _ => simp [tokOk] at h
theorem nL_tok {t : T} (h : tokOk t = true) : nL t = 0 := by
  cases t with
  | tup xs =>
    match xs, h with
    | [.str a, .str b, .int c], _ => rfl
    | [.str a, .int b, .int c], _ => rfl
  | _ => simp [tokOk] at h
theorem nLs_toks : ∀ {ts : List T}, ts.all tokOk = true → nLs ts = 0
  | [], _ => rfl
  | t :: ts, h => by
    rw [List.all_cons, Bool.and_eq_true] at h
    simp [nLs, nL_tok h.1, nLs_toks h.2]
theorem nLs_rows : ∀ (zs : List Str), nLs (zs.map fun r => someOf (scanR r)) = zs.length
  | [] => rfl
  | r :: zs => by
    obtain ⟨ts, b, e, ht, hl, _⟩ := scanR_form r
    simp only [List.map_cons, nLs, nLs_rows zs, List.length_cons]
    rw [e]
    simp only [someOf, nL, nLs_toks ht]
    omega
theorem spo_rows {zs : List Str} (hz : zs.length ≤ 1000) (h : ∀ r ∈ zs, r.length ≤ 640) : spoT 4 (.lst (zs.map fun r => someOf (scanR r))) := by
  refine ⟨1000, ?_, by simp only [nL, nLs_rows]; rw [sizeLine_eq]; omega⟩
  simp only [wide]
  refine ⟨by rw [List.length_map]; exact hz, fun x hx => ?_⟩
  obtain ⟨r, hr, rfl⟩ := List.mem_map.mp hx
  obtain ⟨ts, b, e, ht, hl, _⟩ := scanR_form r
  have := h r hr
  rw [e]
  simp only [someOf, wide]
  exact ⟨by omega, fun x hx => wide_tok (n := 0) (List.all_eq_true.mp ht x hx)⟩
/-- _law_same of a thing and itself -/
theorem e_same (L : LG Γ xN xU) {es : VEs} {t : T} (ht : sm 8 t) (hes : ∀ (Q : List SV → GS → Prop) (X : KX GS), (∀ ss : List SV, ss.length = 2 → ts ss = [t, t] → Q ss S) → wEs Γ es ε S Q X) (QT : Bool → GS → Prop) (q : QT true S) : wT Γ (.call 9 es) ε S QT X := by
  simp only [wT]
  refine hes _ _ fun ss hl e => ?_
  rw [L.f9, L.a9, e]
  refine ⟨hl, ⟨t, rfl, ht⟩, ?_, fun x t S2 h => h.elim⟩
  rintro u own fr S2 ⟨rfl, rfl, rfl, rfl⟩
  exact q
end
end Vs

-- K24p16b
namespace Vs
open PySem PySem.Spec PyProof.Rows L2
theorem fact_set {ε ε' : VEnv} {i j : Nat} {t : T} {u : Option T} (e : trs ε' = (trs ε).set i (some t)) (h : (trs ε)[j]? = some u) (hij : i ≠ j) : (trs ε')[j]? = some u := by
  rw [e, List.getElem?_set_ne hij]; exact h
theorem fact_self {ε ε' : VEnv} {i : Nat} {t : T} (e : trs ε' = (trs ε).set i (some t)) (h : i < ε.length) : (trs ε')[i]? = some (some t) := by
  rw [e, List.getElem?_set_self (by rw [trs_len]; exact h)]
theorem wT_not {G : Type} {Γ : Gam G} {c : VE} {ε : VEnv} {S : G} {Q : Bool → G → Prop} {X : KX G} : wT Γ (.not c) ε S Q X = wT Γ c ε S (fun k S1 => Q (!k) S1) X := by rw [wT]
theorem mkL_t {xs : List T} {a : Bool} {b : List Nat} : (mkL xs a b).t = .lst xs := by
  unfold mkL
  split <;> rfl
theorem trs_spoil {D : List Nat} : ∀ {ε : VEnv} {k j : Nat}, k + j ∉ D → (trs (spoil1 D k ε))[j]? = (trs ε)[j]?
  | [], _, _, _ => rfl
  | none :: r, k, 0, h => by simp [spoil1, trs]
  | none :: r, k, j + 1, h => by
    have e := trs_spoil (D := D) (ε := r) (k := k + 1) (j := j) (by rw [show k + 1 + j = k + (j + 1) by omega]; exact h)
    simpa [spoil1, trs] using e
  | some s :: r, k, 0, h => by
    have hc : D.contains k = false := by simpa using h
    simp [spoil1, trs, hc]
    intro _
    simpa using h
  | some s :: r, k, j + 1, h => by
    have e := trs_spoil (D := D) (ε := r) (k := k + 1) (j := j) (by rw [show k + 1 + j = k + (j + 1) by omega]; exact h)
    simpa [spoil1, trs] using e

section
variable {Γ : Gam GS} {xN xU : Exc} {ε : VEnv} {S : GS} {Q : KV GS} {X : KX GS} {a : Addr}
theorem e_metN (L : LG Γ xN xU) {u : T} (h10 : (trs ε)[10]? = some (some u)) (hu : imm u = true) (hn : noTxt u ∨ ∃ b xs, u = .opq b ∧ S.box = some (b, xs)) (q : Q { t := .tup [.str "text", u] } S) :
    wE Γ (.met (.call 4 (.cons (.v 10) .nil))) ε S Q X := by
  obtain ⟨s4, e4, t4⟩ := trs_get h10
  have c4 : s4.cl = { t := u } := cl_imm t4 hu
  have nt : ∀ z : Str, u ≠ .str z := fun z e => by
    rcases hn with ⟨n, h1, h2⟩ | ⟨b, xs, h1, _⟩
    · rw [e] at h1
      simp only [tyN, Option.some.injEq] at h1
      exact h2 h1.symm
    · rw [e] at h1; cases h1
  simp only [wE, wEs, e4, c4, L.f4, L.a4, List.length_cons, List.length_nil, ts, List.map_cons, List.map_nil]
  refine ⟨trivial, ?_, ?_, ?_⟩
  · rcases hn with h | ⟨b, xs, rfl, hb⟩
    · exact .inr (.inl ⟨u, rfl, h⟩)
    · exact .inr (.inr ⟨b, xs, rfl, hb⟩)
  · rintro t own fr S2 ⟨x, e, _⟩
    exact absurd (by simpa using e) (nt x)
  · rintro x t S2 ⟨rfl, ⟨z, e, _⟩ | ⟨_, rfl, e⟩⟩
    · exact absurd (by simpa using e) (nt z)
    · obtain rfl : u = t := by simpa using e
      rw [L.mN]
      simp only [mkRet, mkTup, ts, frs, Ds, List.map_cons, List.map_nil, List.all_cons, List.all_nil, List.flatMap_cons, List.flatMap_nil, Bool.true_or, Bool.false_or, Bool.and_self, if_true, Bool.false_eq_true, if_false, List.append_nil]
      rw [cl_plain]
      exact q
/-- the last test of a turn -/
theorem turn_end (L : LG Γ xN xU) {D : Dn GS} {u : T} (hl : ε.length = 17) (h1 : (trs ε)[1]? = some (some (.opq a))) (h10 : (trs ε)[10]? = some (some u)) (h11 : (trs ε)[11]? = some (some (.lst [.tup [.str "text", u], .tup [.str "text", u]]))) (hu : sm 6 u)
    (hnx : ∀ (ε' : VEnv), ε'.length = 17 → (trs ε')[1]? = some (some (.opq a)) → D.nx ε' S) :
    wB Γ (.cons (.frg [2, 3, 4, 5, 6, 7, 8, 9, 10, 11, 12, 13, 14, 15, 16] (.ite (.not (.call 9 (.cons (.v 11) (.cons (.bin .Mult (.lst (.cons (.tup (.cons (.k (.str "text")) (.cons (.v 10) (.nil)))) (.nil))) (.k (.int 2))) (.nil))))) (.cons (.ret (.k (.bl false))) (.nil)) (.nil))) (.nil)) ε S D := by
  have hz2 : 2 ≤ sizeLine := by rw [sizeLine_eq]; omega
  have hsm : sm 8 (.lst [.tup [.str "text", u], .tup [.str "text", u]]) := by
    refine ⟨by simpa using hz2, fun x hx => ?_⟩
    have : x = .tup [.str "text", u] := by simpa using hx
    rw [this]
    refine ⟨by simpa using hz2, fun y hy => ?_⟩
    rcases List.mem_cons.mp hy with rfl | hy
    · trivial
    · rw [List.mem_singleton.mp hy]; exact hu
  rw [wB_cons]
  simp only [wS]
  rw [wT_not]
  refine e_same L hsm (fun Q X k => ?_) _ ?_
  · obtain ⟨s11, e11, t11⟩ := trs_get h11
    obtain ⟨s10, e10, t10⟩ := trs_get h10
    simp only [wEs, wE, e11, e10, mkL_t, ts, List.map_cons, List.map_nil, SV.cl_t, mkTup, t10, binW, List.length_cons, List.length_nil]
    refine ⟨by simpa using hz2, by rw [sizeLine_eq]; simp, by decide, by decide, by rw [sizeLine_eq]; simp, k _ rfl ?_⟩
    simp [ts, SV.cl_t, t11, resV, mkL_t, List.replicate]
  · simp only [Bool.not_true, Bool.false_eq_true, if_false]
    rw [wB_nil]
    show wB Γ .nil _ S D
    rw [wB_nil]
    refine hnx _ (by rw [wipe_len]; exact hl) ?_
    rw [trs_wipe _ _ (by simp)]
    exact h1

/-- a thing that is no text -/
def things : List T := [.non, .int 5, .bl true, .lst [], .lst [.str "letters a"], .tup [.str "a"], .fdc [] [], .int (-1)]
theorem things_ok {t : T} (h : t ∈ things) : cpy 2 t ∧ ((∃ ys : List Str, t = .lst (ys.map .str) ∧ ys.length ≤ 1) ∨ (imm t = true ∧ noTxt t ∧ sm 6 t ∧ (∀ xs, t ≠ .lst xs) ∧ ∀ (isl : Addr → Prop) (Q : Bool → Prop), Q false → isbW isl ["list"] t Q)) := by
  simp only [things, List.mem_cons, List.not_mem_nil, or_false] at h
  rcases h with rfl | rfl | rfl | rfl | rfl | rfl | rfl | rfl
  · exact ⟨trivial, .inr ⟨rfl, ⟨"NoneType", rfl, by decide⟩, trivial, (fun xs e => by cases e), fun isl Q q => q⟩⟩
  · exact ⟨trivial, .inr ⟨rfl, ⟨"int", rfl, by decide⟩, trivial, (fun xs e => by cases e), fun isl Q q => q⟩⟩
  · exact ⟨trivial, .inr ⟨rfl, ⟨"bool", rfl, by decide⟩, trivial, (fun xs e => by cases e), fun isl Q q => q⟩⟩
  · exact ⟨by simp [cpy], .inl ⟨[], rfl, by decide⟩⟩
  · exact ⟨by simp [cpy], .inl ⟨["letters a"], rfl, by decide⟩⟩
  · exact ⟨by simp [cpy], .inr ⟨rfl, ⟨"tuple", rfl, by decide⟩, by simp [sm]; rw [sizeLine_eq]; omega, (fun xs e => by cases e), fun isl Q q => q⟩⟩
  · exact ⟨trivial, .inr ⟨rfl, ⟨"dict", rfl, by decide⟩, ⟨by simp [prsT], fun x hx => by simp [prsT] at hx⟩, (fun xs e => by cases e), fun isl Q q => q⟩⟩
  · exact ⟨trivial, .inr ⟨rfl, ⟨"int", rfl, by decide⟩, trivial, (fun xs e => by cases e), fun isl Q q => q⟩⟩
theorem e_thing (L : LG Γ xN xU) {m : Int} (h1 : (trs ε)[1]? = some (some (.opq a))) (hs : Strm S a m) (hm : m ≤ 2 ^ 39) (q : ∀ (s : SV) (S' : GS), s.t ∈ things → Dr 1 S S' → Q s S') :
    wE Γ (.call 7 (.cons (.v 1) (.cons (.lst (.cons (.k .non) (.cons (.k (.int 5)) (.cons (.k (.bl true)) (.cons (.lst (.nil)) (.cons (.lst (.cons (.k (.str "letters a")) (.nil))) (.cons (.tup (.cons (.k (.str "a")) (.nil))) (.cons (.dn) (.cons (.neg (.k (.int 1))) (.nil)))))))))) (.nil)))) ε S Q X := by
  obtain ⟨s1, e1, t1⟩ := trs_get h1
  have z : ∀ n : Nat, n ≤ 10 → n ≤ sizeLine := fun n h => by rw [sizeLine_eq]; omega
  simp only [wE, wEs, e1, L.f7, L.a7, ts, List.map_cons, List.map_nil, SV.cl_t, mkL_t, mkTup, t1, List.length_cons, List.length_nil]
  refine ⟨z _ (by decide), z _ (by decide), z _ (by decide), z _ (by decide), trivial, ⟨a, things, rfl, by simp [things], by simp [things], hs.le (by omega)⟩, ?_, fun x t S2 h => h.elim⟩
  intro t own fr S2 hpost
  obtain ⟨hmm, _, _, hd⟩ := pick_use (xs := things) hpost
  exact q _ S2 hmm hd
end
end Vs

-- K24p17
namespace Vs
open PySem PySem.Spec PyProof.Rows L2
def lb_law : VB := (.cons (.set 3 (.comp (.rng1 (.call 7 (.cons (.v 1) (.cons (.lst (.cons (.k (.int 1)) (.cons (.k (.int 1)) (.cons (.k (.int 2)) (.cons (.k (.int 3)) (.cons (.k (.int 5)) (.nil))))))) (.nil))))) (.nm 13) [13] (.nil) (.call 14 (.cons (.v 1) (.nil))))) (.cons (.par [4, 5] (.cons (.me .join (.k (.str "\n")) (.cons (.v 3) (.nil))) (.cons (.comp (.seq (.v 3)) (.nm 13) [13] (.nil) (.call 13 (.cons (.v 13) (.nil)))) (.nil)))) (.cons (.set 6 (.comp (.enum (.v 5)) (.tp (.cons (.nm 14) (.cons (.tp (.cons (.nm 12) (.cons (.nm 15) (.nil)))) (.nil)))) [14, 12, 15] (.cons (.cmp .IsNot (.v 15) (.k .non)) .nil) (.tup (.cons (.v 14) (.cons (.v 15) (.nil)))))) (.cons (.set 7 (.ife (.cmp .NotEq (.v 6) (.lst (.nil))) (.tup (.cons (.k (.str "unread")) (.cons (.ix (.v 6) (.k (.int 0))) (.nil)))) (.tup (.cons (.k (.str "told")) (.cons (.comp (.seq (.v 5)) (.tp (.cons (.nm 12) (.cons (.nm 15) (.nil)))) [12, 15] (.nil) (.v 12)) (.nil)))))) (.cons (.set 8 (.lst (.cons (.met (.call 4 (.cons (.v 4) (.nil)))) (.nil)))) (.cons (.app 8 (.met (.call 4 (.cons (.v 4) (.nil))))) (.cons (.ite (.not (.call 9 (.cons (.v 8) (.cons (.lst (.cons (.v 7) (.cons (.v 7) (.nil)))) (.nil))))) (.cons (.ret (.k (.bl false))) (.nil)) (.nil)) (.cons (.ite (.cmp .Eq (.v 6) (.lst (.nil))) (.cons (.spo (.ix (.ix (.v 8) (.k (.int 0))) (.k (.int 1)))) (.nil)) (.nil)) (.cons (.ite (.not (.call 9 (.cons (.met (.call 4 (.cons (.v 4) (.nil)))) (.cons (.v 7) (.nil))))) (.cons (.ret (.k (.bl false))) (.nil)) (.nil)) (.cons (.set 9 (.call 7 (.cons (.v 1) (.cons (.lst (.cons (.k .non) (.cons (.k (.int 5)) (.cons (.k (.bl true)) (.cons (.lst (.nil)) (.cons (.lst (.cons (.k (.str "letters a")) (.nil))) (.cons (.tup (.cons (.k (.str "a")) (.nil))) (.cons (.dn) (.cons (.neg (.k (.int 1))) (.nil)))))))))) (.nil))))) (.cons (.setB 10 (.call 8 (.cons (.v 9) (.nil)))) (.cons (.set 11 (.lst (.cons (.met (.call 4 (.cons (.v 10) (.nil)))) (.nil)))) (.cons (.app 11 (.met (.call 4 (.cons (.v 10) (.nil))))) (.cons (.ite (.isb ["list"] (.v 10)) (.cons (.apb 10 11 (.str "late")) (.nil)) (.nil)) (.cons (.frg [2, 3, 4, 5, 6, 7, 8, 9, 10, 11, 12, 13, 14, 15, 16] (.ite (.not (.call 9 (.cons (.v 11) (.cons (.bin .Mult (.lst (.cons (.tup (.cons (.k (.str "text")) (.cons (.v 10) (.nil)))) (.nil))) (.k (.int 2))) (.nil))))) (.cons (.ret (.k (.bl false))) (.nil)) (.nil))) (.nil))))))))))))))))

theorem turn2_ok {Γ : Gam GS} {xN xU : Exc} (L : LG Γ xN xU) {a : Addr} {D : Dn GS} {m : Int} {ε : VEnv} {S1 : GS} {vm : VE} {dT0 : T} (hl : ε.length = 17) (h1 : (trs ε)[1]? = some (some (.opq a))) (h7 : (trs ε)[7]? = some (some dT0)) (hs1 : Strm S1 a m) (hm : m + 1 ≤ 2 ^ 39) (hd8 : sm 8 dT0)
    (hmet : ∀ (Q : KV GS) (X : KX GS), Q { t := dT0 } S1 → wE Γ vm ε S1 Q X)
    (hnx : ∀ (ε' : VEnv) (S' : GS), ε'.length = 17 → (trs ε')[1]? = some (some (.opq a)) → Strm S' a (m + 1) → D.nx ε' S') :
    wB Γ (.cons (.ite (.not (.call 9 (.cons vm (.cons (.v 7) (.nil))))) (.cons (.ret (.k (.bl false))) (.nil)) (.nil)) (.cons (.set 9 (.call 7 (.cons (.v 1) (.cons (.lst (.cons (.k .non) (.cons (.k (.int 5)) (.cons (.k (.bl true)) (.cons (.lst (.nil)) (.cons (.lst (.cons (.k (.str "letters a")) (.nil))) (.cons (.tup (.cons (.k (.str "a")) (.nil))) (.cons (.dn) (.cons (.neg (.k (.int 1))) (.nil)))))))))) (.nil))))) (.cons (.setB 10 (.call 8 (.cons (.v 9) (.nil)))) (.cons (.set 11 (.lst (.cons (.met (.call 4 (.cons (.v 10) (.nil)))) (.nil)))) (.cons (.app 11 (.met (.call 4 (.cons (.v 10) (.nil))))) (.cons (.ite (.isb ["list"] (.v 10)) (.cons (.apb 10 11 (.str "late")) (.nil)) (.nil)) (.cons (.frg [2, 3, 4, 5, 6, 7, 8, 9, 10, 11, 12, 13, 14, 15, 16] (.ite (.not (.call 9 (.cons (.v 11) (.cons (.bin .Mult (.lst (.cons (.tup (.cons (.k (.str "text")) (.cons (.v 10) (.nil)))) (.nil))) (.k (.int 2))) (.nil))))) (.cons (.ret (.k (.bl false))) (.nil)) (.nil))) (.nil)))))))) ε S1 D := by
  -- what is told again
  rw [wB_cons]
  simp only [wS]
  rw [wT_not]
  refine e_same L hd8 (fun Q X k => ?_) _ ?_
  · simp only [wEs]
    refine hmet _ _ ?_
    obtain ⟨s7, e7, t7⟩ := trs_get h7
    simp only [wE, e7]
    refine k _ rfl ?_
    simp [ts, SV.cl_t, t7]
  simp only [Bool.not_true, Bool.false_eq_true, if_false]
  rw [wB_nil]
  try dsimp only
  -- thing
  rw [wB_cons]
  simp only [wS]
  refine e_thing L h1 hs1 (by omega) fun s9 S2 hth hd => ?_
  have hs2 := hd.str _ _ hs1
  obtain ⟨ε2, he⟩ : ∃ ε2, ε2 = setV ε 9 s9.cl := ⟨_, rfl⟩
  rw [← he]
  have l2 : ε2.length = 17 := by rw [he, setV_length]; exact hl
  have t2 : trs ε2 = (trs ε).set 9 (some s9.t) := by rw [he, trs_setV, SV.cl_t]
  have g1 := fact_set t2 h1 (by decide)
  have g9 := fact_self t2 (by omega)
  clear he t2 h1 h7 hl hmet
  obtain ⟨hcp, hcase⟩ := things_ok hth
  -- mine
  rw [wB_cons]
  simp only [wS]
  have hcopy : ∀ (Q : KV GS) (X : KX GS), Q { t := s9.t } S2 → wE Γ (.call 8 (.cons (.v 9) (.nil))) ε2 S2 Q X := fun Q X q => by
    obtain ⟨s, e, t⟩ := trs_get g9
    simp only [wE, wEs, e, L.f8, L.a8, ts, List.map_cons, List.map_nil, SV.cl_t, t, List.length_cons, List.length_nil]
    refine ⟨trivial, ⟨_, rfl, hcp⟩, ?_, fun x t S2 h => h.elim⟩
    rintro u own fr S3 ⟨e, rfl, rfl, rfl⟩
    obtain rfl : s9.t = u := by simpa using e
    exact q
  refine hcopy _ _ ?_
  clear hcopy g9
  have met2 : ∀ (ε3 : VEnv) (S3 : GS) (u : T), ε3.length = 17 → (trs ε3)[1]? = some (some (.opq a)) → ε3[10]? = some (some { t := u }) → imm u = true → (noTxt u ∨ ∃ b xs, u = .opq b ∧ S3.box = some (b, xs)) → Strm S3 a (m + 1) →
      (∀ ε4 : VEnv, ε4.length = 17 → (trs ε4)[1]? = some (some (.opq a)) → ε4[10]? = some (some { t := u }) → ε4[11]? = some (some { t := .lst [.tup [.str "text", u], .tup [.str "text", u]], own := true }) →
        wB Γ (.cons (.ite (.isb ["list"] (.v 10)) (.cons (.apb 10 11 (.str "late")) (.nil)) (.nil)) (.cons (.frg [2, 3, 4, 5, 6, 7, 8, 9, 10, 11, 12, 13, 14, 15, 16] (.ite (.not (.call 9 (.cons (.v 11) (.cons (.bin .Mult (.lst (.cons (.tup (.cons (.k (.str "text")) (.cons (.v 10) (.nil)))) (.nil))) (.k (.int 2))) (.nil))))) (.cons (.ret (.k (.bl false))) (.nil)) (.nil))) (.nil))) ε4 S3 D) →
      wB Γ (.cons (.set 11 (.lst (.cons (.met (.call 4 (.cons (.v 10) (.nil)))) (.nil)))) (.cons (.app 11 (.met (.call 4 (.cons (.v 10) (.nil))))) (.cons (.ite (.isb ["list"] (.v 10)) (.cons (.apb 10 11 (.str "late")) (.nil)) (.nil)) (.cons (.frg [2, 3, 4, 5, 6, 7, 8, 9, 10, 11, 12, 13, 14, 15, 16] (.ite (.not (.call 9 (.cons (.v 11) (.cons (.bin .Mult (.lst (.cons (.tup (.cons (.k (.str "text")) (.cons (.v 10) (.nil)))) (.nil))) (.k (.int 2))) (.nil))))) (.cons (.ret (.k (.bl false))) (.nil)) (.nil))) (.nil))))) ε3 S3 D := by
    intro ε3 S3 u l3 g1 x10 hi hn hs3 k
    have em : ∀ (ε : VEnv) (Q : KV GS) (X : KX GS), (trs ε)[10]? = some (some u) → Q { t := .tup [.str "text", u] } S3 → wE Γ (.met (.call 4 (.cons (.v 10) (.nil)))) ε S3 Q X := fun ε Q X h q => e_metN L h hi hn q
    have tr10 : ∀ {ε : VEnv}, ε[10]? = some (some { t := u }) → (trs ε)[10]? = some (some u) := fun {ε} h => by
      unfold trs
      rw [List.getElem?_map, h]
      rfl
    generalize (VE.met (.call 4 (.cons (.v 10) .nil))) = vn at em ⊢
    rw [wB_cons]
    simp only [wS, wE, wEs]
    refine em _ _ _ (tr10 x10) ?_
    simp only [cl_plain, ts, frs, Ds, List.map_cons, List.map_nil, List.all_cons, List.all_nil, List.flatMap_cons, List.flatMap_nil, Bool.and_self, List.append_nil, mkL_plain]
    refine ⟨by rw [sizeLine_eq]; simp, ?_⟩
    have c8 : ∀ p : T, (SV.cl { t := .lst [p], own := true }) = { t := .lst [p], own := true } := fun p => by
      unfold SV.cl
      rw [if_neg (by simp [imm])]
    rw [c8]
    simp only [setV]
    rw [wB_cons]
    have x11 : (ε3.set 11 (some { t := .lst [.tup [.str "text", u]], own := true }))[11]? = some (some { t := .lst [.tup [.str "text", u]], own := true }) := List.getElem?_set_self (by omega)
    have x10' : (ε3.set 11 (some { t := .lst [.tup [.str "text", u]], own := true }))[10]? = some (some { t := u }) := by rw [List.getElem?_set_ne (by decide)]; exact x10
    simp only [wS, x11]
    refine ⟨trivial, em _ _ _ (tr10 x10') ?_⟩
    simp only [cl_plain, joinD_nil, poison_nil, Bool.and_self, List.cons_append, List.nil_append, setV]
    refine ⟨by rw [sizeLine_eq]; simp, by simp, ?_⟩
    refine k _ (by simpa using l3) ?_ ?_ ?_
    · simp only [trs, List.map_set]
      rw [List.getElem?_set_ne (by decide), List.getElem?_set_ne (by decide)]
      exact g1
    · rw [List.getElem?_set_ne (by decide)]; exact x10'
    · exact List.getElem?_set_self (by simpa using (by omega : 11 < ε3.length))
  rcases hcase with ⟨ys, ey, hyl⟩ | ⟨hi, hn, hsm, hnl, hib⟩
  · rw [ey]
    refine ⟨rfl, rfl, imms_strs, fun b => ?_⟩
    rw [L.put]
    refine met2 _ _ (.opq b) (by simpa using l2) ?_ (List.getElem?_set_self (by omega)) rfl (.inr ⟨b, _, rfl, rfl⟩) hs2 fun ε4 l4 f1 f10 f11 => ?_
    · simp only [trs, List.map_set]
      rw [List.getElem?_set_ne (by decide)]
      exact g1
    rw [wB_cons]
    simp only [wS, wT, wE, getV, f10, isbW]
    refine ⟨(L.isl _ _).mpr ⟨_, rfl⟩, ?_⟩
    simp only [List.any_cons, List.any_nil, beq_self_eq_true, Bool.true_or, Bool.or_false, if_true]
    rw [wB_cons]
    simp only [wS, f10, f11]
    refine ⟨_, L.box _ _ _ rfl, rfl, by rw [sizeLine_eq, List.length_map]; omega, by decide, ?_⟩
    rw [wB_nil, L.off]
    try dsimp only
    have ss : subT b (ys.map T.str ++ [.str "late"]) (.lst [.tup [.str "text", .opq b], .tup [.str "text", .opq b]]) = .lst [.tup [.str "text", .lst (ys.map T.str ++ [.str "late"])], .tup [.str "text", .lst (ys.map T.str ++ [.str "late"])]] := by
      simp [subT, subTs]
    rw [ss]
    refine turn_end L (a := a) (u := .lst (ys.map T.str ++ [.str "late"])) (by simpa using l4) ?_ ?_ ?_ ?_ fun ε' l' h' => hnx ε' _ l' h' hs2
    · simp only [trs, List.map_set]
      rw [List.getElem?_set_ne (by decide), List.getElem?_set_ne (by decide)]
      exact f1
    · simp only [trs, List.map_set]
      rw [List.getElem?_set_ne (by decide), List.getElem?_set_self (by simpa using (by omega : 10 < ε4.length))]
      rfl
    · simp only [trs, List.map_set]
      rw [List.getElem?_set_self (by simpa using (by omega : 11 < ε4.length))]
      rfl
    · refine ⟨by rw [sizeLine_eq]; simp; omega, fun x hx => ?_⟩
      rcases List.mem_append.mp hx with h | h
      · obtain ⟨y, _, rfl⟩ := List.mem_map.mp h
        trivial
      · rw [List.mem_singleton.mp h]; trivial
  · have es : ({ t := s9.t } : SV).cl = { t := s9.t } := cl_plain
    have go : wB Γ (.cons (.set 11 (.lst (.cons (.met (.call 4 (.cons (.v 10) (.nil)))) (.nil)))) (.cons (.app 11 (.met (.call 4 (.cons (.v 10) (.nil))))) (.cons (.ite (.isb ["list"] (.v 10)) (.cons (.apb 10 11 (.str "late")) (.nil)) (.nil)) (.cons (.frg [2, 3, 4, 5, 6, 7, 8, 9, 10, 11, 12, 13, 14, 15, 16] (.ite (.not (.call 9 (.cons (.v 11) (.cons (.bin .Mult (.lst (.cons (.tup (.cons (.k (.str "text")) (.cons (.v 10) (.nil)))) (.nil))) (.k (.int 2))) (.nil))))) (.cons (.ret (.k (.bl false))) (.nil)) (.nil))) (.nil))))) (setV ε2 10 ({ t := s9.t } : SV).cl) S2 D := by
      rw [es]
      simp only [setV]
      refine met2 _ _ s9.t (by simpa using l2) ?_ (List.getElem?_set_self (by omega)) hi (.inl hn) hs2 fun ε4 l4 f1 f10 f11 => ?_
      · simp only [trs, List.map_set]
        rw [List.getElem?_set_ne (by decide)]
        exact g1
      rw [wB_cons]
      simp only [wS, wT, wE, getV, f10]
      refine hib _ _ ?_
      simp only [Bool.false_eq_true, if_false]
      rw [wB_nil]
      try dsimp only
      refine turn_end L (a := a) (u := s9.t) l4 f1 ?_ ?_ hsm fun ε' l' h' => hnx ε' _ l' h' hs2
      · unfold trs
        rw [List.getElem?_map, f10]
        rfl
      · unfold trs
        rw [List.getElem?_map, f11]
        rfl
    cases et : s9.t with
    | lst xs => exact absurd et (hnl xs)
    | _ => rw [et] at go; exact go
theorem turn_ok {Γ : Gam GS} {xN xU : Exc} (L : LG Γ xN xU) {a : Addr} {D : Dn GS} {m : Int} {ε : VEnv} {S : GS} (hl : ε.length = 17) (h1 : (trs ε)[1]? = some (some (.opq a))) (hs : Strm S a m) (hm : m + 300 ≤ 2 ^ 39)
    (hnx : ∀ (ε' : VEnv) (S' : GS), ε'.length = 17 → (trs ε')[1]? = some (some (.opq a)) → Strm S' a (m + 300) → D.nx ε' S') : wB Γ lb_law ε S D := by
  simp only [lb_law]
  -- drawn
  rw [wB_cons]
  simp only [wS]
  refine e_drawn L h1 hl hs hm fun zs S1 hne hz hy hs1 _ => ?_
  have z640 : ∀ r ∈ zs, r.length ≤ 640 := fun r hr => Nat.le_trans (hy r hr).1 (by omega)
  obtain ⟨ε1, he⟩ : ∃ ε1, ε1 = setV ε 3 (SV.cl { t := .lst (zs.map .str), own := true }) := ⟨_, rfl⟩
  rw [← he]
  have l1 : ε1.length = 17 := by rw [he, setV_length]; exact hl
  have t1 : trs ε1 = (trs ε).set 3 (some (.lst (zs.map .str))) := by rw [he, trs_setV, SV.cl_t]
  have g1 := fact_set t1 h1 (by decide)
  have g3 := fact_self t1 (by omega)
  clear he t1
  -- text, made
  rw [wB_cons]
  simp only [wS, wPar]
  refine e_join L g3 hz hy fun s4 e4 => ?_
  have g3' : (trs (push ε1 s4.cl))[3]? = some (some (.lst (zs.map .str))) := by
    rw [trs_push, List.getElem?_append_left (by rw [trs_len]; omega)]
    exact g3
  refine e_made L (ε0 := ε1) g3' (by rw [push_len]; omega) hz hy fun s5 e5 => ?_
  obtain ⟨ε2, m2, l2, t2⟩ := par2_move (ε := ε1) (i := 4) (j := 5) (s := s4.cl) (s' := s5.cl) (by omega) (by omega)
  refine ⟨ε2, m2, by rw [push_len, push_len]; rfl, ?_⟩
  rw [SV.cl_t, SV.cl_t, e4, e5] at t2
  generalize List.take ε1.length ε2 = ε3 at l2 t2 ⊢
  clear m2
  have l3 : ε3.length = 17 := l2.trans l1
  have q1 : (trs ε3)[1]? = some (some (.opq a)) := by
    rw [t2, List.getElem?_set_ne (by decide), List.getElem?_set_ne (by decide)]; exact g1
  have q4 : (trs ε3)[4]? = some (some (.str (Txt.join NL zs))) := by
    rw [t2, List.getElem?_set_ne (by decide), List.getElem?_set_self (by rw [trs_len]; omega)]
  have q5 : (trs ε3)[5]? = some (some (.lst (zs.map scanR))) := by
    rw [t2, List.getElem?_set_self (by rw [List.length_set, trs_len]; omega)]
  have hsp : Txt.split (Txt.join NL zs) NL = zs := by
    refine TL.split_join (s := 10) (S := []) rfl (by simp [NL]) hne fun p hp hm => ?_
    exact (hy p hp).2 10 hm rfl
  have hxl : (Txt.join NL zs).length + 3 ≤ sizeLine := by
    have h := StrLaws.join_length_le NL zs
    have sm : ∀ l : List Str, (∀ y ∈ l, okS 300 y) → (l.map (·.length)).sum ≤ 300 * l.length := fun l => by
      induction l with
      | nil => intro _; simp
      | cons a r ih =>
        intro h
        have := (h a List.mem_cons_self).1
        have := ih fun y hy => h y (List.mem_cons_of_mem _ hy)
        simp only [List.map_cons, List.sum_cons, List.length_cons]
        omega
    have := sm zs hy
    have e1 : NL.length = 1 := by rfl
    rw [e1] at h
    have e2 : Txt.join NL zs = Str.join NL zs := StrLaws.glued_eq_join NL zs
    rw [e2, sizeLine_eq]
    omega
  clear t2 e4 e5 g1 g3 g3' l1 l2 h1 hl
  -- bads
  rw [wB_cons]
  simp only [wS]
  refine e_bads L q5 (by omega) hz ?_
  obtain ⟨ε4, he⟩ : ∃ ε4, ε4 = setV ε3 6 (SV.cl { t := .lst (badsL 0 zs), own := true }) := ⟨_, rfl⟩
  rw [← he]
  have l4 : ε4.length = 17 := by rw [he, setV_length]; exact l3
  have t4 : trs ε4 = (trs ε3).set 6 (some (.lst (badsL 0 zs))) := by rw [he, trs_setV, SV.cl_t]
  have r1 := fact_set t4 q1 (by decide)
  have r4 := fact_set t4 q4 (by decide)
  have r5 := fact_set t4 q5 (by decide)
  have r6 := fact_self t4 (by omega)
  clear he t4 q1 q4 q5 l3
  -- due
  rw [wB_cons]
  simp only [wS]
  refine e_due L r5 r6 (by omega) hz fun s7 e7 => ?_
  obtain ⟨ε5, he⟩ : ∃ ε5, ε5 = setV ε4 7 s7.cl := ⟨_, rfl⟩
  rw [← he]
  have l5 : ε5.length = 17 := by rw [he, setV_length]; exact l4
  have t5 : trs ε5 = (trs ε4).set 7 (some (dT zs)) := by rw [he, trs_setV, SV.cl_t, e7]
  have u1 := fact_set t5 r1 (by decide)
  have u4 := fact_set t5 r4 (by decide)
  have u6 := fact_set t5 r6 (by decide)
  have u7 := fact_self t5 (by omega)
  clear he t5 r1 r4 r5 r6 l4 e7 s7
  -- found
  rw [wB_cons]
  simp only [wS]
  have hmet : ∀ (ε : VEnv) (Q : KV GS) (X : KX GS), (trs ε)[4]? = some (some (.str (Txt.join NL zs))) → Q { t := dT zs } S1 → wE Γ (.met (.call 4 (.cons (.v 4) .nil))) ε S1 Q X := fun ε Q X h q => e_met L h hxl hsp z640 q
  have hsame : ∀ (ε : VEnv) (es : VEs) (t : T) (QT : Bool → GS → Prop) (X : KX GS) (S : GS), sm 8 t → (∀ (Q : List SV → GS → Prop) (X : KX GS), (∀ ss : List SV, ss.length = 2 → ts ss = [t, t] → Q ss S) → wEs Γ es ε S Q X) → QT true S → wT Γ (.call 9 es) ε S QT X := fun ε es t QT X S ht hes q => e_same L ht hes QT q
  have hdT := sm_dT (n := 2) (zs := zs) (by omega) z640
  have hd8 := sm_dT (n := 3) (zs := zs) (by omega) z640
  generalize (VE.met (.call 4 (.cons (.v 4) .nil))) = vm at hmet ⊢
  simp only [wE, wEs]
  refine hmet _ _ _ u4 ?_
  simp only [cl_plain, ts, frs, Ds, List.map_cons, List.map_nil, List.all_cons, List.all_nil, List.flatMap_cons, List.flatMap_nil, Bool.and_self, List.append_nil, mkL_plain]
  refine ⟨by rw [sizeLine_eq]; simp, ?_⟩
  have c8 : (SV.cl { t := .lst [dT zs], own := true }) = { t := .lst [dT zs], own := true } := by
    unfold SV.cl
    rw [if_neg (by simp [imm])]
  rw [c8]
  simp only [setV]
  obtain ⟨ε6, he⟩ : ∃ ε6, ε6 = ε5.set 8 (some { t := .lst [dT zs], own := true }) := ⟨_, rfl⟩
  rw [← he]
  have l6 : ε6.length = 17 := by rw [he, List.length_set]; exact l5
  have t6 : trs ε6 = (trs ε5).set 8 (some (.lst [dT zs])) := by rw [he]; simp [trs, List.map_set]
  have x8 : ε6[8]? = some (some { t := .lst [dT zs], own := true }) := by rw [he, List.getElem?_set_self (by omega)]
  have w1 := fact_set t6 u1 (by decide)
  have w4 := fact_set t6 u4 (by decide)
  have w6 := fact_set t6 u6 (by decide)
  have w7 := fact_set t6 u7 (by decide)
  clear he t6 u1 u4 u6 u7 l5
  -- found.append
  rw [wB_cons]
  simp only [wS, x8]
  refine ⟨trivial, hmet _ _ _ w4 ?_⟩
  simp only [cl_plain, joinD_nil, poison_nil, Bool.and_self, List.cons_append, List.nil_append, setV]
  refine ⟨by rw [sizeLine_eq]; simp, by simp, ?_⟩
  obtain ⟨ε7, he⟩ : ∃ ε7, ε7 = ε6.set 8 (some { t := .lst [dT zs, dT zs], own := true }) := ⟨_, rfl⟩
  rw [← he]
  have l7 : ε7.length = 17 := by rw [he, List.length_set]; exact l6
  have t7 : trs ε7 = (trs ε6).set 8 (some (.lst [dT zs, dT zs])) := by rw [he]; simp [trs, List.map_set]
  have x8' : ε7[8]? = some (some { t := .lst [dT zs, dT zs], own := true }) := by rw [he, List.getElem?_set_self (by omega)]
  have y1 := fact_set t7 w1 (by decide)
  have y4 := fact_set t7 w4 (by decide)
  have y6 := fact_set t7 w6 (by decide)
  have y7 := fact_set t7 w7 (by decide)
  clear he t7 w1 w4 w6 w7 l6 x8
  -- found against due
  rw [wB_cons]
  simp only [wS]
  rw [wT_not]
  have y8 : (trs ε7)[8]? = some (some (.lst [dT zs, dT zs])) := by
    unfold trs
    rw [List.getElem?_map, x8']
    rfl
  refine hsame _ _ (.lst [dT zs, dT zs]) _ _ _ (sm_two hdT) (fun Q X k => ?_) ?_
  · obtain ⟨s8, e8, t8⟩ := trs_get y8
    obtain ⟨s7, e7, t7⟩ := trs_get y7
    simp only [wEs, wE, e8, e7]
    refine ⟨by rw [sizeLine_eq]; simp, k _ rfl ?_⟩
    simp [ts, SV.cl_t, mkL_t, t8, t7]
  simp only [Bool.not_true, Bool.false_eq_true, if_false]
  rw [wB_nil]
  try dsimp only
  -- what is told may be spoilt
  have rest : ∀ (ε : VEnv), ε.length = 17 → (trs ε)[1]? = some (some (.opq a)) → (trs ε)[4]? = some (some (.str (Txt.join NL zs))) → (trs ε)[7]? = some (some (dT zs)) → wB Γ (.cons (.ite (.not (.call 9 (.cons vm (.cons (.v 7) (.nil))))) (.cons (.ret (.k (.bl false))) (.nil)) (.nil)) (.cons (.set 9 (.call 7 (.cons (.v 1) (.cons (.lst (.cons (.k .non) (.cons (.k (.int 5)) (.cons (.k (.bl true)) (.cons (.lst (.nil)) (.cons (.lst (.cons (.k (.str "letters a")) (.nil))) (.cons (.tup (.cons (.k (.str "a")) (.nil))) (.cons (.dn) (.cons (.neg (.k (.int 1))) (.nil)))))))))) (.nil))))) (.cons (.setB 10 (.call 8 (.cons (.v 9) (.nil)))) (.cons (.set 11 (.lst (.cons (.met (.call 4 (.cons (.v 10) (.nil)))) (.nil)))) (.cons (.app 11 (.met (.call 4 (.cons (.v 10) (.nil))))) (.cons (.ite (.isb ["list"] (.v 10)) (.cons (.apb 10 11 (.str "late")) (.nil)) (.nil)) (.cons (.frg [2, 3, 4, 5, 6, 7, 8, 9, 10, 11, 12, 13, 14, 15, 16] (.ite (.not (.call 9 (.cons (.v 11) (.cons (.bin .Mult (.lst (.cons (.tup (.cons (.k (.str "text")) (.cons (.v 10) (.nil)))) (.nil))) (.k (.int 2))) (.nil))))) (.cons (.ret (.k (.bl false))) (.nil)) (.nil))) (.nil)))))))) ε S1 D := by
    intro ε l h1 h4 h7
    exact turn2_ok L l h1 h7 hs1 (by omega) hd8 (fun Q X q => hmet ε Q X h4 q) fun ε' S' l' h' hs' => hnx ε' S' l' h' (hs'.le (by omega))
  rw [wB_cons]
  obtain ⟨s6, e6, t6⟩ := trs_get y6
  simp only [wS, wT, wE, wEs, e6, t6, cmpW, ts, List.map_nil, List.length_nil, mkL, imms, if_true]
  refine ⟨Nat.zero_le _, eq_nil (badsL_pair _ _) ?_⟩
  cases hb : badsL 0 zs with
  | cons b r =>
    simp only [List.isEmpty_cons, Bool.false_eq_true, if_false]
    rw [wB_nil]
    try dsimp only
    exact rest ε7 l7 y1 y4 y7
  | nil =>
    simp only [List.isEmpty_nil, if_true]
    have ed : dT zs = .tup [.str "told", .lst (zs.map fun r => someOf (scanR r))] := by
      unfold dT
      rw [hb]
    rw [wB_cons]
    simp only [wS, wE, getV, x8']
    rw [ed]
    simp only [ixW]
    refine ⟨_, atI_nat (i := 0) rfl, ?_⟩
    simp only [resV, frs, Ds, SV.cl, imm, imms, List.all_cons, List.all_nil, List.flatMap_cons, List.flatMap_nil, List.append_nil, Bool.and_true, Bool.and_false, Bool.false_and, Bool.false_eq_true, if_false]
    refine ⟨_, atI_nat (i := 1) rfl, ?_⟩
    simp only [resV, frs, Ds, SV.cl, imm, imms, List.all_cons, List.all_nil, List.flatMap_cons, List.flatMap_nil, List.append_nil, Bool.and_true, Bool.and_false, Bool.false_and, Bool.false_eq_true, if_false]
    refine ⟨trivial, L.spo _ (spo_rows (by omega) z640), ?_⟩
    rw [wB_nil]
    try dsimp only
    refine rest _ (by rw [spoil1_length]; exact l7) ?_ ?_ ?_
    · rw [trs_spoil (by simp)]; exact y1
    · rw [trs_spoil (by simp)]; exact y4
    · rw [trs_spoil (by simp)]; exact y7
end Vs

-- K24p18
namespace Vs
open PySem PySem.Spec PyProof.Rows L2
/-! ### the examples: by reckoning, with fuel -/
def scanF (row : Str) : Nat → Nat → List T → T
  | 0, _, acc => .tup [.lst acc, .non]
  | f + 1, p, acc => match row.cps.toList[p]? with
    | none => .tup [.lst acc, .non]
    | some c => match tokAt row p c with
      | none => .tup [.lst acc, .int p]
      | some (ts, q) => scanF row f q (acc ++ ts)
theorem scanF_eq (row : Str) : ∀ (f p : Nat) (acc : List T), row.length < p + f → scanF row f p acc = scan row p acc
  | 0, p, acc, h => by
    rw [scan_done (List.getElem?_eq_none (by rw [len_tl]; omega))]
    rfl
  | f + 1, p, acc, h => by
    unfold scanF
    cases hc : row.cps.toList[p]? with
    | none => rw [scan_done hc]
    | some c =>
      simp only
      cases ht : tokAt row p c with
      | none => rw [scan_bad hc ht]
      | some x =>
        obtain ⟨ts, q⟩ := x
        rw [scan_go hc ht (tokAt_lt ht)]
        have := tokAt_lt ht
        exact scanF_eq row f q (acc ++ ts) (by omega)
def scanRF (row : Str) : T := scanF (cutH 35 row) ((cutH 35 row).length + 1) 0 []
theorem scanRF_eq (row : Str) : scanRF row = scanR row := scanF_eq _ _ _ _ (by omega)
mutual
def beqT : T → T → Bool
  | .non, .non => true
  | .bl a, .bl b => a == b
  | .int a, .int b => decide (a = b)
  | .str a, .str b => decide (a = b)
  | .tup a, .tup b => beqTs a b
  | .lst a, .lst b => beqTs a b
  | _, _ => false
def beqTs : List T → List T → Bool
  | [], [] => true
  | a :: r, b :: q => beqT a b && beqTs r q
  | _, _ => false
end
mutual
theorem beqT_ok : ∀ (a b : T), beqT a b = true → a = b
  | .non, .non, _ => rfl
  | .bl a, .bl b, h => by simp [beqT] at h; rw [h]
  | .int a, .int b, h => by rw [of_decide_eq_true h]
  | .str a, .str b, h => by rw [of_decide_eq_true h]
  | .tup a, .tup b, h => by rw [beqTs_ok a b h]
  | .lst a, .lst b, h => by rw [beqTs_ok a b h]
  | .opq _, _, h => by simp [beqT] at h
  | .dct _ _, _, h => by simp [beqT] at h
  | .fdc _ _, _, h => by simp [beqT] at h
  | .non, .bl _, h | .non, .int _, h | .non, .str _, h | .non, .opq _, h | .non, .tup _, h | .non, .lst _, h | .non, .dct _ _, h | .non, .fdc _ _, h => by simp [beqT] at h
  | .bl _, .non, h | .bl _, .int _, h | .bl _, .str _, h | .bl _, .opq _, h | .bl _, .tup _, h | .bl _, .lst _, h | .bl _, .dct _ _, h | .bl _, .fdc _ _, h => by simp [beqT] at h
  | .int _, .non, h | .int _, .bl _, h | .int _, .str _, h | .int _, .opq _, h | .int _, .tup _, h | .int _, .lst _, h | .int _, .dct _ _, h | .int _, .fdc _ _, h => by simp [beqT] at h
  | .str _, .non, h | .str _, .bl _, h | .str _, .int _, h | .str _, .opq _, h | .str _, .tup _, h | .str _, .lst _, h | .str _, .dct _ _, h | .str _, .fdc _ _, h => by simp [beqT] at h
  | .tup _, .non, h | .tup _, .bl _, h | .tup _, .int _, h | .tup _, .str _, h | .tup _, .opq _, h | .tup _, .lst _, h | .tup _, .dct _ _, h | .tup _, .fdc _ _, h => by simp [beqT] at h
  | .lst _, .non, h | .lst _, .bl _, h | .lst _, .int _, h | .lst _, .str _, h | .lst _, .opq _, h | .lst _, .tup _, h | .lst _, .dct _ _, h | .lst _, .fdc _ _, h => by simp [beqT] at h
theorem beqTs_ok : ∀ (a b : List T), beqTs a b = true → a = b
  | [], [], _ => rfl
  | a :: r, b :: q, h => by
    have h' : beqT a b = true ∧ beqTs r q = true := Bool.and_eq_true_iff.mp h
    rw [beqT_ok a b h'.1, beqTs_ok r q h'.2]
  | [], _ :: _, h => by simp [beqTs] at h
  | _ :: _, [], h => by simp [beqTs] at h
end
/-- a text of rows, all told -/
def exOk (rows : List Str) (x : Str) (us : List T) : Bool := decide (rows ≠ []) && (decide (Txt.join NL rows = x) && (rows.all (fun r => r.cps.toList.all (fun c => decide (c ≠ 10)) && decide (r.length ≤ 640)) && (decide (x.length ≤ 1000) && beqTs (rows.map scanRF) (us.map fun u => .tup [u, .non]))))
theorem ex_all : ∀ {rows : List Str} {us : List T}, rows.map scanRF = us.map (fun u => .tup [u, .non]) → (∀ n, fbad n rows = none) ∧ rows.map (fun r => someOf (scanR r)) = us
  | [], [], _ => ⟨fun _ => rfl, rfl⟩
  | [], _ :: _, h => by simp at h
  | _ :: _, [], h => by simp at h
  | r :: rows, u :: us, h => by
    simp only [List.map_cons, List.cons.injEq] at h
    obtain ⟨h1, h2⟩ := ex_all h.2
    have e : scanR r = .tup [u, .non] := by rw [← scanRF_eq]; exact h.1
    refine ⟨fun n => ?_, by rw [List.map_cons, e, h2]; rfl⟩
    rw [fbad_cons, e]
    exact h1 (n + 1)
theorem e_ex {Γ : Gam GS} {xN xU : Exc} (L : LG Γ xN xU) {ε : VEnv} {S : GS} {Q : KV GS} {X : KX GS} {e : VE} {x : Str} {rows : List Str} {us : List T} (h : exOk rows x us = true)
    (he : ∀ (Q : KV GS) (X : KX GS), (∀ s : SV, s.t = .str x → Q s S) → wE Γ e ε S Q X) (q : ∀ s : SV, s.t = .lst us → Q s S) : wE Γ (.call 4 (.cons e .nil)) ε S Q X := by
  simp only [exOk, Bool.and_eq_true, decide_eq_true_eq, List.all_eq_true] at h
  obtain ⟨h1, h2, h3, h4, h5⟩ := h
  obtain ⟨b1, b2⟩ := ex_all (beqTs_ok _ _ h5)
  have hsp : Txt.split x NL = rows := by
    rw [← h2]
    exact TL.split_join (s := 10) (S := []) rfl (by simp [NL]) h1 fun p hp hm => (h3 p hp).1 10 hm rfl
  simp only [wE, wEs]
  refine he _ _ fun s t => ?_
  simp only [L.f4, L.a4, ts, List.map_cons, List.map_nil, SV.cl_t, t, List.length_cons, List.length_nil]
  refine ⟨trivial, .inl ⟨x, rfl, by rw [sizeLine_eq]; omega, fun r hr => by rw [hsp] at hr; exact (h3 r hr).2⟩, ?_, ?_⟩
  · rintro u own fr S2 ⟨z, e, _, rfl, rfl, rfl, rfl⟩
    obtain rfl : z = x := by simpa using e.symm
    refine q _ ?_
    rw [hsp]
    show T.lst _ = _
    rw [b2]
  · rintro y u S2 ⟨rfl, ⟨z, e, _, hf⟩ | ⟨hn, _⟩⟩
    · obtain rfl : z = x := by simpa using e.symm
      rw [hsp, b1] at hf
      cases hf
    · exact absurd rfl (hn x)
end Vs

-- K24p19
namespace Vs
open PySem PySem.Spec PyProof.Rows L2
theorem law_loop {Γ : Gam GS} {xN xU : Exc} (L : LG Γ xN xU) {a : Addr} {D : Dn GS} (hnx : ∀ (ε : VEnv) (S : GS), ε.length = 17 → D.nx ε S) :
    ∀ (n : Nat) (lo : Int) (ε : VEnv) (S : GS) (m : Int), ε.length = 17 → (trs ε)[1]? = some (some (.opq a)) → Strm S a m → m + 300 * n ≤ 2 ^ 39 → wLoop (.nm 2) 17 [] (fun ε2 S2 D2 => wB Γ lb_law ε2 S2 D2) D (rngT lo n) ε S
  | 0, lo, ε, S, m, hl, h1, hs, hm => by
    unfold rngT wLoop
    refine ⟨trivial, hnx _ S ?_⟩
    rw [List.length_take, hl]; rfl
  | n + 1, lo, ε, S, m, hl, h1, hs, hm => by
    unfold rngT wLoop
    refine ⟨trivial, ?_⟩
    simp only [wG]
    refine turn_ok L (a := a) (m := m) (by rw [setV_length]; exact hl) ?_ hs (by omega) fun ε' S' l' h' hs' => ?_
    · rw [trs_setV, List.getElem?_set_ne (by decide)]
      exact h1
    · exact law_loop L hnx n (lo + 1) ε' S' (m + 300) l' h' hs' (by omega)
def rows1 : List Str := [""]
def us1 : List T := [.lst []]
def rows2 : List Str := ["let 'be be a# x", ""]
def us2 : List T := [.lst [.tup [.str "word", .str "let", .int 0], .tup [.str "quote", .str "be", .int 4], .tup [.str "word", .str "be", .int 8], .tup [.str "word", .str "a", .int 11]], .lst []]
def rows3 : List Str := ["", "", ""]
def us3 : List T := [.lst [], .lst [], .lst []]
def x4 : Str := mulS "a" 150 ++ mulS "(" 50
def sgn (t : T) : T := match t with
  | .int i => .tup [.str "sign", .str "(", .int (150 + i)]
  | _ => .non
def us4 : List T := [.lst ([.tup [.str "word", .str (mulS "a" 150), .int 0]] ++ (rngT 0 50).map sgn)]
def us5 : List T := [.lst [.tup [.str "number", .int 1, .int 0], .tup [.str "sign", .str ",", .int 2], .tup [.str "number", .int 2, .int 3]]]
def us6 : List T := [.lst [.tup [.str "word", .str "a_b", .int 0], .tup [.str "quote", .str "c_d", .int 3], .tup [.str "word", .str "e_f", .int 8]]]
theorem ex1 : exOk rows1 "" us1 = true := by decide +kernel
theorem ex2 : exOk rows2 "let 'be be a# x\n" us2 = true := by decide +kernel
theorem ex3 : exOk rows3 "\n\n" us3 = true := by decide +kernel
theorem ex4 : exOk [x4] x4 us4 = true := by decide +kernel
theorem ex5 : exOk ["01,2"] "01,2" us5 = true := by decide +kernel
theorem ex6 : exOk ["a_b'c_d e_f"] "a_b'c_d e_f" us6 = true := by decide +kernel
end Vs

-- K24p20
namespace Vs
open PySem PySem.Spec PyProof.Rows L2
theorem e_kk {Γ : Gam GS} {ε : VEnv} {S : GS} {x : Str} (Q : KV GS) (X : KX GS) (q : ∀ s : SV, s.t = .str x → Q s S) : wE Γ (.k (.str x)) ε S Q X := by
  simp only [wE]
  exact q _ rfl
theorem e_x4 {Γ : Gam GS} {ε : VEnv} {S : GS} (Q : KV GS) (X : KX GS) (q : ∀ s : SV, s.t = .str x4 → Q s S) : wE Γ (.bin .Add (.bin .Mult (.k (.str "a")) (.k (.int 150))) (.bin .Mult (.k (.str "(")) (.k (.int 50)))) ε S Q X := by
  simp only [wE, binW, resV]
  refine ⟨by decide, by decide, by decide, by decide, by decide, by decide, by decide, by decide, ?_, q _ rfl⟩
  rw [sizeLine_eq]
  decide +kernel
def smB : Nat → T → Bool
  | 0, _ => false
  | _ + 1, .non => true
  | _ + 1, .bl _ => true
  | _ + 1, .int _ => true
  | _ + 1, .str _ => true
  | n + 1, .lst xs => decide (xs.length ≤ 1000) && xs.all (smB n)
  | n + 1, .tup xs => decide (xs.length ≤ 1000) && xs.all (smB n)
  | _ + 1, _ => false
theorem smB_ok : ∀ (n : Nat) (t : T), smB n t = true → sm n t
  | 0, t, h => by simp [smB] at h
  | n + 1, t, h => by
    cases t <;> simp [smB] at h <;> try trivial
    · exact ⟨by rw [sizeLine_eq]; omega, fun x hx => smB_ok n x (h.2 x hx)⟩
    · exact ⟨by rw [sizeLine_eq]; omega, fun x hx => smB_ok n x (h.2 x hx)⟩
theorem sm_all : sm 8 (.lst [.lst us1, .lst us2, .lst us3, .lst us4, .lst us5, .lst us6]) := smB_ok _ _ (by decide +kernel)
theorem law_rest {Γ : Gam GS} {xN xU : Exc} (L : LG Γ xN xU) (ε : VEnv) (S : GS) (hl : ε.length = 17) : wB Γ (.cons (.set 12 (.lst (.cons (.call 4 (.cons (.k (.str "")) (.nil))) (.cons (.call 4 (.cons (.k (.str "let 'be be a# x\n")) (.nil))) (.cons (.call 4 (.cons (.k (.str "\n\n")) (.nil))) (.cons (.call 4 (.cons (.bin .Add (.bin .Mult (.k (.str "a")) (.k (.int 150))) (.bin .Mult (.k (.str "(")) (.k (.int 50)))) (.nil))) (.cons (.call 4 (.cons (.k (.str "01,2")) (.nil))) (.cons (.call 4 (.cons (.k (.str "a_b'c_d e_f")) (.nil))) (.nil))))))))) (.cons (.set 7 (.lst (.cons (.lst (.cons (.lst (.nil)) (.nil))) (.cons (.lst (.cons (.lst (.cons (.tup (.cons (.k (.str "word")) (.cons (.k (.str "let")) (.cons (.k (.int 0)) (.nil))))) (.cons (.tup (.cons (.k (.str "quote")) (.cons (.k (.str "be")) (.cons (.k (.int 4)) (.nil))))) (.cons (.tup (.cons (.k (.str "word")) (.cons (.k (.str "be")) (.cons (.k (.int 8)) (.nil))))) (.cons (.tup (.cons (.k (.str "word")) (.cons (.k (.str "a")) (.cons (.k (.int 11)) (.nil))))) (.nil)))))) (.cons (.lst (.nil)) (.nil)))) (.cons (.lst (.cons (.lst (.nil)) (.cons (.lst (.nil)) (.cons (.lst (.nil)) (.nil))))) (.nil)))))) (.cons (.app 7 (.lst (.cons (.bin .Add (.lst (.cons (.tup (.cons (.k (.str "word")) (.cons (.bin .Mult (.k (.str "a")) (.k (.int 150))) (.cons (.k (.int 0)) (.nil))))) (.nil))) (.comp (.rng1 (.k (.int 50))) (.nm 16) [16] (.nil) (.tup (.cons (.k (.str "sign")) (.cons (.k (.str "(")) (.cons (.bin .Add (.k (.int 150)) (.v 16)) (.nil))))))) (.nil)))) (.cons (.extd 7 (.lst (.cons (.lst (.cons (.lst (.cons (.tup (.cons (.k (.str "number")) (.cons (.k (.int 1)) (.cons (.k (.int 0)) (.nil))))) (.cons (.tup (.cons (.k (.str "sign")) (.cons (.k (.str ",")) (.cons (.k (.int 2)) (.nil))))) (.cons (.tup (.cons (.k (.str "number")) (.cons (.k (.int 2)) (.cons (.k (.int 3)) (.nil))))) (.nil))))) (.nil))) (.cons (.lst (.cons (.lst (.cons (.tup (.cons (.k (.str "word")) (.cons (.k (.str "a_b")) (.cons (.k (.int 0)) (.nil))))) (.cons (.tup (.cons (.k (.str "quote")) (.cons (.k (.str "c_d")) (.cons (.k (.int 3)) (.nil))))) (.cons (.tup (.cons (.k (.str "word")) (.cons (.k (.str "e_f")) (.cons (.k (.int 8)) (.nil))))) (.nil))))) (.nil))) (.nil))))) (.cons (.ret (.call 9 (.cons (.v 12) (.cons (.v 7) (.nil))))) (.nil)))))) ε S lawEnd := by
  have sz : ∀ n : Nat, n ≤ 100 → n ≤ sizeLine := fun n h => by rw [sizeLine_eq]; omega
  -- some
  rw [wB_cons]
  simp only [wS]
  have hx : ∀ (ε : VEnv) (Q : KV GS) (X : KX GS), (∀ s : SV, s.t = .str x4 → Q s S) → wE Γ (.bin .Add (.bin .Mult (.k (.str "a")) (.k (.int 150))) (.bin .Mult (.k (.str "(")) (.k (.int 50)))) ε S Q X := fun ε Q X q => e_x4 Q X q
  generalize (VE.bin .Add (.bin .Mult (.k (.str "a")) (.k (.int 150))) (.bin .Mult (.k (.str "(")) (.k (.int 50)))) = vx at hx ⊢
  have c1 : ∀ (Q : KV GS) (X : KX GS), (∀ s : SV, s.t = .lst us1 → Q s S) → wE Γ (.call 4 (.cons (.k (.str "")) .nil)) ε S Q X := fun Q X q => e_ex L ex1 (fun Q X q => e_kk Q X q) q
  have c2 : ∀ (Q : KV GS) (X : KX GS), (∀ s : SV, s.t = .lst us2 → Q s S) → wE Γ (.call 4 (.cons (.k (.str "let 'be be a# x\n")) .nil)) ε S Q X := fun Q X q => e_ex L ex2 (fun Q X q => e_kk Q X q) q
  have c3 : ∀ (Q : KV GS) (X : KX GS), (∀ s : SV, s.t = .lst us3 → Q s S) → wE Γ (.call 4 (.cons (.k (.str "\n\n")) .nil)) ε S Q X := fun Q X q => e_ex L ex3 (fun Q X q => e_kk Q X q) q
  have c4 : ∀ (Q : KV GS) (X : KX GS), (∀ s : SV, s.t = .lst us4 → Q s S) → wE Γ (.call 4 (.cons vx .nil)) ε S Q X := fun Q X q => e_ex L ex4 (fun Q X q => hx ε Q X q) q
  have c5 : ∀ (Q : KV GS) (X : KX GS), (∀ s : SV, s.t = .lst us5 → Q s S) → wE Γ (.call 4 (.cons (.k (.str "01,2")) .nil)) ε S Q X := fun Q X q => e_ex L ex5 (fun Q X q => e_kk Q X q) q
  have c6 : ∀ (Q : KV GS) (X : KX GS), (∀ s : SV, s.t = .lst us6 → Q s S) → wE Γ (.call 4 (.cons (.k (.str "a_b'c_d e_f")) .nil)) ε S Q X := fun Q X q => e_ex L ex6 (fun Q X q => e_kk Q X q) q
  have six : ∀ (Q : KV GS) (X : KX GS), (∀ s : SV, s.t = .lst [.lst us1, .lst us2, .lst us3, .lst us4, .lst us5, .lst us6] → Q s S) → wE Γ (.lst (.cons (.call 4 (.cons (.k (.str "")) .nil)) (.cons (.call 4 (.cons (.k (.str "let 'be be a# x\n")) .nil)) (.cons (.call 4 (.cons (.k (.str "\n\n")) .nil)) (.cons (.call 4 (.cons vx .nil)) (.cons (.call 4 (.cons (.k (.str "01,2")) .nil)) (.cons (.call 4 (.cons (.k (.str "a_b'c_d e_f")) .nil)) .nil))))))) ε S Q X := fun Q X q => by
    generalize (VE.call 4 (.cons (.k (.str "")) .nil)) = v1 at c1 ⊢
    generalize (VE.call 4 (.cons (.k (.str "let 'be be a# x\n")) .nil)) = v2 at c2 ⊢
    generalize (VE.call 4 (.cons (.k (.str "\n\n")) .nil)) = v3 at c3 ⊢
    generalize (VE.call 4 (.cons vx .nil)) = v4 at c4 ⊢
    generalize (VE.call 4 (.cons (.k (.str "01,2")) .nil)) = v5 at c5 ⊢
    generalize (VE.call 4 (.cons (.k (.str "a_b'c_d e_f")) .nil)) = v6 at c6 ⊢
    simp only [wE, wEs]
    refine c1 _ _ fun s1 e1 => c2 _ _ fun s2 e2 => c3 _ _ fun s3 e3 => c4 _ _ fun s4 e4 => c5 _ _ fun s5 e5 => c6 _ _ fun s6 e6 => ⟨sz _ (by simp), q _ ?_⟩
    rw [mkL_t]
    simp [ts, SV.cl_t, e1, e2, e3, e4, e5, e6]
  refine six _ _ fun s12 e12 => ?_
  clear six c1 c2 c3 c4 c5 c6 hx
  obtain ⟨ε2, he⟩ : ∃ ε2, ε2 = setV ε 12 s12.cl := ⟨_, rfl⟩
  rw [← he]
  have l2 : ε2.length = 17 := by rw [he, setV_length]; exact hl
  have t2 : trs ε2 = (trs ε).set 12 (some s12.t) := by rw [he, trs_setV, SV.cl_t]
  have g12 := fact_self t2 (by omega)
  rw [e12] at g12
  clear he t2
  -- due
  have cl : ∀ xs : List T, (SV.cl { t := .lst xs, own := true }) = { t := .lst xs, own := true } := fun xs => by
    unfold SV.cl
    rw [if_neg (by simp [imm])]
  rw [wB_cons]
  simp only [wS, wE, wEs, mkTup, cl_plain, ts, frs, Ds, List.map_cons, List.map_nil, List.all_cons, List.all_nil, List.flatMap_cons, List.flatMap_nil, Bool.and_self, List.append_nil, mkL_plain, cl, List.length_cons, List.length_nil]
  iterate 14 (refine ⟨sz _ (by decide), ?_⟩)
  have hc : ∀ (ε : VEnv) (Q : KV GS) (X : KX GS), ε.length = 17 → Q { t := .lst ((rngT 0 50).map sgn), own := true } S → wE Γ (.comp (.rng1 (.k (.int 50))) (.nm 16) [16] .nil (.tup (.cons (.k (.str "sign")) (.cons (.k (.str "(")) (.cons (.bin .Add (.k (.int 150)) (.v 16)) .nil))))) ε S Q X := fun ε Q X hl q => by
    have helt : ∀ (ε : VEnv) (K : KV GS) (i : Int), (trs ε)[16]? = some (some (.int i)) → (∀ s : SV, s.t = sgn (.int i) → K s S) → wE Γ (.tup (.cons (.k (.str "sign")) (.cons (.k (.str "(")) (.cons (.bin .Add (.k (.int 150)) (.v 16)) .nil)))) ε S K fun _ _ _ => False := fun ε K i h k => by
      obtain ⟨s, e, t⟩ := trs_get h
      simp only [wE, wEs, e, t, binW, resV]
      refine ⟨sz _ (by simp), k _ ?_⟩
      rw [SV.cl_t]
      simp [mkTup, ts, SV.cl_t, sgn]
    generalize (VE.tup (.cons (.k (.str "sign")) (.cons (.k (.str "(")) (.cons (.bin .Add (.k (.int 150)) (.v 16)) .nil)))) = ve at helt ⊢
    simp only [wE, wI, wC]
    refine ⟨by decide, by decide, trivial, ?_⟩
    have all_int : ∀ (n : Nat) (lo : Int), ∀ t ∈ rngT lo n, ∃ i, t = .int i := fun n => by
      induction n with
      | zero => intro lo t h; simp [rngT] at h
      | succ n ih =>
        intro lo t h
        rcases List.mem_cons.mp h with rfl | h
        · exact ⟨lo, rfl⟩
        · exact ih _ t h
    have rl : (rngT 0 50).length = 50 := by rfl
    refine comp_pure sgn _ [] rfl ?_ (by rw [sizeLine_eq]; show 0 + (rngT 0 50).length ≤ _; rw [rl]; decide) ?_ q
    · intro t ht K hK
      obtain ⟨i, rfl⟩ := all_int _ _ t ht
      simp only [wG]
      refine helt _ K i ?_ hK
      rw [trs_setV, List.getElem?_set_self (by rw [trs_len, wipe_len]; omega), SV.cl_t]
      unfold itemV
      rw [SV.cl_t]
    · intro t ht
      obtain ⟨i, rfl⟩ := all_int _ _ t ht
      rfl
  generalize (VE.comp (.rng1 (.k (.int 50))) (.nm 16) [16] .nil (.tup (.cons (.k (.str "sign")) (.cons (.k (.str "(")) (.cons (.bin .Add (.k (.int 150)) (.v 16)) .nil))))) = vc at hc ⊢
  simp only [setV]
  obtain ⟨d0, hd0⟩ : ∃ d0 : List T, d0 = [.lst us1, .lst us2, .lst us3] := ⟨_, rfl⟩
  have x7 : (ε2.set 7 (some { t := .lst d0, own := true }))[7]? = some (some { t := .lst d0, own := true }) := List.getElem?_set_self (by omega)
  have ed : ([.lst [.lst []], .lst [.lst [.tup [.str "word", .str "let", .int 0], .tup [.str "quote", .str "be", .int 4], .tup [.str "word", .str "be", .int 8], .tup [.str "word", .str "a", .int 11]], .lst []], .lst [.lst [], .lst [], .lst []]] : List T) = d0 := by rw [hd0]; rfl
  rw [ed]
  obtain ⟨ε3, he⟩ : ∃ ε3, ε3 = ε2.set 7 (some { t := .lst d0, own := true }) := ⟨_, rfl⟩
  rw [← he] at x7 ⊢
  have l3 : ε3.length = 17 := by rw [he, List.length_set]; exact l2
  have t3 : trs ε3 = (trs ε2).set 7 (some (.lst d0)) := by rw [he]; simp [trs, List.map_set]
  have f12 := fact_set t3 g12 (by decide)
  clear he t3 g12 l2
  rw [wB_cons]
  simp only [wS, x7]
  refine ⟨trivial, ?_⟩
  simp only [wE, wEs, mkTup, binW, resV, cl_plain, ts, frs, Ds, List.map_cons, List.map_nil, List.all_cons, List.all_nil, List.flatMap_cons, List.flatMap_nil, Bool.and_self, List.append_nil, mkL_plain, cl, List.length_cons, List.length_nil]
  refine ⟨by decide, by decide, by decide, by decide, sz _ (by decide), sz _ (by decide), hc _ _ _ l3 ?_⟩
  have dl : d0.length = 3 := by rw [hd0]; rfl
  have rl : ((rngT 0 50).map sgn).length = 50 := by rfl
  simp only [mkL_plain, cl, List.flatMap_nil, List.append_nil, Bool.and_self, joinD_nil, poison_nil, setV]
  refine ⟨by rw [rl]; exact sz _ (by decide), sz _ (by decide), by rw [dl, sizeLine_eq]; decide, by simp, ?_⟩
  obtain ⟨d1, hd1⟩ : ∃ d1 : List T, d1 = [.lst us1, .lst us2, .lst us3, .lst us4] := ⟨_, rfl⟩
  have ed1 : d0 ++ [T.lst [T.lst ([T.tup [T.str (Str.ofString "word"), T.str (mulS (Str.ofString "a") 150), T.int 0]] ++ (rngT 0 50).map sgn)]] = d1 := by rw [hd0, hd1]; rfl
  rw [ed1]
  have x7' : (ε3.set 7 (some { t := .lst d1, own := true }))[7]? = some (some { t := .lst d1, own := true }) := List.getElem?_set_self (by omega)
  obtain ⟨ε4, he⟩ : ∃ ε4, ε4 = ε3.set 7 (some { t := .lst d1, own := true }) := ⟨_, rfl⟩
  rw [← he] at x7' ⊢
  have l4 : ε4.length = 17 := by rw [he, List.length_set]; exact l3
  have t4 : trs ε4 = (trs ε3).set 7 (some (.lst d1)) := by rw [he]; simp [trs, List.map_set]
  have k12 := fact_set t4 f12 (by decide)
  clear he t4 f12 l3 x7 hc
  rw [wB_cons]
  simp only [wS, x7']
  refine ⟨trivial, ?_⟩
  simp only [wE, wEs, mkTup, cl_plain, ts, frs, Ds, List.map_cons, List.map_nil, List.all_cons, List.all_nil, List.flatMap_cons, List.flatMap_nil, Bool.and_self, List.append_nil, mkL_plain, cl, List.length_cons, List.length_nil, joinD_nil, poison_nil, setV]
  iterate 9 (refine ⟨sz _ (by decide), ?_⟩)
  refine ⟨sz _ (by decide), sz _ (by decide), by rw [hd1]; exact sz _ (by decide), by simp, ?_⟩
  have ed2 : d1 ++ [T.lst [T.lst [T.tup [T.str (Str.ofString "number"), T.int 1, T.int 0], T.tup [T.str (Str.ofString "sign"), T.str (Str.ofString ","), T.int 2], T.tup [T.str (Str.ofString "number"), T.int 2, T.int 3]]], T.lst [T.lst [T.tup [T.str (Str.ofString "word"), T.str (Str.ofString "a_b"), T.int 0], T.tup [T.str (Str.ofString "quote"), T.str (Str.ofString "c_d"), T.int 3], T.tup [T.str (Str.ofString "word"), T.str (Str.ofString "e_f"), T.int 8]]]] = [.lst us1, .lst us2, .lst us3, .lst us4, .lst us5, .lst us6] := by rw [hd1]; rfl
  rw [ed2]
  obtain ⟨ε5, he⟩ : ∃ ε5, ε5 = ε4.set 7 (some { t := .lst [.lst us1, .lst us2, .lst us3, .lst us4, .lst us5, .lst us6], own := true }) := ⟨_, rfl⟩
  rw [← he]
  have t5 : trs ε5 = (trs ε4).set 7 (some (.lst [.lst us1, .lst us2, .lst us3, .lst us4, .lst us5, .lst us6])) := by rw [he]; simp [trs, List.map_set]
  have m12 := fact_set t5 k12 (by decide)
  have m7 := fact_self t5 (by omega)
  obtain ⟨s12', e12', t12'⟩ := trs_get m12
  obtain ⟨s7', e7', t7'⟩ := trs_get m7
  rw [wB_cons]
  simp only [wS, wE, wEs, e12', e7', L.f9, L.a9, List.length_cons, List.length_nil]
  refine ⟨trivial, ⟨_, ?_, sm_all⟩, ?_, fun x t S2 h => h.elim⟩
  · simp [ts, SV.cl_t, t12', t7']
  · rintro t own fr S2 ⟨rfl, _⟩
    rfl
theorem law_ok {Γ : Gam GS} {xN xU : Exc} (L : LG Γ xN xU) (a : Addr) (ns : List Int) (b : Bool) (hn : ns.length ≤ 63) : wB Γ K24.v_law (entV 17 [.opq a]) ⟨some (a, ns, b), none, none⟩ lawEnd := by
  have el : (entV 17 [T.opq a]).length = 17 := by simp [entV]
  have e0 : (trs (entV 17 [T.opq a]))[0]? = some (some (.opq a)) := by simp [entV, trs, argV, imm]
  generalize entV 17 [T.opq a] = ε at el e0
  obtain ⟨s0, g0, t0⟩ := trs_get e0
  simp only [K24.v_law]
  rw [wB_cons]
  simp only [wS, wE, wEs, g0, L.f5, L.a5, ts, List.map_cons, List.map_nil, SV.cl_t, t0, List.length_cons, List.length_nil]
  refine ⟨trivial, ⟨a, ns, b, rfl, rfl, rfl, rfl, by omega⟩, ?_, fun x t S2 h => h.elim⟩
  rintro t own fr S2 ⟨a1, rfl, rfl, rfl, hs, _⟩
  obtain ⟨ε1, he⟩ : ∃ ε1, ε1 = setV ε 1 (SV.cl (mkRet [s0.cl] (T.opq a1) false true)) := ⟨_, rfl⟩
  rw [← he]
  have l1 : ε1.length = 17 := by rw [he, setV_length]; exact el
  have t1 : trs ε1 = (trs ε).set 1 (some (.opq a1)) := by rw [he, trs_setV, SV.cl_t]; rfl
  have f1 := fact_self t1 (by omega)
  rw [wB_cons]
  simp only [wS, wI, wE]
  refine ⟨by decide, by decide, ?_⟩
  rw [l1]
  refine law_loop L (a := a1) (fun ε S hl => ?_) 9 0 ε1 S2 0 l1 f1 hs (by decide)
  exact law_rest L ε S hl
end Vs

-- K24fin
namespace Vs
open PySem PySem.Spec PyProof.Rows L2
/-! ### from the head's facts to promises -/
theorem funD_fun {K : PySem.W.Frag} {x qual : Str} {st : Stmt} {f : Addr} {fd : FuncData} (F : FunD K x qual (defArgs st) (defBody st) (defScope st) [] [] f fd) : Fun K x qual st f fd := by
  obtain ⟨⟨oc, od, dV, kV, doc, pm, an, cdv, ct, osl, e, lk, hc, hd, hk⟩, kp⟩ := F
  rcases hd with ⟨_, rfl⟩ | ⟨h, _⟩
  · exact ⟨⟨oc, od, kV, doc, pm, an, cdv, ct, osl, e, lk, hc⟩, kp⟩
  · exact absurd rfl h
def cFalse : Con GS where
  pre := fun _ _ => False
  post := fun _ _ _ _ _ _ => False
section
variable {P : Program} {w : World} {K : PySem.W.Frag} {mg : Str → Option Value} {base : Heap} {g : Glo}
theorem fnk_of {x : Str} {st : Stmt} {f : Addr} {fd : FuncData} {ps : List Str} {k n : Nat} {C : Con g.G} (F : Fun K x x st f fd) (h : FnOk P w K mg base (L2.CX P w) k f fd ps (spC K g n C)) (hm : mg x = some (.ref f))
    (hb : ∀ (kV doc pm : Value) (an : Option Addr) (cdv ct : Value) (us : List Value), us.length = ps.length → bindArgs (PySem.W.fnOf x x (defArgs st) (defBody st) (defScope st) .none kV doc pm an cdv ct) ⟨us, []⟩ = pure (ps.zip us)) : FnK P w K mg base g x k n C :=
  ⟨f, fd, ps, h, hm, F.kp, F.binds hb⟩
theorem spoK_of {x : Str} {st : Stmt} {f : Addr} {fd : FuncData} {ps : List Str} {k : Nat} {sp : Sp} (F : Fun K x x st f fd) (h : FnOk P w K mg base (L2.CX P w) k f fd ps sp) (hm : mg x = some (.ref f))
    (hb : ∀ (kV doc pm : Value) (an : Option Addr) (cdv ct : Value) (us : List Value), us.length = ps.length → bindArgs (PySem.W.fnOf x x (defArgs st) (defBody st) (defScope st) .none kV doc pm an cdv ct) ⟨us, []⟩ = pure (ps.zip us)) : SpoK P w K mg base x k sp :=
  ⟨f, fd, ps, h, hm, F.kp, F.binds hb⟩
end
theorem spo_body0 {K : PySem.W.Frag} {g : Glo} {sp : Sp} {E : XK} {Q : VK} {H : Hp} {vs : List V} (h : spSpoN K g 0 vs H Q E) : tSpoilt K sp E { nx := fun _ H' => Q .non H', rt := Q } (L2.start ["thing", "key", "part"] vs) H := by
  obtain ⟨t, S, F, v, rfl, r, si, hF, ⟨m, hw, hm⟩, k⟩ := h
  have st0 : (L2.start ["thing", "key", "part"] [v])[0]? = some (some v) := rfl
  have aft : ∀ {H1 H2 : Hp}, (H2 = H1 ∨ ∃ p vs, H1 p = none ∧ H2 = upd H1 p (.tup vs)) → Af H1 H2 F 0 := fun h => by
    rcases h with rfl | ⟨p, us, hp, rfl⟩
    · exact .refl
    · exact .new hp
  have tst : ∀ {tn : String}, tyN t = some tn → ∀ (tys : List String) (A : TS) (D : Ends) (H' : Hp), Af H H' F 0 →
      (∀ H2, Af H H2 F 0 → if (tys.any fun y => tn == y || (tn == "bool" && y == "int")) = true then A D (L2.start ["thing", "key", "part"] [v]) H2 else D.nx (L2.start ["thing", "key", "part"] [v]) H2) → tIfS (tTru K (tIsiV K tys 0)) A tNext D (L2.start ["thing", "key", "part"] [v]) H' := fun {tn} e tys A D H' af q => by
    have tyAt : ∀ {H' : Hp}, Af H H' F 0 → TyX K H' v (.type tn) ∧ tn ∈ kitsA := fun {H'} af => by
      obtain ⟨t', r', w', _, e'⟩ := grow_rep af.ki _ af.gr t v hw r
      exact tyN_ok r' (e'.trans e)
    refine ⟨v, tn, st0, (tyAt af).2, fun H2 hH => ?_⟩
    have af2 : Af H H2 F 0 := af.trans (d := 0) (aft hH)
    exact ⟨(tyAt af2).1, _, rfl, q H2 af2⟩
  unfold tSpoilt
  cases t with
  | non => exact tst rfl _ _ _ _ .refl fun H1 a1 => tst rfl _ _ _ _ a1 fun H2 a2 => tst rfl _ _ _ _ a2 fun H3 a3 => k H3 a3
  | bl b => exact tst rfl _ _ _ _ .refl fun H1 a1 => tst rfl _ _ _ _ a1 fun H2 a2 => tst rfl _ _ _ _ a2 fun H3 a3 => k H3 a3
  | int i => exact tst rfl _ _ _ _ .refl fun H1 a1 => tst rfl _ _ _ _ a1 fun H2 a2 => tst rfl _ _ _ _ a2 fun H3 a3 => k H3 a3
  | str x => exact tst rfl _ _ _ _ .refl fun H1 a1 => tst rfl _ _ _ _ a1 fun H2 a2 => tst rfl _ _ _ _ a2 fun H3 a3 => k H3 a3
  | _ => simp [Vs.wide] at hw
/-! ### the promises of k24's defs -/
def exN (CN : Addr) : Exc := ⟨CN, "text"⟩
def exU (CU : Addr) : Exc := ⟨CU, "at"⟩
def GM (CN CU : Addr) (n m : Nat) : Gam GS where
  con := fun i => if i = 0 then .str letters else .str figs
  fn := fun i => match i with
    | 0 => cCheck (exN CN) | 1 => cRunEnd | 2 => cWordEnd | 3 => cRowTokens | 4 => cTokens (exN CN) (exU CU) | 5 => cStream | 6 => cDraw | 7 => cPick
    | 8 => cCopied n | 9 => cSame m | 11 => cSpan | 12 => cWordSpan | 13 => cRowTokens | 14 => cDrawnRow | _ => cFalse
  ar := fun i => match i with
    | 0 => 1 | 1 => 3 | 2 => 2 | 3 => 1 | 4 => 1 | 5 => 1 | 6 => 2 | 7 => 2 | 8 => 1 | 9 => 2 | 11 => 3 | 12 => 2 | 13 => 1 | 14 => 1 | _ => 0
  cls := fun i => if i = 1 then exN CN else exU CU
  met := fun x => if x.cls = CN ∧ x.fld = "text" then some "text" else if x.cls = CU ∧ x.fld = "at" then some "unread" else none
  isl := fun S a => ∃ xs, S.box = some (a, xs)
  put := putG
  off := offG
  box := fun S a xs => S.box = some (a, xs)
  spo := spoT 4
theorem gm_lg {CN CU : Addr} : LG (GM CN CU 2 8) (exN CN) (exU CU) where
  f4 := rfl
  a4 := rfl
  f5 := rfl
  a5 := rfl
  f7 := rfl
  a7 := rfl
  f8 := rfl
  a8 := rfl
  f9 := rfl
  a9 := rfl
  f13 := rfl
  a13 := rfl
  f14 := rfl
  a14 := rfl
  mN := if_pos ⟨rfl, rfl⟩
  mU := by
    show (if CU = CN ∧ (Str.ofString "at") = (Str.ofString "text") then _ else if CU = CU ∧ (Str.ofString "at") = (Str.ofString "at") then _ else _) = _
    rw [if_neg (fun z => by have := z.2; revert this; decide), if_pos ⟨rfl, rfl⟩]
  isl := fun S a => Iff.rfl
  put := rfl
  off := rfl
  box := fun S a xs h => h
  spo := fun t h => h
theorem gm_box {CN CU : Addr} {n m : Nat} : BoxG (GM CN CU n m) := ⟨fun S a h => h, rfl, rfl, fun S a xs h => h⟩
end Vs

-- K24fin2
namespace Vs
open PySem PySem.Spec PyProof.Rows L2 LamX
/-- what the head tells -/
structure Hd (K : PySem.W.Frag) (mg : Str → Option Value) (CN CU : Addr) : Prop where
  B : ∀ x ∈ K24.blts, mg x = none
  kL : ∃ t, mg "LETTERS" = some (.str "abcdefghijklmnopqrstuvwxyz" t)
  kF : ∃ t, mg "FIGURES" = some (.str "0123456789" t)
  gN : mg "NoText" = some (.ref CN)
  gU : mg "Unread" = some (.ref CU)
  oN : OexC K CN
  oU : OexC K CU
  xN : XfC K CN
  xU : XfC K CU
  nN : PySem.W.findIn K (.ref CN) "text" = some none
  nU : PySem.W.findIn K (.ref CU) "at" = some none
  eNN : PySem.W.exmOne K (.ref CN) (.ref CN) = some true
  eUU : PySem.W.exmOne K (.ref CU) (.ref CU) = some true
  eUN : PySem.W.exmOne K (.ref CU) (.ref CN) = some false
section
variable {P : Program} {w : World} {K : PySem.W.Frag} {mg : Str → Option Value} {base : Heap} {Tb : List (Addr × Str)} {CN CU f : Addr} {fd : FuncData}
theorem met_ok (h : Hd K mg CN CU) : MetOk K (GM CN CU 2 8) [⟨CN, "text", "text"⟩, ⟨CU, "unread", "at"⟩] := by
  intro x tag hx Q d H v hd k
  obtain ⟨xc, xf⟩ := x
  have hx : (if xc = CN ∧ xf = "text" then some ("text" : Str) else if xc = CU ∧ xf = "at" then some ("unread" : Str) else none) = some tag := hx
  by_cases h1 : xc = CN ∧ xf = "text"
  · obtain ⟨rfl, rfl⟩ := h1
    rw [if_pos ⟨rfl, rfl⟩] at hx
    cases hx
    exact ⟨true, h.eNN, fun _ => ⟨rfl, d, _, v, rfl, hd, by simp [List.lookup], k⟩, fun z => by cases z⟩
  · rw [if_neg h1] at hx
    by_cases h2 : xc = CU ∧ xf = "at"
    · obtain ⟨rfl, rfl⟩ := h2
      rw [if_pos ⟨rfl, rfl⟩] at hx
      cases hx
      exact ⟨false, h.eUN, (fun z => by cases z), fun _ => ⟨true, h.eUU, fun _ => ⟨rfl, d, _, v, rfl, hd, by simp [List.lookup], k⟩, fun z => by cases z⟩⟩
    · rw [if_neg h2] at hx; cases hx
theorem k_run_end (h : Hd K mg CN CU) (F : Fun K "run_end" "run_end" K24.s_run_end f fd) (hm : mg "run_end" = some (.ref f)) : FnK P w K mg base (glo K Tb) "run_end" 1 3 cRunEnd :=
  fnk_of F (fn_con (g := glo K Tb) (C := cRunEnd) (Γ := GM CN CU 0 0) F K24.sc_run_end rfl (by decide) (fun cdv A outer s H E S F hr C => K24.d_run_end (Γ := GM CN CU 0 0) h.B hr C) (run_end_ok (Γ := GM CN CU 0 0))) hm fun _ _ _ _ _ _ us hl => match us, hl with | [_, _, _], _ => rfl
theorem k_word_end (h : Hd K mg CN CU) (F : Fun K "word_end" "word_end" K24.s_word_end f fd) (hm : mg "word_end" = some (.ref f)) (c1 : FnK P w K mg base (glo K Tb) "run_end" 1 3 cRunEnd) : FnK P w K mg base (glo K Tb) "word_end" 2 2 (cWordEnd) :=
  fnk_of F (fn_con (g := glo K Tb) (C := cWordEnd) (k := 1) (Γ := GM CN CU 0 0) F K24.sc_word_end rfl (by decide) (fun cdv A outer s H E S F hr C => K24.d_word_end (Γ := GM CN CU 0 0) h.B h.kL rfl c1 (Nat.le_refl 1) hr C) (word_end_ok (Γ := GM CN CU 0 0) rfl rfl rfl)) hm fun _ _ _ _ _ _ us hl => match us, hl with | [_, _], _ => rfl
theorem k_row_tokens (h : Hd K mg CN CU) (F : Fun K "row_tokens" "row_tokens" K24.s_row_tokens f fd) (hm : mg "row_tokens" = some (.ref f)) (c1 : FnK P w K mg base (glo K Tb) "run_end" 1 3 cRunEnd) (c2 : FnK P w K mg base (glo K Tb) "word_end" 2 2 cWordEnd) : FnK P w K mg base (glo K Tb) "row_tokens" 3 1 (cRowTokens) :=
  fnk_of F (fn_con (g := glo K Tb) (C := cRowTokens) (k := 2) (Γ := GM CN CU 0 0) F K24.sc_row_tokens rfl (by decide) (fun cdv A outer s H E S F hr C => K24.d_row_tokens (Γ := GM CN CU 0 0) h.B h.kL rfl h.kF rfl c2 (by decide) c1 (by decide) hr C) (row_tokens_ok (Γ := GM CN CU 0 0) rfl rfl rfl rfl rfl rfl)) hm fun _ _ _ _ _ _ us hl => match us, hl with | [_], _ => rfl
theorem k_check_text (h : Hd K mg CN CU) (F : Fun K "check_text" "check_text" K24.s_check_text f fd) (hm : mg "check_text" = some (.ref f)) (xN : ExK P w K mg base "NoText" CN "text" 1) : FnK P w K mg base (glo K Tb) "check_text" 3 1 (cCheck (exN CN)) :=
  fnk_of F (fn_con (g := glo K Tb) (C := cCheck (exN CN)) (k := 2) (Γ := GM CN CU 0 0) F K24.sc_check_text rfl (by decide) (fun cdv A outer s H E S F hr C => K24.d_check_text (Γ := GM CN CU 0 0) h.B xN (by decide) gm_box.hB hr C) (check_ok (Γ := GM CN CU 0 0) rfl (fun _ _ => Iff.rfl))) hm fun _ _ _ _ _ _ us hl => match us, hl with | [_], _ => rfl
theorem k_tokens (h : Hd K mg CN CU) (F : Fun K "tokens" "tokens" K24.s_tokens f fd) (hm : mg "tokens" = some (.ref f)) (c0 : FnK P w K mg base (glo K Tb) "check_text" 3 1 (cCheck (exN CN))) (c3 : FnK P w K mg base (glo K Tb) "row_tokens" 3 1 cRowTokens) (xU : ExK P w K mg base "Unread" CU "at" 1) : FnK P w K mg base (glo K Tb) "tokens" 4 1 (cTokens (exN CN) (exU CU)) :=
  fnk_of F (fn_con (g := glo K Tb) (C := cTokens (exN CN) (exU CU)) (k := 3) (Γ := GM CN CU 0 0) F K24.sc_tokens rfl (by decide) (fun cdv A outer s H E S F hr C => K24.d_tokens (Γ := GM CN CU 0 0) h.B c3 (by decide) c0 (by decide) xU (by decide) hr C) (tokens_ok (Γ := GM CN CU 0 0) rfl rfl rfl rfl rfl)) hm fun _ _ _ _ _ _ us hl => match us, hl with | [_], _ => rfl
theorem k__law_pick (h : Hd K mg CN CU) (F : Fun K "_law_pick" "_law_pick" K24.s__law_pick f fd) (hm : mg "_law_pick" = some (.ref f)) (c6 : FnK P w K mg base (glo K Tb) "_law_draw" 1 2 cDraw) : FnK P w K mg base (glo K Tb) "_law_pick" 2 2 (cPick) :=
  fnk_of F (fn_con (g := glo K Tb) (C := cPick) (k := 1) (Γ := GM CN CU 0 0) F K24.sc__law_pick rfl (by decide) (fun cdv A outer s H E S F hr C => K24.d__law_pick (Γ := GM CN CU 0 0) h.B c6 (by decide) hr C) (pick_ok (Γ := GM CN CU 0 0) rfl rfl)) hm fun _ _ _ _ _ _ us hl => match us, hl with | [_, _], _ => rfl
theorem k__law_span (h : Hd K mg CN CU) (F : Fun K "_law_span" "_law_span" K24.s__law_span f fd) (hm : mg "_law_span" = some (.ref f)) : FnK P w K mg base (glo K Tb) "_law_span" 1 3 (cSpan) :=
  fnk_of F (fn_con (g := glo K Tb) (C := cSpan) (k := 0) (Γ := GM CN CU 0 0) F K24.sc__law_span rfl (by decide) (fun cdv A outer s H E S F hr C => K24.d__law_span (Γ := GM CN CU 0 0) h.B  hr C) (law_span_ok (Γ := GM CN CU 0 0))) hm fun _ _ _ _ _ _ us hl => match us, hl with | [_, _, _], _ => rfl
theorem k__law_word_span (h : Hd K mg CN CU) (F : Fun K "_law_word_span" "_law_word_span" K24.s__law_word_span f fd) (hm : mg "_law_word_span" = some (.ref f)) (c11 : FnK P w K mg base (glo K Tb) "_law_span" 1 3 cSpan) : FnK P w K mg base (glo K Tb) "_law_word_span" 2 2 (cWordSpan) :=
  fnk_of F (fn_con (g := glo K Tb) (C := cWordSpan) (k := 1) (Γ := GM CN CU 0 0) F K24.sc__law_word_span rfl (by decide) (fun cdv A outer s H E S F hr C => K24.d__law_word_span (Γ := GM CN CU 0 0) h.B c11 (by decide) hr C) (law_word_span_ok (Γ := GM CN CU 0 0) rfl rfl)) hm fun _ _ _ _ _ _ us hl => match us, hl with | [_, _], _ => rfl
theorem k__law_row_tokens (h : Hd K mg CN CU) (F : Fun K "_law_row_tokens" "_law_row_tokens" K24.s__law_row_tokens f fd) (hm : mg "_law_row_tokens" = some (.ref f)) (c11 : FnK P w K mg base (glo K Tb) "_law_span" 1 3 cSpan) (c12 : FnK P w K mg base (glo K Tb) "_law_word_span" 2 2 cWordSpan) : FnK P w K mg base (glo K Tb) "_law_row_tokens" 3 1 (cRowTokens) :=
  fnk_of F (fn_con (g := glo K Tb) (C := cRowTokens) (k := 2) (Γ := GM CN CU 0 0) F K24.sc__law_row_tokens rfl (by decide) (fun cdv A outer s H E S F hr C => K24.d__law_row_tokens (Γ := GM CN CU 0 0) h.B c12 (by decide) c11 (by decide) hr C) (law_row_tokens_ok (Γ := GM CN CU 0 0) rfl rfl rfl rfl)) hm fun _ _ _ _ _ _ us hl => match us, hl with | [_], _ => rfl
theorem k__law_drawn_row (h : Hd K mg CN CU) (F : Fun K "_law_drawn_row" "_law_drawn_row" K24.s__law_drawn_row f fd) (hm : mg "_law_drawn_row" = some (.ref f)) (c6 : FnK P w K mg base (glo K Tb) "_law_draw" 1 2 cDraw) (c7 : FnK P w K mg base (glo K Tb) "_law_pick" 2 2 cPick) : FnK P w K mg base (glo K Tb) "_law_drawn_row" 3 1 (cDrawnRow) :=
  fnk_of F (fn_con (g := glo K Tb) (C := cDrawnRow) (k := 2) (Γ := GM CN CU 0 0) F K24.sc__law_drawn_row rfl (by decide) (fun cdv A outer s H E S F hr C => K24.d__law_drawn_row (Γ := GM CN CU 0 0) h.B c6 (by decide) c7 (by decide) hr C) (drawn_row_ok (Γ := GM CN CU 0 0) rfl rfl rfl rfl)) hm fun _ _ _ _ _ _ us hl => match us, hl with | [_], _ => rfl
theorem k__law_stream (h : Hd K mg CN CU) (F : Fun K "_law_stream" "_law_stream" K24.s__law_stream f fd) (hm : mg "_law_stream" = some (.ref f)) : FnK P w K mg base (glo K Tb) "_law_stream" 1 1 cStream :=
  fnk_of F (fn_own (g := glo K Tb) (C := cStream) (k := 0) F K24.sc__law_stream rfl (fun cdv A outer s H E hr hu => K24.d__law_stream h.B hu) fun vs H Q E q => stream_sp q) hm fun _ _ _ _ _ _ us hl => match us, hl with | [_], _ => rfl
theorem k__law_draw (h : Hd K mg CN CU) (F : Fun K "_law_draw" "_law_draw" K24.s__law_draw f fd) (hm : mg "_law_draw" = some (.ref f)) : FnK P w K mg base (glo K Tb) "_law_draw" 1 2 cDraw :=
  fnk_of F (fn_own (g := glo K Tb) (C := cDraw) (k := 0) F K24.sc__law_draw rfl (fun cdv A outer s H E hr hu => K24.d__law_draw h.B hu) fun vs H Q E q => draw_sp q) hm fun _ _ _ _ _ _ us hl => match us, hl with | [_, _], _ => rfl
theorem fok_false {k n : Nat} {x : Str} {st : Stmt} {ps : List Str} {C : Con GS} (hp : ∀ tr S, ¬ C.pre tr S) : FnOk P w K mg base (L2.CX P w) k f fd ps (spC K (glo K Tb) n C) :=
  ⟨fun vs H Q E ⟨tr, S, F, _, _, _, _, hpre, _⟩ => (hp tr S hpre).elim, fun A outer s H args us vs Q E _ _ _ _ ⟨tr, S, F, _, _, _, _, hpre, _⟩ => (hp tr S hpre).elim⟩
theorem k__law_copied (h : Hd K mg CN CU) (F : Fun K "_law_copied" "_law_copied" K24.s__law_copied f fd) (hm : mg "_law_copied" = some (.ref f)) : ∀ n, FnK P w K mg base (glo K Tb) "_law_copied" n 1 (cCopied n)
  | 0 => fnk_of F (ps := ["thing"]) (fok_false (x := "") (st := .Pass ⟨0, 0, 0, 0⟩) fun tr S ⟨t, _, h⟩ => h) hm fun _ _ _ _ _ _ us hl => match us, hl with | [_], _ => rfl
  | n + 1 => fnk_of F (fn_con (g := glo K Tb) (C := cCopied (n + 1)) (k := n) (Γ := GM CN CU n 0) F K24.sc__law_copied rfl (by decide) (fun cdv A outer s H E S F2 hr C => K24.d__law_copied (Γ := GM CN CU n 0) h.B (k__law_copied h F hm n) (Nat.le_refl n) hr C) (copied_ok (Γ := GM CN CU n 0) rfl rfl)) hm fun _ _ _ _ _ _ us hl => match us, hl with | [_], _ => rfl
theorem k__law_same (h : Hd K mg CN CU) (F : Fun K "_law_same" "_law_same" K24.s__law_same f fd) (hm : mg "_law_same" = some (.ref f)) : ∀ n, FnK P w K mg base (glo K Tb) "_law_same" n 2 (cSame n)
  | 0 => fnk_of F (ps := ["found", "due"]) (fok_false (x := "") (st := .Pass ⟨0, 0, 0, 0⟩) fun tr S ⟨t, _, h⟩ => h) hm fun _ _ _ _ _ _ us hl => match us, hl with | [_, _], _ => rfl
  | n + 1 => fnk_of F (fn_con (g := glo K Tb) (C := cSame (n + 1)) (k := n) (Γ := GM CN CU 0 n) F K24.sc__law_same rfl (by decide) (fun cdv A outer s H E S F2 hr C => K24.d__law_same (Γ := GM CN CU 0 n) h.B (k__law_same h F hm n) (Nat.le_refl n) hr C) (same_ok (Γ := GM CN CU 0 n) rfl rfl)) hm fun _ _ _ _ _ _ us hl => match us, hl with | [_, _], _ => rfl
theorem spo_ok (h : Hd K mg CN CU) (F : Fun K "_law_spoilt" "_law_spoilt" K24.s__law_spoilt f fd) {k n j : Nat} {sp : Sp} (c : SpoK P w K mg base "_law_spoilt" j sp) (hj : j ≤ k)
    (hb : ∀ {vs : List V} {H : Hp} {Q : VK} {E : XK}, spSpoN K (glo K Tb) n vs H Q E → tSpoilt K sp E { nx := fun _ H' => Q .non H', rt := Q } (L2.start ["thing", "key", "part"] vs) H) :
    FnOk P w K mg base (L2.CX P w) (k + 1) f fd ["thing"] (spSpoN K (glo K Tb) n) := by
  refine F.okX K24.sc__law_spoilt (fun vs H Q E q => ?_) (fun cdv A outer s H vs Q E hr q => ?_)
  · obtain ⟨t, S, F, v, rfl, _⟩ := q
    rfl
  · obtain ⟨t, S, F2, v, _⟩ := id q
    have hC : Cok (cxOf (L2.CX P w) P w K mg base ["thing", "key", "part"] "_law_spoilt" (defScope K24.s__law_spoilt) f cdv A outer s H E) (bxE K (glo K Tb) S H F2 3) E :=
      ⟨rfl, rfl, rfl, K24.sc__law_spoilt.nd, by have := hr.un; show A.units + 3 + 64 < cLine; change A.units + 3 + 16 * k + 200 < cLine at this; omega, takes_of rfl rfl rfl rfl⟩
    exact ⟨_, K24.d__law_spoilt h.B c hj hr hC, hb q⟩
theorem k__law_spoilt (h : Hd K mg CN CU) (F : Fun K "_law_spoilt" "_law_spoilt" K24.s__law_spoilt f fd) (hm : mg "_law_spoilt" = some (.ref f)) : ∀ n, SpoK P w K mg base "_law_spoilt" (n + 1) (spSpoN K (glo K Tb) n)
  | 0 => spoK_of F (spo_ok (Tb := Tb) h F (k := 0) (j := 0) (sp := fun _ _ _ _ => False) (spoK_of F (ps := ["thing"]) ⟨fun _ _ _ _ q => q.elim, fun _ _ _ _ _ _ _ _ _ _ _ _ _ q => q.elim⟩ hm (fun _ _ _ _ _ _ us hl => match us, hl with | [_], _ => rfl)) (Nat.le_refl 0) fun q => spo_body0 q) hm fun _ _ _ _ _ _ us hl => match us, hl with | [_], _ => rfl
  | n + 1 => spoK_of F (spo_ok (Tb := Tb) h F (k := n + 1) (k__law_spoilt h F hm n) (Nat.le_refl _) fun q => spo_body q) hm fun _ _ _ _ _ _ us hl => match us, hl with | [_], _ => rfl
theorem ex_k {x q fld p1 p2 : Str} {st : Stmt} {C fI : Addr} {fdI : FuncData} (oC : OexC K C) (no : PySem.W.findIn K (.ref C) fld = some none) (gC : mg x = some (.ref C)) (F : Fun K "__init__" q st fI fdI) (i1 : PySem.W.findIn K (.ref C) "__init__" = some (some (.ref fI)))
    (i2 : PySem.W.typeIn K (.ref fI) = some (.type "function")) (ok : FnOk P w K mg base (L2.CX P w) 1 fI fdI [p1, p2] (spInit K fld))
    (hb : ∀ (kV doc pm : Value) (an : Option Addr) (cdv ct : Value) (us : List Value), us.length = ([p1, p2] : List Str).length → bindArgs (PySem.W.fnOf "__init__" q (defArgs st) (defBody st) (defScope st) .none kV doc pm an cdv ct) ⟨us, []⟩ = pure (([p1, p2] : List Str).zip us)) : ExK P w K mg base x C fld 1 :=
  ⟨oC, no, gC, fI, fdI, p1, p2, i1, i2, ok, F.binds hb⟩
end
end Vs

-- K24fin3
namespace Vs
open PySem PySem.Spec PyProof.Rows L2 LamX
abbrev L24 : PySem.W.OpenLaw := PySem.Challenge.rw_provenkind_k24_whole_tokens_of_texts
theorem kw_tokens {P : Program} {w : World} {K : PySem.W.Frag} {mg : Str → Option Value} {base : Heap} {Tb : List (Addr × Str)} {CN CU f : Addr} {fd : FuncData} (h : Hd K mg CN CU) (F : Fun K "tokens" "tokens" K24.s_tokens f fd) (hm : mg "tokens" = some (.ref f)) (c0 : FnK P w K mg base (glo K Tb) "check_text" 3 1 (cCheck (exN CN))) (c3 : FnK P w K mg base (glo K Tb) "row_tokens" 3 1 cRowTokens) (xU : ExK P w K mg base "Unread" CU "at" 1) :
    FnKw P w K mg base (glo K Tb) "tokens" 4 1 0 ["text"] (cTokens (exN CN) (exU CU)) := by
  refine ⟨f, fd, ["text"], fn_con (g := glo K Tb) (C := cTokens (exN CN) (exU CU)) (k := 3) (Γ := GM CN CU 0 0) F K24.sc_tokens rfl (by decide) (fun cdv A outer s H E S F hr C => K24.d_tokens (Γ := GM CN CU 0 0) h.B c3 (by decide) c0 (by decide) xU (by decide) hr C) (tokens_ok (Γ := GM CN CU 0 0) rfl rfl rfl rfl rfl), hm, F.kp, fun s us ws h1 h2 => ?_⟩
  obtain ⟨oc, od, kV, doc, pm, an, cdv, ct, osl, rfl, _, _⟩ := F.ex
  match us, ws, h1, h2 with
  | [], [u], _, _ => exact .of_eq rfl
theorem spo_imp {P : Program} {w : World} {K : PySem.W.Frag} {mg : Str → Option Value} {base : Heap} {Tb : List (Addr × Str)} {x : Str} {k : Nat} (h : SpoK P w K mg base x k (spSpoN K (glo K Tb) 4)) : SpoK P w K mg base x k (spSpo K (glo K Tb) (spoT 4)) := by
  obtain ⟨f, fd, ps, F, h1, h2, h3⟩ := h
  exact ⟨f, fd, ps, F.imp (fun vs H Q E q => spSpo_of (fun t ht => ht) q), h1, h2, h3⟩
theorem law_at {w : World} {K : PySem.W.Frag} {h : Heap} {mg : Str → Option Value} {fa : Addr} (X : K.In h) (G : h.Ns mainGlobals mg) (hfa : mg "law" = some (.ref fa)) (c : He.SaysX K24.fa K24.fn [] K24.tf K24.ex w h K) :
    LawAtS L24 w K (L2.CX L24.prog w) 13 63 "script" mg fa h := by
  have D := c.t.d
  have g_check_text : mg "check_text" = some (.ref (He.ga K "check_text")) := He.glo_ok X G (D.fact 2 (f := .glo "check_text") rfl)
  have g_run_end : mg "run_end" = some (.ref (He.ga K "run_end")) := He.glo_ok X G (D.fact 3 (f := .glo "run_end") rfl)
  have g_word_end : mg "word_end" = some (.ref (He.ga K "word_end")) := He.glo_ok X G (D.fact 4 (f := .glo "word_end") rfl)
  have g_row_tokens : mg "row_tokens" = some (.ref (He.ga K "row_tokens")) := He.glo_ok X G (D.fact 5 (f := .glo "row_tokens") rfl)
  have g_tokens : mg "tokens" = some (.ref (He.ga K "tokens")) := He.glo_ok X G (D.fact 6 (f := .glo "tokens") rfl)
  have g__law_stream : mg "_law_stream" = some (.ref (He.ga K "_law_stream")) := He.glo_ok X G (D.fact 7 (f := .glo "_law_stream") rfl)
  have g__law_draw : mg "_law_draw" = some (.ref (He.ga K "_law_draw")) := He.glo_ok X G (D.fact 8 (f := .glo "_law_draw") rfl)
  have g__law_pick : mg "_law_pick" = some (.ref (He.ga K "_law_pick")) := He.glo_ok X G (D.fact 9 (f := .glo "_law_pick") rfl)
  have g__law_copied : mg "_law_copied" = some (.ref (He.ga K "_law_copied")) := He.glo_ok X G (D.fact 10 (f := .glo "_law_copied") rfl)
  have g__law_same : mg "_law_same" = some (.ref (He.ga K "_law_same")) := He.glo_ok X G (D.fact 11 (f := .glo "_law_same") rfl)
  have g__law_spoilt : mg "_law_spoilt" = some (.ref (He.ga K "_law_spoilt")) := He.glo_ok X G (D.fact 12 (f := .glo "_law_spoilt") rfl)
  have g__law_span : mg "_law_span" = some (.ref (He.ga K "_law_span")) := He.glo_ok X G (D.fact 13 (f := .glo "_law_span") rfl)
  have g__law_word_span : mg "_law_word_span" = some (.ref (He.ga K "_law_word_span")) := He.glo_ok X G (D.fact 14 (f := .glo "_law_word_span") rfl)
  have g__law_row_tokens : mg "_law_row_tokens" = some (.ref (He.ga K "_law_row_tokens")) := He.glo_ok X G (D.fact 15 (f := .glo "_law_row_tokens") rfl)
  have g__law_drawn_row : mg "_law_drawn_row" = some (.ref (He.ga K "_law_drawn_row")) := He.glo_ok X G (D.fact 16 (f := .glo "_law_drawn_row") rfl)
  have g__law_met : mg "_law_met" = some (.ref (He.ga K "_law_met")) := He.glo_ok X G (D.fact 17 (f := .glo "_law_met") rfl)
  have g_law : mg "law" = some (.ref (He.ga K "law")) := He.glo_ok X G (D.fact 18 (f := .glo "law") rfl)
  have g_NoText : mg "NoText" = some (.ref (He.ga K "NoText")) := He.glo_ok X G (D.fact 19 (f := .glo "NoText") rfl)
  have g_Unread : mg "Unread" = some (.ref (He.ga K "Unread")) := He.glo_ok X G (D.fact 20 (f := .glo "Unread") rfl)
  obtain ⟨fd_check_text, FD_check_text⟩ := D.def_ 0 (d := K24.dd_check_text) rfl
  have F_check_text : Fun K "check_text" "check_text" K24.s_check_text (He.ga K "check_text") fd_check_text := funD_fun FD_check_text
  obtain ⟨fd_run_end, FD_run_end⟩ := D.def_ 1 (d := K24.dd_run_end) rfl
  have F_run_end : Fun K "run_end" "run_end" K24.s_run_end (He.ga K "run_end") fd_run_end := funD_fun FD_run_end
  obtain ⟨fd_word_end, FD_word_end⟩ := D.def_ 2 (d := K24.dd_word_end) rfl
  have F_word_end : Fun K "word_end" "word_end" K24.s_word_end (He.ga K "word_end") fd_word_end := funD_fun FD_word_end
  obtain ⟨fd_row_tokens, FD_row_tokens⟩ := D.def_ 3 (d := K24.dd_row_tokens) rfl
  have F_row_tokens : Fun K "row_tokens" "row_tokens" K24.s_row_tokens (He.ga K "row_tokens") fd_row_tokens := funD_fun FD_row_tokens
  obtain ⟨fd_tokens, FD_tokens⟩ := D.def_ 4 (d := K24.dd_tokens) rfl
  have F_tokens : Fun K "tokens" "tokens" K24.s_tokens (He.ga K "tokens") fd_tokens := funD_fun FD_tokens
  obtain ⟨fd__law_stream, FD__law_stream⟩ := D.def_ 5 (d := K24.dd__law_stream) rfl
  have F__law_stream : Fun K "_law_stream" "_law_stream" K24.s__law_stream (He.ga K "_law_stream") fd__law_stream := funD_fun FD__law_stream
  obtain ⟨fd__law_draw, FD__law_draw⟩ := D.def_ 6 (d := K24.dd__law_draw) rfl
  have F__law_draw : Fun K "_law_draw" "_law_draw" K24.s__law_draw (He.ga K "_law_draw") fd__law_draw := funD_fun FD__law_draw
  obtain ⟨fd__law_pick, FD__law_pick⟩ := D.def_ 7 (d := K24.dd__law_pick) rfl
  have F__law_pick : Fun K "_law_pick" "_law_pick" K24.s__law_pick (He.ga K "_law_pick") fd__law_pick := funD_fun FD__law_pick
  obtain ⟨fd__law_copied, FD__law_copied⟩ := D.def_ 8 (d := K24.dd__law_copied) rfl
  have F__law_copied : Fun K "_law_copied" "_law_copied" K24.s__law_copied (He.ga K "_law_copied") fd__law_copied := funD_fun FD__law_copied
  obtain ⟨fd__law_same, FD__law_same⟩ := D.def_ 9 (d := K24.dd__law_same) rfl
  have F__law_same : Fun K "_law_same" "_law_same" K24.s__law_same (He.ga K "_law_same") fd__law_same := funD_fun FD__law_same
  obtain ⟨fd__law_spoilt, FD__law_spoilt⟩ := D.def_ 10 (d := K24.dd__law_spoilt) rfl
  have F__law_spoilt : Fun K "_law_spoilt" "_law_spoilt" K24.s__law_spoilt (He.ga K "_law_spoilt") fd__law_spoilt := funD_fun FD__law_spoilt
  obtain ⟨fd__law_span, FD__law_span⟩ := D.def_ 11 (d := K24.dd__law_span) rfl
  have F__law_span : Fun K "_law_span" "_law_span" K24.s__law_span (He.ga K "_law_span") fd__law_span := funD_fun FD__law_span
  obtain ⟨fd__law_word_span, FD__law_word_span⟩ := D.def_ 12 (d := K24.dd__law_word_span) rfl
  have F__law_word_span : Fun K "_law_word_span" "_law_word_span" K24.s__law_word_span (He.ga K "_law_word_span") fd__law_word_span := funD_fun FD__law_word_span
  obtain ⟨fd__law_row_tokens, FD__law_row_tokens⟩ := D.def_ 13 (d := K24.dd__law_row_tokens) rfl
  have F__law_row_tokens : Fun K "_law_row_tokens" "_law_row_tokens" K24.s__law_row_tokens (He.ga K "_law_row_tokens") fd__law_row_tokens := funD_fun FD__law_row_tokens
  obtain ⟨fd__law_drawn_row, FD__law_drawn_row⟩ := D.def_ 14 (d := K24.dd__law_drawn_row) rfl
  have F__law_drawn_row : Fun K "_law_drawn_row" "_law_drawn_row" K24.s__law_drawn_row (He.ga K "_law_drawn_row") fd__law_drawn_row := funD_fun FD__law_drawn_row
  obtain ⟨fd__law_met, FD__law_met⟩ := D.def_ 15 (d := K24.dd__law_met) rfl
  obtain ⟨fd_law, FD_law⟩ := D.def_ 16 (d := K24.dd_law) rfl
  obtain ⟨fd_NoText, FD_NoText⟩ := D.def_ 17 (d := K24.dd_NoText) rfl
  have F_NoText : Fun K "__init__" "NoText.__init__" K24.s_NoText (He.ma K (He.ga K "NoText") "__init__") fd_NoText := funD_fun FD_NoText
  obtain ⟨fd_Unread, FD_Unread⟩ := D.def_ 18 (d := K24.dd_Unread) rfl
  have F_Unread : Fun K "__init__" "Unread.__init__" K24.s_Unread (He.ma K (He.ga K "Unread") "__init__") fd_Unread := funD_fun FD_Unread
  have ex := c.more
  unfold K24.ex at ex
  simp only [Bool.and_eq_true, decide_eq_true_eq] at ex
  obtain ⟨ex1, ex2, ex3, ex4, ex5, ex6⟩ := ex
  obtain ⟨mN, _, _⟩ := He.meth_ok (D.fact 36 (f := .meth "NoText" "__init__") rfl)
  obtain ⟨mU, _, _⟩ := He.meth_ok (D.fact 37 (f := .meth "Unread" "__init__") rfl)
  have hd : Hd K mg (He.ga K "NoText") (He.ga K "Unread") := by
    refine ⟨?_, He.str_ok X G (D.fact 0 (f := .str "LETTERS" "abcdefghijklmnopqrstuvwxyz") rfl), He.str_ok X G (D.fact 1 (f := .str "FIGURES" "0123456789") rfl), g_NoText, g_Unread, oexB_ok ex1, oexB_ok ex2, xfB_ok ex3, xfB_ok ex4,
      He.noat_ok (D.fact 34 (f := .noat "NoText" "text") rfl), He.noat_ok (D.fact 35 (f := .noat "Unread" "at") rfl), He.exm_ok (D.fact 38 (f := .exm "NoText" "NoText" true) rfl), He.exm_ok (D.fact 39 (f := .exm "Unread" "Unread" true) rfl), He.exm_ok (D.fact 40 (f := .exm "Unread" "NoText" false) rfl)⟩
    intro x hx
    simp only [K24.blts, List.mem_cons, List.not_mem_nil, or_false] at hx
    rcases hx with rfl | rfl | rfl | rfl | rfl | rfl | rfl | rfl | rfl | rfl | rfl | rfl | rfl
    · exact He.free_ok X G (D.fact 21 (f := .free "isinstance") rfl)
    · exact He.free_ok X G (D.fact 22 (f := .free "str") rfl)
    · exact He.free_ok X G (D.fact 23 (f := .free "len") rfl)
    · exact He.free_ok X G (D.fact 24 (f := .free "int") rfl)
    · exact He.free_ok X G (D.fact 25 (f := .free "enumerate") rfl)
    · exact He.free_ok X G (D.fact 26 (f := .free "list") rfl)
    · exact He.free_ok X G (D.fact 27 (f := .free "abs") rfl)
    · exact He.free_ok X G (D.fact 28 (f := .free "dict") rfl)
    · exact He.free_ok X G (D.fact 29 (f := .free "tuple") rfl)
    · exact He.free_ok X G (D.fact 30 (f := .free "bool") rfl)
    · exact He.free_ok X G (D.fact 31 (f := .free "zip") rfl)
    · exact He.free_ok X G (D.fact 32 (f := .free "all") rfl)
    · exact He.free_ok X G (D.fact 33 (f := .free "range") rfl)
  have two : ∀ (kV doc pm : Value) (an : Option Addr) (cdv ct : Value) (us : List Value) (q : Str) (st : Stmt), True := fun _ _ _ _ _ _ _ _ _ => trivial
  obtain ⟨⟨oc, od, dV, kV, doc, pm, an, cdv, ct, osl, efd, lk, hcd, hdf, hkw⟩, kpl⟩ := FD_law
  obtain ⟨cl, rfl⟩ := He.codeIn_ref hcd
  have hdf : dV = .none := by
    rcases hdf with ⟨_, e⟩ | ⟨z, _⟩
    · exact e
    · exact absurd rfl z
  subst hdf efd
  have e := hfa.symm.trans g_law
  cases e
  have ecl : He.codeOf K ("law", none) = cl := He.codeOf_eq lk rfl
  have tf0 : (("law", none) : He.Defn) ∈ K24.tf := List.mem_cons_self
  refine ⟨PySem.W.fnOf "law" "law" (defArgs K24.s_law) (defBody K24.s_law) (defScope K24.s_law) .none kV doc pm an (.ref cl) ct, [He.cT K ("law", none)], spLaw 63 [((He.cT K ("law", none)).2, (envOfC "law" (defScope K24.s_law) 0 (He.ga K "law") (.ref cl)).qual ++ "<lambda>")] K, ?_, ?_, ?_, fun s u => .of_eq rfl, ?_, ?_⟩
  · intro p hp
    rw [List.mem_singleton.mp hp]
    exact c.empty _ tf0
  · intro p hp
    rw [List.mem_singleton.mp hp]
    exact c.out _ tf0
  · intro p hp
    rw [List.mem_singleton.mp hp]
    exact PySem.W.codeHd_of_K X (c.hd _ tf0)
  · intro H a ns hl _ ht hs
    refine ⟨a, ns, rfl, hl, hs, fun p hp => ?_, fun _ => rfl⟩
    rw [List.mem_singleton.mp hp]
    exact ht _ List.mem_cons_self
  · intro base KB GB TB
    have tb := TB _ List.mem_cons_self
    generalize hTb : [((He.cT K ("law", none)).2, (envOfC "law" (defScope K24.s_law) 0 (He.ga K "law") (.ref cl)).qual ++ "<lambda>")] = Tb
    have xN : ExK L24.prog w K mg base "NoText" (He.ga K "NoText") "text" 1 := ex_k hd.oN hd.nN g_NoText F_NoText mN ex5 (ini_fn (k := 0) F_NoText K24.sc_NoText fun cdv A outer s H E => K24.d_NoText cdv A outer s H E) fun _ _ _ _ _ _ us hl => match us, hl with | [_, _], _ => rfl
    have xU : ExK L24.prog w K mg base "Unread" (He.ga K "Unread") "at" 1 := ex_k hd.oU hd.nU g_Unread F_Unread mU ex6 (ini_fn (k := 0) F_Unread K24.sc_Unread fun cdv A outer s H E => K24.d_Unread cdv A outer s H E) fun _ _ _ _ _ _ us hl => match us, hl with | [_, _], _ => rfl
    have c0 := k_check_text (Tb := Tb) hd F_check_text g_check_text xN
    have c1 := k_run_end (P := L24.prog) (w := w) (base := base) (Tb := Tb) hd F_run_end g_run_end
    have c2 := k_word_end (Tb := Tb) hd F_word_end g_word_end c1
    have c3 := k_row_tokens (Tb := Tb) hd F_row_tokens g_row_tokens c1 c2
    have c4 := k_tokens (Tb := Tb) hd F_tokens g_tokens c0 c3 xU
    have c5 := k__law_stream (P := L24.prog) (w := w) (base := base) (Tb := Tb) hd F__law_stream g__law_stream
    have c6 := k__law_draw (P := L24.prog) (w := w) (base := base) (Tb := Tb) hd F__law_draw g__law_draw
    have c7 := k__law_pick (Tb := Tb) hd F__law_pick g__law_pick c6
    have c8 := k__law_copied (P := L24.prog) (w := w) (base := base) (Tb := Tb) hd F__law_copied g__law_copied 2
    have c9 := k__law_same (P := L24.prog) (w := w) (base := base) (Tb := Tb) hd F__law_same g__law_same 8
    have c10 := k__law_spoilt (P := L24.prog) (w := w) (base := base) (Tb := Tb) hd F__law_spoilt g__law_spoilt 4
    have c11 := k__law_span (P := L24.prog) (w := w) (base := base) (Tb := Tb) hd F__law_span g__law_span
    have c12 := k__law_word_span (Tb := Tb) hd F__law_word_span g__law_word_span c11
    have c13 := k__law_row_tokens (Tb := Tb) hd F__law_row_tokens g__law_row_tokens c11 c12
    have c14 := k__law_drawn_row (Tb := Tb) hd F__law_drawn_row g__law_drawn_row c6 c7
    have w4 := kw_tokens (Tb := Tb) hd F_tokens g_tokens c0 c3 xU
    have hTm : ((He.cT K ("law", none)).2, (envOfC "law" (defScope K24.s_law) 0 (He.ga K "law") (.ref cl)).qual ++ "<lambda>") ∈ Tb := by rw [← hTb]; exact List.mem_cons_self
    have hTu : ∀ p ∈ Tb, p.1 = (He.cT K ("law", none)).2 → p.2 = (envOfC "law" (defScope K24.s_law) 0 (He.ga K "law") (.ref cl)).qual ++ "<lambda>" := fun p hp _ => by
      rw [← hTb] at hp
      rw [List.mem_singleton.mp hp]
    have tb2 : TabB base mg cl (He.cT K ("law", none)).2 := by
      have e1 : (He.cT K ("law", none)).1 = cl := ecl
      rw [← e1]; exact tb
    obtain ⟨⟨oc1, od1, dV1, kV1, doc1, pm1, an1, cdM, ct1, osl1, rfl, lk1, hcd1, hdf1, _⟩, kp1⟩ := FD__law_met
    have hdf1 : dV1 = .none := by
      rcases hdf1 with ⟨_, e⟩ | ⟨z, _⟩
      · exact e
      · exact absurd rfl z
    subst hdf1
    have M : MetK L24.prog w K mg base "_law_met" "ask" ["ask", "e"] (defArgs K24.s__law_met) (defBody K24.s__law_met) (defScope K24.s__law_met) (He.ga K "_law_met") cdM :=
      ⟨g__law_met, kp1, ⟨oc1, od1, .none, kV1, doc1, pm1, ct1, an1, osl1, lk1, .all fun us hl => match us, hl with | [_], _ => rfl⟩, hcd1, K24.sc__law_met, rfl, by first | exact Or.inl rfl | exact Or.inr (Or.inl rfl) | exact Or.inr (Or.inr rfl)⟩
    refine law_fn (k := 12) (n := 63) (Γ := GM (He.ga K "NoText") (He.ga K "Unread") 2 8) (vb := K24.v_law) lk hcd K24.sc_law (by decide) (fun A outer s H E S F hr C hF => ?_) (fun a ns b hl => law_ok gm_lg a ns b hl)
    exact K24.d_law (kk := 10) (Γ := GM (He.ga K "NoText") (He.ga K "Unread") 2 8) hd.B c9 (by decide) c4 (by decide) c8 (by decide) c7 (by decide) c13 (by decide) c14 (by decide) c5 (by decide) w4 (by decide) rfl hd.xN hd.nN hd.gN hd.xU hd.nU hd.gU M tb2 hTm hTu (met_ok hd) gm_box hF (spo_imp c10) (by decide) hr C
end Vs
open PySem PySem.W PySem.Calls PyProof.Rows in
theorem PySem.Challenge.cw_provenkind_k24_whole_tokens_of_texts_holds : PySem.Challenge.rw_provenkind_k24_whole_tokens_of_texts.Holds := by
  w_on; o_law
  refine HandSHeadRun.head_any (r := OpenLaw.row PySem.Challenge.rw_provenkind_k24_whole_tokens_of_texts) (q := view (OpenLaw.row PySem.Challenge.rw_provenkind_k24_whole_tokens_of_texts).prog [25]) (H := K24.hk) (ob := K24.ob) (M := 4000) (loose := ["LETTERS", "KindError", "NoText", "Unread", "FIGURES", "check_text", "run_end", "word_end", "row_tokens", "tokens", "_law_stream", "_law_draw", "_law_pick", "_law_copied", "_law_same", "_law_spoilt", "_law_span", "_law_word_span", "_law_row_tokens", "_law_drawn_row", "_law_met"]) (d := HandSHeadRun.topDef (OpenLaw.row PySem.Challenge.rw_provenkind_k24_whole_tokens_of_texts).prog 25) (kwd := []) K24.ob_eq
    (by kernel_rfl) (fun s => by kernel_rfl) K24.run (by kernel_rfl) (by kernel_rfl) (by kernel_rfl) (by rfl) (by first | assumption | decide +kernel) (by decide +kernel) ⟨rfl, rfl, rfl, rfl, rfl, by decide +kernel⟩ ?hw ?hc
  case hw => w_witness2
  case hc =>
    refine LamX.walk_ofTsE (l := PySem.Challenge.rw_provenkind_k24_whole_tokens_of_texts) (n := 63) (k := 13) (x := "script") (CX := fun w => L2.CX PySem.Challenge.pw_provenkind_k24_whole_tokens_of_texts w) rfl (by decide) (by kernel_rfl) ⟨rfl, by decide, by decide⟩ ?F (fun _ _ _ _ _ z => by obtain ⟨_, _, _, _, _, _, _, _, _, _, _, _, z⟩ := z; exact z)
    intro w mg fa h Y G hmg0
    obtain ⟨K, KX, c⟩ := Y
    have hmg : mg ("law" : PySem.Str) = some (.ref fa) := by
      have e : (HandSHeadRun.topDef (OpenLaw.row PySem.Challenge.rw_provenkind_k24_whole_tokens_of_texts).prog 25).name = ("law" : PySem.Str) := by kernel_rfl
      rw [← e]
      exact hmg0
    exact ⟨K, KX, Vs.law_at KX G hmg c⟩
