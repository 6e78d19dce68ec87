import PyProof.Rows.All
import Wide.All
import OpenK.AllK
import Wide.FinOn
import HandS.ForMost
import HandS.IsInst
import HandS.Deep
import HandS.Exc
import HandS.TryOnly
import HandS.ExcOwn
import HandS.WordsExc
import HandS.TupAny
import HandS.Steps
import HandS.More
import HandS.TupLe
import HandS.List
import HandS.DeepEq
import KE.KEqNest
import HandS.ExcIs
import KE.RegKIsAll
import KE.RegKTryMore
import PySem.Challenge.RW_mendread_k05_deeds_done
set_option Elab.async false
set_option linter.all false
set_option maxRecDepth 100000
set_option maxHeartbeats 4000000
/-! PL: the pure layer. Data trees D, slots, ownership; judgements over a pure state. -/
namespace PL
open PySem L2

/-! ### data -/
inductive D where
  | non | bl (b : Bool) | int (i : Int) | str (s : Str)
  | tup (l : List D) | lst (l : List D)
  | dT (kvs : List (List Key × V)) | dK (kvs : List (Key × V))
  | scr (ns : List Int)
  | ty (n : String)
  | ref (a : Addr)

mutual
inductive Rep (K : PySem.W.Frag) (S : Hp) : V → D → Prop where
  | non : Rep K S .non .non
  | bl (b : Bool) : Rep K S (.bl b) (.bl b)
  | int (i : Int) : Rep K S (.int i) (.int i)
  | str (s : Str) : Rep K S (.str s) (.str s)
  | tup {a : Addr} {xs : List V} {ds : List D} : S a = some (.tup xs) → RepA K S xs ds → Rep K S (.ref a) (.tup ds)
  | lst {a : Addr} {xs : List V} {ds : List D} : S a = some (.lst xs) → RepA K S xs ds → Rep K S (.ref a) (.lst ds)
  | dT {a : Addr} {kvs : List (List Key × V)} : Rd S a (.dT kvs) → Rep K S (.ref a) (.dT kvs)
  | dK {a : Addr} {kvs : List (Key × V)} : S a = some (.dK kvs) → Rep K S (.ref a) (.dK kvs)
  | scr {a : Addr} {ns : List Int} : SqL K S a (ns.map V.int) → Rep K S (.ref a) (.scr ns)
  | ty (n : String) : Rep K S (.ty n) (.ty n)
  | ref (a : Addr) : Rep K S (.ref a) (.ref a)
inductive RepA (K : PySem.W.Frag) (S : Hp) : List V → List D → Prop where
  | nil : RepA K S [] []
  | cons {v : V} {d : D} {vs : List V} {ds : List D} : Rep K S v d → RepA K S vs ds → RepA K S (v :: vs) (d :: ds)
end

/-! no list, no dict within -/
mutual
def D.flat : D → Bool
  | .tup l => flatA l
  | .lst _ => false
  | .dT _ => false
  | .dK _ => false
  | .scr _ => false
  | _ => true
def flatA : List D → Bool
  | [] => true
  | d :: l => d.flat && flatA l
end

section
variable {K : PySem.W.Frag} {S S' : Hp}
theorem rd_mono {a : Addr} {u : HO} (m : Same S S') (h : Rd S a u) : Rd S' a u := by
  rcases h with h | ⟨o, h⟩
  · exact .inl (m _ _ h)
  · exact .inr ⟨o, m _ _ h⟩
mutual
theorem Rep.mono {v : V} {d : D} (m : Same S S') : Rep K S v d → Rep K S' v d
  | .non => .non
  | .bl b => .bl b
  | .int i => .int i
  | .str s => .str s
  | .tup h r => .tup (m _ _ h) (RepA.mono m r)
  | .lst h r => .lst (m _ _ h) (RepA.mono m r)
  | .dT h => .dT (rd_mono m h)
  | .dK h => .dK (m _ _ h)
  | .scr h => .scr (m.seq h)
  | .ty n => .ty n
  | .ref a => .ref a
theorem RepA.mono {vs : List V} {ds : List D} (m : Same S S') : RepA K S vs ds → RepA K S' vs ds
  | .nil => .nil
  | .cons h r => .cons (Rep.mono m h) (RepA.mono m r)
end
/-! flat data leans on tuples alone -/
mutual
theorem Rep.flatMono {v : V} {d : D} (m : ∀ a xs, S a = some (.tup xs) → S' a = some (.tup xs)) (hf : d.flat = true) : Rep K S v d → Rep K S' v d
  | .non => .non
  | .bl b => .bl b
  | .int i => .int i
  | .str s => .str s
  | .tup h r => .tup (m _ _ h) (RepA.flatMono m hf r)
  | .lst h r => by cases hf
  | .dT h => by cases hf
  | .dK h => by cases hf
  | .scr h => by cases hf
  | .ty n => .ty n
  | .ref a => .ref a
theorem RepA.flatMono {vs : List V} {ds : List D} (m : ∀ a xs, S a = some (.tup xs) → S' a = some (.tup xs)) (hf : flatA ds = true) : RepA K S vs ds → RepA K S' vs ds
  | .nil => .nil
  | .cons h r => by
    have hf' := Bool.and_eq_true_iff.mp hf
    exact .cons (Rep.flatMono m hf'.1 h) (RepA.flatMono m hf'.2 r)
end
theorem RepA.len : ∀ {vs : List V} {ds : List D}, RepA K S vs ds → vs.length = ds.length
  | _, _, .nil => rfl
  | _, _, .cons _ r => congrArg (· + 1) r.len
theorem RepA.get : ∀ {vs : List V} {ds : List D} {i : Nat} {d : D}, RepA K S vs ds → ds[i]? = some d → ∃ v, vs[i]? = some v ∧ Rep K S v d
  | _, _, _, _, .nil, e => by simp at e
  | _, _, 0, _, .cons h r, e => by
    simp at e; subst e
    exact ⟨_, rfl, h⟩
  | _, _, i + 1, d, .cons h r, e => by
    obtain ⟨u, h1, h2⟩ := RepA.get (i := i) (d := d) r (by simpa using e)
    exact ⟨u, by simpa using h1, h2⟩
theorem RepA.getV : ∀ {vs : List V} {ds : List D} {i : Nat} {v : V}, RepA K S vs ds → vs[i]? = some v → ∃ d, ds[i]? = some d ∧ Rep K S v d
  | _, _, _, _, .nil, e => by simp at e
  | _, _, 0, _, .cons h r, e => by
    simp at e; subst e
    exact ⟨_, rfl, h⟩
  | _, _, i + 1, d, .cons h r, e => by
    obtain ⟨u, h1, h2⟩ := RepA.getV (i := i) (v := d) r (by simpa using e)
    exact ⟨u, by simpa using h1, h2⟩
theorem RepA.append : ∀ {vs us : List V} {ds es : List D}, RepA K S vs ds → RepA K S us es → RepA K S (vs ++ us) (ds ++ es)
  | _, _, _, _, .nil, q => q
  | _, _, _, _, .cons h r, q => .cons h (r.append q)
theorem RepA.take : ∀ {vs : List V} {ds : List D} (n : Nat), RepA K S vs ds → RepA K S (vs.take n) (ds.take n)
  | _, _, 0, _ => .nil
  | _, _, _ + 1, .nil => .nil
  | _, _, n + 1, .cons h r => .cons h (r.take n)
theorem RepA.drop : ∀ {vs : List V} {ds : List D} (n : Nat), RepA K S vs ds → RepA K S (vs.drop n) (ds.drop n)
  | _, _, 0, r => r
  | _, _, _ + 1, .nil => .nil
  | _, _, n + 1, .cons _ r => r.drop n
theorem RepA.rev : ∀ {vs : List V} {ds : List D}, RepA K S vs ds → RepA K S vs.reverse ds.reverse
  | _, _, .nil => .nil
  | _, _, .cons h r => by
    rw [List.reverse_cons, List.reverse_cons]
    exact r.rev.append (.cons h .nil)
theorem RepA.dropLast {vs : List V} {ds : List D} (h : RepA K S vs ds) : RepA K S vs.dropLast ds.dropLast := by
  rw [List.dropLast_eq_take, List.dropLast_eq_take, h.len]
  exact h.take _
theorem RepA.set : ∀ {vs : List V} {ds : List D} (i : Nat) {v : V} {d : D}, RepA K S vs ds → Rep K S v d → RepA K S (vs.set i v) (ds.set i d)
  | _, _, _, _, _, .nil, _ => .nil
  | _, _, 0, _, _, .cons _ r, h => .cons h r
  | _, _, i + 1, _, _, .cons q r, h => .cons q (r.set i h)
theorem RepA.eraseIdx : ∀ {vs : List V} {ds : List D} (i : Nat), RepA K S vs ds → RepA K S (vs.eraseIdx i) (ds.eraseIdx i)
  | _, _, _, .nil => .nil
  | _, _, 0, .cons _ r => r
  | _, _, i + 1, .cons q r => .cons q (r.eraseIdx i)
end

/-! ### slots -/
inductive Mo where
  | lst (ds : List D) | dT (kvs : List (List Key × V)) | dK (kvs : List (Key × V))
@[reducible] def Mo.toD : Mo → D
  | .lst ds => .lst ds
  | .dT k => .dT k
  | .dK k => .dK k
inductive Slot where
  | no | sh (d : D) | ow (a : Addr) (m : Mo)
abbrev Sl := List Slot
def MoOk (K : PySem.W.Frag) (S H : Hp) (a : Addr) : Mo → Prop
  | .lst ds => ∃ vs, H a = some (.lst vs) ∧ RepA K S vs ds
  | .dT kvs => H a = some (.dT kvs)
  | .dK kvs => H a = some (.dK kvs)
def SlOk (K : PySem.W.Frag) (F S H : Hp) : Slot → Option (Option V) → Prop
  | .no, _ => True
  | .sh d, o => ∃ v, o = some (some v) ∧ Rep K S v d
  | .ow a m, o => o = some (some (.ref a)) ∧ F a = none ∧ S a = none ∧ MoOk K S H a m
structure Sat (K : PySem.W.Frag) (F S0 : Hp) (G : Sl) (S : Hp) (σ : L2.St) (H : Hp) : Prop where
  len : σ.length = G.length
  sh : Same S H
  fr : Same F H
  am : ∀ a o, F a = some o → (∀ xs, o ≠ .tup xs) → S a = S0 a
  val : ∀ (i : Nat) (s : Slot), G[i]? = some s → SlOk K F S H s σ[i]?
  sep : ∀ (i j : Nat) (a : Addr) (m m' : Mo), G[i]? = some (.ow a m) → G[j]? = some (.ow a m') → i = j
/-- a result: shared data, a new object, the object of a slot -/
inductive R where
  | sh (d : D) | ow (a : Addr) (m : Mo) | bo (i : Nat)
def ROk (K : PySem.W.Frag) (F S H : Hp) (G : Sl) (σ : L2.St) : R → V → Prop
  | .sh d, v => Rep K S v d
  | .ow a m, v => v = .ref a ∧ F a = none ∧ S a = none ∧ MoOk K S H a m ∧ ∀ (i : Nat) (m' : Mo), G[i]? ≠ some (Slot.ow a m')
  | .bo i, v => σ[i]? = some (some v)
@[reducible] def fz : R → R
  | .ow _ m => .sh m.toD
  | r => r
structure Ec where
  E : XK
  X : Value → Prop
def Z0 : Ec := ⟨E0, fun _ => False⟩

theorem MoOk.mono {K : PySem.W.Frag} {S S' H H' : Hp} {a : Addr} {m : Mo} (h : MoOk K S H a m) (hs : Same S S') (hh : ∀ o, H a = some o → H' a = some o) : MoOk K S' H' a m := by
  cases m with
  | lst ds =>
    obtain ⟨vs, e, r⟩ := h
    exact ⟨vs, hh _ e, r.mono hs⟩
  | dT k => exact hh _ h
  | dK k => exact hh _ h
theorem MoOk.some {K : PySem.W.Frag} {S H : Hp} {a : Addr} {m : Mo} (h : MoOk K S H a m) : ∃ o, H a = Option.some o ∧ ∀ xs, o ≠ .tup xs := by
  cases m with
  | lst ds =>
    obtain ⟨vs, e, r⟩ := h
    exact ⟨_, e, fun xs z => by cases z⟩
  | dT k => exact ⟨_, h, fun xs z => by cases z⟩
  | dK k => exact ⟨_, h, fun xs z => by cases z⟩
theorem MoOk.rep {K : PySem.W.Frag} {S H : Hp} {a : Addr} {m : Mo} (h : MoOk K S H a m) {S' : Hp} (hs : Same S S') (e : S' a = H a) : Rep K S' (.ref a) m.toD := by
  cases m with
  | lst ds =>
    obtain ⟨vs, e', r⟩ := h
    exact .lst (e.trans e') (r.mono hs)
  | dT k => exact .dT (.inl (e.trans h))
  | dK k => exact .dK (e.trans h)

section
variable {K : PySem.W.Frag} {F S0 S S' : Hp} {G : Sl} {σ : L2.St} {H H' : Hp}
/-- the heap grows (new objects; what is owned stays) -/
theorem Sat.grow (s : Sat K F S0 G S σ H) (m : Same H H') : Sat K F S0 G S σ H' :=
  ⟨s.len, s.sh.trans m, s.fr.trans m, s.am, fun i sl e => by
    have h := s.val i sl e
    cases sl with
    | no => trivial
    | sh d => exact h
    | ow a mo => exact ⟨h.1, h.2.1, h.2.2.1, h.2.2.2.mono (Same.refl _) fun o q => m _ _ q⟩, s.sep⟩
/-- more is shared -/
theorem Sat.more (s : Sat K F S0 G S σ H) (m : Same S S') (h1 : Same S' H) (h2 : ∀ a o, F a = some o → (∀ xs, o ≠ .tup xs) → S' a = S a) (h3 : ∀ (i : Nat) (a : Addr) (mo : Mo), G[i]? = some (.ow a mo) → S' a = none) : Sat K F S0 G S' σ H :=
  ⟨s.len, h1, s.fr, fun a o e n => (h2 a o e n).trans (s.am a o e n), fun i sl e => by
    have h := s.val i sl e
    cases sl with
    | no => trivial
    | sh d =>
      obtain ⟨v, e1, r⟩ := h
      exact ⟨v, e1, r.mono m⟩
    | ow a mo => exact ⟨h.1, h.2.1, h3 i a mo e, h.2.2.2.mono m fun o q => q⟩, s.sep⟩
theorem Sat.unfr {a : Addr} (s : Sat K F S0 G S σ H) (h : H a = none) : F a = none := by
  cases e : F a with
  | none => rfl
  | some o => rw [s.fr a o e] at h; cases h
theorem Sat.unsh {a : Addr} (s : Sat K F S0 G S σ H) (h : H a = none) : S a = none := by
  cases e : S a with
  | none => rfl
  | some o => rw [s.sh a o e] at h; cases h
theorem Sat.noow {a : Addr} (s : Sat K F S0 G S σ H) (h : H a = none) : ∀ (i : Nat) (m : Mo), G[i]? ≠ some (Slot.ow a m) := fun i m e => by
  obtain ⟨_, _, _, mo⟩ := s.val i _ e
  obtain ⟨o, e2, _⟩ := mo.some
  rw [h] at e2; cases e2
theorem same_new {p : Addr} {o : HO} (h : H p = none) : Same H (upd H p o) := fun b u e => by
  rw [upd_ne (ne_of_none e h)]; exact e
/-- a new shared object -/
theorem Sat.newsh {p : Addr} {o : HO} (s : Sat K F S0 G S σ H) (h : H p = none) : Same S (upd S p o) ∧ Sat K F S0 G (upd S p o) σ (upd H p o) := by
  have hs := s.unsh h
  have m : Same S (upd S p o) := same_new hs
  refine ⟨m, (s.grow (same_new h)).more m (fun b u e => ?_) (fun a u e _ => ?_) fun i a mo e => ?_⟩
  · by_cases hb : b = p
    · subst hb
      rw [upd_same] at e ⊢; exact e
    · rw [upd_ne hb] at e ⊢; exact s.sh b u e
  · have ha : a ≠ p := fun z => by subst z; rw [s.unfr h] at e; cases e
    rw [upd_ne ha]
  · have ha : a ≠ p := fun z => by subst z; exact s.noow h i mo e
    rw [upd_ne ha]
    exact (s.val i _ e).2.2.1
/-- a new object becomes shared -/
theorem Sat.freeze {a : Addr} {m : Mo} (s : Sat K F S0 G S σ H) (hF : F a = none) (hS : S a = none) (hm : MoOk K S H a m) (hn : ∀ (i : Nat) (m' : Mo), G[i]? ≠ some (Slot.ow a m')) :
    ∃ S', Same S S' ∧ Sat K F S0 G S' σ H ∧ Rep K S' (.ref a) m.toD := by
  obtain ⟨o, ho, _⟩ := hm.some
  have hm1 : Same S (upd S a o) := same_new hS
  refine ⟨upd S a o, hm1, s.more hm1 (fun b u e => ?_) (fun b u e _ => ?_) (fun i b mo e => ?_), hm.rep hm1 (by rw [upd_same, ho])⟩
  · by_cases hb : b = a
    · subst hb
      rw [upd_same] at e; rw [ho]; exact e
    · rw [upd_ne hb] at e; exact s.sh b u e
  · have hb : b ≠ a := fun z => by subst z; rw [hF] at e; cases e
    rw [upd_ne hb]
  · have hb : b ≠ a := fun z => by subst z; exact hn i mo e
    rw [upd_ne hb]
    exact (s.val i _ e).2.2.1
theorem Sat.fz {r : R} {v : V} (s : Sat K F S0 G S σ H) (h : ROk K F S H G σ r v) : ∃ S', Same S S' ∧ Sat K F S0 G S' σ H ∧ ROk K F S' H G σ (fz r) v := by
  cases r with
  | sh d => exact ⟨S, Same.refl _, s, h⟩
  | bo i => exact ⟨S, Same.refl _, s, h⟩
  | ow a m =>
    obtain ⟨rfl, h1, h2, h3, h4⟩ := h
    exact s.freeze h1 h2 h3 h4
theorem ROk.keep {G' : Sl} {r : R} {v : V} (h : ROk K F S H G σ (PL.fz r) v) (m : Same S S') : ROk K F S' H' G' σ (PL.fz r) v := by
  cases r with
  | sh d => exact Rep.mono m h
  | bo i => exact h
  | ow a mo => exact Rep.mono m h
/-- slot i takes shared data -/
theorem Sat.setSh {i : Nat} {v : V} {d : D} (s : Sat K F S0 G S σ H) (hi : i < G.length) (r : Rep K S v d) : Sat K F S0 (G.set i (.sh d)) S (σ.set i (some v)) H := by
  have hiσ : i < σ.length := by rw [s.len]; exact hi
  refine ⟨by simp [s.len], s.sh, s.fr, s.am, fun j sl e => ?_, fun j k a m m' e1 e2 => ?_⟩
  · by_cases hj : j = i
    · subst hj
      rw [List.getElem?_set_self hi] at e; cases e
      rw [List.getElem?_set_self hiσ]
      exact ⟨v, rfl, r⟩
    · rw [List.getElem?_set_ne (Ne.symm hj)] at e
      rw [List.getElem?_set_ne (Ne.symm hj)]
      exact s.val j sl e
  · have f : ∀ {j : Nat} {m : Mo}, (G.set i (Slot.sh d))[j]? = some (Slot.ow a m) → G[j]? = some (Slot.ow a m) := fun {j m} e => by
      by_cases hj : j = i
      · subst hj
        rw [List.getElem?_set_self hi] at e; cases e
      · rw [List.getElem?_set_ne (Ne.symm hj)] at e; exact e
    exact s.sep j k a m m' (f e1) (f e2)
/-- slot i takes a new object -/
theorem Sat.setOw {i : Nat} {a : Addr} {m : Mo} (s : Sat K F S0 G S σ H) (hi : i < G.length) (hF : F a = none) (hS : S a = none) (hm : MoOk K S H a m) (hn : ∀ (i : Nat) (m' : Mo), G[i]? ≠ some (Slot.ow a m')) : Sat K F S0 (G.set i (.ow a m)) S (σ.set i (some (.ref a))) H := by
  have hiσ : i < σ.length := by rw [s.len]; exact hi
  refine ⟨by simp [s.len], s.sh, s.fr, s.am, fun j sl e => ?_, fun j k b m1 m2 e1 e2 => ?_⟩
  · by_cases hj : j = i
    · subst hj
      rw [List.getElem?_set_self hi] at e; cases e
      rw [List.getElem?_set_self hiσ]
      exact ⟨rfl, hF, hS, hm⟩
    · rw [List.getElem?_set_ne (Ne.symm hj)] at e
      rw [List.getElem?_set_ne (Ne.symm hj)]
      exact s.val j sl e
  · have f : ∀ {j : Nat} {m1 : Mo}, (G.set i (Slot.ow a m))[j]? = some (Slot.ow b m1) → (j = i ∧ b = a) ∨ (j ≠ i ∧ G[j]? = some (Slot.ow b m1)) := fun {j m1} e => by
      by_cases hj : j = i
      · subst hj
        rw [List.getElem?_set_self hi] at e; cases e
        exact .inl ⟨rfl, rfl⟩
      · rw [List.getElem?_set_ne (Ne.symm hj)] at e; exact .inr ⟨hj, e⟩
    rcases f e1 with ⟨h1, h2⟩ | ⟨h1, h2⟩ <;> rcases f e2 with ⟨h3, h4⟩ | ⟨h3, h4⟩
    · rw [h1, h3]
    · subst h2; exact absurd h4 (hn _ _)
    · subst h4; exact absurd h2 (hn _ _)
    · exact s.sep j k b m1 m2 h2 h4
/-- slot i is forgotten -/
theorem Sat.forget {i : Nat} (s : Sat K F S0 G S σ H) : Sat K F S0 (G.set i .no) S σ H := by
  have f : ∀ {j : Nat} {sl : Slot}, (G.set i .no)[j]? = some sl → sl = .no ∨ G[j]? = some sl := fun {j sl} e => by
    by_cases hj : j = i
    · subst hj
      by_cases hi : j < G.length
      · rw [List.getElem?_set_self hi] at e; cases e; exact .inl rfl
      · rw [List.getElem?_eq_none (by simp; omega)] at e; cases e
    · rw [List.getElem?_set_ne (Ne.symm hj)] at e; exact .inr e
  refine ⟨by simp [s.len], s.sh, s.fr, s.am, fun j sl e => ?_, fun j k a m m' e1 e2 => ?_⟩
  · rcases f e with rfl | h
    · trivial
    · exact s.val j sl h
  · rcases f e1 with h | h1
    · cases h
    · rcases f e2 with h | h2
      · cases h
      · exact s.sep j k a m m' h1 h2
/-- slot i's object has another content -/
theorem Sat.mut {i : Nat} {a : Addr} {m m' : Mo} {o : HO} (s : Sat K F S0 G S σ H) (hi : G[i]? = some (.ow a m)) (hm : MoOk K S (upd H a o) a m') : Sat K F S0 (G.set i (.ow a m')) S σ (upd H a o) := by
  have hil : i < G.length := (List.getElem?_eq_some_iff.mp hi).1
  obtain ⟨h1, h2, h3, h4⟩ := s.val i _ hi
  have f : ∀ {j : Nat} {sl : Slot}, (G.set i (.ow a m'))[j]? = some sl → (j = i ∧ sl = .ow a m') ∨ (j ≠ i ∧ G[j]? = some sl) := fun {j sl} e => by
    by_cases hj : j = i
    · subst hj
      rw [List.getElem?_set_self hil] at e; cases e
      exact .inl ⟨rfl, rfl⟩
    · rw [List.getElem?_set_ne (Ne.symm hj)] at e; exact .inr ⟨hj, e⟩
  refine ⟨by simp [s.len], fun b u e => ?_, fun b u e => ?_, s.am, fun j sl e => ?_, fun j k b m1 m2 e1 e2 => ?_⟩
  · have hb : b ≠ a := fun z => by subst z; rw [h3] at e; cases e
    rw [upd_ne hb]; exact s.sh b u e
  · have hb : b ≠ a := fun z => by subst z; rw [h2] at e; cases e
    rw [upd_ne hb]; exact s.fr b u e
  · rcases f e with ⟨rfl, rfl⟩ | ⟨hj, e'⟩
    · exact ⟨h1, h2, h3, hm⟩
    · have h := s.val j sl e'
      cases sl with
      | no => trivial
      | sh d => exact h
      | ow b mo =>
        have hb : b ≠ a := fun z => by subst z; exact hj (s.sep _ _ _ _ _ e' hi)
        exact ⟨h.1, h.2.1, h.2.2.1, h.2.2.2.mono (Same.refl _) fun u q => by rw [upd_ne hb]; exact q⟩
  · rcases f e1 with ⟨h5, h6⟩ | ⟨h5, h6⟩ <;> rcases f e2 with ⟨h7, h8⟩ | ⟨h7, h8⟩
    · rw [h5, h7]
    · cases h6; exact (s.sep _ _ _ _ _ h8 hi) ▸ h5
    · cases h8; exact (s.sep _ _ _ _ _ h6 hi).trans h7.symm
    · exact s.sep j k b m1 m2 h6 h8
end
end PL

/-! PM: the judgements wE, wT, wA, wR, wC, wG, wS over the pure state. -/
namespace PL
open PySem L2

/-- a question for the prover -/
def Ask (p : Prop) : Prop := p
def hZ (Z : Ec) (F : Hp) : Prop := ∀ c H', Z.X c → Same F H' → Z.E c none H'
theorem hZ0 {F : Hp} : hZ Z0 F := fun _ _ h => h.elim

def FOk (K : PySem.W.Frag) (S : Hp) (σ : L2.St) : R → V → Prop
  | .sh d, v => Rep K S v d
  | .bo i, v => σ[i]? = some (some v)
  | .ow _ _, _ => False
inductive FsOk (K : PySem.W.Frag) (S : Hp) (σ : L2.St) : List R → List V → Prop where
  | nil : FsOk K S σ [] []
  | cons {r : R} {v : V} {rs : List R} {vs : List V} : FOk K S σ r v → FsOk K S σ rs vs → FsOk K S σ (r :: rs) (v :: vs)
theorem FOk.mono {K : PySem.W.Frag} {S S' : Hp} {σ : L2.St} {r : R} {v : V} (m : Same S S') (h : FOk K S σ r v) : FOk K S' σ r v := by
  cases r with
  | sh d => exact Rep.mono m h
  | bo i => exact h
  | ow a mo => exact h
theorem FsOk.mono {K : PySem.W.Frag} {S S' : Hp} {σ : L2.St} {rs : List R} {vs : List V} (m : Same S S') (h : FsOk K S σ rs vs) : FsOk K S' σ rs vs := by
  induction h with
  | nil => exact .nil
  | cons h _ ih => exact .cons (h.mono m) ih
theorem FOk.of {K : PySem.W.Frag} {F S H : Hp} {G : Sl} {σ : L2.St} {r : R} {v : V} (h : ROk K F S H G σ (fz r) v) : FOk K S σ (fz r) v := by
  cases r with
  | sh d => exact h
  | bo i => exact h
  | ow a mo => exact h

section
variable (K : PySem.W.Frag) (Z : Ec)
def kE (F S0 S : Hp) (σ : L2.St) (Q : R → Sl → Prop) (Qr : VK) : Prop :=
  ∀ r G' v S' H', Q r G' → Same S S' → Sat K F S0 G' S' σ H' → ROk K F S' H' G' σ r v → Qr v H'
def wE (te : TE) (G : Sl) (Q : R → Sl → Prop) : Prop :=
  ∀ F S0 S σ H (Qr : VK), Sat K F S0 G S σ H → hZ Z F → kE K F S0 S σ Q Qr → te σ H Qr
def kT (F S0 S : Hp) (σ : L2.St) (Q : Bool → Sl → Prop) (Qr : Bool → Hp → Prop) : Prop :=
  ∀ b G' S' H', Q b G' → Same S S' → Sat K F S0 G' S' σ H' → Qr b H'
def wT (tt : TT) (G : Sl) (Q : Bool → Sl → Prop) : Prop :=
  ∀ F S0 S σ H (Qr : Bool → Hp → Prop), Sat K F S0 G S σ H → hZ Z F → kT K F S0 S σ Q Qr → tt σ H Qr
def kA (F S0 S : Hp) (σ : L2.St) (Q : List R → Sl → Prop) (Qr : List V → Hp → Prop) : Prop :=
  ∀ rs G' vs S' H', Q rs G' → Same S S' → Sat K F S0 G' S' σ H' → FsOk K S' σ rs vs → Qr vs H'
def wA (ta : TA) (G : Sl) (Q : List R → Sl → Prop) : Prop :=
  ∀ F S0 S σ H (Qr : List V → Hp → Prop), Sat K F S0 G S σ H → hZ Z F → kA K F S0 S σ Q Qr → ta σ H Qr
/-- by values: two-place, one-place, a call, a method -/
def wR (r : R2) (x y : R) (G : Sl) (Q : R → Sl → Prop) : Prop :=
  ∀ F S0 S σ H (Qr : VK) v u, Sat K F S0 G S σ H → hZ Z F → FOk K S σ x v → FOk K S σ y u → kE K F S0 S σ Q Qr → r v u H Qr
def wU (r : V → Hp → VK → Prop) (x : R) (G : Sl) (Q : R → Sl → Prop) : Prop :=
  ∀ F S0 S σ H (Qr : VK) v, Sat K F S0 G S σ H → hZ Z F → FOk K S σ x v → kE K F S0 S σ Q Qr → r v H Qr
def wC (r : List V → Hp → VK → Prop) (rs : List R) (G : Sl) (Q : R → Sl → Prop) : Prop :=
  ∀ F S0 S σ H (Qr : VK) vs, Sat K F S0 G S σ H → hZ Z F → FsOk K S σ rs vs → kE K F S0 S σ Q Qr → r vs H Qr
def wM (r : V → List V → Hp → VK → Prop) (x : R) (rs : List R) (G : Sl) (Q : R → Sl → Prop) : Prop :=
  ∀ F S0 S σ H (Qr : VK) v vs, Sat K F S0 G S σ H → hZ Z F → FOk K S σ x v → FsOk K S σ rs vs → kE K F S0 S σ Q Qr → r v vs H Qr
def wG (g : TG) (d : D) (G : Sl) (Q : Sl → Prop) : Prop :=
  ∀ F S0 S σ H v (Qr : L2.St → Hp → Prop), Sat K F S0 G S σ H → Rep K S v d → (∀ G' S' σ' H', Q G' → Same S S' → Sat K F S0 G' S' σ' H' → Qr σ' H') → g v σ H Qr
def wGs (g : TGs) (ds : List D) (G : Sl) (Q : Sl → Prop) : Prop :=
  ∀ F S0 S σ H vs (Qr : L2.St → Hp → Prop), Sat K F S0 G S σ H → RepA K S vs ds → (∀ G' S' σ' H', Q G' → Same S S' → Sat K F S0 G' S' σ' H' → Qr σ' H') → g vs σ H Qr
structure Po where
  nx : Sl → Prop
  rt : R → Sl → Prop
  bk : Sl → Prop := fun _ => False
  ct : Sl → Prop := fun _ => False
structure POk (F S0 S : Hp) (P : Po) (D : Ends) : Prop where
  nx : ∀ G' S' σ' H', P.nx G' → Same S S' → Sat K F S0 G' S' σ' H' → D.nx σ' H'
  rt : ∀ r G' v S' σ' H', P.rt r G' → Same S S' → Sat K F S0 G' S' σ' H' → ROk K F S' H' G' σ' r v → D.rt v H'
  bk : ∀ G' S' σ' H', P.bk G' → Same S S' → Sat K F S0 G' S' σ' H' → D.bk σ' H'
  ct : ∀ G' S' σ' H', P.ct G' → Same S S' → Sat K F S0 G' S' σ' H' → D.ct σ' H'
def wS (ts : TS) (G : Sl) (P : Po) : Prop :=
  ∀ F S0 S σ H (D : Ends), Sat K F S0 G S σ H → hZ Z F → POk K F S0 S P D → ts D σ H
end

section
variable {K : PySem.W.Frag} {Z : Ec} {F S0 S S' : Hp} {G : Sl} {σ : L2.St} {H H' : Hp} {Q : R → Sl → Prop}
theorem kE.from {Qr : VK} (k : kE K F S0 S σ Q Qr) (m : Same S S') : kE K F S0 S' σ Q Qr := fun r G' v S2 H2 q m2 s2 o => k r G' v S2 H2 q (m.trans m2) s2 o
theorem kE.val {Qr : VK} (k : kE K F S0 S σ Q Qr) {v : V} {d : D} (s : Sat K F S0 G S σ H) (q : Q (.sh d) G) (r : Rep K S v d) : Qr v H := k _ _ _ _ _ q (Same.refl _) s r
theorem POk.from {P : Po} {D : Ends} (k : POk K F S0 S P D) (m : Same S S') : POk K F S0 S' P D :=
  ⟨fun G' S2 σ' H' q m2 s => k.nx G' S2 σ' H' q (m.trans m2) s, fun r G' v S2 σ' H' q m2 s o => k.rt r G' v S2 σ' H' q (m.trans m2) s o, fun G' S2 σ' H' q m2 s => k.bk G' S2 σ' H' q (m.trans m2) s, fun G' S2 σ' H' q m2 s => k.ct G' S2 σ' H' q (m.trans m2) s⟩
theorem wE.mono {te : TE} {Q Q' : R → Sl → Prop} (h : wE K Z te G Q) (q : ∀ r G', Q r G' → Q' r G') : wE K Z te G Q' :=
  fun F S0 S σ H Qr s z k => h F S0 S σ H Qr s z fun r G' v S' H' x => k r G' v S' H' (q r G' x)
theorem wS.mono {ts : TS} {P P' : Po} (h : wS K Z ts G P) (nx : ∀ G', P.nx G' → P'.nx G') (rt : ∀ r G', P.rt r G' → P'.rt r G') (bk : ∀ G', P.bk G' → P'.bk G') (ct : ∀ G', P.ct G' → P'.ct G') : wS K Z ts G P' :=
  fun F S0 S σ H D s z k => h F S0 S σ H D s z ⟨fun G' S' σ' H' q => k.nx G' S' σ' H' (nx G' q), fun r G' v S' σ' H' q => k.rt r G' v S' σ' H' (rt r G' q), fun G' S' σ' H' q => k.bk G' S' σ' H' (bk G' q), fun G' S' σ' H' q => k.ct G' S' σ' H' (ct G' q)⟩

/-! ### names, constants -/
theorem wE_var {i : Nat} {d : D} (h : G[i]? = some (.sh d)) (q : Q (.sh d) G) : wE K Z (tVar i) G Q := fun F S0 S σ H Qr s z k => by
  obtain ⟨v, e, r⟩ := s.val i _ h
  exact ⟨v, e, k.val s q r⟩
theorem wE_varB {i : Nat} {a : Addr} {m : Mo} (h : G[i]? = some (.ow a m)) (q : Q (.bo i) G) : wE K Z (tVar i) G Q := fun F S0 S σ H Qr s z k => by
  obtain ⟨e, _⟩ := s.val i _ h
  exact ⟨_, e, k _ _ _ _ _ q (Same.refl _) s e⟩
/-- an owned object becomes shared where it is read -/
theorem Sat.fzSlot {i : Nat} {a : Addr} {m : Mo} (s : Sat K F S0 G S σ H) (h : G[i]? = some (.ow a m)) : ∃ S', Same S S' ∧ Sat K F S0 (G.set i (.sh m.toD)) S' σ H ∧ Rep K S' (.ref a) m.toD := by
  have hi : i < G.length := (List.getElem?_eq_some_iff.mp h).1
  obtain ⟨e, h1, h2, h3⟩ := s.val i _ h
  have hn : ∀ (j : Nat) (m' : Mo), (G.set i .no)[j]? ≠ some (Slot.ow a m') := fun j m' e' => by
    by_cases hj : j = i
    · subst hj
      rw [List.getElem?_set_self hi] at e'; cases e'
    · rw [List.getElem?_set_ne (Ne.symm hj)] at e'
      exact hj (s.sep _ _ _ _ _ e' h)
  obtain ⟨S', m1, s1, r1⟩ := (s.forget (i := i)).freeze h1 h2 h3 hn
  have s2 := s1.setSh (i := i) (by simpa using hi) r1
  rw [List.set_set] at s2
  have e3 : σ.set i (some (V.ref a)) = σ := by
    apply List.ext_getElem?
    intro j
    by_cases hj : j = i
    · subst hj
      have hiσ : j < σ.length := (List.getElem?_eq_some_iff.mp e).1
      rw [List.getElem?_set_self hiσ, e]
    · rw [List.getElem?_set_ne (Ne.symm hj)]
  rw [e3] at s2
  exact ⟨S', m1, s2, r1⟩
theorem wE_varF {i : Nat} {a : Addr} {m : Mo} (h : G[i]? = some (.ow a m)) (q : Q (.sh m.toD) (G.set i (.sh m.toD))) : wE K Z (tVar i) G Q := fun F S0 S σ H Qr s z k => by
  obtain ⟨e, _⟩ := s.val i _ h
  obtain ⟨S', m1, s1, r1⟩ := s.fzSlot h
  exact ⟨_, e, k _ _ _ _ _ q m1 s1 r1⟩
def vD : V → Option D
  | .non => some .non
  | .bl b => some (.bl b)
  | .int i => some (.int i)
  | .str s => some (.str s)
  | .ty n => some (.ty n)
  | .ref a => some (.ref a)
  | _ => none
theorem vD_rep {v : V} {d : D} (h : vD v = some d) : Rep K S v d := by
  cases v <;> simp [vD] at h <;> subst h
  · exact .non
  · exact .bl _
  · exact .int _
  · exact .str _
  · exact .ref _
  · exact .ty _
def dV : D → Option V
  | .non => some .non
  | .bl b => some (.bl b)
  | .int i => some (.int i)
  | .str s => some (.str s)
  | _ => none
theorem dV_rep {v u : V} {d : D} (h : dV d = some u) (r : Rep K S v d) : v = u := by
  cases r <;> simp [dV] at h <;> exact h
theorem wE_c {v : V} {d : D} (h : vD v = some d) (q : Q (.sh d) G) : wE K Z (tC v) G Q := fun F S0 S σ H Qr s z k => k.val s q (vD_rep h)
/-! ### operators -/
/-- evaluate, then freeze -/
theorem wE.fz {te : TE} (h : wE K Z te G fun r G1 => Q (PL.fz r) G1) : wE K Z te G Q := fun F S0 S σ H Qr s z k => h F S0 S σ H Qr s z fun r G' v S' H' q m s' o => by
  obtain ⟨S2, m2, s2, o2⟩ := s'.fz o
  exact k _ _ _ _ _ q (m.trans m2) s2 o2
theorem evF {te : TE} {Q : R → Sl → Prop} (h : wE K Z te G Q) (s : Sat K F S0 G S σ H) (z : hZ Z F) {Qr : VK}
    (k : ∀ r G' v S' H', Q r G' → Same S S' → Sat K F S0 G' S' σ H' → FOk K S' σ (fz r) v → Qr v H') : te σ H Qr := h F S0 S σ H Qr s z fun r G' v S' H' q m s' o => by
  obtain ⟨S2, m2, s2, o2⟩ := s'.fz o
  exact k r G' v S2 H' q (m.trans m2) s2 (FOk.of o2)
theorem wE_op {r : R2} {ta tb : TE} (h : wE K Z ta G fun x G1 => wE K Z tb G1 fun y G2 => wR K Z r (fz x) (fz y) G2 Q) : wE K Z (tOp r ta tb) G Q := fun F S0 S σ H Qr s z k =>
  evF h s z fun x G1 v S1 H1 h1 m1 s1 o1 => evF h1 s1 z fun y G2 u S2 H2 h2 m2 s2 o2 => h2 F S0 S2 σ H2 Qr v u s2 z (o1.mono m2) o2 (k.from (m1.trans m2))
theorem wE_un {r : V → Hp → VK → Prop} {ta : TE} (h : wE K Z ta G fun x G1 => wU K Z r (fz x) G1 Q) : wE K Z (tUn r ta) G Q := fun F S0 S σ H Qr s z k =>
  evF h s z fun x G1 v S1 H1 h1 m1 s1 o1 => h1 F S0 S1 σ H1 Qr v s1 z o1 (k.from m1)
theorem wA_nil {Q : List R → Sl → Prop} (q : Q [] G) : wA K Z tNil G Q := fun F S0 S σ H Qr s z k => k [] G [] S H q (Same.refl _) s .nil
theorem wA_cons {ta : TE} {tr : TA} {Q : List R → Sl → Prop} (h : wE K Z ta G fun x G1 => wA K Z tr G1 fun rs G2 => Q (fz x :: rs) G2) : wA K Z (tCons ta tr) G Q := fun F S0 S σ H Qr s z k =>
  evF h s z fun x G1 v S1 H1 h1 m1 s1 o1 => h1 F S0 S1 σ H1 _ s1 z fun rs G2 vs S2 H2 q m2 s2 o2 => k _ _ _ _ _ q (m1.trans m2) s2 (.cons (o1.mono m2) o2)
theorem wE_cb {r : List V → Hp → VK → Prop} {ta : TA} (h : wA K Z ta G fun rs G1 => wC K Z r rs G1 Q) : wE K Z (tCB r ta) G Q := fun F S0 S σ H Qr s z k =>
  h F S0 S σ H _ s z fun rs G' vs S' H' q m s' o => q F S0 S' σ H' Qr vs s' z o (k.from m)
/-- shared data in a row -/
def shs : List R → Option (List D)
  | [] => some []
  | .sh d :: rs => match shs rs with
    | some ds => some (d :: ds)
    | none => none
  | _ :: _ => none
theorem shs_rep : ∀ {rs : List R} {vs : List V} {ds : List D}, shs rs = some ds → FsOk K S σ rs vs → RepA K S vs ds
  | [], _, _, h, .nil => by
    cases h; exact .nil
  | .sh d :: rs, _, _, h, .cons o q => by
    simp only [shs] at h
    split at h
    · rename_i es h1
      cases h
      exact .cons o (shs_rep h1 q)
    · cases h
  | .bo _ :: _, _, _, h, _ => by cases h
  | .ow _ _ :: _, _, _, h, _ => by cases h
theorem wE_tup {ta : TA} (h : wA K Z ta G fun rs G1 => ∃ ds, shs rs = some ds ∧ Nat.ble rs.length 1000 = true ∧ Q (.sh (.tup ds)) G1) : wE K Z (tTup ta) G Q := fun F S0 S σ H Qr s z k =>
  h F S0 S σ H _ s z fun rs G' vs S' H' q m s' o => by
    obtain ⟨ds, e, hl, q⟩ := q
    have rp := shs_rep e o
    have hlen : vs.length = rs.length := by
      clear rp e q hl
      induction o with
      | nil => rfl
      | cons _ _ ih => simp [ih]
    refine ⟨by rw [hlen]; exact Nat.le_trans (Nat.le_of_ble_eq_true hl) (by decide), fun p hp => ?_⟩
    obtain ⟨m2, s2⟩ := s'.newsh (o := .tup vs) hp
    exact k _ _ _ _ _ q (m.trans m2) s2 (Rep.tup upd_same (rp.mono m2))
/-- a new owned object -/
theorem Sat.newow {p : Addr} {o : HO} (s : Sat K F S0 G S σ H) (h : H p = none) : Sat K F S0 G S σ (upd H p o) ∧ F p = none ∧ S p = none ∧ ∀ (i : Nat) (m' : Mo), G[i]? ≠ some (Slot.ow p m') :=
  ⟨s.grow (same_new h), s.unfr h, s.unsh h, s.noow h⟩
theorem wE_lst {ta : TA} (h : wA K Z ta G fun rs G1 => ∃ ds, shs rs = some ds ∧ Nat.ble rs.length 1000 = true ∧ ∀ a, Q (.ow a (.lst ds)) G1) : wE K Z (tLst ta) G Q := fun F S0 S σ H Qr s z k =>
  h F S0 S σ H _ s z fun rs G' vs S' H' q m s' o => by
    obtain ⟨ds, e, hl, q⟩ := q
    have rp := shs_rep e o
    have hlen : vs.length = rs.length := by
      clear rp e q hl
      induction o with
      | nil => rfl
      | cons _ _ ih => simp [ih]
    refine ⟨by rw [hlen]; exact Nat.le_trans (Nat.le_of_ble_eq_true hl) (by decide), fun p hp => ?_⟩
    obtain ⟨s2, h1, h2, h3⟩ := s'.newow (o := .lst vs) hp
    exact k _ _ _ _ _ (q p) m s2 ⟨rfl, h1, h2, ⟨vs, upd_same, rp⟩, h3⟩
/-- a list literal, shared at once -/
theorem wE_lstS {ta : TA} (h : wA K Z ta G fun rs G1 => ∃ ds, shs rs = some ds ∧ Nat.ble rs.length 1000 = true ∧ Q (.sh (.lst ds)) G1) : wE K Z (tLst ta) G Q :=
  wE.fz (wE_lst (fun F S0 S σ H Qr s z k => h F S0 S σ H Qr s z fun rs G' vs S' H' q m s' o => k rs G' vs S' H' (by
    obtain ⟨ds, e, hl, q⟩ := q
    exact ⟨ds, e, hl, fun a => q⟩) m s' o))

/-! ### ints -/
theorem wR_I0 {g : Int → Int → V} {i j : Int} {d : D} (hd : vD (g i j) = some d) (q : Q (.sh d) G) : wR K Z (rI0 g) (.sh (.int i)) (.sh (.int j)) G Q := fun F S0 S σ H Qr v u s z o1 o2 k => by
  cases o1; cases o2
  exact ⟨i, j, rfl, rfl, k.val s q (vD_rep hd)⟩
theorem wR_I {C : Int → Int → Prop} {g : Int → Int → V} {i j : Int} {d : D} (hc : C i j) (hd : vD (g i j) = some d) (q : Q (.sh d) G) : wR K Z (rI C g) (.sh (.int i)) (.sh (.int j)) G Q := fun F S0 S σ H Qr v u s z o1 o2 k => by
  cases o1; cases o2
  exact ⟨i, j, rfl, rfl, hc, k.val s q (vD_rep hd)⟩
theorem wU_I {g : Int → V} {i : Int} {d : D} (hd : vD (g i) = some d) (q : Q (.sh d) G) : wU K Z (rU g) (.sh (.int i)) G Q := fun F S0 S σ H Qr v s z o1 k => by
  cases o1
  exact ⟨i, rfl, k.val s q (vD_rep hd)⟩
/-! ### == of scalars -/
theorem wR_eq {x y : D} {v u : V} (hx : dV x = some v) (hy : dV y = some u) (hs : scal v u = true) (q : Q (.sh (.bl (decide (v = u)))) G) : wR K Z rEq (.sh x) (.sh y) G Q := fun F S0 S σ H Qr v' u' s z o1 o2 k => by
  have e1 := dV_rep hx o1; have e2 := dV_rep hy o2
  subst e1; subst e2
  exact ⟨hs, k.val s q (.bl _)⟩
theorem wR_ne {x y : D} {v u : V} (hx : dV x = some v) (hy : dV y = some u) (hs : scal v u = true) (q : Q (.sh (.bl (!decide (v = u)))) G) : wR K Z rNe (.sh x) (.sh y) G Q := fun F S0 S σ H Qr v' u' s z o1 o2 k => by
  have e1 := dV_rep hx o1; have e2 := dV_rep hy o2
  subst e1; subst e2
  exact ⟨hs, k.val s q (.bl _)⟩
theorem dInt {i j : Int} : decide (V.int i = V.int j) = decide (i = j) := by simp
theorem dStr {i j : Str} : decide (V.str i = V.str j) = decide (i = j) := by simp
theorem dBl {i j : Bool} : decide (V.bl i = V.bl j) = decide (i = j) := by simp
theorem wR_eqI {i j : Int} (q : Q (.sh (.bl (decide (i = j)))) G) : wR K Z rEq (.sh (.int i)) (.sh (.int j)) G Q := wR_eq rfl rfl rfl (by rw [dInt]; exact q)
theorem wR_neI {i j : Int} (q : Q (.sh (.bl (!decide (i = j)))) G) : wR K Z rNe (.sh (.int i)) (.sh (.int j)) G Q := wR_ne rfl rfl rfl (by rw [dInt]; exact q)
theorem wR_eqS {i j : Str} (q : Q (.sh (.bl (decide (i = j)))) G) : wR K Z rEq (.sh (.str i)) (.sh (.str j)) G Q := wR_eq rfl rfl rfl (by rw [dStr]; exact q)
theorem wR_neS {i j : Str} (q : Q (.sh (.bl (!decide (i = j)))) G) : wR K Z rNe (.sh (.str i)) (.sh (.str j)) G Q := wR_ne rfl rfl rfl (by rw [dStr]; exact q)
theorem wR_eqB {i j : Bool} (q : Q (.sh (.bl (decide (i = j)))) G) : wR K Z rEq (.sh (.bl i)) (.sh (.bl j)) G Q := wR_eq rfl rfl rfl (by rw [dBl]; exact q)
theorem wR_neB {i j : Bool} (q : Q (.sh (.bl (!decide (i = j)))) G) : wR K Z rNe (.sh (.bl i)) (.sh (.bl j)) G Q := wR_ne rfl rfl rfl (by rw [dBl]; exact q)
/-! ### is None -/
def isN : D → Bool
  | .non => true
  | _ => false
theorem isN_rep {v : V} {d : D} (r : Rep K S v d) : decide (v = .non) = isN d := by
  cases r <;> simp [isN]
theorem wR_isN {x : D} (q : Q (.sh (.bl (isN x))) G) : wR K Z rIsN (.sh x) (.sh .non) G Q := fun F S0 S σ H Qr v u s z o1 o2 k => by
  cases o2
  exact ⟨rfl, k.val s q (by rw [isN_rep o1]; exact .bl _)⟩
theorem wR_notN {x : D} (q : Q (.sh (.bl (!isN x))) G) : wR K Z rNotN (.sh x) (.sh .non) G Q := fun F S0 S σ H Qr v u s z o1 o2 k => by
  cases o2
  exact ⟨rfl, k.val s q (by rw [isN_rep o1]; exact .bl _)⟩
/-! ### and, or, not, if -/
theorem wT_test {te : TE} {Q : Bool → Sl → Prop} (h : wE K Z te G fun r G1 => ∃ b, r = .sh (.bl b) ∧ Q b G1) : wT K Z (tTest te) G Q := fun F S0 S σ H Qr s z k =>
  h F S0 S σ H _ s z fun r G' v S' H' q m s' o => by
    obtain ⟨b, rfl, q⟩ := q
    cases o
    exact ⟨b, rfl, k b G' S' H' q m s'⟩
theorem wT_B {te : TE} {Q : Bool → Sl → Prop} (h : wE K Z te G fun r G1 => ∃ b, r = .sh (.bl b) ∧ Q b G1) : wT K Z (tB te) G Q := fun F S0 S σ H Qr s z k =>
  h F S0 S σ H _ s z fun r G' v S' H' q m s' o => by
    obtain ⟨b, rfl, q⟩ := q
    cases o
    exact ⟨b, rfl, k b G' S' H' q m s'⟩
theorem wT_and {t u : TT} {Q : Bool → Sl → Prop} (h : wT K Z t G fun b G1 => (b = true → wT K Z u G1 Q) ∧ (b = false → Q false G1)) : wT K Z (tAnd t u) G Q := fun F S0 S σ H Qr s z k =>
  h F S0 S σ H _ s z fun b G' S' H' q m s' => by
    cases b with
    | true => exact q.1 rfl F S0 S' σ H' Qr s' z fun b2 G2 S2 H2 q2 m2 s2 => k b2 G2 S2 H2 q2 (m.trans m2) s2
    | false => exact k false G' S' H' (q.2 rfl) m s'
theorem wT_or {t u : TT} {Q : Bool → Sl → Prop} (h : wT K Z t G fun b G1 => (b = true → Q true G1) ∧ (b = false → wT K Z u G1 Q)) : wT K Z (tOr t u) G Q := fun F S0 S σ H Qr s z k =>
  h F S0 S σ H _ s z fun b G' S' H' q m s' => by
    cases b with
    | true => exact k true G' S' H' (q.1 rfl) m s'
    | false => exact q.2 rfl F S0 S' σ H' Qr s' z fun b2 G2 S2 H2 q2 m2 s2 => k b2 G2 S2 H2 q2 (m.trans m2) s2
theorem wT_not {t : TT} {Q : Bool → Sl → Prop} (h : wT K Z t G fun b G1 => Q (!b) G1) : wT K Z (tNot t) G Q := fun F S0 S σ H Qr s z k =>
  h F S0 S σ H _ s z fun b G' S' H' q m s' => k _ G' S' H' q m s'
theorem wE_and {ta tb : TE} (h : wE K Z ta G fun r G1 => ∃ b, r = .sh (.bl b) ∧ (b = true → wE K Z tb G1 Q) ∧ (b = false → Q (.sh (.bl false)) G1)) : wE K Z (tAndV ta tb) G Q := fun F S0 S σ H Qr s z k =>
  h F S0 S σ H _ s z fun r G' v S' H' q m s' o => by
    obtain ⟨b, rfl, q1, q2⟩ := q
    cases o
    refine ⟨b, rfl, ?_⟩
    cases b with
    | true => exact q1 rfl F S0 S' σ H' Qr s' z (k.from m)
    | false => exact (k.from m).val s' (q2 rfl) (.bl _)
theorem wE_or {ta tb : TE} (h : wE K Z ta G fun r G1 => ∃ b, r = .sh (.bl b) ∧ (b = true → Q (.sh (.bl true)) G1) ∧ (b = false → wE K Z tb G1 Q)) : wE K Z (tOrV ta tb) G Q := fun F S0 S σ H Qr s z k =>
  h F S0 S σ H _ s z fun r G' v S' H' q m s' o => by
    obtain ⟨b, rfl, q1, q2⟩ := q
    cases o
    refine ⟨b, rfl, ?_⟩
    cases b with
    | true => exact (k.from m).val s' (q1 rfl) (.bl _)
    | false => exact q2 rfl F S0 S' σ H' Qr s' z (k.from m)
theorem wE_not {ta : TE} (h : wE K Z ta G fun r G1 => ∃ b, r = .sh (.bl b) ∧ Q (.sh (.bl (!b))) G1) : wE K Z (tNotV ta) G Q := fun F S0 S σ H Qr s z k =>
  h F S0 S σ H _ s z fun r G' v S' H' q m s' o => by
    obtain ⟨b, rfl, q⟩ := q
    cases o
    exact ⟨b, rfl, (k.from m).val s' q (.bl _)⟩
theorem wE_if {t : TT} {ta tb : TE} (h : wT K Z t G fun b G1 => (b = true → wE K Z ta G1 Q) ∧ (b = false → wE K Z tb G1 Q)) : wE K Z (tIf t ta tb) G Q := fun F S0 S σ H Qr s z k =>
  h F S0 S σ H _ s z fun b G' S' H' q m s' => by
    cases b with
    | true => exact q.1 rfl F S0 S' σ H' Qr s' z (k.from m)
    | false => exact q.2 rfl F S0 S' σ H' Qr s' z (k.from m)
/-! ### views -/
def lv (G : Sl) : R → Option (List D)
  | .sh (.lst ds) => some ds
  | .bo i => match G[i]? with
    | some (.ow _ (.lst ds)) => some ds
    | _ => none
  | _ => none
theorem lv_ok {r : R} {v : V} {ds : List D} (h : lv G r = some ds) (s : Sat K F S0 G S σ H) (o : FOk K S σ r v) : ∃ a xs, v = .ref a ∧ H a = some (.lst xs) ∧ RepA K S xs ds := by
  cases r with
  | sh d =>
    cases o <;> try cases h
    rename_i a xs h1 h2
    exact ⟨a, xs, rfl, s.sh _ _ h1, h2⟩
  | bo i =>
    unfold lv at h
    simp only at h
    split at h
    · cases h
      rename_i a _ e
      obtain ⟨e1, _, _, xs, h1, h2⟩ := s.val i _ e
      have o' : σ[i]? = some (some v) := o
      rw [e1] at o'
      cases o'
      exact ⟨_, xs, rfl, h1, h2⟩
    · cases h
  | ow a m => cases h
def dv (G : Sl) : R → Option D
  | .sh d => some d
  | .bo i => match G[i]? with
    | some (.ow _ m) => some m.toD
    | _ => none
  | _ => none
theorem dv_rep {r : R} {v : V} {d : D} (h : dv G r = some d) (s : Sat K F S0 G S σ H) (o : FOk K S σ r v) : Rep K H v d := by
  cases r with
  | sh d => cases h; exact Rep.mono s.sh o
  | bo i =>
    unfold dv at h
    simp only at h
    split at h
    · cases h
      rename_i a m e
      obtain ⟨e1, _, _, mo⟩ := s.val i _ e
      have o' : σ[i]? = some (some v) := o
      rw [e1] at o'
      cases o'
      exact mo.rep s.sh rfl
    · cases h
  | ow a m => cases h
/-! ### truth -/
def tru : D → Option Bool
  | .non => some false
  | .bl b => some b
  | .int i => some (i != 0)
  | .lst ds => some (!ds.isEmpty)
  | .tup ds => some (!ds.isEmpty)
  | _ => none
theorem RepA.isEmpty {vs : List V} {ds : List D} (h : RepA K S vs ds) : vs.isEmpty = ds.isEmpty := by
  cases h <;> rfl
theorem tru_rep {v : V} {d : D} {b : Bool} (h : tru d = some b) (r : Rep K H v d) : TruV K v H b := by
  cases r <;> (first | cases h | skip)
  · rfl
  · rfl
  · rfl
  · rename_i a xs ds h1 h2
    exact .inr (.inl ⟨xs, .inl (.inl h1), by rw [h2.isEmpty]⟩)
  · rename_i a xs ds h1 h2
    exact .inl ⟨xs, .inl (.inl h1), by rw [h2.isEmpty]⟩
theorem wT_tru {te : TE} {Q : Bool → Sl → Prop} (h : wE K Z te G fun r G1 => ∃ d b, dv G1 (fz r) = some d ∧ tru d = some b ∧ Q b G1) : wT K Z (tTru K te) G Q := fun F S0 S σ H Qr s z k =>
  evF h s z fun r G' v S' H' q m s' o => by
    obtain ⟨d, b, h1, h2, q⟩ := q
    exact ⟨b, tru_rep h2 (dv_rep h1 s' o), k b G' S' H' q m s'⟩
end
end PL

/-! PN: texts, lists, tuples, dicts, calls of built-ins, by values. -/
namespace PL
open PySem L2

/-! ### texts as lists of signs -/
abbrev mk (l : List Nat) : Str := ⟨l.toArray⟩
abbrev tx (l : List Nat) : D := .str (mk l)
theorem mk_inj {l m : List Nat} : mk l = mk m ↔ l = m := by
  constructor
  · intro h
    have := congrArg (fun s : Str => s.cps.toList) h
    simpa using this
  · intro h; rw [h]
theorem mk_len (l : List Nat) : (mk l).length = l.length := by simp [mk, Str.length]
theorem mk_app (a b : List Nat) : mk a ++ mk b = mk (a ++ b) := TL.ext_tl (by rw [TL.tl_append])
theorem mk_of (s : Str) : s = mk s.cps.toList := (TL.mk_tl s).symm
theorem mk_eqD {l m : List Nat} : decide (mk l = mk m) = decide (l = m) := by
  by_cases h : l = m
  · subst h; simp
  · have h' : ¬ mk l = mk m := fun e => h (mk_inj.mp e)
    rw [decide_eq_false h, decide_eq_false h']
def cut {α : Type} (l : List α) (lo hi : Option Int) : List α := (l.drop (HT.sIx l.length 0 lo)).take (HT.sIx l.length l.length hi - HT.sIx l.length 0 lo)
theorem cutS_mk (l : List Nat) (lo hi : Option Int) : cutS (mk l) lo hi = mk (cut l lo hi) := by
  unfold cutS cut
  rw [mk_len]
theorem line_of {n : Nat} (h : n ≤ 1000000) : n ≤ sizeLine := Nat.le_trans h (by decide)
theorem line_lt {n : Nat} (h : n ≤ 1000000) : n < sizeLine := Nat.lt_of_le_of_lt h (by decide)
/-- readings of the hand layer's rules, by a name -/
@[reducible] def sAddS : R2 := fun x y H Q => ∃ i j, x = .str i ∧ y = .str j ∧ i.length + j.length ≤ sizeLine ∧ Q (.str (i ++ j)) H
@[reducible] def cLen (K : PySem.W.Frag) : List V → Hp → VK → Prop := fun xs H Q => ∃ x n, xs = [x] ∧ LenV K x H n ∧ Q (.int (n : Nat)) H
@[reducible] def cInt : List V → Hp → VK → Prop := fun xs H Q => (∃ i, xs = [.int i] ∧ Q (.int i) H) ∨ ∃ k, xs = [.bl k] ∧ Q (.int (if k then 1 else 0)) H
@[reducible] def cList (K : PySem.W.Frag) : List V → Hp → VK → Prop := fun xs H Q => ∃ p ys, xs = [.ref p] ∧ (SqL K H p ys ∨ SqT K H p ys) ∧ ∀ l, H l = none → Q (.ref l) (upd H l (.lst ys))
@[reducible] def cTuple (K : PySem.W.Frag) : List V → Hp → VK → Prop := fun xs H Q => ∃ p ys, xs = [.ref p] ∧ ((SqL K H p ys ∧ ∀ l, H l = none → Q (.ref l) (upd H l (.tup ys))) ∨ (SqT K H p ys ∧ Q (.ref p) H))
@[reducible] def cMax2 : List V → Hp → VK → Prop := fun xs H Q => ∃ i j, xs = [.int i, .int j] ∧ Q (.int (if j > i then j else i)) H
@[reducible] def cMin2 : List V → Hp → VK → Prop := fun xs H Q => ∃ i j, xs = [.int i, .int j] ∧ Q (.int (if j < i then j else i)) H
@[reducible] def mJoin (K : PySem.W.Frag) : V → List V → Hp → VK → Prop := fun x xs H Q => ∃ a p, ∃ ys : List Str, x = .str a ∧ xs = [.ref p] ∧ (SqL K H p (ys.map V.str) ∨ SqT K H p (ys.map V.str)) ∧
    (ys.map (·.length)).sum + ys.length * a.length ≤ 16777216 ∧ Q (.str (Txt.join a ys)) H
@[reducible] def mFind : V → List V → Hp → VK → Prop := fun x xs H Q => ∃ a b, x = .str a ∧ xs = [.str b] ∧ Q (.int (Txt.find a b)) H
@[reducible] def mLower : V → List V → Hp → VK → Prop := fun x xs H Q => ∃ a, x = .str a ∧ xs = [] ∧ a.length ≤ 5592405 ∧ Q (.str (Txt.lower a)) H

section
variable {K : PySem.W.Frag} {Z : Ec} {F S0 S S' : Hp} {G : Sl} {σ : L2.St} {H H' : Hp} {Q : R → Sl → Prop}
/-- a constant text by its signs -/
theorem wE_cs {x : Str} (l : List Nat) (h : x = mk l) (q : Q (.sh (tx l)) G) : wE K Z (tC (.str x)) G Q := wE_c (d := tx l) (by rw [h]; rfl) q
theorem wR_eqT {l m : List Nat} (q : Q (.sh (.bl (decide (l = m)))) G) : wR K Z rEq (.sh (tx l)) (.sh (tx m)) G Q := wR_eqS (by rw [mk_eqD]; exact q)
theorem wR_neT {l m : List Nat} (q : Q (.sh (.bl (!decide (l = m)))) G) : wR K Z rNe (.sh (tx l)) (.sh (tx m)) G Q := wR_neS (by rw [mk_eqD]; exact q)
theorem wR_addT {l m : List Nat} (hl : l.length + m.length ≤ 1000000) (q : Q (.sh (tx (l ++ m))) G) : wR K Z sAddS (.sh (tx l)) (.sh (tx m)) G Q := fun F S0 S σ H Qr v u s z o1 o2 k => by
  cases o1; cases o2
  exact ⟨_, _, rfl, rfl, by rw [mk_len, mk_len]; exact line_of hl, k.val s q (by rw [mk_app]; exact .str _)⟩
theorem wR_inS {c : Nat} {m : List Nat} (q : Q (.sh (.bl (decide (c ∈ m)))) G) : wR K Z rInS (.sh (tx [c])) (.sh (tx m)) G Q := fun F S0 S σ H Qr v u s z o1 o2 k => by
  cases o1; cases o2
  exact ⟨c, _, rfl, rfl, k.val s q (.bl _)⟩
theorem wR_ninS {c : Nat} {m : List Nat} (q : Q (.sh (.bl (!decide (c ∈ m)))) G) : wR K Z rNotInS (.sh (tx [c])) (.sh (tx m)) G Q := fun F S0 S σ H Qr v u s z o1 o2 k => by
  cases o1; cases o2
  exact ⟨c, _, rfl, rfl, k.val s q (.bl _)⟩
/-! ### items -/
theorem atI_rep {vs : List V} {ds : List D} (r : RepA K S vs ds) {i : Int} {d : D} (h : atI ds i = some d) : ∃ v, atI vs i = some v ∧ Rep K S v d := by
  unfold atI at h ⊢
  rw [r.len]
  cases e : ixN ds.length i with
  | none => rw [e] at h; cases h
  | some j =>
    rw [e] at h
    exact r.get h
theorem wR_ixL {x : R} {ds : List D} {i : Int} {d : D} (h : lv G x = some ds) (hi : atI ds i = some d) (q : Q (.sh d) G) : wR K Z (rIxL K) x (.sh (.int i)) G Q := fun F S0 S σ H Qr v u s z o1 o2 k => by
  obtain ⟨a, xs, rfl, h1, h2⟩ := lv_ok h s o1
  cases o2
  obtain ⟨w, hw, rw'⟩ := atI_rep h2 hi
  exact ⟨a, xs, i, w, rfl, rfl, SqL.of h1, hw, k.val s q rw'⟩
theorem wR_ixC {ns : List Int} {i n : Int} (hi : atI ns i = some n) (q : Q (.sh (.int n)) G) : wR K Z (rIxL K) (.sh (.scr ns)) (.sh (.int i)) G Q := fun F S0 S σ H Qr v u s z o1 o2 k => by
  cases o1; cases o2
  rename_i a h
  refine ⟨a, _, i, .int n, rfl, rfl, s.sh.seq h, ?_, k.val s q (.int _)⟩
  unfold atI at hi ⊢
  rw [List.length_map]
  cases e : ixN ns.length i with
  | none => rw [e] at hi; cases hi
  | some j =>
    rw [e] at hi
    have hi' : ns[j]? = some n := hi
    show (ns.map V.int)[j]? = _
    rw [List.getElem?_map, hi']; rfl
theorem wR_ixT {ds : List D} {i : Int} {d : D} (hi : atI ds i = some d) (q : Q (.sh d) G) : wR K Z (rIxT K) (.sh (.tup ds)) (.sh (.int i)) G Q := fun F S0 S σ H Qr v u s z o1 o2 k => by
  cases o1; cases o2
  rename_i a xs h1 h2
  obtain ⟨w, hw, rw'⟩ := atI_rep h2 hi
  exact ⟨a, xs, i, w, rfl, rfl, SqT.of (s.sh _ _ h1), hw, k.val s q rw'⟩
theorem wR_ixS {l : List Nat} {i : Int} {c : Nat} (hl : l.length ≤ 1000000) (hi : atI l i = some c) (q : Q (.sh (tx [c])) G) : wR K Z rIxS (.sh (tx l)) (.sh (.int i)) G Q := fun F S0 S σ H Qr v u s z o1 o2 k => by
  cases o1; cases o2
  exact ⟨mk l, i, c, rfl, rfl, by rw [mk_len]; exact line_of hl, hi, k.val s q (.str _)⟩
/-! ### slices -/
def wO (K : PySem.W.Frag) (Z : Ec) (to : TO) (G : Sl) (Q : Option Int → Sl → Prop) : Prop :=
  ∀ F S0 S σ H (Qr : Option Int → Hp → Prop), Sat K F S0 G S σ H → hZ Z F → (∀ o G' S' H', Q o G' → Same S S' → Sat K F S0 G' S' σ H' → Qr o H') → to σ H Qr
def wL (K : PySem.W.Frag) (Z : Ec) (r : V → Option Int → Option Int → Hp → VK → Prop) (x : R) (lo hi : Option Int) (G : Sl) (Q : R → Sl → Prop) : Prop :=
  ∀ F S0 S σ H (Qr : VK) v, Sat K F S0 G S σ H → hZ Z F → FOk K S σ x v → kE K F S0 S σ Q Qr → r v lo hi H Qr
theorem wO_none {Q : Option Int → Sl → Prop} (q : Q none G) : wO K Z tNoPart G Q := fun F S0 S σ H Qr s z k => k none G S H q (Same.refl _) s
theorem wO_some {te : TE} {Q : Option Int → Sl → Prop} (h : wE K Z te G fun r G1 => ∃ i, r = .sh (.int i) ∧ Q (some i) G1) : wO K Z (tPart te) G Q := fun F S0 S σ H Qr s z k =>
  h F S0 S σ H _ s z fun r G' v S' H' q m s' o => by
    obtain ⟨i, rfl, q⟩ := q
    cases o
    exact ⟨i, rfl, k _ G' S' H' q m s'⟩
theorem wE_sl {r : V → Option Int → Option Int → Hp → VK → Prop} {te : TE} {tl th : TO} (h : wE K Z te G fun x G1 => wO K Z tl G1 fun lo G2 => wO K Z th G2 fun hi G3 => wL K Z r (fz x) lo hi G3 Q) : wE K Z (tSl r te tl th) G Q := fun F S0 S σ H Qr s z k =>
  evF h s z fun x G1 v S1 H1 h1 m1 s1 o1 => h1 F S0 S1 σ H1 _ s1 z fun lo G2 S2 H2 h2 m2 s2 => h2 F S0 S2 σ H2 _ s2 z fun hi G3 S3 H3 h3 m3 s3 =>
    h3 F S0 S3 σ H3 Qr v s3 z (o1.mono (m2.trans m3)) (k.from (m1.trans (m2.trans m3)))
theorem wL_S {l : List Nat} {lo hi : Option Int} (hl : l.length ≤ 1000000) (q : Q (.sh (tx (cut l lo hi))) G) : wL K Z rSlS (.sh (tx l)) lo hi G Q := fun F S0 S σ H Qr v s z o k => by
  cases o
  exact ⟨mk l, rfl, by rw [mk_len]; exact line_of hl, k.val s q (by rw [cutS_mk]; exact .str _)⟩
theorem cut_rep {vs : List V} {ds : List D} (r : RepA K S vs ds) (lo hi : Option Int) : RepA K S (cutV vs lo hi) (cut ds lo hi) := by
  unfold cutV cut
  rw [r.len]
  exact (r.drop _).take _
theorem cut_whole {α : Type} {l : List α} {lo hi : Option Int} (h : HT.sIx l.length 0 lo = 0 ∧ HT.sIx l.length l.length hi = l.length) : cut l lo hi = l := by
  unfold cut
  rw [h.1, h.2]
  simp
theorem wL_T {ds : List D} {lo hi : Option Int} (q : Q (.sh (.tup (cut ds lo hi))) G) : wL K Z (rSlA K) (.sh (.tup ds)) lo hi G Q := fun F S0 S σ H Qr v s z o k => by
  cases o
  rename_i a xs h1 h2
  refine ⟨a, xs, rfl, SqT.of (s.sh _ _ h1), fun hw => ?_, fun hw p hp => ?_⟩
  · rw [h2.len] at hw
    rw [cut_whole hw] at q
    exact k.val s q (.tup h1 h2)
  · obtain ⟨m2, s2⟩ := s.newsh (o := .tup (cutV xs lo hi)) hp
    exact k _ _ _ _ _ q m2 s2 (Rep.tup upd_same ((cut_rep h2 lo hi).mono m2))
theorem wL_L {x : R} {ds : List D} {lo hi : Option Int} (h : lv G x = some ds) (q : ∀ a, Q (.ow a (.lst (cut ds lo hi))) G) : wL K Z (rSlL K) x lo hi G Q := fun F S0 S σ H Qr v s z o k => by
  obtain ⟨a, xs, rfl, h1, h2⟩ := lv_ok h s o
  refine ⟨a, xs, rfl, SqL.of h1, fun p hp => ?_⟩
  obtain ⟨s2, g1, g2, g3⟩ := s.newow (o := .lst (cutV xs lo hi)) hp
  exact k _ _ _ _ _ (q p) (Same.refl _) s2 ⟨rfl, g1, g2, ⟨_, upd_same, cut_rep h2 lo hi⟩, g3⟩
/-! ### calls of built-ins -/
theorem fs1 {r : R} {vs : List V} (h : FsOk K S σ [r] vs) : ∃ v, vs = [v] ∧ FOk K S σ r v := by
  cases h with
  | cons a b => cases b; exact ⟨_, rfl, a⟩
theorem fs2 {r r' : R} {vs : List V} (h : FsOk K S σ [r, r'] vs) : ∃ v u, vs = [v, u] ∧ FOk K S σ r v ∧ FOk K S σ r' u := by
  cases h with
  | cons a b =>
    obtain ⟨u, rfl, b'⟩ := fs1 b
    exact ⟨_, u, rfl, a, b'⟩
theorem wC_lenT {l : List Nat} (hl : l.length ≤ 1000000) (q : Q (.sh (.int (l.length : Nat))) G) : wC K Z (cLen K) [.sh (tx l)] G Q := fun F S0 S σ H Qr vs s z o k => by
  obtain ⟨v, rfl, oo⟩ := fs1 o
  cases oo
  exact ⟨.str (mk l), l.length, rfl, ⟨by rw [mk_len]; exact line_of hl, (mk_len l).symm⟩, k.val s q (.int _)⟩
theorem wC_lenL {x : R} {ds : List D} (h : lv G x = some ds) (q : Q (.sh (.int (ds.length : Nat))) G) : wC K Z (cLen K) [x] G Q := fun F S0 S σ H Qr vs s z o k => by
  obtain ⟨v, rfl, oo⟩ := fs1 o
  obtain ⟨a, xs, rfl, h1, h2⟩ := lv_ok h s oo
  exact ⟨_, ds.length, rfl, .inl ⟨xs, SqL.of h1, h2.len.symm⟩, k.val s q (.int _)⟩
theorem wC_lenU {ds : List D} (q : Q (.sh (.int (ds.length : Nat))) G) : wC K Z (cLen K) [.sh (.tup ds)] G Q := fun F S0 S σ H Qr vs s z o k => by
  obtain ⟨v, rfl, oo⟩ := fs1 o
  cases oo
  rename_i a xs h1 h2
  exact ⟨_, ds.length, rfl, .inr ⟨xs, SqT.of (s.sh _ _ h1), h2.len.symm⟩, k.val s q (.int _)⟩
theorem wC_lenC {ns : List Int} (q : Q (.sh (.int (ns.length : Nat))) G) : wC K Z (cLen K) [.sh (.scr ns)] G Q := fun F S0 S σ H Qr vs s z o k => by
  obtain ⟨v, rfl, oo⟩ := fs1 o
  cases oo
  rename_i a h1
  exact ⟨_, ns.length, rfl, .inl ⟨_, s.sh.seq h1, by simp⟩, k.val s q (.int _)⟩
theorem wC_intB {b : Bool} (q : Q (.sh (.int (if b then 1 else 0))) G) : wC K Z cInt [.sh (.bl b)] G Q := fun F S0 S σ H Qr vs s z o k => by
  obtain ⟨v, rfl, oo⟩ := fs1 o
  cases oo
  exact .inr ⟨b, rfl, k.val s q (.int _)⟩
theorem wC_list {x : R} {ds : List D} (h : lv G x = some ds) (q : ∀ a, Q (.ow a (.lst ds)) G) : wC K Z (cList K) [x] G Q := fun F S0 S σ H Qr vs s z o k => by
  obtain ⟨v, rfl, oo⟩ := fs1 o
  obtain ⟨a, xs, rfl, h1, h2⟩ := lv_ok h s oo
  refine ⟨a, xs, rfl, .inl (SqL.of h1), fun p hp => ?_⟩
  obtain ⟨s2, g1, g2, g3⟩ := s.newow (o := .lst xs) hp
  exact k _ _ _ _ _ (q p) (Same.refl _) s2 ⟨rfl, g1, g2, ⟨_, upd_same, h2⟩, g3⟩
theorem wC_tuple {x : R} {ds : List D} (h : lv G x = some ds) (q : Q (.sh (.tup ds)) G) : wC K Z (cTuple K) [x] G Q := fun F S0 S σ H Qr vs s z o k => by
  obtain ⟨v, rfl, oo⟩ := fs1 o
  obtain ⟨a, xs, rfl, h1, h2⟩ := lv_ok h s oo
  refine ⟨a, xs, rfl, .inl ⟨SqL.of h1, fun p hp => ?_⟩⟩
  obtain ⟨m2, s2⟩ := s.newsh (o := .tup xs) hp
  exact k _ _ _ _ _ q m2 s2 (Rep.tup upd_same (h2.mono m2))
theorem wC_max {i j : Int} (q : Q (.sh (.int (if j > i then j else i))) G) : wC K Z cMax2 [.sh (.int i), .sh (.int j)] G Q := fun F S0 S σ H Qr vs s z o k => by
  obtain ⟨v, u, rfl, o1, o2⟩ := fs2 o
  cases o1; cases o2
  exact ⟨i, j, rfl, k.val s q (.int _)⟩
theorem wC_min {i j : Int} (q : Q (.sh (.int (if j < i then j else i))) G) : wC K Z cMin2 [.sh (.int i), .sh (.int j)] G Q := fun F S0 S σ H Qr vs s z o k => by
  obtain ⟨v, u, rfl, o1, o2⟩ := fs2 o
  cases o1; cases o2
  exact ⟨i, j, rfl, k.val s q (.int _)⟩
theorem repA_bls {vs : List V} : ∀ {bs : List Bool}, RepA K S vs (bs.map D.bl) → vs = bs.map V.bl := fun {bs} => by
  induction bs generalizing vs with
  | nil => intro h; cases h; rfl
  | cons b bs ih =>
    intro h
    cases h with
    | cons a r => cases a; rw [ih r]; rfl
theorem repA_ints {vs : List V} : ∀ {bs : List Int}, RepA K S vs (bs.map D.int) → vs = bs.map V.int := fun {bs} => by
  induction bs generalizing vs with
  | nil => intro h; cases h; rfl
  | cons b bs ih =>
    intro h
    cases h with
    | cons a r => cases a; rw [ih r]; rfl
theorem repA_txs {vs : List V} : ∀ {ls : List (List Nat)}, RepA K S vs (ls.map tx) → vs = (ls.map mk).map V.str := fun {ls} => by
  induction ls generalizing vs with
  | nil => intro h; cases h; rfl
  | cons b bs ih =>
    intro h
    cases h with
    | cons a r => cases a; rw [ih r]; rfl
theorem wC_all {x : R} {bs : List Bool} (h : lv G x = some (bs.map D.bl)) (q : Q (.sh (.bl (bs.all id))) G) : wC K Z (rAll K) [x] G Q := fun F S0 S σ H Qr vs s z o k => by
  obtain ⟨v, rfl, oo⟩ := fs1 o
  obtain ⟨a, xs, rfl, h1, h2⟩ := lv_ok h s oo
  have e := repA_bls h2
  subst e
  exact ⟨a, bs, rfl, SqL.of h1, k.val s q (.bl _)⟩
def IsMin (m : Int) (ns : List Int) : Prop := m ∈ ns ∧ ∀ y ∈ ns, m ≤ y
theorem wC_minL {x : R} {ns : List Int} (h : lv G x = some (ns.map D.int)) (hl : 0 < ns.length) (q : ∀ m, IsMin m ns → Q (.sh (.int m)) G) : wC K Z (rMin K) [x] G Q := fun F S0 S σ H Qr vs s z o k => by
  obtain ⟨v, rfl, oo⟩ := fs1 o
  obtain ⟨a, xs, rfl, h1, h2⟩ := lv_ok h s oo
  have e := repA_ints h2
  subst e
  exact ⟨a, ns, rfl, SqL.of h1, hl, fun m hm hle => k.val s (q m ⟨hm, hle⟩) (.int _)⟩
def tyn : D → String
  | .non => "NoneType" | .bl _ => "bool" | .int _ => "int" | .str _ => "str" | .tup _ => "tuple" | .lst _ => "list" | .dT _ => "dict" | .dK _ => "dict" | .scr _ => "" | .ty _ => "" | .ref _ => ""
theorem tyn_rep {v : V} {d : D} (r : Rep K H v d) (h1 : ∀ ns, d ≠ .scr ns) (h2 : ∀ n, d ≠ .ty n) (h3 : ∀ k, d ≠ .dT k) (h4 : ∀ a, d ≠ .ref a) : TyX K H v (.type (tyn d)) := by
  cases r with
  | non => exact .base .non
  | bl b => exact .base (.bl b)
  | int i => exact .base (.int i)
  | str x => exact .base (.str x)
  | tup a b => exact .base (.tup a)
  | lst a b => exact .base (.lst a)
  | dT a => exact absurd rfl (h3 _)
  | dK a => exact .base (.dK a)
  | scr a => exact absurd rfl (h1 _)
  | ty n => exact absurd rfl (h2 _)
  | ref a => exact absurd rfl (h4 _)
def isPl : D → Bool
  | .scr _ => false | .ty _ => false | .dT _ => false | .ref _ => false | _ => true
theorem wC_isi {x : R} {d : D} {T : String} {b : Bool} (h : dv G x = some d) (hp : isPl d = true) (hb : kitB (tyn d) T = some b) (q : Q (.sh (.bl b)) G) :
    wC K Z (rIsi K) [x, .sh (.ty T)] G Q := fun F S0 S σ H Qr vs s z o k => by
  obtain ⟨v, u, rfl, o1, o2⟩ := fs2 o
  cases o2
  exact ⟨v, .ty T, .type (tyn d), .type T, b, rfl, .ty T, tyn_rep (dv_rep h s o1) (fun ns e => by subst e; cases hp) (fun n e => by subst e; cases hp) (fun n e => by subst e; cases hp) (fun n e => by subst e; cases hp), kit_ty hb, k.val s q (.bl _)⟩
/-! ### in -/
def eqF : D → D → Bool
  | .non, .non => true
  | .bl a, .bl b => a == b
  | .bl a, .int b => (if a then 1 else 0) == b
  | .int a, .bl b => a == (if b then 1 else 0)
  | .int a, .int b => a == b
  | .str a, .str b => a == b
  | _, _ => false
def flatD : D → Bool
  | .non => true | .bl _ => true | .int _ => true | .str _ => true | _ => false
theorem flat_rep {v : V} {d : D} (h : flatD d = true) (r : Rep K S v d) : flatV v = true := by
  cases r <;> first | rfl | cases h
theorem eqF_rep {v u : V} {d e : D} (r : Rep K S v d) (r' : Rep K S u e) (h : flatD d = true) (h' : flatD e = true) : eqV v u = eqF d e := by
  cases r <;> cases r' <;> first | rfl | cases h | cases h'
theorem inF_rep {v : V} {d : D} {vs : List V} {ds : List D} (r : Rep K S v d) (rs : RepA K S vs ds) (h : flatD d = true) (h' : ds.all flatD = true) : vs.all flatV = true ∧ inV v vs = ds.any fun e => eqF e d := by
  induction ds generalizing vs with
  | nil => cases rs; exact ⟨rfl, rfl⟩
  | cons e ds ih =>
    cases rs with
    | cons a b =>
      have hh := Bool.and_eq_true_iff.mp h'
      obtain ⟨i1, i2⟩ := ih b hh.2
      refine ⟨?_, ?_⟩
      · rw [List.all_cons, flat_rep hh.1 a, i1]; rfl
      · unfold inV at i2 ⊢
        rw [List.any_cons, List.any_cons, eqF_rep a r hh.1 h, i2]
theorem wR_in {neg : Bool} {d : D} {y : R} {ds : List D} (h : lv G y = some ds ∨ y = .sh (.tup ds)) (hx : flatD d = true) (ha : ds.all flatD = true) (q : Q (.sh (.bl (if neg then !(ds.any fun e => eqF e d) else ds.any fun e => eqF e d))) G) :
    wR K Z (rIn K neg) (.sh d) y G Q := fun F S0 S σ H Qr v u s z o1 o2 k => by
  have fin : ∀ {a : Addr} {xs : List V}, u = .ref a → (SqL K H a xs ∨ SqT K H a xs) → RepA K S xs ds → rIn K neg v u H Qr := fun {a xs} hu hq hr => by
    obtain ⟨f1, f2⟩ := inF_rep o1 hr hx ha
    refine ⟨a, xs, hu, hq, flat_rep hx o1, f1, ?_⟩
    rw [f2]
    exact k.val s q (.bl _)
  rcases h with h | h
  · obtain ⟨a, xs, rfl, h1, h2⟩ := lv_ok h s o2
    exact fin rfl (.inl (SqL.of h1)) h2
  · subst h
    cases o2
    rename_i a xs h1 h2
    exact fin rfl (.inr (SqT.of (s.sh _ _ h1))) h2
theorem any_txs (l : List Nat) (ls : List (List Nat)) : ((ls.map tx).any fun e => eqF e (tx l)) = decide (l ∈ ls) := by
  induction ls with
  | nil => rfl
  | cons m ls ih =>
    rw [List.map_cons, List.any_cons, ih]
    have e : eqF (tx m) (tx l) = decide (l = m) := by
      show (mk m == mk l) = _
      by_cases h : l = m
      · subst h; simp
      · have h' : ¬ mk m = mk l := fun e => h (mk_inj.mp e).symm
        rw [decide_eq_false h]
        exact beq_eq_false_iff_ne.mpr h'
    rw [e]
    by_cases h : l = m
    · simp [h]
    · simp [h]
theorem all_txs (ls : List (List Nat)) : (ls.map tx).all flatD = true := by
  induction ls with
  | nil => rfl
  | cons m ls ih => rw [List.map_cons, List.all_cons, ih]; rfl
theorem wR_inT {l : List Nat} {y : R} {ls : List (List Nat)} (h : lv G y = some (ls.map tx)) (q : Q (.sh (.bl (decide (l ∈ ls)))) G) : wR K Z (rIn K false) (.sh (tx l)) y G Q :=
  wR_in (.inl h) rfl (all_txs ls) (by rw [any_txs]; exact q)
theorem wR_ninT {l : List Nat} {y : R} {ls : List (List Nat)} (h : lv G y = some (ls.map tx)) (q : Q (.sh (.bl (!decide (l ∈ ls)))) G) : wR K Z (rIn K true) (.sh (tx l)) y G Q :=
  wR_in (.inl h) rfl (all_txs ls) (by rw [any_txs]; exact q)
/-! ### methods of texts -/
theorem wE_m1 {r : V → List V → Hp → VK → Prop} {to te : TE} (h : wE K Z to G fun x G1 => (∃ l, x = .sh (tx l)) ∧ wE K Z te G1 fun y G2 => wM K Z r (fz x) [fz y] G2 Q) : wE K Z (tM1 r to te) G Q := fun F S0 S σ H Qr s z k =>
  h F S0 S σ H _ s z fun x G1 v S1 H1 h1 m1 s1 o1 => by
    obtain ⟨⟨l, rfl⟩, h1⟩ := h1
    cases o1
    refine ⟨⟨_, rfl⟩, evF h1 s1 z fun y G2 u S2 H2 h2 m2 s2 o2 => ?_⟩
    exact h2 F S0 S2 σ H2 Qr _ _ s2 z (.str _) (.cons o2 .nil) (k.from (m1.trans m2))
theorem wE_m0 {r : V → List V → Hp → VK → Prop} {to : TE} (h : wE K Z to G fun x G1 => (∃ l, x = .sh (tx l)) ∧ wM K Z r (fz x) [] G1 Q) : wE K Z (tM0 r to) G Q := fun F S0 S σ H Qr s z k =>
  h F S0 S σ H _ s z fun x G1 v S1 H1 h1 m1 s1 o1 => by
    obtain ⟨⟨l, rfl⟩, h1⟩ := h1
    cases o1
    exact ⟨⟨_, rfl⟩, h1 F S0 S1 σ H1 Qr _ _ s1 z (.str _) .nil (k.from m1)⟩
theorem joinL_nil : ∀ ls : List (List Nat), TL.joinL [] ls = ls.flatten
  | [] => rfl
  | [p] => by simp [TL.joinL]
  | p :: q :: r => by
    show p ++ ([] ++ TL.joinL [] (q :: r)) = _
    rw [joinL_nil (q :: r)]
    simp
theorem wM_join {x : R} {ls : List (List Nat)} (h : lv G x = some (ls.map tx)) (hl : (ls.map List.length).sum ≤ 1000000) (q : Q (.sh (tx ls.flatten)) G) : wM K Z (mJoin K) (.sh (tx [])) [x] G Q := fun F S0 S σ H Qr v vs s z o os k => by
  cases o
  obtain ⟨u, rfl, o2⟩ := fs1 os
  obtain ⟨a, xs, rfl, h1, h2⟩ := lv_ok h s o2
  have e := repA_txs h2
  subst e
  refine ⟨mk [], a, ls.map mk, rfl, rfl, .inl (SqL.of h1), ?_, k.val s q ?_⟩
  · have e1 : (List.map (fun s : Str => s.length) (ls.map mk)) = ls.map List.length := by
      rw [List.map_map]; exact List.map_congr_left fun l _ => mk_len l
    rw [e1, mk_len]
    simp only [List.length_nil, Nat.mul_zero, Nat.add_zero]
    exact Nat.le_trans hl (by decide)
  · have e1 : Txt.join (mk []) (ls.map mk) = mk ls.flatten := by
      rw [TL.join_eq]
      refine TL.ext_tl ?_
      rw [TL.tl_join]
      show TL.joinL [] ((ls.map mk).map TL.tl) = ls.flatten
      rw [List.map_map, show (TL.tl ∘ mk) = id from rfl, List.map_id, joinL_nil]
    rw [e1]
    exact .str _
theorem wM_findRaw {l m : List Nat} (q : Q (.sh (.int (Txt.find (mk l) (mk m)))) G) : wM K Z mFind (.sh (tx l)) [.sh (tx m)] G Q := fun F S0 S σ H Qr v vs s z o os k => by
  cases o
  obtain ⟨u, rfl, o2⟩ := fs1 os
  cases o2
  exact ⟨_, _, rfl, rfl, k.val s q (.int _)⟩
theorem wM_lowerRaw {l m : List Nat} (hl : l.length ≤ 1000000) (e : Txt.lower (mk l) = mk m) (q : Q (.sh (tx m)) G) : wM K Z mLower (.sh (tx l)) [] G Q := fun F S0 S σ H Qr v vs s z o os k => by
  cases o
  cases os
  exact ⟨_, rfl, rfl, by rw [mk_len]; exact Nat.le_trans hl (by decide), k.val s q (by rw [e]; exact .str _)⟩
/-! ### dicts -/
def keyD : D → Option Key
  | .int i => some (.inl i)
  | .str x => some (.inr x)
  | _ => none
def keysD : List D → Option (List Key)
  | [] => some []
  | d :: ds => match keyD d with
    | some k => match keysD ds with
      | some ks => some (k :: ks)
      | none => none
    | none => none
theorem keyD_rep {v : V} {d : D} {k : Key} (h : keyD d = some k) (r : Rep K S v d) : v = kV k := by
  cases r <;> simp [keyD] at h <;> subst h <;> rfl
theorem keysD_rep : ∀ {ds : List D} {vs : List V} {k : List Key}, keysD ds = some k → RepA K S vs ds → vs = k.map kV
  | [], _, _, h, .nil => by cases h; rfl
  | d :: ds, _, _, h, .cons r rs => by
    simp only [keysD] at h
    split at h
    · rename_i k0 h1
      split at h
      · rename_i ks h2
        cases h
        rw [keyD_rep h1 r, keysD_rep h2 rs]; rfl
      · cases h
    · cases h
/-- what a dict is read as -/
inductive DD where
  | t (kvs : List (List Key × V)) | k (kvs : List (Key × V))
def dd (G : Sl) (r : R) : Option DD := match dv G r with
  | some (.dT kvs) => some (.t kvs)
  | some (.dK kvs) => some (.k kvs)
  | _ => none
/-- what it holds at a key -/
def look : DD → D → Option (Option V)
  | .t kvs, .tup ds => (keysD ds).map fun k => valV kvs k
  | .k kvs, d => (keyD d).map fun k => valV kvs k
  | _, _ => none
theorem look_rep {r : R} {x y : V} {d : D} {m : DD} {o : Option V} (h : dd G r = some m) (hl : look m d = some o) (s : Sat K F S0 G S σ H) (ox : FOk K S σ r x) (oy : Rep K S y d) : ∃ a, x = .ref a ∧ IsD H a ∧ DGet H a y o := by
  unfold dd at h
  split at h
  · rename_i kvs e
    cases h
    have rp := dv_rep e s ox
    cases rp
    rename_i a h1
    cases oy <;> simp only [look] at hl <;> first | cases hl | skip
    rename_i b xs ds h2 h3
    obtain ⟨k, hk, rfl⟩ := Option.map_eq_some_iff.mp hl
    have e3 := keysD_rep hk h3
    subst e3
    exact ⟨a, rfl, .inr ⟨kvs, h1⟩, .inr ⟨kvs, k, b, h1, rfl, s.sh _ _ h2, rfl⟩⟩
  · rename_i kvs e
    cases h
    have rp := dv_rep e s ox
    cases rp
    rename_i a h1
    obtain ⟨k, hk, rfl⟩ := Option.map_eq_some_iff.mp (show (keyD d).map (fun k => valV kvs k) = some o from hl)
    exact ⟨a, rfl, .inl ⟨kvs, .inl h1⟩, .inl ⟨kvs, k, .inl h1, keyD_rep hk oy, rfl⟩⟩
  · cases h
theorem wE_dget {td ty : TE} (h : wE K Z td G fun x G1 => wE K Z ty G1 fun y G2 => ∃ m d v e, dd G2 (fz x) = some m ∧ fz y = .sh d ∧ look m d = some (some v) ∧ vD v = some e ∧ Q (.sh e) G2) : wE K Z (tDGet td ty) G Q := fun F S0 S σ H Qr s z k =>
  evF h s z fun x G1 v S1 H1 h1 m1 s1 o1 => evF h1 s1 z fun y G2 u S2 H2 h2 m2 s2 o2 => by
    obtain ⟨m, d, w, e, e1, e2, e3, e4, q⟩ := h2
    rw [e2] at o2
    obtain ⟨a, rfl, _, g⟩ := look_rep e1 e3 s2 (o1.mono m2) o2
    exact ⟨a, w, rfl, g, (k.from (m1.trans m2)).val s2 q (vD_rep e4)⟩
theorem wE_dget1 {td ty : TE} (h : wE K Z td G fun x G1 => (∃ m, dd G1 (fz x) = some m) ∧ wE K Z ty G1 fun y G2 => ∃ m d o e, dd G2 (fz x) = some m ∧ fz y = .sh d ∧ look m d = some o ∧ vD (o.getD .non) = some e ∧ Q (.sh e) G2) : wE K Z (tDGet1 td ty) G Q := fun F S0 S σ H Qr s z k =>
  evF h s z fun x G1 v S1 H1 h1 m1 s1 o1 => by
    obtain ⟨⟨m0, e0⟩, h1⟩ := h1
    have hd : ∃ a, v = .ref a ∧ IsD H1 a := by
      unfold dd at e0
      split at e0
      · rename_i kvs e
        have rp := dv_rep e s1 o1
        cases rp
        rename_i a h1
        exact ⟨a, rfl, .inr ⟨kvs, h1⟩⟩
      · rename_i kvs e
        have rp := dv_rep e s1 o1
        cases rp
        rename_i a h1
        exact ⟨a, rfl, .inl ⟨kvs, .inl h1⟩⟩
      · cases e0
    obtain ⟨a, rfl, hd⟩ := hd
    refine ⟨a, rfl, hd, evF h1 s1 z fun y G2 u S2 H2 h2 m2 s2 o2 => ?_⟩
    obtain ⟨m, d, o, e, e1, e2, e3, e4, q⟩ := h2
    rw [e2] at o2
    obtain ⟨b, eb, _, g⟩ := look_rep e1 e3 s2 (o1.mono m2) o2
    cases eb
    exact ⟨o, g, (k.from (m1.trans m2)).val s2 q (vD_rep e4)⟩
theorem wE_din {td ty : TE} (h : wE K Z ty G fun y G1 => wE K Z td G1 fun x G2 => ∃ m d o, dd G2 (fz x) = some m ∧ fz y = .sh d ∧ look m d = some o ∧ Q (.sh (.bl o.isSome)) G2) : wE K Z (tDIn ty td) G Q := fun F S0 S σ H Qr s z k =>
  evF h s z fun y G1 u S1 H1 h1 m1 s1 o1 => evF h1 s1 z fun x G2 v S2 H2 h2 m2 s2 o2 => by
    obtain ⟨m, d, o, e1, e2, e3, q⟩ := h2
    rw [e2] at o1
    obtain ⟨a, rfl, _, g⟩ := look_rep e1 e3 s2 o2 (Rep.mono m2 o1)
    exact ⟨a, o, rfl, g, (k.from (m1.trans m2)).val s2 q (.bl _)⟩
theorem wE_dnin {td ty : TE} (h : wE K Z ty G fun y G1 => wE K Z td G1 fun x G2 => ∃ m d o, dd G2 (fz x) = some m ∧ fz y = .sh d ∧ look m d = some o ∧ Q (.sh (.bl (!o.isSome))) G2) : wE K Z (tDNotIn ty td) G Q := fun F S0 S σ H Qr s z k =>
  evF h s z fun y G1 u S1 H1 h1 m1 s1 o1 => evF h1 s1 z fun x G2 v S2 H2 h2 m2 s2 o2 => by
    obtain ⟨m, d, o, e1, e2, e3, q⟩ := h2
    rw [e2] at o1
    obtain ⟨a, rfl, _, g⟩ := look_rep e1 e3 s2 o2 (Rep.mono m2 o1)
    exact ⟨a, o, rfl, g, (k.from (m1.trans m2)).val s2 q (.bl _)⟩
theorem wE_dnewT (q : ∀ a, Q (.ow a (.dT [])) G) : wE K Z tDNewT G Q := fun F S0 S σ H Qr s z k p hp => by
  obtain ⟨s2, g1, g2, g3⟩ := s.newow (o := .dT []) hp
  exact k _ _ _ _ _ (q p) (Same.refl _) s2 ⟨rfl, g1, g2, upd_same, g3⟩
theorem wE_dnewK (q : ∀ a, Q (.ow a (.dK [])) G) : wE K Z tDNewK G Q := fun F S0 S σ H Qr s z k p hp => by
  obtain ⟨s2, g1, g2, g3⟩ := s.newow (o := .dK []) hp
  exact k _ _ _ _ _ (q p) (Same.refl _) s2 ⟨rfl, g1, g2, upd_same, g3⟩
/-! ### lists changed -/
theorem RepA.last {vs : List V} {ds : List D} {d : D} (r : RepA K S vs (ds ++ [d])) : ∃ v, vs[vs.length - 1]? = some v ∧ Rep K S v d ∧ RepA K S vs.dropLast ds := by
  have e : (ds ++ [d])[ds.length]? = some d := by simp
  obtain ⟨v, h1, h2⟩ := r.get e
  have hl := r.len
  rw [List.length_append, List.length_singleton] at hl
  refine ⟨v, by rw [hl, Nat.add_sub_cancel]; exact h1, h2, ?_⟩
  have := r.dropLast
  rwa [List.dropLast_concat] at this
theorem wE_pop {j : Nat} {a : Addr} {ds : List D} {d : D} (h : G[j]? = some (.ow a (.lst (ds ++ [d])))) (q : Q (.sh d) (G.set j (.ow a (.lst ds)))) : wE K Z (tBM0 K "list" rPop (tVar j)) G Q := fun F S0 S σ H Qr s z k => by
  obtain ⟨e, h1, h2, vs, h3, h4⟩ := s.val j _ h
  obtain ⟨v, g1, g2, g3⟩ := h4.last
  refine ⟨_, e, .inl ⟨rfl, _, SqL.of h3⟩, a, vs, v, rfl, rfl, h3, g1, ?_⟩
  exact k _ _ _ _ _ q (Same.refl _) (s.mut h ⟨_, upd_same, g3⟩) g2
end
end PL

/-! PO: statements, loops, comprehensions, calls, a def's promise. -/
namespace PL
open PySem L2

/-- a result goes to slot i -/
def rput (r : R) (i : Nat) (G : Sl) (Q : Sl → Prop) : Prop :=
  Nat.blt i G.length = true ∧ match r with
  | .sh d => Q (G.set i (.sh d))
  | .ow a m => Q (G.set i (.ow a m))
  | .bo j => match G[j]? with
    | some (.ow _ m) => Q ((G.set j (.sh m.toD)).set i (.sh m.toD))
    | _ => False
def rsh : R → Option D
  | .sh d => some d
  | .ow _ m => some m.toD
  | .bo _ => none

section
variable {K : PySem.W.Frag} {Z : Ec} {F S0 S S' : Hp} {G : Sl} {σ : L2.St} {H H' : Hp} {Q : R → Sl → Prop} {P : Po}
theorem blt_lt {i n : Nat} (h : Nat.blt i n = true) : i < n := Nat.lt_of_lt_of_eq (Nat.le_of_ble_eq_true h) rfl
theorem rput_ok {r : R} {i : Nat} {Q : Sl → Prop} {v : V} {Qr : L2.St → Hp → Prop} (h : rput r i G Q) (s : Sat K F S0 G S σ H) (o : ROk K F S H G σ r v)
    (k : ∀ G' S' σ' H', Q G' → Same S S' → Sat K F S0 G' S' σ' H' → Qr σ' H') : Qr (σ.set i (some v)) H := by
  obtain ⟨hi, h⟩ := h
  have hi := blt_lt hi
  cases r with
  | sh d => exact k _ S _ _ h (Same.refl _) (s.setSh hi o)
  | ow a m =>
    obtain ⟨rfl, h1, h2, h3, h4⟩ := o
    exact k _ S _ _ h (Same.refl _) (s.setOw hi h1 h2 h3 h4)
  | bo j =>
    simp only at h
    split at h
    · rename_i a m e
      obtain ⟨e1, _⟩ := s.val j _ e
      have o' : σ[j]? = some (some v) := o
      rw [e1] at o'
      cases o'
      obtain ⟨S', m1, s1, r1⟩ := s.fzSlot e
      exact k _ S' _ _ h m1 (s1.setSh (by simpa using hi) r1)
    · exact h.elim

/-! ### statements -/
theorem wS_nil (h : P.nx G) : wS K Z tNext G P := fun F S0 S σ H D s z k => k.nx G S σ H h (Same.refl _) s
theorem wS_seq {t u : TS} (h : wS K Z t G { P with nx := fun G1 => wS K Z u G1 P }) : wS K Z (tSeq t u) G P := fun F S0 S σ H D s z k =>
  h F S0 S σ H _ s z ⟨fun G' S' σ' H' q m s' => q F S0 S' σ' H' D s' z (k.from m), k.rt, k.bk, k.ct⟩
/-- a word between two statements -/
theorem wS_cut {ts : TS} (M : Sl → Prop) (h : wS K Z ts G { P with nx := M }) (k : ∀ G', M G' → P.nx G') : wS K Z ts G P := h.mono k (fun _ _ q => q) (fun _ q => q) (fun _ q => q)
theorem wS_asg {te : TE} {i : Nat} (h : wE K Z te G fun r G1 => rput r i G1 P.nx) : wS K Z (tAsg te (gName i)) G P := fun F S0 S σ H D s z k =>
  h F S0 S σ H _ s z fun r G' v S' H' q m s' o => rput_ok (Qr := D.nx) q s' o fun G2 S2 σ2 H2 q2 m2 s2 => k.nx G2 S2 σ2 H2 q2 (m.trans m2) s2
/-- any target -/
theorem wS_asgG {te : TE} {g : TG} (h : wE K Z te G fun r G1 => ∃ d, rsh r = some d ∧ wG K g d G1 P.nx) : wS K Z (tAsg te g) G P := fun F S0 S σ H D s z k =>
  evF h s z fun r G' v S' H' q m s' o => by
    obtain ⟨d, e, q⟩ := q
    have r' : Rep K S' v d := by
      cases r with
      | sh d' => cases e; exact o
      | ow a m => cases e; exact o
      | bo i => cases e
    exact q F S0 S' σ H' v _ s' r' fun G2 S2 σ2 H2 q2 m2 s2 => k.nx G2 S2 σ2 H2 q2 (m.trans m2) s2
theorem wG_name {i : Nat} {d : D} {Q : Sl → Prop} (q : Nat.blt i G.length = true ∧ Q (G.set i (.sh d))) : wG K (gName i) d G Q := fun F S0 S σ H v Qr s r k =>
  k _ S _ _ q.2 (Same.refl _) (s.setSh (blt_lt q.1) r)
theorem wGs_nil {Q : Sl → Prop} (q : Q G) : wGs K gNil [] G Q := fun F S0 S σ H vs Qr s r k => by
  cases r
  exact ⟨rfl, k G S σ H q (Same.refl _) s⟩
theorem wGs_cons {g : TG} {gs : TGs} {d : D} {ds : List D} {Q : Sl → Prop} (h : wG K g d G fun G1 => wGs K gs ds G1 Q) : wGs K (gCons g gs) (d :: ds) G Q := fun F S0 S σ H vs Qr s r k => by
  cases r with
  | cons a b =>
    rename_i v vs
    refine ⟨v, vs, rfl, h F S0 S σ H v _ s a fun G1 S1 σ1 H1 q1 m1 s1 => ?_⟩
    exact q1 F S0 S1 σ1 H1 vs Qr s1 (b.mono m1) fun G2 S2 σ2 H2 q2 m2 s2 => k G2 S2 σ2 H2 q2 (m1.trans m2) s2
theorem wG_tup {n : Nat} {gs : TGs} {ds : List D} {Q : Sl → Prop} (h : Nat.beq ds.length n = true ∧ wGs K gs ds G Q) : wG K (gTup K n gs) (.tup ds) G Q := fun F S0 S σ H v Qr s r k => by
  cases r
  rename_i a xs h1 h2
  exact ⟨a, xs, rfl, SqT.of (s.sh _ _ h1), h2.len.trans (Nat.eq_of_beq_eq_true h.1), h.2 F S0 S σ H xs Qr s h2 k⟩
theorem wS_drop {te : TE} (h : wE K Z te G fun r G1 => P.nx G1) : wS K Z (tDrop te) G P := fun F S0 S σ H D s z k =>
  h F S0 S σ H _ s z fun r G' v S' H' q m s' o => k.nx G' S' σ H' q m s'
theorem wS_ret {te : TE} (h : wE K Z te G P.rt) : wS K Z (tRet te) G P := fun F S0 S σ H D s z k =>
  h F S0 S σ H _ s z fun r G' v S' H' q m s' o => k.rt r G' v S' σ H' q m s' o
/-- hand back an owned object -/
theorem wS_retO {i : Nat} {a : Addr} {m : Mo} (h : G[i]? = some (.ow a m)) (q : P.rt (.ow a m) (G.set i .no)) : wS K Z (tRet (tVar i)) G P := fun F S0 S σ H D s z k => by
  obtain ⟨e, h1, h2, h3⟩ := s.val i _ h
  refine ⟨_, e, k.rt _ (G.set i .no) _ S σ H q (Same.refl _) s.forget ⟨rfl, h1, h2, h3, fun j m' e' => ?_⟩⟩
  by_cases hj : j = i
  · subst hj
    rw [List.getElem?_set_self (List.getElem?_eq_some_iff.mp h).1] at e'; cases e'
  · rw [List.getElem?_set_ne (Ne.symm hj)] at e'
    exact hj (s.sep _ _ _ _ _ e' h)
theorem wS_retN (q : P.rt (.sh .non) G) : wS K Z tRetN G P := fun F S0 S σ H D s z k => k.rt _ G _ S σ H q (Same.refl _) s .non
theorem wS_if {c : TT} {t u : TS} (h : wT K Z c G fun b G1 => (b = true → wS K Z t G1 P) ∧ (b = false → wS K Z u G1 P)) : wS K Z (tIfS c t u) G P := fun F S0 S σ H D s z k =>
  h F S0 S σ H _ s z fun b G' S' H' q m s' => by
    cases b with
    | true => exact q.1 rfl F S0 S' σ H' D s' z (k.from m)
    | false => exact q.2 rfl F S0 S' σ H' D s' z (k.from m)
theorem wS_brk (q : P.bk G) : wS K Z tBreak G P := fun F S0 S σ H D s z k => k.bk G S σ H q (Same.refl _) s
theorem wS_cont (q : P.ct G) : wS K Z tCont G P := fun F S0 S σ H D s z k => k.ct G S σ H q (Same.refl _) s
theorem wS_raise {cls : Value} (q : Z.X cls) : wS K Z (tRaise Z.E cls) G P := fun F S0 S σ H D s z k => z cls H q s.fr
/-- l.append(e), l an owned list in slot i -/
theorem wS_app {i : Nat} {a : Addr} {ds0 : List D} {te : TE} (h0 : G[i]? = some (.ow a (.lst ds0))) (h : wE K Z te G fun r G1 => ∃ ds d, G1[i]? = some (.ow a (.lst ds)) ∧ rsh r = some d ∧ ds.length ≤ 1000000 ∧ P.nx (G1.set i (.ow a (.lst (ds ++ [d]))))) :
    wS K Z (tDrop (tBM K "list" rAppend (tVar i) (tCons te tNil))) G P := fun F S0 S σ H D s z k => by
  obtain ⟨e, _, _, vs0, g1, _⟩ := s.val i _ h0
  refine ⟨_, e, .inl ⟨rfl, _, SqL.of g1⟩, evF h s z fun r G1 v S1 H1 q m s1 o => ?_⟩
  obtain ⟨ds, d, h1, e2, hl, q⟩ := q
  obtain ⟨e', _, _, vs, g3, g4⟩ := s1.val i _ h1
  have r' : Rep K S1 v d := by
    cases r with
    | sh d' => cases e2; exact o
    | ow a m => cases e2; exact o
    | bo i => cases e2
  refine ⟨a, vs, v, rfl, rfl, g3, by rw [g4.len]; exact line_lt hl, k.nx _ S1 σ _ q m (s1.mut h1 ⟨_, upd_same, g4.append (.cons r' .nil)⟩)⟩
/-- l.reverse(), l.clear() -/
theorem wS_rev {i : Nat} {a : Addr} {ds : List D} (h0 : G[i]? = some (.ow a (.lst ds))) (q : P.nx (G.set i (.ow a (.lst ds.reverse)))) : wS K Z (tDrop (tBM0 K "list" rReverse (tVar i))) G P := fun F S0 S σ H D s z k => by
  obtain ⟨e, _, _, vs, g3, g4⟩ := s.val i _ h0
  exact ⟨_, e, .inl ⟨rfl, _, SqL.of g3⟩, a, vs, rfl, rfl, g3, k.nx _ S σ _ q (Same.refl _) (s.mut h0 ⟨_, upd_same, g4.rev⟩)⟩
theorem wS_clear {i : Nat} {a : Addr} {ds : List D} (h0 : G[i]? = some (.ow a (.lst ds))) (q : P.nx (G.set i (.ow a (.lst [])))) : wS K Z (tDrop (tBM0 K "list" rClear (tVar i))) G P := fun F S0 S σ H D s z k => by
  obtain ⟨e, _, _, vs, g3, g4⟩ := s.val i _ h0
  exact ⟨_, e, .inl ⟨rfl, _, SqL.of g3⟩, a, vs, rfl, rfl, g3, k.nx _ S σ _ q (Same.refl _) (s.mut h0 ⟨_, upd_same, .nil⟩)⟩
/-- l[j] = e -/
theorem wS_setL {i : Nat} {a : Addr} {ds0 : List D} {te ti : TE} (h : wE K Z te G fun r G1 => ∃ d, rsh r = some d ∧ G1[i]? = some (.ow a (.lst ds0)) ∧ wE K Z ti G1 fun x G2 => ∃ j n ds, x = .sh (.int j) ∧ G2[i]? = some (.ow a (.lst ds)) ∧ ixN ds.length j = some n ∧ P.nx (G2.set i (.ow a (.lst (ds.set n d))))) :
    wS K Z (tAsg te (gSub (tVar i) ti rSetL)) G P := fun F S0 S σ H D s z k =>
  evF h s z fun r G1 v S1 H1 q m s1 o => by
    obtain ⟨d, e2, h1, q⟩ := q
    obtain ⟨e, _, _, _, _, _⟩ := s1.val i _ h1
    have r' : Rep K S1 v d := by
      cases r with
      | sh d' => cases e2; exact o
      | ow a m => cases e2; exact o
      | bo i => cases e2
    refine ⟨_, e, evF q s1 z fun x G2 u S2 H2 q m2 s2 o2 => ?_⟩
    obtain ⟨j, n, ds, rfl, h2, hn, q⟩ := q
    cases o2
    obtain ⟨e', _, _, vs, g3, g4⟩ := s2.val i _ h2
    exact ⟨a, vs, j, n, rfl, rfl, g3, by rw [g4.len]; exact hn, k.nx _ S2 σ _ q (m.trans m2) (s2.mut h2 ⟨_, upd_same, g4.set n (Rep.mono m2 r')⟩)⟩
/-- d[k] = e, keys tuples -/
theorem wS_putT {i : Nat} {a : Addr} {tv ty : TE} (h : wE K Z tv G fun r G1 => ∃ w d, r = .sh d ∧ dV d = some w ∧ (∃ m, G1[i]? = some (.ow a m)) ∧ wE K Z ty G1 fun y G2 => ∃ ds ks kvs, fz y = .sh (.tup ds) ∧ keysD ds = some ks ∧ G2[i]? = some (.ow a (.dT kvs)) ∧ kvs.length ≤ 1000000 ∧ P.nx (G2.set i (.ow a (.dT (putK kvs ks w))))) :
    wS K Z (sDPut (tVar i) ty tv) G P := fun F S0 S σ H D s z k =>
  evF h s z fun r G1 v S1 H1 q m s1 o => by
    obtain ⟨w, d, rfl, hd, ⟨m0, h1⟩, q⟩ := q
    have ew := dV_rep hd o
    subst ew
    obtain ⟨e, _⟩ := s1.val i _ h1
    refine ⟨_, e, evF q s1 z fun y G2 u S2 H2 q m2 s2 o2 => ?_⟩
    obtain ⟨ds, ks, kvs, e1, e2, h2, hl, q⟩ := q
    rw [e1] at o2
    cases o2
    rename_i b xs g1 g2
    have e3 := keysD_rep e2 g2
    subst e3
    obtain ⟨e', f1, f2, f3⟩ := s2.val i _ h2
    exact ⟨a, _, rfl, DPut.t f3 (s2.sh _ _ g1) (line_lt hl), k.nx _ S2 σ _ q (m.trans m2) (s2.mut h2 upd_same)⟩
theorem wS_putK {i : Nat} {a : Addr} {tv ty : TE} (h : wE K Z tv G fun r G1 => ∃ w d, r = .sh d ∧ dV d = some w ∧ (∃ m, G1[i]? = some (.ow a m)) ∧ wE K Z ty G1 fun y G2 => ∃ e ks kvs, fz y = .sh e ∧ keyD e = some ks ∧ G2[i]? = some (.ow a (.dK kvs)) ∧ kvs.length ≤ 1000000 ∧ P.nx (G2.set i (.ow a (.dK (putK kvs ks w))))) :
    wS K Z (sDPut (tVar i) ty tv) G P := fun F S0 S σ H D s z k =>
  evF h s z fun r G1 v S1 H1 q m s1 o => by
    obtain ⟨w, d, rfl, hd, ⟨m0, h1⟩, q⟩ := q
    have ew := dV_rep hd o
    subst ew
    obtain ⟨e, _⟩ := s1.val i _ h1
    refine ⟨_, e, evF q s1 z fun y G2 u S2 H2 q m2 s2 o2 => ?_⟩
    obtain ⟨ds, ks, kvs, e1, e2, h2, hl, q⟩ := q
    rw [e1] at o2
    have e3 := keyD_rep e2 o2
    subst e3
    obtain ⟨e', f1, f2, f3⟩ := s2.val i _ h2
    exact ⟨a, _, rfl, DPut.k f3 (line_lt hl), k.nx _ S2 σ _ q (m.trans m2) (s2.mut h2 upd_same)⟩

/-! ### loops -/
theorem wS_while {c : TT} {tb : TS} (inv : Nat → Sl → Prop) (m0 : Nat) (h0 : inv m0 G) (h : ∀ m G1, inv m G1 → wT K Z c G1 fun b G2 => (b = true → wS K Z tb G2 ⟨fun G3 => ∃ m', m' < m ∧ inv m' G3, P.rt, P.nx, fun G3 => ∃ m', m' < m ∧ inv m' G3⟩) ∧ (b = false → P.nx G2)) :
    wS K Z (tWhile c tb) G P := fun F S0 S σ H D s z k => by
  refine ⟨fun m σ' H' => ∃ G' S', inv m G' ∧ Same S S' ∧ Sat K F S0 G' S' σ' H', ⟨m0, G, S, h0, Same.refl _, s⟩, ?_⟩
  rintro m σ1 H1 ⟨G1, S1, i1, m1, s1⟩
  refine h m G1 i1 F S0 S1 σ1 H1 _ s1 z fun b G2 S2 H2 q m2 s2 => ?_
  cases b with
  | true =>
    refine ⟨fun σ' H' => ∃ m' G' S', m' < m ∧ inv m' G' ∧ Same S S' ∧ Sat K F S0 G' S' σ' H', ?_, ?_⟩
    · rintro σ' H' ⟨m', G', S', hm, i', mm, s'⟩
      exact ⟨m', hm, G', S', i', mm, s'⟩
    · refine q.1 rfl F S0 S2 σ1 H2 _ s2 z ⟨?_, ?_, ?_, ?_⟩
      · rintro G3 S3 σ3 H3 ⟨m', hm, i'⟩ m3 s3
        exact ⟨m', G3, S3, hm, i', m1.trans (m2.trans m3), s3⟩
      · intro r G3 v S3 σ3 H3 q3 m3 s3 o3
        exact k.rt r G3 v S3 σ3 H3 q3 (m1.trans (m2.trans m3)) s3 o3
      · intro G3 S3 σ3 H3 q3 m3 s3
        exact k.nx G3 S3 σ3 H3 q3 (m1.trans (m2.trans m3)) s3
      · rintro G3 S3 σ3 H3 ⟨m', hm, i'⟩ m3 s3
        exact ⟨m', G3, S3, hm, i', m1.trans (m2.trans m3), s3⟩
  | false => exact k.nx G2 S2 σ1 H2 (q.2 rfl) (m1.trans m2) s2
/-- the core of a for over what stands still: items are read as data -/
theorem for_core {J : L2.It} {g : TG} {tb : TS} {En : Ends} (n : Nat) (inv : Nat → Sl → Prop) (item : Nat → D → Prop) (z : hZ Z F) (s : Sat K F S0 G S σ H) (k : POk K F S0 S P En) (h0 : inv 0 G)
    (hgo : ∀ i G' S' σ' H', i < n → inv i G' → Same S S' → Sat K F S0 G' S' σ' H' → J.go i H' ∧ ∀ x H2, J.yld i H' x H2 → H2 = H' ∧ ∃ d, item i d ∧ Rep K S' x d)
    (hstop : ∀ G' S' σ' H', inv n G' → Same S S' → Sat K F S0 G' S' σ' H' → J.stop n H')
    (hs : ∀ i d G', i < n → item i d → inv i G' → wG K g d G' fun G2 => wS K Z tb G2 ⟨inv (i + 1), P.rt, P.nx, inv (i + 1)⟩) (hd : ∀ G', inv n G' → P.nx G') :
    ∃ W : Nat → Nat → L2.St → Hp → Prop, (∃ m, W 0 m σ H) ∧ ∀ i m σ H, W i m σ H →
      (J.stop i H ∧ En.nx σ H) ∨ (J.go i H ∧ ∃ N : L2.St → Hp → Prop, (∀ σ' H', N σ' H' → ∃ m', m' < m ∧ W (i + 1) m' σ' H') ∧ ∀ x H', J.yld i H x H' → g x σ H' fun σ2 H2 => tb { En with nx := N, ct := N, bk := En.nx } σ2 H2) := by
  refine ⟨fun i m σ' H' => m = n - i ∧ i ≤ n ∧ ∃ G' S', inv i G' ∧ Same S S' ∧ Sat K F S0 G' S' σ' H', ⟨n, by simp, Nat.zero_le _, G, S, h0, Same.refl _, s⟩, ?_⟩
  rintro i m σ1 H1 ⟨rfl, hi, G1, S1, i1, m1, s1⟩
  by_cases hlt : i < n
  · obtain ⟨hg, hy⟩ := hgo i G1 S1 σ1 H1 hlt i1 m1 s1
    refine .inr ⟨hg, fun σ' H' => ∃ G' S', inv (i + 1) G' ∧ Same S S' ∧ Sat K F S0 G' S' σ' H', ?_, fun x H2 y => ?_⟩
    · rintro σ' H' ⟨G', S', i', mm, s'⟩
      exact ⟨n - (i + 1), by omega, rfl, hlt, G', S', i', mm, s'⟩
    · obtain ⟨rfl, d, hit, r⟩ := hy x H2 y
      refine hs i d G1 hlt hit i1 F S0 S1 σ1 H2 x _ s1 r fun G2 S2 σ2 H3 q2 m2 s2 => ?_
      refine q2 F S0 S2 σ2 H3 _ s2 z ⟨?_, ?_, ?_, ?_⟩
      · intro G3 S3 σ3 H3 q3 m3 s3
        exact ⟨G3, S3, q3, m1.trans (m2.trans m3), s3⟩
      · intro r G3 v S3 σ3 H3 q3 m3 s3 o3
        exact k.rt r G3 v S3 σ3 H3 q3 (m1.trans (m2.trans m3)) s3 o3
      · intro G3 S3 σ3 H3 q3 m3 s3
        exact k.nx G3 S3 σ3 H3 q3 (m1.trans (m2.trans m3)) s3
      · intro G3 S3 σ3 H3 q3 m3 s3
        exact ⟨G3, S3, q3, m1.trans (m2.trans m3), s3⟩
  · have e : i = n := by omega
    subst e
    exact .inl ⟨hstop G1 S1 σ1 H1 i1 m1 s1, k.nx G1 S1 σ1 H1 (hd G1 i1) m1 s1⟩
theorem rsh_ok {r : R} {v : V} {d : D} (e : rsh r = some d) (o : FOk K S σ (fz r) v) : Rep K S v d := by
  cases r with
  | sh d' => cases e; exact o
  | ow a m => cases e; exact o
  | bo i => cases e
theorem wS_forL {tl : TE} {g : TG} {tb : TS} (h : wE K Z tl G fun r G1 => Ask (∃ ds, rsh r = some (.lst ds) ∧ ∃ inv : Nat → Sl → Prop, inv 0 G1 ∧
    (∀ i d G2, ds[i]? = some d → inv i G2 → wG K g d G2 fun G3 => wS K Z tb G3 ⟨inv (i + 1), P.rt, P.nx, inv (i + 1)⟩) ∧ ∀ G2, inv ds.length G2 → P.nx G2)) : wS K Z (tFor (iList K tl) g tb) G P := fun F S0 S σ H D s z k =>
  evF h s z fun r G1 v S1 H1 q m1 s1 o => by
    obtain ⟨ds, e, inv, h0, hs, hd⟩ := q
    have r' := rsh_ok e o
    cases r'
    rename_i a xs h1 h2
    refine ⟨a, rfl, ⟨xs, SqL.of (s1.sh _ _ h1)⟩, for_core ds.length inv (fun i d => ds[i]? = some d) z s1 (k.from m1) h0 (fun i G' S' σ' H' hi _ m s' => ?_) (fun G' S' σ' H' _ m s' => ?_) (fun i d G' _ hi q => hs i d G' hi q) hd⟩
    · have h1' := s'.sh _ _ (m _ _ h1)
      have hi' : i < xs.length := by rw [h2.len]; exact hi
      refine ⟨⟨xs, xs[i], SqL.of h1', by simp [hi']⟩, fun x H2 y => ⟨y.1, ?_⟩⟩
      obtain ⟨d, hd, rd⟩ := h2.getV (y.2 xs (SqL.of h1'))
      exact ⟨d, hd, rd.mono m⟩
    · exact ⟨xs, SqL.of (s'.sh _ _ (m _ _ h1)), by rw [h2.len]; exact Nat.le_refl _⟩
/-- over an owned list that the body leaves as it is -/
theorem wS_forB {j : Nat} {a : Addr} {ds : List D} {g : TG} {tb : TS} (h : G[j]? = some (.ow a (.lst ds))) (inv : Nat → Sl → Prop) (hk : ∀ i G2, inv i G2 → ∃ j' : Nat, G2[j']? = some (Slot.ow a (.lst ds))) (h0 : inv 0 G)
    (hs : ∀ i d G2, ds[i]? = some d → inv i G2 → wG K g d G2 fun G3 => wS K Z tb G3 ⟨inv (i + 1), P.rt, P.nx, inv (i + 1)⟩) (hd : ∀ G2, inv ds.length G2 → P.nx G2) : wS K Z (tFor (iList K (tVar j)) g tb) G P := fun F S0 S σ H D s z k => by
  obtain ⟨e, _, _, vs, g1, g2⟩ := s.val j _ h
  refine ⟨_, e, a, rfl, ⟨vs, SqL.of g1⟩, for_core ds.length inv (fun i d => ds[i]? = some d) z s k h0 (fun i G' S' σ' H' hi iv m s' => ?_) (fun G' S' σ' H' iv m s' => ?_) (fun i d G' _ hi q => hs i d G' hi q) hd⟩
  · obtain ⟨j', hj'⟩ := hk i G' iv
    obtain ⟨_, _, _, vs', g1', g2'⟩ := s'.val j' _ hj'
    have hi' : i < vs'.length := by rw [g2'.len]; exact hi
    refine ⟨⟨vs', vs'[i], SqL.of g1', by simp [hi']⟩, fun x H2 y => ⟨y.1, ?_⟩⟩
    obtain ⟨d, hd, rd⟩ := g2'.getV (y.2 vs' (SqL.of g1'))
    exact ⟨d, hd, rd⟩
  · obtain ⟨j', hj'⟩ := hk _ G' iv
    obtain ⟨_, _, _, vs', g1', g2'⟩ := s'.val j' _ hj'
    exact ⟨vs', SqL.of g1', by rw [g2'.len]; exact Nat.le_refl _⟩
theorem wS_forT {tl : TE} {g : TG} {tb : TS} (h : wE K Z tl G fun r G1 => Ask (∃ ds, r = .sh (.tup ds) ∧ ∃ inv : Nat → Sl → Prop, inv 0 G1 ∧
    (∀ i d G2, ds[i]? = some d → inv i G2 → wG K g d G2 fun G3 => wS K Z tb G3 ⟨inv (i + 1), P.rt, P.nx, inv (i + 1)⟩) ∧ ∀ G2, inv ds.length G2 → P.nx G2)) : wS K Z (tFor (iTup K tl) g tb) G P := fun F S0 S σ H D s z k =>
  evF h s z fun r G1 v S1 H1 q m1 s1 o => by
    obtain ⟨ds, rfl, inv, h0, hs, hd⟩ := q
    cases o
    rename_i a xs h1 h2
    refine ⟨a, rfl, ⟨xs, SqT.of (s1.sh _ _ h1)⟩, for_core ds.length inv (fun i d => ds[i]? = some d) z s1 (k.from m1) h0 (fun i G' S' σ' H' hi _ m s' => ?_) (fun G' S' σ' H' _ m s' => ?_) (fun i d G' _ hi q => hs i d G' hi q) hd⟩
    · have h1' := s'.sh _ _ (m _ _ h1)
      have hi' : i < xs.length := by rw [h2.len]; exact hi
      refine ⟨⟨xs, xs[i], SqT.of h1', by simp [hi']⟩, fun x H2 y => ⟨y.1, ?_⟩⟩
      obtain ⟨d, hd, rd⟩ := h2.getV (y.2 xs (SqT.of h1'))
      exact ⟨d, hd, rd.mono m⟩
    · exact ⟨xs, SqT.of (s'.sh _ _ (m _ _ h1)), by rw [h2.len]; exact Nat.le_refl _⟩
theorem wS_forR1 {ta : TA} {g : TG} {tb : TS} (h : wA K Z ta G fun rs G1 => Ask (∃ n : Int, rs = [.sh (.int n)] ∧ n ≤ 1000000 ∧ -1000000 ≤ n ∧ ∃ inv : Nat → Sl → Prop, inv 0 G1 ∧
    (∀ (i : Nat) G2, (i : Int) < n → inv i G2 → wG K g (.int (i : Nat)) G2 fun G3 => wS K Z tb G3 ⟨inv (i + 1), P.rt, P.nx, inv (i + 1)⟩) ∧ ∀ G2, inv n.toNat G2 → P.nx G2)) : wS K Z (tFor (iRng1 ta) g tb) G P := fun F S0 S σ H D s z k =>
  h F S0 S σ H _ s z fun rs G1 vs S1 H1 q m1 s1 o => by
    obtain ⟨n, rfl, b1, b2, inv, h0, hs, hd⟩ := q
    obtain ⟨v, rfl, o1⟩ := fs1 o
    cases o1
    refine ⟨n, rfl, by omega, by omega, for_core n.toNat inv (fun i d => d = .int (i : Nat)) z s1 (k.from m1) h0 (fun i G' S' σ' H' hi _ m s' => ⟨hi, fun x H2 y => ⟨y.1, .int (i : Nat), rfl, ?_⟩⟩) (fun G' S' σ' H' _ m s' => Nat.le_refl _) (fun i d G' hi e q => by rw [e]; exact hs i G' (by omega) q) hd⟩
    rw [y.2, Int.zero_add]
    exact .int _
theorem wS_forR2 {ta : TA} {g : TG} {tb : TS} (h : wA K Z ta G fun rs G1 => Ask (∃ lo n : Int, rs = [.sh (.int lo), .sh (.int n)] ∧ (n ≤ 1000000 ∧ -1000000 ≤ n ∧ lo ≤ 1000000 ∧ -1000000 ≤ lo) ∧ ∃ inv : Nat → Sl → Prop, inv 0 G1 ∧
    (∀ (i : Nat) G2, lo + (i : Int) < n → inv i G2 → wG K g (.int (lo + (i : Nat))) G2 fun G3 => wS K Z tb G3 ⟨inv (i + 1), P.rt, P.nx, inv (i + 1)⟩) ∧ ∀ G2, inv (n - lo).toNat G2 → P.nx G2)) : wS K Z (tFor (iRng2 ta) g tb) G P := fun F S0 S σ H D s z k =>
  h F S0 S σ H _ s z fun rs G1 vs S1 H1 q m1 s1 o => by
    obtain ⟨lo, n, rfl, ⟨b1, b2, b3, b4⟩, inv, h0, hs, hd⟩ := q
    obtain ⟨v, u, rfl, o1, o2⟩ := fs2 o
    cases o1; cases o2
    refine ⟨lo, n, rfl, ⟨by omega, by omega, by omega, by omega⟩, for_core (n - lo).toNat inv (fun i d => d = .int (lo + (i : Nat))) z s1 (k.from m1) h0 (fun i G' S' σ' H' hi _ m s' => ⟨hi, fun x H2 y => ⟨y.1, .int (lo + (i : Nat)), rfl, ?_⟩⟩) (fun G' S' σ' H' _ m s' => Nat.le_refl _) (fun i d G' hi e q => by rw [e]; exact hs i G' (by omega) q) hd⟩
    rw [y.2]
    exact .int _
end
end PL

/-! PQ: comprehensions, calls, a def's promise. -/
namespace PL
open PySem L2

def keepOw : Sl → Sl → Prop
  | [], _ => True
  | .ow a m :: r, s :: t => s = .ow a m ∧ keepOw r t
  | _ :: r, _ :: t => keepOw r t
  | _ :: _, [] => False
theorem keepOw_ok : ∀ {G G' : Sl} {i : Nat} {a : Addr} {m : Mo}, keepOw G G' → G[i]? = some (.ow a m) → G'[i]? = some (.ow a m)
  | [], _, i, _, _, _, e => by simp at e
  | s :: r, [], i, a, m, h, e => by cases s <;> exact h.elim
  | s :: r, t :: u, 0, a, m, h, e => by
    simp at e; subst e
    obtain ⟨h1, _⟩ := h
    subst h1; rfl
  | s :: r, t :: u, i + 1, a, m, h, e => by
    have h' : keepOw r u := by cases s <;> first | exact h | exact h.2
    simpa using keepOw_ok h' (by simpa using e)
theorem keepOw_refl : ∀ G : Sl, keepOw G G
  | [] => trivial
  | s :: r => by cases s <;> first | exact keepOw_refl r | exact ⟨rfl, keepOw_refl r⟩

section
variable {K : PySem.W.Frag} {Z : Ec} {F S0 S S' : Hp} {G : Sl} {σ : L2.St} {H H' : Hp} {Q : R → Sl → Prop} {P : Po}
theorem wT_yes {Q : Bool → Sl → Prop} (q : Q true G) : wT K Z tYes G Q := fun F S0 S σ H Qr s z k => k true G S H q (Same.refl _) s
/-- an anonymous object is guarded -/
theorem Sat.guard {p : Addr} {o : HO} (s : Sat K F S0 G S σ H) (hp : H p = some o) (hF : F p = none) (hS : S p = none) (hn : ∀ (i : Nat) (m' : Mo), G[i]? ≠ some (Slot.ow p m')) :
    Sat K (upd F p o) (fun b => if b = p then none else S0 b) G S σ H := by
  refine ⟨s.len, s.sh, fun b u e => ?_, fun b u e n => ?_, fun i sl e => ?_, s.sep⟩
  · by_cases hb : b = p
    · subst hb; rw [upd_same] at e; rw [hp]; exact e
    · rw [upd_ne hb] at e; exact s.fr b u e
  · by_cases hb : b = p
    · subst hb; simp only [if_true]; exact hS
    · rw [upd_ne hb] at e; simp only [if_neg hb]; exact s.am b u e n
  · have h := s.val i sl e
    cases sl with
    | no => trivial
    | sh d => exact h
    | ow a m =>
      have ha : a ≠ p := fun z => by subst z; exact hn i m e
      exact ⟨h.1, by rw [upd_ne ha]; exact h.2.1, h.2.2.1, h.2.2.2⟩
theorem hZ_guard {p : Addr} {o : HO} (z : hZ Z F) (hF : F p = none) : hZ Z (upd F p o) := fun c H' x m => z c H' x ((same_new hF).trans m)
/-- the slot of the comprehension's name is forgotten -/
theorem Sat.wiped {j : Nat} (s : Sat K F S0 G S σ H) : Sat K F S0 (G.set j .no) S (wipe σ [j]) H := by
  have s1 := s.forget (i := j)
  refine ⟨by simp [wipe, s.len], s1.sh, s1.fr, s1.am, fun i sl e => ?_, s1.sep⟩
  by_cases hj : i = j
  · subst hj
    by_cases hi : i < G.length
    · rw [List.getElem?_set_self hi] at e; cases e; trivial
    · rw [List.getElem?_eq_none (by simp; omega)] at e; cases e
  · have h := s1.val i sl e
    show SlOk K F S H sl (σ.set j none)[i]?
    rw [List.getElem?_set_ne (Ne.symm hj)]
    exact h
theorem wipe_turn (σ : L2.St) (j : Nat) (x : Option V) : wipe ((wipe σ [j]).set j x) [j] = wipe σ [j] := by
  show ((σ.set j none).set j x).set j none = σ.set j none
  rw [List.set_set, List.set_set]
/-- behind a turn: the def's own slots again -/
theorem Sat.back {G4 : Sl} {S4 : Hp} {σ4 : L2.St} {p : Addr} {o : HO} {H4 : Hp} (s : Sat K F S0 G S σ H) (hF : F p = none) (m : Same S S4) (s4 : Sat K (upd F p o) (fun b => if b = p then none else S0 b) G4 S4 σ4 H4) (hk : keepOw G G4) :
    Sat K F S0 G S4 σ H4 := by
  refine ⟨s.len, s4.sh, (same_new hF).trans s4.fr, fun b u e n => ?_, fun i sl e => ?_, s.sep⟩
  · have hb : b ≠ p := fun z => by subst z; rw [hF] at e; cases e
    have := s4.am b u (by rw [upd_ne hb]; exact e) n
    simpa only [if_neg hb] using this
  · have h := s.val i sl e
    cases sl with
    | no => trivial
    | sh d =>
      obtain ⟨v, e1, r⟩ := h
      exact ⟨v, e1, r.mono m⟩
    | ow a mo =>
      have h4 := s4.val i _ (keepOw_ok hk e)
      exact ⟨h.1, h.2.1, h4.2.2.1, h4.2.2.2⟩
theorem filterMap_range_succ {α : Type} (out : Nat → Option α) (i : Nat) : (List.range (i + 1)).filterMap out = (List.range i).filterMap out ++ (out i).toList := by
  rw [List.range_succ, List.filterMap_append]
  cases h : out i <;> simp [h]
theorem filterMap_range_len {α : Type} (out : Nat → Option α) (i : Nat) : ((List.range i).filterMap out).length ≤ i := by
  have := List.length_filterMap_le out (List.range i)
  rwa [List.length_range] at this
/-- the core of a comprehension -/
theorem lc_core' {J : L2.It} {j : Nat} {tt : TT} {te : TE} {Qd : VK} {p : Addr} (n : Nat) (out : Nat → Option D) (item : Nat → D → Prop) (z : hZ Z F) (s : Sat K F S0 G S σ H) (hp : H p = none) (hn : n ≤ 1000000)
    (hgo : ∀ i S' H', i < n → Same S S' → Sat K F S0 G S' σ H' → J.go i H' ∧ ∀ x H2, J.yld i H' x H2 → H2 = H' ∧ ∃ d, item i d ∧ Rep K S' x d)
    (hstop : ∀ S' H', Same S S' → Sat K F S0 G S' σ H' → J.stop n H') (hj : j < G.length)
    (hs : ∀ i d, i < n → item i d → wT K Z tt ((G.set j .no).set j (.sh d)) fun b G2 => (b = true → wE K Z te G2 fun r G3 => ∃ e, rsh r = some e ∧ out i = some e ∧ keepOw G G3) ∧ (b = false → out i = none ∧ keepOw G G2))
    (hd : ∀ S' H', Same S S' → Sat K F S0 G S' σ H' → S' p = none → (∃ vs, H' p = some (.lst vs) ∧ RepA K S' vs ((List.range n).filterMap out)) → Qd (.ref p) H') :
    ∃ W : Nat → Nat → Hp → Prop, (∃ m, W 0 m (upd H p (.lst []))) ∧ ∀ i m H, W i m H →
      (J.stop i H ∧ Qd (.ref p) H) ∨ (J.go i H ∧ ∃ Nx : Hp → Prop, (∀ H', Nx H' → ∃ m', m' < m ∧ W (i + 1) m' H') ∧ ∀ x H', J.yld i H x H' → gName j x (wipe σ [j]) H' fun σ2 H2 => wipe σ2 [j] = wipe σ [j] ∧ tt σ2 H2 fun b H3 =>
        if b = true then te σ2 H3 fun y H4 => ∃ acc, H4 p = some (.lst acc) ∧ acc.length < sizeLine ∧ Nx (upd H4 p (.lst (acc ++ [y]))) else Nx H3) := by
  have hF := s.unfr hp
  have hS := s.unsh hp
  have hno := s.noow hp
  let I : Nat → Hp → Prop := fun i H' => ∃ S' vs, Same S S' ∧ Sat K F S0 G S' σ H' ∧ S' p = none ∧ H' p = some (.lst vs) ∧ RepA K S' vs ((List.range i).filterMap out)
  refine ⟨fun i m H' => m = n - i ∧ i ≤ n ∧ I i H', ⟨n, by simp, Nat.zero_le _, S, [], Same.refl _, s.grow (same_new hp), hS, upd_same, .nil⟩, ?_⟩
  rintro i m H1 ⟨rfl, hi, S1, vs, m1, s1, hS1, hH1, hr1⟩
  by_cases hlt : i < n
  · obtain ⟨hg, hy⟩ := hgo i S1 H1 hlt m1 s1
    refine .inr ⟨hg, I (i + 1), fun H' q => ⟨n - (i + 1), by omega, rfl, hlt, q⟩, fun x H2 y => ?_⟩
    obtain ⟨rfl, d, hit, r⟩ := hy x H2 y
    refine ⟨wipe_turn σ j _, ?_⟩
    have sg := (s1.guard hH1 hF hS1 hno)
    have zg : hZ Z (upd F p (.lst vs)) := hZ_guard z hF
    have sw := (sg.wiped (j := j)).setSh (i := j) (by simpa using hj) r
    have hs' := hs i d hlt hit
    refine hs' _ _ _ _ _ _ sw zg fun b G2 S2 H3 q m2 s2 => ?_
    have p2 : ∀ {S3 : Hp} {G3 : Sl} {σ3 : L2.St} {H3 : Hp}, Sat K (upd F p (.lst vs)) (fun b => if b = p then none else S0 b) G3 S3 σ3 H3 → S3 p = none ∧ H3 p = some (.lst vs) := fun {S3 G3 σ3 H3} s3 =>
      ⟨by have := s3.am p _ upd_same (fun xs z => by cases z); simpa using this, s3.fr p _ upd_same⟩
    cases b with
    | true =>
      refine evF (q.1 rfl) s2 zg fun r G3 v S3 H4 q3 m3 s3 o3 => ?_
      obtain ⟨e, e1, e2, hk⟩ := q3
      obtain ⟨a1, a2⟩ := p2 s3
      have rv := rsh_ok e1 o3
      have sb := s1.back hF (m2.trans m3) s3 hk
      have sb2 : Sat K F S0 G S3 σ (upd H4 p (.lst (vs ++ [v]))) := by
        refine ⟨sb.len, fun b u eb => ?_, fun b u eb => ?_, sb.am, fun k sl ek => ?_, sb.sep⟩
        · have hb : b ≠ p := fun z => by subst z; rw [a1] at eb; cases eb
          rw [upd_ne hb]; exact sb.sh b u eb
        · have hb : b ≠ p := fun z => by subst z; rw [hF] at eb; cases eb
          rw [upd_ne hb]; exact sb.fr b u eb
        · have h := sb.val k sl ek
          cases sl with
          | no => trivial
          | sh d => exact h
          | ow a mo =>
            have ha : a ≠ p := fun z => by subst z; exact hno k mo ek
            exact ⟨h.1, h.2.1, h.2.2.1, h.2.2.2.mono (Same.refl _) fun u q => by rw [upd_ne ha]; exact q⟩
      refine ⟨vs, a2, ?_, S3, vs ++ [v], m1.trans (m2.trans m3), sb2, a1, upd_same, ?_⟩
      · rw [hr1.len]
        exact line_lt (Nat.le_trans (filterMap_range_len out i) (by omega))
      · rw [filterMap_range_succ, e2]
        exact (hr1.mono (m2.trans m3)).append (.cons rv .nil)
    | false =>
      obtain ⟨e2, hk⟩ := q.2 rfl
      obtain ⟨a1, a2⟩ := p2 s2
      refine ⟨S2, vs, m1.trans m2, s1.back hF m2 s2 hk, a1, a2, ?_⟩
      rw [filterMap_range_succ, e2]
      simpa using hr1.mono m2
  · have e : i = n := by omega
    subst e
    exact .inl ⟨hstop S1 H1 m1 s1, hd S1 H1 m1 s1 hS1 ⟨vs, hH1, hr1⟩⟩
theorem range_get {α β : Type} (f : α → Option β) : ∀ ds : List α, (List.range ds.length).filterMap (fun i => ds[i]?.bind f) = ds.filterMap f
  | [] => rfl
  | d :: ds => by
    rw [List.length_cons, List.range_succ_eq_map, List.filterMap_cons, List.filterMap_map]
    have h := range_get f ds
    have e : ((fun i => (d :: ds)[i]?.bind f) ∘ Nat.succ) = fun i => ds[i]?.bind f := by
      funext i
      show ((d :: ds)[i + 1]?).bind f = _
      rw [List.getElem?_cons_succ]
    rw [e, h, List.filterMap_cons]
    show (match f d with | none => ds.filterMap f | some b => b :: ds.filterMap f) = _
    cases f d <;> rfl
abbrev LcEl (K : PySem.W.Frag) (Z : Ec) (tt : TT) (te : TE) (j : Nat) (f : D → Option D) (G : Sl) (d : D) : Prop :=
  wT K Z tt ((G.set j .no).set j (.sh d)) fun b G2 => (b = true → wE K Z te G2 fun r G3 => ∃ e, rsh r = some e ∧ f d = some e ∧ keepOw G G3) ∧ (b = false → f d = none ∧ keepOw G G2)
theorem lc_fin {j : Nat} {ds : List D} {f : D → Option D} {v : V} {p : Addr} {Qr : VK} (s1 : Sat K F S0 G S σ H) (k : kE K F S0 S σ Q Qr) (hp : H p = none) (q : ∀ a, Q (.ow a (.lst (ds.filterMap f))) G) {S' H' : Hp} (m : Same S S') (s' : Sat K F S0 G S' σ H') (h1 : S' p = none)
    (h2 : ∃ vs, H' p = some (.lst vs) ∧ RepA K S' vs (ds.filterMap f)) : Qr (.ref p) H' :=
  k _ _ _ _ _ (q p) m s' ⟨rfl, s1.unfr hp, h1, h2, s1.noow hp⟩
theorem wE_lcL {tl : TE} {tt : TT} {te : TE} {j : Nat} (f : D → Option D) (h : wE K Z tl G fun r G1 => Ask (∃ ds, rsh r = some (.lst ds) ∧ Nat.blt j G1.length = true ∧ ds.length ≤ 1000000 ∧ (∀ d ∈ ds, LcEl K Z tt te j f G1 d) ∧ ∀ a, Q (.ow a (.lst (ds.filterMap f))) G1)) :
    wE K Z (tLc (iList K tl) (gName j) tt te [j]) G Q := fun F S0 S σ H Qr s z k =>
  evF h s z fun r G1 v S1 H1 q m1 s1 o => by
    obtain ⟨ds, e, hj, hl, hs, q⟩ := q
    have r' := rsh_ok e o
    cases r'
    rename_i a xs h1 h2
    refine ⟨a, rfl, ⟨xs, SqL.of (s1.sh _ _ h1)⟩, fun p hp => lc_core' ds.length (fun i => ds[i]?.bind f) (fun i d => ds[i]? = some d) z s1 hp hl (fun i S' H' hi m s' => ?_) (fun S' H' m s' => ?_) (blt_lt hj) (fun i d hi e => ?_) fun S' H' m s' g1 g2 => ?_⟩
    · have h1' := s'.sh _ _ (m _ _ h1)
      have hi' : i < xs.length := by rw [h2.len]; exact hi
      refine ⟨⟨xs, xs[i], SqL.of h1', by simp [hi']⟩, fun x H2 y => ⟨y.1, ?_⟩⟩
      obtain ⟨d, hd, rd⟩ := h2.getV (y.2 xs (SqL.of h1'))
      exact ⟨d, hd, rd.mono m⟩
    · exact ⟨xs, SqL.of (s'.sh _ _ (m _ _ h1)), by rw [h2.len]; exact Nat.le_refl _⟩
    · simp only [e, Option.bind_some]
      exact hs d (List.mem_of_getElem? e)
    · rw [range_get] at g2
      exact lc_fin (v := V.ref a) (j := j) s1 (k.from m1) hp q m s' g1 g2
/-- over an owned list -/
theorem wE_lcB {i0 : Nat} {a : Addr} {ds : List D} {tt : TT} {te : TE} {j : Nat} (f : D → Option D) (h : G[i0]? = some (.ow a (.lst ds))) (hj : Nat.blt j G.length = true) (hl : ds.length ≤ 1000000) (hs : ∀ d ∈ ds, LcEl K Z tt te j f G d) (q : ∀ a, Q (.ow a (.lst (ds.filterMap f))) G) :
    wE K Z (tLc (iList K (tVar i0)) (gName j) tt te [j]) G Q := fun F S0 S σ H Qr s z k => by
  obtain ⟨e, _, _, vs, g1, g2⟩ := s.val i0 _ h
  refine ⟨_, e, a, rfl, ⟨vs, SqL.of g1⟩, fun p hp => lc_core' ds.length (fun i => ds[i]?.bind f) (fun i d => ds[i]? = some d) z s hp hl (fun i S' H' hi m s' => ?_) (fun S' H' m s' => ?_) (blt_lt hj) (fun i d hi e => ?_) fun S' H' m s' g1 g2 => ?_⟩
  · obtain ⟨_, _, _, vs', g1', g2'⟩ := s'.val i0 _ h
    have hi' : i < vs'.length := by rw [g2'.len]; exact hi
    refine ⟨⟨vs', vs'[i], SqL.of g1', by simp [hi']⟩, fun x H2 y => ⟨y.1, ?_⟩⟩
    obtain ⟨d, hd, rd⟩ := g2'.getV (y.2 vs' (SqL.of g1'))
    exact ⟨d, hd, rd⟩
  · obtain ⟨_, _, _, vs', g1', g2'⟩ := s'.val i0 _ h
    exact ⟨vs', SqL.of g1', by rw [g2'.len]; exact Nat.le_refl _⟩
  · simp only [e, Option.bind_some]
    exact hs d (List.mem_of_getElem? e)
  · rw [range_get] at g2
    exact lc_fin (v := V.ref a) (j := j) s k hp q m s' g1 g2
theorem wE_lcT {tl : TE} {tt : TT} {te : TE} {j : Nat} (f : D → Option D) (h : wE K Z tl G fun r G1 => Ask (∃ ds, r = .sh (.tup ds) ∧ Nat.blt j G1.length = true ∧ ds.length ≤ 1000000 ∧ (∀ d ∈ ds, LcEl K Z tt te j f G1 d) ∧ ∀ a, Q (.ow a (.lst (ds.filterMap f))) G1)) :
    wE K Z (tLc (iTup K tl) (gName j) tt te [j]) G Q := fun F S0 S σ H Qr s z k =>
  evF h s z fun r G1 v S1 H1 q m1 s1 o => by
    obtain ⟨ds, rfl, hj, hl, hs, q⟩ := q
    cases o
    rename_i a xs h1 h2
    refine ⟨a, rfl, ⟨xs, SqT.of (s1.sh _ _ h1)⟩, fun p hp => lc_core' ds.length (fun i => ds[i]?.bind f) (fun i d => ds[i]? = some d) z s1 hp hl (fun i S' H' hi m s' => ?_) (fun S' H' m s' => ?_) (blt_lt hj) (fun i d hi e => ?_) fun S' H' m s' g1 g2 => ?_⟩
    · have h1' := s'.sh _ _ (m _ _ h1)
      have hi' : i < xs.length := by rw [h2.len]; exact hi
      refine ⟨⟨xs, xs[i], SqT.of h1', by simp [hi']⟩, fun x H2 y => ⟨y.1, ?_⟩⟩
      obtain ⟨d, hd, rd⟩ := h2.getV (y.2 xs (SqT.of h1'))
      exact ⟨d, hd, rd.mono m⟩
    · exact ⟨xs, SqT.of (s'.sh _ _ (m _ _ h1)), by rw [h2.len]; exact Nat.le_refl _⟩
    · simp only [e, Option.bind_some]
      exact hs d (List.mem_of_getElem? e)
    · rw [range_get] at g2
      exact lc_fin (v := V.ref a) (j := j) s1 (k.from m1) hp q m s' g1 g2
/-- over a text's signs -/
theorem wE_lcS {tl : TE} {tt : TT} {te : TE} {j : Nat} (f : D → Option D) (h : wE K Z tl G fun r G1 => Ask (∃ l : List Nat, r = .sh (tx l) ∧ Nat.blt j G1.length = true ∧ l.length ≤ 1000000 ∧ (∀ c ∈ l, LcEl K Z tt te j f G1 (tx [c])) ∧ ∀ a, Q (.ow a (.lst ((l.map fun c => tx [c]).filterMap f))) G1)) :
    wE K Z (tLc (iStr tl) (gName j) tt te [j]) G Q := fun F S0 S σ H Qr s z k =>
  evF h s z fun r G1 v S1 H1 q m1 s1 o => by
    obtain ⟨l, rfl, hj, hl, hs, q⟩ := q
    cases o
    have hsz : (mk l).cps.size = (l.map fun c => tx [c]).length := by simp [mk]
    refine ⟨_, rfl, fun p hp => lc_core' (l.map fun c => tx [c]).length (fun i => (l.map fun c => tx [c])[i]?.bind f) (fun i d => (l.map fun c => tx [c])[i]? = some d) z s1 hp (by simpa using hl) (fun i S' H' hi m s' => ?_) (fun S' H' m s' => ?_) (blt_lt hj) (fun i d hi e => ?_) fun S' H' m s' g1 g2 => ?_⟩
    · refine ⟨by show i < (mk l).cps.size; rw [hsz]; exact hi, fun x H2 y => ⟨y.1, ?_⟩⟩
      obtain ⟨_, c, hc, rfl⟩ := y
      refine ⟨tx [c], ?_, .str _⟩
      have hc' : l[i]? = some c := by simpa [mk] using hc
      rw [List.getElem?_map, hc']; rfl
    · show (mk l).cps.size ≤ _
      rw [hsz]; exact Nat.le_refl _
    · simp only [e, Option.bind_some]
      have hm := List.mem_of_getElem? e
      obtain ⟨c, hc, rfl⟩ := List.mem_map.mp hm
      exact hs c hc
    · rw [range_get] at g2
      exact lc_fin (v := V.non) (j := j) s1 (k.from m1) hp q m s' g1 g2
/-- over range(n), all kept -/
theorem wE_lcR {ta : TA} {tt : TT} {te : TE} {j : Nat} (f : Nat → D) (h : wA K Z ta G fun rs G1 => Ask (∃ n : Int, rs = [.sh (.int n)] ∧ Nat.blt j G1.length = true ∧ n ≤ 1000000 ∧ -1000000 ≤ n ∧ (∀ i : Nat, (i : Int) < n → wT K Z tt ((G1.set j .no).set j (.sh (.int i))) fun b G2 => b = true ∧ wE K Z te G2 fun r G3 => rsh r = some (f i) ∧ keepOw G1 G3) ∧ ∀ a, Q (.ow a (.lst ((List.range n.toNat).map f))) G1)) :
    wE K Z (tLc (iRng1 ta) (gName j) tt te [j]) G Q := fun F S0 S σ H Qr s z k =>
  h F S0 S σ H _ s z fun rs G1 vs S1 H1 q m1 s1 o => by
    obtain ⟨n, rfl, hj, b1, b2, hs, q⟩ := q
    obtain ⟨v, rfl, o1⟩ := fs1 o
    cases o1
    have ef : ∀ m : Nat, (List.range m).filterMap (fun i => some (f i)) = (List.range m).map f := fun m => by
      rw [List.filterMap_eq_map']
    refine ⟨n, rfl, by omega, by omega, fun p hp => lc_core' n.toNat (fun i => some (f i)) (fun i d => d = .int (i : Nat)) z s1 hp (by omega) (fun i S' H' hi m s' => ⟨hi, fun x H2 y => ⟨y.1, .int (i : Nat), rfl, ?_⟩⟩) (fun S' H' m s' => Nat.le_refl _) (blt_lt hj) (fun i d hi e => ?_) fun S' H' m s' g1 g2 => ?_⟩
    · rw [y.2, Int.zero_add]
      exact .int _
    · subst e
      have h1 := hs i (by omega)
      refine fun F S0 S σ H Qr s z k => h1 F S0 S σ H Qr s z fun b G2 S2 H2 q m s2 => k b G2 S2 H2 ⟨fun _ => ?_, fun e => ?_⟩ m s2
      · exact wE.mono q.2 fun r G3 q3 => ⟨f i, q3.1, rfl, q3.2⟩
      · rw [q.1] at e; cases e
    · rw [ef] at g2
      exact k _ _ _ _ _ (q p) (m1.trans m) s' ⟨rfl, s1.unfr hp, g1, g2, s1.noow hp⟩
end
end PL

/-! PR: a def's promise over data, its body, its calls. -/
namespace PL
open PySem PySem.Spec PyProof.Rows L2

abbrev Phi := List D → (R → Prop) → (Value → Prop) → Prop
def RetOk (K : PySem.W.Frag) (H S' H' : Hp) : R → V → Prop
  | .sh d, v => Rep K S' v d
  | .ow a m, v => v = .ref a ∧ H a = none ∧ S' a = none ∧ MoOk K S' H' a m
  | .bo _, _ => False
def mkSp (K : PySem.W.Frag) (φ : Phi) : Sp := fun vs H Q E => ∃ ds S Q0 X0, RepA K S vs ds ∧ Same S H ∧ φ ds Q0 X0 ∧
  (∀ r, Q0 r → ∀ v S' H', Same H H' → Same S' H' → Same S S' → (∀ a o, H a = some o → (∀ xs, o ≠ .tup xs) → S' a = S a) → RetOk K H S' H' r v → Q v H') ∧ ∀ c, X0 c → ∀ H', Same H H' → E c none H'
/-- the slots at the entry -/
def G0 (N : List Str) (ds : List D) : Sl := ds.map Slot.sh ++ List.replicate (N.length - ds.length) .no
def rtQ (Q : R → Prop) : R → Sl → Prop := fun r _ => match r with
  | .sh d => Q (.sh d)
  | .ow a m => Q (.ow a m)
  | .bo _ => False
def PoQ (Q : R → Prop) : Po := ⟨fun _ => Q (.sh .non), rtQ Q, fun _ => False, fun _ => False⟩
section
variable {K : PySem.W.Frag} {Z : Ec} {F S0 S S' : Hp} {G : Sl} {σ : L2.St} {H H' : Hp} {Q : R → Sl → Prop} {P : Po}
theorem Sat.start {N : List Str} {ds : List D} {vs : List V} (h : RepA K S vs ds) (m : Same S H) : Sat K H S (G0 N ds) S (L2.start N vs) H := by
  have hl := h.len
  refine ⟨by simp [G0, L2.start, hl], m, Same.refl _, fun _ _ _ _ => rfl, fun i sl e => ?_, fun i j a mo mo' e _ => ?_⟩
  · by_cases hi : i < ds.length
    · have e1 : (G0 N ds)[i]? = some (.sh ds[i]) := by
        unfold G0
        rw [List.getElem?_append_left (by simpa using hi), List.getElem?_map, List.getElem?_eq_getElem hi]; rfl
      rw [e1] at e; cases e
      obtain ⟨v, h1, h2⟩ := h.get (List.getElem?_eq_getElem hi)
      refine ⟨v, ?_, h2⟩
      unfold L2.start
      rw [List.getElem?_append_left (by rw [List.length_map, hl]; exact hi), List.getElem?_map, h1]; rfl
    · unfold G0 at e
      rw [List.getElem?_append_right (by simpa using hi), List.getElem?_replicate] at e
      split at e
      · cases e; trivial
      · cases e
  · exfalso
    by_cases hi : i < ds.length
    · have e1 : (G0 N ds)[i]? = some (.sh ds[i]) := by
        unfold G0
        rw [List.getElem?_append_left (by simpa using hi), List.getElem?_map, List.getElem?_eq_getElem hi]; rfl
      rw [e1] at e; cases e
    · unfold G0 at e
      rw [List.getElem?_append_right (by simpa using hi), List.getElem?_replicate] at e
      split at e <;> cases e
theorem body_ok {N : List Str} {φ : Phi} {t : TS} {E : XK} {vs : List V} {Qr : VK} (hw : ∀ ds Q X, φ ds Q X → wS K ⟨E, X⟩ t (G0 N ds) (PoQ Q)) (h : mkSp K φ vs H Qr E) :
    t { nx := fun _ H' => Qr .non H', rt := Qr } (L2.start N vs) H := by
  obtain ⟨ds, S, Q0, X0, h1, h2, h3, h4, h5⟩ := h
  refine hw ds Q0 X0 h3 H S S (L2.start N vs) H _ (Sat.start h1 h2) (fun c H' x m => h5 c x H' m) ⟨fun G' S' σ' H' q m s => ?_, fun r G' v S' σ' H' q m s o => ?_, fun _ _ _ _ q => q.elim, fun _ _ _ _ q => q.elim⟩
  · exact h4 _ q _ S' H' s.fr s.sh m s.am .non
  · cases r with
    | sh d => exact h4 _ q v S' H' s.fr s.sh m s.am o
    | ow a mo => exact h4 _ q v S' H' s.fr s.sh m s.am ⟨o.1, o.2.1, o.2.2.1, o.2.2.2.1⟩
    | bo i => exact q.elim
theorem mkSp_len {φ : Phi} {n : Nat} (hl : ∀ ds Q X, φ ds Q X → ds.length = n) : ∀ vs H Q E, mkSp K φ vs H Q E → vs.length = n := fun vs H Q E h => by
  obtain ⟨ds, S, Q0, X0, h1, _, h3, _⟩ := h
  rw [h1.len]; exact hl _ _ _ h3
/-- THE RULE for a def that raises nothing -/
theorem fn_pure {P : Program} {w : World} {mg : Str → Option Value} {base : Heap} {x qual : Str} {st : Stmt} {f : Addr} {fd : FuncData} {N ps : List Str} {k : Nat} {φ : Phi} {t : TS} (F : Fun K x qual st f fd) (Sc : FnScope N ps (defScope st)) (hl : ∀ ds Q X, φ ds Q X → ds.length = ps.length)
    (hw : ∀ ds Q X, φ ds Q X → ∀ E, wS K ⟨E, X⟩ t (G0 N ds) (PoQ Q))
    (hb : ∀ (cdv : Value) (A : Around) (outer : List Env) (s : Shared) (H : Hp) (E : XK), Room k (A.deeper (envOfC qual (defScope st) s.heap.objs.size f cdv)) → PSs (cxOf CX0 P w K mg base N qual (defScope st) f cdv A outer s H E).nox (defBody st) t) :
    FnOk P w K mg base CX0 (k + 1) f fd ps (mkSp K φ) :=
  F.ok Sc (mkSp_len hl) fun cdv A outer s H vs Q E hr h => ⟨t, hb cdv A outer s H E hr, body_ok (fun ds Q X h => hw ds Q X h E) h⟩
/-- .. for a def that may raise -/
theorem fn_pureX {P : Program} {w : World} {mg : Str → Option Value} {base : Heap} {x qual : Str} {st : Stmt} {f : Addr} {fd : FuncData} {N ps : List Str} {k : Nat} {φ : Phi} {t : XK → TS} (F : Fun K x qual st f fd) (Sc : FnScope N ps (defScope st)) (hl : ∀ ds Q X, φ ds Q X → ds.length = ps.length)
    (hw : ∀ ds Q X, φ ds Q X → ∀ E, wS K ⟨E, X⟩ (t E) (G0 N ds) (PoQ Q))
    (hb : ∀ (cdv : Value) (A : Around) (outer : List Env) (s : Shared) (H : Hp) (E : XK), Room k (A.deeper (envOfC qual (defScope st) s.heap.objs.size f cdv)) → PSs (cxOf (L2.CX P w) P w K mg base N qual (defScope st) f cdv A outer s H E) (defBody st) (t E)) :
    FnOk P w K mg base (L2.CX P w) (k + 1) f fd ps (mkSp K φ) :=
  F.okX Sc (mkSp_len hl) fun cdv A outer s H vs Q E hr h => ⟨t E, hb cdv A outer s H E hr, body_ok (fun ds Q X h => hw ds Q X h E) h⟩

/-! ### calls -/
def dsOf (G : Sl) : List R → Option (List D)
  | [] => some []
  | r :: rs => match dv G r with
    | some d => match dsOf G rs with
      | some ds => some (d :: ds)
      | none => none
    | none => none
def noBo : List R → Bool
  | [] => true
  | .bo _ :: _ => false
  | _ :: rs => noBo rs
def flatR : R → Bool
  | .sh d => d.flat
  | .ow _ (.lst ds) => flatA ds
  | .ow _ _ => true
  | .bo _ => false
/-- the objects that are lent -/
def Lent (G : Sl) (rs : List R) (a : Addr) : Prop := ∃ i m, R.bo i ∈ rs ∧ G[i]? = some (Slot.ow a m)
theorem noBo_lent {rs : List R} {a : Addr} (h : noBo rs = true) : ¬ Lent G rs a := by
  rintro ⟨i, m, hm, _⟩
  induction rs with
  | nil => cases hm
  | cons r rs ih =>
    cases r with
    | sh d =>
      rcases List.mem_cons.mp hm with e | e
      · cases e
      · exact ih h e
    | ow a m =>
      rcases List.mem_cons.mp hm with e | e
      · cases e
      · exact ih h e
    | bo j => cases h
open Classical in
/-- what the callee may read -/
noncomputable def lendS (G : Sl) (rs : List R) (S H : Hp) : Hp := fun a => if Lent G rs a then H a else S a
theorem lend_rep {rs : List R} {all : List R} {vs : List V} {ds : List D} (hsub : ∀ r ∈ rs, r ∈ all) (h : dsOf G rs = some ds) (s : Sat K F S0 G S σ H) (o : FsOk K S σ rs vs) (m : Same S (lendS G all S H)) : RepA K (lendS G all S H) vs ds := by
  induction o generalizing ds with
  | nil => cases h; exact .nil
  | @cons r v rs vs o1 o2 ih =>
    have h' : ∃ d es, dv G r = some d ∧ dsOf G rs = some es ∧ ds = d :: es := by
      simp only [dsOf] at h
      split at h
      · rename_i d h1
        split at h
        · rename_i es h2
          cases h
          exact ⟨d, es, h1, h2, rfl⟩
        · cases h
      · cases h
    obtain ⟨d, es, h1, h2, rfl⟩ := h'
    refine .cons ?_ (ih (fun r hr => hsub r (List.mem_cons_of_mem _ hr)) h2)
    cases r with
    | sh d' => cases h1; exact Rep.mono m o1
    | ow a mo => cases h1
    | bo i =>
      unfold dv at h1
      simp only at h1
      split at h1
      · cases h1
        rename_i a mo e
        obtain ⟨e1, _, _, mok⟩ := s.val i _ e
        have o' : σ[i]? = some (some v) := o1
        rw [e1] at o'
        cases o'
        refine mok.rep m ?_
        unfold lendS
        rw [if_pos ⟨i, _, hsub _ List.mem_cons_self, e⟩]
      · cases h1
theorem call_core {φ : Phi} {E' : XK} {X' : Value → Prop} {rs : List R} {vs : List V} {ds : List D} {Qr : VK} (hX : ∀ c H', X' c → Same F H' → E' c none H') (s : Sat K F S0 G S σ H) (o : FsOk K S σ rs vs) (hd : dsOf G rs = some ds)
    (hφ : φ ds (fun r => (noBo rs = true ∨ flatR r = true) ∧ Q r G) X') (k : kE K F S0 S σ Q Qr) : mkSp K φ vs H Qr E' := by
  have own : ∀ {a : Addr}, Lent G rs a → ∃ m, F a = none ∧ S a = none ∧ MoOk K S H a m := fun {a} ⟨i, m, _, e⟩ => ⟨m, (s.val i _ e).2⟩
  have m1 : Same S (lendS G rs S H) := fun a u e => by
    unfold lendS
    by_cases h : Lent G rs a
    · obtain ⟨_, _, h2, _⟩ := own h
      rw [h2] at e; cases e
    · rw [if_neg h]; exact e
  have m2 : Same (lendS G rs S H) H := fun a u e => by
    unfold lendS at e
    by_cases h : Lent G rs a
    · rw [if_pos h] at e; exact e
    · rw [if_neg h] at e; exact s.sh a u e
  refine ⟨ds, _, _, _, lend_rep (fun _ h => h) hd s o m1, m2, hφ, fun r q v S' H' g1 g2 g5 g3 g4 => ?_, fun c x H' m => hX c H' x (s.fr.trans m)⟩
  obtain ⟨hb, q⟩ := q
  -- what is shared behind the call
  have notlent : ∀ {a : Addr}, (∃ xs, S' a = some (.tup xs)) → ¬ Lent G rs a := fun {a} ⟨xs, e⟩ hl => by
    obtain ⟨mo, _, _, mok⟩ := own hl
    obtain ⟨u, e2, hnt⟩ := mok.some
    have e3 := g3 a u e2 hnt
    unfold lendS at e3
    rw [if_pos hl, e2] at e3
    rw [e3] at e; cases e
    exact hnt xs rfl
  let S2 : Hp := fun a => open Classical in if Lent G rs a then none else S' a
  have S2of : ∀ {a : Addr}, ¬ Lent G rs a → S2 a = S' a := fun {a} h => if_neg h
  have S2no : ∀ {a : Addr}, Lent G rs a → S2 a = none := fun {a} h => if_pos h
  have n1 : Same S S2 := fun a u e => by
    have hl : ¬ Lent G rs a := fun h => by
      obtain ⟨_, _, h2, _⟩ := own h
      rw [h2] at e; cases e
    rw [S2of hl]
    refine g5 a u ?_
    unfold lendS
    rw [if_neg hl]; exact e
  have s2 : Sat K F S0 G S2 σ H' := by
    refine ⟨s.len, fun a u e => ?_, s.fr.trans g1, fun a u e n => ?_, fun i sl e => ?_, s.sep⟩
    · by_cases hl : Lent G rs a
      · rw [S2no hl] at e; cases e
      · rw [S2of hl] at e; exact g2 a u e
    · have hl : ¬ Lent G rs a := fun h => by
        obtain ⟨_, h1, _, _⟩ := own h
        rw [h1] at e; cases e
      rw [S2of hl, g3 a u (s.fr a u e) n]
      unfold lendS
      rw [if_neg hl]; exact s.am a u e n
    · have h := s.val i sl e
      cases sl with
      | no => trivial
      | sh d =>
        obtain ⟨w, e1, r1⟩ := h
        exact ⟨w, e1, r1.mono n1⟩
      | ow a mo =>
        obtain ⟨h1, h2, h3, h4⟩ := h
        refine ⟨h1, h2, ?_, h4.mono n1 fun u q => g1 a u q⟩
        by_cases hl : Lent G rs a
        · exact S2no hl
        · obtain ⟨u, e2, hnt⟩ := h4.some
          rw [S2of hl, g3 a u e2 hnt]
          unfold lendS
          rw [if_neg hl]; exact h3
  have rep2 : ∀ {v : V} {d : D}, (noBo rs = true ∨ d.flat = true) → Rep K S' v d → Rep K S2 v d := fun {v d} h r => by
    rcases h with h | h
    · exact r.mono fun a u e => by rw [S2of (noBo_lent h)]; exact e
    · exact r.flatMono (fun a xs e => by rw [S2of (notlent ⟨xs, e⟩)]; exact e) h
  have repA2 : ∀ {vs : List V} {ds : List D}, (noBo rs = true ∨ flatA ds = true) → RepA K S' vs ds → RepA K S2 vs ds := fun {vs ds} h r => by
    rcases h with h | h
    · exact r.mono fun a u e => by rw [S2of (noBo_lent h)]; exact e
    · exact r.flatMono (fun a xs e => by rw [S2of (notlent ⟨xs, e⟩)]; exact e) h
  refine k r G v S2 H' q n1 s2 ?_
  cases r with
  | sh d => exact rep2 (hb.imp id id) g4
  | bo i => exact g4.elim
  | ow a mo =>
    obtain ⟨e1, e2, e3, e4⟩ := g4
    have hl : ¬ Lent G rs a := fun h => by
      obtain ⟨_, _, _, h4⟩ := own h
      obtain ⟨u, e5, _⟩ := h4.some
      rw [e2] at e5; cases e5
    refine ⟨e1, s.unfr e2, by rw [S2of hl]; exact e3, ?_, s.noow e2⟩
    cases mo with
    | lst ds =>
      obtain ⟨ws, f1, f2⟩ := e4
      exact ⟨ws, f1, repA2 (hb.imp id id) f2⟩
    | dT kvs => exact e4
    | dK kvs => exact e4
theorem wE_call {φ : Phi} {ta : TA} (h : wA K Z ta G fun rs G1 => ∃ ds, dsOf G1 rs = some ds ∧ φ ds (fun r => (noBo rs = true ∨ flatR r = true) ∧ Q r G1) Z.X) : wE K Z (tCall (mkSp K φ) [] Z.E ta) G Q := fun F S0 S σ H Qr s z k =>
  h F S0 S σ H _ s z fun rs G1 vs S1 H1 q m1 s1 o => by
    obtain ⟨ds, e, q⟩ := q
    show mkSp K φ (vs ++ []) H1 Qr Z.E
    rw [List.append_nil]
    exact call_core z s1 o e q (k.from m1)
theorem wE_call0 {φ : Phi} {ta : TA} {E' : XK} (h : wA K Z ta G fun rs G1 => ∃ ds, dsOf G1 rs = some ds ∧ φ ds (fun r => (noBo rs = true ∨ flatR r = true) ∧ Q r G1) fun _ => False) : wE K Z (tCall (mkSp K φ) [] E' ta) G Q := fun F S0 S σ H Qr s z k =>
  h F S0 S σ H _ s z fun rs G1 vs S1 H1 q m1 s1 o => by
    obtain ⟨ds, e, q⟩ := q
    show mkSp K φ (vs ++ []) H1 Qr E'
    rw [List.append_nil]
    exact call_core (fun _ _ x => x.elim) s1 o e q (k.from m1)
end
end PL

/-! PS: == of data at any depth, operators that take any of their kinds, calls by a bundle. -/
namespace PL
open PySem PySem.Spec PyProof.Rows L2

/-! ### == of data -/
mutual
def toPy : D → PyData
  | .non => .none
  | .bl b => .bool b
  | .int i => .int i
  | .str s => .str s
  | .tup l => .tuple (toPyA l)
  | .lst l => .list (toPyA l)
  | _ => .none
def toPyA : List D → List PyData
  | [] => []
  | d :: l => toPy d :: toPyA l
end
/-! None, bools, ints, texts, lists, tuples; the signs within Unicode; the depth -/
mutual
def dat : Nat → D → Bool
  | _, .non => true
  | _, .bl _ => true
  | _, .int _ => true
  | _, .str s => s.cps.all (· < 0x110000)
  | 0, .tup _ => false
  | n + 1, .tup l => datA n l
  | 0, .lst _ => false
  | n + 1, .lst l => datA n l
  | _, _ => false
def datA : Nat → List D → Bool
  | _, [] => true
  | n, d :: l => dat n d && datA n l
end
mutual
theorem dat_fit : ∀ (n : Nat) (d : D), dat n d = true → (toPy d).canLay0 = true ∧ (toPy d).depth ≤ n
  | n, .non, _ => by cases n <;> exact ⟨rfl, Nat.zero_le _⟩
  | n, .bl _, _ => by cases n <;> exact ⟨rfl, Nat.zero_le _⟩
  | n, .int _, _ => by cases n <;> exact ⟨rfl, Nat.zero_le _⟩
  | n, .str s, h => by
    have h' : s.cps.all (· < 0x110000) = true := by cases n <;> (unfold dat at h; exact h)
    exact ⟨by show PyData.canLay0 (.str s) = true; unfold PyData.canLay0; exact h', Nat.zero_le _⟩
  | 0, .tup l, h => by unfold dat at h; cases h
  | n + 1, .tup l, h => by
    have h' := datA_fit n l (by unfold dat at h; exact h)
    refine ⟨?_, ?_⟩
    · show PyData.canLay0 (.tuple (toPyA l)) = true
      unfold PyData.canLay0; exact h'.1
    · show PyData.depth (.tuple (toPyA l)) ≤ n + 1
      unfold PyData.depth; exact Nat.succ_le_succ h'.2
  | 0, .lst l, h => by unfold dat at h; cases h
  | n + 1, .lst l, h => by
    have h' := datA_fit n l (by unfold dat at h; exact h)
    refine ⟨?_, ?_⟩
    · show PyData.canLay0 (.list (toPyA l)) = true
      unfold PyData.canLay0; exact h'.1
    · show PyData.depth (.list (toPyA l)) ≤ n + 1
      unfold PyData.depth; exact Nat.succ_le_succ h'.2
  | n, .dT _, h => by cases n <;> (unfold dat at h; cases h)
  | n, .dK _, h => by cases n <;> (unfold dat at h; cases h)
  | n, .scr _, h => by cases n <;> (unfold dat at h; cases h)
  | n, .ty _, h => by cases n <;> (unfold dat at h; cases h)
  | n, .ref _, h => by cases n <;> (unfold dat at h; cases h)
theorem datA_fit : ∀ (n : Nat) (l : List D), datA n l = true → PyData.canLayAll0 (toPyA l) = true ∧ PyData.depthAll (toPyA l) ≤ n
  | n, [], _ => ⟨rfl, Nat.zero_le _⟩
  | n, d :: l, h => by
    have h' : dat n d = true ∧ datA n l = true := by unfold datA at h; exact Bool.and_eq_true_iff.mp h
    have h1 := dat_fit n d h'.1
    have h2 := datA_fit n l h'.2
    refine ⟨?_, ?_⟩
    · show PyData.canLayAll0 (toPy d :: toPyA l) = true
      unfold PyData.canLayAll0
      rw [h1.1, h2.1]; rfl
    · show PyData.depthAll (toPy d :: toPyA l) ≤ n
      unfold PyData.depthAll
      exact Nat.max_le.mpr ⟨h1.2, h2.2⟩
end
theorem dat_shaped {d : D} (h : dat 64 d = true) : SeqAt.shaped (toPy d) = true := by
  have h' := dat_fit 64 d h
  unfold SeqAt.shaped
  rw [h'.1, decide_eq_true h'.2]; rfl
section
variable {K : PySem.W.Frag} {H : Hp}
mutual
theorem dp_rep : ∀ {n : Nat} {v : V} {d : D}, dat n d = true → Rep K H v d → Dp K H v (toPy d)
  | n, _, .non, _, r => by cases r; exact .non
  | n, _, .bl b, _, r => by cases r; exact .bl b
  | n, _, .int i, _, r => by cases r; exact .int i
  | n, _, .str s, _, r => by cases r; exact .str s
  | 0, _, .tup l, h, _ => by unfold dat at h; cases h
  | n + 1, _, .tup l, h, r => by
    cases r with
    | tup h1 r => exact .tup (SqT.of h1) (dpA_rep (n := n) (ds := l) (by unfold dat at h; exact h) r)
  | 0, _, .lst l, h, _ => by unfold dat at h; cases h
  | n + 1, _, .lst l, h, r => by
    cases r with
    | lst h1 r => exact .lst (SqL.of h1) (dpA_rep (n := n) (ds := l) (by unfold dat at h; exact h) r)
  | n, _, .dT _, h, _ => by cases n <;> (unfold dat at h; cases h)
  | n, _, .dK _, h, _ => by cases n <;> (unfold dat at h; cases h)
  | n, _, .scr _, h, _ => by cases n <;> (unfold dat at h; cases h)
  | n, _, .ty _, h, _ => by cases n <;> (unfold dat at h; cases h)
  | n, _, .ref _, h, _ => by cases n <;> (unfold dat at h; cases h)
theorem dpA_rep : ∀ {n : Nat} {vs : List V} {ds : List D}, datA n ds = true → RepA K H vs ds → DpAll K H vs (toPyA ds)
  | n, _, [], _, r => by cases r; exact .nil
  | n, _, d :: ds, h, r => by
    have h' : dat n d = true ∧ datA n ds = true := by unfold datA at h; exact Bool.and_eq_true_iff.mp h
    cases r with
    | cons r rs => exact .cons (dp_rep h'.1 r) (dpA_rep h'.2 rs)
end
end
def eqD (d e : D) : Bool := PyData.eqv (toPy d) (toPy e)
/-! without bools == is equality -/
mutual
def noB : D → Bool
  | .non => true
  | .int _ => true
  | .str _ => true
  | .tup l => noBA l
  | .lst l => noBA l
  | _ => false
def noBA : List D → Bool
  | [] => true
  | d :: l => noB d && noBA l
end
mutual
theorem eqD_iff : ∀ (d e : D), noB d = true → noB e = true → (PyData.eqv (toPy d) (toPy e) = true ↔ d = e)
  | .non, .non, _, _ => by simp [toPy, PyData.eqv]
  | .non, .int _, _, _ => by simp [toPy, PyData.eqv]
  | .non, .str _, _, _ => by simp [toPy, PyData.eqv]
  | .non, .tup _, _, _ => by simp [toPy, PyData.eqv]
  | .non, .lst _, _, _ => by simp [toPy, PyData.eqv]
  | .int _, .non, _, _ => by simp [toPy, PyData.eqv]
  | .int _, .int _, _, _ => by simp [toPy, PyData.eqv]
  | .int _, .str _, _, _ => by simp [toPy, PyData.eqv]
  | .int _, .tup _, _, _ => by simp [toPy, PyData.eqv]
  | .int _, .lst _, _, _ => by simp [toPy, PyData.eqv]
  | .str _, .non, _, _ => by simp [toPy, PyData.eqv]
  | .str _, .int _, _, _ => by simp [toPy, PyData.eqv]
  | .str _, .str _, _, _ => by simp [toPy, PyData.eqv]
  | .str _, .tup _, _, _ => by simp [toPy, PyData.eqv]
  | .str _, .lst _, _, _ => by simp [toPy, PyData.eqv]
  | .tup _, .non, _, _ => by simp [toPy, PyData.eqv]
  | .tup _, .int _, _, _ => by simp [toPy, PyData.eqv]
  | .tup _, .str _, _, _ => by simp [toPy, PyData.eqv]
  | .tup l, .tup m, h1, h2 => by
    have := eqDA_iff l m (by unfold noB at h1; exact h1) (by unfold noB at h2; exact h2)
    show PyData.eqv (.tuple (toPyA l)) (.tuple (toPyA m)) = true ↔ _
    unfold PyData.eqv
    rw [this]
    constructor
    · intro h; rw [h]
    · intro h; cases h; rfl
  | .tup _, .lst _, _, _ => by simp [toPy, PyData.eqv]
  | .lst _, .non, _, _ => by simp [toPy, PyData.eqv]
  | .lst _, .int _, _, _ => by simp [toPy, PyData.eqv]
  | .lst _, .str _, _, _ => by simp [toPy, PyData.eqv]
  | .lst _, .tup _, _, _ => by simp [toPy, PyData.eqv]
  | .lst l, .lst m, h1, h2 => by
    have := eqDA_iff l m (by unfold noB at h1; exact h1) (by unfold noB at h2; exact h2)
    show PyData.eqv (.list (toPyA l)) (.list (toPyA m)) = true ↔ _
    unfold PyData.eqv
    rw [this]
    constructor
    · intro h; rw [h]
    · intro h; cases h; rfl
  | .bl _, _, h, _ => by unfold noB at h; cases h
  | .dT _, _, h, _ => by unfold noB at h; cases h
  | .dK _, _, h, _ => by unfold noB at h; cases h
  | .scr _, _, h, _ => by unfold noB at h; cases h
  | .ty _, _, h, _ => by unfold noB at h; cases h
  | .ref _, _, h, _ => by unfold noB at h; cases h
  | _, .bl _, _, h => by unfold noB at h; cases h
  | _, .dT _, _, h => by unfold noB at h; cases h
  | _, .dK _, _, h => by unfold noB at h; cases h
  | _, .scr _, _, h => by unfold noB at h; cases h
  | _, .ty _, _, h => by unfold noB at h; cases h
  | _, .ref _, _, h => by unfold noB at h; cases h
theorem eqDA_iff : ∀ (l m : List D), noBA l = true → noBA m = true → (PyData.eqvAll (toPyA l) (toPyA m) = true ↔ l = m)
  | [], [], _, _ => by simp [toPyA, PyData.eqvAll]
  | [], _ :: _, _, _ => by simp [toPyA, PyData.eqvAll]
  | _ :: _, [], _, _ => by simp [toPyA, PyData.eqvAll]
  | d :: l, e :: m, h1, h2 => by
    have g1 : noB d = true ∧ noBA l = true := by unfold noBA at h1; exact Bool.and_eq_true_iff.mp h1
    have g2 : noB e = true ∧ noBA m = true := by unfold noBA at h2; exact Bool.and_eq_true_iff.mp h2
    have i1 := eqD_iff d e g1.1 g2.1
    have i2 := eqDA_iff l m g1.2 g2.2
    show PyData.eqvAll (toPy d :: toPyA l) (toPy e :: toPyA m) = true ↔ _
    unfold PyData.eqvAll
    rw [Bool.and_eq_true_iff, i1, i2, List.cons.injEq]
end

/-! ### operators of any kind -/
def uAdd (K : PySem.W.Frag) : R2 := fun x y H Q => rI0 (fun i j => .int (i + j)) x y H Q ∨ sAddS x y H Q ∨ rCat x y H Q ∨ rCatA K x y H Q
def uEq (K : PySem.W.Frag) : R2 := fun x y H Q => rEq x y H Q ∨ rEqD K x y H Q
def uNe (K : PySem.W.Frag) : R2 := fun x y H Q => rNe x y H Q ∨ rNeD K x y H Q
def uIn (K : PySem.W.Frag) : R2 := fun x y H Q => rInS x y H Q ∨ rIn K false x y H Q ∨ rInD K x y H Q
def uNin (K : PySem.W.Frag) : R2 := fun x y H Q => rNotInS x y H Q ∨ rIn K true x y H Q ∨ rNotInD K x y H Q
def uSl (K : PySem.W.Frag) : V → Option Int → Option Int → Hp → VK → Prop := fun x l h H Q => rSlS x l h H Q ∨ rSlL K x l h H Q ∨ rSlA K x l h H Q
theorem opr_or {X : Cx} {f : Value → Value → Sem Value} {r r' : R2} (h : OpR X f r) (h' : OpR X f r') : OpR X f (fun x y H Q => r x y H Q ∨ r' x y H Q) := by
  intro pins s σ H x y v u Q I rx ry q
  rcases q with q | q
  · exact h pins s σ H x y v u Q I rx ry q
  · exact h' pins s σ H x y v u Q I rx ry q
section
variable {X : Cx}
theorem op_uAdd : OpR X (binaryOp .Add) (uAdd X.K) := opr_or op_add (opr_or op_add_str (opr_or op_cat op_catA))
theorem op_uEq {k : Nat} (hr : Room k X.A) : OpR X (compareOp .Eq) (uEq X.K) := opr_or op_eq (op_eqD hr.units)
theorem op_uNe {k : Nat} (hr : Room k X.A) : OpR X (compareOp .NotEq) (uNe X.K) := opr_or op_ne (op_neD hr.units)
theorem op_uIn {k : Nat} (hr : Room k X.A) : OpR X (compareOp .In) (uIn X.K) := opr_or op_inS (opr_or op_in_seq (op_inD (by have := hr.un; omega)))
theorem op_uNin {k : Nat} (hr : Room k X.A) : OpR X (compareOp .NotIn) (uNin X.K) := opr_or op_notInS (opr_or op_notIn_seq (op_notInD (by have := hr.un; omega)))
theorem sl_u : SlR X (uSl X.K) := sl_str.or (SlR.or sl_list sl_tupA)
theorem room_u {k : Nat} (hr : Room k X.A) : X.A.units + 1 < cLine := by have := hr.un; omega
end
section
variable {K : PySem.W.Frag} {Z : Ec} {F S0 S S' : Hp} {G : Sl} {σ : L2.St} {H H' : Hp} {Q : R → Sl → Prop} {P : Po}
theorem wR_imp {r r' : R2} (h : ∀ x y H Q, r x y H Q → r' x y H Q) {x y : R} (q : wR K Z r x y G Q) : wR K Z r' x y G Q := fun F S0 S σ H Qr v u s z o1 o2 k => h _ _ _ _ (q F S0 S σ H Qr v u s z o1 o2 k)
theorem wL_imp {r r' : V → Option Int → Option Int → Hp → VK → Prop} (h : ∀ x l u H Q, r x l u H Q → r' x l u H Q) {x : R} {lo hi : Option Int} (q : wL K Z r x lo hi G Q) : wL K Z r' x lo hi G Q := fun F S0 S σ H Qr v s z o k => h _ _ _ _ _ (q F S0 S σ H Qr v s z o k)
/-! #### + -/
theorem u_addI {i j : Int} (q : Q (.sh (.int (i + j))) G) : wR K Z (uAdd K) (.sh (.int i)) (.sh (.int j)) G Q := wR_imp (fun _ _ _ _ h => .inl h) (wR_I0 rfl q)
theorem u_addT {l m : List Nat} (hl : l.length + m.length ≤ 1000000) (q : Q (.sh (tx (l ++ m))) G) : wR K Z (uAdd K) (.sh (tx l)) (.sh (tx m)) G Q := wR_imp (fun _ _ _ _ h => .inr (.inl h)) (wR_addT hl q)
theorem u_addL {x y : R} {ds es : List D} (hx : lv G x = some ds) (hy : lv G y = some es) (hl : ds.length + es.length ≤ 1000000) (q : ∀ a, Q (.ow a (.lst (ds ++ es))) G) : wR K Z (uAdd K) x y G Q := fun F S0 S σ H Qr v u s z o1 o2 k => by
  obtain ⟨a, xs, rfl, h1, h2⟩ := lv_ok hx s o1
  obtain ⟨b, ys, rfl, h3, h4⟩ := lv_ok hy s o2
  refine .inr (.inr (.inl ⟨a, b, xs, ys, rfl, rfl, h1, h3, by rw [h2.len, h4.len]; exact line_of hl, fun p hp => ?_⟩))
  obtain ⟨s2, g1, g2, g3⟩ := s.newow (o := .lst (xs ++ ys)) hp
  exact k _ _ _ _ _ (q p) (Same.refl _) s2 ⟨rfl, g1, g2, ⟨_, upd_same, h2.append h4⟩, g3⟩
theorem u_addU {ds es : List D} (hl : ds.length + es.length ≤ 1000000) (q : Q (.sh (.tup (ds ++ es))) G) : wR K Z (uAdd K) (.sh (.tup ds)) (.sh (.tup es)) G Q := fun F S0 S σ H Qr v u s z o1 o2 k => by
  cases o1; cases o2
  rename_i a xs h1 h2 b ys h3 h4
  refine .inr (.inr (.inr ⟨a, b, xs, ys, rfl, rfl, SqT.of (s.sh _ _ h1), SqT.of (s.sh _ _ h3), by rw [h2.len, h4.len]; exact line_of hl, fun e => ?_, fun _ e => ?_, fun _ _ p hp => ?_⟩))
  · subst e
    cases h2
    exact k.val s q (.tup h3 h4)
  · subst e
    cases h4
    rw [List.append_nil] at q
    exact k.val s q (.tup h1 h2)
  · obtain ⟨m2, s2⟩ := s.newsh (o := .tup (xs ++ ys)) hp
    exact k _ _ _ _ _ q m2 s2 (Rep.tup upd_same ((h2.append h4).mono m2))
/-! #### ==, != -/
theorem u_eqI {i j : Int} (q : Q (.sh (.bl (decide (i = j)))) G) : wR K Z (uEq K) (.sh (.int i)) (.sh (.int j)) G Q := wR_imp (fun _ _ _ _ h => .inl h) (wR_eqI q)
theorem u_neI {i j : Int} (q : Q (.sh (.bl (!decide (i = j)))) G) : wR K Z (uNe K) (.sh (.int i)) (.sh (.int j)) G Q := wR_imp (fun _ _ _ _ h => .inl h) (wR_neI q)
theorem u_eqT {l m : List Nat} (q : Q (.sh (.bl (decide (l = m)))) G) : wR K Z (uEq K) (.sh (tx l)) (.sh (tx m)) G Q := wR_imp (fun _ _ _ _ h => .inl h) (wR_eqT q)
theorem u_neT {l m : List Nat} (q : Q (.sh (.bl (!decide (l = m)))) G) : wR K Z (uNe K) (.sh (tx l)) (.sh (tx m)) G Q := wR_imp (fun _ _ _ _ h => .inl h) (wR_neT q)
theorem u_eqB {i j : Bool} (q : Q (.sh (.bl (decide (i = j)))) G) : wR K Z (uEq K) (.sh (.bl i)) (.sh (.bl j)) G Q := wR_imp (fun _ _ _ _ h => .inl h) (wR_eqB q)
theorem u_neB {i j : Bool} (q : Q (.sh (.bl (!decide (i = j)))) G) : wR K Z (uNe K) (.sh (.bl i)) (.sh (.bl j)) G Q := wR_imp (fun _ _ _ _ h => .inl h) (wR_neB q)
theorem u_eqV {x y : D} {v u : V} (hx : dV x = some v) (hy : dV y = some u) (hs : scal v u = true) (q : Q (.sh (.bl (decide (v = u)))) G) : wR K Z (uEq K) (.sh x) (.sh y) G Q := wR_imp (fun _ _ _ _ h => .inl h) (wR_eq hx hy hs q)
theorem u_neV {x y : D} {v u : V} (hx : dV x = some v) (hy : dV y = some u) (hs : scal v u = true) (q : Q (.sh (.bl (!decide (v = u)))) G) : wR K Z (uNe K) (.sh x) (.sh y) G Q := wR_imp (fun _ _ _ _ h => .inl h) (wR_ne hx hy hs q)
theorem u_eqD {x y : R} {d e : D} (hx : dv G x = some d) (hy : dv G y = some e) (h1 : dat 64 d = true) (h2 : dat 64 e = true) (q : Q (.sh (.bl (eqD d e))) G) : wR K Z (uEq K) x y G Q := fun F S0 S σ H Qr v u s z o1 o2 k =>
  .inr ⟨_, _, dp_rep h1 (dv_rep hx s o1), dp_rep h2 (dv_rep hy s o2), dat_shaped h1, dat_shaped h2, k.val s q (.bl _)⟩
theorem u_neD {x y : R} {d e : D} (hx : dv G x = some d) (hy : dv G y = some e) (h1 : dat 64 d = true) (h2 : dat 64 e = true) (q : Q (.sh (.bl (!eqD d e))) G) : wR K Z (uNe K) x y G Q := fun F S0 S σ H Qr v u s z o1 o2 k =>
  .inr ⟨_, _, dp_rep h1 (dv_rep hx s o1), dp_rep h2 (dv_rep hy s o2), dat_shaped h1, dat_shaped h2, k.val s q (.bl _)⟩
/-! #### in, not in -/
theorem u_inS {c : Nat} {m : List Nat} (q : Q (.sh (.bl (decide (c ∈ m)))) G) : wR K Z (uIn K) (.sh (tx [c])) (.sh (tx m)) G Q := wR_imp (fun _ _ _ _ h => .inl h) (wR_inS q)
theorem u_ninS {c : Nat} {m : List Nat} (q : Q (.sh (.bl (!decide (c ∈ m)))) G) : wR K Z (uNin K) (.sh (tx [c])) (.sh (tx m)) G Q := wR_imp (fun _ _ _ _ h => .inl h) (wR_ninS q)
theorem u_inF {d : D} {y : R} {ds : List D} (h : lv G y = some ds ∨ y = .sh (.tup ds)) (hx : flatD d = true) (ha : ds.all flatD = true) (q : Q (.sh (.bl (ds.any fun e => eqF e d))) G) : wR K Z (uIn K) (.sh d) y G Q := wR_imp (fun _ _ _ _ h => .inr (.inl h)) (wR_in h hx ha (by simpa using q))
theorem u_ninF {d : D} {y : R} {ds : List D} (h : lv G y = some ds ∨ y = .sh (.tup ds)) (hx : flatD d = true) (ha : ds.all flatD = true) (q : Q (.sh (.bl (!(ds.any fun e => eqF e d)))) G) : wR K Z (uNin K) (.sh d) y G Q := wR_imp (fun _ _ _ _ h => .inr (.inl h)) (wR_in h hx ha (by simpa using q))
theorem u_inT {l : List Nat} {y : R} {ls : List (List Nat)} (h : lv G y = some (ls.map tx)) (q : Q (.sh (.bl (decide (l ∈ ls)))) G) : wR K Z (uIn K) (.sh (tx l)) y G Q := wR_imp (fun _ _ _ _ h => .inr (.inl h)) (wR_inT h q)
theorem u_ninT {l : List Nat} {y : R} {ls : List (List Nat)} (h : lv G y = some (ls.map tx)) (q : Q (.sh (.bl (!decide (l ∈ ls)))) G) : wR K Z (uNin K) (.sh (tx l)) y G Q := wR_imp (fun _ _ _ _ h => .inr (.inl h)) (wR_ninT h q)
theorem toPyA_any (f : PyData → Bool) : ∀ ds : List D, (toPyA ds).any f = ds.any fun d => f (toPy d)
  | [] => rfl
  | d :: ds => by
    show (toPy d :: toPyA ds).any f = _
    rw [List.any_cons, List.any_cons, toPyA_any f ds]
theorem u_inD {x y : R} {d : D} {ds : List D} (hx : dv G x = some d) (hy : dv G y = some (.lst ds)) (h1 : dat 64 d = true) (h2 : dat 64 (.lst ds) = true) (q : Q (.sh (.bl (ds.any fun e => eqD e d))) G) : wR K Z (uIn K) x y G Q := fun F S0 S σ H Qr v u s z o1 o2 k =>
  .inr (.inr ⟨_, toPyA ds, dp_rep h1 (dv_rep hx s o1), dp_rep h2 (dv_rep hy s o2), dat_shaped h1, dat_shaped h2, k.val s q (by rw [toPyA_any]; exact .bl _)⟩)
theorem u_ninD {x y : R} {d : D} {ds : List D} (hx : dv G x = some d) (hy : dv G y = some (.lst ds)) (h1 : dat 64 d = true) (h2 : dat 64 (.lst ds) = true) (q : Q (.sh (.bl (!(ds.any fun e => eqD e d)))) G) : wR K Z (uNin K) x y G Q := fun F S0 S σ H Qr v u s z o1 o2 k =>
  .inr (.inr ⟨_, toPyA ds, dp_rep h1 (dv_rep hx s o1), dp_rep h2 (dv_rep hy s o2), dat_shaped h1, dat_shaped h2, k.val s q (by rw [toPyA_any]; exact .bl _)⟩)
/-! #### slices, items -/
theorem u_slS {l : List Nat} {lo hi : Option Int} (hl : l.length ≤ 1000000) (q : Q (.sh (tx (cut l lo hi))) G) : wL K Z (uSl K) (.sh (tx l)) lo hi G Q := wL_imp (fun _ _ _ _ _ h => .inl h) (wL_S hl q)
theorem u_slL {x : R} {ds : List D} {lo hi : Option Int} (h : lv G x = some ds) (q : ∀ a, Q (.ow a (.lst (cut ds lo hi))) G) : wL K Z (uSl K) x lo hi G Q := wL_imp (fun _ _ _ _ _ h => .inr (.inl h)) (wL_L h q)
theorem u_slT {ds : List D} {lo hi : Option Int} (q : Q (.sh (.tup (cut ds lo hi))) G) : wL K Z (uSl K) (.sh (.tup ds)) lo hi G Q := wL_imp (fun _ _ _ _ _ h => .inr (.inr h)) (wL_T q)
theorem u_ixL {x : R} {ds : List D} {i : Int} {d : D} (h : lv G x = some ds) (hi : atI ds i = some d) (q : Q (.sh d) G) : wR K Z (rIx K) x (.sh (.int i)) G Q := wR_imp (fun _ _ _ _ h => .inl h) (wR_ixL h hi q)
theorem u_ixC {ns : List Int} {i n : Int} (hi : atI ns i = some n) (q : Q (.sh (.int n)) G) : wR K Z (rIx K) (.sh (.scr ns)) (.sh (.int i)) G Q := wR_imp (fun _ _ _ _ h => .inl h) (wR_ixC hi q)
theorem u_ixT {ds : List D} {i : Int} {d : D} (hi : atI ds i = some d) (q : Q (.sh d) G) : wR K Z (rIx K) (.sh (.tup ds)) (.sh (.int i)) G Q := wR_imp (fun _ _ _ _ h => .inr (.inl h)) (wR_ixT hi q)
theorem u_ixS {l : List Nat} {i : Int} {c : Nat} (hl : l.length ≤ 1000000) (hi : atI l i = some c) (q : Q (.sh (tx [c])) G) : wR K Z (rIx K) (.sh (tx l)) (.sh (.int i)) G Q := wR_imp (fun _ _ _ _ h => .inr (.inr h)) (wR_ixS hl hi q)
/-! #### chains -/
theorem wE_chain {r r' : R2} {ta tb tc : TE} (h : wE K Z ta G fun x G1 => wE K Z tb G1 fun y G2 => wR K Z r (fz x) (fz y) G2 fun t G3 => ∃ b, t = .sh (.bl b) ∧ (b = true → wE K Z tc G3 fun w G4 => wR K Z r' (fz y) (fz w) G4 Q) ∧ (b = false → Q (.sh (.bl false)) G3)) :
    wE K Z (tChain r r' ta tb tc) G Q := fun F S0 S σ H Qr s z k =>
  evF h s z fun x G1 v S1 H1 h1 m1 s1 o1 => evF h1 s1 z fun y G2 u S2 H2 h2 m2 s2 o2 => by
    refine h2 F S0 S2 σ H2 _ v u s2 z (o1.mono m2) o2 fun t G3 w S3 H3 q m3 s3 o3 => ?_
    obtain ⟨b, rfl, q1, q2⟩ := q
    cases o3
    refine ⟨b, rfl, ?_⟩
    cases b with
    | true => exact evF (q1 rfl) s3 z fun w G4 e S4 H4 h4 m4 s4 o4 => h4 F S0 S4 σ H4 Qr u e s4 z (o2.mono (m3.trans m4)) o4 (k.from (m1.trans (m2.trans (m3.trans m4))))
    | false => exact (k.from (m1.trans (m2.trans m3))).val s3 (q2 rfl) (.bl _)
end

/-! ### calls by a bundle -/
/-- the def that stands at the module's name x keeps φ -/
structure Cal (P : Program) (w : World) (K : PySem.W.Frag) (mg : Str → Option Value) (base : Heap) (CX : CXT) (k : Nat) (x : Str) (ps : List Str) (φ : Phi) : Prop where
  ex : ∃ f fd, FnOk P w K mg base CX k f fd ps (mkSp K φ) ∧ mg x = some (.ref f) ∧ PySem.W.keepIn K (.ref f) = true ∧ Binds K fd ps []
section
variable {X : Cx} {CX : CXT} {k : Nat} {ps : List Str} {φ : Phi} {E : XK} {x : Str} {p pos : Pos} {e : Expr} {es : List Expr} {t : TA}
theorem pe_cal (G : Cal X.prog X.w X.K X.mg X.base CX k x ps φ) (hr : Room k X.A) (hg : Gl X x) (hx : Passes CX X E)
    (ha : PA X (e :: es) t) (hdb : (x == ("__debug__" : Str)) = false := by decide) (he : starEach (e :: es) X.env = (false, eval e X.env) :: starEach es X.env := by rfl) (hpl : (backTo pos (starEach es X.env)).any (·.1) = false := by rfl) :
    PE X (.Call (.Name x p) (e :: es) [] pos) (tCall (mkSp X.K φ) [] E t) := by
  obtain ⟨f, fd, h1, h2, h3, h4⟩ := G.ex
  exact pe_call h1 hr hg h2 h3 h4 .nil hx ha hdb he hpl
theorem pe_cal0 (G : Cal X.prog X.w X.K X.mg X.base CX k x ps φ) (hr : Room k X.A) (hg : Gl X x) (hx : Passes CX X E) (hdb : (x == ("__debug__" : Str)) = false := by decide) :
    PE X (.Call (.Name x p) [] [] pos) (tCall (mkSp X.K φ) [] E tNil) := by
  obtain ⟨f, fd, h1, h2, h3, h4⟩ := G.ex
  exact pe_call0 h1 hr hg h2 h3 h4 .nil hx hdb
/-- a module's constant -/
theorem pe_gl {v : V} (hg : Gl X x) (h : ∃ u, X.mg x = some u ∧ RelV v u) (hd : (x == ("__debug__" : Str)) = false := by decide) : PE X (.Name x pos) (tC v) := by
  obtain ⟨u, h1, h2⟩ := h
  exact pe_glob hg h1 h2 hd
end
/-! ### texts as constants, errors, the built-ins' names -/
theorem pe_strL {X : Cx} {x : Str} {l : List Nat} {j pos} (h : x = mk l) : PE X (.Constant (.str x) j pos) (tC (.str (mk l))) := h ▸ pe_str
structure ErA where
  rule : Addr
  name : Addr
  endless : Addr
  text : Addr
  deeds : Addr
  mend : Addr
structure ExF (K : PySem.W.Frag) (mg : Str → Option Value) (x : Str) (C : Addr) : Prop where
  gC : mg x = some (.ref C)
  xC : PySem.W.excIn K C [.type "ValueError", .type "Exception", .type "BaseException", .type "object"] "ValueError.__new__" = true
  kC : PySem.W.keepIn K (.ref C) = true
  r1 : PySem.W.subIn K (.ref C) (.type "BaseException") = some true
  r2 : PySem.W.typeIn K (.ref C) = some (.type "type")
theorem ps_rz {X : Cx} {E : XK} {C : Addr} {x m : Str} {j : Nat} {p p2 pos pos2 : Pos} (hc : X.calm = true) (tk : Takes X (fun cls d _ H => E cls d H)) (T : ExF X.K X.mg x C) (hg : Gl X x) (hdb : (x == ("__debug__" : Str)) = false := by decide) :
    PS X (.Raise (some (.Call (.Name x p) [.Constant (.str m) j p2] [] pos)) none pos2) (tRaise E (.ref C)) := ps_raise hc tk (pmk_own PySem.F.excBase_ValueError T.xC T.gC T.kC (raises_own T.r1 T.r2) hg hdb)
structure Bi (mg : Str → Option Value) : Prop where
  len : mg "len" = none
  range : mg "range" = none
  isinstance : mg "isinstance" = none
  int : mg "int" = none
  list : mg "list" = none
  tuple : mg "tuple" = none
  str : mg "str" = none
  dict : mg "dict" = none
  bool : mg "bool" = none
  all : mg "all" = none
  max : mg "max" = none
  min : mg "min" = none
  sorted : mg "sorted" = none
  reversed : mg "reversed" = none
def lettersL : List Nat := [97, 98, 99, 100, 101, 102, 103, 104, 105, 106, 107, 108, 109, 110, 111, 112, 113, 114, 115, 116, 117, 118, 119, 120, 121, 122]
def greatL : List Nat := [65, 66, 67, 68, 69, 70, 71, 72, 73, 74, 75, 76, 77, 78, 79, 80, 81, 82, 83, 84, 85, 86, 87, 88, 89, 90]
def lowL : List Nat := [32, 33, 34, 35, 36, 38, 39, 40, 41, 42, 43, 44, 45, 46, 47, 48, 49, 50, 51, 52, 53, 54, 55, 56, 57, 58, 59, 60, 61, 62, 63, 64]
def midL : List Nat := [91, 92, 93, 94, 95, 96]
def endL : List Nat := [123, 124, 125, 126]
def signsL : List Nat := lowL ++ greatL ++ midL ++ lettersL ++ endL
@[reducible] def rMulT : R2 := fun x y H Q => ∃ (l : List Nat) (n : Int), x = .str (mk l) ∧ y = .int n ∧ (n = 0 ∨ n = 1) ∧ Q (.str (mk (if n = 1 then l else []))) H
theorem op_mulT {X : Cx} : OpR X (binaryOp .Mult) rMulT := by
  intro pins s σ H x y v u Q I rx ry h
  obtain ⟨l, n, rfl, rfl, hn, q⟩ := h
  obtain ⟨t, rfl⟩ := rx
  obtain ⟨t', rfl⟩ := ry
  rcases hn with rfl | rfl
  · exact PySem.P.mul_str_none (by decide) (by decide) ⟨.str (mk []), H, I.tok _, ⟨_, rfl⟩, q⟩
  · refine PySem.P.mul_str (by decide) (fun _ h => by simp at h) (fun _ h => by simp at h) ?_
    exact ⟨.str (mk l), H, I, ⟨_, rfl⟩, q⟩
def uMul : R2 := fun x y H Q => rI CMul (fun i j => .int (i * j)) x y H Q ∨ rMulT x y H Q
theorem op_uMul {X : Cx} : OpR X (binaryOp .Mult) uMul := opr_or op_mul op_mulT
section
variable {K : PySem.W.Frag} {Z : Ec} {G : Sl} {Q : R → Sl → Prop}
theorem u_mulI {i j : Int} (h : (-(2 ^ 64) < i ∧ i < 2 ^ 64) ∨ (-(2 ^ 64) < j ∧ j < 2 ^ 64)) (q : Q (.sh (.int (i * j))) G) : wR K Z uMul (.sh (.int i)) (.sh (.int j)) G Q := wR_imp (fun _ _ _ _ h => .inl h) (wR_I h rfl q)
theorem u_mulT {l : List Nat} {n : Int} (h : n = 0 ∨ n = 1) (q : Q (.sh (tx (if n = 1 then l else []))) G) : wR K Z uMul (.sh (tx l)) (.sh (.int n)) G Q := fun F S0 S σ H Qr v u s z o1 o2 k => by
  cases o1; cases o2
  exact .inr ⟨l, n, rfl, rfl, h, k.val s q (.str _)⟩
end
theorem rt_sh {Q : R → Prop} {G : Sl} {d : D} (q : Q (.sh d)) : (PoQ Q).rt (.sh d) G := q
theorem rt_ow {Q : R → Prop} {G : Sl} {a : Addr} {m : Mo} (q : Q (.ow a m)) : (PoQ Q).rt (.ow a m) G := q
theorem nx_non {Q : R → Prop} {G : Sl} (q : Q (.sh .non)) : (PoQ Q).nx G := q
theorem q_bl {Q : R → Prop} {b c : Bool} (q : Q (.sh (.bl c))) (h : b = c) : Q (.sh (.bl b)) := h ▸ q
theorem q_sh {Q : R → Prop} {b c : D} (q : Q (.sh c)) (h : b = c) : Q (.sh b) := h ▸ q
theorem rput_sh {i : Nat} {G : Sl} {d : D} {Q : Sl → Prop} (h : Nat.blt i G.length = true) (q : Q (G.set i (.sh d))) : rput (.sh d) i G Q := ⟨h, q⟩
theorem rput_ow {i : Nat} {G : Sl} {a : Addr} {m : Mo} {Q : Sl → Prop} (h : Nat.blt i G.length = true) (q : Q (G.set i (.ow a m))) : rput (.ow a m) i G Q := ⟨h, q⟩
theorem b_tt {P Q : Prop} (h : P) : (true = true → P) ∧ (true = false → Q) := ⟨fun _ => h, fun e => Bool.noConfusion e⟩
theorem b_ff {P Q : Prop} (h : Q) : (false = true → P) ∧ (false = false → Q) := ⟨fun e => Bool.noConfusion e, fun _ => h⟩
theorem b_dec {c P Q : Prop} [Decidable c] (h1 : c → P) (h2 : ¬ c → Q) : (decide c = true → P) ∧ (decide c = false → Q) := ⟨fun e => h1 (of_decide_eq_true e), fun e => h2 (of_decide_eq_false e)⟩
theorem b_not {b : Bool} {P Q : Prop} (h : (b = true → Q) ∧ (b = false → P)) : ((!b) = true → P) ∧ ((!b) = false → Q) := by
  cases b with
  | true => exact ⟨fun e => Bool.noConfusion e, fun _ => h.1 rfl⟩
  | false => exact ⟨fun _ => h.2 rfl, fun e => Bool.noConfusion e⟩
theorem b_any {b : Bool} {P Q : Prop} (h1 : b = true → P) (h2 : b = false → Q) : (b = true → P) ∧ (b = false → Q) := ⟨h1, h2⟩
theorem b_decT {c P Q : Prop} [Decidable c] (h : c) (h1 : P) : (decide c = true → P) ∧ (decide c = false → Q) := ⟨fun _ => h1, fun e => absurd h (of_decide_eq_false e)⟩
theorem b_decF {c P Q : Prop} [Decidable c] (h : ¬ c) (h1 : Q) : (decide c = true → P) ∧ (decide c = false → Q) := ⟨fun e => absurd (of_decide_eq_true e) h, fun _ => h1⟩
theorem b_or {x y : Bool} {P Q : Prop} (h : (x = true → P) ∧ (x = false → (y = true → P) ∧ (y = false → Q))) : ((x || y) = true → P) ∧ ((x || y) = false → Q) := by
  cases x with
  | true => exact ⟨fun _ => h.1 rfl, fun e => Bool.noConfusion e⟩
  | false => exact h.2 rfl
theorem b_and {x y : Bool} {P Q : Prop} (h : (x = true → (y = true → P) ∧ (y = false → Q)) ∧ (x = false → Q)) : ((x && y) = true → P) ∧ ((x && y) = false → Q) := by
  cases x with
  | true => exact h.1 rfl
  | false => exact ⟨fun e => Bool.noConfusion e, fun _ => h.2 rfl⟩
section
variable {K : PySem.W.Frag} {Z : Ec} {G : Sl} {Q : R → Sl → Prop}
theorem u_ninI2 {n a b : Int} (q : Q (.sh (.bl (!(decide (n = a) || decide (n = b))))) G) : wR K Z (uNin K) (.sh (.int n)) (.sh (.tup [.int a, .int b])) G Q := u_ninF (.inr rfl) rfl rfl (by
  have e : (([.int a, .int b] : List D).any fun e => eqF e (.int n)) = (decide (n = a) || decide (n = b)) := by
    show ((a == n) || ((b == n) || false)) = _
    rw [Bool.or_false, Bool.beq_eq_decide_eq, Bool.beq_eq_decide_eq, decide_eq_decide.mpr (eq_comm (a := a)), decide_eq_decide.mpr (eq_comm (a := b))]
  rw [e]; exact q)
end
/-! ### texts of a fit size -/
def Tx (l : List Nat) : Prop := l.length ≤ 100000 ∧ ∀ c ∈ l, c < 1114112
theorem fmod_rng (x : Int) {n : Int} (h : 0 < n) : 0 ≤ x.fmod n ∧ x.fmod n < n := by
  rw [Int.fmod_eq_emod_of_nonneg x (by omega)]
  exact ⟨Int.emod_nonneg x (by omega), Int.emod_lt_of_pos x h⟩
theorem atI_at {α : Type} {l : List α} {i : Int} {x : α} (h0 : 0 ≤ i) (h : l[i.toNat]? = some x) : atI l i = some x := by
  have e : i = ((i.toNat : Nat) : Int) := by omega
  rw [e]
  exact atI_nat h
theorem atI_d {α : Type} {l : List α} {i : Int} (d : α) (h0 : 0 ≤ i) (h : i < l.length) : atI l i = some (l.getD i.toNat d) := by
  refine atI_at h0 ?_
  rw [List.getD_eq_getElem?_getD, List.getElem?_eq_getElem (by omega)]
  rfl
theorem getD_mem {α : Type} {l : List α} {i : Nat} (d : α) (h : i < l.length) : l.getD i d ∈ l := by
  rw [List.getD_eq_getElem?_getD, List.getElem?_eq_getElem h]
  exact List.getElem_mem h
section
variable {K : PySem.W.Frag} {Z : Ec} {G : Sl} {Q : R → Sl → Prop}
theorem wM_join1 {x : R} {n : Nat} {g : Nat → Nat} (h : lv G x = some ((List.range n).map fun i => tx [g i])) (hl : n ≤ 1000000) (q : Q (.sh (tx ((List.range n).map g))) G) : wM K Z (mJoin K) (.sh (tx [])) [x] G Q := by
  have e : ((List.range n).map fun i => tx [g i]) = ((List.range n).map fun i => [g i]).map tx := by rw [List.map_map]; rfl
  refine wM_join (ls := (List.range n).map fun i => [g i]) (by rw [h, e]) ?_ ?_
  · rw [List.map_map]
    have : ((List.length ∘ fun i => [g i]) : Nat → Nat) = fun _ => 1 := rfl
    rw [this, List.map_const', List.sum_replicate_nat, List.length_range]
    omega
  · have e2 : ((List.range n).map fun i => [g i]).flatten = (List.range n).map g := by
      rw [← List.flatMap_def]
      induction (List.range n) with
      | nil => rfl
      | cons a l ih => rw [List.flatMap_cons, ih]; rfl
    rw [e2]; exact q
end
section
variable {K : PySem.W.Frag} {Z : Ec} {G : Sl} {Q : R → Sl → Prop}
/-- an item at a remainder -/
theorem u_ixSm {l : List Nat} {x n : Int} (h0 : 0 < n) (hn : n ≤ l.length) (hl : l.length ≤ 1000000) (q : Q (.sh (tx [l.getD (x.fmod n).toNat 0])) G) : wR K Z (rIx K) (.sh (tx l)) (.sh (.int (x.fmod n))) G Q := by
  have h := fmod_rng x h0
  exact u_ixS hl (atI_d 0 h.1 (by omega)) q
theorem u_ixLm {y : R} {ds : List D} {x n : Int} (hy : lv G y = some ds) (h0 : 0 < n) (hn : n ≤ ds.length) (q : Q (.sh (ds.getD (x.fmod n).toNat .non)) G) : wR K Z (rIx K) y (.sh (.int (x.fmod n))) G Q := by
  have h := fmod_rng x h0
  exact u_ixL hy (atI_d .non h.1 (by omega)) q
/-- an item at a place in bounds -/
theorem u_ixSd {l : List Nat} {i : Int} (h0 : 0 ≤ i) (hi : i < l.length) (hl : l.length ≤ 1000000) (q : Q (.sh (tx [l.getD i.toNat 0])) G) : wR K Z (rIx K) (.sh (tx l)) (.sh (.int i)) G Q := u_ixS hl (atI_d 0 h0 hi) q
theorem u_ixLd {y : R} {ds : List D} {i : Int} (hy : lv G y = some ds) (h0 : 0 ≤ i) (hi : i < ds.length) (q : Q (.sh (ds.getD i.toNat .non)) G) : wR K Z (rIx K) y (.sh (.int i)) G Q := u_ixL hy (atI_d .non h0 hi) q
end
end PL

/-! PT: defs that change their first argument. -/
namespace PL
open PySem PySem.Spec PyProof.Rows L2

abbrev PhiM := Mo → List D → (Mo → Prop) → Prop
/-- the first argument is an owned object, which is changed; rb: it is handed back, else None is -/
def mkSpM (K : PySem.W.Frag) (rb : Bool) (φ : PhiM) : Sp := fun vs H Q _ => ∃ a m us ds S M, vs = .ref a :: us ∧ S a = none ∧ MoOk K S H a m ∧ RepA K S us ds ∧ Same S H ∧ φ m ds M ∧
  ∀ m', M m' → ∀ S' H', (∀ b o, b ≠ a → H b = some o → H' b = some o ∧ ((∀ xs, o ≠ .tup xs) → S' b = S b)) → Same S' H' → Same S S' → S' a = none → MoOk K S' H' a m' → Q (if rb = true then .ref a else .non) H'
def G0M (N : List Str) (a : Addr) (m : Mo) (ds : List D) : Sl := .ow a m :: (ds.map Slot.sh ++ List.replicate (N.length - (ds.length + 1)) .no)
def PoM (rb : Bool) (a : Addr) (M : Mo → Prop) : Po :=
  if rb = true then ⟨fun _ => False, fun r _ => match r with | .ow b m => b = a ∧ M m | _ => False, fun _ => False, fun _ => False⟩
  else ⟨fun G => ∃ m, G[0]? = some (.ow a m) ∧ M m, fun _ _ => False, fun _ => False, fun _ => False⟩
section
variable {K : PySem.W.Frag} {Z : Ec} {F S0 S S' : Hp} {G : Sl} {σ : L2.St} {H H' : Hp} {Q : R → Sl → Prop} {P : Po}
theorem Sat.startM {N : List Str} {a : Addr} {m : Mo} {ds : List D} {us : List V} (hS : S a = none) (hm : MoOk K S H a m) (h : RepA K S us ds) (s : Same S H) : Sat K (fun b => open Classical in if b = a then none else H b) S (G0M N a m ds) S (L2.start N (.ref a :: us)) H := by
  have hl := h.len
  have F0 : ∀ {b : Addr} {o : HO}, (if b = a then none else H b) = some o → b ≠ a ∧ H b = some o := fun {b o} e => by
    by_cases hb : b = a
    · rw [if_pos hb] at e; cases e
    · rw [if_neg hb] at e; exact ⟨hb, e⟩
  have sl : ∀ (i : Nat) (sl : Slot), (ds.map Slot.sh ++ List.replicate (N.length - (ds.length + 1)) .no)[i]? = some sl → sl = .no ∨ ∃ d v, sl = .sh d ∧ us[i]? = some v ∧ Rep K S v d ∧ i < ds.length := fun i sl e => by
    by_cases hi : i < ds.length
    · rw [List.getElem?_append_left (by simpa using hi), List.getElem?_map, List.getElem?_eq_getElem hi] at e
      cases e
      obtain ⟨v, h1, h2⟩ := h.get (List.getElem?_eq_getElem hi)
      exact .inr ⟨_, v, rfl, h1, h2, hi⟩
    · rw [List.getElem?_append_right (by simpa using hi), List.getElem?_replicate] at e
      split at e
      · cases e; exact .inl rfl
      · cases e
  refine ⟨by simp [G0M, L2.start, hl], s, fun b o e => (F0 e).2, fun _ _ _ _ => rfl, fun i x e => ?_, fun i j b mo mo' e1 e2 => ?_⟩
  · cases i with
    | zero =>
      cases e
      exact ⟨rfl, if_pos rfl, hS, hm⟩
    | succ i =>
      rcases sl i x (by simpa [G0M] using e) with rfl | ⟨d, v, rfl, h1, h2, h3⟩
      · trivial
      · refine ⟨v, ?_, h2⟩
        unfold L2.start
        rw [List.getElem?_append_left (by rw [List.length_map, List.length_cons, hl]; omega), List.getElem?_map, List.getElem?_cons_succ, h1]; rfl
  · have z : ∀ (i : Nat) (b : Addr) (mo : Mo), (G0M N a m ds)[i]? = some (.ow b mo) → i = 0 := fun i b mo e => by
      cases i with
      | zero => rfl
      | succ i =>
        rcases sl i _ (by simpa [G0M] using e) with e | ⟨d, v, e, _⟩ <;> cases e
    rw [z i b mo e1, z j b mo' e2]
theorem body_okM {N : List Str} {rb : Bool} {φ : PhiM} {t : TS} {E : XK} {vs : List V} {Qr : VK} (hw : ∀ a m ds M, φ m ds M → wS K ⟨E, fun _ => False⟩ t (G0M N a m ds) (PoM rb a M)) (h : mkSpM K rb φ vs H Qr E) :
    t { nx := fun _ H' => Qr .non H', rt := Qr } (L2.start N vs) H := by
  obtain ⟨a, m, us, ds, S, M, rfl, hS, hm, h1, h2, h3, h4⟩ := h
  have F0 : ∀ {b : Addr} {o : HO}, b ≠ a → H b = some o → (fun b => open Classical in if b = a then none else H b) b = some o := fun {b o} hb e => by
    show (if b = a then none else H b) = some o
    rw [if_neg hb]; exact e
  refine hw a m ds M h3 _ S S _ H _ (Sat.startM hS hm h1 h2) (fun c H' x _ => x.elim) ?_
  cases rb with
  | false =>
    refine ⟨fun G' S' σ' H' q mm s => ?_, fun r G' v S' σ' H' q _ _ _ => q.elim, fun _ _ _ _ q => q.elim, fun _ _ _ _ q => q.elim⟩
    obtain ⟨m', e, q⟩ := q
    obtain ⟨_, _, g3, g4⟩ := s.val 0 _ e
    exact h4 m' q S' H' (fun b o hb e => ⟨s.fr b o (F0 hb e), s.am b o (F0 hb e)⟩) s.sh mm g3 g4
  | true =>
    refine ⟨fun _ _ _ _ q => q.elim, fun r G' v S' σ' H' q mm s o => ?_, fun _ _ _ _ q => q.elim, fun _ _ _ _ q => q.elim⟩
    cases r with
    | sh d => exact q.elim
    | bo i => exact q.elim
    | ow b mo =>
      obtain ⟨rfl, q⟩ := q
      obtain ⟨rfl, _, g3, g4, _⟩ := o
      exact h4 mo q S' H' (fun b o hb e => ⟨s.fr b o (F0 hb e), s.am b o (F0 hb e)⟩) s.sh mm g3 g4
theorem mkSpM_len {rb : Bool} {φ : PhiM} {n : Nat} (hl : ∀ m ds M, φ m ds M → ds.length + 1 = n) : ∀ vs H Q E, mkSpM K rb φ vs H Q E → vs.length = n := fun vs H Q E h => by
  obtain ⟨a, m, us, ds, S, M, rfl, _, _, h1, _, h3, _⟩ := h
  rw [List.length_cons, h1.len]; exact hl _ _ _ h3
theorem fn_pureM {P : Program} {w : World} {mg : Str → Option Value} {base : Heap} {x qual : Str} {st : Stmt} {f : Addr} {fd : FuncData} {N ps : List Str} {k : Nat} {rb : Bool} {φ : PhiM} {t : TS} (F : Fun K x qual st f fd) (Sc : FnScope N ps (defScope st)) (hl : ∀ m ds M, φ m ds M → ds.length + 1 = ps.length)
    (hw : ∀ a m ds M, φ m ds M → ∀ E, wS K ⟨E, fun _ => False⟩ t (G0M N a m ds) (PoM rb a M))
    (hb : ∀ (cdv : Value) (A : Around) (outer : List Env) (s : Shared) (H : Hp) (E : XK), Room k (A.deeper (envOfC qual (defScope st) s.heap.objs.size f cdv)) → PSs (cxOf CX0 P w K mg base N qual (defScope st) f cdv A outer s H E).nox (defBody st) t) :
    FnOk P w K mg base CX0 (k + 1) f fd ps (mkSpM K rb φ) :=
  F.ok Sc (mkSpM_len hl) fun cdv A outer s H vs Q E hr h => ⟨t, hb cdv A outer s H E hr, body_okM (fun a m ds M h => hw a m ds M h E) h⟩
def flatM : Mo → Bool
  | .lst ds => flatA ds
  | _ => true
def noI (i : Nat) : List R → Bool
  | [] => true
  | .bo j :: rs => !(Nat.beq j i) && noI i rs
  | _ :: rs => noI i rs
theorem noI_ne {i j : Nat} : ∀ {rs : List R}, noI i rs = true → R.bo j ∈ rs → j ≠ i
  | [], _, h => by cases h
  | .bo k :: rs, h, hm => by
    have h' := Bool.and_eq_true_iff.mp h
    rcases List.mem_cons.mp hm with e | hm
    · cases e
      intro e
      subst e
      rw [Nat.beq_refl] at h'; exact Bool.noConfusion h'.1
    · exact noI_ne h'.2 hm
  | .sh d :: rs, h, hm => by
    rcases List.mem_cons.mp hm with e | hm
    · cases e
    · exact noI_ne (rs := rs) h hm
  | .ow a m :: rs, h, hm => by
    rcases List.mem_cons.mp hm with e | hm
    · cases e
    · exact noI_ne (rs := rs) h hm
theorem call_coreM {rb : Bool} {φ : PhiM} {E' : XK} {i : Nat} {a : Addr} {m : Mo} {rs : List R} {vs : List V} {v0 : V} {ds : List D} {Qr : VK} (s : Sat K F S0 G S σ H) (o0 : FOk K S σ (.bo i) v0) (o : FsOk K S σ rs vs) (ei : G[i]? = some (.ow a m)) (hd : dsOf G rs = some ds) (hn : noI i rs = true)
    (hφ : φ m ds fun m' => (noBo rs = true ∨ flatM m' = true) ∧ Q (if rb = true then .bo i else .sh .non) (G.set i (.ow a m'))) (k : kE K F S0 S σ Q Qr) : mkSpM K rb φ (v0 :: vs) H Qr E' := by
  have own : ∀ {b : Addr}, Lent G rs b → ∃ m, F b = none ∧ S b = none ∧ MoOk K S H b m := fun {b} ⟨i, m, _, e⟩ => ⟨m, (s.val i _ e).2⟩
  obtain ⟨ea, fa, sa, ma⟩ := s.val i _ ei
  have o0' : σ[i]? = some (some v0) := o0
  rw [ea] at o0'
  cases o0'
  have nla : ¬ Lent G rs a := fun ⟨j, m', hj, e⟩ => noI_ne hn hj (s.sep _ _ _ _ _ e ei)
  have lS : ∀ {b : Addr}, ¬ Lent G rs b → lendS G rs S H b = S b := fun {b} h => by unfold lendS; rw [if_neg h]
  have m1 : Same S (lendS G rs S H) := fun b u e => by
    rw [lS]
    · exact e
    · intro h
      obtain ⟨_, _, h2, _⟩ := own h
      rw [h2] at e; cases e
  have m2 : Same (lendS G rs S H) H := fun b u e => by
    unfold lendS at e
    by_cases h : Lent G rs b
    · rw [if_pos h] at e; exact e
    · rw [if_neg h] at e; exact s.sh b u e
  refine ⟨a, m, vs, ds, _, _, rfl, (lS nla).trans sa, ma.mono m1 fun _ q => q, lend_rep (fun _ h => h) hd s o m1, m2, hφ, fun m' q S' H' g1 g2 g5 g3 g4 => ?_⟩
  obtain ⟨hb, q⟩ := q
  have notlent : ∀ {b : Addr}, (∃ xs, S' b = some (.tup xs)) → ¬ Lent G rs b := fun {b} ⟨xs, e⟩ hl => by
    obtain ⟨mo, _, _, mok⟩ := own hl
    obtain ⟨u, e2, hnt⟩ := mok.some
    have hba : b ≠ a := fun z => by subst z; exact nla hl
    have e3 := (g1 b u hba e2).2 hnt
    unfold lendS at e3
    rw [if_pos hl, e2] at e3
    rw [e3] at e; cases e
    exact hnt xs rfl
  let S2 : Hp := fun b => open Classical in if Lent G rs b then none else S' b
  have S2of : ∀ {b : Addr}, ¬ Lent G rs b → S2 b = S' b := fun {b} h => if_neg h
  have S2no : ∀ {b : Addr}, Lent G rs b → S2 b = none := fun {b} h => if_pos h
  have n1 : Same S S2 := fun b u e => by
    have hl : ¬ Lent G rs b := fun h => by
      obtain ⟨_, _, h2, _⟩ := own h
      rw [h2] at e; cases e
    have hba : b ≠ a := fun z => by subst z; rw [sa] at e; cases e
    rw [S2of hl]
    exact g5 b u (m1 b u e)
  have repA2 : ∀ {vs : List V} {ds : List D}, (noBo rs = true ∨ flatA ds = true) → RepA K S' vs ds → RepA K S2 vs ds := fun {vs ds} h r => by
    rcases h with h | h
    · exact r.mono fun b u e => by rw [S2of (noBo_lent h)]; exact e
    · exact r.flatMono (fun b xs e => by rw [S2of (notlent ⟨xs, e⟩)]; exact e) h
  have hil : i < G.length := (List.getElem?_eq_some_iff.mp ei).1
  have f : ∀ {j : Nat} {sl : Slot}, (G.set i (.ow a m'))[j]? = some sl → (j = i ∧ sl = .ow a m') ∨ (j ≠ i ∧ G[j]? = some sl) := fun {j sl} e => by
    by_cases hj : j = i
    · subst hj
      rw [List.getElem?_set_self hil] at e; cases e
      exact .inl ⟨rfl, rfl⟩
    · rw [List.getElem?_set_ne (Ne.symm hj)] at e; exact .inr ⟨hj, e⟩
  have s2 : Sat K F S0 (G.set i (.ow a m')) S2 σ H' := by
    refine ⟨by simp [s.len], fun b u e => ?_, fun b u e => ?_, fun b u e n => ?_, fun j sl e => ?_, fun j k b x y e1 e2 => ?_⟩
    · by_cases hl : Lent G rs b
      · rw [S2no hl] at e; cases e
      · rw [S2of hl] at e; exact g2 b u e
    · have hba : b ≠ a := fun z => by subst z; rw [fa] at e; cases e
      exact (g1 b u hba (s.fr b u e)).1
    · have hl : ¬ Lent G rs b := fun h => by
        obtain ⟨_, h1, _, _⟩ := own h
        rw [h1] at e; cases e
      have hba : b ≠ a := fun z => by subst z; rw [fa] at e; cases e
      rw [S2of hl, (g1 b u hba (s.fr b u e)).2 n, lS hl]; exact s.am b u e n
    · rcases f e with ⟨rfl, rfl⟩ | ⟨hj, e'⟩
      · refine ⟨ea, fa, by rw [S2of nla]; exact g3, ?_⟩
        cases m' with
        | lst ds =>
          obtain ⟨ws, f1, f2⟩ := g4
          exact ⟨ws, f1, repA2 (hb.imp id id) f2⟩
        | dT kvs => exact g4
        | dK kvs => exact g4
      · have h := s.val j sl e'
        cases sl with
        | no => trivial
        | sh d =>
          obtain ⟨w, e1, r1⟩ := h
          exact ⟨w, e1, r1.mono n1⟩
        | ow b mo =>
          obtain ⟨h1, h2, h3, h4⟩ := h
          have hba : b ≠ a := fun z => by subst z; exact hj (s.sep _ _ _ _ _ e' ei)
          refine ⟨h1, h2, ?_, h4.mono n1 fun u q => (g1 b u hba q).1⟩
          by_cases hl : Lent G rs b
          · exact S2no hl
          · obtain ⟨u, e2, hnt⟩ := h4.some
            rw [S2of hl, (g1 b u hba e2).2 hnt, lS hl]; exact h3
    · rcases f e1 with ⟨h5, h6⟩ | ⟨h5, h6⟩ <;> rcases f e2 with ⟨h7, h8⟩ | ⟨h7, h8⟩
      · rw [h5, h7]
      · cases h6; exact (s.sep _ _ _ _ _ h8 ei) ▸ h5
      · cases h8; exact (s.sep _ _ _ _ _ h6 ei).trans h7.symm
      · exact s.sep j k b x y h6 h8
  cases rb with
  | false => exact k _ _ _ S2 H' q n1 s2 .non
  | true => exact k _ _ _ S2 H' q n1 s2 ea
theorem wE_callM {rb : Bool} {φ : PhiM} {ta : TA} {E' : XK} (h : wA K Z ta G fun rs G1 => ∃ i a m rs' ds, rs = .bo i :: rs' ∧ G1[i]? = some (.ow a m) ∧ dsOf G1 rs' = some ds ∧ noI i rs' = true ∧ φ m ds fun m' => (noBo rs' = true ∨ flatM m' = true) ∧ Q (if rb = true then .bo i else .sh .non) (G1.set i (.ow a m'))) : wE K Z (tCall (mkSpM K rb φ) [] E' ta) G Q := fun F S0 S σ H Qr s z k =>
  h F S0 S σ H _ s z fun rs G1 vs S1 H1 q m1 s1 o => by
    obtain ⟨i, a, m, rs', ds, rfl, ei, e, hn, q⟩ := q
    show mkSpM K rb φ (vs ++ []) H1 Qr E'
    rw [List.append_nil]
    cases o with
    | cons o0 o => exact call_coreM s1 o0 o ei e hn q (k.from m1)
/-- a slot takes its own object again -/
theorem wS_asgB {te : TE} {i : Nat} (h : wE K Z te G fun r G1 => r = .bo i ∧ Nat.blt i G1.length = true ∧ P.nx G1) : wS K Z (tAsg te (gName i)) G P := fun F S0 S σ H D s z k =>
  h F S0 S σ H _ s z fun r G' v S' H' q m s' o => by
    obtain ⟨rfl, hi, q⟩ := q
    have o' : σ[i]? = some (some v) := o
    have e : σ.set i (some v) = σ := by
      obtain ⟨hl, e⟩ := List.getElem?_eq_some_iff.mp o'
      rw [← e]; exact List.set_getElem_self hl
    show D.nx (σ.set i (some v)) H'
    rw [e]
    exact k.nx G' S' σ H' q m s'
end
/-- the def that stands at the module's name x keeps φ and changes its first argument -/
structure CalM (P : Program) (w : World) (K : PySem.W.Frag) (mg : Str → Option Value) (base : Heap) (CX : CXT) (k : Nat) (x : Str) (ps : List Str) (rb : Bool) (φ : PhiM) : Prop where
  ex : ∃ f fd, FnOk P w K mg base CX k f fd ps (mkSpM K rb φ) ∧ mg x = some (.ref f) ∧ PySem.W.keepIn K (.ref f) = true ∧ Binds K fd ps []
section
variable {X : Cx} {CX : CXT} {k : Nat} {ps : List Str} {rb : Bool} {φ : PhiM} {E : XK} {x : Str} {p pos : Pos} {e : Expr} {es : List Expr} {t : TA}
theorem pe_calM (G : CalM X.prog X.w X.K X.mg X.base CX k x ps rb φ) (hr : Room k X.A) (hg : Gl X x) (hx : Passes CX X E)
    (ha : PA X (e :: es) t) (hdb : (x == ("__debug__" : Str)) = false := by decide) (he : starEach (e :: es) X.env = (false, eval e X.env) :: starEach es X.env := by rfl) (hpl : (backTo pos (starEach es X.env)).any (·.1) = false := by rfl) :
    PE X (.Call (.Name x p) (e :: es) [] pos) (tCall (mkSpM X.K rb φ) [] E t) := by
  obtain ⟨f, fd, h1, h2, h3, h4⟩ := G.ex
  exact pe_call h1 hr hg h2 h3 h4 .nil hx ha hdb he hpl
end
end PL

/-! PU: two names at once, list of a dict. -/
namespace PL
open PySem PySem.Spec PyProof.Rows L2
@[reducible] def cListD : List V → Hp → VK → Prop := fun xs H Q => ∃ (a : Addr) (kvs : List (Key × V)), xs = [.ref a] ∧ Rd H a (.dK kvs) ∧ ∀ p, H p = none → Q (.ref p) (upd H p (.lst (kvs.map fun kv => kV kv.1)))
def dK1 : Key → D
  | .inl i => .int i
  | .inr s => .str s
section
variable {K : PySem.W.Frag} {Z : Ec} {F S0 S S' : Hp} {G : Sl} {σ : L2.St} {H H' : Hp} {Q : R → Sl → Prop} {P : Po}
theorem keys_rep : ∀ kvs : List (Key × V), RepA K S (kvs.map fun kv => kV kv.1) (kvs.map fun kv => dK1 kv.1)
  | [] => .nil
  | (k, v) :: kvs => by
    refine .cons ?_ (keys_rep kvs)
    cases k with
    | inl i => exact .int i
    | inr s => exact .str s
theorem wC_listD {x : R} {kvs : List (Key × V)} (h : dv G x = some (.dK kvs)) (q : ∀ a, Q (.ow a (.lst (kvs.map fun kv => dK1 kv.1))) G) : wC K Z cListD [x] G Q := fun F S0 S σ H Qr vs s z o k => by
  obtain ⟨v, rfl, o1⟩ := fs1 o
  have r := dv_rep h s o1
  cases r with
  | dK h1 =>
    refine ⟨_, kvs, rfl, .inl h1, fun p hp => ?_⟩
    obtain ⟨s2, g1, g2, g3⟩ := s.newow (o := .lst (kvs.map fun kv => kV kv.1)) hp
    exact k _ _ _ _ _ (q p) (Same.refl _) s2 ⟨rfl, g1, g2, ⟨_, upd_same, keys_rep kvs⟩, g3⟩
theorem wS_par {i j : Nat} {ta : TA} (h : wA K Z ta G fun rs G1 => Ask (∃ d1 d2, rs = [.sh d1, .sh d2] ∧ Nat.blt i G1.length = true ∧ Nat.blt j G1.length = true ∧ P.nx ((G1.set i (.sh d1)).set j (.sh d2)))) : wS K Z (tPar i j ta) G P := fun F S0 S σ H D s z k =>
  h F S0 S σ H _ s z fun rs G1 vs S1 H1 q m1 s1 o => by
    obtain ⟨d1, d2, rfl, hi, hj, q⟩ := q
    obtain ⟨v, u, rfl, o1, o2⟩ := fs2 o
    refine ⟨v, u, rfl, k.nx _ S1 _ H1 q m1 ((s1.setSh (blt_lt hi) o1).setSh ?_ o2)⟩
    rw [List.length_set]
    exact blt_lt hj
end
end PL

/-! PV: walks over dicts. -/
namespace PL
open PySem PySem.Spec PyProof.Rows L2
section
variable {K : PySem.W.Frag} {Z : Ec} {F S0 S S' : Hp} {G : Sl} {σ : L2.St} {H H' : Hp} {Q : R → Sl → Prop} {P : Po}
def kD : Key → D
  | .inl i => .int i
  | .inr s => .str s
theorem kD_rep (k : Key) : Rep K S (kV k) (kD k) := by
  cases k with
  | inl i => exact .int i
  | inr s => exact .str s
theorem kDs_rep : ∀ ks : List Key, RepA K S (ks.map kV) (ks.map kD)
  | [] => .nil
  | k :: ks => .cons (kD_rep k) (kDs_rep ks)
/-- a tuple of keys is shared -/
theorem Sat.shKey {q : Addr} {ks : List Key} (s : Sat K F S0 G S σ H) (h : H q = some (.tup (ks.map kV))) : ∃ S', Same S S' ∧ Sat K F S0 G S' σ H ∧ Rep K S' (.ref q) (.tup (ks.map kD)) := by
  by_cases hs : S q = none
  · have m : Same S (upd S q (.tup (ks.map kV))) := same_new hs
    refine ⟨_, m, s.more m (fun b u e => ?_) (fun b u e n => ?_) (fun i b mo e => ?_), .tup upd_same (kDs_rep ks)⟩
    · by_cases hb : b = q
      · subst hb; rw [upd_same] at e; rw [h]; exact e
      · rw [upd_ne hb] at e; exact s.sh b u e
    · have hb : b ≠ q := fun z => by
        subst z
        rw [s.fr b u e] at h
        cases h
        exact n _ rfl
      rw [upd_ne hb]
    · have hb : b ≠ q := fun z => by
        subst z
        obtain ⟨_, _, _, mo'⟩ := s.val i _ e
        obtain ⟨o, e2, e3⟩ := mo'.some
        rw [h] at e2; cases e2
        exact e3 _ rfl
      rw [upd_ne hb]
      exact (s.val i _ e).2.2.1
  · cases e : S q with
    | none => exact absurd e hs
    | some o =>
      have e2 := s.sh _ _ e
      rw [h] at e2; cases e2
      exact ⟨S, Same.refl _, s, .tup e (kDs_rep ks)⟩
/-! #### a locked dict -/
section
variable {a : Addr} {od : Obj} {kvs : List (List Key × V)}
mutual
theorem Rep.unlock (e : S a = some (.frz od (.dT kvs))) {v : V} {d : D} : Rep K S v d → Rep K (upd S a (.dT kvs)) v d
  | .non => .non
  | .bl b => .bl b
  | .int i => .int i
  | .str s => .str s
  | .tup (a := b) h r => .tup (by
      have hb : b ≠ a := fun z => by subst z; rw [e] at h; cases h
      rw [upd_ne hb]; exact h) (RepA.unlock e r)
  | .lst (a := b) h r => .lst (by
      have hb : b ≠ a := fun z => by subst z; rw [e] at h; cases h
      rw [upd_ne hb]; exact h) (RepA.unlock e r)
  | .dT (a := b) h => by
    by_cases hb : b = a
    · subst hb
      rcases h with h | ⟨o, h⟩
      · rw [e] at h; cases h
      · rw [e] at h; cases h
        exact .dT (.inl upd_same)
    · refine .dT ?_
      unfold Rd
      rw [upd_ne hb]; exact h
  | .dK (a := b) h => .dK (by
      have hb : b ≠ a := fun z => by subst z; rw [e] at h; cases h
      rw [upd_ne hb]; exact h)
  | .scr (a := b) h => by
    refine .scr ?_
    rcases h with h | h
    · by_cases hb : b = a
      · subst hb
        rcases h with h | ⟨o, h⟩ <;> (rw [e] at h; cases h)
      · refine .inl ?_
        unfold Rd
        rw [upd_ne hb]; exact h
    · exact .inr h
  | .ty n => .ty n
  | .ref a => .ref a
theorem RepA.unlock (e : S a = some (.frz od (.dT kvs))) {vs : List V} {ds : List D} : RepA K S vs ds → RepA K (upd S a (.dT kvs)) vs ds
  | .nil => .nil
  | .cons h r => .cons (Rep.unlock e h) (RepA.unlock e r)
end
theorem moOk_unlock {b : Addr} {m : Mo} (e : S a = some (.frz od (.dT kvs))) (hb : b ≠ a) (h : MoOk K S H b m) : MoOk K (upd S a (.dT kvs)) (upd H a (.dT kvs)) b m := by
  cases m with
  | lst ds =>
    obtain ⟨vs, h1, h2⟩ := h
    exact ⟨vs, by rw [upd_ne hb]; exact h1, h2.unlock e⟩
  | dT k => exact (upd_ne hb).trans h
  | dK k => exact (upd_ne hb).trans h
theorem Sat.unlock (s : Sat K F S0 G S σ H) (hF : F a = none) (e : S a = some (.frz od (.dT kvs))) : Sat K F S0 G (upd S a (.dT kvs)) σ (upd H a (.dT kvs)) := by
  refine ⟨s.len, fun b u q => ?_, fun b u q => ?_, fun b u q n => ?_, fun j sl q => ?_, s.sep⟩
  · by_cases hb : b = a
    · subst hb; rw [upd_same] at q ⊢; exact q
    · rw [upd_ne hb] at q ⊢; exact s.sh b u q
  · have hb : b ≠ a := fun z => by subst z; rw [hF] at q; cases q
    rw [upd_ne hb]; exact s.fr b u q
  · have hb : b ≠ a := fun z => by subst z; rw [hF] at q; cases q
    rw [upd_ne hb]; exact s.am b u q n
  · have h := s.val j sl q
    cases sl with
    | no => trivial
    | sh d =>
      obtain ⟨v, h1, h2⟩ := h
      exact ⟨v, h1, h2.unlock e⟩
    | ow b m =>
      obtain ⟨h1, h2, h3, h4⟩ := h
      have hb : b ≠ a := fun z => by subst z; rw [e] at h3; cases h3
      exact ⟨h1, h2, by rw [upd_ne hb]; exact h3, moOk_unlock e hb h4⟩
theorem Sat.lock {i : Nat} (s : Sat K F S0 G S σ H) (hi : G[i]? = some (.ow a (.dT kvs))) (od : Obj) : Sat K F S0 (G.set i (.sh (.dT kvs))) (upd S a (.frz od (.dT kvs))) σ (upd H a (.frz od (.dT kvs))) := by
  obtain ⟨h1, h2, h3, h4⟩ := s.val i _ hi
  have hil : i < G.length := (List.getElem?_eq_some_iff.mp hi).1
  have m : Same S (upd S a (.frz od (.dT kvs))) := same_new h3
  have f : ∀ {j : Nat} {sl : Slot}, (G.set i (.sh (.dT kvs)))[j]? = some sl → (j = i ∧ sl = .sh (.dT kvs)) ∨ (j ≠ i ∧ G[j]? = some sl) := fun {j sl} e => by
    by_cases hj : j = i
    · subst hj
      rw [List.getElem?_set_self hil] at e; cases e
      exact .inl ⟨rfl, rfl⟩
    · rw [List.getElem?_set_ne (Ne.symm hj)] at e; exact .inr ⟨hj, e⟩
  refine ⟨by simp [s.len], fun b u q => ?_, fun b u q => ?_, fun b u q n => ?_, fun j sl q => ?_, fun j k b m m' e1 e2 => ?_⟩
  · by_cases hb : b = a
    · subst hb; rw [upd_same] at q ⊢; exact q
    · rw [upd_ne hb] at q ⊢; exact s.sh b u q
  · have hb : b ≠ a := fun z => by subst z; rw [h2] at q; cases q
    rw [upd_ne hb]; exact s.fr b u q
  · have hb : b ≠ a := fun z => by subst z; rw [h2] at q; cases q
    rw [upd_ne hb]; exact s.am b u q n
  · rcases f q with ⟨rfl, rfl⟩ | ⟨hj, q'⟩
    · exact ⟨_, h1, .dT (.inr ⟨od, upd_same⟩)⟩
    · have h := s.val j sl q'
      cases sl with
      | no => trivial
      | sh d =>
        obtain ⟨v, g1, g2⟩ := h
        exact ⟨v, g1, g2.mono m⟩
      | ow b mo =>
        obtain ⟨g1, g2, g3, g4⟩ := h
        have hb : b ≠ a := fun z => by subst z; exact hj (s.sep _ _ _ _ _ q' hi)
        exact ⟨g1, g2, by rw [upd_ne hb]; exact g3, g4.mono m fun o q => by rw [upd_ne hb]; exact q⟩
  · rcases f e1 with ⟨_, z⟩ | ⟨_, e1'⟩
    · cases z
    · rcases f e2 with ⟨_, z⟩ | ⟨_, e2'⟩
      · cases z
      · exact s.sep _ _ _ _ _ e1' e2'
end
/-- the core of a for whose items come to be shared -/
theorem for_core2 {J : L2.It} {g : TG} {tb : TS} {En : Ends} (n : Nat) (inv : Nat → Sl → Prop) (item : Nat → D → Prop) (z : hZ Z F) (s : Sat K F S0 G S σ H) (k : POk K F S0 S P En) (h0 : inv 0 G)
    (hgo : ∀ i G' S' σ' H', i < n → inv i G' → Same S S' → Sat K F S0 G' S' σ' H' → J.go i H' ∧ ∀ x H2, J.yld i H' x H2 → H2 = H' ∧ ∃ S2, Same S' S2 ∧ Sat K F S0 G' S2 σ' H' ∧ ∃ d, item i d ∧ Rep K S2 x d)
    (hstop : ∀ G' S' σ' H', inv n G' → Same S S' → Sat K F S0 G' S' σ' H' → J.stop n H')
    (hs : ∀ i d G', i < n → item i d → inv i G' → wG K g d G' fun G2 => wS K Z tb G2 ⟨inv (i + 1), P.rt, P.nx, inv (i + 1)⟩) (hd : ∀ G', inv n G' → P.nx G') :
    ∃ W : Nat → Nat → L2.St → Hp → Prop, (∃ m, W 0 m σ H) ∧ ∀ i m σ H, W i m σ H →
      (J.stop i H ∧ En.nx σ H) ∨ (J.go i H ∧ ∃ N : L2.St → Hp → Prop, (∀ σ' H', N σ' H' → ∃ m', m' < m ∧ W (i + 1) m' σ' H') ∧ ∀ x H', J.yld i H x H' → g x σ H' fun σ2 H2 => tb { En with nx := N, ct := N, bk := En.nx } σ2 H2) := by
  refine ⟨fun i m σ' H' => m = n - i ∧ i ≤ n ∧ ∃ G' S', inv i G' ∧ Same S S' ∧ Sat K F S0 G' S' σ' H', ⟨n, by simp, Nat.zero_le _, G, S, h0, Same.refl _, s⟩, ?_⟩
  rintro i m σ1 H1 ⟨rfl, hi, G1, S1, i1, m1, s1⟩
  by_cases hlt : i < n
  · obtain ⟨hg, hy⟩ := hgo i G1 S1 σ1 H1 hlt i1 m1 s1
    refine .inr ⟨hg, fun σ' H' => ∃ G' S', inv (i + 1) G' ∧ Same S S' ∧ Sat K F S0 G' S' σ' H', ?_, fun x H2 y => ?_⟩
    · rintro σ' H' ⟨G', S', i', mm, s'⟩
      exact ⟨n - (i + 1), by omega, rfl, hlt, G', S', i', mm, s'⟩
    · obtain ⟨rfl, S1', mx, s1', d, hit, r⟩ := hy x H2 y
      have m1 := m1.trans mx
      refine hs i d G1 hlt hit i1 F S0 S1' σ1 H2 x _ s1' r fun G2 S2 σ2 H3 q2 m2 s2 => ?_
      refine q2 F S0 S2 σ2 H3 _ s2 z ⟨?_, ?_, ?_, ?_⟩
      · intro G3 S3 σ3 H3 q3 m3 s3
        exact ⟨G3, S3, q3, m1.trans (m2.trans m3), s3⟩
      · intro r G3 v S3 σ3 H3 q3 m3 s3 o3
        exact k.rt r G3 v S3 σ3 H3 q3 (m1.trans (m2.trans m3)) s3 o3
      · intro G3 S3 σ3 H3 q3 m3 s3
        exact k.nx G3 S3 σ3 H3 q3 (m1.trans (m2.trans m3)) s3
      · intro G3 S3 σ3 H3 q3 m3 s3
        exact ⟨G3, S3, q3, m1.trans (m2.trans m3), s3⟩
  · have e : i = n := by omega
    subst e
    exact .inl ⟨hstop G1 S1 σ1 H1 i1 m1 s1, k.nx G1 S1 σ1 H1 (hd G1 i1) m1 s1⟩
/-- for k in d, d an owned dict with tuple keys in slot i; it is data from here on -/
theorem wS_forKT {i : Nat} {a : Addr} {kvs : List (List Key × V)} {g : TG} {tb : TS} (h : G[i]? = some (.ow a (.dT kvs))) (inv : Nat → Sl → Prop) (h0 : inv 0 (G.set i (.sh (.dT kvs))))
    (hs : ∀ j k v G2, kvs[j]? = some (k, v) → inv j G2 → wG K g (.tup (k.map kD)) G2 fun G3 => wS K Z tb G3 ⟨inv (j + 1), P.rt, P.nx, inv (j + 1)⟩)
    (hd : ∀ G2, inv kvs.length G2 → P.nx G2) : wS K Z (tLock (tFor (iKeys (tVar i)) g tb)) G P := fun F S0 S σ H D s z k => by
  obtain ⟨e, f1, f2, f3⟩ := s.val i _ h
  refine ⟨a, .dT kvs, f3, trivial, fun od => ?_⟩
  have s1 := s.lock h od
  have mS : Same S (upd S a (.frz od (.dT kvs))) := same_new f2
  have fin : ∀ {S' : Hp}, Same (upd S a (.frz od (.dT kvs))) S' → S' a = some (.frz od (.dT kvs)) ∧ Same S (upd S' a (.dT kvs)) := fun {S'} m => ⟨m a _ upd_same, fun b u q => by
    have hb : b ≠ a := fun z => by subst z; rw [f2] at q; cases q
    rw [upd_ne hb]; exact m b u (by rw [upd_ne hb]; exact q)⟩
  refine ⟨_, e, a, od, rfl, .inr ⟨kvs, upd_same, for_core2 (P := P) (S := upd S a (.frz od (.dT kvs))) kvs.length inv (fun j d => ∃ k v, kvs[j]? = some (k, v) ∧ d = .tup (k.map kD)) z s1 ⟨?_, ?_, ?_, ?_⟩ h0 (fun j G' S' σ' H' hj iv m s' => ?_) (fun G' S' σ' H' iv m s' => ?_) (fun j d G' hj it iv => ?_) hd⟩⟩
  · intro G' S' σ' H' q m s'
    obtain ⟨g1, g2⟩ := fin m
    exact ⟨s'.sh _ _ g1, k.nx G' _ σ' _ q g2 (s'.unlock f1 g1)⟩
  · intro r G' v S' σ' H' q m s' o
    obtain ⟨g1, g2⟩ := fin m
    refine ⟨s'.sh _ _ g1, k.rt r G' v _ σ' _ q g2 (s'.unlock f1 g1) ?_⟩
    cases r with
    | sh d => exact Rep.unlock g1 o
    | bo j => exact o
    | ow b mo =>
      obtain ⟨o1, o2, o3, o4, o5⟩ := o
      have hb : b ≠ a := fun z => by subst z; rw [g1] at o3; cases o3
      exact ⟨o1, o2, by rw [upd_ne hb]; exact o3, moOk_unlock g1 hb o4, o5⟩
  · intro G' S' σ' H' q m s'
    obtain ⟨g1, g2⟩ := fin m
    exact ⟨s'.sh _ _ g1, k.bk G' _ σ' _ q g2 (s'.unlock f1 g1)⟩
  · intro G' S' σ' H' q m s'
    obtain ⟨g1, g2⟩ := fin m
    exact ⟨s'.sh _ _ g1, k.ct G' _ σ' _ q g2 (s'.unlock f1 g1)⟩
  · have g1 := s'.sh _ _ (fin m).1
    refine ⟨⟨g1, hj⟩, fun x H2 y => ?_⟩
    obtain ⟨rfl, ks, v, q, y1, y2, y3⟩ := y
    subst y2
    obtain ⟨S2, m2, s2, r2⟩ := s'.shKey y3
    exact ⟨rfl, S2, m2, s2, _, ⟨ks, v, y1, rfl⟩, r2⟩
  · exact ⟨s'.sh _ _ (fin m).1, Nat.le_refl _⟩
  · obtain ⟨ks, v, y1, rfl⟩ := it
    exact hs j ks v G' y1 iv
end
/-! #### is True, is not True -/
@[reducible] def rIsB : R2 := fun x y H Q => ∃ a b, x = .bl a ∧ y = .bl b ∧ Q (.bl (decide (a = b))) H
@[reducible] def rNotB : R2 := fun x y H Q => ∃ a b, x = .bl a ∧ y = .bl b ∧ Q (.bl (!decide (a = b))) H
theorem op_isB {X : Cx} : OpR X (compareOp .Is) PL.rIsB := op_is_bl
theorem op_notB {X : Cx} : OpR X (compareOp .IsNot) PL.rNotB := op_isnot_bl
section
variable {K : PySem.W.Frag} {Z : Ec} {G : Sl} {Q : R → Sl → Prop}
theorem wR_isB {a b : Bool} (q : Q (.sh (.bl (decide (a = b)))) G) : wR K Z PL.rIsB (.sh (.bl a)) (.sh (.bl b)) G Q := fun F S0 S σ H Qr v u s z o1 o2 k => by
  cases o1; cases o2
  exact ⟨a, b, rfl, rfl, k.val s q (.bl _)⟩
theorem wR_notB {a b : Bool} (q : Q (.sh (.bl (!decide (a = b)))) G) : wR K Z PL.rNotB (.sh (.bl a)) (.sh (.bl b)) G Q := fun F S0 S σ H Qr v u s z o1 o2 k => by
  cases o1; cases o2
  exact ⟨a, b, rfl, rfl, k.val s q (.bl _)⟩
end
end PL

/-! PZ: written dicts of constants; a call in a try. -/
namespace PL
open PySem PySem.Spec PyProof.Rows L2
section
variable {K : PySem.W.Frag} {Z : Ec} {F S0 S S' : Hp} {G : Sl} {σ : L2.St} {H H' : Hp} {Q : R → Sl → Prop} {P : Po}
theorem tPairs_c {σ : L2.St} : ∀ (kvs : List (Key × V)) (H : Hp) (Q : List (V × V) → Hp → Prop), Q (kvs.map fun kv => (kV kv.1, kv.2)) H → tPairs (kvs.map fun kv => (tC (kV kv.1), tC kv.2)) σ H Q
  | [], H, Q, h => h
  | p :: kvs, H, Q, h => tPairs_c kvs H _ h
/-- {k: v, ..} of constants -/
theorem wE_dispC (kvs : List (Key × V)) (hl : Nat.ble kvs.length 15 = true) (q : ∀ a, Q (.ow a (.dK (mergeK [] kvs))) G) : wE K Z (tDisp (kvs.map fun kv => (tC (kV kv.1), tC kv.2))) G Q := fun F S0 S σ H Qr s z k p hp => by
  refine tPairs_c kvs _ _ ⟨upd_same, kvs, rfl, Nat.le_of_ble_eq_true hl, ?_⟩
  obtain ⟨s2, g1, g2, g3⟩ := s.newow (o := .dK (mergeK [] kvs)) hp
  have e : upd (upd H p (.dK [])) p (.dK (mergeK [] kvs)) = upd H p (.dK (mergeK [] kvs)) := by
    funext b
    by_cases hb : b = p
    · subst hb; rw [upd_same, upd_same]
    · rw [upd_ne hb, upd_ne hb, upd_ne hb]
  rw [e]
  exact k _ _ _ _ _ (q p) (Same.refl _) s2 ⟨rfl, g1, g2, upd_same, g3⟩
end
end PL

/-! PW: a slice stored. -/
namespace PL
open PySem PySem.Spec PyProof.Rows L2
/-- xs[lo:hi] = another list -/
def gSlice (to ta tb : TE) : TG := fun v σ H Q => to σ H fun o H1 => ta σ H1 fun x H2 => tb σ H2 fun y H3 => ∃ (l b : Addr) (xs ys : List V) (a c : Int), o = .ref l ∧ v = .ref b ∧ x = .int a ∧ y = .int c ∧ H3 l = some (.lst xs) ∧ H3 b = some (.lst ys) ∧ l ≠ b ∧ 0 ≤ a ∧ a ≤ c ∧ c ≤ xs.length ∧ xs.length + ys.length ≤ sizeLine ∧ Q σ (upd H3 l (.lst (xs.take a.toNat ++ ys ++ xs.drop c.toNat)))
section
variable {X : Cx} {pos p2 : Pos} {o lo hi : Expr} {to ta tb : TE}
theorem pg_slice (ho : PE X o to) (hl : PE X lo ta) (hu : PE X hi tb)
    (ha : ∀ v, assign (.Subscript o (.Slice (some lo) (some hi) none p2) pos) X.env v = (do
      let ov ← holding [v] (eval o X.env)
      let iv ← holding [v, ov] (eval (.Slice (some lo) (some hi) none p2) X.env)
      standAt pos
      holding [v, ov, iv] (setItem ov iv v)
      release [iv, v, ov] []) := by intro _; rfl) : PG X (.Subscript o (.Slice (some lo) (some hi) none p2) pos) (gSlice to ta tb) := by
  refine ⟨fun pins s σ H v u Q I r h => ?_⟩
  rw [ha]
  refine wpAny_bind (wpAny_holding (thn (ho.run pins s σ H _ I h) fun ov s1 ⟨x, H1, I1, r1, q1⟩ => ?_))
  refine wpAny_bind (wpAny_holding ?_)
  refine wpAny_Slice ?_
  rw [evalPart_some, evalPart_some, evalPart_none]
  refine thn (hl.run pins s1 σ H1 _ I1 q1) fun vl s2 ⟨l, H2, I2, pl, q2⟩ => thn (hu.run pins s2 σ H2 _ I2 q2) fun vu s3 ⟨y, H3, I3, pu, q3⟩ => ?_
  refine wpAny_pure ?_
  have I4 : Inv X pins σ H3 { s3 with heap := s3.heap.push { cls := .type "slice", data := .fields #[vl, vu, .none] } } := I3.kept (t' := s3.toks) fun b ob q => Heap.get?_push_of_some _ q
  obtain ⟨la, b, xs, ys, a, c, rfl, rfl, rfl, rfl, hH, hB, hne, h0, hac, hc, hz, q⟩ := q3
  cases r1
  cases r
  refine wpAny_bind (wpAny_standAt (wpAny_bind (wpAny_holding ?_)))
  refine set_slice (s := { s3 with heap := s3.heap.push { cls := .type "slice", data := .fields #[vl, vu, .none] } }) I4 hH hB hne (Heap.IsSliceOf.new ..) pl pu h0 hac hc hz fun s' I' => ?_
  exact wpAny_release ⟨σ, _, I', q⟩
end
section
variable {K : PySem.W.Frag} {Z : Ec} {F S0 S S' : Hp} {G : Sl} {σ : L2.St} {H H' : Hp} {Q : R → Sl → Prop} {P : Po}
theorem wS_setSl {i : Nat} {a : Addr} {te ta tb : TE} (h : wE K Z te G fun r G1 => ∃ es, rsh r = some (.lst es) ∧ (∃ m, G1[i]? = some (.ow a m)) ∧ wE K Z ta G1 fun x G2 => wE K Z tb G2 fun y G3 => ∃ (p q : Int) (ds : List D), x = .sh (.int p) ∧ y = .sh (.int q) ∧ G3[i]? = some (.ow a (.lst ds)) ∧ 0 ≤ p ∧ p ≤ q ∧ q ≤ ds.length ∧ ds.length + es.length ≤ 1000000 ∧ P.nx (G3.set i (.ow a (.lst (ds.take p.toNat ++ es ++ ds.drop q.toNat))))) :
    wS K Z (tAsg te (gSlice (tVar i) ta tb)) G P := fun F S0 S σ H D s z k =>
  evF h s z fun r G1 v S1 H1 q m s1 o => by
    obtain ⟨es, e2, ⟨m0, h1⟩, q⟩ := q
    obtain ⟨e, _⟩ := s1.val i _ h1
    have r' := rsh_ok e2 o
    cases r' with
    | @lst b ys _ hb hy =>
      refine ⟨_, e, evF q s1 z fun x G2 u S2 H2 q m2 s2 o2 => evF q s2 z fun y G3 w S3 H3 q m3 s3 o3 => ?_⟩
      obtain ⟨p, q', ds, rfl, rfl, h2, h0, hpq, hq, hl, q⟩ := q
      cases o2; cases o3
      obtain ⟨e', f1, f2, vs, g3, g4⟩ := s3.val i _ h2
      have hb3 : S3 b = some (.lst ys) := m3 _ _ (m2 _ _ hb)
      have hne : a ≠ b := fun z => by subst z; rw [f2] at hb3; cases hb3
      have hlen := hy.len
      refine ⟨a, b, vs, ys, p, q', rfl, rfl, rfl, rfl, g3, s3.sh _ _ hb3, hne, h0, hpq, by rw [g4.len]; exact hq, by rw [g4.len, hlen]; exact line_of hl, k.nx _ S3 σ _ q ((m.trans m2).trans m3) (s3.mut h2 ⟨_, upd_same, ?_⟩)⟩
      exact ((g4.take _).append (hy.mono (m2.trans m3))).append (g4.drop _)
end
end PL

namespace PySem.SeqAt
open AutoSeq1 (wpAny_loadPart')
open MeetsSeq MeetsSeq2 MeetsSeq3 SeqRoads2
section
variable {A : Around} {s : Shared}
def IsDict (s : Shared) (a : Addr) : Prop := ∃ o es ep, s.heap.get? a = some o ∧ o.cls = .type "dict" ∧ o.data = .dict es ep
theorem IsDict.ty {a : Addr} (h : IsDict s a) : s.TypeIs (.ref a) "dict" := by
  obtain ⟨o, es, ep, h1, h2, h3⟩ := h
  exact ⟨o, h1, h2⟩
theorem str_eq_declines_dict (b : Str) (u : Tok) (l : Addr) (c : Value) (dd : Option Addr) (sl : Array (Option Value)) (es : Array DictEntry) (ep : Nat) :
    Meets (Builtin.«str.__eq__» ⟨[.str b u, .ref l], []⟩) (fun _ R s => s.heap.get? l = some { cls := c, dict := dd, data := .dict es ep, slots := sl } ∧ R (.ok (.ret .notImplemented)) s) :=
  .of_wp fun prog w A R s h => by obtain ⟨hp, g, d, tk, os⟩ := s; obtain ⟨hl, h⟩ := h; wp_walk using wpAny_loadPart' hl, wpAny_load hl; exact ⟨_, rfl, h⟩
theorem dict_eq_declines_str {prog : Program} {w : World} {E Q : Value → Shared → Prop} {l : Addr} {x : Str} {t : Tok} (hd : IsDict s l) (h : Q .notImplemented s) : wpAny (model prog w) A (call (.builtin "dict.__eq__") [.ref l, .str x t]) Q E s := by
  refine wpAny_call_entry PySem.F.slot_dict_eq hd.ty PySem.F.entry_dict_eq ?_ (PySem.F.args_dict_eq_2 _ _)
  show wpAny _ _ (Builtin.Dict.dictSlotArgs "__eq__" ⟨[.ref l, .str x t], []⟩ >>= _) _ _ s
  refine wpAny_bind ?_
  unfold Builtin.Dict.dictSlotArgs
  refine wpAny_bind (wpAny_notOrdered_dict hd.ty ?_)
  show wpAny _ _ (pure (Value.ref l, Value.str x t)) _ _ s
  refine wpAny_pure ?_
  refine wpAny_bind (wpAny_isInstance (T := "str") (typeIs_str s x t) PySem.F.sub_str_dict ?_)
  rw [if_pos (by decide)]
  exact wpAny_bind (wpAny_rule (wpAny_pure ⟨_, rfl, h⟩))
theorem RcAt.dict_str {l : Addr} (x : Str) (t : Tok) (hl : IsDict s l) (hu : A.units < cLine) : RcAt A s (.ref l) (.str x t) false := fun prog w E Q h => by
  have hl' := hl
  obtain ⟨⟨cls, dd, data, sl⟩, es, ep, ho, hc, hd⟩ := hl
  simp only at hc hd
  subst hc hd
  exact rc_eq_decline_or (k := false) ⟨_, ho, rfl⟩ (typeIs_str s x t) (by decide) F.sub_str_dict F.slot_dict_eq F.slot_str_eq_refl
    (fun _ hq => dict_eq_declines_str hl' hq)
    (fun _ hq => call_meets F.slot_str_eq_refl (typeIs_str s x t) F.entry_str_eq (F.args_str_eq_2 _ _) (str_eq_declines_dict x t l (.type "dict") dd sl es ep) ⟨ho, hq⟩)
    (fun _ hq => wpAny_of_eq (rfl : isSame (.ref l) (.str x t) = pure false) hq) (.inr hu) h
theorem RcAt.str_dict {l : Addr} (x : Str) (t : Tok) (hl : IsDict s l) (hu : A.units < cLine) : RcAt A s (.str x t) (.ref l) false := fun prog w E Q h => by
  have hl' := hl
  obtain ⟨⟨cls, dd, data, sl⟩, es, ep, ho, hc, hd⟩ := hl
  simp only at hc hd
  subst hc hd
  exact rc_eq_decline_or (k := false) (typeIs_str s x t) ⟨_, ho, rfl⟩ (by decide) F.sub_dict_str F.slot_str_eq F.slot_dict_eq_refl
    (fun _ hq => call_meets F.slot_str_eq (typeIs_str s x t) F.entry_str_eq (F.args_str_eq_2 _ _) (str_eq_declines_dict x t l (.type "dict") dd sl es ep) ⟨ho, hq⟩)
    (fun _ hq => dict_eq_declines_str hl' hq)
    (fun _ hq => wpAny_of_eq (rfl : isSame (.str x t) (.ref l) = pure false) hq) (.inr hu) h
theorem EqAt.dict_str {l : Addr} (x : Str) (t : Tok) (hl : IsDict s l) (hu : A.units < cLine) : EqAt A s (.ref l) (.str x t) false := fun prog w E Q h => by
  unfold eqBool
  refine wpAny_holding ?_
  refine wpAny_ite_split (fun hab => absurd (eq_of_beq hab) nofun) (fun _ => ?_)
  exact wpAny_bind (RcAt.dict_str x t hl hu prog w E _ (wpAny_truthy_bool h))
theorem EqAt.str_dict {l : Addr} (x : Str) (t : Tok) (hl : IsDict s l) (hu : A.units < cLine) : EqAt A s (.str x t) (.ref l) false := fun prog w E Q h => by
  unfold eqBool
  refine wpAny_holding ?_
  refine wpAny_ite_split (fun hab => absurd (eq_of_beq hab) nofun) (fun _ => ?_)
  exact wpAny_bind (RcAt.str_dict x t hl hu prog w E _ (wpAny_truthy_bool h))
theorem str_ne_declines_dict (b : Str) (u : Tok) (l : Addr) (c : Value) (dd : Option Addr) (sl : Array (Option Value)) (es : Array DictEntry) (ep : Nat) :
    Meets (Builtin.«str.__ne__» ⟨[.str b u, .ref l], []⟩) (fun _ R s => s.heap.get? l = some { cls := c, dict := dd, data := .dict es ep, slots := sl } ∧ R (.ok (.ret .notImplemented)) s) :=
  .of_wp fun prog w A R s h => by obtain ⟨hp, g, d, tk, os⟩ := s; obtain ⟨hl, h⟩ := h; wp_walk using wpAny_loadPart' hl, wpAny_load hl; exact ⟨_, rfl, h⟩
theorem dict_ne_declines_str {prog : Program} {w : World} {E Q : Value → Shared → Prop} {l : Addr} {x : Str} {t : Tok} (hd : IsDict s l) (h : Q .notImplemented s) : wpAny (model prog w) A (call (.builtin "dict.__ne__") [.ref l, .str x t]) Q E s := by
  refine wpAny_call_entry PySem.F.slot_dict_ne hd.ty PySem.F.entry_dict_ne ?_ (PySem.F.args_dict_ne_2 _ _)
  show wpAny _ _ (Builtin.Dict.dictSlotArgs "__ne__" ⟨[.ref l, .str x t], []⟩ >>= _) _ _ s
  refine wpAny_bind ?_
  unfold Builtin.Dict.dictSlotArgs
  refine wpAny_bind (wpAny_notOrdered_dict hd.ty ?_)
  show wpAny _ _ (pure (Value.ref l, Value.str x t)) _ _ s
  refine wpAny_pure ?_
  refine wpAny_bind (wpAny_isInstance (T := "str") (typeIs_str s x t) PySem.F.sub_str_dict ?_)
  rw [if_pos (by decide)]
  exact wpAny_bind (wpAny_rule (wpAny_pure ⟨_, rfl, h⟩))
theorem RcNeAt.dict_str {l : Addr} (x : Str) (t : Tok) (hl : IsDict s l) (hu : A.units < cLine) : RcNeAt A s (.ref l) (.str x t) true := fun prog w E Q h => by
  have hl' := hl
  obtain ⟨⟨cls, dd, data, sl⟩, es, ep, ho, hc, hd⟩ := hl
  simp only at hc hd
  subst hc hd
  exact rc_ne_decline_or (k := false) ⟨_, ho, rfl⟩ (typeIs_str s x t) (by decide) F.sub_str_dict F.slot_dict_ne F.slot_str_ne_refl
    (fun _ hq => dict_ne_declines_str hl' hq)
    (fun _ hq => call_meets F.slot_str_ne_refl (typeIs_str s x t) F.entry_str_ne (F.args_str_ne_2 _ _) (str_ne_declines_dict x t l (.type "dict") dd sl es ep) ⟨ho, hq⟩)
    (fun _ hq => wpAny_of_eq (rfl : isSame (.ref l) (.str x t) = pure false) hq) (.inr hu) h
end
end PySem.SeqAt
namespace PL
open PySem PySem.Spec PyProof.Rows L2
section
variable {X : Cx} {pins : List (Addr × Obj)} {σ : L2.St} {H : Hp} {s : Shared}
theorem isDict_of {a : Addr} {kvs : List (Key × V)} (I : Inv X pins σ H s) (e : H a = some (.dK kvs)) : SeqAt.IsDict s a := by
  obtain ⟨_, _, vs, r, o, es, ep, h1, h2, h3, _⟩ := (show ObjOk X.prog X.w H s.heap a (.dK kvs) from I.hok a _ e)
  exact ⟨o, es, ep, h1, h2.1, h3⟩
def DkAt (H : Hp) (x : V) : Prop := ∃ a kvs, x = .ref a ∧ H a = some (.dK kvs)
def rEqS : R2 := fun x y H Q => DkAt H x ∧ (∃ z, y = .str z) ∧ Q (.bl false) H
def rNeS : R2 := fun x y H Q => DkAt H x ∧ (∃ z, y = .str z) ∧ Q (.bl true) H
theorem op_eqS (hu : X.A.units < cLine) : OpR X (compareOp .Eq) rEqS := by
  intro pins s σ H x y v u Q I rx ry h
  obtain ⟨⟨a, kvs, rfl, e⟩, ⟨z, rfl⟩, q⟩ := h
  cases (show v = Value.ref a from rx)
  obtain ⟨t, rfl⟩ := ry
  exact SeqAt.RcAt.dict_str z t (isDict_of I e) hu _ _ _ _ ⟨.bl false, H, I, rfl, q⟩
theorem op_neS (hu : X.A.units < cLine) : OpR X (compareOp .NotEq) rNeS := by
  intro pins s σ H x y v u Q I rx ry h
  obtain ⟨⟨a, kvs, rfl, e⟩, ⟨z, rfl⟩, q⟩ := h
  cases (show v = Value.ref a from rx)
  obtain ⟨t, rfl⟩ := ry
  exact SeqAt.RcNeAt.dict_str z t (isDict_of I e) hu _ _ _ _ ⟨.bl true, H, I, rfl, q⟩
/-- a text against a thing: what == says -/
def SvE (K : PySem.W.Frag) (H : Hp) (z : Str) (x : V) (b : Bool) : Prop := (DkAt H x ∧ b = false) ∨ ∃ d, Dp K H x d ∧ SeqAt.shaped (.str z) = true ∧ SeqAt.shaped d = true ∧ b = PyData.eqv (.str z) d
theorem svE_at {A : Around} {z : Str} {x : V} {b : Bool} {u v : Value} (I : Inv X pins σ H s) (hu : A.units + 64 < cLine) (h : SvE X.K H z x b) (ru : RelV (.str z) u) (rv : RelV x v) : SeqAt.EqAt A s u v b := by
  obtain ⟨t, rfl⟩ := ru
  rcases h with ⟨⟨a, kvs, rfl, e⟩, rfl⟩ | ⟨d, hd, sz, sd, rfl⟩
  · cases (show v = Value.ref a from rv)
    exact SeqAt.EqAt.str_dict z t (isDict_of I e) (by omega)
  · obtain ⟨as, r⟩ := Dp.reads I d x v hd rv
    exact SeqAt.eqAt_reads (.str z) d A s _ _ _ _ (Reads.str z t) r (SeqAt.canLay_of_shaped sz) (SeqAt.canLay_of_shaped sd) (SeqAt.room_of_shaped sz hu)
/-- w == x says no -/
def NeI (K : PySem.W.Frag) (H : Hp) (w x : V) : Prop :=
  (∃ z, w = .str z ∧ SvE K H z x false) ∨
  ∃ (a b : Addr) (ss : List Str) (ys : List V) (e : Nat → Bool), w = .ref a ∧ x = .ref b ∧ SqT K H a (ss.map V.str) ∧ SqT K H b ys ∧ a ≠ b ∧ (∀ j z y, ss[j]? = some z → ys[j]? = some y → SvE K H z y (e j)) ∧ (ss.length = ys.length → ∃ j, j < ss.length ∧ e j = false)
theorem neI_at {A : Around} {w x : V} {u v : Value} (I : Inv X pins σ H s) (hu : A.units + 66 < cLine) (h : NeI X.K H w x) (ru : RelV w u) (rv : RelV x v) : SeqAt.EqAt A s u v false := by
  rcases h with ⟨z, rfl, h⟩ | ⟨a, b, ss, ys, e, rfl, rfl, h1, h2, hne, hs, hf⟩
  · exact svE_at I (by omega) h ru rv
  · cases (show u = Value.ref a from ru)
    cases (show v = Value.ref b from rv)
    obtain ⟨us, r1, p1, _⟩ := I.tuple h1
    obtain ⟨ws, r2, p2, _⟩ := I.tuple h2
    have l1 : us.length = ss.length := by rw [← r1.length, List.length_map]
    have l2 : ws.length = ys.length := r2.length.symm
    have key := SeqAt.RcAt.tuples (A := A) (s := s) (e := e) p1 p2 (by omega) fun j j1 j2 => by
      have j1' : j < ss.length := by rw [← l1]; simpa using j1
      have j2' : j < ys.length := by rw [← l2]; simpa using j2
      obtain ⟨u1, e1, g1⟩ := Vals.get (i := j) (x := V.str ss[j]) r1 (by rw [List.getElem?_map, List.getElem?_eq_getElem j1']; rfl)
      obtain ⟨u2, e2, g2⟩ := Vals.get (i := j) r2 (List.getElem?_eq_getElem j2')
      have c1 : us.toArray[j] = u1 := by
        have := (List.getElem?_eq_some_iff.mp e1).2
        simpa using this
      have c2 : ws.toArray[j] = u2 := by
        have := (List.getElem?_eq_some_iff.mp e2).2
        simpa using this
      rw [c1, c2]
      exact svE_at I (by show A.units + 1 + 64 < cLine; omega) (hs j _ _ (List.getElem?_eq_getElem j1') (List.getElem?_eq_getElem j2')) g1 g2
    have hr : ((List.range (min us.toArray.size ws.toArray.size)).all e && us.toArray.size == ws.toArray.size) = false := by
      rw [List.size_toArray, List.size_toArray, l1, l2]
      by_cases hl : ss.length = ys.length
      · obtain ⟨j, hj, ej⟩ := hf hl
        have : (List.range (min ss.length ys.length)).all e = false := by
          rw [List.all_eq_false]
          exact ⟨j, List.mem_range.mpr (by omega), by rw [ej]; exact Bool.false_ne_true⟩
        rw [this]; rfl
      · have : (ss.length == ys.length) = false := beq_eq_false_iff_ne.mpr hl
        rw [this, Bool.and_false]
    rw [hr] at key
    exact SeqAt.EqAt.of_refs hne key
/-! equal data, as deep as n -/
mutual
def okE : Nat → D → Bool
  | _, .non => true
  | _, .bl _ => true
  | _, .int _ => true
  | _, .str _ => true
  | n + 1, .tup l => okEA n l
  | n + 1, .lst l => okEA n l
  | _ + 1, .dK l => l.isEmpty
  | _, _ => false
def okEA : Nat → List D → Bool
  | _, [] => true
  | n, d :: l => okE n d && okEA n l
end
theorem eqT_leaf {n : Nat} {x : V} {u v : Value} (f : flatB x = true) (ru : RelV x u) (rv : RelV x v) : PySem.W.EqTree X.prog X.w s n u v true := .leaf fun A _ => eqAt_same ru rv f
theorem all_yes (n : Nat) : ((List.range n).all fun _ => true) = true := List.all_eq_true.mpr fun _ _ => rfl
mutual
theorem eqT_run (I : Inv X pins σ H s) : ∀ (n : Nat) (d : D) {x y : V} {u v : Value}, okE n d = true → Rep X.K H x d → Rep X.K H y d → RelV x u → RelV y v → PySem.W.EqTree X.prog X.w s n u v true
  | n, .non, _, _, _, _, _, r1, r2, ru, rv => by cases r1; cases r2; exact eqT_leaf rfl ru rv
  | n, .bl b, _, _, _, _, _, r1, r2, ru, rv => by cases r1; cases r2; exact eqT_leaf rfl ru rv
  | n, .int i, _, _, _, _, _, r1, r2, ru, rv => by cases r1; cases r2; exact eqT_leaf rfl ru rv
  | n, .str z, _, _, _, _, _, r1, r2, ru, rv => by cases r1; cases r2; exact eqT_leaf rfl ru rv
  | 0, .tup l, _, _, _, _, h, _, _, _, _ => by unfold okE at h; cases h
  | n + 1, .tup l, _, _, _, _, h, r1, r2, ru, rv => by
    have h : okEA n l = true := by unfold okE at h; exact h
    cases r1
    rename_i a xs h1 g1
    cases r2
    rename_i b ys h2 g2
    cases ru
    cases rv
    by_cases e : a = b
    · subst e; exact .same
    · obtain ⟨us, q1, p1, _⟩ := I.tuple (SqT.of h1)
      obtain ⟨ws, q2, p2, _⟩ := I.tuple (SqT.of h2)
      have hl : us.length = ws.length := by rw [← q1.length, ← q2.length, g1.len, g2.len]
      have t := PySem.W.EqTree.tuples (prog := X.prog) (w := X.w) (n := n) (e := fun _ => true) e p1 p2 fun j j1 j2 => by
        have := eqTA_run I n l h g1 g2 q1 q2 j (by simpa using j1) (by simpa using j2)
        simpa using this
      rw [all_yes, List.size_toArray, List.size_toArray, hl, beq_self_eq_true] at t
      exact t
  | 0, .lst l, _, _, _, _, h, _, _, _, _ => by unfold okE at h; cases h
  | n + 1, .lst l, _, _, _, _, h, r1, r2, ru, rv => by
    have h : okEA n l = true := by unfold okE at h; exact h
    cases r1
    rename_i a xs h1 g1
    cases r2
    rename_i b ys h2 g2
    cases ru
    cases rv
    by_cases e : a = b
    · subst e; exact .same
    · obtain ⟨us, q1, p1, _⟩ := I.list (SqL.of h1)
      obtain ⟨ws, q2, p2, _⟩ := I.list (SqL.of h2)
      have hl : us.length = ws.length := by rw [← q1.length, ← q2.length, g1.len, g2.len]
      have t := PySem.W.EqTree.lists (prog := X.prog) (w := X.w) (n := n) (e := fun _ => true) e p1.isList p2.isList (by rw [List.size_toArray, List.size_toArray, hl]) fun j j1 j2 => by
        have := eqTA_run I n l h g1 g2 q1 q2 j (by simpa using j1) (by simpa using j2)
        simpa using this
      rw [all_yes] at t
      exact t
  | 0, .dK l, _, _, _, _, h, _, _, _, _ => by unfold okE at h; cases h
  | n + 1, .dK l, _, _, _, _, h, r1, r2, ru, rv => by
    have h : l.isEmpty = true := by unfold okE at h; exact h
    cases l with
    | cons _ _ => cases h
    | nil =>
    cases r1
    rename_i a h1
    cases r2
    rename_i b h2
    cases ru
    cases rv
    by_cases e : a = b
    · subst e; exact .same
    · obtain ⟨_, y1, v1, k1, d1⟩ := (show ObjOk X.prog X.w H s.heap a (.dK []) from I.hok a _ h1)
      obtain ⟨_, y2, v2, k2, d2⟩ := (show ObjOk X.prog X.w H s.heap b (.dK []) from I.hok b _ h2)
      cases k1
      cases k2
      exact PySem.W.EqTree.dicts (knd := mixKind X.prog X.w) (e := fun _ => true) e y1 y2 d1 d2 fun k v y hm _ => by cases hm
  | n, .dT _, _, _, _, _, h, _, _, _, _ => by cases n <;> (unfold okE at h; cases h)
  | n, .scr _, _, _, _, _, h, _, _, _, _ => by cases n <;> (unfold okE at h; cases h)
  | n, .ty _, _, _, _, _, h, _, _, _, _ => by cases n <;> (unfold okE at h; cases h)
  | n, .ref _, _, _, _, _, h, _, _, _, _ => by cases n <;> (unfold okE at h; cases h)
theorem eqTA_run (I : Inv X pins σ H s) : ∀ (n : Nat) (l : List D) {xs ys : List V} {us ws : List Value}, okEA n l = true → RepA X.K H xs l → RepA X.K H ys l → Vals xs us → Vals ys ws → ∀ j (h1 : j < us.length) (h2 : j < ws.length), PySem.W.EqTree X.prog X.w s n us[j] ws[j] true
  | n, [], _, _, _, _, _, .nil, _, r1, _ => fun j h1 _ => by cases r1; exact absurd h1 (Nat.not_lt_zero j)
  | n, d :: l, _, _, _, _, h, .cons g1 t1, .cons g2 t2, .cons r1 s1, .cons r2 s2 => fun j h1 h2 => by
    have h : okE n d = true ∧ okEA n l = true := by unfold okEA at h; exact Bool.and_eq_true_iff.mp h
    cases j with
    | zero => exact eqT_run I n d h.1 g1 g2 r1 r2
    | succ j => exact eqTA_run I n l h.2 t1 t2 s1 s2 j (Nat.lt_of_succ_lt_succ h1) (Nat.lt_of_succ_lt_succ h2)
end
def rEqW (K : PySem.W.Frag) : R2 := fun x y H Q => ∃ l, okEA 60 l = true ∧ Rep K H x (.lst l) ∧ Rep K H y (.lst l) ∧ Q (.bl true) H
theorem op_eqW (hu : X.A.units + 64 < cLine) : OpR X (compareOp .Eq) (rEqW X.K) := by
  intro pins s σ H x y v u Q I rx ry h
  obtain ⟨l, hl, r1, r2, q⟩ := h
  cases r1
  rename_i a xs h1 g1
  cases r2
  rename_i b ys h2 g2
  cases rx
  cases ry
  obtain ⟨us, q1, p1, _⟩ := I.list (SqL.of h1)
  obtain ⟨ws, q2, p2, _⟩ := I.list (SqL.of h2)
  have he : us.length = ws.length := by rw [← q1.length, ← q2.length, g1.len, g2.len]
  refine PySem.W.eq_listsT (n := 60) (e := fun _ => true) p1.isList p2.isList (by rw [List.size_toArray, List.size_toArray, he]) (fun j j1 j2 => ?_) (by omega) ?_
  · have := eqTA_run I 60 l hl g1 g2 q1 q2 j (by simpa using j1) (by simpa using j2)
    simpa using this
  · rw [all_yes]
    exact ⟨.bl true, H, I, rfl, q⟩
/-- x is in no place of a list or tuple -/
def rInN (K : PySem.W.Frag) (neg : Bool) : R2 := fun x y H Q => ∃ p xs, y = .ref p ∧ (SqL K H p xs ∨ SqT K H p xs) ∧ (∀ w ∈ xs, NeI K H w x) ∧ Q (.bl neg) H
theorem vals_mem : ∀ {xs : List V} {us : List Value}, Vals xs us → ∀ u ∈ us, ∃ w, w ∈ xs ∧ RelV w u
  | _, _, .nil, u, hu => by cases hu
  | x :: xs, u' :: us, .cons r t, u, hu => by
    rcases List.mem_cons.mp hu with rfl | hu
    · exact ⟨x, List.mem_cons_self, r⟩
    · obtain ⟨w, h1, h2⟩ := vals_mem t u hu
      exact ⟨w, List.mem_cons_of_mem _ h1, h2⟩
theorem any_no (us : List Value) : us.toArray.any (fun _ => false) = false := by simp
theorem op_inN (hu : X.A.units + 67 < cLine) : OpR X (compareOp .In) (rInN X.K false) := by
  intro pins s σ H x y v u Q I rx ry h
  obtain ⟨p, xs, rfl, hq, hn, q⟩ := h
  cases ry
  rcases hq with hq | hq
  · obtain ⟨its, r, pl, hz⟩ := I.list hq
    refine SeqAt.in_listAt (fun _ => false) pl.isList (fun w hw => ?_) ⟨.bl _, H, I, rfl, ?_⟩
    · obtain ⟨w', h1, h2⟩ := vals_mem r w (by simpa using hw)
      exact neI_at I (by show X.A.units + 1 + 66 < cLine; omega) (hn w' h1) h2 rx
    · rw [any_no]; exact q
  · obtain ⟨its, r, pl, hz⟩ := I.tuple hq
    refine SeqAt.in_tupleAt (fun _ => false) pl (fun w hw => ?_) ⟨.bl _, H, I, rfl, ?_⟩
    · obtain ⟨w', h1, h2⟩ := vals_mem r w (by simpa using hw)
      exact neI_at I (by show X.A.units + 1 + 66 < cLine; omega) (hn w' h1) h2 rx
    · rw [any_no]; exact q
theorem op_ninN (hu : X.A.units + 67 < cLine) : OpR X (compareOp .NotIn) (rInN X.K true) := by
  intro pins s σ H x y v u Q I rx ry h
  obtain ⟨p, xs, rfl, hq, hn, q⟩ := h
  cases ry
  rcases hq with hq | hq
  · obtain ⟨its, r, pl, hz⟩ := I.list hq
    refine SeqAt.notIn_listAt (fun _ => false) pl.isList (fun w hw => ?_) ⟨.bl _, H, I, rfl, ?_⟩
    · obtain ⟨w', h1, h2⟩ := vals_mem r w (by simpa using hw)
      exact neI_at I (by show X.A.units + 1 + 66 < cLine; omega) (hn w' h1) h2 rx
    · rw [any_no]; exact q
  · obtain ⟨its, r, pl, hz⟩ := I.tuple hq
    refine SeqAt.notIn_tupleAt (fun _ => false) pl (fun w hw => ?_) ⟨.bl _, H, I, rfl, ?_⟩
    · obtain ⟨w', h1, h2⟩ := vals_mem r w (by simpa using hw)
      exact neI_at I (by show X.A.units + 1 + 66 < cLine; omega) (hn w' h1) h2 rx
    · rw [any_no]; exact q
end
/-! #### the operators with these -/
def vEq (K : PySem.W.Frag) : R2 := fun x y H Q => uEq K x y H Q ∨ rEqS x y H Q ∨ rEqW K x y H Q
def vNe (K : PySem.W.Frag) : R2 := fun x y H Q => uNe K x y H Q ∨ rNeS x y H Q
def vIn (K : PySem.W.Frag) : R2 := fun x y H Q => uIn K x y H Q ∨ rInN K false x y H Q
def vNin (K : PySem.W.Frag) : R2 := fun x y H Q => uNin K x y H Q ∨ rInN K true x y H Q
section
variable {X : Cx}
theorem op_vEq {k : Nat} (hr : Room k X.A) : OpR X (compareOp .Eq) (vEq X.K) := opr_or (op_uEq hr) (opr_or (op_eqS (by have := hr.un; omega)) (op_eqW hr.units))
theorem op_vNe {k : Nat} (hr : Room k X.A) : OpR X (compareOp .NotEq) (vNe X.K) := opr_or (op_uNe hr) (op_neS (by have := hr.un; omega))
theorem op_vIn {k : Nat} (hr : Room k X.A) : OpR X (compareOp .In) (vIn X.K) := opr_or (op_uIn hr) (op_inN (by have := hr.un; omega))
theorem op_vNin {k : Nat} (hr : Room k X.A) : OpR X (compareOp .NotIn) (vNin X.K) := opr_or (op_uNin hr) (op_ninN (by have := hr.un; omega))
end
section
variable {K : PySem.W.Frag} {Z : Ec} {F S0 S S' : Hp} {G : Sl} {σ : L2.St} {H H' : Hp} {Q : R → Sl → Prop} {P : Po}
theorem v_eq {x y : R} (q : wR K Z (uEq K) x y G Q) : wR K Z (vEq K) x y G Q := wR_imp (fun _ _ _ _ h => .inl h) q
theorem v_ne {x y : R} (q : wR K Z (uNe K) x y G Q) : wR K Z (vNe K) x y G Q := wR_imp (fun _ _ _ _ h => .inl h) q
theorem v_in {x y : R} (q : wR K Z (uIn K) x y G Q) : wR K Z (vIn K) x y G Q := wR_imp (fun _ _ _ _ h => .inl h) q
theorem v_nin {x y : R} (q : wR K Z (uNin K) x y G Q) : wR K Z (vNin K) x y G Q := wR_imp (fun _ _ _ _ h => .inl h) q
theorem v_eqS {kvs : List (Key × V)} {z : Str} (q : Q (.sh (.bl false)) G) : wR K Z (vEq K) (.sh (.dK kvs)) (.sh (.str z)) G Q := fun F S0 S σ H Qr v u s zz o1 o2 k => by
  cases o1
  rename_i a h1
  cases o2
  exact .inr (.inl ⟨⟨a, kvs, rfl, s.sh _ _ h1⟩, ⟨z, rfl⟩, k.val s q (.bl _)⟩)
theorem v_neS {kvs : List (Key × V)} {z : Str} (q : Q (.sh (.bl true)) G) : wR K Z (vNe K) (.sh (.dK kvs)) (.sh (.str z)) G Q := fun F S0 S σ H Qr v u s zz o1 o2 k => by
  cases o1
  rename_i a h1
  cases o2
  exact .inr ⟨⟨a, kvs, rfl, s.sh _ _ h1⟩, ⟨z, rfl⟩, k.val s q (.bl _)⟩
/-- no place of ds is d -/
def NoD (d : D) : D → Prop := fun e =>
  (∃ z, e = .str z ∧ ((∃ kvs, d = .dK kvs) ∨ (dat 64 d = true ∧ dat 64 (.str z) = true ∧ eqD (.str z) d = false))) ∨
  ∃ (ss : List Str) (l : List D), e = .tup (ss.map D.str) ∧ d = .tup l ∧ (∀ z ∈ ss, dat 64 (.str z) = true) ∧ (∀ y ∈ l, (∃ kvs, y = .dK kvs) ∨ dat 64 y = true) ∧ ∃ (j : Nat) (kvs : List (Key × V)), l[j]? = some (.dK kvs)
theorem repA_strs {S : Hp} : ∀ {ss : List Str} {xs : List V}, RepA K S xs (ss.map D.str) → xs = ss.map V.str
  | [], _, .nil => rfl
  | z :: ss, _, .cons h r => by
    cases h
    rw [repA_strs r]; rfl
theorem repA_at {S : Hp} : ∀ {ds : List D} {xs : List V}, RepA K S xs ds → ∀ {j : Nat} {x : V}, xs[j]? = some x → ∃ d, ds[j]? = some d ∧ Rep K S x d
  | _, _, .nil, j, x, h => by cases h
  | d :: ds, v :: vs, .cons r t, 0, x, h => by
    cases h
    exact ⟨d, rfl, r⟩
  | d :: ds, v :: vs, .cons r t, j + 1, x, h => repA_at t (j := j) (by simpa using h)
theorem repA_to {S : Hp} : ∀ {ds : List D} {xs : List V}, RepA K S xs ds → ∀ {j : Nat} {d : D}, ds[j]? = some d → ∃ x, xs[j]? = some x ∧ Rep K S x d
  | _, _, .nil, j, x, h => by cases h
  | d :: ds, v :: vs, .cons r t, 0, x, h => by
    cases h
    exact ⟨v, rfl, r⟩
  | d :: ds, v :: vs, .cons r t, j + 1, x, h => repA_to t (j := j) (by simpa using h)
def eTup (ss : List Str) (l : List D) (j : Nat) : Bool := match ss[j]?, l[j]? with
  | some _, some (.dK _) => false
  | some z, some d => eqD (.str z) d
  | _, _ => true
def svB (z : Str) : D → Bool
  | .dK _ => false
  | d => eqD (.str z) d
theorem eTup_at {ss : List Str} {l : List D} {i : Nat} {z : Str} {d : D} (e1 : ss[i]? = some z) (e2 : l[i]? = some d) : eTup ss l i = svB z d := by
  unfold eTup
  rw [e1, e2]
  cases d <;> rfl
theorem svE_of {z : Str} {x : V} {d : D} (r : Rep K H x d) (hz : dat 64 (.str z) = true) (h : (∃ kvs, d = .dK kvs) ∨ dat 64 d = true) : SvE K H z x (svB z d) := by
  rcases h with ⟨kvs, rfl⟩ | h
  · cases r
    rename_i a h1
    exact .inl ⟨⟨a, kvs, rfl, h1⟩, rfl⟩
  · refine .inr ⟨toPy d, dp_rep h r, dat_shaped hz, dat_shaped h, ?_⟩
    cases d <;> first | rfl | (unfold dat at h; cases h)
theorem neI_of {S : Hp} (m : Same S H) {w x : V} {d e : D} (rw' : Rep K S w e) (rx : Rep K S x d) (h : NoD d e) : NeI K H w x := by
  rcases h with ⟨z, rfl, h⟩ | ⟨ss, l, rfl, rfl, hz, hl, j, kvs, hj⟩
  · cases rw'
    refine .inl ⟨z, rfl, ?_⟩
    rcases h with ⟨kvs, rfl⟩ | ⟨h1, h2, h3⟩
    · cases rx
      rename_i a h1
      exact .inl ⟨⟨a, kvs, rfl, m _ _ h1⟩, rfl⟩
    · exact .inr ⟨toPy d, dp_rep h1 (rx.mono m), dat_shaped h2, dat_shaped h1, h3.symm⟩
  · cases rw'
    rename_i a xs h1 h2
    cases rx
    rename_i b ys h3 h4
    have := repA_strs h2
    subst this
    refine .inr ⟨a, b, ss, ys, eTup ss l, rfl, rfl, SqT.of (m _ _ h1), SqT.of (m _ _ h3), fun e => ?_, fun i z y e1 e2 => ?_, fun hlen => ⟨j, ?_, ?_⟩⟩
    · subst e
      rw [h1] at h3
      cases h3
      obtain ⟨x, hx, rx⟩ := repA_to h4 hj
      cases rx
      rw [List.getElem?_map] at hx
      obtain ⟨z, _, hz⟩ := Option.map_eq_some_iff.mp hx
      cases hz
    · obtain ⟨d, hd, rd⟩ := repA_at h4 e2
      rw [eTup_at e1 hd]
      exact svE_of (rd.mono m) (hz z (List.mem_of_getElem? e1)) (hl d (List.mem_of_getElem? hd))
    · obtain ⟨x, hx, _⟩ := repA_to h4 hj
      have := (List.getElem?_eq_some_iff.mp hx).1
      omega
    · have hjs : j < ss.length := by
        obtain ⟨x, hx, _⟩ := repA_to h4 hj
        have := (List.getElem?_eq_some_iff.mp hx).1
        omega
      unfold eTup
      rw [List.getElem?_eq_getElem hjs, hj]
theorem v_ninN {y : R} {d : D} {ds : List D} (hy : lv G y = some ds ∨ y = .sh (.tup ds)) (h : ∀ e ∈ ds, NoD d e) (q : Q (.sh (.bl true)) G) : wR K Z (vNin K) (.sh d) y G Q := fun F S0 S σ H Qr v u s z o1 o2 k => by
  have fin : ∀ {a : Addr} {xs : List V}, u = .ref a → (SqL K H a xs ∨ SqT K H a xs) → RepA K S xs ds → vNin K v u H Qr := fun {a xs} hu hq hr => by
    refine .inr ⟨a, xs, hu, hq, fun w hw => ?_, k.val s q (.bl _)⟩
    obtain ⟨j, hj⟩ := List.mem_iff_getElem?.mp hw
    obtain ⟨e, he, re⟩ := repA_at hr hj
    exact neI_of s.sh re o1 (h e (List.mem_of_getElem? he))
  rcases hy with hy | hy
  · obtain ⟨a, xs, rfl, h1, h2⟩ := lv_ok hy s o2
    exact fin rfl (.inl (SqL.of h1)) h2
  · subst hy
    cases o2
    rename_i a xs h1 h2
    exact fin rfl (.inr (SqT.of (s.sh _ _ h1))) h2
/-! the same things, in two lists -/
theorem v_eqSame {x y : R} {ds : List D} (hx : lv G x = some ds) (hy : lv G y = some ds) (h : okEA 60 ds = true) (q : Q (.sh (.bl true)) G) : wR K Z (vEq K) x y G Q := fun F S0 S σ H Qr v u s z o1 o2 k => by
  obtain ⟨a, xs, rfl, h1, h2⟩ := lv_ok hx s o1
  obtain ⟨b, ys, rfl, h3, h4⟩ := lv_ok hy s o2
  exact .inr (.inr ⟨ds, h, .lst h1 (h2.mono s.sh), .lst h3 (h4.mono s.sh), k.val s q (.bl _)⟩)
end
end PL

/-! PB: a walk from the end. -/
namespace PL
open PySem PySem.Spec PyProof.Rows L2
section
variable {K : PySem.W.Frag} {Z : Ec} {F S0 S S' : Hp} {G : Sl} {σ : L2.St} {H H' : Hp} {Q : R → Sl → Prop} {P : Po}
theorem wS_forRev {ta : TA} {g : TG} {tb : TS} (h : wA K Z ta G fun rs G1 => Ask (∃ ds, rs = [.sh (.lst ds)] ∧ ∃ inv : Nat → Sl → Prop, inv 0 G1 ∧
    (∀ i d G2, i < ds.length → ds[ds.length - 1 - i]? = some d → inv i G2 → wG K g d G2 fun G3 => wS K Z tb G3 ⟨inv (i + 1), P.rt, P.nx, inv (i + 1)⟩) ∧ ∀ G2, inv ds.length G2 → P.nx G2)) : wS K Z (tFor (iRev K ta) g tb) G P := fun F S0 S σ H D s z k =>
  h F S0 S σ H _ s z fun rs G1 vs S1 H1 q m1 s1 o => by
    obtain ⟨ds, rfl, inv, h0, hs, hd⟩ := q
    obtain ⟨v, rfl, o1⟩ := fs1 o
    cases o1
    rename_i a xs h1 h2
    refine ⟨a, xs, rfl, SqL.of (s1.sh _ _ h1), ?_⟩
    have hl := h2.len
    rw [hl]
    refine for_core ds.length inv (fun i d => i < ds.length ∧ ds[ds.length - 1 - i]? = some d) z s1 (k.from m1) h0 (fun i G' S' σ' H' hi _ m s' => ?_) (fun G' S' σ' H' _ m s' => Nat.le_refl _) (fun i d G' _ hi q => hs i d G' hi.1 hi.2 q) hd
    have h1' := s'.sh _ _ (m _ _ h1)
    have hi' : ds.length - 1 - i < xs.length := by omega
    refine ⟨⟨hi, xs, xs[ds.length - 1 - i], SqL.of h1', List.getElem?_eq_getElem hi'⟩, fun x H2 y => ⟨y.1, ?_⟩⟩
    obtain ⟨d, hd, rd⟩ := h2.getV (y.2 xs (SqL.of h1'))
    exact ⟨d, ⟨hi, hd⟩, rd.mono m⟩
theorem wT_pre {c : TT} {Q : Bool → Sl → Prop} (Q' : Bool → Prop) (h : wT K Z c G fun b G2 => G2 = G ∧ Q' b) (k : ∀ b, Q' b → Q b G) : wT K Z c G Q := fun F S0 S σ H Qr s z kk => h F S0 S σ H Qr s z fun b G' S' H' q m s' => kk b G' S' H' (by
  obtain ⟨rfl, q⟩ := q
  exact k b q) m s'
end
end PL

/-! PC: try .. except C as e. -/
namespace PL
open PySem PySem.Spec PyProof.Rows L2
/-! ### isinstance of what was caught -/
def cls1 : V → Bool
  | .ref _ => true
  | .ty _ => true
  | _ => false
def vv : V → Value
  | .ref a => .ref a
  | .ty n => .type n
  | _ => .none
theorem relV_vv {c : V} {u : Value} (h : cls1 c = true) (r : RelV c u) : u = vv c := by
  cases c <;> first | exact r | cases h
theorem vals_vv : ∀ {cs : List V} {us : List Value}, cs.all cls1 = true → Vals cs us → us = cs.map vv
  | _, _, _, .nil => rfl
  | c :: cs, u :: us, h, .cons r t => by
    rw [List.all_cons, Bool.and_eq_true] at h
    rw [List.map_cons, relV_vv h.1 r, vals_vv h.2 t]
def rIsX (K : PySem.W.Frag) (D a : Addr) : List V → Hp → VK → Prop := fun xs H Q => ∃ (c : V) (b : Bool), xs = [.ref a, c] ∧
  ((cls1 c = true ∧ PySem.W.kitOne K (.ref D) (vv c) = some b) ∨ ∃ tp cs, c = .ref tp ∧ H tp = some (.tup cs) ∧ cs.all cls1 = true ∧ PySem.W.kitAny K (.ref D) (cs.map vv) = some b) ∧ Q (.bl b) H
theorem call_isX {X : Cx} {a D : Addr} {oe : Obj} {pn : List (Addr × Obj)} (C : ExcC X.K D) (hz : Zc (.ref D) none oe) (hf : ∃ vs, oe.data = .fields vs) : CallR (X.suite a ((a, oe) :: pn)) (.builtin "isinstance") (rIsX X.K D a) := by
  intro pins s σ H xs us Q I r h
  obtain ⟨c, b, rfl, e, q⟩ := h
  cases r with
  | cons rx rr =>
    cases rr with
    | cons rt rr =>
      cases rr
      cases rx
      obtain ⟨hget, _⟩ := I.pin (a, oe) (List.mem_append.mpr (.inl List.mem_cons_self))
      obtain ⟨vs, hv⟩ := hf
      have J : PySem.W.InstAt s.heap a oe D none := by
        obtain ⟨oc, od, oda, osl⟩ := oe
        obtain ⟨h1, h2⟩ := hz
        dsimp only at h1 h2 hv
        subst h1 h2 hv
        exact ⟨hget, rfl, rfl, trivial⟩
      have Z := PySem.W.handS_kitx_exc (ox := oe) (x := a) C.hg C.hk C.hs C.hd C.ha C.hn C.ht C.hm
      rcases e with ⟨hc, e⟩ | ⟨tp, cs, rfl, htp, hcs, e⟩
      · have ec := relV_vv hc rt
        subst ec
        exact PySem.W.kia_one Z I.kIn J e (fun z => nomatch z) fun tk => ⟨.bl b, H, I.kept (t' := tk) fun _ _ z => z, rfl, q⟩
      · cases rt
        obtain ⟨its, rv, ⟨o, ho, hc, n, hd⟩, _⟩ := I.tuple (SqT.of htp)
        have ei := vals_vv hcs rv
        subst ei
        obtain ⟨oc, od, oda, osl⟩ := o
        dsimp only at hc hd
        subst hc hd
        exact PySem.W.kia_tup Z I.kIn J ho e (fun z => nomatch z) fun tk => ⟨.bl b, H, I.kept (t' := tk) fun _ _ z => z, rfl, q⟩
/-! ### the statement -/
section
variable {K : PySem.W.Frag} {Z : Ec} {F S0 S S' : Hp} {G : Sl} {σ : L2.St} {H H' : Hp} {Q : R → Sl → Prop} {P : Po}
/-- as call_core, what an exception finds told in full -/
theorem call_coreS {φ : Phi} {E' : XK} {X' : Value → Prop} {rs : List R} {vs : List V} {ds : List D} {Qr : VK} (hX : ∀ c H', X' c → Same H H' → E' c none H') (s : Sat K F S0 G S σ H) (o : FsOk K S σ rs vs) (hd : dsOf G rs = some ds)
    (hφ : φ ds (fun r => (noBo rs = true ∨ flatR r = true) ∧ Q r G) X') (k : kE K F S0 S σ Q Qr) : mkSp K φ vs H Qr E' := by
  have own : ∀ {a : Addr}, Lent G rs a → ∃ m, F a = none ∧ S a = none ∧ MoOk K S H a m := fun {a} ⟨i, m, _, e⟩ => ⟨m, (s.val i _ e).2⟩
  have m1 : Same S (lendS G rs S H) := fun a u e => by
    unfold lendS
    by_cases h : Lent G rs a
    · obtain ⟨_, _, h2, _⟩ := own h
      rw [h2] at e; cases e
    · rw [if_neg h]; exact e
  have m2 : Same (lendS G rs S H) H := fun a u e => by
    unfold lendS at e
    by_cases h : Lent G rs a
    · rw [if_pos h] at e; exact e
    · rw [if_neg h] at e; exact s.sh a u e
  refine ⟨ds, _, _, _, lend_rep (fun _ h => h) hd s o m1, m2, hφ, fun r q v S' H' g1 g2 g5 g3 g4 => ?_, fun c x H' m => hX c H' x m⟩
  obtain ⟨hb, q⟩ := q
  -- what is shared behind the call
  have notlent : ∀ {a : Addr}, (∃ xs, S' a = some (.tup xs)) → ¬ Lent G rs a := fun {a} ⟨xs, e⟩ hl => by
    obtain ⟨mo, _, _, mok⟩ := own hl
    obtain ⟨u, e2, hnt⟩ := mok.some
    have e3 := g3 a u e2 hnt
    unfold lendS at e3
    rw [if_pos hl, e2] at e3
    rw [e3] at e; cases e
    exact hnt xs rfl
  let S2 : Hp := fun a => open Classical in if Lent G rs a then none else S' a
  have S2of : ∀ {a : Addr}, ¬ Lent G rs a → S2 a = S' a := fun {a} h => if_neg h
  have S2no : ∀ {a : Addr}, Lent G rs a → S2 a = none := fun {a} h => if_pos h
  have n1 : Same S S2 := fun a u e => by
    have hl : ¬ Lent G rs a := fun h => by
      obtain ⟨_, _, h2, _⟩ := own h
      rw [h2] at e; cases e
    rw [S2of hl]
    refine g5 a u ?_
    unfold lendS
    rw [if_neg hl]; exact e
  have s2 : Sat K F S0 G S2 σ H' := by
    refine ⟨s.len, fun a u e => ?_, s.fr.trans g1, fun a u e n => ?_, fun i sl e => ?_, s.sep⟩
    · by_cases hl : Lent G rs a
      · rw [S2no hl] at e; cases e
      · rw [S2of hl] at e; exact g2 a u e
    · have hl : ¬ Lent G rs a := fun h => by
        obtain ⟨_, h1, _, _⟩ := own h
        rw [h1] at e; cases e
      rw [S2of hl, g3 a u (s.fr a u e) n]
      unfold lendS
      rw [if_neg hl]; exact s.am a u e n
    · have h := s.val i sl e
      cases sl with
      | no => trivial
      | sh d =>
        obtain ⟨w, e1, r1⟩ := h
        exact ⟨w, e1, r1.mono n1⟩
      | ow a mo =>
        obtain ⟨h1, h2, h3, h4⟩ := h
        refine ⟨h1, h2, ?_, h4.mono n1 fun u q => g1 a u q⟩
        by_cases hl : Lent G rs a
        · exact S2no hl
        · obtain ⟨u, e2, hnt⟩ := h4.some
          rw [S2of hl, g3 a u e2 hnt]
          unfold lendS
          rw [if_neg hl]; exact h3
  have rep2 : ∀ {v : V} {d : D}, (noBo rs = true ∨ d.flat = true) → Rep K S' v d → Rep K S2 v d := fun {v d} h r => by
    rcases h with h | h
    · exact r.mono fun a u e => by rw [S2of (noBo_lent h)]; exact e
    · exact r.flatMono (fun a xs e => by rw [S2of (notlent ⟨xs, e⟩)]; exact e) h
  have repA2 : ∀ {vs : List V} {ds : List D}, (noBo rs = true ∨ flatA ds = true) → RepA K S' vs ds → RepA K S2 vs ds := fun {vs ds} h r => by
    rcases h with h | h
    · exact r.mono fun a u e => by rw [S2of (noBo_lent h)]; exact e
    · exact r.flatMono (fun a xs e => by rw [S2of (notlent ⟨xs, e⟩)]; exact e) h
  refine k r G v S2 H' q n1 s2 ?_
  cases r with
  | sh d => exact rep2 (hb.imp id id) g4
  | bo i => exact g4.elim
  | ow a mo =>
    obtain ⟨e1, e2, e3, e4⟩ := g4
    have hl : ¬ Lent G rs a := fun h => by
      obtain ⟨_, _, _, h4⟩ := own h
      obtain ⟨u, e5, _⟩ := h4.some
      rw [e2] at e5; cases e5
    refine ⟨e1, s.unfr e2, by rw [S2of hl]; exact e3, ?_, s.noow e2⟩
    cases mo with
    | lst ds =>
      obtain ⟨ws, f1, f2⟩ := e4
      exact ⟨ws, f1, repA2 (hb.imp id id) f2⟩
    | dT kvs => exact e4
    | dK kvs => exact e4
theorem Sat.setNo {i : Nat} (s : Sat K F S0 G S σ H) : Sat K F S0 (G.set i .no) S (σ.set i none) H := by
  have f := s.forget (i := i)
  refine ⟨by rw [List.length_set, List.length_set]; exact s.len, f.sh, f.fr, f.am, fun j sl e => ?_, f.sep⟩
  have h := f.val j sl e
  by_cases hj : j = i
  · subst hj
    by_cases hl : j < G.length
    · rw [List.getElem?_set_self hl] at e
      cases e
      trivial
    · rw [List.getElem?_eq_none (by simp; omega)] at e; cases e
  · rw [List.getElem?_set_ne (Ne.symm hj)]
    exact h
abbrev WF : WX := fun _ _ _ _ => False
/-- try: (body with the call) except c as (slot i): ts -/
def tTryC (K : PySem.W.Frag) (c : Value) (i : Nat) (sp : Sp) (ta : TA) (tk : TE → TS) (ts : Addr → Value → Option Addr → TS) : TS := fun D σ H => tk (tCallS sp (WE (wAs K c i ts WF D)) ta) D σ H
/-- behind the suite the name is gone -/
def goneP (i : Nat) (P : Po) : Po := ⟨fun G => P.nx (G.set i .no), P.rt, fun G => P.bk (G.set i .no), fun G => P.ct (G.set i .no)⟩
theorem POk.gone {i : Nat} {D : Ends} (k : POk K F S0 S P D) : POk K F S0 S (goneP i P) { nx := fun σ' H' => D.nx (σ'.set i none) H', rt := D.rt, bk := fun σ' H' => D.bk (σ'.set i none) H', ct := fun σ' H' => D.ct (σ'.set i none) H' } :=
  ⟨fun G' S' σ' H' q m s => k.nx _ _ _ _ q m s.setNo, k.rt, fun G' S' σ' H' q m s => k.bk _ _ _ _ q m s.setNo, fun G' S' σ' H' q m s => k.ct _ _ _ _ q m s.setNo⟩
/-- what the clause must do with an exception of the class cls -/
def Caught (K : PySem.W.Frag) (Z : Ec) (c : Value) (i : Nat) (ts : Addr → Value → Option Addr → TS) (G : Sl) (P : Po) (cls : Value) : Prop :=
  PySem.W.exmOne K cls c = some true ∧ Nat.blt i G.length = true ∧ ∀ a, wS K Z (ts a cls none) (G.set i (.sh (.ref a))) (goneP i P)
theorem caught_ok {c : Value} {i : Nat} {ts : Addr → Value → Option Addr → TS} {cls : Value} {D : Ends} (hc : Caught K Z c i ts G P cls) (z : hZ Z F) (s : Sat K F S0 G S σ H) (k : POk K F S0 S P D) (m : Same H H') : wAs K c i ts WF D cls none σ H' := by
  obtain ⟨h1, h2, h3⟩ := hc
  refine ⟨true, h1, fun _ a _ => ?_, fun e => by cases e⟩
  exact h3 a F S0 S (σ.set i (some (.ref a))) H' _ ((s.grow m).setSh (blt_lt h2) (.ref a)) z k.gone
theorem wS_tryAsg {c : Value} {i j : Nat} {φ : Phi} {ta : TA} {ts : Addr → Value → Option Addr → TS} (h : wA K Z ta G fun rs G1 => ∃ ds, dsOf G1 rs = some ds ∧ φ ds (fun r => (noBo rs = true ∨ flatR r = true) ∧ rput r j G1 P.nx) fun cls => Caught K Z c i ts G1 P cls) :
    wS K Z (tTryC K c i (mkSp K φ) ta (fun te => tAsg te (gName j)) ts) G P := fun F S0 S σ H D s z k => by
  show ta σ H fun vs H1 => _
  exact h F S0 S σ H _ s z fun rs G1 vs S1 H1 q m1 s1 o => by
    obtain ⟨ds, e, q⟩ := q
    exact call_coreS (fun cls H' hc m => caught_ok hc z s1 (k.from m1) m) s1 o e q fun r G' v S' H' q m s' o => rput_ok (Qr := D.nx) q s' o fun G2 S2 σ2 H2 q2 m2 s2 => k.nx G2 S2 σ2 H2 q2 (m1.trans (m.trans m2)) s2
theorem wS_tryDrop {c : Value} {i : Nat} {φ : Phi} {ta : TA} {ts : Addr → Value → Option Addr → TS} (h : wA K Z ta G fun rs G1 => ∃ ds, dsOf G1 rs = some ds ∧ φ ds (fun r => (noBo rs = true ∨ flatR r = true) ∧ P.nx G1) fun cls => Caught K Z c i ts G1 P cls) :
    wS K Z (tTryC K c i (mkSp K φ) ta tDrop ts) G P := fun F S0 S σ H D s z k => by
  show ta σ H fun vs H1 => _
  exact h F S0 S σ H _ s z fun rs G1 vs S1 H1 q m1 s1 o => by
    obtain ⟨ds, e, q⟩ := q
    exact call_coreS (fun cls H' hc m => caught_ok hc z s1 (k.from m1) m) s1 o e q fun r G' v S' H' q m s' o => k.nx G' S' σ H' q (m1.trans m) s'
end
section
variable {X : Cx} {x n f : Str} {c : Value} {i k : Nat} {ps : List Str} {φ : Phi} {e : Expr} {es : List Expr} {ta : TA} {tk : TE → TS} {body suite : List Stmt} {b₀ : Stmt} {np p p2 pos pos' : Pos} {ts : Addr → Value → Option Addr → TS}
theorem ps_tryC (hs : X.stack = X.env :: X.outer) (hf : X.env.frame = some X.env.locals) (hN : X.N.Nodup) (hi : X.N[i]? = some n) (hln : X.env.kindOf n = some .local) (hc : Names X x c)
    (G : Cal X.prog X.w X.K X.mg X.base (L2.CX X.prog X.w) k f ps φ) (hr : Room k X.A) (hg : Gl X f)
    (ha : ∀ (pn : List (Addr × Obj)) (xe : Value → Shared → Prop), PA (X.tr pn xe) (e :: es) ta)
    (hb : ∀ (pn : List (Addr × Obj)) (xe : Value → Shared → Prop) (te : TE), PE (X.tr pn xe) (.Call (.Name f p) (e :: es) [] p2) te → PSs (X.tr pn xe) body (tk te))
    (hsu : ∀ (a : Addr) (oe : Obj) (cls : Value) (d : Option Addr) (pn : List (Addr × Obj)), Zc cls d oe → (∃ vs, oe.data = .fields vs) → PSs (X.suite a ((a, oe) :: pn)) (b₀ :: suite) (ts a cls d))
    (hdb : (f == ("__debug__" : Str)) = false := by decide) (he : starEach (e :: es) X.env = (false, eval e X.env) :: starEach es X.env := by rfl) (hpl : (backTo p2 (starEach es X.env)).any (·.1) = false := by rfl) :
    PS X (.Try body [.ExceptHandler (some (.Name x np)) (some n) (b₀ :: suite) pos'] [] [] pos) (tTryC X.K c i (mkSp X.K φ) ta tk ts) := by
  obtain ⟨fa, fd, h1, h2, h3, h4⟩ := G.ex
  exact ps_try_as (tb := fun W => tk (tCallS (mkSp X.K φ) (WE W) ta)) hs hf hN hi hln hc (Wout := WF) (fun u s' ⟨_, _, _, _, _, _, _, _, _, _, _, _, _, _, _, _, w⟩ => w.elim)
    (fun W pn xe tkW own => hb pn xe _ (pe_callS (X := X.tr pn xe) h1 hr hg h2 h3 h4 (passAt tkW) (ha pn xe) hdb he hpl)) hsu
end
/-! ### our errors -/
def ErA.at (C : ErA) : Nat → Addr
  | 0 => C.rule
  | 1 => C.name
  | 2 => C.endless
  | 3 => C.text
  | _ => C.deeds
structure ErK (K : PySem.W.Frag) (C : ErA) : Prop where
  ex : ∀ i, i < 5 → ExcC K (C.at i)
  ctch : ∀ i, i < 5 → PySem.W.exmOne K (.ref (C.at i)) (.ref C.mend) = some true
  ve : ∀ i, i < 5 → PySem.W.kitOne K (.ref (C.at i)) (.type "ValueError") = some true
  kit : ∀ i, i < 5 → ∀ j, j < 5 → PySem.W.kitOne K (.ref (C.at i)) (.ref (C.at j)) = some (decide (i = j))
theorem all5 {p : Nat → Prop} (h0 : p 0) (h1 : p 1) (h2 : p 2) (h3 : p 3) (h4 : p 4) : ∀ i, i < 5 → p i
  | 0, _ => h0
  | 1, _ => h1
  | 2, _ => h2
  | 3, _ => h3
  | 4, _ => h4
  | n + 5, h => by omega
/-- a suite that knows which of ours it holds -/
def tSuite (C : ErA) (t : Addr → Nat → TS) : Addr → Value → Option Addr → TS := fun a cls d D σ H => ∃ n, n < 5 ∧ cls = .ref (C.at n) ∧ d = none ∧ t a n D σ H
section
variable {K : PySem.W.Frag} {Z : Ec} {G : Sl} {P : Po} {C : ErA} {t : Addr → Nat → TS}
theorem wS_suite {a : Addr} {n : Nat} (hn : n < 5) (h : wS K Z (t a n) G P) : wS K Z (tSuite C t a (.ref (C.at n)) none) G P := fun F S0 S σ H D s z k => ⟨n, hn, rfl, rfl, h F S0 S σ H D s z k⟩
theorem caught_of {i n : Nat} (XK : ErK K C) (hn : n < 5) (hi : Nat.blt i G.length = true) (h : ∀ a, wS K Z (t a n) (G.set i (.sh (.ref a))) (goneP i P)) : Caught K Z (.ref C.mend) i (tSuite C t) G P (.ref (C.at n)) := ⟨XK.ctch n hn, hi, fun a => wS_suite hn (h a)⟩
variable {Q : R → Sl → Prop}
theorem wC_isX1 {a : Addr} {n j : Nat} (XK : ErK K C) (hn : n < 5) (hj : j < 5) (q : Q (.sh (.bl (decide (n = j)))) G) : wC K Z (rIsX K (C.at n) a) [.sh (.ref a), .sh (.ref (C.at j))] G Q := fun F S0 S σ H Qr vs s z o k => by
  obtain ⟨v, u, rfl, o1, o2⟩ := fs2 o
  cases o1
  cases o2
  exact ⟨_, _, rfl, .inl ⟨rfl, XK.kit n hn j hj⟩, k.val s q (.bl _)⟩
theorem wC_isXV {a : Addr} {n : Nat} (XK : ErK K C) (hn : n < 5) (q : Q (.sh (.bl true)) G) : wC K Z (rIsX K (C.at n) a) [.sh (.ref a), .sh (.ty "ValueError")] G Q := fun F S0 S σ H Qr vs s z o k => by
  obtain ⟨v, u, rfl, o1, o2⟩ := fs2 o
  cases o1
  cases o2
  exact ⟨_, _, rfl, .inl ⟨rfl, XK.ve n hn⟩, k.val s q (.bl _)⟩
theorem repA_refs {S : Hp} : ∀ {l : List Addr} {vs : List V}, RepA K S vs (l.map D.ref) → vs = l.map V.ref
  | [], _, .nil => rfl
  | _ :: _, _, .cons h r => by cases h; rw [repA_refs r]; rfl
theorem kitAny_of (XK : ErK K C) {n : Nat} (hn : n < 5) : ∀ {l : List Nat}, (∀ j ∈ l, j < 5) → PySem.W.kitAny K (.ref (C.at n)) (l.map fun j => Value.ref (C.at j)) = some (decide (n ∈ l))
  | [], _ => rfl
  | j :: l, h => by
    show (match PySem.W.kitOne K (.ref (C.at n)) (.ref (C.at j)) with
      | some true => some true
      | some false => PySem.W.kitAny K (.ref (C.at n)) (l.map fun j => Value.ref (C.at j))
      | none => none) = _
    rw [XK.kit n hn j (h j List.mem_cons_self)]
    by_cases e : n = j
    · rw [decide_eq_true e, decide_eq_true (List.mem_cons.mpr (.inl e))]
    · rw [decide_eq_false e]
      show PySem.W.kitAny K (.ref (C.at n)) (l.map fun j => Value.ref (C.at j)) = _
      rw [kitAny_of XK hn fun j hj => h j (List.mem_cons_of_mem _ hj)]
      congr 1
      by_cases q : n ∈ l
      · rw [decide_eq_true q, decide_eq_true (List.mem_cons_of_mem _ q)]
      · rw [decide_eq_false q, decide_eq_false fun z => (List.mem_cons.mp z).elim e q]
theorem wC_isXT {a : Addr} {n : Nat} {l : List Nat} (XK : ErK K C) (hn : n < 5) (hl : ∀ j ∈ l, j < 5) (q : Q (.sh (.bl (decide (n ∈ l)))) G) : wC K Z (rIsX K (C.at n) a) [.sh (.ref a), .sh (.tup (l.map fun j => D.ref (C.at j)))] G Q := fun F S0 S σ H Qr vs s z o k => by
  obtain ⟨v, u, rfl, o1, o2⟩ := fs2 o
  cases o1
  cases o2
  rename_i tp xs h1 h2
  have e : xs = (l.map fun j => C.at j).map V.ref := repA_refs (by rw [List.map_map]; exact h2)
  subst e
  refine ⟨_, _, rfl, .inr ⟨tp, _, rfl, s.sh _ _ h1, ?_, ?_⟩, k.val s q (.bl _)⟩
  · rw [List.all_map, List.all_eq_true]
    exact fun _ _ => rfl
  · rw [List.map_map, List.map_map]
    exact kitAny_of XK hn hl
end
section
variable {X : Cx} {C : ErA} {a : Addr} {oe : Obj} {cls : Value} {d : Option Addr} {pn : List (Addr × Obj)} {t : Addr → Nat → TS} {ss : List Stmt}
theorem pss_suite (hz : Zc cls d oe) (h : ∀ n, n < 5 → Zc (.ref (C.at n)) none oe → PSs (X.suite a ((a, oe) :: pn)) ss (t a n)) : PSs (X.suite a ((a, oe) :: pn)) ss (tSuite C t a cls d) :=
  ⟨fun pins s σ H D I q => by
    obtain ⟨n, hn, rfl, rfl, q⟩ := q
    exact (h n hn hz).run pins s σ H D I q⟩
theorem roomS {k : Nat} (hr : Room k X.A) : (X.suite a pn).A.units + 200 < cLine := by
  have := hr.un
  show X.A.units + 200 < cLine
  omega
theorem op_vEqH (hr : X.A.units + 200 < cLine) : OpR X (compareOp .Eq) (vEq X.K) := opr_or (opr_or op_eq (op_eqD (by omega))) (opr_or (op_eqS (by omega)) (op_eqW (by omega)))
end
end PL

/-! PD: l.pop(i), l.insert(i, e). -/
namespace PL
open PySem PySem.Spec PyProof.Rows L2
def mInsert : V → List V → Hp → VK → Prop := fun x vs H Q => ∃ (l : Addr) (xs : List V) (i : Int) (y : V), x = .ref l ∧ vs = [.int i, y] ∧ H l = some (.lst xs) ∧ xs.length < sizeLine ∧ 0 ≤ i ∧ i < 2 ^ 63 ∧ Q .non (upd H l (.lst (xs.take i.toNat ++ [y] ++ xs.drop i.toNat)))
theorem mt_ins {X : Cx} : MtR X "list.insert" mInsert := mt_insert
section
variable {K : PySem.W.Frag} {Z : Ec} {F S0 S S' : Hp} {G : Sl} {σ : L2.St} {H H' : Hp} {Q : R → Sl → Prop} {P : Po}
theorem wS_popAt {i : Nat} {a : Addr} {ds0 : List D} {te : TE} (h0 : G[i]? = some (.ow a (.lst ds0))) (h : wE K Z te G fun r G1 => ∃ (ds : List D) (j : Nat), r = .sh (.int ((j : Nat) : Int)) ∧ G1[i]? = some (.ow a (.lst ds)) ∧ j < ds.length ∧ j ≤ 1000000 ∧ P.nx (G1.set i (.ow a (.lst (ds.eraseIdx j))))) :
    wS K Z (tDrop (tBM K "list" rPopAt (tVar i) (tCons te tNil))) G P := fun F S0 S σ H D s z k => by
  obtain ⟨e, _, _, vs0, g1, _⟩ := s.val i _ h0
  refine ⟨_, e, .inl ⟨rfl, _, SqL.of g1⟩, evF h s z fun r G1 v S1 H1 q m s1 o => ?_⟩
  obtain ⟨ds, j, e1, h1, hj, hjl, q⟩ := q
  subst e1
  cases o
  obtain ⟨e', _, _, vs, g3, g4⟩ := s1.val i _ h1
  have hj' : j < vs.length := by rw [g4.len]; exact hj
  have hix : ixN vs.length ((j : Nat) : Int) = some j := by
    unfold ixN
    rw [if_pos (by omega), if_pos (by omega), Int.toNat_natCast]
  obtain ⟨sq, _⟩ := ixN_seq hix
  exact ⟨a, vs, _, j, vs[j], rfl, rfl, g3, by omega, by omega, sq, List.getElem?_eq_getElem hj', k.nx _ S1 σ _ q m (s1.mut h1 ⟨_, upd_same, g4.eraseIdx j⟩)⟩
theorem wS_ins {i : Nat} {a : Addr} {ds0 : List D} {ti te : TE} (h0 : G[i]? = some (.ow a (.lst ds0))) (h : wA K Z (tCons ti (tCons te tNil)) G fun rs G1 => ∃ (ds : List D) (j : Nat) (d : D), rs = [.sh (.int ((j : Nat) : Int)), .sh d] ∧ G1[i]? = some (.ow a (.lst ds)) ∧ ds.length ≤ 1000000 ∧ j ≤ 1000000 ∧ P.nx (G1.set i (.ow a (.lst (ds.take j ++ [d] ++ ds.drop j))))) :
    wS K Z (tDrop (tBM K "list" mInsert (tVar i) (tCons ti (tCons te tNil)))) G P := fun F S0 S σ H D s z k => by
  obtain ⟨e, _, _, vs0, g1, _⟩ := s.val i _ h0
  refine ⟨_, e, .inl ⟨rfl, _, SqL.of g1⟩, h F S0 S σ H _ s z fun rs G1 ws S1 H1 q m s1 o => ?_⟩
  obtain ⟨ds, j, d, rfl, h1, hl, hjl, q⟩ := q
  obtain ⟨v, u, rfl, o1, o2⟩ := fs2 o
  cases o1
  obtain ⟨e', _, _, vs, g3, g4⟩ := s1.val i _ h1
  refine ⟨a, vs, _, u, rfl, rfl, g3, by rw [g4.len]; exact line_lt hl, by omega, by omega, k.nx _ S1 σ _ q m (s1.mut h1 ⟨_, upd_same, ?_⟩)⟩
  rw [Int.toNat_natCast]
  exact ((g4.take j).append (.cons o2 .nil)).append (g4.drop j)
end
end PL

local macro_rules | `(tactic| walk_at "w") => `(tactic| first
  | with_reducible refine' PL.wS_seq ?_
  | with_reducible refine' PL.wS_asg ?_
  | ((with_reducible refine' PL.wS_retO ?h ?_); (case h => exact rfl); try simp only [List.set_cons_zero, List.set_cons_succ])
  | with_reducible refine' PL.wS_ret ?_
  | with_reducible refine' PL.wS_nil ?_
  | with_reducible refine' PL.wS_raise ?_
  | ((with_reducible refine' PL.wS_app ?h ?_); (case h => exact rfl))
  | with_reducible refine' PL.wS_retN ?_
  | with_reducible refine' PL.wS_cont ?_
  | with_reducible refine' PL.wE_op ?_
  | with_reducible refine' PL.wE_cb ?_
  | with_reducible refine' PL.wE_call ?_
  | with_reducible refine' PL.wE_call0 ?_
  | with_reducible refine' PL.wA_cons ?_
  | with_reducible refine' PL.wA_nil ?_
  | ((with_reducible refine' PL.wE_var ?h ?_); (case h => exact rfl))
  | ((with_reducible refine' PL.wE_varB ?h ?_); (case h => exact rfl))
  | ((with_reducible refine' PL.wE_c ?h ?_); (case h => exact rfl))
  | with_reducible refine' PL.wT_yes ?_
  | with_reducible refine' PL.wT_test ?_
  | with_reducible refine' PL.wT_B ?_
  | with_reducible refine' PL.wT_tru ?_
  | with_reducible refine' PL.wT_not ?_
  | with_reducible refine' PL.wT_and ?_
  | with_reducible refine' PL.wT_or ?_
  | with_reducible refine' PL.wE_and ?_
  | with_reducible refine' PL.wE_or ?_
  | with_reducible refine' PL.wE_not ?_
  | with_reducible refine' PL.wE_tup ?_
  | with_reducible refine' PL.wE_lst ?_
  | with_reducible refine' PL.wE_sl ?_
  | with_reducible refine' PL.wO_none ?_
  | with_reducible refine' PL.wO_some ?_
  | with_reducible refine' PL.wE_m1 ?_
  | with_reducible refine' PL.wE_m0 ?_
  | with_reducible refine' PL.wE_un ?_
  | with_reducible refine' PL.wE_chain ?_
  | with_reducible refine' PL.wE_if ?_
  | ((with_reducible refine' PL.rput_sh ?h ?_); (case h => exact rfl); try simp only [List.set_cons_zero, List.set_cons_succ])
  | ((with_reducible refine' PL.rput_ow ?h ?_); (case h => exact rfl); try simp only [List.set_cons_zero, List.set_cons_succ])
  | (with_reducible refine ⟨⟨_, rfl⟩, ?_⟩)
  | with_reducible refine' PL.u_addI ?_
  | ((with_reducible refine' PL.u_mulI ?h ?_); (case h => first | exact Or.inl (by omega) | exact Or.inr (by omega)))
  | with_reducible refine' PL.u_eqI ?_
  | with_reducible refine' PL.u_neI ?_
  | with_reducible refine' PL.u_eqT ?_
  | with_reducible refine' PL.u_neT ?_
  | with_reducible refine' PL.u_eqB ?_
  | with_reducible refine' PL.u_neB ?_
  | with_reducible refine' PL.wC_intB ?_
  | with_reducible refine' PL.wC_max ?_
  | with_reducible refine' PL.wC_min ?_
  | with_reducible refine' PL.wC_lenC ?_
  | with_reducible refine' PL.wC_lenU ?_
  | ((with_reducible refine' PL.wC_lenL ?h ?_); (case h => exact rfl))
  | with_reducible refine' PL.wR_isN ?_
  | with_reducible refine' PL.wR_notN ?_
  | with_reducible refine' PL.u_slT ?_
  | ((with_reducible refine' PL.wR_I0 ?h ?_); (case h => exact rfl))
  | ((with_reducible refine' PL.wU_I ?h ?_); (case h => exact rfl))
  | ((with_reducible refine' PL.wR_I ?c ?h ?_); (case h => exact rfl); (case c => first | decide | exact ⟨by decide, by decide⟩ | (show (_ : Int) ≠ 0; omega)))
  | ((with_reducible refine' PL.u_ixT ?h ?_); (case h => exact rfl))
  | ((with_reducible refine' PL.u_ixL ?h ?i ?_); (case h => exact rfl); (case i => exact rfl))
  | ((with_reducible refine' PL.u_ixSm ?a ?b ?c ?_); (case a => first | decide | omega); (case b => first | decide | omega); (case c => walk_at "side"))
  | ((with_reducible refine' PL.u_ixLm ?y ?a ?b ?_); (case y => exact rfl); (case a => first | decide | omega); (case b => first | (show (_ : Int) ≤ ((List.length _ : Nat) : Int); simp only [List.length_cons, List.length_nil]; omega) | decide | omega))
  | ((with_reducible refine' PL.wC_isi ?h ?p ?b ?_); (case h => exact rfl); (case p => exact rfl); (case b => exact rfl))
  | ((with_reducible refine' PL.wC_lenT ?h ?_); (case h => walk_at "side"))
  | ((with_reducible refine' PL.u_addT ?h ?_); (case h => walk_at "side"))
  | ((with_reducible refine' PL.u_slS ?h ?_); (case h => walk_at "side"))
  | ((with_reducible refine' PL.u_addL ?x ?y ?l ?_); (case x => exact rfl); (case y => exact rfl); (case l => walk_at "side"); intro _)
  | ((with_reducible refine' PL.u_slL ?x ?_); (case x => exact rfl); intro _)
  | ((with_reducible refine' PL.wC_tuple ?x ?_); (case x => exact rfl))
  | ((with_reducible refine' PL.wC_list ?x ?_); (case x => exact rfl); intro _)
  | with_reducible refine' PL.u_ninI2 ?_
  | with_reducible refine' PL.u_inS ?_
  | with_reducible refine' PL.u_ninS ?_
  | with_reducible refine' PL.rt_sh ?_
  | with_reducible refine' PL.rt_ow ?_
  | with_reducible refine' PL.b_tt ?_
  | with_reducible refine' PL.b_ff ?_
  | with_reducible refine' PL.b_not ?_
  | with_reducible refine' PL.b_or ?_
  | with_reducible refine' PL.b_and ?_
  | ((with_reducible refine' PL.b_decT ?h ?_); (case h => walk_at "c"))
  | ((with_reducible refine' PL.b_decF ?h ?_); (case h => walk_at "c"))
  | with_reducible refine' PL.b_dec ?_ ?_
  | ((with_reducible refine' PL.wM_lowerRaw ?h ?e ?_); (case h => decide); (case e => decide +kernel))
  | (with_reducible refine ⟨_, _, rfl, rfl, ?_⟩)
  | (with_reducible refine ⟨_, rfl, rfl, fun _ => ?_⟩)
  | (with_reducible refine ⟨_, rfl, rfl, ?_⟩)
  | (with_reducible refine ⟨_, rfl, ?_⟩)
  | with_reducible refine' PL.b_any (fun _ => ?_) (fun _ => ?_)
  | (with_reducible intro))
local macro_rules | `(tactic| walk_at "keep") => `(tactic| first | exact True.intro | (refine ⟨rfl, ?_⟩; walk_at "keep"))
local macro_rules | `(tactic| walk_at "c") => `(tactic| first | exact rfl | omega | (simp only [List.length_cons, List.length_nil]; omega) | assumption)
local macro_rules | `(tactic| walk_at "side") => `(tactic| first | decide | omega | assumption | (simp only [List.length_append, List.length_cons, List.length_nil] at *; omega))
local macro_rules | `(tactic| walk_at "wst") => `(tactic| repeat' (walk_at "w"))
local macro_rules | `(tactic| walk_at "wgo") => `(tactic| repeat' (first | walk_at "w" | with_reducible refine' PL.wS_if ?_))
local macro_rules | `(tactic| walk_at "pl") => `(tactic| first | assumption | exact Or.inl ⟨_, rfl, by walk_at "side"⟩ | exact Or.inr ⟨by decide, rfl⟩)
local macro_rules | `(tactic| walk_at "wnx") => `(tactic| ((show PL.wS _ _ _ _ _); (try simp only [List.set_cons_zero, List.set_cons_succ]); walk_at "wgo"))

namespace PL
open PySem PySem.Spec PyProof.Rows L2
/-- things that are asked: no script, no class; a text of a size -/
def Plain (d : D) : Prop := (∃ l : List Nat, d = tx l ∧ Tx l) ∨ (tyn d ≠ "str" ∧ isPl d = true)
def isSignL : List Nat → Bool
  | [c] => decide (c ∈ signsL)
  | _ => false
def isSignD : D → Bool
  | .str s => isSignL s.cps.toList
  | _ => false
def phi_is_sign (_ : ErA) : Phi := fun ds Q _ => ∃ d, ds = [d] ∧ Plain d ∧ Q (.sh (.bl (isSignD d)))
theorem len_is_sign {C : ErA} : ∀ ds Q X, phi_is_sign C ds Q X → ds.length = 1 := fun ds Q X h => by
  obtain ⟨d, rfl, _⟩ := h; rfl
theorem kit_nstr {d : D} (h : tyn d ≠ "str") (hp : isPl d = true) : kitB (tyn d) "str" = some false := by
  cases d <;> first | rfl | (exact absurd rfl h) | cases hp
theorem isSign_tx {l : List Nat} (h : ¬ (l.length : Int) = 1) : isSignL l = false := by
  match l with
  | [] => rfl
  | [c] => exact absurd rfl h
  | _ :: _ :: _ => rfl
theorem isSign_n {d : D} (h : tyn d ≠ "str") : isSignD d = false := by
  cases d <;> first | rfl | (exact absurd rfl h)
theorem one_of {l : List Nat} (h : (l.length : Int) = 1) : ∃ c, l = [c] := by
  match l with
  | [] => cases h
  | [c] => exact ⟨c, rfl⟩
  | _ :: _ :: _ => simp at h; omega
theorem c_is_sign {C : ErA} {d : D} {Q : R → Prop} {X : Value → Prop} (hp : Plain d) (q : Q (.sh (.bl (isSignD d)))) : phi_is_sign C [d] Q X := ⟨d, rfl, hp, q⟩
local macro_rules | `(tactic| walk_at "w") => `(tactic| ((with_reducible refine' c_is_sign ?p ⟨Or.inl rfl, ?_⟩); (case p => walk_at "pl")))
abbrev N_is_sign : List Str := ["thing"]
def t_is_sign (K : PySem.W.Frag) (C : ErA) : TS :=
  tRet (tAndV (tCB (rIsi K) (tCons (tVar 0) (tCons (tC (.ty "str")) tNil))) (tAndV (tOp (uEq K) (tCB (cLen K) (tCons (tVar 0) tNil)) (tC (.int 1))) (tOp (uIn K) (tVar 0) (tC (.str (mk signsL))))))
theorem w_is_sign {K : PySem.W.Frag} {C : ErA} : ∀ ds Q X, phi_is_sign C ds Q X → ∀ E, wS K ⟨E, X⟩ (t_is_sign K C) (G0 ["thing"] ds) (PoQ Q) := by
  intro ds Q X h E
  obtain ⟨d, rfl, hp, q⟩ := h
  show wS K _ (t_is_sign K C) [.sh d] _
  unfold t_is_sign
  rcases hp with ⟨l, rfl, hl, hc⟩ | ⟨h1, h2⟩
  · walk_at "wgo"
    · rename_i h
      obtain ⟨c, rfl⟩ := one_of h
      walk_at "wgo"
      exact q
    · rename_i h
      exact q_bl q (isSign_tx h).symm
  · walk_at "wgo"
    refine wC_isi rfl h2 (kit_nstr h1 h2) ?_
    walk_at "wgo"
    exact q_bl q (isSign_n h1).symm
def isNameL (l : List Nat) : Bool := decide (0 < l.length) && decide (l.length ≤ 12) && l.all fun c => decide (c ∈ lettersL)
def isNameD : D → Bool
  | .str s => isNameL s.cps.toList
  | _ => false
def phi_is_name (_ : ErA) : Phi := fun ds Q _ => ∃ d, ds = [d] ∧ Plain d ∧ Q (.sh (.bl (isNameD d)))
theorem len_is_name {C : ErA} : ∀ ds Q X, phi_is_name C ds Q X → ds.length = 1 := fun ds Q X h => by
  obtain ⟨d, rfl, _⟩ := h; rfl
theorem isName_n {d : D} (h : tyn d ≠ "str") : isNameD d = false := by
  cases d <;> first | rfl | (exact absurd rfl h)
def letD : D → Option D
  | .str s => some (.bl (decide (s.cps.toList.headD 0 ∈ lettersL)))
  | _ => none
theorem letD_map (l : List Nat) : ((l.map fun c => tx [c]).filterMap letD) = (l.map fun c => decide (c ∈ lettersL)).map D.bl := by
  rw [List.filterMap_map, List.map_map]
  induction l with
  | nil => rfl
  | cons c l ih =>
    rw [List.filterMap_cons, List.map_cons, ih]
    rfl
theorem c_is_name {C : ErA} {d : D} {Q : R → Prop} {X : Value → Prop} (hp : Plain d) (q : Q (.sh (.bl (isNameD d)))) : phi_is_name C [d] Q X := ⟨d, rfl, hp, q⟩
local macro_rules | `(tactic| walk_at "w") => `(tactic| ((with_reducible refine' c_is_name ?p ⟨Or.inl rfl, ?_⟩); (case p => walk_at "pl")))
/-! ### rules -/
def RuleP (d : D) : Prop := Plain d ∧ ∀ ds, d = .tup ds → ∀ x ∈ ds, Plain x
def isRuleD : D → Bool
  | .tup [a, b] => isNameD a && isSignD b
  | .tup [a, b, c] => isNameD a && (isNameD b && isNameD c)
  | _ => false
def phi_is_rule (_ : ErA) : Phi := fun ds Q _ => ∃ d, ds = [d] ∧ RuleP d ∧ Q (.sh (.bl (isRuleD d)))
theorem len_is_rule {C : ErA} : ∀ ds Q X, phi_is_rule C ds Q X → ds.length = 1 := fun ds Q X h => by
  obtain ⟨d, rfl, _⟩ := h; rfl
theorem kit_ntup {d : D} (h : ∀ ds, d ≠ .tup ds) (hp : isPl d = true) : kitB (tyn d) "tuple" = some false := by
  cases d <;> first | rfl | (exact absurd rfl (h _)) | cases hp
theorem plain_pl {d : D} (h : Plain d) : isPl d = true := by
  rcases h with ⟨l, rfl, _⟩ | ⟨_, h⟩
  · rfl
  · exact h
theorem c_is_rule {C : ErA} {d : D} {Q : R → Prop} {X : Value → Prop} (hp : RuleP d) (q : Q (.sh (.bl (isRuleD d)))) : phi_is_rule C [d] Q X := ⟨d, rfl, hp, q⟩
local macro_rules | `(tactic| walk_at "w") => `(tactic| ((with_reducible refine' c_is_rule ?p ⟨Or.inl rfl, ?_⟩); (case p => assumption)))
theorem len_ne {α : Type} {l : List α} (h2 : ∀ a b, l ≠ [a, b]) (h3 : ∀ a b c, l ≠ [a, b, c]) : l.length ≠ 2 ∧ l.length ≠ 3 := by
  match l with
  | [] => exact ⟨by simp, by simp⟩
  | [_] => exact ⟨by simp, by simp⟩
  | [a, b] => exact absurd rfl (h2 a b)
  | [a, b, c] => exact absurd rfl (h3 a b c)
  | _ :: _ :: _ :: _ :: r => exact ⟨by simp, by simp⟩
theorem isRule_n {ds : List D} (h2 : ∀ a b, ds ≠ [a, b]) (h3 : ∀ a b c, ds ≠ [a, b, c]) : isRuleD (.tup ds) = false := by
  match ds with
  | [] => rfl
  | [_] => rfl
  | [a, b] => exact absurd rfl (h2 a b)
  | [a, b, c] => exact absurd rfl (h3 a b c)
  | _ :: _ :: _ :: _ :: r => rfl
/-! ### grammars -/
abbrev Name := List Nat
inductive Rl where
  | sg (n : Name) (s : Nat)
  | fk (n a b : Name)
  deriving DecidableEq
def Rl.nm : Rl → Name
  | .sg n _ => n
  | .fk n _ _ => n
def ruleD : Rl → D
  | .sg n s => .tup [tx n, tx [s]]
  | .fk n a b => .tup [tx n, tx a, tx b]
abbrev rsD (rs : List Rl) : List D := rs.map ruleD
def namesOf (rs : List Rl) : List Name := rs.foldl (fun acc r => if r.nm ∈ acc then acc else acc ++ [r.nm]) []
theorem namesOf_snoc (rs : List Rl) (r : Rl) : namesOf (rs ++ [r]) = if r.nm ∈ namesOf rs then namesOf rs else namesOf rs ++ [r.nm] := by
  unfold namesOf
  rw [List.foldl_append]
  rfl
theorem take_snoc {α : Type} {l : List α} {i : Nat} {x : α} (h : l[i]? = some x) : l.take (i + 1) = l.take i ++ [x] := by
  rw [List.take_add_one, h]; rfl
theorem namesOf_len (rs : List Rl) : (namesOf rs).length ≤ rs.length := by
  have : ∀ (l : List Rl) (acc : List Name), (l.foldl (fun acc r => if r.nm ∈ acc then acc else acc ++ [r.nm]) acc).length ≤ acc.length + l.length := by
    intro l
    induction l with
    | nil => intro acc; exact Nat.le_refl _
    | cons r l ih =>
      intro acc
      rw [List.foldl_cons, List.length_cons]
      refine Nat.le_trans (ih _) ?_
      split
      · omega
      · rw [List.length_append, List.length_singleton]; omega
  have h := this rs []
  simpa [namesOf] using h
theorem mem_namesOf (rs : List Rl) (n : Name) : n ∈ namesOf rs ↔ ∃ r ∈ rs, r.nm = n := by
  have : ∀ (l : List Rl) (acc : List Name), n ∈ l.foldl (fun acc r => if r.nm ∈ acc then acc else acc ++ [r.nm]) acc ↔ n ∈ acc ∨ ∃ r ∈ l, r.nm = n := by
    intro l
    induction l with
    | nil => intro acc; simp
    | cons r l ih =>
      intro acc
      rw [List.foldl_cons, ih]
      split
      · rename_i h
        constructor
        · rintro (h1 | ⟨r', h1, h2⟩)
          · exact .inl h1
          · exact .inr ⟨r', List.mem_cons_of_mem _ h1, h2⟩
        · rintro (h1 | ⟨r', h1, h2⟩)
          · exact .inl h1
          · rcases List.mem_cons.mp h1 with rfl | h1
            · exact .inl (h2 ▸ h)
            · exact .inr ⟨r', h1, h2⟩
      · rw [List.mem_append, List.mem_singleton]
        constructor
        · rintro ((h1 | h1) | ⟨r', h1, h2⟩)
          · exact .inl h1
          · exact .inr ⟨r, List.mem_cons_self, h1.symm⟩
          · exact .inr ⟨r', List.mem_cons_of_mem _ h1, h2⟩
        · rintro (h1 | ⟨r', h1, h2⟩)
          · exact .inl (.inl h1)
          · rcases List.mem_cons.mp h1 with rfl | h1
            · exact .inl (.inr h2.symm)
            · exact .inr ⟨r', h1, h2⟩
  have h := this rs []
  simpa [namesOf] using h
theorem rule_get {rs : List Rl} {k : Nat} {d : D} (h : (rsD rs)[k]? = some d) : ∃ r, rs[k]? = some r ∧ d = ruleD r := by
  rw [List.getElem?_map] at h
  obtain ⟨r, h1, h2⟩ := Option.map_eq_some_iff.mp h
  exact ⟨r, h1, h2.symm⟩
def phi_names_of (_ : ErA) : Phi := fun ds Q _ => ∃ rs, ds = [.lst (rsD rs)] ∧ rs.length ≤ 100000 ∧ ∀ a, Q (.ow a (.lst ((namesOf rs).map tx)))
theorem len_names_of {C : ErA} : ∀ ds Q X, phi_names_of C ds Q X → ds.length = 1 := fun ds Q X h => by
  obtain ⟨d, rfl, _⟩ := h; rfl
theorem c_names_of {C : ErA} {rs : List Rl} {Q : R → Prop} {X : Value → Prop} (hl : rs.length ≤ 100000) (q : ∀ a, Q (.ow a (.lst ((namesOf rs).map tx)))) : phi_names_of C [.lst (rsD rs)] Q X := ⟨rs, rfl, hl, q⟩
theorem ruleD_0 (r : Rl) : ∃ ds, ruleD r = .tup ds ∧ atI ds 0 = some (tx r.nm) := by
  cases r with
  | sg n s => exact ⟨_, rfl, rfl⟩
  | fk n a b => exact ⟨_, rfl, rfl⟩
/-! ### the names that stand for some text -/
inductive Pro (rs : List Rl) : Name → Prop where
  | sg {n : Name} {s : Nat} : Rl.sg n s ∈ rs → Pro rs n
  | fk {n a b : Name} : Rl.fk n a b ∈ rs → Pro rs a → Pro rs b → Pro rs n
/-- what a rule asks of the known names -/
def Rl.due (ks : List Name) : Rl → Bool
  | .sg _ _ => true
  | .fk _ a b => decide (a ∈ ks) && decide (b ∈ ks)
def phi_telling (_ : ErA) : Phi := fun ds Q _ => ∃ rs, ds = [.lst (rsD rs)] ∧ rs.length ≤ 100000 ∧ ∀ (a : Addr) (ks : List Name), (∀ n, n ∈ ks ↔ Pro rs n) → Q (.ow a (.lst (ks.map tx)))
theorem len_telling {C : ErA} : ∀ ds Q X, phi_telling C ds Q X → ds.length = 1 := fun ds Q X h => by
  obtain ⟨d, rfl, _⟩ := h; rfl
theorem nodup_le : ∀ {l m : List Name}, l.Nodup → (∀ x ∈ l, x ∈ m) → l.length ≤ m.length
  | [], _, _, _ => Nat.zero_le _
  | x :: l, m, hn, hs => by
    have hx : x ∈ m := hs x List.mem_cons_self
    obtain ⟨m1, m2, rfl⟩ := List.append_of_mem hx
    have hn' := List.nodup_cons.mp hn
    have ih := nodup_le (m := m1 ++ m2) hn'.2 fun y hy => by
      have h1 := hs y (List.mem_cons_of_mem _ hy)
      have hne : y ≠ x := fun e => hn'.1 (e ▸ hy)
      simp only [List.mem_append, List.mem_cons] at h1 ⊢
      rcases h1 with h1 | h1 | h1
      · exact .inl h1
      · exact absurd h1 hne
      · exact .inr h1
    simp only [List.length_append, List.length_cons] at ih ⊢
    omega
theorem pro_closed {rs : List Rl} {ks : List Name} (h : ∀ r ∈ rs, r.due ks = true → r.nm ∈ ks) : ∀ n, Pro rs n → n ∈ ks := fun n p => by
  induction p with
  | sg hm => exact h _ hm rfl
  | fk hm _ _ i1 i2 => exact h _ hm (by show (decide _ && decide _) = true; rw [decide_eq_true i1, decide_eq_true i2]; rfl)
/-- between two turns: the names known so far -/
structure TellI (rs : List Rl) (ks : List Name) : Prop where
  nd : ks.Nodup
  sub : ∀ n ∈ ks, n ∈ rs.map Rl.nm
  pro : ∀ n ∈ ks, Pro rs n
theorem TellI.add {rs : List Rl} {ks : List Name} {r : Rl} (t : TellI rs ks) (hr : r ∈ rs) (hd : r.due ks = true) (hn : r.nm ∉ ks) : TellI rs (ks ++ [r.nm]) := by
  have hp : Pro rs r.nm := by
    cases r with
    | sg n s => exact .sg hr
    | fk n a b =>
      have h := Bool.and_eq_true_iff.mp hd
      exact .fk hr (t.pro _ (of_decide_eq_true h.1)) (t.pro _ (of_decide_eq_true h.2))
  refine ⟨?_, fun n h => ?_, fun n h => ?_⟩
  · rw [List.nodup_append]
    refine ⟨t.nd, by simp, fun x hx y hy e => ?_⟩
    cases List.mem_singleton.mp hy
    exact hn (e ▸ hx)
  · rcases List.mem_append.mp h with h | h
    · exact t.sub n h
    · cases List.mem_singleton.mp h
      exact List.mem_map_of_mem hr
  · rcases List.mem_append.mp h with h | h
    · exact t.pro n h
    · cases List.mem_singleton.mp h
      exact hp
theorem TellI.le {rs : List Rl} {ks : List Name} (t : TellI rs ks) : ks.length ≤ rs.length := by
  have := nodup_le t.nd t.sub
  rwa [List.length_map] at this
theorem c_telling {C : ErA} {rs : List Rl} {Q : R → Prop} {X : Value → Prop} (hl : rs.length ≤ 100000) (q : ∀ (a : Addr) (ks : List Name), (∀ n, n ∈ ks ↔ Pro rs n) → Q (.ow a (.lst (ks.map tx)))) : phi_telling C [.lst (rsD rs)] Q X := ⟨rs, rfl, hl, q⟩
/-! ### need_rules -/
def Rl.ok : Rl → Bool
  | .sg n s => isNameL n && decide (s ∈ signsL)
  | .fk n a b => isNameL n && (isNameL a && isNameL b)
def BadR (l : List D) : Prop := l = [] ∨ 40 < l.length ∨ ∃ d ∈ l, isRuleD d = false
structure GoodR (rs : List Rl) : Prop where
  ne : rs ≠ []
  le : rs.length ≤ 40
  ok : ∀ r ∈ rs, r.ok = true
def Missing (rs : List Rl) : Prop := ∃ n a b, Rl.fk n a b ∈ rs ∧ (a ∉ namesOf rs ∨ b ∉ namesOf rs)
def Unpro (rs : List Rl) : Prop := ∃ n ∈ namesOf rs, ¬ Pro rs n
def phi_need_rules (C : ErA) : Phi := fun ds Q X => ∃ l, ds = [.lst l] ∧ (∀ d ∈ l, RuleP d) ∧ l.length ≤ 100000 ∧ (BadR l → X (.ref C.rule)) ∧
  ∀ rs, l = rsD rs → GoodR rs → (Missing rs → X (.ref C.name)) ∧ (¬ Missing rs → Unpro rs → X (.ref C.endless)) ∧ (¬ Missing rs → ¬ Unpro rs → ∀ a, Q (.ow a (.lst l)))
theorem len_need_rules {C : ErA} : ∀ ds Q X, phi_need_rules C ds Q X → ds.length = 1 := fun ds Q X h => by
  obtain ⟨d, rfl, _⟩ := h; rfl
theorem plain_str {s : Str} (h : Plain (.str s)) : ∃ l, D.str s = tx l ∧ Tx l := by
  rcases h with h | ⟨h, _⟩
  · exact h
  · exact absurd rfl h
theorem name_of_D {d : D} (hp : Plain d) (h : isNameD d = true) : ∃ l, d = tx l ∧ isNameL l = true := by
  cases d with
  | str s =>
    obtain ⟨l, e, _⟩ := plain_str hp
    rw [e] at h
    exact ⟨l, e, h⟩
  | _ => cases h
theorem sign_of_D {d : D} (hp : Plain d) (h : isSignD d = true) : ∃ c, d = tx [c] ∧ c ∈ signsL := by
  cases d with
  | str s =>
    obtain ⟨l, e, _⟩ := plain_str hp
    rw [e] at h ⊢
    have h' : isSignL l = true := h
    match l, h' with
    | [c], h' => exact ⟨c, rfl, of_decide_eq_true h'⟩
  | _ => cases h
theorem rule_of_D {d : D} (hp : RuleP d) (h : isRuleD d = true) : ∃ r, d = ruleD r ∧ r.ok = true := by
  match d, h with
  | .tup [a, b], h =>
    have h := Bool.and_eq_true_iff.mp h
    obtain ⟨n, rfl, hn⟩ := name_of_D (hp.2 _ rfl a (by simp)) h.1
    obtain ⟨c, rfl, hc⟩ := sign_of_D (hp.2 _ rfl b (by simp)) h.2
    exact ⟨.sg n c, rfl, by show (_ && _) = true; rw [hn, decide_eq_true hc]; rfl⟩
  | .tup [a, b, c], h =>
    have h := Bool.and_eq_true_iff.mp h
    have h2 := Bool.and_eq_true_iff.mp h.2
    obtain ⟨n, rfl, hn⟩ := name_of_D (hp.2 _ rfl a (by simp)) h.1
    obtain ⟨x, rfl, hx⟩ := name_of_D (hp.2 _ rfl b (by simp)) h2.1
    obtain ⟨y, rfl, hy⟩ := name_of_D (hp.2 _ rfl c (by simp)) h2.2
    exact ⟨.fk n x y, rfl, by show (_ && (_ && _)) = true; rw [hn, hx, hy]; rfl⟩
theorem rules_of_D : ∀ {l : List D}, (∀ d ∈ l, RuleP d) → (∀ d ∈ l, isRuleD d = true) → ∃ rs, l = rsD rs ∧ ∀ r ∈ rs, r.ok = true
  | [], _, _ => ⟨[], rfl, by intro r h; cases h⟩
  | d :: l, h1, h2 => by
    obtain ⟨r, e, ho⟩ := rule_of_D (h1 d List.mem_cons_self) (h2 d List.mem_cons_self)
    obtain ⟨rs, e2, ho2⟩ := rules_of_D (fun x hx => h1 x (List.mem_cons_of_mem _ hx)) (fun x hx => h2 x (List.mem_cons_of_mem _ hx))
    refine ⟨r :: rs, by rw [e, e2]; rfl, fun x hx => ?_⟩
    rcases List.mem_cons.mp hx with rfl | hx
    · exact ho
    · exact ho2 x hx
theorem good_of {l : List D} (h1 : ∀ d ∈ l, RuleP d) (h : ¬ BadR l) : ∃ rs, l = rsD rs ∧ GoodR rs := by
  have hb : ∀ d ∈ l, isRuleD d = true := fun d hd => by
    cases e : isRuleD d with
    | true => rfl
    | false => exact absurd (.inr (.inr ⟨d, hd, e⟩)) h
  obtain ⟨rs, rfl, ho⟩ := rules_of_D h1 hb
  refine ⟨rs, rfl, fun e => h (.inl (by rw [e]; rfl)), ?_, ho⟩
  have : ¬ 40 < (rsD rs).length := fun e => h (.inr (.inl e))
  rw [List.length_map] at this
  omega
theorem flat_txs : ∀ ls : List Name, flatA (ls.map tx) = true
  | [] => rfl
  | l :: ls => by
    show (D.flat (tx l) && flatA (ls.map tx)) = true
    rw [flat_txs ls]; rfl
/-! ### the table of costs, in plain Lean -/
abbrev Key3 := Name × Nat × Nat
abbrev Tb := List (Key3 × Nat)
def kK (k : Key3) : List Key := [.inr (mk k.1), .inl ((k.2.1 : Nat) : Int), .inl ((k.2.2 : Nat) : Int)]
theorem kK_inj {k j : Key3} : kK k = kK j ↔ k = j := by
  constructor
  · intro h
    unfold kK at h
    simp only [List.cons.injEq, Sum.inr.injEq, Sum.inl.injEq, and_true] at h
    obtain ⟨h1, h2, h3⟩ := h
    have h1 := mk_inj.mp h1
    obtain ⟨a, b, c⟩ := k
    obtain ⟨a', b', c'⟩ := j
    simp only at h1 h2 h3
    have h2 : b = b' := by omega
    have h3 : c = c' := by omega
    rw [h1, h2, h3]
  · rintro rfl; rfl
def enc (es : Tb) : List (List Key × V) := es.map fun p => (kK p.1, V.int ((p.2 : Nat) : Int))
def tat (es : Tb) (k : Key3) : Option Nat := (es.find? fun p => decide (p.1 = k)).map (·.2)
def tput (es : Tb) (k : Key3) (c : Nat) : Tb := if (es.any fun p => decide (p.1 = k)) = true then es.map (fun p => if p.1 = k then (p.1, c) else p) else es ++ [(k, c)]
theorem tat_cons (p : Key3 × Nat) (es : Tb) (k : Key3) : tat (p :: es) k = if p.1 = k then some p.2 else tat es k := by
  unfold tat
  rw [List.find?_cons]
  by_cases h : p.1 = k
  · rw [decide_eq_true h, if_pos h]; rfl
  · rw [decide_eq_false h, if_neg h]
theorem valV_enc : ∀ (es : Tb) (k : Key3), valV (enc es) (kK k) = (tat es k).map fun c => V.int ((c : Nat) : Int)
  | [], _ => rfl
  | p :: es, k => by
    rw [tat_cons]
    show valV ((kK p.1, V.int _) :: enc es) (kK k) = _
    by_cases h : p.1 = k
    · rw [if_pos h, valV_pos (kK_inj.mpr h)]; rfl
    · rw [if_neg h, valV_neg (fun e => h (kK_inj.mp e)), valV_enc es k]
theorem any_enc (es : Tb) (k : Key3) : ((enc es).any fun kv => decide (kv.1 = kK k)) = (es.any fun p => decide (p.1 = k)) := by
  unfold enc
  rw [List.any_map]
  congr 1
  funext p
  exact decide_eq_decide.mpr kK_inj
theorem putK_enc (es : Tb) (k : Key3) (c : Nat) : putK (enc es) (kK k) (V.int ((c : Nat) : Int)) = enc (tput es k c) := by
  unfold putK tput
  rw [any_enc]
  split
  · unfold enc
    rw [List.map_map, List.map_map]
    refine List.map_congr_left fun p _ => ?_
    show (if kK p.1 = kK k then _ else _) = (kK (if p.1 = k then (p.1, c) else p).1, V.int (((if p.1 = k then (p.1, c) else p).2 : Nat) : Int))
    by_cases h : p.1 = k
    · rw [if_pos (kK_inj.mpr h), if_pos h]
    · rw [if_neg (fun e => h (kK_inj.mp e)), if_neg h]
  · unfold enc
    rw [List.map_append]; rfl
theorem oInt_inj {a b : Option Nat} (h : a.map (fun c => V.int ((c : Nat) : Int)) = b.map fun c => V.int ((c : Nat) : Int)) : a = b := by
  cases a with
  | none => cases b with
    | none => rfl
    | some y => cases h
  | some x => cases b with
    | none => cases h
    | some y =>
      simp only [Option.map_some, Option.some.injEq, V.int.injEq] at h
      rw [show x = y by omega]
theorem tat_put (es : Tb) (k j : Key3) (c : Nat) : tat (tput es k c) j = if j = k then some c else tat es j := by
  refine oInt_inj ?_
  rw [← valV_enc, ← putK_enc, valV_put]
  by_cases h : j = k
  · rw [if_pos (kK_inj.mpr h), if_pos h]; rfl
  · rw [if_neg (fun e => h (kK_inj.mp e)), if_neg h, valV_enc]
theorem any_tat (k : Key3) : ∀ es : Tb, (es.any fun p => decide (p.1 = k)) = (tat es k).isSome
  | [] => rfl
  | p :: es => by
    rw [List.any_cons, tat_cons, any_tat k es]
    by_cases h : p.1 = k
    · rw [decide_eq_true h, if_pos h]; rfl
    · rw [decide_eq_false h, if_neg h, Bool.false_or]
theorem tput_new {es : Tb} {k : Key3} (c : Nat) (h : tat es k = none) : tput es k c = es ++ [(k, c)] := by
  unfold tput
  rw [any_tat, h]; rfl
theorem tput_len (es : Tb) (k : Key3) (c : Nat) : (tput es k c).length = es.length + (if (tat es k).isSome then 0 else 1) := by
  unfold tput
  rw [any_tat]
  cases h : (tat es k).isSome with
  | true => simp
  | false => simp
theorem tat_mem {k : Key3} : ∀ {es : Tb}, k ∈ es.map (·.1) ↔ (tat es k).isSome = true
  | [] => by simp [tat]
  | p :: es => by
    rw [List.map_cons, List.mem_cons, tat_cons, tat_mem (es := es)]
    by_cases h : p.1 = k
    · rw [if_pos h]; simp [h]
    · rw [if_neg h]
      simp only [or_iff_right_iff_imp]
      intro e; exact absurd e.symm h
theorem tput_keys (es : Tb) (k : Key3) (c : Nat) : (tput es k c).map (·.1) = if (tat es k).isSome then es.map (·.1) else es.map (·.1) ++ [k] := by
  unfold tput
  rw [any_tat]
  cases h : (tat es k).isSome with
  | true =>
    rw [if_pos rfl, if_pos rfl, List.map_map]
    refine List.map_congr_left fun p _ => ?_
    show (if p.1 = k then (p.1, c) else p).1 = p.1
    split <;> rfl
  | false =>
    rw [if_neg (by decide), if_neg (by decide), List.map_append]; rfl
theorem tput_nodup {es : Tb} (k : Key3) (c : Nat) (h : (es.map (·.1)).Nodup) : ((tput es k c).map (·.1)).Nodup := by
  rw [tput_keys]
  split
  · exact h
  · rename_i hn
    rw [List.nodup_append]
    refine ⟨h, by simp, fun x hx y hy e => ?_⟩
    cases List.mem_singleton.mp hy
    subst e
    exact hn (tat_mem.mp hx)
/-! #### what a rule comes to -/
def lc (s : Nat) (t : List Nat) (b e : Nat) : Nat := if b = e then 1 else e - b - (if s ∈ (t.drop b).take (e - b) then 1 else 0)
def pairC (es : Tb) (x y : Name) (b e k : Nat) : Option Nat := match tat es (x, b, k), tat es (y, k, e) with
  | some c, some d => some (c + d)
  | _, _ => none
def minO (acc : Option Nat) : Option Nat → Option Nat
  | none => acc
  | some s => match acc with
    | none => some s
    | some l => if s < l then some s else some l
def leastTo (es : Tb) (x y : Name) (b e j : Nat) : Option Nat := (List.range j).foldl (fun acc i => minO acc (pairC es x y b e (b + i))) none
theorem leastTo_succ (es : Tb) (x y : Name) (b e j : Nat) : leastTo es x y b e (j + 1) = minO (leastTo es x y b e j) (pairC es x y b e (b + j)) := by
  unfold leastTo
  rw [List.range_succ, List.foldl_append]; rfl
theorem minO_le {acc o : Option Nat} : (∀ l, acc = some l → ∃ m, minO acc o = some m ∧ m ≤ l) ∧ (∀ s, o = some s → ∃ m, minO acc o = some m ∧ m ≤ s) ∧ ∀ m, minO acc o = some m → acc = some m ∨ o = some m := by
  cases o with
  | none =>
    exact ⟨fun l h => ⟨l, h, Nat.le_refl _⟩, fun s h => (by cases h), fun m h => .inl h⟩
  | some s =>
    cases acc with
    | none => exact ⟨fun l h => by (cases h), fun s' h => ⟨s, rfl, by cases h; exact Nat.le_refl _⟩, fun m h => .inr h⟩
    | some l =>
      show (∀ l', _ → ∃ m, (if s < l then some s else some l) = some m ∧ _) ∧ (∀ s', _ → ∃ m, (if s < l then some s else some l) = some m ∧ _) ∧ ∀ m, (if s < l then some s else some l) = some m → _
      by_cases h : s < l
      · rw [if_pos h]
        exact ⟨fun l' e => ⟨s, rfl, by cases e; omega⟩, fun s' e => ⟨s, rfl, by cases e; omega⟩, fun m e => .inr e⟩
      · rw [if_neg h]
        exact ⟨fun l' e => ⟨l, rfl, by cases e; omega⟩, fun s' e => ⟨l, rfl, by cases e; omega⟩, fun m e => .inl e⟩
theorem leastTo_le (es : Tb) (x y : Name) (b e : Nat) : ∀ (j i : Nat) (s : Nat), i < j → pairC es x y b e (b + i) = some s → ∃ m, leastTo es x y b e j = some m ∧ m ≤ s
  | 0, _, _, h, _ => by omega
  | j + 1, i, s, h, hs => by
    rw [leastTo_succ]
    by_cases e2 : i = j
    · subst e2; exact minO_le.2.1 s hs
    · obtain ⟨m, h1, h2⟩ := leastTo_le es x y b e j i s (by omega) hs
      obtain ⟨m', h3, h4⟩ := minO_le (o := pairC es x y b e (b + j)) |>.1 m h1
      exact ⟨m', h3, by omega⟩
theorem leastTo_of (es : Tb) (x y : Name) (b e : Nat) : ∀ (j m : Nat), leastTo es x y b e j = some m → ∃ i, i < j ∧ pairC es x y b e (b + i) = some m
  | 0, _, h => by cases h
  | j + 1, m, h => by
    rw [leastTo_succ] at h
    rcases minO_le.2.2 m h with h | h
    · obtain ⟨i, h1, h2⟩ := leastTo_of es x y b e j m h
      exact ⟨i, by omega, h2⟩
    · exact ⟨j, by omega, h⟩
def rcost (es : Tb) (t : List Nat) (b e : Nat) : Rl → Option Nat
  | .sg _ s => some (lc s t b e)
  | .fk _ x y => leastTo es x y b e (e + 1 - b)
/-! #### trees -/
inductive Der (rs : List Rl) (t : List Nat) : Name → Nat → Nat → Nat → Prop where
  | sg {n : Name} {s b e : Nat} : Rl.sg n s ∈ rs → b ≤ e → Der rs t n b e (lc s t b e)
  | fk {n x y : Name} {b k e c d : Nat} : Rl.fk n x y ∈ rs → Der rs t x b k c → Der rs t y k e d → Der rs t n b e (c + d)
theorem Der.le {rs : List Rl} {t : List Nat} {n : Name} {b e c : Nat} (h : Der rs t n b e c) : b ≤ e := by
  induction h with
  | sg _ h => exact h
  | fk _ _ _ i1 i2 => omega
theorem Der.nm {rs : List Rl} {t : List Nat} {n : Name} {b e c : Nat} (h : Der rs t n b e c) : n ∈ namesOf rs := by
  cases h with
  | sg h _ => exact (mem_namesOf rs _).mpr ⟨_, h, rfl⟩
  | fk h _ _ => exact (mem_namesOf rs _).mpr ⟨_, h, rfl⟩
theorem Pro.der {rs : List Rl} {n : Name} (t : List Nat) (h : Pro rs n) : ∀ b e : Nat, b ≤ e → ∃ c, Der rs t n b e c := by
  induction h with
  | sg h => intro b e hb; exact ⟨_, .sg h hb⟩
  | fk h _ _ i1 i2 =>
    intro b e hb
    obtain ⟨c, h1⟩ := i1 b b (Nat.le_refl _)
    obtain ⟨d, h2⟩ := i2 b e hb
    exact ⟨_, .fk h h1 h2⟩
/-- what the table has is what a tree comes to -/
def Snd (rs : List Rl) (t : List Nat) (es : Tb) : Prop := ∀ n b e c, tat es (n, b, e) = some c → Der rs t n b e c
/-- .. and no tree over the stretch comes to less -/
def Mn (rs : List Rl) (t : List Nat) (es : Tb) (b e : Nat) : Prop := ∀ n c, Der rs t n b e c → ∃ c', tat es (n, b, e) = some c' ∧ c' ≤ c
theorem rcost_der {rs : List Rl} {t : List Nat} {es : Tb} (hS : Snd rs t es) {r : Rl} (hr : r ∈ rs) {b e f : Nat} (hb : b ≤ e) (h : rcost es t b e r = some f) : Der rs t r.nm b e f := by
  cases r with
  | sg n s => cases h; exact .sg hr hb
  | fk n x y =>
    obtain ⟨i, h1, h2⟩ := leastTo_of es x y b e _ f h
    unfold pairC at h2
    split at h2
    · rename_i c d e1 e2
      cases h2
      exact .fk hr (hS _ _ _ _ e1) (hS _ _ _ _ e2)
    · cases h2
/-! #### one stretch filled in -/
def better (es : Tb) (k : Key3) (f : Nat) : Bool := match tat es k with
  | none => true
  | some c => decide (f < c)
def stp (t : List Nat) (b e : Nat) (p : Tb × Bool) (r : Rl) : Tb × Bool := match rcost p.1 t b e r with
  | none => p
  | some f => if better p.1 (r.nm, b, e) f = true then (tput p.1 (r.nm, b, e) f, true) else p
def pas (t : List Nat) (b e : Nat) (rs : List Rl) (es : Tb) : Tb × Bool := rs.foldl (stp t b e) (es, false)
inductive Runs (rs : List Rl) (t : List Nat) (b e : Nat) : Tb → Nat → Tb → Prop where
  | stop {es es' : Tb} : pas t b e rs es = (es', false) → Runs rs t b e es 0 es'
  | go {es es' es'' : Tb} {m : Nat} : pas t b e rs es = (es', true) → Runs rs t b e es' m es'' → Runs rs t b e es (m + 1) es''
theorem stp_cases (t : List Nat) (b e : Nat) (p : Tb × Bool) (r : Rl) : stp t b e p r = p ∨ ∃ f, rcost p.1 t b e r = some f ∧ better p.1 (r.nm, b, e) f = true ∧ stp t b e p r = (tput p.1 (r.nm, b, e) f, true) := by
  unfold stp
  cases h : rcost p.1 t b e r with
  | none => exact .inl rfl
  | some f =>
    by_cases hb : better p.1 (r.nm, b, e) f = true
    · exact .inr ⟨f, rfl, hb, if_pos hb⟩
    · exact .inl (if_neg hb)
theorem fold_true (t : List Nat) (b e : Nat) : ∀ (l : List Rl) (es : Tb), (l.foldl (stp t b e) (es, true)).2 = true
  | [], _ => rfl
  | r :: l, es => by
    rw [List.foldl_cons]
    rcases stp_cases t b e (es, true) r with h | ⟨f, _, _, h⟩
    · rw [h]; exact fold_true t b e l es
    · rw [h]; exact fold_true t b e l _
/-- where nothing changed, nothing was better -/
theorem fold_false (t : List Nat) (b e : Nat) : ∀ (l : List Rl) (es : Tb), (l.foldl (stp t b e) (es, false)).2 = false → (l.foldl (stp t b e) (es, false)).1 = es ∧ ∀ r ∈ l, ∀ f, rcost es t b e r = some f → better es (r.nm, b, e) f = false
  | [], es, _ => ⟨rfl, by intro r h; cases h⟩
  | r :: l, es, h => by
    rw [List.foldl_cons] at h ⊢
    cases hc : rcost es t b e r with
    | none =>
      have e1 : stp t b e (es, false) r = (es, false) := by unfold stp; simp only [hc]
      rw [e1] at h ⊢
      obtain ⟨h1, h2⟩ := fold_false t b e l es h
      refine ⟨h1, fun x hx f hf => ?_⟩
      rcases List.mem_cons.mp hx with rfl | hx
      · rw [hc] at hf; cases hf
      · exact h2 x hx f hf
    | some f0 =>
      by_cases hb : better es (r.nm, b, e) f0 = true
      · have e1 : stp t b e (es, false) r = (tput es (r.nm, b, e) f0, true) := by unfold stp; simp only [hc]; exact if_pos hb
        rw [e1, fold_true] at h
        cases h
      · have e1 : stp t b e (es, false) r = (es, false) := by unfold stp; simp only [hc]; exact if_neg hb
        rw [e1] at h ⊢
        obtain ⟨h1, h2⟩ := fold_false t b e l es h
        refine ⟨h1, fun x hx f hf => ?_⟩
        rcases List.mem_cons.mp hx with rfl | hx
        · rw [hc] at hf; cases hf
          simpa using hb
        · exact h2 x hx f hf
theorem fold_keep {I : Tb → Prop} {rs : List Rl} {t : List Nat} {b e : Nat} (hI : ∀ es r f, r ∈ rs → I es → rcost es t b e r = some f → better es (r.nm, b, e) f = true → I (tput es (r.nm, b, e) f)) : ∀ (l : List Rl) (p : Tb × Bool), (∀ r ∈ l, r ∈ rs) → I p.1 → I (l.foldl (stp t b e) p).1
  | [], _, _, h => h
  | r :: l, p, hl, h => by
    rw [List.foldl_cons]
    refine fold_keep hI l _ (fun x hx => hl x (List.mem_cons_of_mem _ hx)) ?_
    rcases stp_cases t b e p r with q | ⟨f, q1, q2, q⟩
    · rw [q]; exact h
    · rw [q]; exact hI p.1 r f (hl r List.mem_cons_self) h q1 q2
theorem Runs.keep {I : Tb → Prop} {rs : List Rl} {t : List Nat} {b e : Nat} (hI : ∀ es r f, r ∈ rs → I es → rcost es t b e r = some f → better es (r.nm, b, e) f = true → I (tput es (r.nm, b, e) f)) {es es' : Tb} {m : Nat} (h : Runs rs t b e es m es') : I es → I es' := by
  induction h with
  | @stop es es' h =>
    intro h0
    have := fold_keep hI rs (es, false) (fun _ h => h) h0
    rw [show rs.foldl (stp t b e) (es, false) = (es', false) from h] at this
    exact this
  | @go es es' es'' m h _ ih =>
    intro h0
    have := fold_keep hI rs (es, false) (fun _ h => h) h0
    rw [show rs.foldl (stp t b e) (es, false) = (es', true) from h] at this
    exact ih this
theorem Runs.closed {rs : List Rl} {t : List Nat} {b e : Nat} {es es' : Tb} {m : Nat} (h : Runs rs t b e es m es') : ∀ r ∈ rs, ∀ f, rcost es' t b e r = some f → ∃ c, tat es' (r.nm, b, e) = some c ∧ c ≤ f := by
  induction h with
  | @stop es es' h =>
    intro r hr f hf
    have q := fold_false t b e rs es (by rw [show rs.foldl (stp t b e) (es, false) = (es', false) from h])
    rw [show rs.foldl (stp t b e) (es, false) = (es', false) from h] at q
    obtain ⟨q1, q2⟩ := q
    simp only at q1
    subst q1
    have := q2 r hr f hf
    unfold better at this
    split at this
    · cases this
    · rename_i c hc
      exact ⟨c, hc, by have := of_decide_eq_false this; omega⟩
  | go _ _ ih => exact ih
theorem Runs.snd {rs : List Rl} {t : List Nat} {b e : Nat} {es es' : Tb} {m : Nat} (hb : b ≤ e) (h : Runs rs t b e es m es') : Snd rs t es → Snd rs t es' :=
  h.keep fun es r f hr hS hc _ n b' e' c hk => by
    rw [tat_put] at hk
    split at hk
    · rename_i e1
      cases hk
      cases e1
      exact rcost_der hS hr hb hc
    · exact hS _ _ _ _ hk
theorem Runs.elsewhere {rs : List Rl} {t : List Nat} {b e : Nat} {es es' : Tb} {m : Nat} (h : Runs rs t b e es m es') (k : Key3) (hk : k.2 ≠ (b, e)) : tat es' k = tat es k :=
  h.keep (I := fun x => tat x k = tat es k) (fun es r f _ hS _ _ => by
    rw [tat_put, if_neg (fun e => hk (by rw [e]))]; exact hS) rfl
theorem Runs.nodup {rs : List Rl} {t : List Nat} {b e : Nat} {es es' : Tb} {m : Nat} (h : Runs rs t b e es m es') : (es.map (·.1)).Nodup → (es'.map (·.1)).Nodup :=
  h.keep (I := fun x => (x.map (·.1)).Nodup) fun es r f _ hS _ _ => tput_nodup _ _ hS
/-- nothing comes to less -/
theorem Runs.mn {rs : List Rl} {t : List Nat} {b e : Nat} {es es' : Tb} {m : Nat} (h : Runs rs t b e es m es') (hi : ∀ b' e', b ≤ b' → e' ≤ e → (b', e') ≠ (b, e) → Mn rs t es b' e') : Mn rs t es' b e := by
  have key : ∀ n b0 e0 c, Der rs t n b0 e0 c → b ≤ b0 → e0 ≤ e → ∃ c', tat es' (n, b0, e0) = some c' ∧ c' ≤ c := fun n b0 e0 c hD => by
    induction hD with
    | @sg n s b0 e0 hr hbe =>
      intro h1 h2
      by_cases hq : (b0, e0) = (b, e)
      · cases hq
        exact h.closed _ hr _ rfl
      · have := hi b0 e0 h1 h2 hq n _ (.sg hr hbe)
        rw [h.elsewhere _ hq]; exact this
    | @fk n x y b0 k e0 c d hr d1 d2 i1 i2 =>
      intro h1 h2
      by_cases hq : (b0, e0) = (b, e)
      · cases hq
        obtain ⟨c', g1, g2⟩ := i1 (Nat.le_refl _) (by have := d2.le; omega)
        obtain ⟨d', g3, g4⟩ := i2 (by have := d1.le; omega) (Nat.le_refl _)
        have hk := d1.le
        have hk2 := d2.le
        have hp : pairC es' x y b e (b + (k - b)) = some (c' + d') := by
          rw [show b + (k - b) = k by omega]
          unfold pairC
          rw [g1, g3]
        obtain ⟨m, h3, h4⟩ := leastTo_le es' x y b e (e + 1 - b) (k - b) _ (by omega) hp
        obtain ⟨c2, h5, h6⟩ := h.closed _ hr m h3
        exact ⟨c2, h5, by omega⟩
      · have := hi b0 e0 h1 h2 hq n _ (.fk hr d1 d2)
        rw [h.elsewhere _ hq]; exact this
  exact fun n c hD => key n b e c hD (Nat.le_refl _) (Nat.le_refl _)
/-! #### it ends -/
theorem sum_le {α : Type} {f g : α → Nat} : ∀ {l : List α}, (∀ x ∈ l, f x ≤ g x) → (l.map f).sum ≤ (l.map g).sum
  | [], _ => Nat.le_refl _
  | x :: l, h => by
    rw [List.map_cons, List.map_cons, List.sum_cons, List.sum_cons]
    have h1 := h x List.mem_cons_self
    have h2 := sum_le (l := l) fun y hy => h y (List.mem_cons_of_mem _ hy)
    omega
theorem sum_lt {α : Type} {f g : α → Nat} {z : α} : ∀ {l : List α}, (∀ x ∈ l, f x ≤ g x) → z ∈ l → f z < g z → (l.map f).sum < (l.map g).sum
  | [], _, h, _ => by cases h
  | x :: l, h, hz, hlt => by
    rw [List.map_cons, List.map_cons, List.sum_cons, List.sum_cons]
    have h1 := h x List.mem_cons_self
    have h2 := sum_le (l := l) fun y hy => h y (List.mem_cons_of_mem _ hy)
    rcases List.mem_cons.mp hz with rfl | hz
    · omega
    · have h3 := sum_lt (l := l) (fun y hy => h y (List.mem_cons_of_mem _ hy)) hz hlt
      omega
def cnt (rs : List Rl) (b e : Nat) (es : Tb) : Nat := ((namesOf rs).map fun n => if (tat es (n, b, e)).isSome then 0 else 1).sum
def tot (rs : List Rl) (b e : Nat) (es : Tb) : Nat := ((namesOf rs).map fun n => (tat es (n, b, e)).getD 0).sum
theorem cnt_le (rs : List Rl) (b e : Nat) (es : Tb) : cnt rs b e es ≤ rs.length := by
  have h : cnt rs b e es ≤ ((namesOf rs).map fun _ => 1).sum := sum_le fun n _ => by split <;> omega
  rw [List.map_const', List.sum_replicate_nat] at h
  have := namesOf_len rs
  omega
def Lss (rs : List Rl) (b e : Nat) (x y : Tb) : Prop := cnt rs b e x < cnt rs b e y ∨ (cnt rs b e x = cnt rs b e y ∧ tot rs b e x < tot rs b e y)
theorem Lss.trans {rs : List Rl} {b e : Nat} {x y z : Tb} (h : Lss rs b e x y) (h' : Lss rs b e y z) : Lss rs b e x z := by
  unfold Lss at *; omega
theorem put_lss {rs : List Rl} {b e f : Nat} {es : Tb} {n : Name} (hn : n ∈ namesOf rs) (h : better es (n, b, e) f = true) : Lss rs b e (tput es (n, b, e) f) es ∧ (tput es (n, b, e) f).length + cnt rs b e (tput es (n, b, e) f) ≤ es.length + cnt rs b e es := by
  unfold better at h
  split at h
  · rename_i hk
    have hlt : cnt rs b e (tput es (n, b, e) f) < cnt rs b e es := by
      refine sum_lt (z := n) (fun x _ => ?_) hn ?_
      · rw [tat_put]
        split
        · simp
        · exact Nat.le_refl _
      · rw [tat_put, if_pos rfl, hk]; exact Nat.zero_lt_one
    refine ⟨.inl hlt, ?_⟩
    rw [tput_len, hk]
    simp; omega
  · rename_i c hk
    have hfc := of_decide_eq_true h
    have he : cnt rs b e (tput es (n, b, e) f) = cnt rs b e es := by
      unfold cnt
      congr 1
      refine List.map_congr_left fun x _ => ?_
      rw [tat_put]
      split
      · rename_i e1
        rw [e1, hk]; rfl
      · rfl
    refine ⟨.inr ⟨he, sum_lt (z := n) (fun x _ => ?_) hn ?_⟩, ?_⟩
    · rw [tat_put]
      split
      · rename_i e1
        rw [e1, hk]
        show f ≤ c
        omega
      · exact Nat.le_refl _
    · rw [tat_put, if_pos rfl, hk]; exact hfc
    · rw [tput_len, hk, he]; simp
theorem fold_lss {rs : List Rl} {t : List Nat} {b e : Nat} : ∀ (l : List Rl) (es : Tb) (fl : Bool), (∀ r ∈ l, r ∈ rs) → (l.foldl (stp t b e) (es, fl) = (es, fl)) ∨ Lss rs b e (l.foldl (stp t b e) (es, fl)).1 es
  | [], _, _, _ => .inl rfl
  | r :: l, es, fl, hl => by
    rw [List.foldl_cons]
    rcases stp_cases t b e (es, fl) r with q | ⟨f, q1, q2, q⟩
    · rw [q]; exact fold_lss l es fl fun x hx => hl x (List.mem_cons_of_mem _ hx)
    · rw [q]
      have hn : r.nm ∈ namesOf rs := (mem_namesOf rs _).mpr ⟨r, hl r List.mem_cons_self, rfl⟩
      have h1 := (put_lss hn q2).1
      rcases fold_lss l (tput es (r.nm, b, e) f) true fun x hx => hl x (List.mem_cons_of_mem _ hx) with h | h
      · right; rw [h]; exact h1
      · exact .inr (h.trans h1)
theorem runs_ex (rs : List Rl) (t : List Nat) (b e : Nat) : ∀ (N M : Nat) (es : Tb), cnt rs b e es < N → tot rs b e es < M → ∃ m es', Runs rs t b e es m es'
  | 0, _, _, h, _ => by omega
  | N + 1, 0, _, _, h => by omega
  | N + 1, M + 1, es, h1, h2 => by
    have hp : pas t b e rs es = ((pas t b e rs es).1, (pas t b e rs es).2) := rfl
    cases hf : (pas t b e rs es).2 with
    | false => rw [hf] at hp; exact ⟨0, _, .stop hp⟩
    | true =>
      rw [hf] at hp
      rcases fold_lss (rs := rs) (t := t) (b := b) (e := e) rs es false fun _ h => h with h | h
      · have : pas t b e rs es = (es, false) := h
        rw [this] at hf; cases hf
      · have h : Lss rs b e (pas t b e rs es).1 es := h
        have : ∃ m es', Runs rs t b e (pas t b e rs es).1 m es' := by
          rcases h with h | ⟨h3, h4⟩
          · exact runs_ex rs t b e N (tot rs b e (pas t b e rs es).1 + 1) _ (by omega) (by omega)
          · exact runs_ex rs t b e (N + 1) M _ (by omega) (by omega)
        obtain ⟨m, es', hr⟩ := this
        exact ⟨m + 1, es', .go hp hr⟩
theorem Runs.len {rs : List Rl} {t : List Nat} {b e : Nat} {es es' : Tb} {m : Nat} (h : Runs rs t b e es m es') : es'.length + cnt rs b e es' ≤ es.length + cnt rs b e es :=
  h.keep (I := fun x => x.length + cnt rs b e x ≤ es.length + cnt rs b e es) (fun x r f hr hS _ hb => by
    have := (put_lss (rs := rs) ((mem_namesOf rs _).mpr ⟨r, hr, rfl⟩) hb).2
    omega) (Nat.le_refl _)
/-! #### the whole table -/
structure TabOk (rs : List Rl) (t : List Nat) (es : Tb) : Prop where
  nd : (es.map (·.1)).Nodup
  snd : Snd rs t es
  mn : ∀ b e, b ≤ e → e ≤ t.length → Mn rs t es b e
  within : ∀ n b e, (tat es (n, b, e)).isSome = true → e ≤ t.length
/-- between two stretches: the shorter ones, and those of this size that begin ahead, are there -/
structure TabI (rs : List Rl) (t : List Nat) (size beg : Nat) (es : Tb) : Prop where
  nd : (es.map (·.1)).Nodup
  snd : Snd rs t es
  mn : ∀ b e, b ≤ e → e ≤ t.length → (e - b < size ∨ e - b = size ∧ b < beg) → Mn rs t es b e
  within : ∀ n b e, (tat es (n, b, e)).isSome = true → e ≤ t.length
  len : es.length ≤ (size * 41 + beg) * 40
theorem TabI.start (rs : List Rl) (t : List Nat) : TabI rs t 0 0 [] :=
  ⟨List.nodup_nil, fun n b e c h => (by cases h), fun b e _ _ h => (by omega), fun n b e h => (by cases h), Nat.zero_le _⟩
theorem TabI.next {rs : List Rl} {t : List Nat} {size beg : Nat} {es es' : Tb} {m : Nat} (h : TabI rs t size beg es) (hl : rs.length ≤ 40) (hb : beg + size ≤ t.length) (hr : Runs rs t beg (beg + size) es m es') : TabI rs t size (beg + 1) es' := by
  refine ⟨hr.nodup h.nd, hr.snd (by omega) h.snd, fun b e h1 h2 h3 => ?_, fun n b e hk => ?_, ?_⟩
  · by_cases hq : (b, e) = (beg, beg + size)
    · cases hq
      refine hr.mn fun b' e' g1 g2 g3 => ?_
      by_cases hle : b' ≤ e'
      · refine h.mn b' e' hle (by omega) (.inl ?_)
        by_cases hs : e' - b' = size
        · exact absurd (by rw [show b' = beg by omega, show e' = beg + size by omega]) g3
        · omega
      · intro n c hD
        exact absurd hD.le hle
    · have hne : ¬ (e - b = size ∧ b = beg) := fun q => hq (by rw [show b = beg by omega, show e = beg + size by omega])
      intro n c hD
      rw [hr.elsewhere (n, b, e) hq]
      exact h.mn b e h1 h2 (by omega) n c hD
  · by_cases hq : (b, e) = (beg, beg + size)
    · cases hq; exact hb
    · rw [hr.elsewhere (n, b, e) hq] at hk
      exact h.within n b e hk
  · have h1 := hr.len
    have h2 := cnt_le rs beg (beg + size) es
    have h3 := h.len
    have : (size * 41 + (beg + 1)) * 40 = (size * 41 + beg) * 40 + 40 := by omega
    omega
theorem TabI.turn {rs : List Rl} {t : List Nat} {size : Nat} {es : Tb} (h : TabI rs t size (t.length - size + 1) es) (hs : size ≤ t.length) (ht : t.length ≤ 40) : TabI rs t (size + 1) 0 es := by
  refine ⟨h.nd, h.snd, fun b e h1 h2 h3 => h.mn b e h1 h2 (by omega), h.within, ?_⟩
  have := h.len
  omega
theorem TabI.ok {rs : List Rl} {t : List Nat} {es : Tb} (h : TabI rs t (t.length + 1) 0 es) : TabOk rs t es :=
  ⟨h.nd, h.snd, fun b e h1 h2 => h.mn b e h1 h2 (by omega), h.within⟩
/-- every name is productive -/
def AllPro (rs : List Rl) : Prop := ∀ n ∈ namesOf rs, Pro rs n
theorem TabOk.get {rs : List Rl} {t : List Nat} {es : Tb} (h : TabOk rs t es) (hp : AllPro rs) {n : Name} {b e : Nat} (hn : n ∈ namesOf rs) (hb : b ≤ e) (he : e ≤ t.length) : ∃ c, tat es (n, b, e) = some c ∧ Der rs t n b e c ∧ ∀ c', Der rs t n b e c' → c ≤ c' := by
  obtain ⟨c0, h0⟩ := (hp n hn).der t b e hb
  obtain ⟨c, h1, _⟩ := h.mn b e hb he n c0 h0
  refine ⟨c, h1, h.snd _ _ _ _ h1, fun c' hD => ?_⟩
  obtain ⟨c2, h2, h3⟩ := h.mn b e hb he n c' hD
  rw [h1] at h2; cases h2
  exact h3


/-! ### leaf_cost -/
theorem cut_nat {α : Type} {l : List α} {b e : Nat} (h1 : b ≤ e) (h2 : e ≤ l.length) : cut l (some ((b : Nat) : Int)) (some ((e : Nat) : Int)) = (l.drop b).take (e - b) := by
  unfold cut
  rw [HT.sIx_nat, HT.sIx_nat, Nat.min_eq_left h2, Nat.min_eq_left (Nat.le_trans h1 h2)]
def phi_leaf_cost (_ : ErA) : Phi := fun ds Q _ => ∃ (s : Nat) (t : List Nat) (b e : Nat), ds = [tx [s], tx t, .int ((b : Nat) : Int), .int ((e : Nat) : Int)] ∧ b ≤ e ∧ e ≤ t.length ∧ t.length ≤ 100000 ∧ Q (.sh (.int ((lc s t b e : Nat) : Int)))
theorem len_leaf_cost {C : ErA} : ∀ ds Q X, phi_leaf_cost C ds Q X → ds.length = 4 := fun ds Q X h => by
  obtain ⟨_, _, _, _, rfl, _⟩ := h; rfl
theorem c_leaf_cost {C : ErA} {s : Nat} {t : List Nat} {b e : Nat} {Q : R → Prop} {X : Value → Prop} (h1 : b ≤ e) (h2 : e ≤ t.length) (h3 : t.length ≤ 100000) (q : Q (.sh (.int ((lc s t b e : Nat) : Int)))) : phi_leaf_cost C [tx [s], tx t, .int ((b : Nat) : Int), .int ((e : Nat) : Int)] Q X := ⟨_, _, _, _, rfl, h1, h2, h3, q⟩
/-! ### rule_cost -/
theorem b_nN {P Q : Prop} (h : P) : (isN .non = true → P) ∧ (isN .non = false → Q) := ⟨fun _ => h, fun e => Bool.noConfusion e⟩
theorem b_nI {c : Int} {P Q : Prop} (h : Q) : (isN (.int c) = true → P) ∧ (isN (.int c) = false → Q) := ⟨fun e => Bool.noConfusion e, fun _ => h⟩
theorem b_nU {c : List D} {P Q : Prop} (h : Q) : (isN (.tup c) = true → P) ∧ (isN (.tup c) = false → Q) := ⟨fun e => Bool.noConfusion e, fun _ => h⟩
theorem b_nS {c : Str} {P Q : Prop} (h : Q) : (isN (.str c) = true → P) ∧ (isN (.str c) = false → Q) := ⟨fun e => Bool.noConfusion e, fun _ => h⟩
local macro_rules | `(tactic| walk_at "w") => `(tactic| with_reducible refine' b_nN ?_)
local macro_rules | `(tactic| walk_at "w") => `(tactic| with_reducible refine' b_nI ?_)
local macro_rules | `(tactic| walk_at "w") => `(tactic| with_reducible refine' b_nU ?_)
local macro_rules | `(tactic| walk_at "w") => `(tactic| with_reducible refine' b_nS ?_)
def oD : Option Nat → D
  | none => .non
  | some c => .int ((c : Nat) : Int)
theorem oD_v (o : Option Nat) : vD ((o.map fun c => V.int ((c : Nat) : Int)).getD .non) = some (oD o) := by
  cases o <;> rfl
theorem look_enc (es : Tb) (n : Name) (b e : Nat) : look (.t (enc es)) (.tup [tx n, .int ((b : Nat) : Int), .int ((e : Nat) : Int)]) = some ((tat es (n, b, e)).map fun c => V.int ((c : Nat) : Int)) := by
  show some (valV (enc es) (kK (n, b, e))) = _
  rw [valV_enc]
def phi_rule_cost (_ : ErA) : Phi := fun ds Q _ => ∃ (es : Tb) (r : Rl) (t : List Nat) (b e : Nat), ds = [.dT (enc es), ruleD r, tx t, .int ((b : Nat) : Int), .int ((e : Nat) : Int)] ∧ b ≤ e ∧ e ≤ t.length ∧ t.length ≤ 100000 ∧ Q (.sh (oD (rcost es t b e r)))
theorem len_rule_cost {C : ErA} : ∀ ds Q X, phi_rule_cost C ds Q X → ds.length = 5 := fun ds Q X h => by
  obtain ⟨_, _, _, _, _, rfl, _⟩ := h; rfl
theorem c_rule_cost {C : ErA} {es : Tb} {r : Rl} {t : List Nat} {b e : Nat} {Q : R → Prop} {X : Value → Prop} (h1 : b ≤ e) (h2 : e ≤ t.length) (h3 : t.length ≤ 100000) (q : Q (.sh (oD (rcost es t b e r)))) : phi_rule_cost C [.dT (enc es), ruleD r, tx t, .int ((b : Nat) : Int), .int ((e : Nat) : Int)] Q X := ⟨_, _, _, _, _, rfl, h1, h2, h3, q⟩
/-! ### fill -/
theorem u_ixR {K : PySem.W.Frag} {Z : Ec} {G : Sl} {Q : R → Sl → Prop} {r : Rl} (q : Q (.sh (tx r.nm)) G) : wR K Z (rIx K) (.sh (ruleD r)) (.sh (.int 0)) G Q := by
  obtain ⟨ds, e1, e2⟩ := ruleD_0 r
  rw [e1]
  exact u_ixT e2 q
theorem flat_oD (o : Option Nat) : (oD o).flat = true := by cases o <;> rfl
def phi_fill (_ : ErA) : PhiM := fun m0 ds M => ∃ (rs : List Rl) (t : List Nat) (b e m : Nat) (es es' : Tb), m0 = .dT (enc es) ∧ ds = [.lst (rsD rs), tx t, .int ((b : Nat) : Int), .int ((e : Nat) : Int)] ∧ b ≤ e ∧ e ≤ t.length ∧ t.length ≤ 100000 ∧ rs.length ≤ 100000 ∧ es.length + rs.length ≤ 1000000 ∧ Runs rs t b e es m es' ∧ M (.dT (enc es'))
theorem len_fill {C : ErA} : ∀ m ds M, phi_fill C m ds M → ds.length + 1 = 5 := fun m ds M h => by
  obtain ⟨_, _, _, _, _, _, _, _, rfl, _⟩ := h; rfl
theorem c_fill {C : ErA} {rs : List Rl} {t : List Nat} {b e m : Nat} {B E : Int} {es es' : Tb} {M : Mo → Prop} (hB : B = ((b : Nat) : Int)) (hE : E = ((e : Nat) : Int)) (h1 : b ≤ e) (h2 : e ≤ t.length) (h3 : t.length ≤ 100000) (h4 : rs.length ≤ 100000) (h5 : es.length + rs.length ≤ 1000000) (hr : Runs rs t b e es m es') (q : M (.dT (enc es'))) : phi_fill C (.dT (enc es)) [.lst (rsD rs), tx t, .int B, .int E] M := by
  subst hB; subst hE
  exact ⟨_, _, _, _, _, _, _, rfl, rfl, h1, h2, h3, h4, h5, hr, q⟩
/-! ### table_of -/
theorem wS_dropC {K : PySem.W.Frag} {Z : Ec} {G : Sl} {P : Po} {sp : Sp} {dvs : List V} {E' : XK} {ta : TA} (h : wE K Z (tCall sp dvs E' ta) G fun r G1 => P.nx G1) : wS K Z (tDrop (tCall sp dvs E' ta)) G P := wS_drop h
local macro_rules | `(tactic| walk_at "w") => `(tactic| with_reducible refine' PL.wS_dropC ?_)
local macro_rules | `(tactic| walk_at "w") => `(tactic| with_reducible refine' PL.wE_callM ?_)
def phi_table_of (_ : ErA) : Phi := fun ds Q _ => ∃ (rs : List Rl) (t : List Nat), ds = [.lst (rsD rs), tx t] ∧ rs.length ≤ 40 ∧ t.length ≤ 40 ∧ ∀ a es, TabOk rs t es → Q (.ow a (.dT (enc es)))
theorem len_table_of {C : ErA} : ∀ ds Q X, phi_table_of C ds Q X → ds.length = 2 := fun ds Q X h => by
  obtain ⟨_, _, rfl, _⟩ := h; rfl
theorem c_table_of {C : ErA} {rs : List Rl} {t : List Nat} {Q : R → Prop} {X : Value → Prop} (h1 : rs.length ≤ 40) (h2 : t.length ≤ 40) (q : ∀ a es, TabOk rs t es → Q (.ow a (.dT (enc es)))) : phi_table_of C [.lst (rsD rs), tx t] Q X := ⟨_, _, rfl, h1, h2, q⟩
/-! ### what is refused -/
def DueR (C : ErA) (l : List D) (X : Value → Prop) (P : List Rl → Prop) : Prop := (BadR l → X (.ref C.rule)) ∧
  ∀ rs, l = rsD rs → GoodR rs → (Missing rs → X (.ref C.name)) ∧ (¬ Missing rs → Unpro rs → X (.ref C.endless)) ∧ (¬ Missing rs → ¬ Unpro rs → P rs)
theorem DueR.mono {C : ErA} {l : List D} {X : Value → Prop} {P P' : List Rl → Prop} (h : DueR C l X P) (k : ∀ rs, l = rsD rs → GoodR rs → ¬ Missing rs → ¬ Unpro rs → P rs → P' rs) : DueR C l X P' :=
  ⟨h.1, fun rs e g => ⟨(h.2 rs e g).1, (h.2 rs e g).2.1, fun m u => k rs e g m u ((h.2 rs e g).2.2 m u)⟩⟩
theorem c_need_rules {C : ErA} {l : List D} {Q : R → Prop} {X : Value → Prop} (h1 : ∀ d ∈ l, RuleP d) (h2 : l.length ≤ 100000) (q : DueR C l X fun _ => ∀ a, Q (.ow a (.lst l))) : phi_need_rules C [.lst l] Q X := ⟨l, rfl, h1, h2, q⟩
theorem unpro_all {rs : List Rl} (h : ¬ Unpro rs) : AllPro rs := fun n hn => Classical.byContradiction fun hp => h ⟨n, hn, hp⟩
theorem namesOf_nodup (rs : List Rl) : (namesOf rs).Nodup := by
  have : ∀ (l : List Rl) (acc : List Name), acc.Nodup → (l.foldl (fun acc r => if r.nm ∈ acc then acc else acc ++ [r.nm]) acc).Nodup := by
    intro l
    induction l with
    | nil => intro acc h; exact h
    | cons r l ih =>
      intro acc h
      rw [List.foldl_cons]
      refine ih _ ?_
      split
      · exact h
      · rename_i hn
        rw [List.nodup_append]
        refine ⟨h, by simp, fun x hx y hy e => ?_⟩
        cases List.mem_singleton.mp hy
        exact hn (e ▸ hx)
  exact this rs [] List.nodup_nil
/-! ### shortest -/
def encS (ns : List Name) (f : Name → Nat) : List (Key × V) := ns.map fun n => ((.inr (mk n) : Key), V.int ((f n : Nat) : Int))
theorem keyN_inj {m n : Name} : (Sum.inr (mk m) : Key) = Sum.inr (mk n) ↔ m = n := by
  rw [Sum.inr.injEq]; exact mk_inj
theorem valV_encS (f : Name → Nat) (n : Name) : ∀ ns : List Name, valV (encS ns f) (.inr (mk n)) = if n ∈ ns then some (V.int ((f n : Nat) : Int)) else none
  | [] => rfl
  | m :: ns => by
    show valV ((.inr (mk m), V.int _) :: encS ns f) _ = _
    by_cases h : m = n
    · subst h
      rw [valV_pos rfl, if_pos List.mem_cons_self]
    · rw [valV_neg (fun e => h (keyN_inj.mp e)), valV_encS f n ns]
      have : n ∈ m :: ns ↔ n ∈ ns := by
        rw [List.mem_cons]
        exact or_iff_right (fun e => h e.symm)
      by_cases h2 : n ∈ ns
      · rw [if_pos h2, if_pos (this.mpr h2)]
      · rw [if_neg h2, if_neg (fun e => h2 (this.mp e))]
theorem putK_encS {ns : List Name} {n : Name} (f : Name → Nat) (h : n ∉ ns) : putK (encS ns f) (.inr (mk n)) (V.int ((f n : Nat) : Int)) = encS (ns ++ [n]) f := by
  rw [putK_new _ (by rw [valV_encS, if_neg h])]
  unfold encS
  rw [List.map_append]; rfl
def Least0 (rs : List Rl) (f : Name → Nat) : Prop := ∀ n ∈ namesOf rs, Der rs [] n 0 0 (f n) ∧ ∀ c, Der rs [] n 0 0 c → f n ≤ c
def phi_shortest (C : ErA) : Phi := fun ds Q X => ∃ l, ds = [.lst l] ∧ (∀ d ∈ l, RuleP d) ∧ l.length ≤ 100000 ∧ DueR C l X fun rs => ∀ a f, Least0 rs f → Q (.ow a (.dK (encS (namesOf rs) f)))
theorem len_shortest {C : ErA} : ∀ ds Q X, phi_shortest C ds Q X → ds.length = 1 := fun ds Q X h => by
  obtain ⟨_, rfl, _⟩ := h; rfl
theorem c_shortest {C : ErA} {l : List D} {Q : R → Prop} {X : Value → Prop} (h1 : ∀ d ∈ l, RuleP d) (h2 : l.length ≤ 100000) (q : DueR C l X fun rs => ∀ a f, Least0 rs f → Q (.ow a (.dK (encS (namesOf rs) f)))) : phi_shortest C [.lst l] Q X := ⟨l, rfl, h1, h2, q⟩
/-! ### the script's cells -/
def cell (ns : List Int) (i : Int) : Int := ns[i.toNat]?.getD 0
def phi_l_at (_ : ErA) : Phi := fun ds Q _ => ∃ ns i, ds = [.scr ns, .int i] ∧ 0 ≤ i ∧ Q (.sh (.int (cell ns i)))
theorem len_l_at {C : ErA} : ∀ ds Q X, phi_l_at C ds Q X → ds.length = 2 := fun ds Q X h => by
  obtain ⟨ns, i, rfl, _⟩ := h; rfl
theorem c_l_at {C : ErA} {ns : List Int} {i : Int} {Q : R → Prop} {X : Value → Prop} (hp : 0 ≤ i) (q : Q (.sh (.int (cell ns i)))) : phi_l_at C [.scr ns, .int i] Q X := ⟨ns, i, rfl, hp, q⟩
local macro_rules | `(tactic| walk_at "w") => `(tactic| ((with_reducible refine' c_l_at ?p ⟨Or.inl rfl, ?_⟩); (case p => first | decide | omega)))
abbrev N_l_at : List Str := ["_law_script", "_law_place"]
def t_l_at (K : PySem.W.Frag) (C : ErA) : TS :=
  tSeq (tIfS (tTest (tOp (rI0 fun i j => .bl (decide (j ≤ i))) (tVar 1) (tCB (cLen K) (tCons (tVar 0) tNil)))) (tRet (tC (.int 0))) tNext) (tRet (tOp (rIx K) (tVar 0) (tVar 1)))
theorem w_l_at {K : PySem.W.Frag} {C : ErA} : ∀ ds Q X, phi_l_at C ds Q X → ∀ E, wS K ⟨E, X⟩ (t_l_at K C) (G0 ["_law_script", "_law_place"] ds) (PoQ Q) := by
  intro ds Q X h E
  obtain ⟨ns, i, rfl, hp, q⟩ := h
  show wS K _ (t_l_at K C) [.sh (.scr ns), .sh (.int i)] _
  unfold t_l_at
  walk_at "wgo"
  · rename_i h
    refine q_sh q ?_
    unfold cell
    rw [List.getElem?_eq_none (by omega)]
    rfl
  · rename_i h
    have hi : i.toNat < ns.length := by omega
    refine u_ixC (atI_at hp (List.getElem?_eq_getElem hi)) ?_
    refine rt_sh (q_sh q ?_)
    unfold cell
    rw [List.getElem?_eq_getElem hi]
    rfl


/-! ### words -/
local macro_rules | `(tactic| walk_at "w") => `(tactic| with_reducible refine' PL.wS_par ?_)
local macro_rules | `(tactic| walk_at "w") => `(tactic| first | (with_reducible refine ⟨_, _, rfl, rfl, rfl, ?_⟩) | fail)
theorem cut_lenG {α : Type} (l : List α) (lo hi : Option Int) : (cut l lo hi).length ≤ l.length := by
  unfold cut
  rw [List.length_take, List.length_drop]
  omega
theorem cut_mem {α : Type} {l : List α} {lo hi : Option Int} {x : α} (h : x ∈ cut l lo hi) : x ∈ l := List.mem_of_mem_drop (List.mem_of_mem_take h)
def ltr (i : Int) : Nat := lettersL.getD i.toNat 0
theorem ltr_mem (x : Int) : ltr (x.fmod 26) ∈ lettersL := by
  have h := fmod_rng x (n := 26) (by decide)
  exact getD_mem 0 (by show _ < 26; omega)
def wSize (c : Int) : Int := 1 + (c.fdiv 26).fmod 12
def wBase (c : Int) : List Nat := (List.range (wSize c).toNat).map fun j : Nat => ltr ((c + 3 * (j : Int)).fmod 26)
def wAt (c : Int) : Int := (c.fdiv 312).fmod (wSize c)
def wordL (c k : Int) : List Nat := cut (wBase c) none (some (wAt c)) ++ [ltr ((c + 7 * k).fmod 26)] ++ cut (wBase c) (some (wAt c + 1)) none
theorem wSize_rng (c : Int) : 1 ≤ wSize c ∧ wSize c ≤ 12 := by
  have h := fmod_rng (c.fdiv 26) (n := 12) (by decide)
  unfold wSize; omega
theorem wAt_rng (c : Int) : 0 ≤ wAt c ∧ wAt c < wSize c := fmod_rng _ (by have := wSize_rng c; omega)
theorem wBase_len (c : Int) : (wBase c).length = (wSize c).toNat := by
  unfold wBase
  rw [List.length_map, List.length_range]
theorem cut_hi {α : Type} {l : List α} {b : Nat} (h : b ≤ l.length) : cut l none (some ((b : Nat) : Int)) = l.take b := by
  unfold cut
  rw [HT.sIx_nat, HT.sIx_none, Nat.min_eq_left h, List.drop_zero]; rfl
theorem cut_lo {α : Type} {l : List α} {b : Nat} (h : b ≤ l.length) : cut l (some ((b : Nat) : Int)) none = l.drop b := by
  unfold cut
  rw [HT.sIx_nat, HT.sIx_none, Nat.min_eq_left h]
  exact List.take_of_length_le (by rw [List.length_drop]; exact Nat.le_refl _)
theorem wordL_len (c k : Int) : (wordL c k).length = (wSize c).toNat := by
  have h1 := wSize_rng c
  have h2 := wAt_rng c
  have e1 : wAt c = (((wAt c).toNat : Nat) : Int) := by omega
  have e2 : wAt c + 1 = (((wAt c).toNat + 1 : Nat) : Int) := by omega
  have hl := wBase_len c
  unfold wordL
  rw [e2, cut_lo (by omega)]
  rw [show cut (wBase c) none (some (wAt c)) = cut (wBase c) none (some (((wAt c).toNat : Nat) : Int)) from by rw [← e1], cut_hi (by omega)]
  simp only [List.length_append, List.length_take, List.length_drop, List.length_cons, List.length_nil]
  omega
theorem wordL_mem {c k : Int} {x : Nat} (h : x ∈ wordL c k) : x ∈ lettersL := by
  have hb : ∀ x ∈ wBase c, x ∈ lettersL := fun x hx => by
    obtain ⟨j, _, rfl⟩ := List.mem_map.mp hx
    exact ltr_mem _
  unfold wordL at h
  rcases List.mem_append.mp h with h | h
  · rcases List.mem_append.mp h with h | h
    · exact hb x (cut_mem h)
    · cases List.mem_singleton.mp h
      exact ltr_mem _
  · exact hb x (cut_mem h)
theorem isName_of {l : List Nat} (h0 : 0 < l.length) (h1 : l.length ≤ 12) (h : ∀ x ∈ l, x ∈ lettersL) : isNameL l = true := by
  unfold isNameL
  rw [decide_eq_true h0, decide_eq_true h1, Bool.true_and, Bool.true_and, List.all_eq_true]
  exact fun x hx => decide_eq_true (h x hx)
theorem wordL_name (c k : Int) : isNameL (wordL c k) = true := by
  have h1 := wSize_rng c
  have h2 := wordL_len c k
  exact isName_of (by omega) (by omega) fun x hx => wordL_mem hx
def phi_l_word (_ : ErA) : Phi := fun ds Q _ => ∃ c k : Int, ds = [.int c, .int k] ∧ Q (.sh (tx (wordL c k)))
theorem len_l_word {C : ErA} : ∀ ds Q X, phi_l_word C ds Q X → ds.length = 2 := fun ds Q X h => by
  obtain ⟨_, _, rfl, _⟩ := h; rfl
theorem c_l_word {C : ErA} {c k : Int} {Q : R → Prop} {X : Value → Prop} (q : Q (.sh (tx (wordL c k)))) : phi_l_word C [.int c, .int k] Q X := ⟨c, k, rfl, q⟩
/-! ### grammars put together -/
structure Gram (rs : List Rl) : Prop where
  good : GoodR rs
  miss : ¬ Missing rs
  pro : AllPro rs
def InN (ns : List Name) : Rl → Prop
  | .sg n _ => n ∈ ns
  | .fk n a b => n ∈ ns ∧ a ∈ ns ∧ b ∈ ns
/-- the first j names have a rule of a sign, or of names ahead of them -/
structure Built (ns : List Name) (j : Nat) (rs : List Rl) : Prop where
  ok : ∀ r ∈ rs, r.ok = true
  inn : ∀ r ∈ rs, InN ns r
  base : ∀ k n, k < j → ns[k]? = some n → ∃ r ∈ rs, r.nm = n ∧ InN (n :: ns.take k) r ∧ ∀ a b, r = .fk n a b → a ∈ ns.take k ∧ b ∈ ns.take k
theorem Built.start (ns : List Name) : Built ns 0 [] := ⟨(by intro r h; cases h), (by intro r h; cases h), fun k n h => (by omega)⟩
theorem Built.more {ns : List Name} {j : Nat} {rs : List Rl} (h : Built ns j rs) {r : Rl} (h1 : r.ok = true) (h2 : InN ns r) : Built ns j (rs ++ [r]) := by
  refine ⟨fun x hx => ?_, fun x hx => ?_, fun k n hk hn => ?_⟩
  · rcases List.mem_append.mp hx with hx | hx
    · exact h.ok x hx
    · cases List.mem_singleton.mp hx; exact h1
  · rcases List.mem_append.mp hx with hx | hx
    · exact h.inn x hx
    · cases List.mem_singleton.mp hx; exact h2
  · obtain ⟨x, hx, e⟩ := h.base k n hk hn
    exact ⟨x, List.mem_append_left _ hx, e⟩
theorem Built.sg {ns : List Name} {j : Nat} {rs : List Rl} (h : Built ns j rs) {n : Name} {s : Nat} (hn : ns[j]? = some n) (h1 : isNameL n = true) (h2 : s ∈ signsL) : Built ns (j + 1) (rs ++ [.sg n s]) := by
  have hm := h.more (r := .sg n s) (by show (_ && _) = true; rw [h1, decide_eq_true h2]; rfl) (List.mem_of_getElem? hn)
  refine ⟨hm.ok, hm.inn, fun k m hk hm' => ?_⟩
  by_cases e : k = j
  · subst e
    rw [hn] at hm'; cases hm'
    exact ⟨.sg n s, List.mem_append_right _ List.mem_cons_self, rfl, List.mem_cons_self, fun a b e => by cases e⟩
  · exact hm.base k m (by omega) hm'
theorem Built.fk {ns : List Name} {j i1 i2 : Nat} {rs : List Rl} (h : Built ns j rs) {n a b : Name} (hn : ns[j]? = some n) (ha : ns[i1]? = some a) (hb : ns[i2]? = some b) (l1 : i1 < j) (l2 : i2 < j) (hok : ∀ x ∈ ns, isNameL x = true) : Built ns (j + 1) (rs ++ [.fk n a b]) := by
  have m0 := List.mem_of_getElem? hn
  have m1 := List.mem_of_getElem? ha
  have m2 := List.mem_of_getElem? hb
  have hm := h.more (r := .fk n a b) (by show (_ && (_ && _)) = true; rw [hok n m0, hok a m1, hok b m2]; rfl) ⟨m0, m1, m2⟩
  have t : ∀ {i : Nat} {x : Name}, ns[i]? = some x → i < j → x ∈ ns.take j := fun {i x} e l => by
    refine List.mem_of_getElem? (i := i) ?_
    rw [List.getElem?_take_of_lt l]; exact e
  refine ⟨hm.ok, hm.inn, fun k m hk hm' => ?_⟩
  by_cases e : k = j
  · subst e
    rw [hn] at hm'; cases hm'
    refine ⟨.fk n a b, List.mem_append_right _ List.mem_cons_self, rfl, ⟨List.mem_cons_self, List.mem_cons_of_mem _ (t ha l1), List.mem_cons_of_mem _ (t hb l2)⟩, fun a' b' e => ?_⟩
    cases e
    exact ⟨t ha l1, t hb l2⟩
  · exact hm.base k m (by omega) hm'
theorem Built.perm {ns : List Name} {j : Nat} {rs rs' : List Rl} (h : Built ns j rs) (hp : ∀ r, r ∈ rs' ↔ r ∈ rs) : Built ns j rs' :=
  ⟨fun r hr => h.ok r ((hp r).mp hr), fun r hr => h.inn r ((hp r).mp hr), fun k n hk hn => by
    obtain ⟨r, hr, e⟩ := h.base k n hk hn
    exact ⟨r, (hp r).mpr hr, e⟩⟩
theorem Built.rev {ns : List Name} {j : Nat} {rs : List Rl} (h : Built ns j rs) : Built ns j rs.reverse := h.perm fun _ => List.mem_reverse
theorem Built.pro {ns : List Name} {rs : List Rl} (h : Built ns ns.length rs) : ∀ (k : Nat) (n : Name), ns[k]? = some n → Pro rs n := fun k => by
  induction k using Nat.strongRecOn with
  | ind k ih =>
    intro n hn
    obtain ⟨r, hr, e1, e2, e3⟩ := h.base k n (List.getElem?_eq_some_iff.mp hn).1 hn
    cases r with
    | sg m s => cases e1; exact .sg hr
    | fk m a b =>
      cases e1
      obtain ⟨h1, h2⟩ := e3 a b rfl
      have t : ∀ x, x ∈ ns.take k → Pro rs x := fun x hx => by
        obtain ⟨i, hi, e⟩ := List.mem_iff_getElem.mp hx
        rw [List.length_take] at hi
        rw [List.getElem_take] at e
        exact ih i (by omega) x (List.getElem?_eq_some_iff.mpr ⟨by omega, e⟩)
      exact .fk hr (t a h1) (t b h2)
theorem Built.gram {ns : List Name} {rs : List Rl} (h : Built ns ns.length rs) (h0 : 0 < ns.length) (hl : rs.length ≤ 40) : Gram rs := by
  have hp : ∀ n ∈ ns, Pro rs n := fun n hn => by
    obtain ⟨i, hi⟩ := List.mem_iff_getElem?.mp hn
    exact h.pro i n hi
  have hin : ∀ n ∈ ns, n ∈ namesOf rs := fun n hn => by
    obtain ⟨i, hi⟩ := List.mem_iff_getElem?.mp hn
    obtain ⟨r, hr, e, _⟩ := h.base i n (List.getElem?_eq_some_iff.mp hi).1 hi
    exact (mem_namesOf rs n).mpr ⟨r, hr, e⟩
  refine ⟨⟨fun e => ?_, hl, h.ok⟩, ?_, fun n hn => ?_⟩
  · have hm : ns[0] ∈ ns := List.getElem_mem h0
    obtain ⟨r, hr, _⟩ := (mem_namesOf rs _).mp (hin _ hm)
    rw [e] at hr; cases hr
  · rintro ⟨n, a, b, hm, hx⟩
    obtain ⟨_, h1, h2⟩ := h.inn _ hm
    rcases hx with hx | hx
    · exact hx (hin _ h1)
    · exact hx (hin _ h2)
  · obtain ⟨r, hr, e⟩ := (mem_namesOf rs n).mp hn
    refine hp n ?_
    have := h.inn r hr
    cases r with
    | sg m s => cases e; exact this
    | fk m a b => cases e; exact this.1
/-! #### a good grammar is let through -/
theorem ok_plain {r : Rl} (h : r.ok = true) : RuleP (ruleD r) := by
  have nm : ∀ n : Name, isNameL n = true → Plain (tx n) := fun n hn => by
    unfold isNameL at hn
    simp only [Bool.and_eq_true, decide_eq_true_eq, List.all_eq_true] at hn
    refine .inl ⟨n, rfl, by omega, fun c hc => ?_⟩
    have := hn.2 c hc
    unfold lettersL at this
    simp at this
    omega
  have sg : ∀ s : Nat, s ∈ signsL → Plain (tx [s]) := fun s hs => by
    refine .inl ⟨[s], rfl, Nat.le_trans (Nat.le_refl 1) (by decide), fun c hc => ?_⟩
    cases List.mem_singleton.mp hc
    have : ∀ c ∈ signsL, c < 1114112 := by decide +kernel
    exact this s hs
  cases r with
  | sg n s =>
    have h := Bool.and_eq_true_iff.mp h
    refine ⟨.inr ⟨fun e => absurd e (show "tuple" ≠ "str" by decide), rfl⟩, fun ds e x hx => ?_⟩
    cases e
    simp only [List.mem_cons, List.not_mem_nil, or_false] at hx
    rcases hx with rfl | rfl
    · exact nm n h.1
    · exact sg s (of_decide_eq_true h.2)
  | fk n a b =>
    have h := Bool.and_eq_true_iff.mp h
    have h2 := Bool.and_eq_true_iff.mp h.2
    refine ⟨.inr ⟨fun e => absurd e (show "tuple" ≠ "str" by decide), rfl⟩, fun ds e x hx => ?_⟩
    cases e
    simp only [List.mem_cons, List.not_mem_nil, or_false] at hx
    rcases hx with rfl | rfl | rfl
    · exact nm n h.1
    · exact nm a h2.1
    · exact nm b h2.2
theorem ok_isRule {r : Rl} (h : r.ok = true) : isRuleD (ruleD r) = true := by
  cases r with
  | sg n s =>
    have h := Bool.and_eq_true_iff.mp h
    show (isNameL n && decide (s ∈ signsL)) = true
    rw [h.1, h.2]; rfl
  | fk n a b =>
    have h := Bool.and_eq_true_iff.mp h
    have h2 := Bool.and_eq_true_iff.mp h.2
    show (isNameL n && (isNameL a && isNameL b)) = true
    rw [h.1, h2.1, h2.2]; rfl
theorem tx_inj {l m : List Nat} (h : tx l = tx m) : l = m := by
  cases h; rfl
theorem ruleD_inj {r r' : Rl} (h : ruleD r = ruleD r') : r = r' := by
  cases r <;> cases r' <;> simp only [ruleD, D.tup.injEq, List.cons.injEq, and_true, reduceCtorEq, and_false] at h
  · obtain ⟨h1, h2⟩ := h
    cases tx_inj h1
    cases tx_inj h2
    rfl
  · obtain ⟨h1, h2, h3⟩ := h
    cases tx_inj h1
    cases tx_inj h2
    cases tx_inj h3
    rfl
theorem rsD_inj : ∀ {rs rs' : List Rl}, rsD rs = rsD rs' → rs = rs'
  | [], [], _ => rfl
  | [], _ :: _, h => by cases h
  | _ :: _, [], h => by cases h
  | r :: rs, r' :: rs', h => by
    have h : ruleD r :: rsD rs = ruleD r' :: rsD rs' := h
    rw [List.cons.injEq] at h
    rw [ruleD_inj h.1, rsD_inj h.2]
theorem Gram.due {C : ErA} {rs : List Rl} (h : Gram rs) {X : Value → Prop} {P : List Rl → Prop} (p : P rs) : DueR C (rsD rs) X P := by
  refine ⟨fun hb => ?_, fun rs' e hg => ?_⟩
  · exfalso
    rcases hb with hb | hb | ⟨d, hd, hb⟩
    · exact h.good.ne (by cases rs with | nil => rfl | cons r rs => cases hb)
    · rw [List.length_map] at hb
      have := h.good.le; omega
    · obtain ⟨r, hr, rfl⟩ := List.mem_map.mp hd
      rw [ok_isRule (h.good.ok r hr)] at hb
      cases hb
  · cases rsD_inj e
    exact ⟨fun m => absurd m h.miss, fun _ ⟨n, h1, h2⟩ => absurd (h.pro n h1) h2, fun _ _ => p⟩
theorem Gram.plain {rs : List Rl} (h : Gram rs) : ∀ d ∈ rsD rs, RuleP d := fun d hd => by
  obtain ⟨r, hr, rfl⟩ := List.mem_map.mp hd
  exact ok_plain (h.good.ok r hr)


/-! ### slots that hold no object -/
def notOw (s : Slot) : Prop := ∀ a m, s ≠ .ow a m
theorem notOw_no : notOw .no := fun a m e => by cases e
theorem notOw_sh (d : D) : notOw (.sh d) := fun a m e => by cases e
theorem keepOw_v {s t : Slot} {r u : Sl} (h : notOw s) (k : keepOw r u) : keepOw (s :: r) (t :: u) := by
  cases s with
  | no => exact k
  | sh d => exact k
  | ow a m => exact absurd rfl (h a m)
theorem keepOw_same {s : Slot} {r u : Sl} (k : keepOw r u) : keepOw (s :: r) (s :: u) := by
  cases s with
  | no => exact k
  | sh d => exact k
  | ow a m => exact ⟨rfl, k⟩
local macro_rules | `(tactic| walk_at "kv") => `(tactic| first | exact True.intro | (refine keepOw_same ?_; walk_at "kv") | (refine keepOw_v (by first | assumption | exact notOw_sh _ | exact notOw_no) ?_; walk_at "kv"))

/-! ### items at remainders -/
theorem kit_ib : kitB "int" "bool" = some false := by decide +kernel
theorem kit_bi : kitB "bool" "int" = some true := by decide +kernel
theorem wC_isiIB {K : PySem.W.Frag} {Z : Ec} {G : Sl} {Q : R → Sl → Prop} {i : Int} (q : Q (.sh (.bl false)) G) : wC K Z (rIsi K) [.sh (.int i), .sh (.ty "bool")] G Q := wC_isi rfl rfl kit_ib q
theorem wC_isiBI {K : PySem.W.Frag} {Z : Ec} {G : Sl} {Q : R → Sl → Prop} {i : Bool} (q : Q (.sh (.bl true)) G) : wC K Z (rIsi K) [.sh (.bl i), .sh (.ty "int")] G Q := wC_isi rfl rfl kit_bi q
local macro_rules | `(tactic| walk_at "w") => `(tactic| with_reducible refine' PL.wC_isiIB ?_)
local macro_rules | `(tactic| walk_at "w") => `(tactic| with_reducible refine' PL.wC_isiBI ?_)
theorem ix_fm {nl : List Name} (x : Int) {k : Int} (h0 : 0 < k) (hk : k ≤ nl.length) : ∃ (i : Nat) (a : Name), nl[i]? = some a ∧ (i : Int) < k ∧ atI (nl.map tx) (x.fmod k) = some (tx a) := by
  have h := fmod_rng x h0
  have hi : (x.fmod k).toNat < nl.length := by omega
  refine ⟨(x.fmod k).toNat, nl[(x.fmod k).toNat], List.getElem?_eq_getElem hi, by omega, atI_at h.1 ?_⟩
  rw [List.getElem?_map, List.getElem?_eq_getElem hi]; rfl
theorem ix_nm {nl : List Name} {k : Nat} {n : Name} (h : nl[k]? = some n) : atI (nl.map tx) ((k : Nat) : Int) = some (tx n) := atI_nat (by rw [List.getElem?_map, h]; rfl)
theorem sgn_mem {l : List Nat} {i : Nat} (h : i < l.length) (hl : l.all (fun c => decide (c ∈ signsL)) = true) : l.getD i 0 ∈ signsL := by
  have := List.all_eq_true.mp hl _ (getD_mem 0 h)
  exact of_decide_eq_true this
def wordsL (c : Int) (n : Nat) : List Name := (List.range n).map fun j : Nat => wordL c (j : Int)
theorem wordsL_tx (c : Int) (n : Nat) : ((List.range n).map fun j : Nat => tx (wordL c (j : Int))) = (wordsL c n).map tx := by
  unfold wordsL
  rw [List.map_map]; rfl
theorem wordsL_len (c : Int) (n : Nat) : (wordsL c n).length = n := by
  unfold wordsL
  rw [List.length_map, List.length_range]
theorem wordsL_ok (c : Int) (n : Nat) : ∀ x ∈ wordsL c n, isNameL x = true := fun x hx => by
  obtain ⟨j, _, rfl⟩ := List.mem_map.mp hx
  exact wordL_name _ _
theorem rsD_snoc (rs : List Rl) (r : Rl) : rsD rs ++ [ruleD r] = rsD (rs ++ [r]) := by
  show _ = List.map ruleD (rs ++ [r])
  rw [List.map_append]; rfl
theorem rsD_sg (rs : List Rl) (n : Name) (s : Nat) : rsD rs ++ [.tup [tx n, tx [s]]] = rsD (rs ++ [.sg n s]) := rsD_snoc rs (.sg n s)
theorem rsD_fk (rs : List Rl) (n a b : Name) : rsD rs ++ [.tup [tx n, tx a, tx b]] = rsD (rs ++ [.fk n a b]) := rsD_snoc rs (.fk n a b)
theorem len1 {rs : List Rl} {r : Rl} {j : Nat} (h : rs.length = j) : (rs ++ [r]).length = j + 1 := by rw [List.length_append, h]; rfl
theorem len2 {rs : List Rl} {r : Rl} {j k : Nat} (h : rs.length ≤ k + j) : (rs ++ [r]).length ≤ k + (j + 1) := by rw [List.length_append, List.length_singleton]; omega
theorem Built.moreSg {ns : List Name} {j : Nat} {rs : List Rl} (h : Built ns j rs) {n : Name} {s : Nat} (h1 : n ∈ ns) (h2 : isNameL n = true) (h3 : s ∈ signsL) : Built ns j (rs ++ [.sg n s]) :=
  h.more (by show (_ && _) = true; rw [h2, decide_eq_true h3]; rfl) h1
theorem Built.moreFk {ns : List Name} {j : Nat} {rs : List Rl} (h : Built ns j rs) {n a b : Name} (h1 : n ∈ ns) (h2 : a ∈ ns) (h3 : b ∈ ns) (hok : ∀ x ∈ ns, isNameL x = true) : Built ns j (rs ++ [.fk n a b]) :=
  h.more (by show (_ && (_ && _)) = true; rw [hok n h1, hok a h2, hok b h3]; rfl) ⟨h1, h2, h3⟩
theorem rsD_rev (rs : List Rl) : (rsD rs).reverse = rsD rs.reverse := List.map_reverse.symm


/-! ### data -/
theorem Der.pos {rs : List Rl} {t : List Nat} {n : Name} {b e c : Nat} (h : Der rs t n b e c) : b = e → 1 ≤ c := by
  induction h with
  | sg _ _ =>
    intro h
    unfold lc
    rw [if_pos h]; exact Nat.le_refl _
  | fk _ d1 d2 i1 i2 =>
    intro h
    have := d1.le
    have := d2.le
    have := i1 (by omega)
    omega
theorem Der.inv {rs : List Rl} {t : List Nat} {n : Name} {b e c : Nat} (h : Der rs t n b e c) : (∃ s, Rl.sg n s ∈ rs ∧ b ≤ e ∧ c = lc s t b e) ∨ ∃ x y k c1 d1, Rl.fk n x y ∈ rs ∧ Der rs t x b k c1 ∧ Der rs t y k e d1 ∧ c = c1 + d1 := by
  cases h with
  | sg hm hle => exact .inl ⟨_, hm, hle, rfl⟩
  | fk hm d1 d2 => exact .inr ⟨_, _, _, _, _, hm, d1, d2, rfl⟩
theorem Gram.parts {rs : List Rl} (h : Gram rs) {n a b : Name} (hm : Rl.fk n a b ∈ rs) : a ∈ namesOf rs ∧ b ∈ namesOf rs := by
  refine ⟨Classical.byContradiction fun e => h.miss ⟨n, a, b, hm, .inl e⟩, Classical.byContradiction fun e => h.miss ⟨n, a, b, hm, .inr e⟩⟩
/-! #### data -/
theorem dat_name {n : Nat} {l : Name} (h : isNameL l = true) : dat n (tx l) = true := by
  unfold isNameL at h
  simp only [Bool.and_eq_true, decide_eq_true_eq, List.all_eq_true] at h
  have : (mk l).cps.all (· < 0x110000) = true := by
    simp only [Array.all_eq_true, mk]
    intro i hi
    have hm : l.toArray[i] ∈ l := by simp
    have := h.2 _ hm
    unfold lettersL at this
    simp at this
    simp; omega
  cases n <;> (unfold dat; exact this)
theorem dat_sign {n : Nat} {s : Nat} (h : s ∈ signsL) : dat n (tx [s]) = true := by
  have : ∀ c ∈ signsL, (mk [c]).cps.all (· < 0x110000) = true := by decide +kernel
  cases n <;> (unfold dat; exact this s h)
theorem dat_rule {n : Nat} {r : Rl} (h : r.ok = true) : dat (n + 1) (ruleD r) = true := by
  cases r with
  | sg m s =>
    have h := Bool.and_eq_true_iff.mp h
    show datA n [tx m, tx [s]] = true
    simp only [datA, dat_name h.1, dat_sign (of_decide_eq_true h.2), Bool.and_self]
  | fk m a b =>
    have h := Bool.and_eq_true_iff.mp h
    have h2 := Bool.and_eq_true_iff.mp h.2
    show datA n [tx m, tx a, tx b] = true
    simp only [datA, dat_name h.1, dat_name h2.1, dat_name h2.2, Bool.and_self]
theorem datA_map {α : Type} {n : Nat} {g : α → D} : ∀ {l : List α}, (∀ x ∈ l, dat n (g x) = true) → datA n (l.map g) = true
  | [], _ => by unfold List.map datA; rfl
  | x :: l, h => by
    show datA n (g x :: l.map g) = true
    unfold datA
    rw [h x List.mem_cons_self, datA_map (l := l) fun y hy => h y (List.mem_cons_of_mem _ hy)]; rfl
theorem noBA_map {α : Type} {g : α → D} : ∀ {l : List α}, (∀ x ∈ l, noB (g x) = true) → noBA (l.map g) = true
  | [], _ => by unfold List.map noBA; rfl
  | x :: l, h => by
    show noBA (g x :: l.map g) = true
    unfold noBA
    rw [h x List.mem_cons_self, noBA_map (l := l) fun y hy => h y (List.mem_cons_of_mem _ hy)]; rfl
theorem eqD_self {d : D} (h : noB d = true) : eqD d d = true := (eqD_iff d d h h).mpr rfl
theorem noB_rule (r : Rl) : noB (ruleD r) = true := by
  cases r <;> rfl
theorem datL_rs {rs : List Rl} (h : ∀ r ∈ rs, r.ok = true) : dat 64 (.lst (rsD rs)) = true := by
  unfold dat
  exact datA_map fun r hr => dat_rule (h r hr)
theorem noB_rs (rs : List Rl) : noB (.lst (rsD rs)) = true := by
  unfold noB
  exact noBA_map fun r _ => noB_rule r
theorem datL_tx {ls : List Name} (h : ∀ l ∈ ls, isNameL l = true) : dat 64 (.lst (ls.map tx)) = true := by
  unfold dat
  exact datA_map fun r hr => dat_name (h r hr)
theorem noB_tx (ls : List Name) : noB (.lst (ls.map tx)) = true := by
  unfold noB
  exact noBA_map fun _ _ => by unfold noB; rfl
theorem Gram.names {rs : List Rl} (h : Gram rs) : ∀ n ∈ namesOf rs, isNameL n = true := fun n hn => by
  obtain ⟨r, hr, e⟩ := (mem_namesOf rs n).mp hn
  have := h.good.ok r hr
  cases r with
  | sg m s => cases e; exact (Bool.and_eq_true_iff.mp this).1
  | fk m a b => cases e; exact (Bool.and_eq_true_iff.mp this).1
theorem keys_encS (ns : List Name) (f : Name → Nat) : (encS ns f).map (fun kv => dK1 kv.1) = ns.map tx := by
  unfold encS
  rw [List.map_map]; rfl
open Classical in
noncomputable def decR (g : Rl → Option D) (d : D) : Option D := if h : ∃ r, d = ruleD r then g h.choose else none
theorem decR_eq (g : Rl → Option D) (r : Rl) : decR g (ruleD r) = g r := by
  unfold decR
  have h : ∃ r', ruleD r = ruleD r' := ⟨r, rfl⟩
  rw [dif_pos h, ← ruleD_inj h.choose_spec]
theorem decR_map (g : Rl → Option D) (rs : List Rl) : (rsD rs).filterMap (decR g) = rs.filterMap g := by
  rw [List.filterMap_map]
  congr 1
  funext r
  exact decR_eq g r


/-! ### texts and trees, in plain Lean -/
structure GoodT (t : List Nat) : Prop where
  le : t.length ≤ 40
  ok : ∀ c ∈ t, c ∈ signsL
def DueT (C : ErA) (d : D) (X : Value → Prop) (P : List Nat → Prop) : Prop := ((¬ ∃ t, d = tx t ∧ GoodT t) → X (.ref C.text)) ∧ ∀ t, d = tx t → GoodT t → P t
theorem DueT.mono {C : ErA} {d : D} {X : Value → Prop} {P P' : List Nat → Prop} (h : DueT C d X P) (k : ∀ t, d = tx t → GoodT t → P t → P' t) : DueT C d X P' := ⟨h.1, fun t e g => k t e g (h.2 t e g)⟩
theorem GoodT.due {C : ErA} {t : List Nat} (h : GoodT t) {X : Value → Prop} {P : List Nat → Prop} (p : P t) : DueT C (tx t) X P :=
  ⟨fun e => absurd ⟨t, rfl, h⟩ e, fun t' e _ => by rw [← tx_inj e]; exact p⟩
theorem signs_lt : ∀ c ∈ signsL, c < 1114112 := by decide +kernel
theorem GoodT.tx {t : List Nat} (h : GoodT t) : Tx t := ⟨Nat.le_trans h.le (by decide), fun c hc => signs_lt c (h.ok c hc)⟩
theorem GoodT.plain {t : List Nat} (h : GoodT t) : Plain (PL.tx t) := .inl ⟨t, rfl, h.tx⟩
/-! #### the first place of a sign -/
def firstIx (s : Nat) : List Nat → Option Nat
  | [] => none
  | x :: l => if x = s then some 0 else (firstIx s l).map (· + 1)
theorem firstIx_some {s : Nat} : ∀ {l : List Nat} {i : Nat}, l[i]? = some s → (∀ k, k < i → l[k]? ≠ some s) → firstIx s l = some i
  | [], i, h, _ => by simp at h
  | x :: l, 0, h, _ => by
    simp at h
    show (if x = s then some 0 else _) = _
    rw [if_pos h]
  | x :: l, i + 1, h, hn => by
    have h0 : ¬ x = s := fun e => hn 0 (by omega) (by simp [e])
    show (if x = s then some 0 else _) = _
    rw [if_neg h0, firstIx_some (l := l) (i := i) (by simpa using h) fun k hk => by
      have := hn (k + 1) (by omega)
      simpa using this]
    rfl
theorem firstIx_none {s : Nat} : ∀ {l : List Nat}, s ∉ l → firstIx s l = none
  | [], _ => rfl
  | x :: l, h => by
    show (if x = s then some 0 else _) = _
    rw [if_neg (fun e => h (by rw [e]; exact List.mem_cons_self)), firstIx_none fun e => h (List.mem_cons_of_mem _ e)]
    rfl
theorem firstIx_get {s : Nat} : ∀ {l : List Nat} {i : Nat}, firstIx s l = some i → l[i]? = some s ∧ ∀ k, k < i → l[k]? ≠ some s
  | [], _, h => by cases h
  | x :: l, i, h => by
    have h : (if x = s then some 0 else (firstIx s l).map (· + 1)) = some i := h
    by_cases e : x = s
    · rw [if_pos e] at h
      cases h
      exact ⟨by simp [e], fun k hk => by omega⟩
    · rw [if_neg e] at h
      obtain ⟨j, h1, rfl⟩ := Option.map_eq_some_iff.mp h
      obtain ⟨g1, g2⟩ := firstIx_get h1
      refine ⟨by simpa using g1, fun k hk => ?_⟩
      cases k with
      | zero => simpa using e
      | succ k => simpa using g2 k (by omega)
theorem firstIx_mem {s : Nat} {l : List Nat} (h : s ∈ l) : ∃ i, firstIx s l = some i := by
  induction l with
  | nil => cases h
  | cons x l ih =>
    show ∃ i, (if x = s then some 0 else (firstIx s l).map (· + 1)) = some i
    by_cases e : x = s
    · exact ⟨0, if_pos e⟩
    · rw [if_neg e]
      rcases List.mem_cons.mp h with h | h
      · exact absurd h.symm e
      · obtain ⟨i, hi⟩ := ih h
        exact ⟨i + 1, by rw [hi]; rfl⟩
theorem at_one {l : List Nat} {c i : Nat} : StrLaws.At (mk l) (mk [c]) (mk l).length i ↔ l[i]? = some c := by
  unfold StrLaws.At PySem.Builtin.Str.subAt
  rw [mk_len, mk_len]
  show (i + 1 ≤ l.length ∧ (l.toArray.extract i (i + 1) == ([c] : List Nat).toArray) = true) ↔ _
  rw [beq_iff_eq]
  have e : (l.toArray.extract i (i + 1)) = ((l.drop i).take 1).toArray := by
    simp [List.extract_toArray]
  rw [e]
  constructor
  · rintro ⟨h1, h2⟩
    have h4 : (l.drop i).take 1 = [c] := by
      have := congrArg Array.toList h2
      simpa using this
    rw [List.drop_eq_getElem_cons (by omega), List.take_succ_cons, List.take_zero] at h4
    rw [List.getElem?_eq_getElem (by omega)]
    cases h4; rfl
  · intro h
    obtain ⟨h1, h2⟩ := List.getElem?_eq_some_iff.mp h
    refine ⟨by omega, ?_⟩
    rw [List.drop_eq_getElem_cons h1, List.take_succ_cons, List.take_zero, h2]
theorem find_one (l : List Nat) (c : Nat) : Txt.find (mk l) (mk [c]) = (match firstIx c l with | some i => ((i : Nat) : Int) | none => -1) := by
  rcases find_whole (mk l) (mk [c]) with ⟨h1, h2⟩ | ⟨i, h1, h2, h3⟩
  · have hn : c ∉ l := fun hm => by
      obtain ⟨i, hi⟩ := List.mem_iff_getElem?.mp hm
      exact h2 i (at_one.mpr hi)
    rw [h1, firstIx_none hn]
  · rw [h1, firstIx_some (at_one.mp h2) fun k hk e => h3 k hk (at_one.mpr e)]
/-! #### trees -/
inductive Tr where
  | leaf (n : Name) (s b e : Nat) (k : Option Nat)
  | fork (n : Name) (l r : Tr)
def Tr.nm : Tr → Name
  | .leaf n _ _ _ _ => n
  | .fork n _ _ => n
def treeD : Tr → D
  | .leaf n s b e k => .tup [tx n, tx [s], .int ((b : Nat) : Int), .int ((e : Nat) : Int), oD k]
  | .fork n l r => .tup [tx n, treeD l, treeD r]
def Tr.sz : Tr → Nat
  | .leaf _ _ _ _ _ => 1
  | .fork _ l r => l.sz + r.sz + 2
theorem Tr.sz_pos (T : Tr) : 1 ≤ T.sz := by
  cases T with
  | leaf n s b e k => exact Nat.le_refl 1
  | fork n l r => exact Nat.le_add_left 1 _
def Tr.leaves : Tr → List (Name × Nat × Nat × Nat × Option Nat)
  | .leaf n s b e k => [(n, s, b, e, k)]
  | .fork _ l r => l.leaves ++ r.leaves
def keptF (s : Nat) (t : List Nat) (b e : Nat) : Option Nat := if b = e then none else some (b + (firstIx s ((t.drop b).take (e - b))).getD 0)
/-- the first place at which two parts come to c -/
def plF (f : Nat → Option Nat) (c : Nat) : Nat → Nat → Option Nat
  | 0, _ => none
  | m + 1, k => if f k = some c then some k else plF f c m (k + 1)
theorem plF_some {f : Nat → Option Nat} {c k : Nat} : ∀ {m k0 : Nat}, plF f c m k0 = some k → f k = some c ∧ k0 ≤ k ∧ k < k0 + m ∧ ∀ j, k0 ≤ j → j < k → f j ≠ some c
  | 0, _, h => by cases h
  | m + 1, k0, h => by
    have h : (if f k0 = some c then some k0 else plF f c m (k0 + 1)) = some k := h
    by_cases e : f k0 = some c
    · rw [if_pos e] at h
      cases h
      exact ⟨e, Nat.le_refl _, by omega, fun j h1 h2 => by omega⟩
    · rw [if_neg e] at h
      obtain ⟨h1, h2, h3, h4⟩ := plF_some h
      refine ⟨h1, by omega, by omega, fun j g1 g2 => ?_⟩
      by_cases ej : j = k0
      · rw [ej]; exact e
      · exact h4 j (by omega) g2
theorem plF_ex {f : Nat → Option Nat} {c k : Nat} : ∀ {m k0 : Nat}, f k = some c → k0 ≤ k → k < k0 + m → ∃ j, plF f c m k0 = some j
  | 0, _, _, _, _ => by omega
  | m + 1, k0, h, h1, h2 => by
    show ∃ j, (if f k0 = some c then some k0 else plF f c m (k0 + 1)) = some j
    by_cases e : f k0 = some c
    · exact ⟨k0, if_pos e⟩
    · rw [if_neg e]
      by_cases ek : k = k0
      · rw [ek] at h; exact absurd h e
      · exact plF_ex h (by omega) (by omega)
/-- the first rule that comes to the cost -/
def chF (es : Tb) (t : List Nat) (n : Name) (b e c : Nat) : List Rl → Option (Rl × Option Nat)
  | [] => none
  | .sg m s :: l => if m = n ∧ lc s t b e = c then some (.sg m s, none) else chF es t n b e c l
  | .fk m x y :: l => if m = n then (match plF (pairC es x y b e) c (e + 1 - b) b with
    | some k => some (.fk m x y, some k)
    | none => chF es t n b e c l) else chF es t n b e c l
theorem chF_some {es : Tb} {t : List Nat} {n : Name} {b e c : Nat} {p : Rl × Option Nat} : ∀ {l : List Rl}, chF es t n b e c l = some p → p.1 ∈ l ∧ ((∃ s, p = (.sg n s, none) ∧ lc s t b e = c) ∨ ∃ x y k, p = (.fk n x y, some k) ∧ plF (pairC es x y b e) c (e + 1 - b) b = some k)
  | [], h => by cases h
  | .sg m s :: l, h => by
    have h : (if m = n ∧ lc s t b e = c then some (.sg m s, none) else chF es t n b e c l) = some p := h
    by_cases q : m = n ∧ lc s t b e = c
    · rw [if_pos q] at h
      cases h
      refine ⟨List.mem_cons_self, .inl ⟨s, by rw [q.1], q.2⟩⟩
    · rw [if_neg q] at h
      obtain ⟨h1, h2⟩ := chF_some h
      exact ⟨List.mem_cons_of_mem _ h1, h2⟩
  | .fk m x y :: l, h => by
    have h : (if m = n then (match plF (pairC es x y b e) c (e + 1 - b) b with
      | some k => some (.fk m x y, some k)
      | none => chF es t n b e c l) else chF es t n b e c l) = some p := h
    by_cases q : m = n
    · rw [if_pos q] at h
      split at h
      · rename_i k hk
        cases h
        exact ⟨List.mem_cons_self, .inr ⟨x, y, k, by rw [q], hk⟩⟩
      · obtain ⟨h1, h2⟩ := chF_some h
        exact ⟨List.mem_cons_of_mem _ h1, h2⟩
    · rw [if_neg q] at h
      obtain ⟨h1, h2⟩ := chF_some h
      exact ⟨List.mem_cons_of_mem _ h1, h2⟩
theorem chF_ex {es : Tb} {t : List Nat} {n : Name} {b e c : Nat} {r : Rl} : ∀ {l : List Rl}, r ∈ l → ((∃ s, r = .sg n s ∧ lc s t b e = c) ∨ ∃ x y k, r = .fk n x y ∧ plF (pairC es x y b e) c (e + 1 - b) b = some k) → ∃ p, chF es t n b e c l = some p
  | [], h, _ => by cases h
  | .sg m s :: l, h, hr => by
    show ∃ p, (if m = n ∧ lc s t b e = c then some (.sg m s, none) else chF es t n b e c l) = some p
    by_cases q : m = n ∧ lc s t b e = c
    · exact ⟨_, if_pos q⟩
    · rw [if_neg q]
      rcases List.mem_cons.mp h with h | h
      · exfalso
        rcases hr with ⟨s', e1, e2⟩ | ⟨x, y, k, e1, _⟩
        · rw [h] at e1; cases e1
          exact q ⟨rfl, e2⟩
        · rw [h] at e1; cases e1
      · exact chF_ex h hr
  | .fk m x y :: l, h, hr => by
    show ∃ p, (if m = n then (match plF (pairC es x y b e) c (e + 1 - b) b with
      | some k => some (.fk m x y, some k)
      | none => chF es t n b e c l) else chF es t n b e c l) = some p
    by_cases q : m = n
    · rw [if_pos q]
      cases hk : plF (pairC es x y b e) c (e + 1 - b) b with
      | some k => exact ⟨_, rfl⟩
      | none =>
        rcases List.mem_cons.mp h with h | h
        · exfalso
          rcases hr with ⟨s', e1, e2⟩ | ⟨x, y, k, e1, e2⟩
          · rw [h] at e1; cases e1
          · rw [h] at e1; cases e1
            rw [hk] at e2; cases e2
        · exact chF_ex h hr
    · rw [if_neg q]
      rcases List.mem_cons.mp h with h | h
      · exfalso
        rcases hr with ⟨s', e1, e2⟩ | ⟨x, y, k, e1, e2⟩
        · rw [h] at e1; cases e1
        · rw [h] at e1; cases e1
          exact q rfl
      · exact chF_ex h hr
/-- the told tree of a name over a stretch -/
inductive Told (rs : List Rl) (t : List Nat) (es : Tb) : Name → Nat → Nat → Nat → Tr → Prop where
  | leaf {n : Name} {s b e c : Nat} : tat es (n, b, e) = some c → chF es t n b e c rs = some (.sg n s, none) → Told rs t es n b e c (.leaf n s b e (keptF s t b e))
  | fork {n x y : Name} {b k e c c1 c2 : Nat} {l r : Tr} : tat es (n, b, e) = some c → chF es t n b e c rs = some (.fk n x y, some k) → c1 + c2 = c → Told rs t es x b k c1 l → Told rs t es y k e c2 r → Told rs t es n b e c (.fork n l r)
theorem Told.at_ {rs : List Rl} {t : List Nat} {es : Tb} {n : Name} {b e c : Nat} {T : Tr} (h : Told rs t es n b e c T) : tat es (n, b, e) = some c := by
  cases h with
  | leaf h _ => exact h
  | fork h _ _ _ _ => exact h
theorem TabOk.choice {rs : List Rl} {t : List Nat} {es : Tb} (h : TabOk rs t es) {n : Name} {b e c : Nat} (he : e ≤ t.length) (hc : tat es (n, b, e) = some c) : ∃ p, chF es t n b e c rs = some p := by
  rcases (h.snd _ _ _ _ hc).inv with ⟨s, hm, _, e1⟩ | ⟨x, y, k, c1, d1, hm, D1, D2, e1⟩
  · exact chF_ex hm (.inl ⟨s, rfl, e1.symm⟩)
  · have l1 := D1.le
    have l2 := D2.le
    obtain ⟨c2, g1, g2⟩ := h.mn b k l1 (by omega) x c1 D1
    obtain ⟨d2, g3, g4⟩ := h.mn k e l2 he y d1 D2
    obtain ⟨c3, g5, g6⟩ := h.mn b e (by omega) he n _ (.fk hm (h.snd _ _ _ _ g1) (h.snd _ _ _ _ g3))
    rw [hc] at g5; cases g5
    have ep : pairC es x y b e k = some c := by
      unfold pairC
      rw [g1, g3]
      show some (c2 + d2) = some c
      congr 1; omega
    obtain ⟨j, hj⟩ := plF_ex (m := e + 1 - b) (k0 := b) ep l1 (by omega)
    exact chF_ex hm (.inr ⟨x, y, j, rfl, hj⟩)
theorem pairC_some {es : Tb} {x y : Name} {b e k c : Nat} (h : pairC es x y b e k = some c) : ∃ c1 c2, tat es (x, b, k) = some c1 ∧ tat es (y, k, e) = some c2 ∧ c1 + c2 = c := by
  unfold pairC at h
  split at h
  · rename_i c1 c2 h1 h2
    cases h
    exact ⟨c1, c2, h1, h2, rfl⟩
  · cases h
theorem TabOk.told {rs : List Rl} {t : List Nat} {es : Tb} (h : TabOk rs t es) : ∀ (m : Nat) (n : Name) (b e c : Nat), e - b + c < m → e ≤ t.length → tat es (n, b, e) = some c → ∃ T, Told rs t es n b e c T
  | 0, _, _, _, _, h, _, _ => by omega
  | m + 1, n, b, e, c, hm, he, hc => by
    obtain ⟨p, hp⟩ := h.choice he hc
    obtain ⟨_, ⟨s, rfl, _⟩ | ⟨x, y, k, rfl, hk⟩⟩ := chF_some hp
    · exact ⟨_, .leaf hc hp⟩
    · obtain ⟨h1, h2, h3, _⟩ := plF_some hk
      obtain ⟨c1, c2, g1, g2, g3⟩ := pairC_some h1
      have D1 := h.snd _ _ _ _ g1
      have D2 := h.snd _ _ _ _ g2
      have l1 := D1.le
      have l2 := D2.le
      have p1 : b = k → 1 ≤ c1 := fun e => D1.pos e
      have p2 : k = e → 1 ≤ c2 := fun e => D2.pos e
      obtain ⟨T1, t1⟩ := h.told m x b k c1 (by by_cases q : k = e <;> omega) (by omega) g1
      obtain ⟨T2, t2⟩ := h.told m y k e c2 (by by_cases q : b = k <;> omega) he g2
      exact ⟨_, .fork hc hp g3 t1 t2⟩
/-! #### the pile -/
inductive Wt where
  | go (n : Name) (b e c : Nat) (T : Tr)
  | mk (n : Name)
def Wt.d : Wt → D
  | .go n b e _ _ => .tup [tx n, .int ((b : Nat) : Int), .int ((e : Nat) : Int)]
  | .mk n => .tup [tx n]
def Wt.ok (rs : List Rl) (t : List Nat) (es : Tb) : Wt → Prop
  | .go n b e c T => Told rs t es n b e c T ∧ e ≤ t.length
  | .mk _ => True
def Wt.sz : Wt → Nat
  | .go _ _ _ _ T => T.sz
  | .mk _ => 1
/-- what the pile comes to -/
def pile : List Wt → List Tr → List Tr
  | [], d => d
  | .go _ _ _ _ T :: w, d => pile w (T :: d)
  | .mk n :: w, r :: l :: d => pile w (.fork n l r :: d)
  | .mk _ :: _, _ => []


/-! ### need_text, costs -/
def sgnD : D → Option D
  | .str s => some (.bl (isSignL s.cps.toList))
  | _ => none
def phi_need_text (C : ErA) : Phi := fun ds Q X => ∃ d, ds = [d] ∧ Plain d ∧ DueT C d X fun t => Q (.sh (tx t))
theorem len_need_text {C : ErA} : ∀ ds Q X, phi_need_text C ds Q X → ds.length = 1 := fun ds Q X h => by
  obtain ⟨_, rfl, _⟩ := h; rfl
theorem c_need_text {C : ErA} {d : D} {Q : R → Prop} {X : Value → Prop} (h1 : Plain d) (q : DueT C d X fun t => Q (.sh (tx t))) : phi_need_text C [d] Q X := ⟨d, rfl, h1, q⟩
theorem sgn_map (l : List Nat) : ((l.map fun c => tx [c]).filterMap sgnD) = (l.map fun c => decide (c ∈ signsL)).map D.bl := by
  rw [List.filterMap_map, List.map_map]
  induction l with
  | nil => rfl
  | cons c l ih =>
    rw [List.filterMap_cons, List.map_cons, ih]
    rfl
theorem not_good_t {t : List Nat} {C : ErA} {X : Value → Prop} {P : List Nat → Prop} (h : DueT C (tx t) X P) (hn : ¬ GoodT t) : X (.ref C.text) := h.1 fun ⟨t', e, g⟩ => hn (tx_inj e ▸ g)
theorem not_text {d : D} {C : ErA} {X : Value → Prop} {P : List Nat → Prop} (h : DueT C d X P) (hn : tyn d ≠ "str") : X (.ref C.text) := h.1 fun ⟨t', e, g⟩ => hn (by rw [e]; rfl)
def phi_costs (C : ErA) : Phi := fun ds Q X => ∃ l d, ds = [.lst l, d] ∧ (∀ d ∈ l, RuleP d) ∧ l.length ≤ 100000 ∧ Plain d ∧ DueR C l X fun rs => DueT C d X fun t => ∀ a es, TabOk rs t es → Q (.ow a (.dT (enc es)))
theorem len_costs {C : ErA} : ∀ ds Q X, phi_costs C ds Q X → ds.length = 2 := fun ds Q X h => by
  obtain ⟨_, _, rfl, _⟩ := h; rfl
theorem c_costs {C : ErA} {l : List D} {d : D} {Q : R → Prop} {X : Value → Prop} (h1 : ∀ d ∈ l, RuleP d) (h2 : l.length ≤ 100000) (h3 : Plain d) (q : DueR C l X fun rs => DueT C d X fun t => ∀ a es, TabOk rs t es → Q (.ow a (.dT (enc es)))) : phi_costs C [.lst l, d] Q X := ⟨l, d, rfl, h1, h2, h3, q⟩
/-! ### kept_place -/
def phi_kept_place (_ : ErA) : Phi := fun ds Q _ => ∃ (s : Nat) (t : List Nat) (b e : Nat), ds = [tx [s], tx t, .int ((b : Nat) : Int), .int ((e : Nat) : Int)] ∧ b ≤ e ∧ e ≤ t.length ∧ t.length ≤ 100000 ∧ Q (.sh (oD (keptF s t b e)))
theorem len_kept_place {C : ErA} : ∀ ds Q X, phi_kept_place C ds Q X → ds.length = 4 := fun ds Q X h => by
  obtain ⟨_, _, _, _, rfl, _⟩ := h; rfl
theorem c_kept_place {C : ErA} {s : Nat} {t : List Nat} {b e : Nat} {Q : R → Prop} {X : Value → Prop} (h1 : b ≤ e) (h2 : e ≤ t.length) (h3 : t.length ≤ 100000) (q : Q (.sh (oD (keptF s t b e)))) : phi_kept_place C [tx [s], tx t, .int ((b : Nat) : Int), .int ((e : Nat) : Int)] Q X := ⟨_, _, _, _, rfl, h1, h2, h3, q⟩
/-! ### choice -/
def chD : Option (Rl × Option Nat) → D
  | none => .non
  | some p => .tup [ruleD p.1, oD p.2]
def phi_choice (_ : ErA) : Phi := fun ds Q _ => ∃ (es : Tb) (rs : List Rl) (t : List Nat) (n : Name) (b e c : Nat), ds = [.dT (enc es), .lst (rsD rs), tx t, tx n, .int ((b : Nat) : Int), .int ((e : Nat) : Int)] ∧ TabOk rs t es ∧ Gram rs ∧ b ≤ e ∧ e ≤ t.length ∧ t.length ≤ 100000 ∧ tat es (n, b, e) = some c ∧ Q (.sh (chD (chF es t n b e c rs)))
theorem len_choice {C : ErA} : ∀ ds Q X, phi_choice C ds Q X → ds.length = 6 := fun ds Q X h => by
  obtain ⟨_, _, _, _, _, _, _, rfl, _⟩ := h; rfl
theorem c_choice {C : ErA} {es : Tb} {rs : List Rl} {t : List Nat} {n : Name} {b e c : Nat} {Q : R → Prop} {X : Value → Prop} (hT : TabOk rs t es) (hG : Gram rs) (h1 : b ≤ e) (h2 : e ≤ t.length) (h3 : t.length ≤ 100000) (hc : tat es (n, b, e) = some c) (q : Q (.sh (chD (chF es t n b e c rs)))) : phi_choice C [.dT (enc es), .lst (rsD rs), tx t, tx n, .int ((b : Nat) : Int), .int ((e : Nat) : Int)] Q X := ⟨_, _, _, _, _, _, _, rfl, hT, hG, h1, h2, h3, hc, q⟩
theorem look_enc' {es : Tb} {n : Name} {b e c : Nat} (h : tat es (n, b, e) = some c) : look (.t (enc es)) (.tup [tx n, .int ((b : Nat) : Int), .int ((e : Nat) : Int)]) = some (some (V.int ((c : Nat) : Int))) :=
  (look_enc es n b e).trans (by rw [h]; rfl)
theorem chF_drop {es : Tb} {t : List Nat} {n : Name} {b e c : Nat} {rs : List Rl} {k : Nat} {r : Rl} (h : rs[k]? = some r) : rs.drop k = r :: rs.drop (k + 1) := by
  obtain ⟨h1, h2⟩ := List.getElem?_eq_some_iff.mp h
  rw [List.drop_eq_getElem_cons h1, h2]
/-! ### told_tree -/
def Tr.lvs : Tr → Nat
  | .leaf _ _ _ _ _ => 1
  | .fork _ l r => l.lvs + r.lvs
theorem Tr.sz_lvs : ∀ T : Tr, T.sz + 2 = 3 * T.lvs
  | .leaf _ _ _ _ _ => rfl
  | .fork _ l r => by
    have h1 := l.sz_lvs
    have h2 := r.sz_lvs
    show l.sz + r.sz + 2 + 2 = 3 * (l.lvs + r.lvs)
    omega
theorem Told.le {rs : List Rl} {t : List Nat} {es : Tb} (hT : TabOk rs t es) {n : Name} {b e c : Nat} {T : Tr} (h : Told rs t es n b e c T) : b ≤ e := (hT.snd _ _ _ _ h.at_).le
theorem Told.lvs {rs : List Rl} {t : List Nat} {es : Tb} (hT : TabOk rs t es) {n : Name} {b e c : Nat} {T : Tr} (h : Told rs t es n b e c T) : T.lvs ≤ c + (e - b) := by
  induction h with
  | @leaf n s b e c h1 h2 =>
    show 1 ≤ _
    have hD := hT.snd _ _ _ _ h1
    have := hD.le
    by_cases q : b = e
    · have := hD.pos q; omega
    · omega
  | @fork n x y b k e c c1 c2 l r h1 h2 h3 t1 t2 i1 i2 =>
    have l1 := t1.le hT
    have l2 := t2.le hT
    show l.lvs + r.lvs ≤ _
    omega
def phi_told_tree (_ : ErA) : Phi := fun ds Q _ => ∃ (es : Tb) (rs : List Rl) (t : List Nat) (n : Name) (c : Nat), ds = [.dT (enc es), .lst (rsD rs), tx t, tx n, .int ((t.length : Nat) : Int)] ∧ TabOk rs t es ∧ Gram rs ∧ t.length ≤ 100000 ∧ c ≤ 5000 ∧ tat es (n, 0, t.length) = some c ∧ ∀ T, Told rs t es n 0 t.length c T → Q (.sh (treeD T))
theorem len_told_tree {C : ErA} : ∀ ds Q X, phi_told_tree C ds Q X → ds.length = 5 := fun ds Q X h => by
  obtain ⟨_, _, _, _, _, rfl, _⟩ := h; rfl
theorem c_told_tree {C : ErA} {es : Tb} {rs : List Rl} {t : List Nat} {n : Name} {c : Nat} {Q : R → Prop} {X : Value → Prop} (hT : TabOk rs t es) (hG : Gram rs) (h3 : t.length ≤ 100000) (h4 : c ≤ 5000) (hc : tat es (n, 0, t.length) = some c) (q : ∀ T, Told rs t es n 0 t.length c T → Q (.sh (treeD T))) : phi_told_tree C [.dT (enc es), .lst (rsD rs), tx t, tx n, .int ((t.length : Nat) : Int)] Q X := ⟨_, _, _, _, _, rfl, hT, hG, h3, h4, hc, q⟩
def wsD (ws : List Wt) : List D := (ws.map Wt.d).reverse
theorem wsD_cons (w : Wt) (ws : List Wt) : wsD (w :: ws) = wsD ws ++ [w.d] := by
  unfold wsD
  rw [List.map_cons, List.reverse_cons]
def dnD (dn : List Tr) : List D := (dn.map treeD).reverse
theorem dnD_cons (T : Tr) (dn : List Tr) : dnD (T :: dn) = dnD dn ++ [treeD T] := by
  unfold dnD
  rw [List.map_cons, List.reverse_cons]
theorem dnD_len (dn : List Tr) : (dnD dn).length = dn.length := by unfold dnD; simp
theorem wsD_len (ws : List Wt) : (wsD ws).length = ws.length := by unfold wsD; simp
theorem wsD_le (ws : List Wt) : ws.length ≤ (ws.map Wt.sz).sum := by
  induction ws with
  | nil => exact Nat.le_refl _
  | cons w ws ih =>
    rw [List.map_cons, List.sum_cons, List.length_cons]
    have : 1 ≤ w.sz := by
      cases w with
      | go n b e c T => exact T.sz_pos
      | mk n => exact Nat.le_refl _
    omega
theorem tru_cons {ds : List D} {d : D} : tru (.lst (ds ++ [d])) = some true := by
  cases ds <;> rfl
/-! ### mend -/
def topN : List Rl → Name
  | [] => []
  | r :: _ => r.nm
theorem Gram.top {rs : List Rl} (h : Gram rs) : ∃ r l, rs = r :: l ∧ topN rs = r.nm ∧ topN rs ∈ namesOf rs := by
  cases rs with
  | nil => exact absurd rfl h.good.ne
  | cons r l => exact ⟨r, l, rfl, rfl, (mem_namesOf _ _).mpr ⟨r, List.mem_cons_self, rfl⟩⟩
def Small (rs : List Rl) : Prop := ∀ (t : List Nat) (n : Name), n ∈ namesOf rs → ∀ b e : Nat, b ≤ e → ∃ c, Der rs t n b e c ∧ c ≤ 2048 + (e - b)
theorem treeD_flat : ∀ T : Tr, (treeD T).flat = true
  | .leaf n s b e k => by cases k <;> rfl
  | .fork n l r => by
    show (true && ((treeD l).flat && ((treeD r).flat && true))) = true
    rw [treeD_flat l, treeD_flat r]; rfl
def phi_mend (C : ErA) : Phi := fun ds Q X => ∃ l d, ds = [.lst l, d] ∧ (∀ d ∈ l, RuleP d) ∧ l.length ≤ 100000 ∧ Plain d ∧ DueR C l X fun rs => DueT C d X fun t => Small rs ∧ ∀ es T c, TabOk rs t es → Told rs t es (topN rs) 0 t.length c T → Q (.sh (.tup [treeD T, .int ((c : Nat) : Int)]))
theorem len_mend {C : ErA} : ∀ ds Q X, phi_mend C ds Q X → ds.length = 2 := fun ds Q X h => by
  obtain ⟨_, _, rfl, _⟩ := h; rfl
theorem c_mend {C : ErA} {l : List D} {d : D} {Q : R → Prop} {X : Value → Prop} (h1 : ∀ d ∈ l, RuleP d) (h2 : l.length ≤ 100000) (h3 : Plain d) (q : DueR C l X fun rs => DueT C d X fun t => Small rs ∧ ∀ es T c, TabOk rs t es → Told rs t es (topN rs) 0 t.length c T → Q (.sh (.tup [treeD T, .int ((c : Nat) : Int)]))) : phi_mend C [.lst l, d] Q X := ⟨l, d, rfl, h1, h2, h3, q⟩
theorem due_gram {rs : List Rl} (hg : GoodR rs) (hm : ¬ Missing rs) (hu : ¬ Unpro rs) : Gram rs := ⟨hg, hm, unpro_all hu⟩
/-! ### tables alike; data of trees -/
theorem u_eqSame {K : PySem.W.Frag} {Z : Ec} {G : Sl} {Q : R → Sl → Prop} {x y : R} {d : D} (hx : dv G x = some d) (hy : dv G y = some d) (h1 : dat 64 d = true) (h2 : noB d = true) (q : Q (.sh (.bl true)) G) : wR K Z (uEq K) x y G Q :=
  u_eqD hx hy h1 h1 (by rw [eqD_self h2]; exact q)
theorem u_neSame {K : PySem.W.Frag} {Z : Ec} {G : Sl} {Q : R → Sl → Prop} {x y : R} {d : D} (hx : dv G x = some d) (hy : dv G y = some d) (h1 : dat 64 d = true) (h2 : noB d = true) (q : Q (.sh (.bl false)) G) : wR K Z (uNe K) x y G Q :=
  u_neD hx hy h1 h1 (by rw [eqD_self h2]; exact q)
theorem dat_oD (n : Nat) (o : Option Nat) : dat n (oD o) = true := by cases o <;> cases n <;> (unfold oD dat; rfl)
theorem dat_int (n : Nat) (i : Int) : dat n (.int i) = true := by cases n <;> (unfold dat; rfl)
theorem noB_oD (o : Option Nat) : noB (oD o) = true := by cases o <;> (unfold oD noB; rfl)
theorem dat_leaf {N : Nat} {n : Name} {s b e : Nat} {k : Option Nat} (h : (Rl.sg n s).ok = true) : dat (N + 1) (treeD (.leaf n s b e k)) = true := by
  have h := Bool.and_eq_true_iff.mp h
  show datA N [tx n, tx [s], .int ((b : Nat) : Int), .int ((e : Nat) : Int), oD k] = true
  simp only [datA, dat_name h.1, dat_sign (of_decide_eq_true h.2), dat_int, dat_oD, Bool.and_self]
theorem noB_tree : ∀ T : Tr, noB (treeD T) = true
  | .leaf n s b e k => by
    show noBA [tx n, tx [s], .int ((b : Nat) : Int), .int ((e : Nat) : Int), oD k] = true
    simp only [noBA, noB_oD, Bool.and_true]
    rfl
  | .fork n l r => by
    show noBA [tx n, treeD l, treeD r] = true
    simp only [noBA, noB_tree l, noB_tree r, Bool.and_true]
    rfl
/-- two tables of the same text tell the same -/
theorem TabOk.same {rs : List Rl} {t : List Nat} {es es' : Tb} (h : TabOk rs t es) (h' : TabOk rs t es') (n : Name) {b e : Nat} (hb : b ≤ e) (he : e ≤ t.length) : tat es (n, b, e) = tat es' (n, b, e) := by
  cases q : tat es (n, b, e) with
  | none =>
    cases q' : tat es' (n, b, e) with
    | none => rfl
    | some c =>
      obtain ⟨c2, h2, _⟩ := h.mn b e hb he n c (h'.snd _ _ _ _ q')
      rw [q] at h2; cases h2
  | some c =>
    obtain ⟨c2, h2, l2⟩ := h'.mn b e hb he n c (h.snd _ _ _ _ q)
    obtain ⟨c3, h3, l3⟩ := h.mn b e hb he n c2 (h'.snd _ _ _ _ h2)
    rw [q] at h3; cases h3
    rw [h2]
    congr 1; omega
theorem plF_congr {f g : Nat → Option Nat} {c : Nat} : ∀ {m k : Nat}, (∀ j, k ≤ j → j < k + m → f j = g j) → plF f c m k = plF g c m k
  | 0, _, _ => rfl
  | m + 1, k, h => by
    show (if f k = some c then some k else plF f c m (k + 1)) = if g k = some c then some k else plF g c m (k + 1)
    rw [h k (Nat.le_refl _) (by omega), plF_congr (m := m) (k := k + 1) fun j h1 h2 => h j (by omega) (by omega)]
theorem chF_same {rs : List Rl} {t : List Nat} {es es' : Tb} (h : TabOk rs t es) (h' : TabOk rs t es') {n : Name} {b e c : Nat} (he : e ≤ t.length) : ∀ l : List Rl, chF es t n b e c l = chF es' t n b e c l
  | [] => rfl
  | .sg m s :: l => by
    show (if m = n ∧ lc s t b e = c then some (.sg m s, none) else chF es t n b e c l) = if m = n ∧ lc s t b e = c then some (.sg m s, none) else chF es' t n b e c l
    rw [chF_same h h' he l]
  | .fk m x y :: l => by
    show (if m = n then (match plF (pairC es x y b e) c (e + 1 - b) b with
      | some k => some (Rl.fk m x y, some k)
      | none => chF es t n b e c l) else chF es t n b e c l) = if m = n then (match plF (pairC es' x y b e) c (e + 1 - b) b with
      | some k => some (.fk m x y, some k)
      | none => chF es' t n b e c l) else chF es' t n b e c l
    rw [chF_same h h' he l, plF_congr (f := pairC es x y b e) (g := pairC es' x y b e) fun j h1 h2 => by
      unfold pairC
      rw [h.same h' x h1 (by omega), h.same h' y (b := j) (e := e) (by omega) he]]
theorem Told.same {rs : List Rl} {t : List Nat} {es es' : Tb} (h : TabOk rs t es) (h' : TabOk rs t es') {n : Name} {b e c : Nat} {T : Tr} (hT : Told rs t es n b e c T) : e ≤ t.length → Told rs t es' n b e c T := by
  induction hT with
  | @leaf n s b e c h1 h2 =>
    intro he
    have hle := (h.snd _ _ _ _ h1).le
    exact .leaf (by rw [← h.same h' n hle he]; exact h1) (by rw [← chF_same h h' he]; exact h2)
  | @fork n x y b k e c c1 c2 l r h1 h2 h3 t1 t2 i1 i2 =>
    intro he
    have hle := (h.snd _ _ _ _ h1).le
    have hl2 := t2.le h
    exact .fork (by rw [← h.same h' n hle he]; exact h1) (by rw [← chF_same h h' he]; exact h2) h3 (i1 (by omega)) (i2 he)


/-! ### words aligned with texts -/
inductive Yld (rs : List Rl) : Name → List Nat → Prop where
  | sg {n : Name} {s : Nat} : Rl.sg n s ∈ rs → Yld rs n [s]
  | fk {n x y : Name} {u v : List Nat} : Rl.fk n x y ∈ rs → Yld rs x u → Yld rs y v → Yld rs n (u ++ v)
/-- what a sign costs over a stretch of signs -/
def lcu (s : Nat) (u : List Nat) : Nat := if u = [] then 1 else u.length - (if s ∈ u then 1 else 0)
inductive Ali : List Nat → List Nat → Nat → Prop where
  | nil : Ali [] [] 0
  | cons {s : Nat} {u w v : List Nat} {c : Nat} : Ali w v c → Ali (s :: w) (u ++ v) (lcu s u + c)
def cutT (t : List Nat) (b e : Nat) : List Nat := (t.drop b).take (e - b)
theorem cutT_len {t : List Nat} {b e : Nat} (h : e ≤ t.length) : (cutT t b e).length = e - b := by
  unfold cutT
  rw [List.length_take, List.length_drop]; omega
theorem cutT_app {t : List Nat} {b k e : Nat} (h1 : b ≤ k) (h2 : k ≤ e) : cutT t b e = cutT t b k ++ cutT t k e := by
  unfold cutT
  rw [show e - b = (k - b) + (e - k) by omega, List.take_add, List.drop_drop, show b + (k - b) = k by omega]
theorem cutT_nil (t : List Nat) (b : Nat) : cutT t b b = [] := by
  unfold cutT
  rw [Nat.sub_self, List.take_zero]
theorem cutT_all (t : List Nat) : cutT t 0 t.length = t := by
  unfold cutT
  rw [List.drop_zero, Nat.sub_zero, List.take_length]
theorem lc_lcu {s : Nat} {t : List Nat} {b e : Nat} (h1 : b ≤ e) (h2 : e ≤ t.length) : lc s t b e = lcu s (cutT t b e) := by
  have hl := cutT_len (b := b) h2
  unfold lc lcu
  by_cases q : b = e
  · subst q
    rw [if_pos rfl, if_pos (cutT_nil t b)]
  · have hne : ¬ cutT t b e = [] := fun z => q (by rw [z] at hl; simp at hl; omega)
    rw [if_neg q, if_neg hne, hl]
    rfl
theorem Ali.app {w v : List Nat} {c : Nat} (h : Ali w v c) {w' v' : List Nat} {c' : Nat} (h' : Ali w' v' c') : Ali (w ++ w') (v ++ v') (c + c') := by
  induction h with
  | nil => simpa using h'
  | @cons s u w v c _ ih =>
    rw [List.cons_append, List.append_assoc, Nat.add_assoc]
    exact .cons ih
theorem Ali.split {w1 : List Nat} : ∀ {w2 v : List Nat} {c : Nat}, Ali (w1 ++ w2) v c → ∃ v1 v2 c1 c2, v = v1 ++ v2 ∧ c = c1 + c2 ∧ Ali w1 v1 c1 ∧ Ali w2 v2 c2 := by
  induction w1 with
  | nil => intro w2 v c h; exact ⟨[], v, 0, c, rfl, by omega, .nil, h⟩
  | cons s w1 ih =>
    intro w2 v c h
    rw [List.cons_append] at h
    generalize hq : s :: (w1 ++ w2) = w at h
    cases h with
    | nil => cases hq
    | @cons s' u w' v' c' h =>
      cases hq
      obtain ⟨v1, v2, c1, c2, rfl, rfl, h1, h2⟩ := ih h
      exact ⟨u ++ v1, v2, lcu s u + c1, c2, by rw [List.append_assoc], by omega, .cons h1, h2⟩
theorem Der.ali {rs : List Rl} {t : List Nat} {n : Name} {b e c : Nat} (h : Der rs t n b e c) : e ≤ t.length → ∃ w, Yld rs n w ∧ Ali w (cutT t b e) c := by
  induction h with
  | @sg n s b e hr hb =>
    intro he
    refine ⟨[s], .sg hr, ?_⟩
    have := Ali.cons (s := s) (u := cutT t b e) .nil
    rw [List.append_nil, Nat.add_zero] at this
    rw [lc_lcu hb he]; exact this
  | @fk n x y b k e c d hr d1 d2 i1 i2 =>
    intro he
    have l1 := d1.le
    have l2 := d2.le
    obtain ⟨w1, y1, a1⟩ := i1 (by omega)
    obtain ⟨w2, y2, a2⟩ := i2 he
    refine ⟨w1 ++ w2, .fk hr y1 y2, ?_⟩
    rw [cutT_app l1 l2]
    exact a1.app a2
theorem Yld.der {rs : List Rl} {t : List Nat} {n : Name} {w : List Nat} (h : Yld rs n w) : ∀ {b e c : Nat}, b ≤ e → e ≤ t.length → Ali w (cutT t b e) c → Der rs t n b e c := by
  induction h with
  | @sg n s hr =>
    intro b e c hb he ha
    generalize hv : cutT t b e = v at ha
    cases ha with
    | @cons _ u _ v c h =>
      cases h
      rw [List.append_nil] at hv
      rw [Nat.add_zero, ← hv, ← lc_lcu hb he]
      exact .sg hr hb
  | @fk n x y u v hr _ _ i1 i2 =>
    intro b e c hb he ha
    obtain ⟨v1, v2, c1, c2, e1, rfl, a1, a2⟩ := ha.split
    have hl := cutT_len (b := b) he
    rw [e1, List.length_append] at hl
    have hk : cutT t b e = cutT t b (b + v1.length) ++ cutT t (b + v1.length) e := cutT_app (by omega) (by omega)
    rw [hk] at e1
    have hl2 := cutT_len (t := t) (b := b) (e := b + v1.length) (by omega)
    obtain ⟨e2, e3⟩ := List.append_inj e1 (by rw [hl2]; omega)
    rw [← e2] at a1
    rw [← e3] at a2
    exact .fk hr (i1 (by omega) (by omega) a1) (i2 (by omega) he a2)
theorem Ali.self : ∀ w : List Nat, Ali w w 0
  | [] => .nil
  | s :: w => by
    have h := Ali.cons (s := s) (u := [s]) (Ali.self w)
    have : lcu s [s] = 0 := by unfold lcu; simp
    rw [this, Nat.add_zero] at h
    exact h
theorem Ali.zero {w v : List Nat} {c : Nat} (h : Ali w v c) : c = 0 → v = w := by
  induction h with
  | nil => intro _; rfl
  | @cons s u w v c _ ih =>
    intro hc
    have h1 : lcu s u = 0 := by omega
    have h2 := ih (by omega)
    unfold lcu at h1
    split at h1
    · omega
    · rename_i hne
      have hu : u = [s] := by
        match u with
        | [] => exact absurd rfl hne
        | [x] =>
          by_cases q : s ∈ [x]
          · rw [List.mem_singleton.mp q]
          · rw [if_neg q] at h1; cases h1
        | x :: y :: r =>
          simp only [List.length_cons] at h1
          split at h1 <;> omega
      rw [hu, h2]; rfl
theorem Yld.ne {rs : List Rl} {n : Name} {w : List Nat} (h : Yld rs n w) : w ≠ [] := by
  induction h with
  | sg _ => simp
  | fk _ _ _ i1 _ => intro e; exact i1 (List.append_eq_nil_iff.mp e).1
/-! #### one sign more, less or other -/
def Ed (u v : List Nat) : Prop := ∃ p x y q, u = p ++ x ++ q ∧ v = p ++ y ++ q ∧ x.length ≤ 1 ∧ y.length ≤ 1
theorem lcu_ed {s : Nat} {u v : List Nat} (h : Ed u v) : lcu s v ≤ lcu s u + 1 := by
  obtain ⟨p, x, y, q, rfl, rfl, hx, hy⟩ := h
  have hl : (p ++ y ++ q).length ≤ (p ++ x ++ q).length + 1 := by
    simp only [List.length_append]; omega
  have hm : (p ++ y ++ q).length = (p ++ x ++ q).length + 1 → x = [] := fun e => by
    simp only [List.length_append] at e
    exact List.eq_nil_of_length_eq_zero (by omega)
  unfold lcu
  by_cases e1 : p ++ y ++ q = []
  · rw [if_pos e1]
    omega
  · rw [if_neg e1]
    by_cases e2 : p ++ x ++ q = []
    · rw [if_pos e2]
      rw [e2] at hl
      simp only [List.length_nil] at hl
      omega
    · rw [if_neg e2]
      by_cases hs : s ∈ p ++ x ++ q
      · rw [if_pos hs]
        by_cases hg : (p ++ y ++ q).length = (p ++ x ++ q).length + 1
        · have hx0 := hm hg
          subst hx0
          have hs' : s ∈ p ++ y ++ q := by
            simp only [List.append_nil, List.mem_append] at hs ⊢
            rcases hs with h | h
            · exact .inl (.inl h)
            · exact .inr h
          rw [if_pos hs']; omega
        · split <;> omega
      · rw [if_neg hs]
        split <;> omega
theorem Ali.ed {w v : List Nat} {c : Nat} (h : Ali w v c) : w ≠ [] → ∀ v', Ed v v' → ∃ c', Ali w v' c' ∧ c' ≤ c + 1 := by
  induction h with
  | nil => intro h; exact absurd rfl h
  | @cons s u w v c ha ih =>
    rintro _ v' ⟨p, x, y, q, e1, rfl, hx, hy⟩
    -- either the place lies in u, or in v
    by_cases hw : w = []
    · subst hw
      cases ha
      rw [List.append_nil] at e1
      have h1 := lcu_ed (s := s) (u := u) (v := p ++ y ++ q) ⟨p, x, y, q, e1, rfl, hx, hy⟩
      have h2 := Ali.cons (s := s) (u := p ++ y ++ q) Ali.nil
      rw [List.append_nil, Nat.add_zero] at h2
      exact ⟨_, h2, by omega⟩
    · by_cases hp : p.length + x.length ≤ u.length
      · -- within u
        have hu : u = p ++ x ++ q.take (u.length - (p.length + x.length)) ∧ v = q.drop (u.length - (p.length + x.length)) := by
          have h3 : p ++ x ++ q = (p ++ x ++ q.take (u.length - (p.length + x.length))) ++ q.drop (u.length - (p.length + x.length)) := by
            rw [List.append_assoc (p ++ x), List.take_append_drop]
          rw [h3] at e1
          by_cases hq : u.length - (p.length + x.length) ≤ q.length
          · have := List.append_inj e1 (by
              simp only [List.length_append, List.length_take]
              omega)
            exact this
          · have hl := congrArg List.length e1
            simp only [List.length_append, List.length_take, List.length_drop] at hl
            omega
        obtain ⟨hu1, hv1⟩ := hu
        have h1 := lcu_ed (s := s) (u := u) (v := p ++ y ++ q.take (u.length - (p.length + x.length))) ⟨p, x, y, _, hu1, rfl, hx, hy⟩
        have h2 := Ali.cons (s := s) (u := p ++ y ++ q.take (u.length - (p.length + x.length))) ha
        rw [hv1, List.append_assoc (p ++ y), List.take_append_drop] at h2
        exact ⟨_, h2, by omega⟩
      · -- within v
        have hpl : u.length ≤ p.length := by
          by_cases hx0 : x.length = 0
          · omega
          · omega
        have h3 : p ++ x ++ q = p.take u.length ++ (p.drop u.length ++ x ++ q) := by
          rw [← List.append_assoc, ← List.append_assoc, List.take_append_drop]
        rw [h3] at e1
        obtain ⟨e2, e3⟩ := List.append_inj e1 (by rw [List.length_take]; omega)
        obtain ⟨c', a1, a2⟩ := ih hw (p.drop u.length ++ y ++ q) ⟨p.drop u.length, x, y, q, e3, rfl, hx, hy⟩
        have h2 := Ali.cons (s := s) (u := u) a1
        have h4 : u ++ (p.drop u.length ++ y ++ q) = p ++ y ++ q := by
          rw [← List.append_assoc, ← List.append_assoc]
          congr 2
          conv => lhs; lhs; rw [e2]
          exact List.take_append_drop _ _
        rw [h4] at h2
        exact ⟨_, h2, by omega⟩
/-! #### the least cost over the whole text -/
def MinC (rs : List Rl) (t : List Nat) (n : Name) (c : Nat) : Prop := Der rs t n 0 t.length c ∧ ∀ c', Der rs t n 0 t.length c' → c ≤ c'
theorem MinC.ed {rs : List Rl} {t t' : List Nat} {n : Name} {c c' : Nat} (h : MinC rs t n c) (h' : MinC rs t' n c') (hE : Ed t t') : c' ≤ c + 1 := by
  obtain ⟨w, y, a⟩ := h.1.ali (Nat.le_refl _)
  rw [cutT_all] at a
  obtain ⟨c2, a2, l2⟩ := a.ed y.ne t' hE
  rw [← cutT_all t'] at a2
  have := h'.2 c2 (y.der (Nat.zero_le _) (Nat.le_refl _) a2)
  omega
theorem Ed.symm {u v : List Nat} (h : Ed u v) : Ed v u := by
  obtain ⟨p, x, y, q, h1, h2, h3, h4⟩ := h
  exact ⟨p, y, x, q, h2, h1, h4, h3⟩
theorem MinC.uniq {rs : List Rl} {t : List Nat} {n : Name} {c c' : Nat} (h : MinC rs t n c) (h' : MinC rs t n c') : c = c' := by
  have h1 := h.2 c' h'.1
  have h2 := h'.2 c h.1
  omega
theorem Yld.zero {rs : List Rl} {n : Name} {w : List Nat} (h : Yld rs n w) : MinC rs w n 0 :=
  ⟨h.der (Nat.zero_le _) (Nat.le_refl _) (by rw [cutT_all]; exact Ali.self w), fun c' _ => Nat.zero_le _⟩
theorem MinC.read {rs : List Rl} {t : List Nat} {n : Name} (h : MinC rs t n 0) : Yld rs n t := by
  obtain ⟨w, y, a⟩ := h.1.ali (Nat.le_refl _)
  have := a.zero rfl
  rw [cutT_all] at this
  rw [this]; exact y
/-! #### the told tree's text -/
def Tr.txt : Tr → List Nat
  | .leaf _ s _ _ _ => [s]
  | .fork _ l r => l.txt ++ r.txt
theorem Told.min {rs : List Rl} {t : List Nat} {es : Tb} (hT : TabOk rs t es) {n : Name} {c : Nat} {T : Tr} (h : Told rs t es n 0 t.length c T) : MinC rs t n c :=
  ⟨hT.snd _ _ _ _ h.at_, fun c' hD => by
    obtain ⟨c2, h2, l2⟩ := hT.mn 0 t.length (Nat.zero_le _) (Nat.le_refl _) n c' hD
    rw [h.at_] at h2; cases h2
    exact l2⟩
theorem Told.ali {rs : List Rl} {t : List Nat} {es : Tb} (hT : TabOk rs t es) {n : Name} {b e c : Nat} {T : Tr} (h : Told rs t es n b e c T) : e ≤ t.length → Yld rs n T.txt ∧ Ali T.txt (cutT t b e) c := by
  induction h with
  | @leaf n s b e c h1 h2 =>
    intro he
    have hb := (hT.snd _ _ _ _ h1).le
    obtain ⟨hm, ⟨s', e1, e2⟩ | ⟨x, y, k, e1, _⟩⟩ := chF_some h2
    · cases e1
      refine ⟨.sg hm, ?_⟩
      have := Ali.cons (s := s) (u := cutT t b e) .nil
      rw [List.append_nil, Nat.add_zero, ← lc_lcu hb he, e2] at this
      exact this
    · cases e1
  | @fork n x y b k e c c1 c2 l r h1 h2 h3 t1 t2 i1 i2 =>
    intro he
    have l1 := t1.le hT
    have l2 := t2.le hT
    obtain ⟨y1, a1⟩ := i1 (by omega)
    obtain ⟨y2, a2⟩ := i2 he
    refine ⟨.fk (chF_some h2).1 y1 y2, ?_⟩
    rw [cutT_app l1 l2, ← h3]
    exact a1.app a2
theorem Told.zero {rs : List Rl} {t : List Nat} {es : Tb} (hT : TabOk rs t es) {n : Name} {c : Nat} {T : Tr} (h : Told rs t es n 0 t.length c T) : T.txt = t ↔ c = 0 := by
  obtain ⟨y, a⟩ := h.ali hT (Nat.le_refl _)
  rw [cutT_all] at a
  constructor
  · intro e
    rw [e] at y
    exact (h.min hT).uniq y.zero
  · intro e
    exact (a.zero e).symm


/-! ### leaves, mended -/
def Tr.lfs : Tr → List Tr
  | .leaf n s b e k => [.leaf n s b e k]
  | .fork _ l r => l.lfs ++ r.lfs
theorem Tr.lfs_leaf : ∀ {T x : Tr}, x ∈ T.lfs → ∃ n s b e k, x = .leaf n s b e k
  | .leaf n s b e k, x, h => by
    cases List.mem_singleton.mp h
    exact ⟨n, s, b, e, k, rfl⟩
  | .fork _ l r, x, h => by
    rcases List.mem_append.mp h with h | h
    · exact Tr.lfs_leaf h
    · exact Tr.lfs_leaf h
theorem Tr.lfs_len : ∀ T : Tr, T.lfs.length = T.lvs
  | .leaf _ _ _ _ _ => rfl
  | .fork _ l r => by
    show (l.lfs ++ r.lfs).length = l.lvs + r.lvs
    rw [List.length_append, l.lfs_len, r.lfs_len]
def phi_leaves (_ : ErA) : Phi := fun ds Q _ => ∃ T, ds = [treeD T] ∧ T.sz ≤ 400000 ∧ ∀ a, Q (.ow a (.lst (T.lfs.map treeD)))
theorem len_leaves {C : ErA} : ∀ ds Q X, phi_leaves C ds Q X → ds.length = 1 := fun ds Q X h => by
  obtain ⟨_, rfl, _⟩ := h; rfl
theorem c_leaves {C : ErA} {T : Tr} {Q : R → Prop} {X : Value → Prop} (h : T.sz ≤ 400000) (q : ∀ a, Q (.ow a (.lst (T.lfs.map treeD)))) : phi_leaves C [treeD T] Q X := ⟨T, rfl, h, q⟩
theorem sz_le (ws : List Tr) : ws.length ≤ (ws.map Tr.sz).sum := by
  induction ws with
  | nil => exact Nat.le_refl _
  | cons w ws ih =>
    rw [List.map_cons, List.sum_cons, List.length_cons]
    have := w.sz_pos
    omega
def lf2 : D → Option D
  | .tup (_ :: x :: _) => some x
  | _ => none
theorem lf2_map : ∀ T : Tr, (T.lfs.map treeD).filterMap lf2 = (T.txt.map fun c => [c]).map tx
  | .leaf n s b e k => rfl
  | .fork _ l r => by
    show ((l.lfs ++ r.lfs).map treeD).filterMap lf2 = ((l.txt ++ r.txt).map fun c => [c]).map tx
    rw [List.map_append, List.filterMap_append, lf2_map l, lf2_map r, List.map_append, List.map_append]
theorem Tr.txt_len : ∀ T : Tr, T.txt.length = T.lvs
  | .leaf _ _ _ _ _ => rfl
  | .fork _ l r => by
    show (l.txt ++ r.txt).length = l.lvs + r.lvs
    rw [List.length_append, l.txt_len, r.txt_len]
theorem flat_one : ∀ l : List Nat, (l.map fun c => [c]).flatten = l
  | [] => rfl
  | c :: l => by
    show [c] ++ (l.map fun c => [c]).flatten = _
    rw [flat_one l]; rfl
def phi_mended (_ : ErA) : Phi := fun ds Q _ => ∃ T, ds = [treeD T] ∧ T.sz ≤ 400000 ∧ Q (.sh (tx T.txt))
theorem len_mended {C : ErA} : ∀ ds Q X, phi_mended C ds Q X → ds.length = 1 := fun ds Q X h => by
  obtain ⟨_, rfl, _⟩ := h; rfl
theorem c_mended {C : ErA} {T : Tr} {Q : R → Prop} {X : Value → Prop} (h : T.sz ≤ 400000) (q : Q (.sh (tx T.txt))) : phi_mended C [treeD T] Q X := ⟨T, rfl, h, q⟩
/-! ### deeds_of -/
def putL : List Nat := [112, 117, 116]
def cutL : List Nat := [99, 117, 116]
def keepL : List Nat := [107, 101, 101, 112]
def chgL : List Nat := [99, 104, 97, 110, 103, 101]
def placeD (t : List Nat) (s : Nat) (k : Option Nat) (p : Nat) : D :=
  if k ≠ some p then .tup [tx cutL, .int ((p : Nat) : Int)] else if t[p]? = some s then .tup [tx keepL, .int ((p : Nat) : Int)] else .tup [tx chgL, .int ((p : Nat) : Int), tx [s]]
def putD (s b : Nat) (k : Option Nat) : List D := if k = none then [.tup [tx putL, .int ((b : Nat) : Int), tx [s]]] else []
def deedF (t : List Nat) : Tr → List D
  | .leaf _ s b e k => putD s b k ++ (List.range (e - b)).map fun i => placeD t s k (b + i)
  | .fork _ _ _ => []
def deedsF (t : List Nat) (l : List Tr) : List D := l.flatMap (deedF t)
def LfOk (t : List Nat) : Tr → Prop
  | .leaf _ _ b e k => b ≤ e ∧ e ≤ t.length ∧ (k = none → b = e) ∧ ∀ p, k = some p → b ≤ p ∧ p < e
  | .fork _ _ _ => False
theorem deedF_len {t : List Nat} {x : Tr} (h : LfOk t x) : (deedF t x).length ≤ t.length + 1 := by
  cases x with
  | fork n l r => exact h.elim
  | leaf n s b e k =>
    obtain ⟨h1, h2, h3, _⟩ := h
    show (putD s b k ++ _).length ≤ _
    rw [List.length_append, List.length_map, List.length_range]
    unfold putD
    split
    · rename_i hk
      have := h3 hk
      rw [List.length_singleton]; omega
    · rw [List.length_nil]; omega
theorem deedsF_len {t : List Nat} : ∀ {l : List Tr}, (∀ x ∈ l, LfOk t x) → (deedsF t l).length ≤ l.length * (t.length + 1)
  | [], _ => Nat.zero_le _
  | x :: l, h => by
    show (List.flatMap (deedF t) (x :: l)).length ≤ _
    rw [List.flatMap_cons, List.length_append, List.length_cons, Nat.succ_mul]
    have h1 := deedF_len (h x List.mem_cons_self)
    have h2 := deedsF_len (l := l) fun y hy => h y (List.mem_cons_of_mem _ hy)
    unfold deedsF at h2
    omega
def phi_deeds_of (_ : ErA) : Phi := fun ds Q _ => ∃ T t, ds = [treeD T, tx t] ∧ T.sz ≤ 400000 ∧ t.length ≤ 1000 ∧ T.lvs * (t.length + 1) ≤ 900000 ∧ (∀ x ∈ T.lfs, LfOk t x) ∧ ∀ a, Q (.ow a (.lst (deedsF t T.lfs)))
theorem len_deeds_of {C : ErA} : ∀ ds Q X, phi_deeds_of C ds Q X → ds.length = 2 := fun ds Q X h => by
  obtain ⟨_, _, rfl, _⟩ := h; rfl
theorem c_deeds_of {C : ErA} {T : Tr} {t : List Nat} {Q : R → Prop} {X : Value → Prop} (h : T.sz ≤ 400000) (h2 : t.length ≤ 1000) (h3 : T.lvs * (t.length + 1) ≤ 900000) (h4 : ∀ x ∈ T.lfs, LfOk t x) (q : ∀ a, Q (.ow a (.lst (deedsF t T.lfs)))) : phi_deeds_of C [treeD T, tx t] Q X := ⟨T, t, rfl, h, h2, h3, h4, q⟩
theorem deedsF_snoc (t : List Nat) (l : List Tr) (x : Tr) : deedsF t (l ++ [x]) = deedsF t l ++ deedF t x := by
  unfold deedsF
  rw [List.flatMap_append, List.flatMap_cons, List.flatMap_nil, List.append_nil]
/-! ### any data -/
mutual
def okD : D → Bool
  | .non => true
  | .bl _ => true
  | .int _ => true
  | .str s => decide (s.cps.toList.length ≤ 100000) && s.cps.toList.all fun c => decide (c < 1114112)
  | .tup l => okA l
  | .lst l => okA l
  | .dK _ => true
  | _ => false
def okA : List D → Bool
  | [] => true
  | d :: l => okD d && okA l
end
theorem okA_mem : ∀ {l : List D} {d : D}, okA l = true → d ∈ l → okD d = true
  | [], _, _, h => by cases h
  | x :: l, d, h, hd => by
    unfold okA at h
    have h := Bool.and_eq_true_iff.mp h
    rcases List.mem_cons.mp hd with rfl | hd
    · exact h.1
    · exact okA_mem h.2 hd
theorem okD_str {s : Str} (h : okD (.str s) = true) : Tx s.cps.toList := by
  unfold okD at h
  have h := Bool.and_eq_true_iff.mp h
  exact ⟨of_decide_eq_true h.1, fun c hc => of_decide_eq_true (List.all_eq_true.mp h.2 c hc)⟩
theorem okD_pl {d : D} (h : okD d = true) : isPl d = true := by
  cases d <;> first | rfl | (unfold okD at h; cases h)
theorem okD_plain {d : D} (h : okD d = true) : Plain d := by
  cases d with
  | str s => exact .inl ⟨s.cps.toList, congrArg D.str (mk_of s), okD_str h⟩
  | _ => first | exact .inr ⟨by simp [tyn], rfl⟩ | (exfalso; unfold okD at h; cases h)
theorem okD_tup {l : List D} (h : okD (.tup l) = true) : okA l = true := by unfold okD at h; exact h
theorem dat_tx {n : Nat} {l : List Nat} (h : ∀ c ∈ l, c < 1114112) : dat n (tx l) = true := by
  have e : (mk l).cps.all (· < 0x110000) = true := by
    rw [Array.all_eq_true_iff_forall_mem]
    intro c hc
    exact decide_eq_true (h c (by simpa using hc))
  cases n <;> (unfold dat; exact e)
def isI : D → Bool
  | .int _ => true
  | _ => false
def isT : D → Bool
  | .tup _ => true
  | _ => false
def isStr : D → Bool
  | .str _ => true
  | _ => false
theorem isI_of {d : D} (h : isI d = true) : ∃ i, d = .int i := by cases d <;> first | exact ⟨_, rfl⟩ | cases h
theorem isT_of {d : D} (h : isT d = true) : ∃ l, d = .tup l := by cases d <;> first | exact ⟨_, rfl⟩ | cases h
theorem isStr_of {d : D} (h : isStr d = true) : ∃ l, d = tx l := by
  cases d <;> first | cases h | skip
  rename_i s
  exact ⟨s.cps.toList, congrArg D.str (mk_of s)⟩
theorem kit_T {d : D} (hp : isPl d = true) : kitB (tyn d) "tuple" = some (isT d) := by
  cases d <;> first | rfl | cases hp
theorem kit_S {d : D} (hp : isPl d = true) : kitB (tyn d) "str" = some (isStr d) := by
  cases d <;> first | rfl | cases hp
def isIB : D → Bool
  | .int _ => true
  | .bl _ => true
  | _ => false
def isB : D → Bool
  | .bl _ => true
  | _ => false
theorem kit_I {d : D} (hp : isPl d = true) : kitB (tyn d) "int" = some (isIB d) := by
  cases d <;> first | exact kit_bi | rfl | cases hp
theorem kit_B {d : D} (hp : isPl d = true) : kitB (tyn d) "bool" = some (isB d) := by
  cases d <;> first | exact kit_ib | rfl | cases hp
section
variable {K : PySem.W.Frag} {Z : Ec} {G : Sl} {Q : R → Sl → Prop}
theorem wC_isT {d : D} (h : okD d = true) (q : Q (.sh (.bl (isT d))) G) : wC K Z (rIsi K) [.sh d, .sh (.ty "tuple")] G Q := wC_isi rfl (okD_pl h) (kit_T (okD_pl h)) q
theorem wC_isS {d : D} (h : okD d = true) (q : Q (.sh (.bl (isStr d))) G) : wC K Z (rIsi K) [.sh d, .sh (.ty "str")] G Q := wC_isi rfl (okD_pl h) (kit_S (okD_pl h)) q
theorem wC_isI {d : D} (h : okD d = true) (q : Q (.sh (.bl (isIB d))) G) : wC K Z (rIsi K) [.sh d, .sh (.ty "int")] G Q := wC_isi rfl (okD_pl h) (kit_I (okD_pl h)) q
theorem wC_isB {d : D} (h : okD d = true) (q : Q (.sh (.bl (isB d))) G) : wC K Z (rIsi K) [.sh d, .sh (.ty "bool")] G Q := wC_isi rfl (okD_pl h) (kit_B (okD_pl h)) q
end
/-! #### is_place -/
def phi_is_place (_ : ErA) : Phi := fun ds Q _ => ∃ d, ds = [d] ∧ okD d = true ∧ Q (.sh (.bl (isI d)))
theorem len_is_place {C : ErA} : ∀ ds Q X, phi_is_place C ds Q X → ds.length = 1 := fun ds Q X h => by
  obtain ⟨_, rfl, _⟩ := h; rfl
theorem c_is_place {C : ErA} {d : D} {Q : R → Prop} {X : Value → Prop} (h : okD d = true) (q : Q (.sh (.bl (isI d)))) : phi_is_place C [d] Q X := ⟨d, rfl, h, q⟩
local macro_rules | `(tactic| walk_at "w") => `(tactic| ((with_reducible refine' wC_isT ?p ?_); (case p => assumption)))
local macro_rules | `(tactic| walk_at "w") => `(tactic| ((with_reducible refine' wC_isS ?p ?_); (case p => assumption)))
local macro_rules | `(tactic| walk_at "w") => `(tactic| ((with_reducible refine' wC_isI ?p ?_); (case p => assumption)))
local macro_rules | `(tactic| walk_at "w") => `(tactic| ((with_reducible refine' wC_isB ?p ?_); (case p => assumption)))
local macro_rules | `(tactic| walk_at "w") => `(tactic| ((with_reducible refine' c_is_place ?p ⟨Or.inl rfl, ?_⟩); (case p => assumption)))
abbrev N_is_place : List Str := ["thing"]
def t_is_place (K : PySem.W.Frag) (C : ErA) : TS :=
  tRet (tAndV (tCB (rIsi K) (tCons (tVar 0) (tCons (tC (.ty "int")) tNil))) (tNotV (tCB (rIsi K) (tCons (tVar 0) (tCons (tC (.ty "bool")) tNil)))))
theorem w_is_place {K : PySem.W.Frag} {C : ErA} : ∀ ds Q X, phi_is_place C ds Q X → ∀ E, wS K ⟨E, X⟩ (t_is_place K C) (G0 N_is_place ds) (PoQ Q) := by
  intro ds Q X h E
  obtain ⟨d, rfl, hd, q⟩ := h
  show wS K _ (t_is_place K C) [.sh d] _
  unfold t_is_place
  walk_at "wgo"
  · rename_i h
    refine q_bl q ?_
    cases d <;> first | rfl | cases h
  · rename_i h
    refine q_bl q ?_
    cases d <;> first | rfl | cases h
/-! #### is_leaf -/
def anyR (rs : List Rl) (d : D) : Bool := (rsD rs).any fun e => eqD e d
theorem anyR_iff {rs : List Rl} {d : D} (h : noB d = true) : anyR rs d = true ↔ d ∈ rsD rs := by
  unfold anyR
  rw [List.any_eq_true]
  constructor
  · rintro ⟨e, he, h2⟩
    obtain ⟨r, hr, rfl⟩ := List.mem_map.mp he
    have := (eqD_iff _ _ (noB_rule r) h).mp h2
    rw [← this]; exact he
  · intro hd
    obtain ⟨r, hr, rfl⟩ := List.mem_map.mp hd
    exact ⟨_, hd, (eqD_iff _ _ (noB_rule r) h).mpr rfl⟩
theorem mem_rs2 {rs : List Rl} {n l : List Nat} : D.tup [tx n, tx l] ∈ rsD rs ↔ ∃ s, l = [s] ∧ Rl.sg n s ∈ rs := by
  rw [List.mem_map]
  constructor
  · rintro ⟨r, hr, e⟩
    cases r with
    | sg m s =>
      have e : D.tup [tx m, tx [s]] = D.tup [tx n, tx l] := e
      simp only [D.tup.injEq, List.cons.injEq, and_true] at e
      obtain ⟨e1, e2⟩ := e
      cases tx_inj e1
      exact ⟨s, (tx_inj e2).symm, hr⟩
    | fk m a b =>
      have e : D.tup [tx m, tx a, tx b] = D.tup [tx n, tx l] := e
      simp at e
  · rintro ⟨s, rfl, h⟩
    exact ⟨_, h, rfl⟩
theorem mem_rs3 {rs : List Rl} {n u v : List Nat} : D.tup [tx n, tx u, tx v] ∈ rsD rs ↔ Rl.fk n u v ∈ rs := by
  rw [List.mem_map]
  constructor
  · rintro ⟨r, hr, e⟩
    cases r with
    | sg m s =>
      have e : D.tup [tx m, tx [s]] = D.tup [tx n, tx u, tx v] := e
      simp at e
    | fk m a b =>
      have e : D.tup [tx m, tx a, tx b] = D.tup [tx n, tx u, tx v] := e
      simp only [D.tup.injEq, List.cons.injEq, and_true] at e
      obtain ⟨e1, e2, e3⟩ := e
      cases tx_inj e1
      cases tx_inj e2
      cases tx_inj e3
      exact hr
  · intro h
    exact ⟨_, h, rfl⟩
/-- a leaf by the rules, wherever it lies -/
def LeafP (rs : List Rl) (x0 x1 x2 x3 x4 : D) : Prop := ∃ n s b e, x0 = tx n ∧ x1 = tx [s] ∧ x2 = .int b ∧ x3 = .int e ∧ Rl.sg n s ∈ rs ∧ (b = e → x4 = .non) ∧ (b ≠ e → ∃ k : Int, x4 = .int k ∧ b ≤ k ∧ k < e)
def phi_is_leaf (_ : ErA) : Phi := fun ds Q _ => ∃ (rs : List Rl) (x0 x1 x2 x3 x4 : D), ds = [.tup [x0, x1, x2, x3, x4], .lst (rsD rs)] ∧ okA [x0, x1, x2, x3, x4] = true ∧ (∀ r ∈ rs, r.ok = true) ∧ ∀ b : Bool, (b = true ↔ LeafP rs x0 x1 x2 x3 x4) → Q (.sh (.bl b))
theorem len_is_leaf {C : ErA} : ∀ ds Q X, phi_is_leaf C ds Q X → ds.length = 2 := fun ds Q X h => by
  obtain ⟨_, _, _, _, _, _, rfl, _⟩ := h; rfl
theorem c_is_leaf {C : ErA} {rs : List Rl} {x0 x1 x2 x3 x4 : D} {Q : R → Prop} {X : Value → Prop} (h1 : okA [x0, x1, x2, x3, x4] = true) (h2 : ∀ r ∈ rs, r.ok = true) (q : ∀ b : Bool, (b = true ↔ LeafP rs x0 x1 x2 x3 x4) → Q (.sh (.bl b))) : phi_is_leaf C [.tup [x0, x1, x2, x3, x4], .lst (rsD rs)] Q X := ⟨rs, x0, x1, x2, x3, x4, rfl, h1, h2, q⟩
theorem leafP_iff {rs : List Rl} {n l : List Nat} {b e : Int} {x4 : D} : LeafP rs (tx n) (tx l) (.int b) (.int e) x4 ↔ (∃ s, l = [s] ∧ Rl.sg n s ∈ rs) ∧ (b = e → x4 = .non) ∧ (b ≠ e → ∃ k : Int, x4 = .int k ∧ b ≤ k ∧ k < e) := by
  constructor
  · rintro ⟨n', s, b', e', e0, e1, e2, e3, h1, h2, h3⟩
    cases tx_inj e0
    cases tx_inj e1
    cases e2; cases e3
    exact ⟨⟨s, rfl, h1⟩, h2, h3⟩
  · rintro ⟨⟨s, rfl, h1⟩, h2, h3⟩
    exact ⟨n, s, b, e, rfl, rfl, rfl, rfl, h1, h2, h3⟩
/-! ### trees that hold -/
/-- d is a tree of n over the stretch from p to r -/
inductive Hold (rs : List Rl) : D → Name → Int → Int → Prop where
  | leaf {n : Name} {x1 x2 x3 x4 : D} {p r : Int} : LeafP rs (tx n) x1 x2 x3 x4 → x2 = .int p → x3 = .int r → p ≤ r → Hold rs (.tup [tx n, x1, x2, x3, x4]) n p r
  | fork {n u v : Name} {x y : D} {p q r : Int} : Rl.fk n u v ∈ rs → Hold rs x u p q → Hold rs y v q r → Hold rs (.tup [tx n, x, y]) n p r
def HoldL (rs : List Rl) (L : Int) : List (D × Name) → Int → Prop
  | [], p => p = L
  | w :: ws, p => ∃ r, Hold rs w.1 w.2 p r ∧ HoldL rs L ws r
def hdN : D → Option Name
  | .tup (.str s :: _) => some s.cps.toList
  | _ => none
theorem Hold.hd {rs : List Rl} {d : D} {n : Name} {p r : Int} (h : Hold rs d n p r) : hdN d = some n := by
  cases h <;> rfl
theorem Hold.tup {rs : List Rl} {d : D} {n : Name} {p r : Int} (h : Hold rs d n p r) : (∃ x1 x2 x3 x4, d = .tup [tx n, x1, x2, x3, x4]) ∨ ∃ x y, d = .tup [tx n, x, y] := by
  cases h with
  | leaf _ _ _ _ => exact .inl ⟨_, _, _, _, rfl⟩
  | fork _ _ _ => exact .inr ⟨_, _, rfl⟩
theorem hold_leaf {rs : List Rl} {n : Name} {x1 x2 x3 x4 : D} {p r : Int} : Hold rs (.tup [tx n, x1, x2, x3, x4]) n p r ↔ LeafP rs (tx n) x1 x2 x3 x4 ∧ x2 = .int p ∧ x3 = .int r ∧ p ≤ r := by
  constructor
  · intro h
    cases h with
    | leaf a b c d => exact ⟨a, b, c, d⟩
  · rintro ⟨a, b, c, d⟩
    exact .leaf a b c d
theorem hold_fork {rs : List Rl} {n : Name} {x y : D} {p r : Int} : Hold rs (.tup [tx n, x, y]) n p r ↔ ∃ u v q, Rl.fk n u v ∈ rs ∧ Hold rs x u p q ∧ Hold rs y v q r := by
  constructor
  · intro h
    cases h with
    | fork a b c => exact ⟨_, _, _, a, b, c⟩
  · rintro ⟨u, v, q, a, b, c⟩
    exact .fork a b c
mutual
def dsz : D → Nat
  | .tup l => dszA l + 1
  | _ => 1
def dszA : List D → Nat
  | [] => 0
  | d :: l => dsz d + dszA l
end
theorem dsz_pos (d : D) : 1 ≤ dsz d := by
  cases d <;> (unfold dsz; omega)
theorem dsz_fork (a x y : D) : dsz (.tup [a, x, y]) = dsz a + (dsz x + (dsz y + 0)) + 1 := by
  show dszA [a, x, y] + 1 = _
  simp only [dszA]
def hsD (ws : List (D × Name)) : List D := (ws.map fun w => D.tup [w.1, tx w.2]).reverse
theorem hsD_cons (w : D × Name) (ws : List (D × Name)) : hsD (w :: ws) = hsD ws ++ [.tup [w.1, tx w.2]] := by
  unfold hsD
  rw [List.map_cons, List.reverse_cons]
theorem hsD_len (ws : List (D × Name)) : (hsD ws).length = ws.length := by unfold hsD; simp
theorem hsz_le (ws : List (D × Name)) : ws.length ≤ (ws.map fun w => dsz w.1).sum := by
  induction ws with
  | nil => exact Nat.le_refl _
  | cons w ws ih =>
    rw [List.map_cons, List.sum_cons, List.length_cons]
    have := dsz_pos w.1
    omega
def hdF (d : D) : Option D := (hdN d).map tx
def phi_holds (_ : ErA) : Phi := fun ds Q _ => ∃ (rs : List Rl) (t : List Nat) (d : D), ds = [.lst (rsD rs), tx t, d] ∧ Gram rs ∧ t.length ≤ 1000 ∧ okD d = true ∧ dsz d ≤ 400000 ∧ ∀ b : Bool, (b = true ↔ Hold rs d (topN rs) 0 ((t.length : Nat) : Int)) → Q (.sh (.bl b))
theorem len_holds {C : ErA} : ∀ ds Q X, phi_holds C ds Q X → ds.length = 3 := fun ds Q X h => by
  obtain ⟨_, _, _, rfl, _⟩ := h; rfl
theorem c_holds {C : ErA} {rs : List Rl} {t : List Nat} {d : D} {Q : R → Prop} {X : Value → Prop} (h1 : Gram rs) (h2 : t.length ≤ 1000) (h3 : okD d = true) (h4 : dsz d ≤ 400000) (q : ∀ b : Bool, (b = true ↔ Hold rs d (topN rs) 0 ((t.length : Nat) : Int)) → Q (.sh (.bl b))) : phi_holds C [.lst (rsD rs), tx t, d] Q X := ⟨rs, t, d, rfl, h1, h2, h3, h4, q⟩
section
local macro_rules | `(tactic| walk_at "w") => `(tactic| ((with_reducible refine' PL.wC_isi ?h ?p ?b ?_); (case h => exact rfl); (case p => exact rfl); (case b => exact rfl)))
theorem hold_not {rs : List Rl} {d : D} {n : Name} {p : Int} (h : hdN d ≠ some n) : ∀ r, ¬ Hold rs d n p r := fun r hr => h hr.hd
theorem hold_len {rs : List Rl} {l : List D} {n : Name} {p : Int} (h3 : l.length ≠ 3) (h5 : l.length ≠ 5) : ∀ r, ¬ Hold rs (.tup l) n p r := fun r hr => by
  rcases hr.tup with ⟨x1, x2, x3, x4, e⟩ | ⟨x, y, e⟩
  · cases e; exact h5 rfl
  · cases e; exact h3 rfl
theorem holdL_fork {rs : List Rl} {L : Int} {n u v : Name} {x y : D} {ws : List (D × Name)} {p : Int} (hm : Rl.fk n u v ∈ rs) (hx : hdN x = some u) (hy : hdN y = some v) : HoldL rs L ((.tup [tx n, x, y], n) :: ws) p ↔ HoldL rs L ((x, u) :: (y, v) :: ws) p := by
  constructor
  · rintro ⟨r, h, hw⟩
    obtain ⟨u', v', q, g1, g2, g3⟩ := hold_fork.mp h
    have e1 := g2.hd.symm.trans hx
    have e2 := g3.hd.symm.trans hy
    cases e1; cases e2
    exact ⟨q, g2, r, g3, hw⟩
  · rintro ⟨q, g2, r, g3, hw⟩
    exact ⟨r, .fork hm g2 g3, hw⟩
theorem hold_nofork {rs : List Rl} {n : Name} {x y : D} {p : Int} (h : ∀ u v, hdN x = some u → hdN y = some v → Rl.fk n u v ∉ rs) : ∀ r, ¬ Hold rs (.tup [tx n, x, y]) n p r := fun r hr => by
  obtain ⟨u, v, q, g1, g2, g3⟩ := hold_fork.mp hr
  exact h u v g2.hd g3.hd g1
theorem okD_hd {d : D} {n : Name} (h : okD d = true) (hd : hdN d = some n) : ∃ l, d = .tup (tx n :: l) ∧ Tx n := by
  cases d with
  | tup l =>
    cases l with
    | nil => cases hd
    | cons a l =>
      cases a with
      | str s =>
        cases hd
        exact ⟨l, by rw [show tx s.cps.toList = D.str s from congrArg D.str (mk_of s).symm], okD_str (okA_mem (okD_tup h) List.mem_cons_self)⟩
      | _ => cases hd
  | _ => cases hd
theorem holds_part {K : PySem.W.Frag} {Z : Ec} {G : Sl} {d : D} (h : okD d = true) (hj : Nat.blt 8 G.length = true) (hk : ∀ d : D, keepOw G ((G.set 8 .no).set 8 (.sh d))) :
    LcEl K Z (tAnd (tTru K (tCB (rIsi K) (tCons (tVar 8) (tCons (tC (.ty "tuple")) tNil)))) (tAnd (tTru K (tVar 8)) (tTru K (tCB (rIsi K) (tCons (tOp (rIx K) (tVar 8) (tC (.int 0))) (tCons (tC (.ty "str")) tNil)))))) (tOp (rIx K) (tVar 8) (tC (.int 0))) 8 hdF G d := by
  have hg : ((G.set 8 .no).set 8 (.sh d))[8]? = some (.sh d) := List.getElem?_set_self (by rw [List.length_set]; exact blt_lt hj)
  have hk := hk d
  unfold LcEl
  generalize (G.set 8 .no).set 8 (.sh d) = G1 at hg hk
  refine wT_and ?_
  refine wT_tru ?_
  refine wE_cb ?_
  refine wA_cons (wE_var hg ?_)
  walk_at "wgo"
  · rename_i hT
    obtain ⟨l, rfl⟩ := isT_of hT
    refine wE_var hg ?_
    cases l with
    | nil =>
      walk_at "wgo"
      · exact ⟨rfl, hk⟩
      · rename_i z
        cases z
    | cons y l =>
      have oy := okA_mem (okD_tup h) (d := y) List.mem_cons_self
      walk_at "wgo"
      · rename_i z
        cases z
      refine wE_var hg ?_
      walk_at "wgo"
      refine u_ixT (atI_at (Int.le_refl 0) rfl) ?_
      walk_at "wgo"
      · rename_i hs
        obtain ⟨m, rfl⟩ := isStr_of hs
        refine wE_var hg ?_
        walk_at "wgo"
        refine u_ixT (atI_at (Int.le_refl 0) rfl) ?_
        exact ⟨_, rfl, rfl, hk⟩
      · rename_i hs
        refine ⟨?_, hk⟩
        cases y <;> first | (cases hs; done) | rfl
  · rename_i hT
    refine ⟨?_, hk⟩
    cases d <;> first | (cases hT; done) | rfl
end


/-! ### cost_of -/
def lcF (t : List Nat) : Tr → Nat
  | .leaf _ s b e k => match k with
    | none => 1
    | some p => e - b - (if t[p]? = some s then 1 else 0)
  | .fork _ _ _ => 0
def costF (t : List Nat) (l : List Tr) : Nat := (l.map (lcF t)).sum
theorem costF_snoc (t : List Nat) (l : List Tr) (x : Tr) : costF t (l ++ [x]) = costF t l + lcF t x := by
  unfold costF
  rw [List.map_append, List.sum_append]
  show _ + (lcF t x + 0) = _
  omega
def phi_cost_of (_ : ErA) : Phi := fun ds Q _ => ∃ T t, ds = [treeD T, tx t] ∧ T.sz ≤ 400000 ∧ t.length ≤ 1000 ∧ (∀ x ∈ T.lfs, LfOk t x) ∧ Q (.sh (.int ((costF t T.lfs : Nat) : Int)))
theorem len_cost_of {C : ErA} : ∀ ds Q X, phi_cost_of C ds Q X → ds.length = 2 := fun ds Q X h => by
  obtain ⟨_, _, rfl, _⟩ := h; rfl
theorem c_cost_of {C : ErA} {T : Tr} {t : List Nat} {Q : R → Prop} {X : Value → Prop} (h : T.sz ≤ 400000) (h2 : t.length ≤ 1000) (h4 : ∀ x ∈ T.lfs, LfOk t x) (q : Q (.sh (.int ((costF t T.lfs : Nat) : Int)))) : phi_cost_of C [treeD T, tx t] Q X := ⟨T, t, rfl, h, h2, h4, q⟩
section
local macro_rules | `(tactic| walk_at "w") => `(tactic| ((with_reducible refine' PL.wC_isi ?h ?p ?b ?_); (case h => exact rfl); (case p => exact rfl); (case b => exact rfl)))
/-! ### deeds done -/
def signOf : D → Option Nat
  | .str s => match s.cps.toList with
    | [c] => if c ∈ signsL then some c else none
    | _ => none
  | _ => none
theorem signOf_tx {l : List Nat} : signOf (tx l) = match l with
    | [c] => if c ∈ signsL then some c else none
    | _ => none := rfl
theorem isSign_iff {d : D} : isSignD d = (signOf d).isSome := by
  cases d with
  | str s =>
    show isSignL s.cps.toList = (match s.cps.toList with
      | [c] => if c ∈ signsL then some c else none
      | _ => none).isSome
    match s.cps.toList with
    | [] => rfl
    | [c] =>
      show decide (c ∈ signsL) = (if c ∈ signsL then some c else none).isSome
      by_cases h : c ∈ signsL
      · rw [decide_eq_true h, if_pos h]; rfl
      · rw [decide_eq_false h, if_neg h]; rfl
    | _ :: _ :: _ => rfl
  | _ => rfl
theorem signOf_some {d : D} {c : Nat} (h : signOf d = some c) : d = tx [c] ∧ c ∈ signsL := by
  cases d with
  | str s =>
    have h : (match s.cps.toList with
      | [c] => if c ∈ signsL then some c else none
      | _ => none) = some c := h
    split at h
    · rename_i c' e
      split at h
      · rename_i hm
        cases h
        exact ⟨by rw [mk_of s, e], hm⟩
      · cases h
    · cases h
  | _ => cases h
/-- what one deed at the place p does: the signs, the next place -/
def deedS (t : List Nat) (p : Nat) : D → Option (List Nat × Nat)
  | .tup [.str w, .int q] => if q = ((p : Nat) : Int) ∧ p < t.length then (if w.cps.toList = keepL then some ([t.getD p 0], p + 1) else if w.cps.toList = cutL then some ([], p + 1) else none) else none
  | .tup [.str w, .int q, x] => match signOf x with
    | some c => if q = ((p : Nat) : Int) then (if w.cps.toList = putL then some ([c], p) else if w.cps.toList = chgL ∧ p < t.length then some ([c], p + 1) else none) else none
    | none => none
  | _ => none
def doneS (t : List Nat) : Nat → List Nat → List D → Option (List Nat)
  | p, acc, [] => if p = t.length then some acc else none
  | p, acc, d :: ds => match deedS t p d with
    | some (u, p') => doneS t p' (acc ++ u) ds
    | none => none
def phi_need_deed (C : ErA) : Phi := fun ds Q X => ∃ (t : List Nat) (d : D) (p : Nat), ds = [d, .int ((p : Nat) : Int), .int ((t.length : Nat) : Int)] ∧ okD d = true ∧ (deedS t p d = none → X (.ref C.deeds)) ∧ (∀ u p', deedS t p d = some (u, p') → Q (.sh .non))
theorem len_need_deed {C : ErA} : ∀ ds Q X, phi_need_deed C ds Q X → ds.length = 3 := fun ds Q X h => by
  obtain ⟨_, _, _, rfl, _⟩ := h; rfl
theorem c_need_deed {C : ErA} {t : List Nat} {d : D} {p : Nat} {Q : R → Prop} {X : Value → Prop} (h : okD d = true) (h1 : deedS t p d = none → X (.ref C.deeds)) (h2 : ∀ u p', deedS t p d = some (u, p') → Q (.sh .non)) : phi_need_deed C [d, .int ((p : Nat) : Int), .int ((t.length : Nat) : Int)] Q X := ⟨t, d, p, rfl, h, h1, h2⟩
def wantK : List (Key × V) := [(.inr (mk putL), .int 3), (.inr (mk chgL), .int 3), (.inr (mk keepL), .int 2), (.inr (mk cutL), .int 2)]
theorem wantK_merge : mergeK [] wantK = wantK := by decide +kernel
def wantN (w : List Nat) : Option Int := if w = putL then some 3 else if w = chgL then some 3 else if w = keepL then some 2 else if w = cutL then some 2 else none
theorem valV_want (w : List Nat) : valV wantK (.inr (mk w)) = (wantN w).map V.int := by
  unfold wantK wantN
  have h : ∀ {l : List Nat} {v : V} {r : List (Key × V)}, valV ((.inr (mk l), v) :: r) (.inr (mk w)) = if w = l then some v else valV r (.inr (mk w)) := fun {l v r} => by
    by_cases e : w = l
    · rw [if_pos e, valV_pos (keyN_inj.mpr e.symm)]
    · rw [if_neg e, valV_neg (fun z => e (keyN_inj.mp z).symm)]
  rw [h, h, h, h]
  by_cases h1 : w = putL
  · rw [if_pos h1, if_pos h1]; rfl
  · rw [if_neg h1, if_neg h1]
    by_cases h2 : w = chgL
    · rw [if_pos h2, if_pos h2]; rfl
    · rw [if_neg h2, if_neg h2]
      by_cases h3 : w = keepL
      · rw [if_pos h3, if_pos h3]; rfl
      · rw [if_neg h3, if_neg h3]
        by_cases h4 : w = cutL
        · rw [if_pos h4, if_pos h4]; rfl
        · rw [if_neg h4, if_neg h4]; rfl
def wantD (w : List Nat) : D := match wantN w with
  | some i => .int i
  | none => .non
theorem look_want (w : List Nat) : look (.k wantK) (tx w) = some ((wantN w).map V.int) := by
  show some (valV wantK (.inr (mk w))) = _
  rw [valV_want]
theorem wantD_v (w : List Nat) : vD (((wantN w).map V.int).getD .non) = some (wantD w) := by
  unfold wantD
  cases wantN w <;> rfl
theorem wantD_dat (w : List Nat) : dat 64 (wantD w) = true := by
  unfold wantD
  cases wantN w <;> rfl
theorem wantD_eq (w : List Nat) (n : Int) : eqD (wantD w) (.int n) = decide (wantN w = some n) := by
  have h := eqD_iff (wantD w) (.int n) (by unfold wantD; cases wantN w <;> rfl) rfl
  have e : (wantD w = .int n) ↔ wantN w = some n := by
    unfold wantD
    cases wantN w with
    | none => exact ⟨fun e => (by cases e), fun e => (by cases e)⟩
    | some i => exact ⟨fun e => (by cases e; rfl), fun e => (by cases e; rfl)⟩
  show PyData.eqv _ _ = _
  by_cases q : wantN w = some n
  · rw [decide_eq_true q]; exact h.mpr (e.mpr q)
  · rw [decide_eq_false q]
    exact Bool.eq_false_iff.mpr fun z => q (e.mp (h.mp z))
theorem want2 {w : List Nat} (h : wantN w = some 2) : w = keepL ∨ w = cutL := by
  unfold wantN at h
  split at h
  · cases h
  · split at h
    · cases h
    · split at h
      · rename_i e; exact .inl e
      · split at h
        · rename_i e; exact .inr e
        · cases h
theorem want3 {w : List Nat} (h : wantN w = some 3) : w = putL ∨ w = chgL := by
  unfold wantN at h
  split at h
  · rename_i e; exact .inl e
  · split at h
    · rename_i e; exact .inr e
    · split at h
      · cases h
      · split at h <;> cases h
theorem deedS2 {t : List Nat} {p : Nat} {w : List Nat} {q : Int} : deedS t p (.tup [tx w, .int q]) = if q = ((p : Nat) : Int) ∧ p < t.length then (if w = keepL then some ([t.getD p 0], p + 1) else if w = cutL then some ([], p + 1) else none) else none := rfl
theorem deedS3 {t : List Nat} {p : Nat} {w : List Nat} {q : Int} {x : D} : deedS t p (.tup [tx w, .int q, x]) = match signOf x with
    | some c => if q = ((p : Nat) : Int) then (if w = putL then some ([c], p) else if w = chgL ∧ p < t.length then some ([c], p + 1) else none) else none
    | none => none := rfl
theorem deedS2_n {t : List Nat} {p : Nat} {w : List Nat} {x : D} (h : ¬ wantN w = some 2) : deedS t p (.tup [tx w, x]) = none := by
  cases x with
  | int q =>
    rw [deedS2]
    by_cases h1 : w = keepL
    · subst h1; exact absurd rfl h
    · by_cases h2 : w = cutL
      · subst h2; exact absurd rfl h
      · rw [if_neg h1, if_neg h2, ite_self]
  | _ => rfl
theorem deedS3_n {t : List Nat} {p : Nat} {w : List Nat} {x y : D} (h : ¬ wantN w = some 3) : deedS t p (.tup [tx w, x, y]) = none := by
  cases x with
  | int q =>
    rw [deedS3]
    by_cases h1 : w = putL
    · subst h1; exact absurd rfl h
    · by_cases h2 : w = chgL
      · subst h2; exact absurd rfl h
      · have h3 : ¬ (w = chgL ∧ p < t.length) := fun z => h2 z.1
        cases signOf y with
        | none => rfl
        | some c =>
          show (if _ then (if w = putL then _ else if w = chgL ∧ p < t.length then _ else _) else _) = _
          rw [if_neg h1, if_neg h3, ite_self]
  | _ => rfl
abbrev N_need_deed : List Str := ["deed", "place", "size", "wanted"]
def t_need_deed (K : PySem.W.Frag) (C : ErA) (E : XK) : TS :=
  tSeq (tIfS (tOr (tNot (tTru K (tCB (rIsi K) (tCons (tVar 0) (tCons (tC (.ty "tuple")) tNil))))) (tOr (tTest (tOp (uNin K) (tCB (cLen K) (tCons (tVar 0) tNil)) (tTup (tCons (tC (.int 2)) (tCons (tC (.int 3)) tNil))))) (tNot (tTru K (tCB (rIsi K) (tCons (tOp (rIx K) (tVar 0) (tC (.int 0))) (tCons (tC (.ty "str")) tNil))))))) (tRaise E (.ref C.deeds)) tNext) (tSeq (tAsg (tDisp [((tC (.str (mk [112, 117, 116]))), (tC (.int 3))), ((tC (.str (mk [99, 104, 97, 110, 103, 101]))), (tC (.int 3))), ((tC (.str (mk [107, 101, 101, 112]))), (tC (.int 2))), ((tC (.str (mk [99, 117, 116]))), (tC (.int 2)))]) (gName 3)) (tSeq (tIfS (tOr (tTest (tOp (uNe K) (tDGet1 (tVar 3) (tOp (rIx K) (tVar 0) (tC (.int 0)))) (tCB (cLen K) (tCons (tVar 0) tNil)))) (tOr (tNot (tTru K (tCall (mkSp K (phi_is_place C)) [] E0 (tCons (tOp (rIx K) (tVar 0) (tC (.int 1))) tNil)))) (tTest (tOp (uNe K) (tOp (rIx K) (tVar 0) (tC (.int 1))) (tVar 1))))) (tRaise E (.ref C.deeds)) tNext) (tSeq (tIfS (tAnd (tTest (tOp (uEq K) (tCB (cLen K) (tCons (tVar 0) tNil)) (tC (.int 3)))) (tNot (tTru K (tCall (mkSp K (phi_is_sign C)) [] E0 (tCons (tOp (rIx K) (tVar 0) (tC (.int 2))) tNil))))) (tRaise E (.ref C.deeds)) tNext) (tIfS (tAnd (tTest (tOp (uNe K) (tOp (rIx K) (tVar 0) (tC (.int 0))) (tC (.str (mk [112, 117, 116]))))) (tTest (tOp (rI0 fun i j => .bl (decide (j ≤ i))) (tVar 1) (tVar 2)))) (tRaise E (.ref C.deeds)) tNext))))
theorem w_need_deed {K : PySem.W.Frag} {C : ErA} : ∀ ds Q X, phi_need_deed C ds Q X → ∀ E, wS K ⟨E, X⟩ (t_need_deed K C E) (G0 N_need_deed ds) (PoQ Q) := by
  intro ds Q X h E
  obtain ⟨t, d, p, rfl, hok, hx, q⟩ := h
  show wS K _ (t_need_deed K C E) [.sh d, .sh (.int ((p : Nat) : Int)), .sh (.int ((t.length : Nat) : Int)), .no] _
  unfold t_need_deed
  by_cases hT : ∃ l, d = .tup l
  · obtain ⟨l, rfl⟩ := hT
    have hokl := okD_tup hok
    by_cases hl2 : ∃ x0 x1, l = [x0, x1]
    · obtain ⟨x0, x1, rfl⟩ := hl2
      have o0 := okA_mem hokl (d := x0) (by simp)
      have o1 := okA_mem hokl (d := x1) (by simp)
      walk_at "wgo"
      · rename_i h0
        obtain ⟨w, rfl⟩ := isStr_of h0
        refine wE_dispC wantK rfl fun a3 => ?_
        rw [wantK_merge]
        walk_at "wgo"
        refine wE_dget1 ?_
        walk_at "wgo"
        refine ⟨_, _, _, _, rfl, rfl, look_want w, wantD_v w, ?_⟩
        walk_at "wgo"
        refine u_neD rfl rfl (wantD_dat w) rfl ?_
        rw [wantD_eq]
        walk_at "wgo"
        · rename_i hw hi
          obtain ⟨qn, rfl⟩ := isI_of hi
          rcases want2 hw with rfl | rfl
          · walk_at "wgo"
            · rename_i z
              exact absurd z (by decide)
            · rename_i e1 _ e2
              refine hx ?_
              rw [deedS2, if_neg (fun z => by omega)]
            · rename_i e1 _ e2
              refine q [t.getD p 0] (p + 1) ?_
              rw [deedS2, if_pos ⟨e1, by omega⟩, if_pos rfl]
            · rename_i e1
              refine hx ?_
              rw [deedS2, if_neg (fun z => e1 z.1)]
          · walk_at "wgo"
            · rename_i z
              exact absurd z (by decide)
            · rename_i e1 _ e2
              refine hx ?_
              rw [deedS2, if_neg (fun z => by omega)]
            · rename_i e1 _ e2
              refine q [] (p + 1) ?_
              rw [deedS2, if_pos ⟨e1, by omega⟩, if_neg (by decide), if_pos rfl]
            · rename_i e1
              refine hx ?_
              rw [deedS2, if_neg (fun z => e1 z.1)]
        · rename_i hw hi
          refine hx ?_
          cases x1 <;> first | (cases hi; done) | rfl
        · rename_i hw
          exact hx (deedS2_n hw)
      · rename_i h0
        refine hx ?_
        cases x0 <;> first | (cases h0; done) | rfl
    · by_cases hl3 : ∃ x0 x1 x2, l = [x0, x1, x2]
      · obtain ⟨x0, x1, x2, rfl⟩ := hl3
        have o0 := okA_mem hokl (d := x0) (by simp)
        have o1 := okA_mem hokl (d := x1) (by simp)
        have o2 := okA_mem hokl (d := x2) (by simp)
        have pl2 := okD_plain o2
        walk_at "wgo"
        · rename_i h0
          obtain ⟨w, rfl⟩ := isStr_of h0
          refine wE_dispC wantK rfl fun a3 => ?_
          rw [wantK_merge]
          walk_at "wgo"
          refine wE_dget1 ?_
          walk_at "wgo"
          refine ⟨_, _, _, _, rfl, rfl, look_want w, wantD_v w, ?_⟩
          walk_at "wgo"
          refine u_neD rfl rfl (wantD_dat w) rfl ?_
          rw [wantD_eq]
          walk_at "wgo"
          · rename_i hw hi
            obtain ⟨qn, rfl⟩ := isI_of hi
            walk_at "wgo"
            · rename_i e1 hs e2
              rw [isSign_iff] at hs
              obtain ⟨c, hc⟩ := Option.isSome_iff_exists.mp hs
              refine q [c] p ?_
              rw [deedS3, hc]
              show (if _ then _ else _) = _
              rw [if_pos e1, if_pos (show w = putL from e2)]
            · rename_i e1 hs e2 e3
              refine hx ?_
              rw [deedS3]
              cases signOf x2 with
              | none => rfl
              | some c =>
                show (if _ then (if w = putL then _ else if w = chgL ∧ p < t.length then _ else _) else _) = _
                rw [if_pos e1, if_neg (show ¬ w = putL from e2), if_neg (fun z => by have := z.2; omega)]
            · rename_i e1 hs e2 e3
              rw [isSign_iff] at hs
              obtain ⟨c, hc⟩ := Option.isSome_iff_exists.mp hs
              refine q [c] (p + 1) ?_
              have hwc : w = chgL := (want3 hw).resolve_left e2
              rw [deedS3, hc]
              show (if _ then (if w = putL then _ else if w = chgL ∧ p < t.length then _ else _) else _) = _
              rw [if_pos e1, if_neg (show ¬ w = putL from e2), if_pos ⟨hwc, by omega⟩]
            · rename_i e1 hs
              refine hx ?_
              rw [isSign_iff] at hs
              rw [deedS3]
              cases hc : signOf x2 with
              | none => rfl
              | some c => rw [hc] at hs; cases hs
            · rename_i e1
              refine hx ?_
              rw [deedS3]
              cases signOf x2 with
              | none => rfl
              | some c =>
                show (if _ then _ else _) = _
                rw [if_neg e1]
          · rename_i hw hi
            refine hx ?_
            cases x1 <;> first | (cases hi; done) | rfl
          · rename_i hw
            exact hx (deedS3_n hw)
        · rename_i h0
          refine hx ?_
          cases x0 <;> first | (cases h0; done) | rfl
      · have n2 : l.length ≠ 2 := fun e => hl2 (by
          match l, e with
          | [a, b], _ => exact ⟨a, b, rfl⟩)
        have n3 : l.length ≠ 3 := fun e => hl3 (by
          match l, e with
          | [a, b, c], _ => exact ⟨a, b, c, rfl⟩)
        walk_at "wgo"
        refine hx ?_
        match l, n2, n3 with
        | [], _, _ => rfl
        | [a], _, _ => cases a <;> rfl
        | [a, b], h, _ => exact absurd rfl h
        | [a, b, c], _, h => exact absurd rfl h
        | a :: b :: c :: e :: r, _, _ => cases a <;> first | rfl | (cases b <;> rfl)
  · walk_at "wgo"
    · rename_i h
      obtain ⟨l, e⟩ := isT_of h
      exact absurd ⟨l, e⟩ hT
    · refine hx ?_
      cases d <;> first | rfl | exact absurd ⟨_, rfl⟩ hT

theorem deedS_inv {t : List Nat} {p p' : Nat} {d : D} {u : List Nat} (h : deedS t p d = some (u, p')) :
    (d = .tup [tx keepL, .int ((p : Nat) : Int)] ∧ u = [t.getD p 0] ∧ p' = p + 1 ∧ p < t.length) ∨ (d = .tup [tx cutL, .int ((p : Nat) : Int)] ∧ u = [] ∧ p' = p + 1 ∧ p < t.length) ∨
    (∃ c, d = .tup [tx putL, .int ((p : Nat) : Int), tx [c]] ∧ u = [c] ∧ p' = p ∧ c ∈ signsL) ∨ ∃ c, d = .tup [tx chgL, .int ((p : Nat) : Int), tx [c]] ∧ u = [c] ∧ p' = p + 1 ∧ p < t.length ∧ c ∈ signsL := by
  unfold deedS at h
  split at h
  · rename_i w q
    split at h
    · rename_i hq
      obtain ⟨rfl, hl⟩ := hq
      split at h
      · rename_i hw
        cases h
        exact .inl ⟨by rw [mk_of w, hw], rfl, rfl, hl⟩
      · split at h
        · rename_i hw
          cases h
          exact .inr (.inl ⟨by rw [mk_of w, hw], rfl, rfl, hl⟩)
        · cases h
    · cases h
  · rename_i w q x
    split at h
    · rename_i c hc
      obtain ⟨rfl, hs⟩ := signOf_some hc
      split at h
      · rename_i hq
        subst hq
        split at h
        · rename_i hw
          cases h
          exact .inr (.inr (.inl ⟨c, by rw [mk_of w, hw], rfl, rfl, hs⟩))
        · split at h
          · rename_i hw
            cases h
            exact .inr (.inr (.inr ⟨c, by rw [mk_of w, hw.1], rfl, rfl, hw.2, hs⟩))
          · cases h
      · cases h
    · cases h
  · cases h
def phi_done (C : ErA) : Phi := fun ds Q X => ∃ (t : List Nat) (l : List D), ds = [tx t, .lst l] ∧ okA l = true ∧ t.length ≤ 1000 ∧ l.length ≤ 900000 ∧ (doneS t 0 [] l = none → X (.ref C.deeds)) ∧ ∀ w, doneS t 0 [] l = some w → Q (.sh (tx w))
theorem len_done {C : ErA} : ∀ ds Q X, phi_done C ds Q X → ds.length = 2 := fun ds Q X h => by
  obtain ⟨_, _, rfl, _⟩ := h; rfl
theorem c_done {C : ErA} {t : List Nat} {l : List D} {Q : R → Prop} {X : Value → Prop} (h1 : okA l = true) (h2 : t.length ≤ 1000) (h3 : l.length ≤ 900000) (hx : doneS t 0 [] l = none → X (.ref C.deeds)) (q : ∀ w, doneS t 0 [] l = some w → Q (.sh (tx w))) : phi_done C [tx t, .lst l] Q X := ⟨t, l, rfl, h1, h2, h3, hx, q⟩
theorem drop_at {α : Type} {l : List α} {k : Nat} {x : α} (h : l[k]? = some x) : l.drop k = x :: l.drop (k + 1) := by
  obtain ⟨h1, h2⟩ := List.getElem?_eq_some_iff.mp h
  rw [List.drop_eq_getElem_cons h1, h2]
abbrev N_done : List Str := ["text", "deeds", "found", "place", "deed"]
def t_done (K : PySem.W.Frag) (C : ErA) (E : XK) : TS :=
  tSeq (tAsg (tC (.str (mk []))) (gName 2)) (tSeq (tAsg (tC (.int 0)) (gName 3)) (tSeq (tFor (iList K (tVar 1)) (gName 4) (tSeq (tDrop (tCall (mkSp K (phi_need_deed C)) [] E (tCons (tVar 4) (tCons (tVar 3) (tCons (tCB (cLen K) (tCons (tVar 0) tNil)) tNil))))) (tSeq (tIfS (tTest (tOp (uEq K) (tOp (rIx K) (tVar 4) (tC (.int 0))) (tC (.str (mk [107, 101, 101, 112]))))) (tAsg (tOp (uAdd K) (tVar 2) (tOp (rIx K) (tVar 0) (tVar 3))) (gName 2)) (tIfS (tTest (tOp (uNe K) (tOp (rIx K) (tVar 4) (tC (.int 0))) (tC (.str (mk [99, 117, 116]))))) (tAsg (tOp (uAdd K) (tVar 2) (tOp (rIx K) (tVar 4) (tC (.int 2)))) (gName 2)) tNext)) (tIfS (tTest (tOp (uNe K) (tOp (rIx K) (tVar 4) (tC (.int 0))) (tC (.str (mk [112, 117, 116]))))) (tAsg (tOp (uAdd K) (tVar 3) (tC (.int 1))) (gName 3)) tNext)))) (tSeq (tIfS (tTest (tOp (uNe K) (tVar 3) (tCB (cLen K) (tCons (tVar 0) tNil)))) (tRaise E (.ref C.deeds)) tNext) (tRet (tVar 2)))))
theorem w_done {K : PySem.W.Frag} {C : ErA} : ∀ ds Q X, phi_done C ds Q X → ∀ E, wS K ⟨E, X⟩ (t_done K C E) (G0 N_done ds) (PoQ Q) := by
  intro ds Q X h E
  obtain ⟨t, l, rfl, hok, htl, hll, hx, q⟩ := h
  show wS K _ (t_done K C E) [.sh (tx t), .sh (.lst l), .no, .no, .no] _
  unfold t_done
  walk_at "wgo"
  refine wS_forL ?_
  walk_at "wgo"
  refine ⟨_, rfl, fun i G => ∃ acc p s4, G = [.sh (tx t), .sh (.lst l), .sh (tx acc), .sh (.int ((p : Nat) : Int)), s4] ∧ doneS t 0 [] l = doneS t p acc (l.drop i) ∧ acc.length ≤ i, ⟨[], 0, _, rfl, by rw [List.drop_zero], Nat.le_refl _⟩, fun i d G hd h => ?_, fun G h => ?_⟩
  · obtain ⟨acc, p, s4, rfl, he, hal⟩ := h
    have hil := (List.getElem?_eq_some_iff.mp hd).1
    have hdok := okA_mem hok (List.mem_of_getElem? hd)
    rw [drop_at hd] at he
    have he : doneS t 0 [] l = (match deedS t p d with
      | some (u, p') => doneS t p' (acc ++ u) (l.drop (i + 1))
      | none => none) := he
    refine wG_name ⟨rfl, ?_⟩
    walk_at "wgo"
    refine c_need_deed hdok (fun hn => hx (by rw [he, hn])) fun u p' hu => ⟨.inl rfl, ?_⟩
    rw [hu] at he
    have he2 : doneS t 0 [] l = doneS t p' (acc ++ u) (l.drop (i + 1)) := he
    walk_at "wnx"
    have k1 : ¬ keepL = [112, 117, 116] := by decide
    have k2 : ¬ cutL = [107, 101, 101, 112] := by decide
    have k3 : ¬ cutL = [112, 117, 116] := by decide
    have k4 : ¬ putL = [107, 101, 101, 112] := by decide
    have k5 : ¬ putL = [99, 117, 116] := by decide
    have k6 : ¬ chgL = [107, 101, 101, 112] := by decide
    have k7 : ¬ chgL = [99, 117, 116] := by decide
    have k8 : ¬ chgL = [112, 117, 116] := by decide
    rcases deedS_inv hu with ⟨rfl, rfl, rfl, hp⟩ | ⟨rfl, rfl, rfl, hp⟩ | ⟨c, rfl, rfl, rfl, hs⟩ | ⟨c, rfl, rfl, rfl, hp, hs⟩
    · walk_at "wgo"
      refine u_ixS (by omega) (i := ((p : Nat) : Int)) (c := t.getD p 0) (atI_nat (by rw [List.getD_eq_getElem?_getD, List.getElem?_eq_getElem hp]; rfl)) ?_
      walk_at "wgo"
      refine ⟨acc ++ [t.getD p 0], p + 1, .sh (.tup [tx keepL, .int ((p : Nat) : Int)]), ?_, he2, by rw [List.length_append, List.length_singleton]; omega⟩
      rw [show ((p + 1 : Nat) : Int) = (p : Int) + 1 by omega]
    · walk_at "wgo"
      rw [List.append_nil] at he2
      refine ⟨acc, p + 1, .sh (.tup [tx cutL, .int ((p : Nat) : Int)]), ?_, he2, by omega⟩
      rw [show ((p + 1 : Nat) : Int) = (p : Int) + 1 by omega]
    · walk_at "wgo"
      exact ⟨_, _, _, rfl, he2, by rw [List.length_append, List.length_singleton]; omega⟩
    · walk_at "wgo"
      refine ⟨acc ++ [c], p + 1, .sh (.tup [tx chgL, .int ((p : Nat) : Int), tx [c]]), ?_, he2, by rw [List.length_append, List.length_singleton]; omega⟩
      rw [show ((p + 1 : Nat) : Int) = (p : Int) + 1 by omega]
  · obtain ⟨acc, p, s4, rfl, he, hal⟩ := h
    rw [List.drop_length] at he
    have he : doneS t 0 [] l = if p = t.length then some acc else none := he
    walk_at "wgo"
    · rename_i h
      exact q acc (by rw [he, if_pos (by omega)])
    · rename_i h
      exact hx (by rw [he, if_neg (by omega)])
end


/-! ### told trees: leaves, deeds, any data -/
theorem keptF_lt {s : Nat} {t : List Nat} {b e p : Nat} (he : e ≤ t.length) (hb : b ≤ e) (h : keptF s t b e = some p) : b ≤ p ∧ p < e := by
  unfold keptF at h
  split at h
  · cases h
  · rename_i hne
    cases h
    cases hf : firstIx s ((t.drop b).take (e - b)) with
    | none => show b ≤ b + 0 ∧ b + 0 < e; omega
    | some i =>
      have := (List.getElem?_eq_some_iff.mp (firstIx_get hf).1).1
      rw [List.length_take, List.length_drop] at this
      show b ≤ b + i ∧ b + i < e
      omega
theorem leaf_ok {s : Nat} {t : List Nat} {b e : Nat} {n : Name} (hb : b ≤ e) (he : e ≤ t.length) : LfOk t (.leaf n s b e (keptF s t b e)) := by
  refine ⟨hb, he, fun hk => ?_, fun p hp => keptF_lt he hb hp⟩
  unfold keptF at hk
  split at hk
  · assumption
  · cases hk
theorem told_lf {rs : List Rl} {t : List Nat} {es : Tb} (hT : TabOk rs t es) {n : Name} {b e c : Nat} {T : Tr} (h : Told rs t es n b e c T) : e ≤ t.length → ∀ x ∈ T.lfs, LfOk t x := by
  induction h with
  | @leaf n s b e c h1 h2 =>
    intro he x hx
    cases List.mem_singleton.mp hx
    exact leaf_ok (hT.snd _ _ _ _ h1).le he
  | @fork n x y b k e c c1 c2 l r h1 h2 h3 t1 t2 i1 i2 =>
    intro he z hz
    have l2 := t2.le hT
    rcases List.mem_append.mp hz with hz | hz
    · exact i1 (by omega) z hz
    · exact i2 he z hz
theorem slice_at {t : List Nat} {b e i : Nat} (hi : i < e - b) : ((t.drop b).take (e - b))[i]? = t[b + i]? := by
  rw [List.getElem?_take_of_lt hi, List.getElem?_drop]
theorem lcF_told {s : Nat} {t : List Nat} {b e : Nat} {n : Name} (hb : b ≤ e) (he : e ≤ t.length) : lcF t (.leaf n s b e (keptF s t b e)) = lc s t b e := by
  unfold lc
  by_cases hbe : b = e
  · rw [if_pos hbe]
    have hk : keptF s t b e = none := if_pos hbe
    rw [hk]; rfl
  · rw [if_neg hbe]
    have hk : keptF s t b e = some (b + (firstIx s ((t.drop b).take (e - b))).getD 0) := if_neg hbe
    rw [hk]
    show e - b - (if t[b + (firstIx s ((t.drop b).take (e - b))).getD 0]? = some s then 1 else 0) = _
    by_cases hs : s ∈ (t.drop b).take (e - b)
    · obtain ⟨i, hi⟩ := firstIx_mem hs
      have hg := (firstIx_get hi).1
      have hil := (List.getElem?_eq_some_iff.mp hg).1
      rw [List.length_take, List.length_drop] at hil
      rw [slice_at (by omega)] at hg
      rw [hi, if_pos hs, if_pos (show t[b + (some i).getD 0]? = some s from hg)]
    · rw [firstIx_none hs, if_neg hs]
      have hx : ((t.drop b).take (e - b))[0]? = t[b + 0]? := slice_at (by omega)
      rw [if_neg (fun z => ?_)]
      have z : t[b + 0]? = some s := z
      rw [← hx] at z
      exact hs (List.mem_of_getElem? z)
theorem costF_app (t : List Nat) (l m : List Tr) : costF t (l ++ m) = costF t l + costF t m := by
  unfold costF
  rw [List.map_append, List.sum_append]
theorem told_cost {rs : List Rl} {t : List Nat} {es : Tb} (hT : TabOk rs t es) {n : Name} {b e c : Nat} {T : Tr} (h : Told rs t es n b e c T) : e ≤ t.length → costF t T.lfs = c := by
  induction h with
  | @leaf n s b e c h1 h2 =>
    intro he
    obtain ⟨_, ⟨s', e1, e2⟩ | ⟨x, y, k, e1, _⟩⟩ := chF_some h2
    · cases e1
      show lcF t _ + 0 = c
      rw [lcF_told (hT.snd _ _ _ _ h1).le he, e2]; rfl
    · cases e1
  | @fork n x y b k e c c1 c2 l r h1 h2 h3 t1 t2 i1 i2 =>
    intro he
    have l2 := t2.le hT
    show costF t (l.lfs ++ r.lfs) = c
    rw [costF_app, i1 (by omega), i2 he, h3]
/-- leaves side by side -/
inductive Side : List Tr → Nat → Nat → Prop where
  | nil {b : Nat} : Side [] b b
  | cons {n : Name} {s b e f : Nat} {k : Option Nat} {l : List Tr} : Side l e f → Side (.leaf n s b e k :: l) b f
theorem Side.app {l m : List Tr} {b k e : Nat} (h : Side l b k) (h' : Side m k e) : Side (l ++ m) b e := by
  induction h with
  | nil => exact h'
  | cons _ ih => exact .cons (ih h')
theorem told_side {rs : List Rl} {t : List Nat} {es : Tb} {n : Name} {b e c : Nat} {T : Tr} (h : Told rs t es n b e c T) : Side T.lfs b e := by
  induction h with
  | leaf _ _ => exact .cons .nil
  | fork _ _ _ _ _ i1 i2 => exact i1.app i2
theorem deedS_keep {t : List Nat} {p : Nat} (h : p < t.length) : deedS t p (.tup [tx keepL, .int ((p : Nat) : Int)]) = some ([t.getD p 0], p + 1) := by
  rw [deedS2, if_pos ⟨rfl, h⟩, if_pos rfl]
theorem deedS_cut {t : List Nat} {p : Nat} (h : p < t.length) : deedS t p (.tup [tx cutL, .int ((p : Nat) : Int)]) = some ([], p + 1) := by
  rw [deedS2, if_pos ⟨rfl, h⟩, if_neg (by decide), if_pos rfl]
theorem signOf_one {s : Nat} (h : s ∈ signsL) : signOf (tx [s]) = some s := by
  show (if s ∈ signsL then some s else none) = _
  rw [if_pos h]
theorem deedS_put {t : List Nat} {p s : Nat} (hs : s ∈ signsL) : deedS t p (.tup [tx putL, .int ((p : Nat) : Int), tx [s]]) = some ([s], p) := by
  rw [deedS3, signOf_one hs]
  show (if _ then (if _ then _ else _) else _) = _
  rw [if_pos rfl, if_pos rfl]
theorem deedS_chg {t : List Nat} {p s : Nat} (hs : s ∈ signsL) (h : p < t.length) : deedS t p (.tup [tx chgL, .int ((p : Nat) : Int), tx [s]]) = some ([s], p + 1) := by
  rw [deedS3, signOf_one hs]
  show (if _ then (if chgL = putL then _ else if chgL = chgL ∧ p < t.length then _ else _) else _) = _
  rw [if_pos rfl, if_neg (by decide), if_pos ⟨rfl, h⟩]
theorem doneS_step {t : List Nat} {p p' : Nat} {acc u : List Nat} {d : D} {r : List D} (h : deedS t p d = some (u, p')) : doneS t p acc (d :: r) = doneS t p' (acc ++ u) r := by
  show (match deedS t p d with
    | some (u, p') => doneS t p' (acc ++ u) r
    | none => none) = _
  rw [h]
theorem deedS_place {t : List Nat} {s q p : Nat} (hs : s ∈ signsL) (h : p < t.length) : deedS t p (placeD t s (some q) p) = some (if q = p then [s] else [], p + 1) := by
  unfold placeD
  by_cases hq : q = p
  · subst hq
    rw [if_neg (fun z => z rfl), if_pos rfl]
    by_cases hk : t[q]? = some s
    · rw [if_pos hk, deedS_keep h, List.getD_eq_getElem?_getD, hk]; rfl
    · rw [if_neg hk, deedS_chg hs h]
  · rw [if_pos (fun z => hq (by cases z; rfl)), if_neg hq, deedS_cut h]
theorem done_places {t : List Nat} {s q : Nat} (hs : s ∈ signsL) {r : List D} : ∀ (m b : Nat) (acc : List Nat), b + m ≤ t.length → doneS t b acc (((List.range m).map fun i => placeD t s (some q) (b + i)) ++ r) = doneS t (b + m) (acc ++ (if b ≤ q ∧ q < b + m then [s] else [])) r
  | 0, b, acc, _ => by
    rw [if_neg (by omega), List.append_nil]; rfl
  | m + 1, b, acc, h => by
    rw [List.range_succ_eq_map, List.map_cons, List.map_map, List.cons_append]
    have hd : deedS t b (placeD t s (some q) (b + 0)) = some (if q = b then [s] else [], b + 1) := deedS_place hs (by omega)
    rw [doneS_step hd]
    have e : ((fun i => placeD t s (some q) (b + i)) ∘ Nat.succ) = fun i => placeD t s (some q) (b + 1 + i) := by
      funext i
      show placeD t s (some q) (b + (i + 1)) = _
      rw [show b + (i + 1) = b + 1 + i by omega]
    rw [e, done_places hs m (b + 1) _ (by omega), show b + 1 + m = b + (m + 1) by omega, List.append_assoc]
    congr 2
    by_cases hq : q = b
    · rw [if_pos hq, if_neg (by omega), if_pos (by omega), List.append_nil]
    · rw [if_neg hq, List.nil_append]
      by_cases hr : b + 1 ≤ q ∧ q < b + (m + 1)
      · rw [if_pos hr, if_pos (by omega)]
      · rw [if_neg hr, if_neg (by omega)]
def txtL (l : List Tr) : List Nat := l.flatMap Tr.txt
theorem done_side {t : List Nat} {l : List Tr} {b e : Nat} (h : Side l b e) (hl : ∀ x ∈ l, LfOk t x) (hs : ∀ c ∈ txtL l, c ∈ signsL) (acc : List Nat) : doneS t b acc (deedsF t l) = doneS t e (acc ++ txtL l) [] := by
  induction h generalizing acc with
  | nil => show doneS t _ acc [] = doneS t _ (acc ++ []) []; rw [List.append_nil]
  | @cons n s b e f k l _ ih =>
    obtain ⟨h1, h2, h3, h4⟩ := hl _ List.mem_cons_self
    have hsl : s ∈ signsL := hs s (List.mem_append_left _ List.mem_cons_self)
    have ih := ih (fun x hx => hl x (List.mem_cons_of_mem _ hx)) (fun c hc => hs c (List.mem_append_right _ hc)) (acc ++ [s])
    have e1 : deedsF t (.leaf n s b e k :: l) = putD s b k ++ ((List.range (e - b)).map fun i => placeD t s k (b + i)) ++ deedsF t l := List.flatMap_cons
    have e2 : acc ++ txtL (.leaf n s b e k :: l) = acc ++ [s] ++ txtL l := by
      rw [List.append_assoc]; rfl
    rw [e1, e2, ← ih]
    cases k with
    | none =>
      have hbe := h3 rfl
      subst hbe
      rw [Nat.sub_self]
      show doneS t b acc (.tup [tx putL, .int ((b : Nat) : Int), tx [s]] :: deedsF t l) = _
      rw [doneS_step (deedS_put hsl)]
    | some q =>
      obtain ⟨g1, g2⟩ := h4 q rfl
      rw [show putD s b (some q) = [] from rfl, List.nil_append, done_places hsl (e - b) b acc (by omega), if_pos (by omega), show b + (e - b) = e by omega]
theorem txtL_lfs : ∀ T : Tr, txtL T.lfs = T.txt
  | .leaf _ _ _ _ _ => rfl
  | .fork _ l r => by
    show (l.lfs ++ r.lfs).flatMap Tr.txt = l.txt ++ r.txt
    rw [List.flatMap_append, show l.lfs.flatMap Tr.txt = l.txt from txtL_lfs l, show r.lfs.flatMap Tr.txt = r.txt from txtL_lfs r]
/-! any data -/
theorem okD_tx {l : List Nat} (h : Tx l) : okD (tx l) = true := by
  show (decide ((mk l).cps.toList.length ≤ 100000) && (mk l).cps.toList.all fun c => decide (c < 1114112)) = true
  rw [show (mk l).cps.toList = l from rfl, decide_eq_true h.1, Bool.true_and, List.all_eq_true]
  exact fun c hc => decide_eq_true (h.2 c hc)
theorem lt_letters : ∀ c ∈ lettersL, c < 1114112 := by decide +kernel
theorem tx_name {l : Name} (h : isNameL l = true) : Tx l := by
  unfold isNameL at h
  simp only [Bool.and_eq_true, decide_eq_true_eq, List.all_eq_true] at h
  exact ⟨by omega, fun c hc => lt_letters c (h.2 c hc)⟩
theorem tx_sign {s : Nat} (h : s ∈ signsL) : Tx [s] := ⟨by show 1 ≤ 100000; decide, fun c hc => by cases List.mem_singleton.mp hc; exact signs_lt _ h⟩
theorem okD_oD (o : Option Nat) : okD (oD o) = true := by cases o <;> rfl
theorem okA_cons {d : D} {l : List D} (h1 : okD d = true) (h2 : okA l = true) : okA (d :: l) = true := by
  show (okD d && okA l) = true
  rw [h1, h2]; rfl
theorem okD_of {l : List D} (h : okA l = true) : okD (.tup l) = true := h
theorem okA_all : ∀ {l : List D}, (∀ d ∈ l, okD d = true) → okA l = true
  | [], _ => rfl
  | d :: l, h => okA_cons (h d List.mem_cons_self) (okA_all fun x hx => h x (List.mem_cons_of_mem _ hx))
/-- names and signs are good ones -/
def TrOk : Tr → Prop
  | .leaf n s _ _ _ => isNameL n = true ∧ s ∈ signsL
  | .fork n l r => isNameL n = true ∧ TrOk l ∧ TrOk r
theorem TrOk.ok : ∀ {T : Tr}, TrOk T → okD (treeD T) = true
  | .leaf n s b e k, h => okD_of (okA_cons (okD_tx (tx_name h.1)) (okA_cons (okD_tx (tx_sign h.2)) (okA_cons rfl (okA_cons rfl (okA_cons (okD_oD k) rfl)))))
  | .fork n l r, h => okD_of (okA_cons (okD_tx (tx_name h.1)) (okA_cons (TrOk.ok h.2.1) (okA_cons (TrOk.ok h.2.2) rfl)))
theorem told_ok {rs : List Rl} {t : List Nat} {es : Tb} (hG : Gram rs) {n : Name} {b e c : Nat} {T : Tr} (h : Told rs t es n b e c T) : TrOk T := by
  induction h with
  | @leaf n s b e c h1 h2 =>
    have := Bool.and_eq_true_iff.mp (hG.good.ok _ (chF_some h2).1)
    exact ⟨this.1, of_decide_eq_true this.2⟩
  | @fork n x y b k e c c1 c2 l r h1 h2 h3 t1 t2 i1 i2 =>
    have := Bool.and_eq_true_iff.mp (hG.good.ok _ (chF_some h2).1)
    exact ⟨this.1, i1, i2⟩
theorem okD_deeds {t : List Nat} : ∀ {l : List Tr}, (∀ c ∈ txtL l, c ∈ signsL) → okA (deedsF t l) = true := fun {l} h => okA_all fun d hd => by
  obtain ⟨x, hx, hd⟩ := List.mem_flatMap.mp hd
  have h : ∀ c ∈ x.txt, c ∈ signsL := fun c hc => h c (List.mem_flatMap.mpr ⟨x, hx, hc⟩)
  cases x with
  | fork n l r => cases hd
  | leaf n s b e k =>
    have hs : s ∈ signsL := h s List.mem_cons_self
    have hd : d ∈ putD s b k ++ (List.range (e - b)).map fun i => placeD t s k (b + i) := hd
    have tw : ∀ w : List Nat, w = putL ∨ w = cutL ∨ w = keepL ∨ w = chgL → okD (tx w) = true := fun w hw => by
      rcases hw with rfl | rfl | rfl | rfl <;> exact okD_tx (tx_name (by decide +kernel))
    have os := okD_tx (tx_sign hs)
    rcases List.mem_append.mp hd with hd | hd
    · unfold putD at hd
      split at hd
      · cases List.mem_singleton.mp hd
        exact okD_of (okA_cons (tw _ (.inl rfl)) (okA_cons rfl (okA_cons os rfl)))
      · cases hd
    · obtain ⟨i, _, rfl⟩ := List.mem_map.mp hd
      unfold placeD
      split
      · exact okD_of (okA_cons (tw _ (.inr (.inl rfl))) (okA_cons rfl rfl))
      · split
        · exact okD_of (okA_cons (tw _ (.inr (.inr (.inl rfl)))) (okA_cons rfl rfl))
        · exact okD_of (okA_cons (tw _ (.inr (.inr (.inr rfl)))) (okA_cons rfl (okA_cons os rfl)))
theorem dsz_tree : ∀ T : Tr, dsz (treeD T) ≤ 6 * T.sz
  | .leaf n s b e k => by
    have h : dsz (oD k) = 1 := by cases k <;> rfl
    show dszA [tx n, tx [s], .int ((b : Nat) : Int), .int ((e : Nat) : Int), oD k] + 1 ≤ 6 * 1
    simp only [dszA, h]
    show 1 + (1 + (1 + (1 + (1 + 0)))) + 1 ≤ 6
    omega
  | .fork n l r => by
    have h1 := dsz_tree l
    have h2 := dsz_tree r
    show dszA [tx n, treeD l, treeD r] + 1 ≤ 6 * (l.sz + r.sz + 2)
    simp only [dszA]
    have : dsz (tx n) = 1 := rfl
    omega
theorem told_hold {rs : List Rl} {t : List Nat} {es : Tb} (hT : TabOk rs t es) {n : Name} {b e c : Nat} {T : Tr} (h : Told rs t es n b e c T) : e ≤ t.length → Hold rs (treeD T) n ((b : Nat) : Int) ((e : Nat) : Int) := by
  induction h with
  | @leaf n s b e c h1 h2 =>
    intro he
    have hb := (hT.snd _ _ _ _ h1).le
    obtain ⟨_, _, k1, k2⟩ := leaf_ok (s := s) (n := n) hb he
    refine .leaf ⟨n, s, _, _, rfl, rfl, rfl, rfl, (chF_some h2).1, fun e1 => ?_, fun e1 => ?_⟩ rfl rfl (by omega)
    · have hk : keptF s t b e = none := if_pos (by omega)
      rw [hk]; rfl
    · cases hk : keptF s t b e with
      | none => exact absurd (k1 hk) (by omega)
      | some p =>
        obtain ⟨g1, g2⟩ := k2 p hk
        exact ⟨_, rfl, by omega, by omega⟩
  | @fork n x y b k e c c1 c2 l r h1 h2 h3 t1 t2 i1 i2 =>
    intro he
    have l2 := t2.le hT
    exact .fork (chF_some h2).1 (i1 (by omega)) (i2 he)


/-! ### law k05: deeds drawn -/
def signF (c : Int) : Nat := signsL.getD (c.fmod 94).toNat 0
theorem signF_ok (c : Int) : signF c ∈ signsL := by
  have h := fmod_rng c (n := 94) (by decide)
  exact getD_mem 0 (by show _ < 94; omega)
theorem lower_great' : Txt.lower (mk greatL) = mk lettersL := by decide +kernel
def phi_l_sign (_ : ErA) : Phi := fun ds Q _ => ∃ c : Int, ds = [.int c] ∧ Q (.sh (tx [signF c]))
theorem len_l_sign {C : ErA} : ∀ ds Q X, phi_l_sign C ds Q X → ds.length = 1 := fun ds Q X h => by
  obtain ⟨_, rfl, _⟩ := h; rfl
theorem c_l_sign {C : ErA} {c : Int} {Q : R → Prop} {X : Value → Prop} (q : Q (.sh (tx [signF c]))) : phi_l_sign C [.int c] Q X := ⟨c, rfl, q⟩
local macro_rules | `(tactic| walk_at "w") => `(tactic| (with_reducible refine' c_l_sign ⟨Or.inl rfl, ?_⟩))
abbrev N_l_sign : List Str := ["_law_cell", "_law_great", "_law_signs"]
def t_l_sign (K : PySem.W.Frag) (C : ErA) : TS :=
  tSeq (tAsg (tC (.str (mk greatL))) (gName 1)) (tSeq (tAsg (tOp (uAdd K) (tOp (uAdd K) (tOp (uAdd K) (tOp (uAdd K) (tC (.str (mk lowL))) (tVar 1)) (tC (.str (mk midL)))) (tM0 mLower (tVar 1))) (tC (.str (mk endL)))) (gName 2)) (tRet (tOp (rIx K) (tVar 2) (tOp (rI (fun _ j => j ≠ 0) fun i j => .int (i.fmod j)) (tVar 0) (tC (.int 94))))))
theorem w_l_sign {K : PySem.W.Frag} {C : ErA} : ∀ ds Q X, phi_l_sign C ds Q X → ∀ E, wS K ⟨E, X⟩ (t_l_sign K C) (G0 N_l_sign ds) (PoQ Q) := by
  intro ds Q X h E
  obtain ⟨c, rfl, q⟩ := h
  show wS K _ (t_l_sign K C) [.sh (.int c), .no, .no] _
  unfold t_l_sign
  walk_at "wgo"
  refine wM_lowerRaw (by decide) lower_great' ?_
  walk_at "wgo"
  exact q
/-! #### deeds of the law -/
def hd6 : D → Bool
  | .dK _ => true
  | d => dat 63 d && noB d
inductive St5 : D → Prop where
  | two {x y : D} : hd6 x = true → St5 (.tup [x, y])
  | three {x y z : D} : hd6 x = true → (∀ c : Nat, z = tx [c] → c ∈ signsL ∨ c = 10) → St5 (.tup [x, y, z])
  | other {l : List D} : l.length ≠ 2 → l.length ≠ 3 → St5 (.tup l)
  | non {d : D} : isT d = false → St5 d
structure Odd5 (d : D) : Prop where
  ok : okD d = true
  eq : okE 60 d = true
  st : St5 d
def Good5 (d : D) : Prop := ∃ (w : List Nat) (p : Int), isNameL w = true ∧ (d = .tup [tx w, .int p] ∨ ∃ s, s ∈ signsL ∧ d = .tup [tx w, .int p, tx [s]])
theorem hd6_tx {l : List Nat} (h : Tx l) : hd6 (tx l) = true := by
  show (dat 63 (tx l) && noB (tx l)) = true
  rw [dat_tx h.2]; rfl
theorem sign_tx {s : Nat} (h : s ∈ signsL) : ∀ c : Nat, tx [s] = tx [c] → c ∈ signsL ∨ c = 10 := fun c e => by
  have := tx_inj e
  cases this
  exact .inl h
theorem Good5.odd {d : D} (h : Good5 d) : Odd5 d := by
  obtain ⟨w, p, hw, rfl | ⟨s, hs, rfl⟩⟩ := h
  · exact ⟨okD_of (okA_cons (okD_tx (tx_name hw)) (okA_cons rfl rfl)), rfl, .two (hd6_tx (tx_name hw))⟩
  · exact ⟨okD_of (okA_cons (okD_tx (tx_name hw)) (okA_cons rfl (okA_cons (okD_tx (tx_sign hs)) rfl))), rfl, .three (hd6_tx (tx_name hw)) (sign_tx hs)⟩
def phi_l_deeds (_ : ErA) : Phi := fun ds Q _ => ∃ (ns : List Int) (t : List Nat), ds = [.scr ns, tx t] ∧ t.length ≤ 9 ∧ ∀ a l, (∀ d ∈ l, Good5 d) → l.length ≤ 30 → Q (.ow a (.lst l))
theorem len_l_deeds {C : ErA} : ∀ ds Q X, phi_l_deeds C ds Q X → ds.length = 2 := fun ds Q X h => by
  obtain ⟨_, _, rfl, _⟩ := h; rfl
theorem c_l_deeds {C : ErA} {ns : List Int} {t : List Nat} {Q : R → Prop} {X : Value → Prop} (h : t.length ≤ 9) (q : ∀ a l, (∀ d ∈ l, Good5 d) → l.length ≤ 30 → Q (.ow a (.lst l))) : phi_l_deeds C [.scr ns, tx t] Q X := ⟨ns, t, rfl, h, q⟩
theorem good2 {w : List Nat} (hw : isNameL w = true) (p : Int) : Good5 (.tup [tx w, .int p]) := ⟨w, p, hw, .inl rfl⟩
theorem good3 {w : List Nat} (hw : isNameL w = true) (p : Int) {s : Nat} (hs : s ∈ signsL) : Good5 (.tup [tx w, .int p, tx [s]]) := ⟨w, p, hw, .inr ⟨s, hs, rfl⟩⟩
theorem good_snoc {l : List D} {d : D} (h : ∀ x ∈ l, Good5 x) (hd : Good5 d) : ∀ x ∈ l ++ [d], Good5 x := fun x hx => by
  rcases List.mem_append.mp hx with hx | hx
  · exact h x hx
  · cases List.mem_singleton.mp hx; exact hd
theorem len_snoc {l : List D} {d : D} : (l ++ [d]).length = l.length + 1 := by rw [List.length_append]; rfl
abbrev N_l_deeds : List Str := ["_law_script", "_law_text", "_law_deeds_here", "_law_place", "_law_cell", "_law_k", "_law_way"]
def t_l_deeds (K : PySem.W.Frag) (C : ErA) : TS :=
  tSeq (tAsg (tLst tNil) (gName 2)) (tSeq (tFor (iRng1 (tCons (tOp (uAdd K) (tCB (cLen K) (tCons (tVar 1) tNil)) (tC (.int 1))) tNil)) (gName 3) (tSeq (tAsg (tCall (mkSp K (phi_l_at C)) [] E0 (tCons (tVar 0) (tCons (tOp (uAdd K) (tC (.int 13)) (tVar 3)) tNil))) (gName 4)) (tSeq (tFor (iRng1 (tCons (tOp (uAdd K) (tOp (rI CDivN fun i j => .int (i.fdiv j)) (tOp (rI (fun _ j => j ≠ 0) fun i j => .int (i.fmod j)) (tVar 4) (tC (.int 5))) (tC (.int 3))) (tOp (rI CDivN fun i j => .int (i.fdiv j)) (tOp (rI (fun _ j => j ≠ 0) fun i j => .int (i.fmod j)) (tOp (rI CDivN fun i j => .int (i.fdiv j)) (tVar 4) (tC (.int 5))) (tC (.int 9))) (tC (.int 8)))) tNil)) (gName 5) (tDrop (tBM K "list" rAppend (tVar 2) (tCons (tTup (tCons (tC (.str (mk [112, 117, 116]))) (tCons (tVar 3) (tCons (tCall (mkSp K (phi_l_sign C)) [] E0 (tCons (tOp (uAdd K) (tOp (rI CDivN fun i j => .int (i.fdiv j)) (tVar 4) (tC (.int 45))) (tOp uMul (tC (.int 3)) (tVar 5))) tNil)) tNil)))) tNil)))) (tIfS (tTest (tOp (rI0 fun i j => .bl (decide (i < j))) (tVar 3) (tCB (cLen K) (tCons (tVar 1) tNil)))) (tSeq (tAsg (tOp (rI (fun _ j => j ≠ 0) fun i j => .int (i.fmod j)) (tOp (rI CDivN fun i j => .int (i.fdiv j)) (tVar 4) (tC (.int 5))) (tC (.int 3))) (gName 6)) (tIfS (tTest (tOp (uEq K) (tVar 6) (tC (.int 0)))) (tDrop (tBM K "list" rAppend (tVar 2) (tCons (tTup (tCons (tC (.str (mk [107, 101, 101, 112]))) (tCons (tVar 3) tNil))) tNil))) (tIfS (tTest (tOp (uEq K) (tVar 6) (tC (.int 1)))) (tDrop (tBM K "list" rAppend (tVar 2) (tCons (tTup (tCons (tC (.str (mk [99, 104, 97, 110, 103, 101]))) (tCons (tVar 3) (tCons (tCall (mkSp K (phi_l_sign C)) [] E0 (tCons (tOp (rI CDivN fun i j => .int (i.fdiv j)) (tVar 4) (tC (.int 45))) tNil)) tNil)))) tNil))) (tDrop (tBM K "list" rAppend (tVar 2) (tCons (tTup (tCons (tC (.str (mk [99, 117, 116]))) (tCons (tVar 3) tNil))) tNil)))))) tNext)))) (tRet (tVar 2)))
theorem w_l_deeds {K : PySem.W.Frag} {C : ErA} : ∀ ds Q X, phi_l_deeds C ds Q X → ∀ E, wS K ⟨E, X⟩ (t_l_deeds K C) (G0 N_l_deeds ds) (PoQ Q) := by
  intro ds Q X h E
  obtain ⟨ns, t, rfl, ht, q⟩ := h
  show wS K _ (t_l_deeds K C) [.sh (.scr ns), .sh (tx t), .no, .no, .no, .no, .no] _
  unfold t_l_deeds
  walk_at "wgo"
  rename_i a2
  refine wS_forR1 ?_
  walk_at "wgo"
  refine ⟨_, rfl, by omega, by omega, fun i G => ∃ (l : List D) (s3 s4 s5 s6 : Slot), G = [.sh (.scr ns), .sh (tx t), .ow a2 (.lst l), s3, s4, s5, s6] ∧ (∀ d ∈ l, Good5 d) ∧ l.length ≤ 3 * i, ⟨[], _, _, _, _, rfl, fun d hd => (by cases hd), Nat.le_refl _⟩, fun i G hi h => ?_, fun G h => ?_⟩
  · obtain ⟨l, s3, s4, s5, s6, rfl, hl, hll⟩ := h
    have hi9 : i ≤ t.length := by omega
    have g1 := fmod_rng (cell ns (13 + (i : Int))) (n := 5) (by decide)
    have g2 := fmod_rng ((cell ns (13 + (i : Int))).fdiv 5) (n := 9) (by decide)
    have g3 := fmod_rng ((cell ns (13 + (i : Int))).fdiv 5) (n := 3) (by decide)
    obtain ⟨m, hm, hm2⟩ : ∃ m : Nat, ((cell ns (13 + (i : Int))).fmod 5).fdiv 3 + (((cell ns (13 + (i : Int))).fdiv 5).fmod 9).fdiv 8 = (m : Int) ∧ m ≤ 2 := by
      have e1 : ((cell ns (13 + (i : Int))).fmod 5).fdiv 3 = ((cell ns (13 + (i : Int))).fmod 5) / 3 := Int.fdiv_eq_ediv_of_nonneg _ (by decide)
      have e2 : (((cell ns (13 + (i : Int))).fdiv 5).fmod 9).fdiv 8 = (((cell ns (13 + (i : Int))).fdiv 5).fmod 9) / 8 := Int.fdiv_eq_ediv_of_nonneg _ (by decide)
      rw [e1, e2]
      exact ⟨(((cell ns (13 + (i : Int))).fmod 5) / 3 + (((cell ns (13 + (i : Int))).fdiv 5).fmod 9) / 8).toNat, by omega, by omega⟩
    refine wG_name ⟨rfl, ?_⟩
    walk_at "wgo"
    refine wS_forR1 ?_
    walk_at "wgo"
    rw [hm]
    refine ⟨_, rfl, by omega, by omega, fun j G => ∃ (l : List D) (s5 : Slot), G = [.sh (.scr ns), .sh (tx t), .ow a2 (.lst l), .sh (.int ((i : Nat) : Int)), .sh (.int (cell ns (13 + (i : Int)))), s5, s6] ∧ (∀ d ∈ l, Good5 d) ∧ l.length ≤ 3 * i + j, ⟨l, _, rfl, hl, hll⟩, fun j G hj h => ?_, fun G h => ?_⟩
    · obtain ⟨l, s5, rfl, hl, hll⟩ := h
      refine wG_name ⟨rfl, ?_⟩
      walk_at "wgo"
      refine ⟨by omega, ?_⟩
      exact ⟨_, _, rfl, good_snoc hl (good3 (w := putL) (by decide +kernel) _ (signF_ok _)), by rw [len_snoc]; omega⟩
    · obtain ⟨l, s5, rfl, hl, hll⟩ := h
      rw [Int.toNat_natCast] at hll
      walk_at "wgo"
      · refine ⟨by omega, ?_⟩
        exact ⟨_, _, _, _, _, rfl, good_snoc hl (good2 (w := keepL) (by decide +kernel) _), by rw [len_snoc]; omega⟩
      · refine ⟨by omega, ?_⟩
        exact ⟨_, _, _, _, _, rfl, good_snoc hl (good3 (w := chgL) (by decide +kernel) _ (signF_ok _)), by rw [len_snoc]; omega⟩
      · refine ⟨by omega, ?_⟩
        exact ⟨_, _, _, _, _, rfl, good_snoc hl (good2 (w := cutL) (by decide +kernel) _), by rw [len_snoc]; omega⟩
      · exact ⟨_, _, _, _, _, rfl, hl, by omega⟩
  · obtain ⟨l, s3, s4, s5, s6, rfl, hl, hll⟩ := h
    walk_at "wgo"
    exact q a2 l hl (by omega)
/-! #### odd deeds -/
def keepG : List Nat := [75, 101, 101, 112]
theorem tx_any {l : List Nat} (h : l.length ≤ 20) (h2 : l.all (fun c => decide (c < 1114112)) = true) : Tx l := ⟨by omega, fun c hc => of_decide_eq_true (List.all_eq_true.mp h2 c hc)⟩
def oddL (n p : Int) : List D :=
  [.tup [tx keepL, .int (-1)], .tup [tx putL, .int (n + 1), tx [97]], .tup [tx keepL, .int n], .tup [tx cutL, .int n], .tup [tx chgL, .int n, tx [97]], .tup [tx keepG, .int p],
   .tup [tx cutL, .int p, tx [97]], .tup [tx putL, .int p], .tup [tx putL, .int p, tx []], .tup [tx putL, .int p, tx [97, 98]], .tup [tx putL, .int p, .non],
   .tup [tx putL, .bl true, tx [97]], .lst [tx keepL, .int p], .tup [], .tup [tx keepL], .non, .tup [tx chgL, .int p, tx [10]], .tup [tx keepL, tx [48]],
   .tup [.lst [tx keepL], .int p], .tup [tx keepL, .lst [.int p]], .tup [tx putL, .int p, .lst [tx [97]]], .tup [.dK [], .int p], .tup [tx putL, .int p, .dK []]]
theorem odd_two {x y : D} (hx : hd6 x = true) (ox : okD x = true) (oy : okD y = true) (ex : okE 59 x = true) (ey : okE 59 y = true) : Odd5 (.tup [x, y]) :=
  ⟨okD_of (okA_cons ox (okA_cons oy rfl)), by
    show (okE 59 x && (okE 59 y && true)) = true
    rw [ex, ey]; rfl, .two hx⟩
theorem odd_three {x y z : D} (hx : hd6 x = true) (hz : ∀ c : Nat, z = tx [c] → c ∈ signsL ∨ c = 10) (ox : okD x = true) (oy : okD y = true) (oz : okD z = true) (ex : okE 59 x = true) (ey : okE 59 y = true) (ez : okE 59 z = true) : Odd5 (.tup [x, y, z]) :=
  ⟨okD_of (okA_cons ox (okA_cons oy (okA_cons oz rfl))), by
    show (okE 59 x && (okE 59 y && (okE 59 z && true))) = true
    rw [ex, ey, ez]; rfl, .three hx hz⟩
theorem odd_ok {n p : Int} : ∀ d ∈ oddL n p, Odd5 d := fun d hd => by
  have tk : Tx keepL := tx_any (by decide) (by decide)
  have tp : Tx putL := tx_any (by decide) (by decide)
  have tc : Tx cutL := tx_any (by decide) (by decide)
  have th : Tx chgL := tx_any (by decide) (by decide)
  have tg : Tx keepG := tx_any (by decide) (by decide)
  have ta : Tx [97] := tx_any (by decide) (by decide)
  have tab : Tx [97, 98] := tx_any (by decide) (by decide)
  have te : Tx [] := tx_any (by decide) (by decide)
  have tn : Tx [10] := tx_any (by decide) (by decide)
  have t0 : Tx [48] := tx_any (by decide) (by decide)
  have sa : ∀ c : Nat, tx [97] = tx [c] → c ∈ signsL ∨ c = 10 := sign_tx (by decide +kernel)
  have sn : ∀ c : Nat, tx [10] = tx [c] → c ∈ signsL ∨ c = 10 := fun c e => by
    have := tx_inj e
    cases this
    exact .inr rfl
  have s2 : ∀ {l : List Nat}, l.length ≠ 1 → ∀ c : Nat, tx l = tx [c] → c ∈ signsL ∨ c = 10 := fun {l} h c e => by
    have := tx_inj e
    rw [this] at h
    exact absurd rfl h
  have sx : ∀ {z : D}, isStr z = false → ∀ c : Nat, z = tx [c] → c ∈ signsL ∨ c = 10 := fun {z} h c e => by
    rw [e] at h; cases h
  unfold oddL at hd
  simp only [List.mem_cons, List.not_mem_nil, or_false] at hd
  rcases hd with rfl | rfl | rfl | rfl | rfl | rfl | rfl | rfl | rfl | rfl | rfl | rfl | rfl | rfl | rfl | rfl | rfl | rfl | rfl | rfl | rfl | rfl | rfl
  · exact odd_two (hd6_tx tk) (okD_tx tk) rfl rfl rfl
  · exact odd_three (hd6_tx tp) sa (okD_tx tp) rfl (okD_tx ta) rfl rfl rfl
  · exact odd_two (hd6_tx tk) (okD_tx tk) rfl rfl rfl
  · exact odd_two (hd6_tx tc) (okD_tx tc) rfl rfl rfl
  · exact odd_three (hd6_tx th) sa (okD_tx th) rfl (okD_tx ta) rfl rfl rfl
  · exact odd_two (hd6_tx tg) (okD_tx tg) rfl rfl rfl
  · exact odd_three (hd6_tx tc) sa (okD_tx tc) rfl (okD_tx ta) rfl rfl rfl
  · exact odd_two (hd6_tx tp) (okD_tx tp) rfl rfl rfl
  · exact odd_three (hd6_tx tp) (s2 (by decide)) (okD_tx tp) rfl (okD_tx te) rfl rfl rfl
  · exact odd_three (hd6_tx tp) (s2 (by decide)) (okD_tx tp) rfl (okD_tx tab) rfl rfl rfl
  · exact odd_three (hd6_tx tp) (sx rfl) (okD_tx tp) rfl rfl rfl rfl rfl
  · exact odd_three (hd6_tx tp) sa (okD_tx tp) rfl (okD_tx ta) rfl rfl rfl
  · exact ⟨okA_cons (okD_tx tk) (okA_cons rfl rfl), rfl, .non rfl⟩
  · exact ⟨rfl, rfl, .other (by show 0 ≠ 2; decide) (by show 0 ≠ 3; decide)⟩
  · exact ⟨okD_of (okA_cons (okD_tx tk) rfl), rfl, .other (by show 1 ≠ 2; decide) (by show 1 ≠ 3; decide)⟩
  · exact ⟨rfl, rfl, .non rfl⟩
  · exact odd_three (hd6_tx th) sn (okD_tx th) rfl (okD_tx tn) rfl rfl rfl
  · exact odd_two (hd6_tx tk) (okD_tx tk) (okD_tx t0) rfl rfl
  · refine odd_two ?_ (okA_cons (okD_tx tk) rfl) rfl rfl rfl
    show (dat 63 (.lst [tx keepL]) && noB (.lst [tx keepL])) = true
    show ((dat 62 (tx keepL) && true) && true) = true
    rw [dat_tx tk.2]; rfl
  · exact odd_two (hd6_tx tk) (okD_tx tk) rfl rfl rfl
  · exact odd_three (hd6_tx tp) (sx rfl) (okD_tx tp) rfl (okA_cons (okD_tx ta) rfl) rfl rfl rfl
  · exact odd_two rfl rfl rfl rfl rfl
  · exact odd_three (hd6_tx tp) (sx rfl) (okD_tx tp) rfl rfl rfl rfl rfl
theorem odd_at5 {L : List D} (hL : ∀ d ∈ L, Odd5 d) {i : Int} (h0 : 0 ≤ i) (h1 : i < L.length) : ∃ d, atI L i = some d ∧ Odd5 d := by
  have h2 : i.toNat < L.length := by omega
  exact ⟨_, atI_at h0 (List.getElem?_eq_getElem h2), hL _ (List.getElem_mem h2)⟩
def phi_l_odd (_ : ErA) : Phi := fun ds Q _ => ∃ (c n p : Int), ds = [.int c, .int n, .int p] ∧ 0 ≤ n ∧ ∀ d, Odd5 d → Q (.sh d)
theorem len_l_odd {C : ErA} : ∀ ds Q X, phi_l_odd C ds Q X → ds.length = 3 := fun ds Q X h => by
  obtain ⟨_, _, _, rfl, _⟩ := h; rfl
theorem c_l_odd {C : ErA} {c n p : Int} {Q : R → Prop} {X : Value → Prop} (h : 0 ≤ n) (q : ∀ d, Odd5 d → Q (.sh d)) : phi_l_odd C [.int c, .int n, .int p] Q X := ⟨c, n, p, rfl, h, q⟩
abbrev N_l_odd : List Str := ["_law_cell", "_law_size", "_law_place", "_law_some"]
def t_l_odd (K : PySem.W.Frag) (C : ErA) : TS :=
  tSeq (tIfS (tTest (tOp (uEq K) (tOp (rI (fun _ j => j ≠ 0) fun i j => .int (i.fmod j)) (tOp (rI CDivN fun i j => .int (i.fdiv j)) (tVar 0) (tC (.int 23))) (tC (.int 3))) (tC (.int 2)))) (tAsg (tOp (rI (fun _ j => j ≠ 0) fun i j => .int (i.fmod j)) (tVar 0) (tOp (uAdd K) (tVar 1) (tC (.int 2)))) (gName 2)) tNext) (tSeq (tAsg (tLst (tCons (tTup (tCons (tC (.str (mk [107, 101, 101, 112]))) (tCons (tUn (rU fun i => .int (-i)) (tC (.int 1))) tNil))) (tCons (tTup (tCons (tC (.str (mk [112, 117, 116]))) (tCons (tOp (uAdd K) (tVar 1) (tC (.int 1))) (tCons (tC (.str (mk [97]))) tNil)))) (tCons (tTup (tCons (tC (.str (mk [107, 101, 101, 112]))) (tCons (tVar 1) tNil))) (tCons (tTup (tCons (tC (.str (mk [99, 117, 116]))) (tCons (tVar 1) tNil))) (tCons (tTup (tCons (tC (.str (mk [99, 104, 97, 110, 103, 101]))) (tCons (tVar 1) (tCons (tC (.str (mk [97]))) tNil)))) (tCons (tTup (tCons (tC (.str (mk [75, 101, 101, 112]))) (tCons (tVar 2) tNil))) tNil))))))) (gName 3)) (tSeq (tAsg (tOp (uAdd K) (tVar 3) (tLst (tCons (tTup (tCons (tC (.str (mk [99, 117, 116]))) (tCons (tVar 2) (tCons (tC (.str (mk [97]))) tNil)))) (tCons (tTup (tCons (tC (.str (mk [112, 117, 116]))) (tCons (tVar 2) tNil))) (tCons (tTup (tCons (tC (.str (mk [112, 117, 116]))) (tCons (tVar 2) (tCons (tC (.str (mk []))) tNil)))) (tCons (tTup (tCons (tC (.str (mk [112, 117, 116]))) (tCons (tVar 2) (tCons (tC (.str (mk [97, 98]))) tNil)))) (tCons (tTup (tCons (tC (.str (mk [112, 117, 116]))) (tCons (tVar 2) (tCons (tC .non) tNil)))) tNil))))))) (gName 3)) (tSeq (tAsg (tOp (uAdd K) (tVar 3) (tLst (tCons (tTup (tCons (tC (.str (mk [112, 117, 116]))) (tCons (tC (.bl true)) (tCons (tC (.str (mk [97]))) tNil)))) (tCons (tLst (tCons (tC (.str (mk [107, 101, 101, 112]))) (tCons (tVar 2) tNil))) (tCons (tTup tNil) (tCons (tTup (tCons (tC (.str (mk [107, 101, 101, 112]))) tNil)) (tCons (tC .non) (tCons (tTup (tCons (tC (.str (mk [99, 104, 97, 110, 103, 101]))) (tCons (tVar 2) (tCons (tC (.str (mk [10]))) tNil)))) (tCons (tTup (tCons (tC (.str (mk [107, 101, 101, 112]))) (tCons (tC (.str (mk [48]))) tNil))) tNil))))))))) (gName 3)) (tSeq (tAsg (tOp (uAdd K) (tVar 3) (tLst (tCons (tTup (tCons (tLst (tCons (tC (.str (mk [107, 101, 101, 112]))) tNil)) (tCons (tVar 2) tNil))) (tCons (tTup (tCons (tC (.str (mk [107, 101, 101, 112]))) (tCons (tLst (tCons (tVar 2) tNil)) tNil))) (tCons (tTup (tCons (tC (.str (mk [112, 117, 116]))) (tCons (tVar 2) (tCons (tLst (tCons (tC (.str (mk [97]))) tNil)) tNil)))) (tCons (tTup (tCons tDNewK (tCons (tVar 2) tNil))) (tCons (tTup (tCons (tC (.str (mk [112, 117, 116]))) (tCons (tVar 2) (tCons tDNewK tNil)))) tNil))))))) (gName 3)) (tRet (tOp (rIx K) (tVar 3) (tOp (rI (fun _ j => j ≠ 0) fun i j => .int (i.fmod j)) (tVar 0) (tC (.int 23)))))))))
theorem w_l_odd {K : PySem.W.Frag} {C : ErA} : ∀ ds Q X, phi_l_odd C ds Q X → ∀ E, wS K ⟨E, X⟩ (t_l_odd K C) (G0 N_l_odd ds) (PoQ Q) := by
  intro ds Q X h E
  obtain ⟨c, n, p, rfl, hn, q⟩ := h
  have h23 := fmod_rng c (n := 23) (by decide)
  show wS K _ (t_l_odd K C) [.sh (.int c), .sh (.int n), .sh (.int p), .no] _
  unfold t_l_odd
  refine wS_seq ?_
  refine wS_cut (fun G => ∃ p : Int, G = [.sh (.int c), .sh (.int n), .sh (.int p), .no]) ?_ fun G h => ?_
  · walk_at "wgo"
    all_goals exact ⟨_, rfl⟩
  obtain ⟨p, rfl⟩ := h
  walk_at "wgo"
  refine wE_dnewK fun a => ?_
  walk_at "wgo"
  refine wE_dnewK fun a => ?_
  walk_at "wgo"
  obtain ⟨d, h1, h2⟩ := odd_at5 (odd_ok (n := n) (p := p)) (i := c.fmod 23) h23.1 (by show _ < (23 : Int); omega)
  refine u_ixL (ds := oddL n p) rfl h1 ?_
  walk_at "wgo"
  exact q d h2


/-! #### the law's own walk -/
mutual
theorem dat_succ : ∀ (n : Nat) (d : D), dat n d = true → dat (n + 1) d = true
  | n, .non, _ => by unfold dat; rfl
  | n, .bl _, _ => by unfold dat; rfl
  | n, .int _, _ => by unfold dat; rfl
  | 0, .str s, h => h
  | n + 1, .str s, h => h
  | 0, .tup l, h => by unfold dat at h; cases h
  | n + 1, .tup l, h => by
    have h : datA n l = true := by unfold dat at h; exact h
    show datA (n + 1) l = true
    exact datA_succ n l h
  | 0, .lst l, h => by unfold dat at h; cases h
  | n + 1, .lst l, h => by
    have h : datA n l = true := by unfold dat at h; exact h
    show datA (n + 1) l = true
    exact datA_succ n l h
  | n, .dT _, h => by cases n <;> (unfold dat at h; cases h)
  | n, .dK _, h => by cases n <;> (unfold dat at h; cases h)
  | n, .scr _, h => by cases n <;> (unfold dat at h; cases h)
  | n, .ty _, h => by cases n <;> (unfold dat at h; cases h)
  | n, .ref _, h => by cases n <;> (unfold dat at h; cases h)
theorem datA_succ : ∀ (n : Nat) (l : List D), datA n l = true → datA (n + 1) l = true
  | n, [], _ => rfl
  | n, d :: l, h => by
    have h : (dat n d && datA n l) = true := h
    obtain ⟨h1, h2⟩ := Bool.and_eq_true_iff.mp h
    show (dat (n + 1) d && datA (n + 1) l) = true
    rw [dat_succ n d h1, datA_succ n l h2]; rfl
end
theorem hd6_cases {d : D} (h : hd6 d = true) : (∃ kvs, d = .dK kvs) ∨ (dat 63 d = true ∧ noB d = true) := by
  cases d with
  | dK kvs => exact .inl ⟨kvs, rfl⟩
  | _ => exact .inr (Bool.and_eq_true_iff.mp h)
section
variable {K : PySem.W.Frag} {Z : Ec} {G : Sl} {Q : R → Sl → Prop}
theorem v_eqH {x : D} {w : List Nat} (hh : hd6 x = true) (hw : Tx w) (q : ∀ b, (b = true ↔ x = tx w) → Q (.sh (.bl b)) G) : wR K Z (vEq K) (.sh x) (.sh (tx w)) G Q := by
  rcases hd6_cases hh with ⟨kvs, rfl⟩ | ⟨h1, h2⟩
  · exact v_eqS (q false ⟨fun e => (by cases e), fun e => (by cases e)⟩)
  · exact v_eq (u_eqD rfl rfl (dat_succ _ _ h1) (dat_tx hw.2) (q _ (eqD_iff x (tx w) h2 rfl)))
theorem v_ninO {x : D} {ws : List (List Nat)} (hh : hd6 x = true) (hs : isStr x = false) (hw : ∀ w ∈ ws, Tx w) (q : Q (.sh (.bl true)) G) : wR K Z (vNin K) (.sh x) (.sh (.tup (ws.map tx))) G Q := by
  refine v_ninN (.inr rfl) (fun e he => ?_) q
  obtain ⟨w, hm, rfl⟩ := List.mem_map.mp he
  refine .inl ⟨mk w, rfl, ?_⟩
  rcases hd6_cases hh with ⟨kvs, rfl⟩ | ⟨h1, h2⟩
  · exact .inl ⟨kvs, rfl⟩
  · refine .inr ⟨dat_succ _ _ h1, dat_tx (hw w hm).2, Bool.eq_false_iff.mpr fun z => ?_⟩
    have := (eqD_iff (tx w) x rfl h2).mp z
    rw [← this] at hs; cases hs
end
theorem signOf_nos {z : D} (h : isStr z = false) : signOf z = none := by
  cases z <;> first | rfl | cases h
theorem signOf_len {l : List Nat} (h : l.length ≠ 1) : signOf (tx l) = none := by
  rw [signOf_tx]
  match l, h with
  | [], _ => rfl
  | [c], h => exact absurd rfl h
  | _ :: _ :: _, _ => rfl
theorem sign10 : signOf (tx [10]) = none := by
  rw [signOf_tx]
  exact if_neg (by decide +kernel)
theorem sign_some {l : List Nat} (h : l.length = 1) (h10 : ¬ l = [10]) (hz : ∀ c : Nat, tx l = tx [c] → c ∈ signsL ∨ c = 10) : ∃ c, l = [c] ∧ signOf (tx l) = some c := by
  match l, h with
  | [c], _ =>
    rcases hz c rfl with hc | hc
    · exact ⟨c, rfl, by rw [signOf_tx]; exact if_pos hc⟩
    · subst hc; exact absurd rfl h10
def stepR : Option (List Nat × Nat) → D
  | none => .non
  | some (u, p) => .tup [tx u, .int ((p : Nat) : Int)]
def phi_l_step (_ : ErA) : Phi := fun ds Q _ => ∃ (d : D) (p : Nat) (t : List Nat), ds = [d, .int ((p : Nat) : Int), tx t] ∧ okD d = true ∧ St5 d ∧ t.length ≤ 1000 ∧ Q (.sh (stepR (deedS t p d)))
theorem len_l_step {C : ErA} : ∀ ds Q X, phi_l_step C ds Q X → ds.length = 3 := fun ds Q X h => by
  obtain ⟨_, _, _, rfl, _⟩ := h; rfl
theorem c_l_step {C : ErA} {d : D} {p : Nat} {t : List Nat} {Q : R → Prop} {X : Value → Prop} (h1 : okD d = true) (h2 : St5 d) (h3 : t.length ≤ 1000) (q : Q (.sh (stepR (deedS t p d)))) : phi_l_step C [d, .int ((p : Nat) : Int), tx t] Q X := ⟨d, p, t, rfl, h1, h2, h3, q⟩
theorem deedS_len {t : List Nat} {p : Nat} {l : List D} (h2 : l.length ≠ 2) (h3 : l.length ≠ 3) : deedS t p (.tup l) = none := by
  unfold deedS
  split
  · rename_i e; cases e; exact absurd rfl h2
  · rename_i e; cases e; exact absurd rfl h3
  · rfl
theorem deedS_noT {t : List Nat} {p : Nat} {d : D} (h : isT d = false) : deedS t p d = none := by
  cases d <;> first | rfl | cases h
theorem deedS_hd2 {t : List Nat} {p : Nat} {x y : D} (h : isStr x = false) : deedS t p (.tup [x, y]) = none := by
  cases x <;> first | rfl | cases h
theorem deedS_hd3 {t : List Nat} {p : Nat} {x y z : D} (h : isStr x = false) : deedS t p (.tup [x, y, z]) = none := by
  cases x <;> first | rfl | cases h
theorem deedS_i2 {t : List Nat} {p : Nat} {x y : D} (h : isI y = false) : deedS t p (.tup [x, y]) = none := by
  cases x <;> first | rfl | skip
  cases y <;> first | rfl | cases h
theorem deedS_i3 {t : List Nat} {p : Nat} {x y z : D} (h : isI y = false) : deedS t p (.tup [x, y, z]) = none := by
  cases x <;> first | rfl | skip
  cases y <;> first | rfl | cases h
theorem isI_IB5 {d : D} (h1 : isIB d = true) (h2 : isB d = false) : isI d = true := by
  cases d <;> first | rfl | (cases h1; done) | cases h2
theorem isI_not {d : D} (h : isI d = false) : isIB d = false ∨ isB d = true := by
  cases d <;> first | exact .inl rfl | exact .inr rfl | cases h
section
local macro_rules | `(tactic| walk_at "w") => `(tactic| ((with_reducible refine' PL.wC_isi ?h ?p ?b ?_); (case h => exact rfl); (case p => exact rfl); (case b => exact rfl)))
abbrev N_l_step : List Str := ["_law_deed", "_law_place", "_law_text"]
def t_l_step (K : PySem.W.Frag) (C : ErA) : TS :=
  tSeq (tIfS (tOr (tNot (tTru K (tCB (rIsi K) (tCons (tVar 0) (tCons (tC (.ty "tuple")) tNil))))) (tOr (tTest (tOp (rI0 fun i j => .bl (decide (i < j))) (tCB (cLen K) (tCons (tVar 0) tNil)) (tC (.int 2)))) (tTest (tOp (rI0 fun i j => .bl (decide (j < i))) (tCB (cLen K) (tCons (tVar 0) tNil)) (tC (.int 3)))))) (tRet (tC .non)) tNext) (tSeq (tIfS (tOr (tNot (tTru K (tCB (rIsi K) (tCons (tOp (rIx K) (tVar 0) (tC (.int 1))) (tCons (tC (.ty "int")) tNil))))) (tOr (tTru K (tCB (rIsi K) (tCons (tOp (rIx K) (tVar 0) (tC (.int 1))) (tCons (tC (.ty "bool")) tNil)))) (tTest (tOp (uNe K) (tOp (rIx K) (tVar 0) (tC (.int 1))) (tVar 1))))) (tRet (tC .non)) tNext) (tSeq (tIfS (tOr (tTest (tOp (vEq K) (tOp (rIx K) (tVar 0) (tC (.int 0))) (tC (.str (mk [112, 117, 116]))))) (tTest (tOp (vEq K) (tOp (rIx K) (tVar 0) (tC (.int 0))) (tC (.str (mk [99, 104, 97, 110, 103, 101])))))) (tSeq (tIfS (tOr (tTest (tOp (uNe K) (tCB (cLen K) (tCons (tVar 0) tNil)) (tC (.int 3)))) (tOr (tNot (tTru K (tCB (rIsi K) (tCons (tOp (rIx K) (tVar 0) (tC (.int 2))) (tCons (tC (.ty "str")) tNil))))) (tOr (tTest (tOp (uNe K) (tCB (cLen K) (tCons (tOp (rIx K) (tVar 0) (tC (.int 2))) tNil)) (tC (.int 1)))) (tTest (tOp (vEq K) (tOp (rIx K) (tVar 0) (tC (.int 2))) (tC (.str (mk [10])))))))) (tRet (tC .non)) tNext) (tSeq (tIfS (tTest (tOp (vEq K) (tOp (rIx K) (tVar 0) (tC (.int 0))) (tC (.str (mk [112, 117, 116]))))) (tRet (tTup (tCons (tOp (rIx K) (tVar 0) (tC (.int 2))) (tCons (tVar 1) tNil)))) tNext) (tSeq (tIfS (tTest (tOp (rI0 fun i j => .bl (decide (i < j))) (tVar 1) (tCB (cLen K) (tCons (tVar 2) tNil)))) (tRet (tTup (tCons (tOp (rIx K) (tVar 0) (tC (.int 2))) (tCons (tOp (uAdd K) (tVar 1) (tC (.int 1))) tNil)))) tNext) (tRet (tC .non))))) tNext) (tSeq (tIfS (tOr (tTest (tOp (uNe K) (tCB (cLen K) (tCons (tVar 0) tNil)) (tC (.int 2)))) (tOr (tTest (tOp (rI0 fun i j => .bl (decide (j ≤ i))) (tVar 1) (tCB (cLen K) (tCons (tVar 2) tNil)))) (tTest (tOp (vNin K) (tOp (rIx K) (tVar 0) (tC (.int 0))) (tTup (tCons (tC (.str (mk [107, 101, 101, 112]))) (tCons (tC (.str (mk [99, 117, 116]))) tNil))))))) (tRet (tC .non)) tNext) (tRet (tTup (tCons (tOp uMul (tOp (rIx K) (tVar 2) (tVar 1)) (tCB cInt (tCons (tOp (vEq K) (tOp (rIx K) (tVar 0) (tC (.int 0))) (tC (.str (mk [107, 101, 101, 112])))) tNil))) (tCons (tOp (uAdd K) (tVar 1) (tC (.int 1))) tNil)))))))
theorem w_l_step {K : PySem.W.Frag} {C : ErA} : ∀ ds Q X, phi_l_step C ds Q X → ∀ E, wS K ⟨E, X⟩ (t_l_step K C) (G0 N_l_step ds) (PoQ Q) := by
  intro ds Q X h E
  obtain ⟨d, p, t, rfl, hok, hst, htl, q⟩ := h
  show wS K _ (t_l_step K C) [.sh d, .sh (.int ((p : Nat) : Int)), .sh (tx t)] _
  unfold t_l_step
  have hN : deedS t p d = none → Q (.sh .non) := fun e => by rw [e] at q; exact q
  cases hst with
  | non hT =>
    walk_at "wgo"
    · rename_i z
      rw [hT] at z; cases z
    · exact hN (deedS_noT hT)
  | @other l h2 h3 =>
    walk_at "wgo"
    all_goals exact hN (deedS_len h2 h3)
  | @two x y hx =>
    have ox := okA_mem (okD_tup hok) (d := x) (by simp)
    have oy := okA_mem (okD_tup hok) (d := y) (by simp)
    walk_at "wgo"
    · rename_i h1 h2
      exact hN (deedS_i2 (by cases y <;> first | rfl | cases h2))
    · rename_i h1 h2
      obtain ⟨yi, rfl⟩ := isI_of (isI_IB5 h1 h2)
      by_cases hs : isStr x = true
      · obtain ⟨w, rfl⟩ := isStr_of hs
        walk_at "wgo"
        · rename_i hyp
          subst hyp
          refine v_eq ?_
          walk_at "wgo"
          · rename_i hw
            subst hw
            exact hN (by rw [deedS2]; split <;> rfl)
          · rename_i hw
            refine v_eq ?_
            walk_at "wgo"
            · rename_i hw2
              subst hw2
              exact hN (by rw [deedS2]; split <;> rfl)
            · rename_i hw2 hpl
              exact hN (by rw [deedS2, if_neg (fun z => by omega)])
            · rename_i hw2 hpl
              refine v_nin ?_
              have hpl : p < t.length := by omega
              have hg : t[p]? = some (t.getD p 0) := by rw [List.getD_eq_getElem?_getD, List.getElem?_eq_getElem hpl]; rfl
              refine u_ninF (ds := [keepL, cutL].map tx) (.inr rfl) rfl rfl ?_
              rw [any_txs]
              by_cases hk : w = keepL
              · subst hk
                rw [decide_eq_true (by simp)]
                rw [deedS2, if_pos ⟨rfl, hpl⟩, if_pos rfl] at q
                walk_at "wgo"
                refine u_ixS (by omega) (i := ((p : Nat) : Int)) (c := t.getD p 0) (atI_nat hg) ?_
                walk_at "wgo"
                refine v_eq ?_
                walk_at "wgo"
                rw [show (if decide (keepL = [107, 101, 101, 112]) = true then (1 : Int) else 0) = 1 from by decide]
                refine u_mulT (.inr rfl) ?_
                rw [if_pos rfl]
                walk_at "wgo"
                exact q
              · by_cases hc : w = cutL
                · subst hc
                  rw [decide_eq_true (by simp)]
                  rw [deedS2, if_pos ⟨rfl, hpl⟩, if_neg hk, if_pos rfl] at q
                  walk_at "wgo"
                  refine u_ixS (by omega) (i := ((p : Nat) : Int)) (c := t.getD p 0) (atI_nat hg) ?_
                  walk_at "wgo"
                  refine v_eq ?_
                  walk_at "wgo"
                  rw [show (if decide (cutL = [107, 101, 101, 112]) = true then (1 : Int) else 0) = 0 from by decide]
                  refine u_mulT (.inl rfl) ?_
                  rw [if_neg (by decide)]
                  walk_at "wgo"
                  exact q
                · rw [decide_eq_false (fun z => by
                    rcases List.mem_cons.mp z with z | z
                    · exact hk z
                    · exact hc (List.mem_singleton.mp z))]
                  walk_at "wgo"
                  exact hN (by rw [deedS2, if_neg hk, if_neg hc, ite_self])
        · rename_i hyp
          refine hN ?_
          rw [deedS2, if_neg (fun z => hyp (by omega))]
      · have hs : isStr x = false := Bool.eq_false_iff.mpr hs
        have hno := hN (deedS_hd2 hs)
        have hne : ∀ {b : Bool} {w : List Nat}, (b = true ↔ x = tx w) → b = false := fun {b w} h => by
          cases b with
          | false => rfl
          | true =>
            have := h.mp rfl
            rw [this] at hs; cases hs
        walk_at "wgo"
        · refine v_eqH (w := putL) hx (tx_any (by decide) (by decide)) fun b hb => ?_
          rw [hne hb]
          walk_at "wgo"
          refine v_eqH (w := chgL) hx (tx_any (by decide) (by decide)) fun b hb => ?_
          rw [hne hb]
          walk_at "wgo"
          · exact hno
          · refine v_ninO (ws := [keepL, cutL]) hx hs (fun w hw => ?_) ?_
            · rcases List.mem_cons.mp hw with rfl | hw
              · exact tx_any (by decide) (by decide)
              · cases List.mem_singleton.mp hw
                exact tx_any (by decide) (by decide)
            walk_at "wgo"
            exact hno
        · exact hno
    · rename_i h1
      exact hN (deedS_i2 (by cases y <;> first | rfl | cases h1))
  | @three x y z hx hz =>
    have ox := okA_mem (okD_tup hok) (d := x) (by simp)
    have oy := okA_mem (okD_tup hok) (d := y) (by simp)
    have oz := okA_mem (okD_tup hok) (d := z) (by simp)
    walk_at "wgo"
    · rename_i h1 h2
      exact hN (deedS_i3 (by cases y <;> first | rfl | cases h2))
    · rename_i h1 h2
      obtain ⟨yi, rfl⟩ := isI_of (isI_IB5 h1 h2)
      by_cases hs : isStr x = true
      · obtain ⟨w, rfl⟩ := isStr_of hs
        have hsg0 : signOf z = none → Q (.sh .non) := fun e => hN (by rw [deedS3, e])
        walk_at "wgo"
        · rename_i hyp
          subst hyp
          refine v_eq ?_
          walk_at "wgo"
          · rename_i hw hzs
            subst hw
            obtain ⟨zl, rfl⟩ := isStr_of hzs
            have hzl : zl.length ≤ 100000 := (okD_str (s := mk zl) oz).1
            walk_at "wgo"
            · rename_i hl1
              refine v_eq ?_
              walk_at "wgo"
              · rename_i h10
                subst h10
                exact hsg0 sign10
              · rename_i h10
                obtain ⟨c, rfl, hc⟩ := sign_some (by omega) h10 hz
                rw [deedS3, hc] at q
                refine v_eq ?_
                walk_at "wgo"
                have q : Q (.sh (stepR (if ((p : Nat) : Int) = ((p : Nat) : Int) then (if putL = putL then some ([c], p) else if putL = chgL ∧ p < t.length then some ([c], p + 1) else none) else none))) := q
                rw [if_pos rfl, if_pos rfl] at q
                exact q
            · exact hsg0 (signOf_len (by omega))
          · rename_i hw hzs
            exact hsg0 (signOf_nos hzs)
          · rename_i hw
            refine v_eq ?_
            walk_at "wgo"
            · rename_i hw2 hzs
              subst hw2
              obtain ⟨zl, rfl⟩ := isStr_of hzs
              have hzl : zl.length ≤ 100000 := (okD_str (s := mk zl) oz).1
              walk_at "wgo"
              · rename_i hl1
                refine v_eq ?_
                walk_at "wgo"
                · rename_i h10
                  subst h10
                  exact hsg0 sign10
                · rename_i h10
                  obtain ⟨c, rfl, hc⟩ := sign_some (by omega) h10 hz
                  rw [deedS3, hc] at q
                  refine v_eq ?_
                  walk_at "wgo"
                  · rename_i hpl
                    have q : Q (.sh (stepR (if ((p : Nat) : Int) = ((p : Nat) : Int) then (if chgL = putL then some ([c], p) else if chgL = chgL ∧ p < t.length then some ([c], p + 1) else none) else none))) := q
                    rw [if_pos rfl, if_neg (by decide), if_pos ⟨rfl, by omega⟩] at q
                    exact q
                  · rename_i hpl
                    have q : Q (.sh (stepR (if ((p : Nat) : Int) = ((p : Nat) : Int) then (if chgL = putL then some ([c], p) else if chgL = chgL ∧ p < t.length then some ([c], p + 1) else none) else none))) := q
                    rw [if_pos rfl, if_neg (by decide), if_neg (fun z => hpl (by omega))] at q
                    exact q
              · exact hsg0 (signOf_len (by omega))
            · rename_i hw2 hzs
              exact hsg0 (signOf_nos hzs)
            · rename_i hw2
              exact hN (deedS3_n fun e => (want3 e).elim hw hw2)
        · rename_i hyp
          refine hN ?_
          rw [deedS3]
          cases signOf z with
          | none => rfl
          | some c => exact if_neg hyp
      · have hs : isStr x = false := Bool.eq_false_iff.mpr hs
        have hno := hN (deedS_hd3 hs)
        have hne : ∀ {b : Bool} {w : List Nat}, (b = true ↔ x = tx w) → b = false := fun {b w} h => by
          cases b with
          | false => rfl
          | true =>
            have := h.mp rfl
            rw [this] at hs; cases hs
        walk_at "wgo"
        · refine v_eqH (w := putL) hx (tx_any (by decide) (by decide)) fun b hb => ?_
          rw [hne hb]
          walk_at "wgo"
          refine v_eqH (w := chgL) hx (tx_any (by decide) (by decide)) fun b hb => ?_
          rw [hne hb]
          walk_at "wgo"
          exact hno
        · exact hno
    · rename_i h1
      exact hN (deedS_i3 (by cases y <;> first | rfl | cases h1))
end


/-! #### due -/
def dueD (t : List Nat) (l : List D) : D := match doneS t 0 [] l with
  | some w => tx w
  | none => .non
theorem deedS_le {t : List Nat} {p p' : Nat} {d : D} {u : List Nat} (h : deedS t p d = some (u, p')) : u.length ≤ 1 := by
  unfold deedS at h
  split at h
  · split at h
    · split at h
      · cases h; exact Nat.le_refl 1
      · split at h
        · cases h; exact Nat.zero_le 1
        · cases h
    · cases h
  · split at h
    · split at h
      · split at h
        · cases h; exact Nat.le_refl 1
        · split at h
          · cases h; exact Nat.le_refl 1
          · cases h
      · cases h
    · cases h
  · cases h
def phi_l_due (_ : ErA) : Phi := fun ds Q _ => ∃ (t : List Nat) (l : List D), ds = [tx t, .lst l] ∧ t.length ≤ 1000 ∧ l.length ≤ 1000 ∧ (∀ d ∈ l, Odd5 d) ∧ Q (.sh (dueD t l))
theorem len_l_due {C : ErA} : ∀ ds Q X, phi_l_due C ds Q X → ds.length = 2 := fun ds Q X h => by
  obtain ⟨_, _, rfl, _⟩ := h; rfl
theorem c_l_due {C : ErA} {t : List Nat} {l : List D} {Q : R → Prop} {X : Value → Prop} (h1 : t.length ≤ 1000) (h2 : l.length ≤ 1000) (h3 : ∀ d ∈ l, Odd5 d) (q : Q (.sh (dueD t l))) : phi_l_due C [tx t, .lst l] Q X := ⟨t, l, rfl, h1, h2, h3, q⟩
abbrev N_l_due : List Str := ["_law_text", "_law_deeds_here", "_law_found", "_law_place", "_law_deed", "_law_step_here"]
def t_l_due (K : PySem.W.Frag) (C : ErA) : TS :=
  tSeq (tAsg (tC (.str (mk []))) (gName 2)) (tSeq (tAsg (tC (.int 0)) (gName 3)) (tSeq (tFor (iList K (tVar 1)) (gName 4) (tSeq (tAsg (tCall (mkSp K (phi_l_step C)) [] E0 (tCons (tVar 4) (tCons (tVar 3) (tCons (tVar 0) tNil)))) (gName 5)) (tSeq (tIfS (tTest (tOp rIsN (tVar 5) (tC .non))) (tRet (tC .non)) tNext) (tSeq (tAsg (tOp (uAdd K) (tVar 2) (tOp (rIx K) (tVar 5) (tC (.int 0)))) (gName 2)) (tAsg (tOp (rIx K) (tVar 5) (tC (.int 1))) (gName 3)))))) (tSeq (tIfS (tTest (tOp (uNe K) (tVar 3) (tCB (cLen K) (tCons (tVar 0) tNil)))) (tRet (tC .non)) tNext) (tRet (tVar 2)))))
theorem w_l_due {K : PySem.W.Frag} {C : ErA} : ∀ ds Q X, phi_l_due C ds Q X → ∀ E, wS K ⟨E, X⟩ (t_l_due K C) (G0 N_l_due ds) (PoQ Q) := by
  intro ds Q X h E
  obtain ⟨t, l, rfl, ht, hl, hodd, q⟩ := h
  show wS K _ (t_l_due K C) [.sh (tx t), .sh (.lst l), .no, .no, .no, .no] _
  unfold t_l_due
  walk_at "wgo"
  refine wS_forL ?_
  walk_at "wgo"
  refine ⟨_, rfl, fun i G => ∃ (acc : List Nat) (p : Nat) (s4 s5 : Slot), G = [.sh (tx t), .sh (.lst l), .sh (tx acc), .sh (.int ((p : Nat) : Int)), s4, s5] ∧ doneS t 0 [] l = doneS t p acc (l.drop i) ∧ acc.length ≤ i ∧ i ≤ l.length, ⟨[], 0, _, _, rfl, by rw [List.drop_zero], Nat.le_refl _, Nat.zero_le _⟩, fun i d G hd h => ?_, fun G h => ?_⟩
  · obtain ⟨acc, p, s4, s5, rfl, he, hal, hil⟩ := h
    have od := hodd d (List.mem_of_getElem? hd)
    have hil2 := (List.getElem?_eq_some_iff.mp hd).1
    rw [drop_at hd] at he
    have he : doneS t 0 [] l = (match deedS t p d with
      | some (u, p') => doneS t p' (acc ++ u) (l.drop (i + 1))
      | none => none) := he
    refine wG_name ⟨rfl, ?_⟩
    walk_at "wgo"
    refine c_l_step od.ok od.st ht ⟨.inl rfl, ?_⟩
    cases hs : deedS t p d with
    | none =>
      rw [hs] at he
      have hN : Q (.sh .non) := by
        unfold dueD at q
        rw [he] at q; exact q
      rw [show stepR none = .non from rfl]
      walk_at "wgo"
      all_goals exact hN
    | some up =>
      obtain ⟨u, p'⟩ := up
      rw [hs] at he
      have hu := deedS_le hs
      rw [show stepR (some (u, p')) = .tup [tx u, .int ((p' : Nat) : Int)] from rfl]
      walk_at "wgo"
      exact ⟨_, _, _, _, rfl, he, by rw [List.length_append]; omega, hil2⟩
  · obtain ⟨acc, p, s4, s5, rfl, he, hal, hil⟩ := h
    rw [List.drop_length] at he
    have he : doneS t 0 [] l = if p = t.length then some acc else none := he
    unfold dueD at q
    rw [he] at q
    walk_at "wgo"
    · rename_i hp
      rw [if_pos (by omega)] at q
      exact q
    · rename_i hp
      rw [if_neg (by omega)] at q
      exact q


/-! #### deeds changed -/
theorem ixN_at {n j : Nat} (h : j < n) : ixN n ((j : Nat) : Int) = some j := by
  unfold ixN
  rw [if_pos (by omega), if_pos (by omega), Int.toNat_natCast]
theorem ins_odd {l : List D} {j : Nat} {x : D} (h : ∀ d ∈ l, Odd5 d) (hx : Odd5 x) : ∀ d ∈ l.take j ++ [x] ++ l.drop j, Odd5 d := fun d hd => by
  rcases List.mem_append.mp hd with hd | hd
  · rcases List.mem_append.mp hd with hd | hd
    · exact h d (List.mem_of_mem_take hd)
    · cases List.mem_singleton.mp hd; exact hx
  · exact h d (List.mem_of_mem_drop hd)
theorem ins_len {l : List D} {j : Nat} {x : D} (h : j ≤ l.length) : (l.take j ++ [x] ++ l.drop j).length = l.length + 1 := by
  rw [List.length_append, List.length_append, List.length_take, List.length_drop, List.length_singleton]; omega
theorem end_at {l : List D} {n : Int} {j : Nat} (hg : ∀ d ∈ l, Good5 d) (hj : j ≤ l.length) : ∃ ds p, (l ++ [D.tup [.str (mk [101, 110, 100]), .int n]])[j]? = some (.tup ds) ∧ atI ds 1 = some (.int p) := by
  by_cases h : j < l.length
  · have hx : l[j]? = some l[j] := List.getElem?_eq_getElem h
    obtain ⟨w, p, _, e | ⟨s, _, e⟩⟩ := hg _ (List.getElem_mem h)
    · exact ⟨_, p, by rw [List.getElem?_append_left h, hx, e], rfl⟩
    · exact ⟨_, p, by rw [List.getElem?_append_left h, hx, e], rfl⟩
  · have e : j = l.length := by omega
    subst e
    exact ⟨_, n, by rw [List.getElem?_append_right (Nat.le_refl _), Nat.sub_self]; rfl, rfl⟩
def phi_l_changed (_ : ErA) : Phi := fun ds Q _ => ∃ (l : List D) (c n o : Int), ds = [.lst l, .int c, .int n, .int o] ∧ (∀ d ∈ l, Good5 d) ∧ l.length ≤ 30 ∧ 0 ≤ n ∧ ∀ l' : List D, (∀ d ∈ l', Odd5 d) → l'.length ≤ 42 → Q (.sh (.lst l'))
theorem len_l_changed {C : ErA} : ∀ ds Q X, phi_l_changed C ds Q X → ds.length = 4 := fun ds Q X h => by
  obtain ⟨_, _, _, _, rfl, _⟩ := h; rfl
theorem c_l_changed {C : ErA} {l : List D} {c n o : Int} {Q : R → Prop} {X : Value → Prop} (h1 : ∀ d ∈ l, Good5 d) (h2 : l.length ≤ 30) (h3 : 0 ≤ n) (q : ∀ l' : List D, (∀ d ∈ l', Odd5 d) → l'.length ≤ 42 → Q (.sh (.lst l'))) : phi_l_changed C [.lst l, .int c, .int n, .int o] Q X := ⟨l, c, n, o, rfl, h1, h2, h3, q⟩
abbrev N_l_changed : List Str := ["_law_deeds_here", "_law_cell", "_law_size", "_law_odd_here", "_law_at_here", "_law_more", "_law_place"]
def t_l_changed (K : PySem.W.Frag) (C : ErA) : TS :=
  tSeq (tAsg (tCB (cList K) (tCons (tVar 0) tNil)) (gName 0)) (tSeq (tAsg (tOp (rI (fun _ j => j ≠ 0) fun i j => .int (i.fmod j)) (tOp (rI CDivN fun i j => .int (i.fdiv j)) (tVar 1) (tC (.int 6))) (tOp (uAdd K) (tCB (cLen K) (tCons (tVar 0) tNil)) (tC (.int 1)))) (gName 4)) (tSeq (tAsg (tOp (rI CDivN fun i j => .int (i.fdiv j)) (tOp (rI CDivN fun i j => .int (i.fdiv j)) (tVar 1) (tC (.int 6))) (tOp (uAdd K) (tCB (cLen K) (tCons (tVar 0) tNil)) (tC (.int 1)))) (gName 5)) (tSeq (tIfS (tAnd (tTest (tOp (uEq K) (tOp (rI (fun _ j => j ≠ 0) fun i j => .int (i.fmod j)) (tVar 1) (tC (.int 6))) (tC (.int 1)))) (tTest (tOp (rI0 fun i j => .bl (decide (i < j))) (tVar 4) (tCB (cLen K) (tCons (tVar 0) tNil))))) (tDrop (tBM K "list" rPopAt (tVar 0) (tCons (tVar 4) tNil))) tNext) (tSeq (tIfS (tAnd (tTest (tOp (uEq K) (tOp (rI (fun _ j => j ≠ 0) fun i j => .int (i.fmod j)) (tVar 1) (tC (.int 6))) (tC (.int 2)))) (tTest (tOp (rI0 fun i j => .bl (decide (i < j))) (tVar 4) (tCB (cLen K) (tCons (tVar 0) tNil))))) (tDrop (tBM K "list" mInsert (tVar 0) (tCons (tVar 4) (tCons (tOp (rIx K) (tVar 0) (tVar 4)) tNil)))) tNext) (tSeq (tIfS (tTest (tOp (uEq K) (tOp (rI (fun _ j => j ≠ 0) fun i j => .int (i.fmod j)) (tVar 1) (tC (.int 6))) (tC (.int 3)))) (tSeq (tAsg (tOp (rIx K) (tOp (rIx K) (tOp (uAdd K) (tVar 0) (tLst (tCons (tTup (tCons (tC (.str (mk [101, 110, 100]))) (tCons (tVar 2) tNil))) tNil))) (tVar 4)) (tC (.int 1))) (gName 6)) (tDrop (tBM K "list" mInsert (tVar 0) (tCons (tVar 4) (tCons (tCall (mkSp K (phi_l_odd C)) [] E0 (tCons (tVar 3) (tCons (tVar 2) (tCons (tVar 6) tNil)))) tNil))))) tNext) (tSeq (tIfS (tAnd (tTest (tOp (uEq K) (tOp (rI (fun _ j => j ≠ 0) fun i j => .int (i.fmod j)) (tVar 1) (tC (.int 6))) (tC (.int 4)))) (tTest (tOp (rI0 fun i j => .bl (decide (i < j))) (tVar 4) (tCB (cLen K) (tCons (tVar 0) tNil))))) (tAsg (tOp (uAdd K) (tTup (tCons (tOp (rIx K) (tOp (rIx K) (tVar 0) (tVar 4)) (tC (.int 0))) (tCons (tOp (rI (fun _ j => j ≠ 0) fun i j => .int (i.fmod j)) (tVar 5) (tOp (uAdd K) (tVar 2) (tC (.int 1)))) tNil))) (tSl (uSl K) (tOp (rIx K) (tVar 0) (tVar 4)) (tPart (tC (.int 2))) tNoPart)) (gSub (tVar 0) (tVar 4) rSetL)) tNext) (tRet (tVar 0))))))))
theorem w_l_changed {K : PySem.W.Frag} {C : ErA} : ∀ ds Q X, phi_l_changed C ds Q X → ∀ E, wS K ⟨E, X⟩ (t_l_changed K C) (G0 N_l_changed ds) (PoQ Q) := by
  intro ds Q X h E
  obtain ⟨l, c, n, o, rfl, hg, hl, hn, q⟩ := h
  have h6 := fmod_rng c (n := 6) (by decide)
  have h1 := fmod_rng (c.fdiv 6) (n := ((l.length : Nat) : Int) + 1) (by omega)
  obtain ⟨j, hj, hjl⟩ : ∃ j : Nat, (c.fdiv 6).fmod (((l.length : Nat) : Int) + 1) = (j : Int) ∧ j ≤ l.length := ⟨((c.fdiv 6).fmod (((l.length : Nat) : Int) + 1)).toNat, by omega, by omega⟩
  have hodd : ∀ d ∈ l, Odd5 d := fun d hd => (hg d hd).odd
  show wS K _ (t_l_changed K C) [.sh (.lst l), .sh (.int c), .sh (.int n), .sh (.int o), .no, .no, .no] _
  unfold t_l_changed
  walk_at "wst"
  rename_i a0
  rw [hj]
  refine wR_I ⟨by omega, by omega⟩ rfl ?_
  walk_at "wst"
  refine wS_cut (fun G => ∃ (l' : List D) (m : Int) (s6 : Slot), G = [.ow a0 (.lst l'), .sh (.int c), .sh (.int n), .sh (.int o), .sh (.int ((j : Nat) : Int)), .sh (.int m), s6] ∧ (∀ d ∈ l', Odd5 d) ∧ l'.length ≤ 40 ∧ (c.fmod 6 = 1 ∨ l' = l)) ?_ fun G h => ?_
  · walk_at "wgo"
    · rename_i e1 hjl2
      refine wS_popAt rfl ?_
      walk_at "wgo"
      refine ⟨by omega, by omega, ?_⟩
      exact ⟨_, _, _, rfl, fun d hd => hodd d (List.mem_of_mem_eraseIdx hd), by have := List.length_eraseIdx_le l j; omega, .inl e1⟩
    all_goals exact ⟨l, _, _, rfl, hodd, by omega, .inr rfl⟩
  obtain ⟨l1, m1, s6, rfl, ho1, hl1, hc1⟩ := h
  walk_at "wst"
  refine wS_cut (fun G => ∃ (l' : List D) (m : Int) (s6 : Slot), G = [.ow a0 (.lst l'), .sh (.int c), .sh (.int n), .sh (.int o), .sh (.int ((j : Nat) : Int)), .sh (.int m), s6] ∧ (∀ d ∈ l', Odd5 d) ∧ l'.length ≤ 41 ∧ (c.fmod 6 = 1 ∨ c.fmod 6 = 2 ∨ l' = l)) ?_ fun G h => ?_
  · walk_at "wgo"
    · rename_i e2 hjl2
      have hx : l1[j]? = some l1[j] := List.getElem?_eq_getElem (by omega)
      refine wS_ins rfl ?_
      walk_at "wgo"
      refine u_ixL rfl (atI_nat hx) ?_
      walk_at "wgo"
      refine ⟨l1, j, _, rfl, rfl, by omega, by omega, ?_⟩
      exact ⟨_, _, _, rfl, ins_odd ho1 (ho1 _ (List.getElem_mem _)), by rw [ins_len (by omega)]; omega, .inr (.inl e2)⟩
    all_goals exact ⟨l1, _, _, rfl, ho1, by omega, hc1.imp id .inr⟩
  obtain ⟨l2, m2, s6, rfl, ho2, hl2, hc2⟩ := h
  walk_at "wst"
  refine wS_cut (fun G => ∃ (l' : List D) (m : Int) (s6 : Slot), G = [.ow a0 (.lst l'), .sh (.int c), .sh (.int n), .sh (.int o), .sh (.int ((j : Nat) : Int)), .sh (.int m), s6] ∧ (∀ d ∈ l', Odd5 d) ∧ l'.length ≤ 42 ∧ (c.fmod 6 ≤ 3 ∨ l' = l)) ?_ fun G h => ?_
  · walk_at "wgo"
    · rename_i e3 _ _
      have el : l2 = l := by
        rcases hc2 with h | h | h
        · omega
        · omega
        · exact h
      subst el
      obtain ⟨ds, p, hx, hp⟩ := end_at (n := n) hg hjl
      refine u_ixL rfl (atI_nat hx) ?_
      walk_at "wgo"
      refine u_ixT hp ?_
      walk_at "wgo"
      refine wS_ins rfl ?_
      walk_at "wgo"
      refine c_l_odd hn fun d hd => ⟨.inl rfl, ?_⟩
      walk_at "wgo"
      refine ⟨l2, j, _, rfl, rfl, by omega, by omega, ?_⟩
      exact ⟨_, _, _, rfl, ins_odd ho2 hd, by rw [ins_len (by omega)]; omega, .inl (by omega)⟩
    · exact ⟨l2, _, _, rfl, ho2, by omega, hc2.elim (fun h => .inl (by omega)) fun h => h.elim (fun h => .inl (by omega)) .inr⟩
  obtain ⟨l3, m3, s6, rfl, ho3, hl3, hc3⟩ := h
  walk_at "wst"
  refine wS_cut (fun G => ∃ (l' : List D) (m : Int) (s6 : Slot), G = [.ow a0 (.lst l'), .sh (.int c), .sh (.int n), .sh (.int o), .sh (.int ((j : Nat) : Int)), .sh (.int m), s6] ∧ (∀ d ∈ l', Odd5 d) ∧ l'.length ≤ 42) ?_ fun G h => ?_
  · walk_at "wgo"
    · rename_i e4 hj4
      have el : l3 = l := by
        rcases hc3 with h | h
        · omega
        · exact h
      subst el
      have hx : l3[j]? = some l3[j] := List.getElem?_eq_getElem (by omega)
      obtain ⟨w, p, hw, e | ⟨s, hs, e⟩⟩ := hg _ (List.getElem_mem (l := l3) (n := j) (by omega))
      · rw [e] at hx
        refine wS_setL (a := a0) (ds0 := l3) ?_
        walk_at "wgo"
        refine u_ixL rfl (atI_nat hx) ?_
        walk_at "wgo"
        refine u_ixL rfl (atI_nat hx) ?_
        walk_at "wgo"
        refine u_addU (by show 2 + 0 ≤ 1000000; omega) ?_
        walk_at "wgo"
        refine ⟨_, j, _, rfl, rfl, ixN_at (by omega), ?_⟩
        exact ⟨_, _, _, rfl, fun d hd => (by
          rcases List.mem_or_eq_of_mem_set hd with hd | rfl
          · exact ho3 d hd
          · exact (good2 hw _).odd), by rw [List.length_set]; omega⟩
      · rw [e] at hx
        refine wS_setL (a := a0) (ds0 := l3) ?_
        walk_at "wgo"
        refine u_ixL rfl (atI_nat hx) ?_
        walk_at "wgo"
        refine u_ixL rfl (atI_nat hx) ?_
        walk_at "wgo"
        refine u_addU (by show 2 + 1 ≤ 1000000; omega) ?_
        walk_at "wgo"
        refine ⟨_, j, _, rfl, rfl, ixN_at (by omega), ?_⟩
        exact ⟨_, _, _, rfl, fun d hd => (by
          rcases List.mem_or_eq_of_mem_set hd with hd | rfl
          · exact ho3 d hd
          · exact (good3 hw _ hs).odd), by rw [List.length_set]; omega⟩
    all_goals exact ⟨l3, _, _, rfl, ho3, by omega⟩
  obtain ⟨l4, m4, s6, rfl, ho4, hl4⟩ := h
  refine wS_ret ?_
  refine wE_varF rfl ?_
  walk_at "wgo"
  exact q l4 ho4 hl4


/-! #### the law -/
theorem okEA_all : ∀ {l : List D}, (∀ d ∈ l, Odd5 d) → okEA 60 l = true
  | [], _ => rfl
  | d :: l, h => by
    show (okE 60 d && okEA 60 l) = true
    rw [(h d List.mem_cons_self).eq, okEA_all fun x hx => h x (List.mem_cons_of_mem _ hx)]; rfl
def phi_law (_ : ErA) : Phi := fun ds Q _ => ∃ ns, ds = [.scr ns] ∧ Q (.sh (.bl true))
theorem len_law {C : ErA} : ∀ ds Q X, phi_law C ds Q X → ds.length = 1 := fun ds Q X h => by
  obtain ⟨_, rfl, _⟩ := h; rfl
abbrev N_law : List Str := ["_law_script", "_law_size", "_law_text", "_law_deeds_here", "_law_due_here", "_law_given", "e", "_law_found", "_law_k"]
def t_law (K : PySem.W.Frag) (C : ErA) : TS :=
  tSeq (tAsg (tOp (rI (fun _ j => j ≠ 0) fun i j => .int (i.fmod j)) (tCall (mkSp K (phi_l_at C)) [] E0 (tCons (tVar 0) (tCons (tC (.int 0)) tNil))) (tC (.int 10))) (gName 1)) (tSeq (tAsg (tM1 (mJoin K) (tC (.str (mk []))) (tLc (iRng1 (tCons (tVar 1) tNil)) (gName 8) tYes (tCall (mkSp K (phi_l_sign C)) [] E0 (tCons (tCall (mkSp K (phi_l_at C)) [] E0 (tCons (tVar 0) (tCons (tOp (uAdd K) (tC (.int 3)) (tVar 8)) tNil))) tNil)) [8])) (gName 2)) (tSeq (tAsg (tCall (mkSp K (phi_l_changed C)) [] E0 (tCons (tCall (mkSp K (phi_l_deeds C)) [] E0 (tCons (tVar 0) (tCons (tVar 2) tNil))) (tCons (tCall (mkSp K (phi_l_at C)) [] E0 (tCons (tVar 0) (tCons (tC (.int 1)) tNil))) (tCons (tVar 1) (tCons (tOp (rI (fun _ j => j ≠ 0) fun i j => .int (i.fmod j)) (tOp uMul (tCall (mkSp K (phi_l_at C)) [] E0 (tCons (tVar 0) (tCons (tC (.int 2)) tNil))) (tC (.int 48271))) (tC (.int 10007))) tNil))))) (gName 3)) (tSeq (tAsg (tCall (mkSp K (phi_l_due C)) [] E0 (tCons (tVar 2) (tCons (tVar 3) tNil))) (gName 4)) (tSeq (tAsg (tCB (cList K) (tCons (tVar 3) tNil)) (gName 5)) (tSeq (tTryC K (.ref C.mend) 6 (mkSp K (phi_done C)) (tCons (tVar 2) (tCons (tVar 5) tNil)) (fun te => tAsg te (gName 7)) (tSuite C fun a n => (tSeq (tIfS (tOr (tTru K (tCB (rIsX K (C.at n) a) (tCons (tVar 6) (tCons (tTup (tCons (tC (.ref (C.at 0))) (tCons (tC (.ref (C.at 3))) (tCons (tC (.ref (C.at 2))) (tCons (tC (.ref (C.at 1))) tNil))))) tNil)))) (tNot (tTru K (tCB (rIsX K (C.at n) a) (tCons (tVar 6) (tCons (tC (.ty "ValueError")) tNil)))))) (tRet (tC (.bl false))) tNext) (tRet (tAndV (tOp rIsN (tVar 4) (tC .non)) (tAndV (tCB (rIsX K (C.at n) a) (tCons (tVar 6) (tCons (tC (.ref (C.at 4))) tNil))) (tOp (vEq K) (tVar 5) (tVar 3)))))))) (tRet (tAndV (tOp rNotN (tVar 4) (tC .non)) (tAndV (tCB (rIsi K) (tCons (tVar 7) (tCons (tC (.ty "str")) tNil))) (tAndV (tOp (vEq K) (tVar 7) (tVar 4)) (tOp (vEq K) (tVar 5) (tVar 3)))))))))))
theorem w_law {K : PySem.W.Frag} {C : ErA} (XK : ErK K C) : ∀ ds Q X, phi_law C ds Q X → ∀ E, wS K ⟨E, X⟩ (t_law K C) (G0 N_law ds) (PoQ Q) := by
  intro ds Q X h E
  obtain ⟨ns, rfl, q⟩ := h
  show wS K _ (t_law K C) [.sh (.scr ns), .no, .no, .no, .no, .no, .no, .no, .no] _
  unfold t_law
  have h10 := fmod_rng (cell ns 0) (n := 10) (by decide)
  obtain ⟨z, hz, hz10⟩ : ∃ z : Nat, (cell ns 0).fmod 10 = (z : Int) ∧ z < 10 := ⟨((cell ns 0).fmod 10).toNat, by omega, by omega⟩
  walk_at "wst"
  rw [hz]
  walk_at "wst"
  refine wE_lcR (fun j : Nat => tx [signF (cell ns (3 + (j : Int)))]) ?_
  walk_at "wgo"
  refine ⟨_, rfl, rfl, by omega, by omega, fun j hj => ?_, fun a => ?_⟩
  · refine wT_yes ⟨rfl, ?_⟩
    walk_at "wgo"
    walk_at "keep"
  rw [Int.toNat_natCast]
  refine wM_join1 (n := z) rfl (by omega) ?_
  have htl : ((List.range z).map fun j : Nat => signF (cell ns (3 + (j : Int)))).length = z := by
    rw [List.length_map, List.length_range]
  generalize ((List.range z).map fun j : Nat => signF (cell ns (3 + (j : Int)))) = t at htl
  walk_at "wst"
  refine c_l_deeds (by omega) fun a1 l1 hg1 hl1 => ⟨.inl rfl, ?_⟩
  walk_at "wgo"
  refine c_l_changed hg1 hl1 (by omega) fun l ho hl => ⟨.inl rfl, ?_⟩
  walk_at "wst"
  refine c_l_due (by omega) (by omega) ho ⟨.inl rfl, ?_⟩
  walk_at "wst"
  have hok : okA l = true := okA_all fun d hd => (ho d hd).ok
  have heq := okEA_all ho
  refine wS_tryAsg ?_
  walk_at "wgo"
  refine c_done hok (by omega) (by omega) (fun hn => ?_) fun w hw => ⟨.inr rfl, ?_⟩
  · refine caught_of (n := 4) XK (by omega) rfl fun ae => ?_
    have hd : dueD t l = .non := by unfold dueD; rw [hn]
    rw [hd]
    walk_at "wgo"
    refine wC_isXT (n := 4) (l := [0, 3, 2, 1]) XK (by omega) (by decide) ?_
    rw [show decide (4 ∈ [0, 3, 2, 1]) = false from by decide]
    walk_at "wgo"
    refine wC_isXV (n := 4) XK (by omega) ?_
    walk_at "wgo"
    refine wC_isX1 (n := 4) (j := 4) XK (by omega) (by omega) ?_
    walk_at "wgo"
    refine v_eqSame rfl rfl heq ?_
    walk_at "wgo"
    exact q
  · have hd : dueD t l = tx w := by unfold dueD; rw [hw]
    rw [hd]
    walk_at "wgo"
    refine v_eq ?_
    walk_at "wgo"
    refine v_eqSame rfl rfl heq ?_
    walk_at "wgo"
    exact q


def E00 : ErA := ⟨0, 0, 0, 0, 0, 0⟩
theorem phi_law_of (ns : List Int) (hl : ns.length ≤ 63) : phi_law E00 [.scr ns] (fun r => r = .sh (.bl true)) fun _ => False := ⟨ns, rfl, rfl⟩
def topS (i : Nat) : Stmt := PySem.Challenge.pw_mendread_k05_deeds_done.main.body.getD i (.Pass ⟨0, 0, 0, 0⟩)
abbrev s_is_sign : Stmt := topS 9
theorem sc_is_sign : FnScope N_is_sign ["thing"] (defScope s_is_sign) := ⟨rfl, rfl, rfl, by decide +kernel, rfl, by decide +kernel, by decide +kernel⟩
theorem fo_is_sign {P : Program} {w : World} {K : PySem.W.Frag} {mg : Str → Option Value} {base : Heap} {C : ErA} {f : Addr} {fd : FuncData} (F : Fun K "is_sign" "is_sign" s_is_sign f fd) (T : Bi mg) (C_SIGNS : ∃ u, mg "SIGNS" = some u ∧ RelV (.str (mk signsL)) u) :
    FnOk P w K mg base CX0 1 f fd ["thing"] (mkSp K (phi_is_sign C)) := by
  refine fn_pure (k := 0) (t := t_is_sign K C) F sc_is_sign len_is_sign w_is_sign ?_
  intro cdv A outer s H E hr
  exact (pss_one (ps_ret (pe_and (pe_callB call_isi (by rfl) T.isinstance (by decide +kernel) (pa_cons (pv 0) (pa_cons (pe_bltn (by rfl) T.str (by decide +kernel) rfl) pa_nil))) (pe_and (pe_cmpR (op_uEq hr) (pe_callB call_len (by rfl) T.len (by decide +kernel) (pa_cons (pv 0) pa_nil)) pe_int (nomark _)) (pe_one (pe_cmpR (op_uIn hr) (pv 0) (pe_gl (by rfl) C_SIGNS) (by rfl)))))))
theorem ok_is_sign {P : Program} {w : World} {K : PySem.W.Frag} {mg : Str → Option Value} {base : Heap} {C : ErA} {f : Addr} {fd : FuncData} (F : Fun K "is_sign" "is_sign" s_is_sign f fd) (m : mg "is_sign" = some (.ref f)) (T : Bi mg) (C_SIGNS : ∃ u, mg "SIGNS" = some u ∧ RelV (.str (mk signsL)) u) :
    Cal P w K mg base CX0 1 "is_sign" ["thing"] (phi_is_sign C) :=
  ⟨f, fd, fo_is_sign F T C_SIGNS, m, F.kp, F.binds (ps := ["thing"]) fun _ _ _ _ _ _ us hl => match us, hl with | [_], _ => rfl⟩
abbrev s_is_place : Stmt := topS 11
theorem sc_is_place : FnScope N_is_place ["thing"] (defScope s_is_place) := ⟨rfl, rfl, rfl, by decide +kernel, rfl, by decide +kernel, by decide +kernel⟩
theorem fo_is_place {P : Program} {w : World} {K : PySem.W.Frag} {mg : Str → Option Value} {base : Heap} {C : ErA} {f : Addr} {fd : FuncData} (F : Fun K "is_place" "is_place" s_is_place f fd) (T : Bi mg) :
    FnOk P w K mg base CX0 1 f fd ["thing"] (mkSp K (phi_is_place C)) := by
  refine fn_pure (k := 0) (t := t_is_place K C) F sc_is_place len_is_place w_is_place ?_
  intro cdv A outer s H E hr
  exact (pss_one (ps_ret (pe_and (pe_callB call_isi (by rfl) T.isinstance (by decide +kernel) (pa_cons (pv 0) (pa_cons (pe_bltn (by rfl) T.int (by decide +kernel) rfl) pa_nil))) (pe_one (pe_not (pe_callB call_isi (by rfl) T.isinstance (by decide +kernel) (pa_cons (pv 0) (pa_cons (pe_bltn (by rfl) T.bool (by decide +kernel) rfl) pa_nil))))))))
theorem ok_is_place {P : Program} {w : World} {K : PySem.W.Frag} {mg : Str → Option Value} {base : Heap} {C : ErA} {f : Addr} {fd : FuncData} (F : Fun K "is_place" "is_place" s_is_place f fd) (m : mg "is_place" = some (.ref f)) (T : Bi mg) :
    Cal P w K mg base CX0 1 "is_place" ["thing"] (phi_is_place C) :=
  ⟨f, fd, fo_is_place F T, m, F.kp, F.binds (ps := ["thing"]) fun _ _ _ _ _ _ us hl => match us, hl with | [_], _ => rfl⟩
abbrev s_need_deed : Stmt := topS 13
theorem sc_need_deed : FnScope N_need_deed ["deed", "place", "size"] (defScope s_need_deed) := ⟨rfl, rfl, rfl, by decide +kernel, rfl, by decide +kernel, by decide +kernel⟩
theorem fo_need_deed {P : Program} {w : World} {K : PySem.W.Frag} {mg : Str → Option Value} {base : Heap} {C : ErA} {f : Addr} {fd : FuncData} (F : Fun K "need_deed" "need_deed" s_need_deed f fd) (T : Bi mg) (X_BadDeeds : ExF K mg "BadDeeds" C.deeds) (G_is_place : Cal P w K mg base CX0 1 "is_place" ["thing"] (phi_is_place C)) (G_is_sign : Cal P w K mg base CX0 1 "is_sign" ["thing"] (phi_is_sign C)) :
    FnOk P w K mg base (L2.CX P w) 2 f fd ["deed", "place", "size"] (mkSp K (phi_need_deed C)) := by
  refine fn_pureX (k := 1) (t := t_need_deed K C) F sc_need_deed len_need_deed w_need_deed ?_
  intro cdv A outer s H E hr
  exact (pss_cons (ps_if (PW.pt (pw_or (pt_not (pt_truth (pe_callB call_isi (by rfl) T.isinstance (by decide +kernel) (pa_cons (pv 0) (pa_cons (pe_bltn (by rfl) T.tuple (by decide +kernel) rfl) pa_nil))) (by intro _; rfl))) (pw_or (pt_cmpR (op_uNin hr) (pe_callB call_len (by rfl) T.len (by decide +kernel) (pa_cons (pv 0) pa_nil)) (pe_tup (pa_cons pe_int (pa_cons pe_int pa_nil))) (by rfl)) (pw_or1 (pt_not (pt_truth (pe_callB call_isi (by rfl) T.isinstance (by decide +kernel) (pa_cons (pe_ix ix_seq (pv 0) pe_int (fun _ _ => rfl)) (pa_cons (pe_bltn (by rfl) T.str (by decide +kernel) rfl) pa_nil))) (by intro _; rfl))))))) (pss_one (ps_rz rfl (takes_of rfl rfl rfl rfl) X_BadDeeds (by rfl))) pss_nil) (pss_cons (ps_set (i := 3) sc_need_deed.nd rfl (Or.inl rfl) (pe_disp (pps_cons (pe_strL (by decide +kernel)) pe_int (pps_cons (pe_strL (by decide +kernel)) pe_int (pps_cons (pe_strL (by decide +kernel)) pe_int (pps_cons (pe_strL (by decide +kernel)) pe_int pps_nil)))) (by rfl) (by rfl) (fun z => by cases z) (by decide))) (pss_cons (ps_if (PW.pt (pw_or (pt_cmpR (op_uNe hr) (pe_dget1 (room_u hr) (pv 3) (pe_ix ix_seq (pv 0) pe_int (fun _ _ => rfl)) ⟨rfl, rfl, rfl, rfl⟩) (pe_callB call_len (by rfl) T.len (by decide +kernel) (pa_cons (pv 0) pa_nil)) (nomark _)) (pw_or (pt_not (pt_truth (pe_cal G_is_place (hr.mono (by decide)) (by rfl) pass0 (pa_cons (pe_ix ix_seq (pv 0) pe_int (fun _ _ => rfl)) pa_nil)) (by intro _; rfl))) (pw_or1 (pt_cmpR (op_uNe hr) (pe_ix ix_seq (pv 0) pe_int (fun _ _ => rfl)) (pv 1) (nomark _)))))) (pss_one (ps_rz rfl (takes_of rfl rfl rfl rfl) X_BadDeeds (by rfl))) pss_nil) (pss_cons (ps_if (PW.pt (pw_and (pt_cmpR (op_uEq hr) (pe_callB call_len (by rfl) T.len (by decide +kernel) (pa_cons (pv 0) pa_nil)) pe_int (nomark _)) (pw_and1 (pt_not (pt_truth (pe_cal G_is_sign (hr.mono (by decide)) (by rfl) pass0 (pa_cons (pe_ix ix_seq (pv 0) pe_int (fun _ _ => rfl)) pa_nil)) (by intro _; rfl)))))) (pss_one (ps_rz rfl (takes_of rfl rfl rfl rfl) X_BadDeeds (by rfl))) pss_nil) (pss_one (ps_if (PW.pt (pw_and (pt_cmpR (op_uNe hr) (pe_ix ix_seq (pv 0) pe_int (fun _ _ => rfl)) (pe_strL (by decide +kernel)) (nomark _)) (pw_and1 (pt_cmpR op_ge (pv 1) (pv 2) (nomark _))))) (pss_one (ps_rz rfl (takes_of rfl rfl rfl rfl) X_BadDeeds (by rfl))) pss_nil))))))
theorem ok_need_deed {P : Program} {w : World} {K : PySem.W.Frag} {mg : Str → Option Value} {base : Heap} {C : ErA} {f : Addr} {fd : FuncData} (F : Fun K "need_deed" "need_deed" s_need_deed f fd) (m : mg "need_deed" = some (.ref f)) (T : Bi mg) (X_BadDeeds : ExF K mg "BadDeeds" C.deeds) (G_is_place : Cal P w K mg base CX0 1 "is_place" ["thing"] (phi_is_place C)) (G_is_sign : Cal P w K mg base CX0 1 "is_sign" ["thing"] (phi_is_sign C)) :
    Cal P w K mg base (L2.CX P w) 2 "need_deed" ["deed", "place", "size"] (phi_need_deed C) :=
  ⟨f, fd, fo_need_deed F T X_BadDeeds G_is_place G_is_sign, m, F.kp, F.binds (ps := ["deed", "place", "size"]) fun _ _ _ _ _ _ us hl => match us, hl with | [_, _, _], _ => rfl⟩
abbrev s_done : Stmt := topS 14
theorem sc_done : FnScope N_done ["text", "deeds"] (defScope s_done) := ⟨rfl, rfl, rfl, by decide +kernel, rfl, by decide +kernel, by decide +kernel⟩
theorem fo_done {P : Program} {w : World} {K : PySem.W.Frag} {mg : Str → Option Value} {base : Heap} {C : ErA} {f : Addr} {fd : FuncData} (F : Fun K "done" "done" s_done f fd) (T : Bi mg) (X_BadDeeds : ExF K mg "BadDeeds" C.deeds) (G_need_deed : Cal P w K mg base (L2.CX P w) 2 "need_deed" ["deed", "place", "size"] (phi_need_deed C)) :
    FnOk P w K mg base (L2.CX P w) 3 f fd ["text", "deeds"] (mkSp K (phi_done C)) := by
  refine fn_pureX (k := 2) (t := t_done K C) F sc_done len_done w_done ?_
  intro cdv A outer s H E hr
  exact (pss_cons (ps_set (i := 2) sc_done.nd rfl (Or.inl rfl) (pe_strL (by decide +kernel))) (pss_cons (ps_set (i := 3) sc_done.nd rfl (Or.inl rfl) pe_int) (pss_cons (ps_for (passes_of rfl) rfl (pi_list (pv 1)) (pg_name (i := 4) sc_done.nd rfl (Or.inl rfl)) (pss_cons (ps_expr (pe_cal G_need_deed (hr.mono (by decide)) (by rfl) (passes_call (takes_of rfl rfl rfl rfl) (fun _ _ _ _ h => h)) (pa_cons (pv 4) (pa_cons (pv 3) (pa_cons (pe_callB call_len (by rfl) T.len (by decide +kernel) (pa_cons (pv 0) pa_nil)) pa_nil))))) (pss_cons (ps_if (pt_cmpR (op_uEq hr) (pe_ix ix_seq (pv 4) pe_int (fun _ _ => rfl)) (pe_strL (by decide +kernel)) (nomark _)) (pss_one (ps_set (i := 2) sc_done.nd rfl (Or.inl rfl) (pe_op op_uAdd (pv 2) (pe_ix ix_seq (pv 0) (pv 3) (fun _ _ => rfl))))) (pss_one (ps_if (pt_cmpR (op_uNe hr) (pe_ix ix_seq (pv 4) pe_int (fun _ _ => rfl)) (pe_strL (by decide +kernel)) (nomark _)) (pss_one (ps_set (i := 2) sc_done.nd rfl (Or.inl rfl) (pe_op op_uAdd (pv 2) (pe_ix ix_seq (pv 4) pe_int (fun _ _ => rfl))))) pss_nil))) (pss_one (ps_if (pt_cmpR (op_uNe hr) (pe_ix ix_seq (pv 4) pe_int (fun _ _ => rfl)) (pe_strL (by decide +kernel)) (nomark _)) (pss_one (ps_set (i := 3) sc_done.nd rfl (Or.inl rfl) (pe_op op_uAdd (pv 3) pe_int))) pss_nil))))) (pss_cons (ps_if (pt_cmpR (op_uNe hr) (pv 3) (pe_callB call_len (by rfl) T.len (by decide +kernel) (pa_cons (pv 0) pa_nil)) (nomark _)) (pss_one (ps_rz rfl (takes_of rfl rfl rfl rfl) X_BadDeeds (by rfl))) pss_nil) (pss_one (ps_ret (pv 2)))))))
theorem ok_done {P : Program} {w : World} {K : PySem.W.Frag} {mg : Str → Option Value} {base : Heap} {C : ErA} {f : Addr} {fd : FuncData} (F : Fun K "done" "done" s_done f fd) (m : mg "done" = some (.ref f)) (T : Bi mg) (X_BadDeeds : ExF K mg "BadDeeds" C.deeds) (G_need_deed : Cal P w K mg base (L2.CX P w) 2 "need_deed" ["deed", "place", "size"] (phi_need_deed C)) :
    Cal P w K mg base (L2.CX P w) 3 "done" ["text", "deeds"] (phi_done C) :=
  ⟨f, fd, fo_done F T X_BadDeeds G_need_deed, m, F.kp, F.binds (ps := ["text", "deeds"]) fun _ _ _ _ _ _ us hl => match us, hl with | [_, _], _ => rfl⟩
abbrev s_l_at : Stmt := topS 16
theorem sc_l_at : FnScope N_l_at ["_law_script", "_law_place"] (defScope s_l_at) := ⟨rfl, rfl, rfl, by decide +kernel, rfl, by decide +kernel, by decide +kernel⟩
theorem fo_l_at {P : Program} {w : World} {K : PySem.W.Frag} {mg : Str → Option Value} {base : Heap} {C : ErA} {f : Addr} {fd : FuncData} (F : Fun K "_law_at" "_law_at" s_l_at f fd) (T : Bi mg) :
    FnOk P w K mg base CX0 1 f fd ["_law_script", "_law_place"] (mkSp K (phi_l_at C)) := by
  refine fn_pure (k := 0) (t := t_l_at K C) F sc_l_at len_l_at w_l_at ?_
  intro cdv A outer s H E hr
  exact (pss_cons (ps_if (pt_cmpR op_ge (pv 1) (pe_callB call_len (by rfl) T.len (by decide +kernel) (pa_cons (pv 0) pa_nil)) (nomark _)) (pss_one (ps_ret pe_int)) pss_nil) (pss_one (ps_ret (pe_ix ix_seq (pv 0) (pv 1) (fun _ _ => rfl)))))
theorem ok_l_at {P : Program} {w : World} {K : PySem.W.Frag} {mg : Str → Option Value} {base : Heap} {C : ErA} {f : Addr} {fd : FuncData} (F : Fun K "_law_at" "_law_at" s_l_at f fd) (m : mg "_law_at" = some (.ref f)) (T : Bi mg) :
    Cal P w K mg base CX0 1 "_law_at" ["_law_script", "_law_place"] (phi_l_at C) :=
  ⟨f, fd, fo_l_at F T, m, F.kp, F.binds (ps := ["_law_script", "_law_place"]) fun _ _ _ _ _ _ us hl => match us, hl with | [_, _], _ => rfl⟩
abbrev s_l_sign : Stmt := topS 17
theorem sc_l_sign : FnScope N_l_sign ["_law_cell"] (defScope s_l_sign) := ⟨rfl, rfl, rfl, by decide +kernel, rfl, by decide +kernel, by decide +kernel⟩
theorem fo_l_sign {P : Program} {w : World} {K : PySem.W.Frag} {mg : Str → Option Value} {base : Heap} {C : ErA} {f : Addr} {fd : FuncData} (F : Fun K "_law_sign" "_law_sign" s_l_sign f fd) (T : Bi mg) :
    FnOk P w K mg base CX0 1 f fd ["_law_cell"] (mkSp K (phi_l_sign C)) := by
  refine fn_pure (k := 0) (t := t_l_sign K C) F sc_l_sign len_l_sign w_l_sign ?_
  intro cdv A outer s H E hr
  exact (pss_cons (ps_set (i := 1) sc_l_sign.nd rfl (Or.inl rfl) (pe_strL (by decide +kernel))) (pss_cons (ps_set (i := 2) sc_l_sign.nd rfl (Or.inl rfl) (pe_op op_uAdd (pe_op op_uAdd (pe_op op_uAdd (pe_op op_uAdd (pe_strL (by decide +kernel)) (pv 1)) (pe_strL (by decide +kernel))) (pe_lower (pv 1))) (pe_strL (by decide +kernel)))) (pss_one (ps_ret (pe_ix ix_seq (pv 2) (pe_op op_modN (pv 0) pe_int) (fun _ _ => rfl))))))
theorem ok_l_sign {P : Program} {w : World} {K : PySem.W.Frag} {mg : Str → Option Value} {base : Heap} {C : ErA} {f : Addr} {fd : FuncData} (F : Fun K "_law_sign" "_law_sign" s_l_sign f fd) (m : mg "_law_sign" = some (.ref f)) (T : Bi mg) :
    Cal P w K mg base CX0 1 "_law_sign" ["_law_cell"] (phi_l_sign C) :=
  ⟨f, fd, fo_l_sign F T, m, F.kp, F.binds (ps := ["_law_cell"]) fun _ _ _ _ _ _ us hl => match us, hl with | [_], _ => rfl⟩
abbrev s_l_deeds : Stmt := topS 18
theorem sc_l_deeds : FnScope N_l_deeds ["_law_script", "_law_text"] (defScope s_l_deeds) := ⟨rfl, rfl, rfl, by decide +kernel, rfl, by decide +kernel, by decide +kernel⟩
theorem fo_l_deeds {P : Program} {w : World} {K : PySem.W.Frag} {mg : Str → Option Value} {base : Heap} {C : ErA} {f : Addr} {fd : FuncData} (F : Fun K "_law_deeds" "_law_deeds" s_l_deeds f fd) (T : Bi mg) (G_l_at : Cal P w K mg base CX0 1 "_law_at" ["_law_script", "_law_place"] (phi_l_at C)) (G_l_sign : Cal P w K mg base CX0 1 "_law_sign" ["_law_cell"] (phi_l_sign C)) :
    FnOk P w K mg base CX0 2 f fd ["_law_script", "_law_text"] (mkSp K (phi_l_deeds C)) := by
  refine fn_pure (k := 1) (t := t_l_deeds K C) F sc_l_deeds len_l_deeds w_l_deeds ?_
  intro cdv A outer s H E hr
  exact (pss_cons (ps_set (i := 2) sc_l_deeds.nd rfl (Or.inl rfl) (pe_lst pa_nil)) (pss_cons (ps_for PassesOwn.never rfl (pi_range1 (by rfl) T.range (pa_cons (pe_op op_uAdd (pe_callB call_len (by rfl) T.len (by decide +kernel) (pa_cons (pv 1) pa_nil)) pe_int) pa_nil)) (pg_name (i := 3) sc_l_deeds.nd rfl (Or.inl rfl)) (pss_cons (ps_set (i := 4) sc_l_deeds.nd rfl (Or.inl rfl) (pe_cal G_l_at (hr.mono (by decide)) (by rfl) pass0 (pa_cons (pv 0) (pa_cons (pe_op op_uAdd pe_int (pv 3)) pa_nil)))) (pss_cons (ps_for PassesOwn.never rfl (pi_range1 (by rfl) T.range (pa_cons (pe_op op_uAdd (pe_op op_fdivN (pe_op op_modN (pv 4) pe_int) pe_int) (pe_op op_fdivN (pe_op op_modN (pe_op op_fdivN (pv 4) pe_int) pe_int) pe_int)) pa_nil)) (pg_name (i := 5) sc_l_deeds.nd rfl (Or.inl rfl)) (pss_one (ps_expr (pe_bm PySem.F.plainAttrs_list PySem.F.slot_list_append PySem.F.type_list_append mt_append (pv 2) (pa_cons (pe_tup (pa_cons (pe_strL (by decide +kernel)) (pa_cons (pv 3) (pa_cons (pe_cal G_l_sign (hr.mono (by decide)) (by rfl) pass0 (pa_cons (pe_op op_uAdd (pe_op op_fdivN (pv 4) pe_int) (pe_op op_uMul pe_int (pv 5))) pa_nil)) pa_nil)))) pa_nil))))) (pss_one (ps_if (pt_cmpR op_lt (pv 3) (pe_callB call_len (by rfl) T.len (by decide +kernel) (pa_cons (pv 1) pa_nil)) (nomark _)) (pss_cons (ps_set (i := 6) sc_l_deeds.nd rfl (Or.inl rfl) (pe_op op_modN (pe_op op_fdivN (pv 4) pe_int) pe_int)) (pss_one (ps_if (pt_cmpR (op_uEq hr) (pv 6) pe_int (nomark _)) (pss_one (ps_expr (pe_bm PySem.F.plainAttrs_list PySem.F.slot_list_append PySem.F.type_list_append mt_append (pv 2) (pa_cons (pe_tup (pa_cons (pe_strL (by decide +kernel)) (pa_cons (pv 3) pa_nil))) pa_nil)))) (pss_one (ps_if (pt_cmpR (op_uEq hr) (pv 6) pe_int (nomark _)) (pss_one (ps_expr (pe_bm PySem.F.plainAttrs_list PySem.F.slot_list_append PySem.F.type_list_append mt_append (pv 2) (pa_cons (pe_tup (pa_cons (pe_strL (by decide +kernel)) (pa_cons (pv 3) (pa_cons (pe_cal G_l_sign (hr.mono (by decide)) (by rfl) pass0 (pa_cons (pe_op op_fdivN (pv 4) pe_int) pa_nil)) pa_nil)))) pa_nil)))) (pss_one (ps_expr (pe_bm PySem.F.plainAttrs_list PySem.F.slot_list_append PySem.F.type_list_append mt_append (pv 2) (pa_cons (pe_tup (pa_cons (pe_strL (by decide +kernel)) (pa_cons (pv 3) pa_nil))) pa_nil))))))))) pss_nil))))) (pss_one (ps_ret (pv 2)))))
theorem ok_l_deeds {P : Program} {w : World} {K : PySem.W.Frag} {mg : Str → Option Value} {base : Heap} {C : ErA} {f : Addr} {fd : FuncData} (F : Fun K "_law_deeds" "_law_deeds" s_l_deeds f fd) (m : mg "_law_deeds" = some (.ref f)) (T : Bi mg) (G_l_at : Cal P w K mg base CX0 1 "_law_at" ["_law_script", "_law_place"] (phi_l_at C)) (G_l_sign : Cal P w K mg base CX0 1 "_law_sign" ["_law_cell"] (phi_l_sign C)) :
    Cal P w K mg base CX0 2 "_law_deeds" ["_law_script", "_law_text"] (phi_l_deeds C) :=
  ⟨f, fd, fo_l_deeds F T G_l_at G_l_sign, m, F.kp, F.binds (ps := ["_law_script", "_law_text"]) fun _ _ _ _ _ _ us hl => match us, hl with | [_, _], _ => rfl⟩
abbrev s_l_odd : Stmt := topS 19
theorem sc_l_odd : FnScope N_l_odd ["_law_cell", "_law_size", "_law_place"] (defScope s_l_odd) := ⟨rfl, rfl, rfl, by decide +kernel, rfl, by decide +kernel, by decide +kernel⟩
theorem fo_l_odd {P : Program} {w : World} {K : PySem.W.Frag} {mg : Str → Option Value} {base : Heap} {C : ErA} {f : Addr} {fd : FuncData} (F : Fun K "_law_odd" "_law_odd" s_l_odd f fd) (T : Bi mg) :
    FnOk P w K mg base CX0 1 f fd ["_law_cell", "_law_size", "_law_place"] (mkSp K (phi_l_odd C)) := by
  refine fn_pure (k := 0) (t := t_l_odd K C) F sc_l_odd len_l_odd w_l_odd ?_
  intro cdv A outer s H E hr
  exact (pss_cons (ps_if (pt_cmpR (op_uEq hr) (pe_op op_modN (pe_op op_fdivN (pv 0) pe_int) pe_int) pe_int (nomark _)) (pss_one (ps_set (i := 2) sc_l_odd.nd rfl (Or.inl rfl) (pe_op op_modN (pv 0) (pe_op op_uAdd (pv 1) pe_int)))) pss_nil) (pss_cons (ps_set (i := 3) sc_l_odd.nd rfl (Or.inl rfl) (pe_lst (pa_cons (pe_tup (pa_cons (pe_strL (by decide +kernel)) (pa_cons (pe_un un_neg pe_int) pa_nil))) (pa_cons (pe_tup (pa_cons (pe_strL (by decide +kernel)) (pa_cons (pe_op op_uAdd (pv 1) pe_int) (pa_cons (pe_strL (by decide +kernel)) pa_nil)))) (pa_cons (pe_tup (pa_cons (pe_strL (by decide +kernel)) (pa_cons (pv 1) pa_nil))) (pa_cons (pe_tup (pa_cons (pe_strL (by decide +kernel)) (pa_cons (pv 1) pa_nil))) (pa_cons (pe_tup (pa_cons (pe_strL (by decide +kernel)) (pa_cons (pv 1) (pa_cons (pe_strL (by decide +kernel)) pa_nil)))) (pa_cons (pe_tup (pa_cons (pe_strL (by decide +kernel)) (pa_cons (pv 2) pa_nil))) pa_nil)))))))) (pss_cons (ps_set (i := 3) sc_l_odd.nd rfl (Or.inl rfl) (pe_op op_uAdd (pv 3) (pe_lst (pa_cons (pe_tup (pa_cons (pe_strL (by decide +kernel)) (pa_cons (pv 2) (pa_cons (pe_strL (by decide +kernel)) pa_nil)))) (pa_cons (pe_tup (pa_cons (pe_strL (by decide +kernel)) (pa_cons (pv 2) pa_nil))) (pa_cons (pe_tup (pa_cons (pe_strL (by decide +kernel)) (pa_cons (pv 2) (pa_cons (pe_strL (by decide +kernel)) pa_nil)))) (pa_cons (pe_tup (pa_cons (pe_strL (by decide +kernel)) (pa_cons (pv 2) (pa_cons (pe_strL (by decide +kernel)) pa_nil)))) (pa_cons (pe_tup (pa_cons (pe_strL (by decide +kernel)) (pa_cons (pv 2) (pa_cons pe_non pa_nil)))) pa_nil)))))))) (pss_cons (ps_set (i := 3) sc_l_odd.nd rfl (Or.inl rfl) (pe_op op_uAdd (pv 3) (pe_lst (pa_cons (pe_tup (pa_cons (pe_strL (by decide +kernel)) (pa_cons pe_bl (pa_cons (pe_strL (by decide +kernel)) pa_nil)))) (pa_cons (pe_lst (pa_cons (pe_strL (by decide +kernel)) (pa_cons (pv 2) pa_nil))) (pa_cons (pe_tup pa_nil) (pa_cons (pe_tup (pa_cons (pe_strL (by decide +kernel)) pa_nil)) (pa_cons pe_non (pa_cons (pe_tup (pa_cons (pe_strL (by decide +kernel)) (pa_cons (pv 2) (pa_cons (pe_strL (by decide +kernel)) pa_nil)))) (pa_cons (pe_tup (pa_cons (pe_strL (by decide +kernel)) (pa_cons (pe_strL (by decide +kernel)) pa_nil))) pa_nil)))))))))) (pss_cons (ps_set (i := 3) sc_l_odd.nd rfl (Or.inl rfl) (pe_op op_uAdd (pv 3) (pe_lst (pa_cons (pe_tup (pa_cons (pe_lst (pa_cons (pe_strL (by decide +kernel)) pa_nil)) (pa_cons (pv 2) pa_nil))) (pa_cons (pe_tup (pa_cons (pe_strL (by decide +kernel)) (pa_cons (pe_lst (pa_cons (pv 2) pa_nil)) pa_nil))) (pa_cons (pe_tup (pa_cons (pe_strL (by decide +kernel)) (pa_cons (pv 2) (pa_cons (pe_lst (pa_cons (pe_strL (by decide +kernel)) pa_nil)) pa_nil)))) (pa_cons (pe_tup (pa_cons pe_dnewK (pa_cons (pv 2) pa_nil))) (pa_cons (pe_tup (pa_cons (pe_strL (by decide +kernel)) (pa_cons (pv 2) (pa_cons pe_dnewK pa_nil)))) pa_nil)))))))) (pss_one (ps_ret (pe_ix ix_seq (pv 3) (pe_op op_modN (pv 0) pe_int) (fun _ _ => rfl)))))))))
theorem ok_l_odd {P : Program} {w : World} {K : PySem.W.Frag} {mg : Str → Option Value} {base : Heap} {C : ErA} {f : Addr} {fd : FuncData} (F : Fun K "_law_odd" "_law_odd" s_l_odd f fd) (m : mg "_law_odd" = some (.ref f)) (T : Bi mg) :
    Cal P w K mg base CX0 1 "_law_odd" ["_law_cell", "_law_size", "_law_place"] (phi_l_odd C) :=
  ⟨f, fd, fo_l_odd F T, m, F.kp, F.binds (ps := ["_law_cell", "_law_size", "_law_place"]) fun _ _ _ _ _ _ us hl => match us, hl with | [_, _, _], _ => rfl⟩
abbrev s_l_changed : Stmt := topS 20
theorem sc_l_changed : FnScope N_l_changed ["_law_deeds_here", "_law_cell", "_law_size", "_law_odd_here"] (defScope s_l_changed) := ⟨rfl, rfl, rfl, by decide +kernel, rfl, by decide +kernel, by decide +kernel⟩
theorem fo_l_changed {P : Program} {w : World} {K : PySem.W.Frag} {mg : Str → Option Value} {base : Heap} {C : ErA} {f : Addr} {fd : FuncData} (F : Fun K "_law_changed" "_law_changed" s_l_changed f fd) (T : Bi mg) (G_l_odd : Cal P w K mg base CX0 1 "_law_odd" ["_law_cell", "_law_size", "_law_place"] (phi_l_odd C)) :
    FnOk P w K mg base CX0 2 f fd ["_law_deeds_here", "_law_cell", "_law_size", "_law_odd_here"] (mkSp K (phi_l_changed C)) := by
  refine fn_pure (k := 1) (t := t_l_changed K C) F sc_l_changed len_l_changed w_l_changed ?_
  intro cdv A outer s H E hr
  exact (pss_cons (ps_set (i := 0) sc_l_changed.nd rfl (Or.inl rfl) (pe_callTy call_list_of (by rfl) T.list (by decide +kernel) (pa_cons (pv 0) pa_nil))) (pss_cons (ps_set (i := 4) sc_l_changed.nd rfl (Or.inl rfl) (pe_op op_modN (pe_op op_fdivN (pv 1) pe_int) (pe_op op_uAdd (pe_callB call_len (by rfl) T.len (by decide +kernel) (pa_cons (pv 0) pa_nil)) pe_int))) (pss_cons (ps_set (i := 5) sc_l_changed.nd rfl (Or.inl rfl) (pe_op op_fdivN (pe_op op_fdivN (pv 1) pe_int) (pe_op op_uAdd (pe_callB call_len (by rfl) T.len (by decide +kernel) (pa_cons (pv 0) pa_nil)) pe_int))) (pss_cons (ps_if (PW.pt (pw_and (pt_cmpR (op_uEq hr) (pe_op op_modN (pv 1) pe_int) pe_int (nomark _)) (pw_and1 (pt_cmpR op_lt (pv 4) (pe_callB call_len (by rfl) T.len (by decide +kernel) (pa_cons (pv 0) pa_nil)) (nomark _))))) (pss_one (ps_expr (pe_bm PySem.F.plainAttrs_list PySem.F.slot_list_pop PySem.F.type_list_pop mt_popAt (pv 0) (pa_cons (pv 4) pa_nil)))) pss_nil) (pss_cons (ps_if (PW.pt (pw_and (pt_cmpR (op_uEq hr) (pe_op op_modN (pv 1) pe_int) pe_int (nomark _)) (pw_and1 (pt_cmpR op_lt (pv 4) (pe_callB call_len (by rfl) T.len (by decide +kernel) (pa_cons (pv 0) pa_nil)) (nomark _))))) (pss_one (ps_expr (pe_bm PySem.F.plainAttrs_list PySem.F.slot_list_insert PySem.F.type_list_insert mt_ins (pv 0) (pa_cons (pv 4) (pa_cons (pe_ix ix_seq (pv 0) (pv 4) (fun _ _ => rfl)) pa_nil))))) pss_nil) (pss_cons (ps_if (pt_cmpR (op_uEq hr) (pe_op op_modN (pv 1) pe_int) pe_int (nomark _)) (pss_cons (ps_set (i := 6) sc_l_changed.nd rfl (Or.inl rfl) (pe_ix ix_seq (pe_ix ix_seq (pe_op op_uAdd (pv 0) (pe_lst (pa_cons (pe_tup (pa_cons (pe_strL (by decide +kernel)) (pa_cons (pv 2) pa_nil))) pa_nil))) (pv 4) (fun _ _ => rfl)) pe_int (fun _ _ => rfl))) (pss_one (ps_expr (pe_bm PySem.F.plainAttrs_list PySem.F.slot_list_insert PySem.F.type_list_insert mt_ins (pv 0) (pa_cons (pv 4) (pa_cons (pe_cal G_l_odd (hr.mono (by decide)) (by rfl) pass0 (pa_cons (pv 3) (pa_cons (pv 2) (pa_cons (pv 6) pa_nil)))) pa_nil)))))) pss_nil) (pss_cons (ps_if (PW.pt (pw_and (pt_cmpR (op_uEq hr) (pe_op op_modN (pv 1) pe_int) pe_int (nomark _)) (pw_and1 (pt_cmpR op_lt (pv 4) (pe_callB call_len (by rfl) T.len (by decide +kernel) (pa_cons (pv 0) pa_nil)) (nomark _))))) (pss_one (ps_asg (pe_op op_uAdd (pe_tup (pa_cons (pe_ix ix_seq (pe_ix ix_seq (pv 0) (pv 4) (fun _ _ => rfl)) pe_int (fun _ _ => rfl)) (pa_cons (pe_op op_modN (pv 5) (pe_op op_uAdd (pv 2) pe_int)) pa_nil))) (pe_slice sl_u (pe_ix ix_seq (pv 0) (pv 4) (fun _ _ => rfl)) (po_some pe_int) po_none)) (pg_sub (pv 0) (pv 4) set_list))) pss_nil) (pss_one (ps_ret (pv 0))))))))))
theorem ok_l_changed {P : Program} {w : World} {K : PySem.W.Frag} {mg : Str → Option Value} {base : Heap} {C : ErA} {f : Addr} {fd : FuncData} (F : Fun K "_law_changed" "_law_changed" s_l_changed f fd) (m : mg "_law_changed" = some (.ref f)) (T : Bi mg) (G_l_odd : Cal P w K mg base CX0 1 "_law_odd" ["_law_cell", "_law_size", "_law_place"] (phi_l_odd C)) :
    Cal P w K mg base CX0 2 "_law_changed" ["_law_deeds_here", "_law_cell", "_law_size", "_law_odd_here"] (phi_l_changed C) :=
  ⟨f, fd, fo_l_changed F T G_l_odd, m, F.kp, F.binds (ps := ["_law_deeds_here", "_law_cell", "_law_size", "_law_odd_here"]) fun _ _ _ _ _ _ us hl => match us, hl with | [_, _, _, _], _ => rfl⟩
abbrev s_l_step : Stmt := topS 21
theorem sc_l_step : FnScope N_l_step ["_law_deed", "_law_place", "_law_text"] (defScope s_l_step) := ⟨rfl, rfl, rfl, by decide +kernel, rfl, by decide +kernel, by decide +kernel⟩
theorem fo_l_step {P : Program} {w : World} {K : PySem.W.Frag} {mg : Str → Option Value} {base : Heap} {C : ErA} {f : Addr} {fd : FuncData} (F : Fun K "_law_step" "_law_step" s_l_step f fd) (T : Bi mg) :
    FnOk P w K mg base CX0 1 f fd ["_law_deed", "_law_place", "_law_text"] (mkSp K (phi_l_step C)) := by
  refine fn_pure (k := 0) (t := t_l_step K C) F sc_l_step len_l_step w_l_step ?_
  intro cdv A outer s H E hr
  exact (pss_cons (ps_if (PW.pt (pw_or (pt_not (pt_truth (pe_callB call_isi (by rfl) T.isinstance (by decide +kernel) (pa_cons (pv 0) (pa_cons (pe_bltn (by rfl) T.tuple (by decide +kernel) rfl) pa_nil))) (by intro _; rfl))) (pw_or (pt_cmpR op_lt (pe_callB call_len (by rfl) T.len (by decide +kernel) (pa_cons (pv 0) pa_nil)) pe_int (nomark _)) (pw_or1 (pt_cmpR op_gt (pe_callB call_len (by rfl) T.len (by decide +kernel) (pa_cons (pv 0) pa_nil)) pe_int (nomark _)))))) (pss_one (ps_ret pe_non)) pss_nil) (pss_cons (ps_if (PW.pt (pw_or (pt_not (pt_truth (pe_callB call_isi (by rfl) T.isinstance (by decide +kernel) (pa_cons (pe_ix ix_seq (pv 0) pe_int (fun _ _ => rfl)) (pa_cons (pe_bltn (by rfl) T.int (by decide +kernel) rfl) pa_nil))) (by intro _; rfl))) (pw_or (pt_truth (pe_callB call_isi (by rfl) T.isinstance (by decide +kernel) (pa_cons (pe_ix ix_seq (pv 0) pe_int (fun _ _ => rfl)) (pa_cons (pe_bltn (by rfl) T.bool (by decide +kernel) rfl) pa_nil))) (by intro _; rfl)) (pw_or1 (pt_cmpR (op_uNe hr) (pe_ix ix_seq (pv 0) pe_int (fun _ _ => rfl)) (pv 1) (nomark _)))))) (pss_one (ps_ret pe_non)) pss_nil) (pss_cons (ps_if (PW.pt (pw_or (pt_cmpR (op_vEq hr) (pe_ix ix_seq (pv 0) pe_int (fun _ _ => rfl)) (pe_strL (by decide +kernel)) (nomark _)) (pw_or1 (pt_cmpR (op_vEq hr) (pe_ix ix_seq (pv 0) pe_int (fun _ _ => rfl)) (pe_strL (by decide +kernel)) (nomark _))))) (pss_cons (ps_if (PW.pt (pw_or (pt_cmpR (op_uNe hr) (pe_callB call_len (by rfl) T.len (by decide +kernel) (pa_cons (pv 0) pa_nil)) pe_int (nomark _)) (pw_or (pt_not (pt_truth (pe_callB call_isi (by rfl) T.isinstance (by decide +kernel) (pa_cons (pe_ix ix_seq (pv 0) pe_int (fun _ _ => rfl)) (pa_cons (pe_bltn (by rfl) T.str (by decide +kernel) rfl) pa_nil))) (by intro _; rfl))) (pw_or (pt_cmpR (op_uNe hr) (pe_callB call_len (by rfl) T.len (by decide +kernel) (pa_cons (pe_ix ix_seq (pv 0) pe_int (fun _ _ => rfl)) pa_nil)) pe_int (nomark _)) (pw_or1 (pt_cmpR (op_vEq hr) (pe_ix ix_seq (pv 0) pe_int (fun _ _ => rfl)) (pe_strL (by decide +kernel)) (nomark _))))))) (pss_one (ps_ret pe_non)) pss_nil) (pss_cons (ps_if (pt_cmpR (op_vEq hr) (pe_ix ix_seq (pv 0) pe_int (fun _ _ => rfl)) (pe_strL (by decide +kernel)) (nomark _)) (pss_one (ps_ret (pe_tup (pa_cons (pe_ix ix_seq (pv 0) pe_int (fun _ _ => rfl)) (pa_cons (pv 1) pa_nil))))) pss_nil) (pss_cons (ps_if (pt_cmpR op_lt (pv 1) (pe_callB call_len (by rfl) T.len (by decide +kernel) (pa_cons (pv 2) pa_nil)) (nomark _)) (pss_one (ps_ret (pe_tup (pa_cons (pe_ix ix_seq (pv 0) pe_int (fun _ _ => rfl)) (pa_cons (pe_op op_uAdd (pv 1) pe_int) pa_nil))))) pss_nil) (pss_one (ps_ret pe_non))))) pss_nil) (pss_cons (ps_if (PW.pt (pw_or (pt_cmpR (op_uNe hr) (pe_callB call_len (by rfl) T.len (by decide +kernel) (pa_cons (pv 0) pa_nil)) pe_int (nomark _)) (pw_or (pt_cmpR op_ge (pv 1) (pe_callB call_len (by rfl) T.len (by decide +kernel) (pa_cons (pv 2) pa_nil)) (nomark _)) (pw_or1 (pt_cmpR (op_vNin hr) (pe_ix ix_seq (pv 0) pe_int (fun _ _ => rfl)) (pe_tup (pa_cons (pe_strL (by decide +kernel)) (pa_cons (pe_strL (by decide +kernel)) pa_nil))) (by rfl)))))) (pss_one (ps_ret pe_non)) pss_nil) (pss_one (ps_ret (pe_tup (pa_cons (pe_op op_uMul (pe_ix ix_seq (pv 2) (pv 1) (fun _ _ => rfl)) (pe_callTy call_int1 (by rfl) T.int (by decide +kernel) (pa_cons (pe_cmpR (op_vEq hr) (pe_ix ix_seq (pv 0) pe_int (fun _ _ => rfl)) (pe_strL (by decide +kernel)) (nomark _)) pa_nil))) (pa_cons (pe_op op_uAdd (pv 1) pe_int) pa_nil)))))))))
theorem ok_l_step {P : Program} {w : World} {K : PySem.W.Frag} {mg : Str → Option Value} {base : Heap} {C : ErA} {f : Addr} {fd : FuncData} (F : Fun K "_law_step" "_law_step" s_l_step f fd) (m : mg "_law_step" = some (.ref f)) (T : Bi mg) :
    Cal P w K mg base CX0 1 "_law_step" ["_law_deed", "_law_place", "_law_text"] (phi_l_step C) :=
  ⟨f, fd, fo_l_step F T, m, F.kp, F.binds (ps := ["_law_deed", "_law_place", "_law_text"]) fun _ _ _ _ _ _ us hl => match us, hl with | [_, _, _], _ => rfl⟩
abbrev s_l_due : Stmt := topS 22
theorem sc_l_due : FnScope N_l_due ["_law_text", "_law_deeds_here"] (defScope s_l_due) := ⟨rfl, rfl, rfl, by decide +kernel, rfl, by decide +kernel, by decide +kernel⟩
theorem fo_l_due {P : Program} {w : World} {K : PySem.W.Frag} {mg : Str → Option Value} {base : Heap} {C : ErA} {f : Addr} {fd : FuncData} (F : Fun K "_law_due" "_law_due" s_l_due f fd) (T : Bi mg) (G_l_step : Cal P w K mg base CX0 1 "_law_step" ["_law_deed", "_law_place", "_law_text"] (phi_l_step C)) :
    FnOk P w K mg base CX0 2 f fd ["_law_text", "_law_deeds_here"] (mkSp K (phi_l_due C)) := by
  refine fn_pure (k := 1) (t := t_l_due K C) F sc_l_due len_l_due w_l_due ?_
  intro cdv A outer s H E hr
  exact (pss_cons (ps_set (i := 2) sc_l_due.nd rfl (Or.inl rfl) (pe_strL (by decide +kernel))) (pss_cons (ps_set (i := 3) sc_l_due.nd rfl (Or.inl rfl) pe_int) (pss_cons (ps_for PassesOwn.never rfl (pi_list (pv 1)) (pg_name (i := 4) sc_l_due.nd rfl (Or.inl rfl)) (pss_cons (ps_set (i := 5) sc_l_due.nd rfl (Or.inl rfl) (pe_cal G_l_step (hr.mono (by decide)) (by rfl) pass0 (pa_cons (pv 4) (pa_cons (pv 3) (pa_cons (pv 0) pa_nil))))) (pss_cons (ps_if (pt_cmpR op_isN1 (pv 5) pe_non (nomark _)) (pss_one (ps_ret pe_non)) pss_nil) (pss_cons (ps_set (i := 2) sc_l_due.nd rfl (Or.inl rfl) (pe_op op_uAdd (pv 2) (pe_ix ix_seq (pv 5) pe_int (fun _ _ => rfl)))) (pss_one (ps_set (i := 3) sc_l_due.nd rfl (Or.inl rfl) (pe_ix ix_seq (pv 5) pe_int (fun _ _ => rfl)))))))) (pss_cons (ps_if (pt_cmpR (op_uNe hr) (pv 3) (pe_callB call_len (by rfl) T.len (by decide +kernel) (pa_cons (pv 0) pa_nil)) (nomark _)) (pss_one (ps_ret pe_non)) pss_nil) (pss_one (ps_ret (pv 2)))))))
theorem ok_l_due {P : Program} {w : World} {K : PySem.W.Frag} {mg : Str → Option Value} {base : Heap} {C : ErA} {f : Addr} {fd : FuncData} (F : Fun K "_law_due" "_law_due" s_l_due f fd) (m : mg "_law_due" = some (.ref f)) (T : Bi mg) (G_l_step : Cal P w K mg base CX0 1 "_law_step" ["_law_deed", "_law_place", "_law_text"] (phi_l_step C)) :
    Cal P w K mg base CX0 2 "_law_due" ["_law_text", "_law_deeds_here"] (phi_l_due C) :=
  ⟨f, fd, fo_l_due F T G_l_step, m, F.kp, F.binds (ps := ["_law_text", "_law_deeds_here"]) fun _ _ _ _ _ _ us hl => match us, hl with | [_, _], _ => rfl⟩
abbrev s_law : Stmt := topS 23
theorem sc_law : FnScope N_law ["_law_script"] (defScope s_law) := ⟨rfl, rfl, rfl, by decide +kernel, rfl, by decide +kernel, by decide +kernel⟩
theorem fo_law {P : Program} {w : World} {K : PySem.W.Frag} {mg : Str → Option Value} {base : Heap} {C : ErA} {f : Addr} {fd : FuncData} (F : Fun K "law" "law" s_law f fd) (T : Bi mg) (X_BadDeeds : ExF K mg "BadDeeds" C.deeds) (X_BadRule : ExF K mg "BadRule" C.rule) (X_BadText : ExF K mg "BadText" C.text) (X_Endless : ExF K mg "Endless" C.endless) (X_NoName : ExF K mg "NoName" C.name) (X_MendError : mg "MendError" = some (.ref C.mend)) (XK : ErK K C) (z_VE : mg "ValueError" = none) (G_l_at : Cal P w K mg base CX0 1 "_law_at" ["_law_script", "_law_place"] (phi_l_at C)) (G_l_changed : Cal P w K mg base CX0 2 "_law_changed" ["_law_deeds_here", "_law_cell", "_law_size", "_law_odd_here"] (phi_l_changed C)) (G_l_deeds : Cal P w K mg base CX0 2 "_law_deeds" ["_law_script", "_law_text"] (phi_l_deeds C)) (G_l_due : Cal P w K mg base CX0 2 "_law_due" ["_law_text", "_law_deeds_here"] (phi_l_due C)) (G_l_sign : Cal P w K mg base CX0 1 "_law_sign" ["_law_cell"] (phi_l_sign C)) (G_done : Cal P w K mg base (L2.CX P w) 3 "done" ["text", "deeds"] (phi_done C)) :
    FnOk P w K mg base CX0 4 f fd ["_law_script"] (mkSp K (phi_law C)) := by
  refine fn_pure (k := 3) (t := t_law K C) F sc_law len_law (w_law XK) ?_
  intro cdv A outer s H E hr
  exact (pss_cons (ps_set (i := 1) sc_law.nd rfl (Or.inl rfl) (pe_op op_modN (pe_cal G_l_at (hr.mono (by decide)) (by rfl) pass0 (pa_cons (pv 0) (pa_cons pe_int pa_nil))) pe_int)) (pss_cons (ps_set (i := 2) sc_law.nd rfl (Or.inl rfl) (pe_join (pe_strL (by decide +kernel)) (pe_lc (own := [("_law_k", 8)]) (g := gName 8) (by rfl) sc_law.nd (pi_range1 (by rfl) T.range (pa_cons (pv 1) pa_nil)) (blkOk_by (own := [("_law_k", 8)]) (N := N_law) (sc := defScope s_law) (by decide +kernel)) (fun _ _ _ _ _ => pg_name (i := 8) sc_law.nd rfl (Or.inl rfl)) (fun _ _ _ _ _ => pts_nil) (fun _ _ _ _ _ => (pe_cal G_l_sign (hr.mono (by decide)) (by rfl) pass0 (pa_cons (pe_cal G_l_at (hr.mono (by decide)) (by rfl) pass0 (pa_cons (pv 0) (pa_cons (pe_op op_uAdd pe_int (pv 8)) pa_nil))) pa_nil)))))) (pss_cons (ps_set (i := 3) sc_law.nd rfl (Or.inl rfl) (pe_cal G_l_changed (hr.mono (by decide)) (by rfl) pass0 (pa_cons (pe_cal G_l_deeds (hr.mono (by decide)) (by rfl) pass0 (pa_cons (pv 0) (pa_cons (pv 2) pa_nil))) (pa_cons (pe_cal G_l_at (hr.mono (by decide)) (by rfl) pass0 (pa_cons (pv 0) (pa_cons pe_int pa_nil))) (pa_cons (pv 1) (pa_cons (pe_op op_modN (pe_op op_uMul (pe_cal G_l_at (hr.mono (by decide)) (by rfl) pass0 (pa_cons (pv 0) (pa_cons pe_int pa_nil))) pe_int) pe_int) pa_nil)))))) (pss_cons (ps_set (i := 4) sc_law.nd rfl (Or.inl rfl) (pe_cal G_l_due (hr.mono (by decide)) (by rfl) pass0 (pa_cons (pv 2) (pa_cons (pv 3) pa_nil)))) (pss_cons (ps_set (i := 5) sc_law.nd rfl (Or.inl rfl) (pe_callTy call_list_of (by rfl) T.list (by decide +kernel) (pa_cons (pv 3) pa_nil))) (pss_cons (ps_tryC (n := "e") (i := 6) (tk := (fun te => tAsg te (gName 7))) rfl rfl sc_law.nd rfl rfl ⟨by rfl, by decide, .inl X_MendError⟩ G_done (hr.mono (by decide)) (by rfl) (fun pn xe => (pa_cons (pv 2) (pa_cons (pv 5) pa_nil))) (fun pn xe te hte => (pss_one (ps_set (i := 7) sc_law.nd rfl (Or.inl rfl) hte))) (fun a oe cls d pn hz hf => pss_suite (C := C) hz fun n hn hz => (pss_cons (ps_if (PW.pt (pw_or (pt_truth (pe_callB (call_isX (XK.ex n hn) hz hf) (by rfl) T.isinstance (by decide +kernel) (pa_cons (pv 6) (pa_cons (pe_tup (pa_cons (pe_gl (by rfl) ⟨_, X_BadRule.gC, rfl⟩) (pa_cons (pe_gl (by rfl) ⟨_, X_BadText.gC, rfl⟩) (pa_cons (pe_gl (by rfl) ⟨_, X_Endless.gC, rfl⟩) (pa_cons (pe_gl (by rfl) ⟨_, X_NoName.gC, rfl⟩) pa_nil))))) pa_nil))) (by intro _; rfl)) (pw_or1 (pt_not (pt_truth (pe_callB (call_isX (XK.ex n hn) hz hf) (by rfl) T.isinstance (by decide +kernel) (pa_cons (pv 6) (pa_cons (pe_bltn (by rfl) z_VE (by decide +kernel) rfl) pa_nil))) (by intro _; rfl)))))) (pss_one (ps_ret pe_bl)) pss_nil) (pss_one (ps_ret (pe_and (pe_cmpR op_isN1 (pv 4) pe_non (nomark _)) (pe_and (pe_callB (call_isX (XK.ex n hn) hz hf) (by rfl) T.isinstance (by decide +kernel) (pa_cons (pv 6) (pa_cons (pe_gl (by rfl) ⟨_, X_BadDeeds.gC, rfl⟩) pa_nil))) (pe_one (pe_cmpR (op_vEqH (roomS hr)) (pv 5) (pv 3) (nomark _)))))))))) (pss_one (ps_ret (pe_and (pe_cmpR op_notN1 (pv 4) pe_non (nomark _)) (pe_and (pe_callB call_isi (by rfl) T.isinstance (by decide +kernel) (pa_cons (pv 7) (pa_cons (pe_bltn (by rfl) T.str (by decide +kernel) rfl) pa_nil))) (pe_and (pe_cmpR (op_vEq hr) (pv 7) (pv 4) (nomark _)) (pe_one (pe_cmpR (op_vEq hr) (pv 5) (pv 3) (nomark _))))))))))))))
theorem all_mk {P : Program} {w : World} {K : PySem.W.Frag} {h : Heap} {mg : Str → Option Value} {fa : Addr} (X : K.In h) (G : h.Ns mainGlobals mg) (hfa : mg "law" = some (.ref fa))
    {f0 : Addr} {od0 an0 : Option Addr} {sl0 : Array (Option Value)} {oc0 kV0 dc0 pm0 cd0 ct0 : Value}
    {f1 : Addr} {od1 an1 : Option Addr} {sl1 : Array (Option Value)} {oc1 kV1 dc1 pm1 cd1 ct1 : Value}
    {f2 : Addr} {od2 an2 : Option Addr} {sl2 : Array (Option Value)} {oc2 kV2 dc2 pm2 cd2 ct2 : Value}
    {f3 : Addr} {od3 an3 : Option Addr} {sl3 : Array (Option Value)} {oc3 kV3 dc3 pm3 cd3 ct3 : Value}
    {f4 : Addr} {od4 an4 : Option Addr} {sl4 : Array (Option Value)} {oc4 kV4 dc4 pm4 cd4 ct4 : Value}
    {f5 : Addr} {od5 an5 : Option Addr} {sl5 : Array (Option Value)} {oc5 kV5 dc5 pm5 cd5 ct5 : Value}
    {f6 : Addr} {od6 an6 : Option Addr} {sl6 : Array (Option Value)} {oc6 kV6 dc6 pm6 cd6 ct6 : Value}
    {f7 : Addr} {od7 an7 : Option Addr} {sl7 : Array (Option Value)} {oc7 kV7 dc7 pm7 cd7 ct7 : Value}
    {f8 : Addr} {od8 an8 : Option Addr} {sl8 : Array (Option Value)} {oc8 kV8 dc8 pm8 cd8 ct8 : Value}
    {f9 : Addr} {od9 an9 : Option Addr} {sl9 : Array (Option Value)} {oc9 kV9 dc9 pm9 cd9 ct9 : Value}
    {f10 : Addr} {od10 an10 : Option Addr} {sl10 : Array (Option Value)} {oc10 kV10 dc10 pm10 cd10 ct10 : Value}
    {f11 : Addr} {od11 an11 : Option Addr} {sl11 : Array (Option Value)} {oc11 kV11 dc11 pm11 cd11 ct11 : Value}
    {tk_SIGNS : Tok}
    {C_BadRule : Addr}
    {C_NoName : Addr}
    {C_Endless : Addr}
    {C_BadText : Addr}
    {C_BadDeeds : Addr}
    {C_MendError : Addr}
    (a0 : PySem.W.nsIn K mainGlobals "is_sign" = some (some (.ref f0)))
    (l0 : K.lookup f0 = some ⟨oc0, od0, .func (PySem.W.fnOf "is_sign" "is_sign" (defArgs s_is_sign) (defBody s_is_sign) (defScope s_is_sign) .none kV0 dc0 pm0 an0 cd0 ct0), sl0⟩)
    (c0 : PySem.W.codeIn K cd0 "is_sign" = true)
    (k0 : PySem.W.keepIn K (.ref f0) = true)
    (a1 : PySem.W.nsIn K mainGlobals "is_place" = some (some (.ref f1)))
    (l1 : K.lookup f1 = some ⟨oc1, od1, .func (PySem.W.fnOf "is_place" "is_place" (defArgs s_is_place) (defBody s_is_place) (defScope s_is_place) .none kV1 dc1 pm1 an1 cd1 ct1), sl1⟩)
    (c1 : PySem.W.codeIn K cd1 "is_place" = true)
    (k1 : PySem.W.keepIn K (.ref f1) = true)
    (a2 : PySem.W.nsIn K mainGlobals "need_deed" = some (some (.ref f2)))
    (l2 : K.lookup f2 = some ⟨oc2, od2, .func (PySem.W.fnOf "need_deed" "need_deed" (defArgs s_need_deed) (defBody s_need_deed) (defScope s_need_deed) .none kV2 dc2 pm2 an2 cd2 ct2), sl2⟩)
    (c2 : PySem.W.codeIn K cd2 "need_deed" = true)
    (k2 : PySem.W.keepIn K (.ref f2) = true)
    (a3 : PySem.W.nsIn K mainGlobals "done" = some (some (.ref f3)))
    (l3 : K.lookup f3 = some ⟨oc3, od3, .func (PySem.W.fnOf "done" "done" (defArgs s_done) (defBody s_done) (defScope s_done) .none kV3 dc3 pm3 an3 cd3 ct3), sl3⟩)
    (c3 : PySem.W.codeIn K cd3 "done" = true)
    (k3 : PySem.W.keepIn K (.ref f3) = true)
    (a4 : PySem.W.nsIn K mainGlobals "_law_at" = some (some (.ref f4)))
    (l4 : K.lookup f4 = some ⟨oc4, od4, .func (PySem.W.fnOf "_law_at" "_law_at" (defArgs s_l_at) (defBody s_l_at) (defScope s_l_at) .none kV4 dc4 pm4 an4 cd4 ct4), sl4⟩)
    (c4 : PySem.W.codeIn K cd4 "_law_at" = true)
    (k4 : PySem.W.keepIn K (.ref f4) = true)
    (a5 : PySem.W.nsIn K mainGlobals "_law_sign" = some (some (.ref f5)))
    (l5 : K.lookup f5 = some ⟨oc5, od5, .func (PySem.W.fnOf "_law_sign" "_law_sign" (defArgs s_l_sign) (defBody s_l_sign) (defScope s_l_sign) .none kV5 dc5 pm5 an5 cd5 ct5), sl5⟩)
    (c5 : PySem.W.codeIn K cd5 "_law_sign" = true)
    (k5 : PySem.W.keepIn K (.ref f5) = true)
    (a6 : PySem.W.nsIn K mainGlobals "_law_deeds" = some (some (.ref f6)))
    (l6 : K.lookup f6 = some ⟨oc6, od6, .func (PySem.W.fnOf "_law_deeds" "_law_deeds" (defArgs s_l_deeds) (defBody s_l_deeds) (defScope s_l_deeds) .none kV6 dc6 pm6 an6 cd6 ct6), sl6⟩)
    (c6 : PySem.W.codeIn K cd6 "_law_deeds" = true)
    (k6 : PySem.W.keepIn K (.ref f6) = true)
    (a7 : PySem.W.nsIn K mainGlobals "_law_odd" = some (some (.ref f7)))
    (l7 : K.lookup f7 = some ⟨oc7, od7, .func (PySem.W.fnOf "_law_odd" "_law_odd" (defArgs s_l_odd) (defBody s_l_odd) (defScope s_l_odd) .none kV7 dc7 pm7 an7 cd7 ct7), sl7⟩)
    (c7 : PySem.W.codeIn K cd7 "_law_odd" = true)
    (k7 : PySem.W.keepIn K (.ref f7) = true)
    (a8 : PySem.W.nsIn K mainGlobals "_law_changed" = some (some (.ref f8)))
    (l8 : K.lookup f8 = some ⟨oc8, od8, .func (PySem.W.fnOf "_law_changed" "_law_changed" (defArgs s_l_changed) (defBody s_l_changed) (defScope s_l_changed) .none kV8 dc8 pm8 an8 cd8 ct8), sl8⟩)
    (c8 : PySem.W.codeIn K cd8 "_law_changed" = true)
    (k8 : PySem.W.keepIn K (.ref f8) = true)
    (a9 : PySem.W.nsIn K mainGlobals "_law_step" = some (some (.ref f9)))
    (l9 : K.lookup f9 = some ⟨oc9, od9, .func (PySem.W.fnOf "_law_step" "_law_step" (defArgs s_l_step) (defBody s_l_step) (defScope s_l_step) .none kV9 dc9 pm9 an9 cd9 ct9), sl9⟩)
    (c9 : PySem.W.codeIn K cd9 "_law_step" = true)
    (k9 : PySem.W.keepIn K (.ref f9) = true)
    (a10 : PySem.W.nsIn K mainGlobals "_law_due" = some (some (.ref f10)))
    (l10 : K.lookup f10 = some ⟨oc10, od10, .func (PySem.W.fnOf "_law_due" "_law_due" (defArgs s_l_due) (defBody s_l_due) (defScope s_l_due) .none kV10 dc10 pm10 an10 cd10 ct10), sl10⟩)
    (c10 : PySem.W.codeIn K cd10 "_law_due" = true)
    (k10 : PySem.W.keepIn K (.ref f10) = true)
    (a11 : PySem.W.nsIn K mainGlobals "law" = some (some (.ref f11)))
    (l11 : K.lookup f11 = some ⟨oc11, od11, .func (PySem.W.fnOf "law" "law" (defArgs s_law) (defBody s_law) (defScope s_law) .none kV11 dc11 pm11 an11 cd11 ct11), sl11⟩)
    (c11 : PySem.W.codeIn K cd11 "law" = true)
    (k11 : PySem.W.keepIn K (.ref f11) = true)
    (z_len : PySem.W.nsIn K mainGlobals "len" = some none)
    (z_range : PySem.W.nsIn K mainGlobals "range" = some none)
    (z_isinstance : PySem.W.nsIn K mainGlobals "isinstance" = some none)
    (z_int : PySem.W.nsIn K mainGlobals "int" = some none)
    (z_list : PySem.W.nsIn K mainGlobals "list" = some none)
    (z_tuple : PySem.W.nsIn K mainGlobals "tuple" = some none)
    (z_str : PySem.W.nsIn K mainGlobals "str" = some none)
    (z_dict : PySem.W.nsIn K mainGlobals "dict" = some none)
    (z_bool : PySem.W.nsIn K mainGlobals "bool" = some none)
    (z_all : PySem.W.nsIn K mainGlobals "all" = some none)
    (z_max : PySem.W.nsIn K mainGlobals "max" = some none)
    (z_min : PySem.W.nsIn K mainGlobals "min" = some none)
    (z_sorted : PySem.W.nsIn K mainGlobals "sorted" = some none)
    (z_reversed : PySem.W.nsIn K mainGlobals "reversed" = some none)
    (n_SIGNS : PySem.W.nsIn K mainGlobals "SIGNS" = some (some (.str (PySem.Str.ofString " !\"#$&'()*+,-./0123456789:;<=>?@ABCDEFGHIJKLMNOPQRSTUVWXYZ[\\]^_`abcdefghijklmnopqrstuvwxyz{|}~") tk_SIGNS)))
    (e_BadRule : PySem.W.nsIn K mainGlobals "BadRule" = some (some (.ref C_BadRule)))
    (x_BadRule : PySem.W.excIn K C_BadRule [.type "ValueError", .type "Exception", .type "BaseException", .type "object"] "ValueError.__new__" = true)
    (y_BadRule : PySem.W.keepIn K (.ref C_BadRule) = true)
    (u_BadRule : PySem.W.subIn K (.ref C_BadRule) (.type "BaseException") = some true)
    (v_BadRule : PySem.W.typeIn K (.ref C_BadRule) = some (.type "type"))
    (e_NoName : PySem.W.nsIn K mainGlobals "NoName" = some (some (.ref C_NoName)))
    (x_NoName : PySem.W.excIn K C_NoName [.type "ValueError", .type "Exception", .type "BaseException", .type "object"] "ValueError.__new__" = true)
    (y_NoName : PySem.W.keepIn K (.ref C_NoName) = true)
    (u_NoName : PySem.W.subIn K (.ref C_NoName) (.type "BaseException") = some true)
    (v_NoName : PySem.W.typeIn K (.ref C_NoName) = some (.type "type"))
    (e_Endless : PySem.W.nsIn K mainGlobals "Endless" = some (some (.ref C_Endless)))
    (x_Endless : PySem.W.excIn K C_Endless [.type "ValueError", .type "Exception", .type "BaseException", .type "object"] "ValueError.__new__" = true)
    (y_Endless : PySem.W.keepIn K (.ref C_Endless) = true)
    (u_Endless : PySem.W.subIn K (.ref C_Endless) (.type "BaseException") = some true)
    (v_Endless : PySem.W.typeIn K (.ref C_Endless) = some (.type "type"))
    (e_BadText : PySem.W.nsIn K mainGlobals "BadText" = some (some (.ref C_BadText)))
    (x_BadText : PySem.W.excIn K C_BadText [.type "ValueError", .type "Exception", .type "BaseException", .type "object"] "ValueError.__new__" = true)
    (y_BadText : PySem.W.keepIn K (.ref C_BadText) = true)
    (u_BadText : PySem.W.subIn K (.ref C_BadText) (.type "BaseException") = some true)
    (v_BadText : PySem.W.typeIn K (.ref C_BadText) = some (.type "type"))
    (e_BadDeeds : PySem.W.nsIn K mainGlobals "BadDeeds" = some (some (.ref C_BadDeeds)))
    (x_BadDeeds : PySem.W.excIn K C_BadDeeds [.type "ValueError", .type "Exception", .type "BaseException", .type "object"] "ValueError.__new__" = true)
    (y_BadDeeds : PySem.W.keepIn K (.ref C_BadDeeds) = true)
    (u_BadDeeds : PySem.W.subIn K (.ref C_BadDeeds) (.type "BaseException") = some true)
    (v_BadDeeds : PySem.W.typeIn K (.ref C_BadDeeds) = some (.type "type"))
    (e_MendError : PySem.W.nsIn K mainGlobals "MendError" = some (some (.ref C_MendError)))
    (z_VE0 : PySem.W.nsIn K mainGlobals "ValueError" = some none)
    (hn0 : PySem.W.specialIn K (.builtin "object.__class__") "__get__" = some (some (.builtin "getset_descriptor.__get__")))
    (ht0 : PySem.W.takesIn K (.builtin "object.__class__") = some true)
    (hg_BadRule : PySem.W.findIn K (.ref C_BadRule) "__getattribute__" = some (some (.builtin "BaseException.__getattribute__")))
    (hk_BadRule : PySem.W.findIn K (.ref C_BadRule) "__getattr__" = some none)
    (hs_BadRule : PySem.W.subIn K (.ref C_BadRule) (.type "BaseException") = some true)
    (hd_BadRule : PySem.W.hasDictIn K C_BadRule = true)
    (ha_BadRule : PySem.W.findIn K (.ref C_BadRule) "__class__" = some (some (.builtin "object.__class__")))
    (hm_BadRule : PySem.W.mroIn K C_BadRule (.type "object") = some true)
    (q_BadRule : PySem.W.exmOne K (.ref C_BadRule) (.ref C_MendError) = some true)
    (w_BadRule : PySem.W.kitOne K (.ref C_BadRule) (.type "ValueError") = some true)
    (p_BadRule_BadRule : PySem.W.kitOne K (.ref C_BadRule) (.ref C_BadRule) = some true)
    (p_BadRule_NoName : PySem.W.kitOne K (.ref C_BadRule) (.ref C_NoName) = some false)
    (p_BadRule_Endless : PySem.W.kitOne K (.ref C_BadRule) (.ref C_Endless) = some false)
    (p_BadRule_BadText : PySem.W.kitOne K (.ref C_BadRule) (.ref C_BadText) = some false)
    (p_BadRule_BadDeeds : PySem.W.kitOne K (.ref C_BadRule) (.ref C_BadDeeds) = some false)
    (hg_NoName : PySem.W.findIn K (.ref C_NoName) "__getattribute__" = some (some (.builtin "BaseException.__getattribute__")))
    (hk_NoName : PySem.W.findIn K (.ref C_NoName) "__getattr__" = some none)
    (hs_NoName : PySem.W.subIn K (.ref C_NoName) (.type "BaseException") = some true)
    (hd_NoName : PySem.W.hasDictIn K C_NoName = true)
    (ha_NoName : PySem.W.findIn K (.ref C_NoName) "__class__" = some (some (.builtin "object.__class__")))
    (hm_NoName : PySem.W.mroIn K C_NoName (.type "object") = some true)
    (q_NoName : PySem.W.exmOne K (.ref C_NoName) (.ref C_MendError) = some true)
    (w_NoName : PySem.W.kitOne K (.ref C_NoName) (.type "ValueError") = some true)
    (p_NoName_BadRule : PySem.W.kitOne K (.ref C_NoName) (.ref C_BadRule) = some false)
    (p_NoName_NoName : PySem.W.kitOne K (.ref C_NoName) (.ref C_NoName) = some true)
    (p_NoName_Endless : PySem.W.kitOne K (.ref C_NoName) (.ref C_Endless) = some false)
    (p_NoName_BadText : PySem.W.kitOne K (.ref C_NoName) (.ref C_BadText) = some false)
    (p_NoName_BadDeeds : PySem.W.kitOne K (.ref C_NoName) (.ref C_BadDeeds) = some false)
    (hg_Endless : PySem.W.findIn K (.ref C_Endless) "__getattribute__" = some (some (.builtin "BaseException.__getattribute__")))
    (hk_Endless : PySem.W.findIn K (.ref C_Endless) "__getattr__" = some none)
    (hs_Endless : PySem.W.subIn K (.ref C_Endless) (.type "BaseException") = some true)
    (hd_Endless : PySem.W.hasDictIn K C_Endless = true)
    (ha_Endless : PySem.W.findIn K (.ref C_Endless) "__class__" = some (some (.builtin "object.__class__")))
    (hm_Endless : PySem.W.mroIn K C_Endless (.type "object") = some true)
    (q_Endless : PySem.W.exmOne K (.ref C_Endless) (.ref C_MendError) = some true)
    (w_Endless : PySem.W.kitOne K (.ref C_Endless) (.type "ValueError") = some true)
    (p_Endless_BadRule : PySem.W.kitOne K (.ref C_Endless) (.ref C_BadRule) = some false)
    (p_Endless_NoName : PySem.W.kitOne K (.ref C_Endless) (.ref C_NoName) = some false)
    (p_Endless_Endless : PySem.W.kitOne K (.ref C_Endless) (.ref C_Endless) = some true)
    (p_Endless_BadText : PySem.W.kitOne K (.ref C_Endless) (.ref C_BadText) = some false)
    (p_Endless_BadDeeds : PySem.W.kitOne K (.ref C_Endless) (.ref C_BadDeeds) = some false)
    (hg_BadText : PySem.W.findIn K (.ref C_BadText) "__getattribute__" = some (some (.builtin "BaseException.__getattribute__")))
    (hk_BadText : PySem.W.findIn K (.ref C_BadText) "__getattr__" = some none)
    (hs_BadText : PySem.W.subIn K (.ref C_BadText) (.type "BaseException") = some true)
    (hd_BadText : PySem.W.hasDictIn K C_BadText = true)
    (ha_BadText : PySem.W.findIn K (.ref C_BadText) "__class__" = some (some (.builtin "object.__class__")))
    (hm_BadText : PySem.W.mroIn K C_BadText (.type "object") = some true)
    (q_BadText : PySem.W.exmOne K (.ref C_BadText) (.ref C_MendError) = some true)
    (w_BadText : PySem.W.kitOne K (.ref C_BadText) (.type "ValueError") = some true)
    (p_BadText_BadRule : PySem.W.kitOne K (.ref C_BadText) (.ref C_BadRule) = some false)
    (p_BadText_NoName : PySem.W.kitOne K (.ref C_BadText) (.ref C_NoName) = some false)
    (p_BadText_Endless : PySem.W.kitOne K (.ref C_BadText) (.ref C_Endless) = some false)
    (p_BadText_BadText : PySem.W.kitOne K (.ref C_BadText) (.ref C_BadText) = some true)
    (p_BadText_BadDeeds : PySem.W.kitOne K (.ref C_BadText) (.ref C_BadDeeds) = some false)
    (hg_BadDeeds : PySem.W.findIn K (.ref C_BadDeeds) "__getattribute__" = some (some (.builtin "BaseException.__getattribute__")))
    (hk_BadDeeds : PySem.W.findIn K (.ref C_BadDeeds) "__getattr__" = some none)
    (hs_BadDeeds : PySem.W.subIn K (.ref C_BadDeeds) (.type "BaseException") = some true)
    (hd_BadDeeds : PySem.W.hasDictIn K C_BadDeeds = true)
    (ha_BadDeeds : PySem.W.findIn K (.ref C_BadDeeds) "__class__" = some (some (.builtin "object.__class__")))
    (hm_BadDeeds : PySem.W.mroIn K C_BadDeeds (.type "object") = some true)
    (q_BadDeeds : PySem.W.exmOne K (.ref C_BadDeeds) (.ref C_MendError) = some true)
    (w_BadDeeds : PySem.W.kitOne K (.ref C_BadDeeds) (.type "ValueError") = some true)
    (p_BadDeeds_BadRule : PySem.W.kitOne K (.ref C_BadDeeds) (.ref C_BadRule) = some false)
    (p_BadDeeds_NoName : PySem.W.kitOne K (.ref C_BadDeeds) (.ref C_NoName) = some false)
    (p_BadDeeds_Endless : PySem.W.kitOne K (.ref C_BadDeeds) (.ref C_Endless) = some false)
    (p_BadDeeds_BadText : PySem.W.kitOne K (.ref C_BadDeeds) (.ref C_BadText) = some false)
    (p_BadDeeds_BadDeeds : PySem.W.kitOne K (.ref C_BadDeeds) (.ref C_BadDeeds) = some true)
    : ∃ fd : FuncData, (∀ (s : Shared) (v : Value), BindsTo s fd ⟨[v], []⟩ [("_law_script", v)]) ∧ ∀ base : Heap, K.In base → base.Ns mainGlobals mg → FnOk P w K mg base CX0 4 fa fd ["_law_script"] (mkSp K (phi_law E00)) := by
  have e := hfa.symm.trans (PySem.W.mg_of X G a11)
  cases e
  have T : Bi mg := ⟨PySem.W.mg_none_of X G z_len, PySem.W.mg_none_of X G z_range, PySem.W.mg_none_of X G z_isinstance, PySem.W.mg_none_of X G z_int, PySem.W.mg_none_of X G z_list, PySem.W.mg_none_of X G z_tuple, PySem.W.mg_none_of X G z_str, PySem.W.mg_none_of X G z_dict, PySem.W.mg_none_of X G z_bool, PySem.W.mg_none_of X G z_all, PySem.W.mg_none_of X G z_max, PySem.W.mg_none_of X G z_min, PySem.W.mg_none_of X G z_sorted, PySem.W.mg_none_of X G z_reversed⟩
  have C_SIGNS : ∃ u, mg "SIGNS" = some u ∧ RelV (.str (mk signsL)) u := ⟨_, PySem.W.mg_of X G n_SIGNS, ⟨_, by rw [show PySem.Str.ofString " !\"#$&'()*+,-./0123456789:;<=>?@ABCDEFGHIJKLMNOPQRSTUVWXYZ[\\]^_`abcdefghijklmnopqrstuvwxyz{|}~" = mk signsL by decide +kernel]⟩⟩
  have X_BadRule : ExF K mg "BadRule" C_BadRule := ⟨PySem.W.mg_of X G e_BadRule, x_BadRule, y_BadRule, u_BadRule, v_BadRule⟩
  have X_NoName : ExF K mg "NoName" C_NoName := ⟨PySem.W.mg_of X G e_NoName, x_NoName, y_NoName, u_NoName, v_NoName⟩
  have X_Endless : ExF K mg "Endless" C_Endless := ⟨PySem.W.mg_of X G e_Endless, x_Endless, y_Endless, u_Endless, v_Endless⟩
  have X_BadText : ExF K mg "BadText" C_BadText := ⟨PySem.W.mg_of X G e_BadText, x_BadText, y_BadText, u_BadText, v_BadText⟩
  have X_BadDeeds : ExF K mg "BadDeeds" C_BadDeeds := ⟨PySem.W.mg_of X G e_BadDeeds, x_BadDeeds, y_BadDeeds, u_BadDeeds, v_BadDeeds⟩
  have X_MendError : mg "MendError" = some (.ref C_MendError) := PySem.W.mg_of X G e_MendError
  have z_VE : mg "ValueError" = none := PySem.W.mg_none_of X G z_VE0
  have XK : ErK K ⟨C_BadRule, C_NoName, C_Endless, C_BadText, C_BadDeeds, C_MendError⟩ := ⟨all5 ⟨hg_BadRule, hk_BadRule, hs_BadRule, hd_BadRule, ha_BadRule, hn0, ht0, hm_BadRule⟩ ⟨hg_NoName, hk_NoName, hs_NoName, hd_NoName, ha_NoName, hn0, ht0, hm_NoName⟩ ⟨hg_Endless, hk_Endless, hs_Endless, hd_Endless, ha_Endless, hn0, ht0, hm_Endless⟩ ⟨hg_BadText, hk_BadText, hs_BadText, hd_BadText, ha_BadText, hn0, ht0, hm_BadText⟩ ⟨hg_BadDeeds, hk_BadDeeds, hs_BadDeeds, hd_BadDeeds, ha_BadDeeds, hn0, ht0, hm_BadDeeds⟩, all5 q_BadRule q_NoName q_Endless q_BadText q_BadDeeds, all5 w_BadRule w_NoName w_Endless w_BadText w_BadDeeds, all5 (all5 p_BadRule_BadRule p_BadRule_NoName p_BadRule_Endless p_BadRule_BadText p_BadRule_BadDeeds) (all5 p_NoName_BadRule p_NoName_NoName p_NoName_Endless p_NoName_BadText p_NoName_BadDeeds) (all5 p_Endless_BadRule p_Endless_NoName p_Endless_Endless p_Endless_BadText p_Endless_BadDeeds) (all5 p_BadText_BadRule p_BadText_NoName p_BadText_Endless p_BadText_BadText p_BadText_BadDeeds) (all5 p_BadDeeds_BadRule p_BadDeeds_NoName p_BadDeeds_Endless p_BadDeeds_BadText p_BadDeeds_BadDeeds)⟩
  refine ⟨PySem.W.fnOf "law" "law" (defArgs s_law) (defBody s_law) (defScope s_law) .none kV11 dc11 pm11 an11 cd11 ct11, fun s v => .of_eq rfl, fun base _ _ => ?_⟩
  have F0 := fun_mk (st := s_is_sign) l0 c0 k0
  have F1 := fun_mk (st := s_is_place) l1 c1 k1
  have F2 := fun_mk (st := s_need_deed) l2 c2 k2
  have F3 := fun_mk (st := s_done) l3 c3 k3
  have F4 := fun_mk (st := s_l_at) l4 c4 k4
  have F5 := fun_mk (st := s_l_sign) l5 c5 k5
  have F6 := fun_mk (st := s_l_deeds) l6 c6 k6
  have F7 := fun_mk (st := s_l_odd) l7 c7 k7
  have F8 := fun_mk (st := s_l_changed) l8 c8 k8
  have F9 := fun_mk (st := s_l_step) l9 c9 k9
  have F10 := fun_mk (st := s_l_due) l10 c10 k10
  have F11 := fun_mk (st := s_law) l11 c11 k11
  have G_is_sign := ok_is_sign (P := P) (w := w) (base := base) (C := ⟨C_BadRule, C_NoName, C_Endless, C_BadText, C_BadDeeds, C_MendError⟩) F0 (PySem.W.mg_of X G a0) T C_SIGNS
  have G_is_place := ok_is_place (P := P) (w := w) (base := base) (C := ⟨C_BadRule, C_NoName, C_Endless, C_BadText, C_BadDeeds, C_MendError⟩) F1 (PySem.W.mg_of X G a1) T
  have G_l_at := ok_l_at (P := P) (w := w) (base := base) (C := ⟨C_BadRule, C_NoName, C_Endless, C_BadText, C_BadDeeds, C_MendError⟩) F4 (PySem.W.mg_of X G a4) T
  have G_l_sign := ok_l_sign (P := P) (w := w) (base := base) (C := ⟨C_BadRule, C_NoName, C_Endless, C_BadText, C_BadDeeds, C_MendError⟩) F5 (PySem.W.mg_of X G a5) T
  have G_l_odd := ok_l_odd (P := P) (w := w) (base := base) (C := ⟨C_BadRule, C_NoName, C_Endless, C_BadText, C_BadDeeds, C_MendError⟩) F7 (PySem.W.mg_of X G a7) T
  have G_l_step := ok_l_step (P := P) (w := w) (base := base) (C := ⟨C_BadRule, C_NoName, C_Endless, C_BadText, C_BadDeeds, C_MendError⟩) F9 (PySem.W.mg_of X G a9) T
  have G_need_deed := ok_need_deed (P := P) (w := w) (base := base) (C := ⟨C_BadRule, C_NoName, C_Endless, C_BadText, C_BadDeeds, C_MendError⟩) F2 (PySem.W.mg_of X G a2) T X_BadDeeds G_is_place G_is_sign
  have G_l_deeds := ok_l_deeds (P := P) (w := w) (base := base) (C := ⟨C_BadRule, C_NoName, C_Endless, C_BadText, C_BadDeeds, C_MendError⟩) F6 (PySem.W.mg_of X G a6) T G_l_at G_l_sign
  have G_l_changed := ok_l_changed (P := P) (w := w) (base := base) (C := ⟨C_BadRule, C_NoName, C_Endless, C_BadText, C_BadDeeds, C_MendError⟩) F8 (PySem.W.mg_of X G a8) T G_l_odd
  have G_l_due := ok_l_due (P := P) (w := w) (base := base) (C := ⟨C_BadRule, C_NoName, C_Endless, C_BadText, C_BadDeeds, C_MendError⟩) F10 (PySem.W.mg_of X G a10) T G_l_step
  have G_done := ok_done (P := P) (w := w) (base := base) (C := ⟨C_BadRule, C_NoName, C_Endless, C_BadText, C_BadDeeds, C_MendError⟩) F3 (PySem.W.mg_of X G a3) T X_BadDeeds G_need_deed
  exact fo_law (C := ⟨C_BadRule, C_NoName, C_Endless, C_BadText, C_BadDeeds, C_MendError⟩) F11 T X_BadDeeds X_BadRule X_BadText X_Endless X_NoName X_MendError XK z_VE G_l_at G_l_changed G_l_deeds G_l_due G_l_sign G_done
theorem law_sp (K : PySem.W.Frag) (H : Hp) (a : Addr) (ns : List Int) (hl : ns.length ≤ 63) (hO : Only H) (h : SqL K H a (ns.map V.int)) : mkSp K (phi_law E00) [.ref a] H (fun v _ => v = .bl true) fun _ _ _ => False := by
  refine ⟨[.scr ns], H, fun r => r = .sh (.bl true), fun _ => False, .cons (.scr h) .nil, Same.refl _, phi_law_of ns hl, fun r e v S' H' _ _ _ _ q => ?_, fun _ x => x.elim⟩
  subst e
  cases q
  rfl
end PL
open PySem PySem.W PyProof.Rows
set_option maxHeartbeats 0 in
theorem PySem.Challenge.cw_mendread_k05_deeds_done_holds : PySem.Challenge.rw_mendread_k05_deeds_done.Holds := by
  w_on; o_law; k_head; (case hw => w_witness2)
  k_fill
  refine L2.walk_ofK (l := PySem.Challenge.rw_mendread_k05_deeds_done) (n := 63) (k := 4) (x := "_law_script") (CX := L2.CX0) (sp := fun K => PL.mkSp K (PL.phi_law PL.E00)) rfl (by decide) rfl ⟨rfl, by decide, by decide⟩ (fun w h Y => PySem.W.kIn_of Y) ?F PL.law_sp (fun _ _ _ _ h => h)
  case F =>
    intro w mg fa h KX G hmg
    refine' PL.all_mk KX G hmg ?a0 ?l0 ?c0 ?k0 ?a1 ?l1 ?c1 ?k1 ?a2 ?l2 ?c2 ?k2 ?a3 ?l3 ?c3 ?k3 ?a4 ?l4 ?c4 ?k4 ?a5 ?l5 ?c5 ?k5 ?a6 ?l6 ?c6 ?k6 ?a7 ?l7 ?c7 ?k7 ?a8 ?l8 ?c8 ?k8 ?a9 ?l9 ?c9 ?k9 ?a10 ?l10 ?c10 ?k10 ?a11 ?l11 ?c11 ?k11 ?z_len ?z_range ?z_isinstance ?z_int ?z_list ?z_tuple ?z_str ?z_dict ?z_bool ?z_all ?z_max ?z_min ?z_sorted ?z_reversed ?n_SIGNS ?e_BadRule ?x_BadRule ?y_BadRule ?u_BadRule ?v_BadRule ?e_NoName ?x_NoName ?y_NoName ?u_NoName ?v_NoName ?e_Endless ?x_Endless ?y_Endless ?u_Endless ?v_Endless ?e_BadText ?x_BadText ?y_BadText ?u_BadText ?v_BadText ?e_BadDeeds ?x_BadDeeds ?y_BadDeeds ?u_BadDeeds ?v_BadDeeds ?e_MendError ?z_VE0 ?hn0 ?ht0 ?hg_BadRule ?hk_BadRule ?hs_BadRule ?hd_BadRule ?ha_BadRule ?hm_BadRule ?q_BadRule ?w_BadRule ?p_BadRule_BadRule ?p_BadRule_NoName ?p_BadRule_Endless ?p_BadRule_BadText ?p_BadRule_BadDeeds ?hg_NoName ?hk_NoName ?hs_NoName ?hd_NoName ?ha_NoName ?hm_NoName ?q_NoName ?w_NoName ?p_NoName_BadRule ?p_NoName_NoName ?p_NoName_Endless ?p_NoName_BadText ?p_NoName_BadDeeds ?hg_Endless ?hk_Endless ?hs_Endless ?hd_Endless ?ha_Endless ?hm_Endless ?q_Endless ?w_Endless ?p_Endless_BadRule ?p_Endless_NoName ?p_Endless_Endless ?p_Endless_BadText ?p_Endless_BadDeeds ?hg_BadText ?hk_BadText ?hs_BadText ?hd_BadText ?ha_BadText ?hm_BadText ?q_BadText ?w_BadText ?p_BadText_BadRule ?p_BadText_NoName ?p_BadText_Endless ?p_BadText_BadText ?p_BadText_BadDeeds ?hg_BadDeeds ?hk_BadDeeds ?hs_BadDeeds ?hd_BadDeeds ?ha_BadDeeds ?hm_BadDeeds ?q_BadDeeds ?w_BadDeeds ?p_BadDeeds_BadRule ?p_BadDeeds_NoName ?p_BadDeeds_Endless ?p_BadDeeds_BadText ?p_BadDeeds_BadDeeds
    (case a0 => k_is)
    (case l0 => k_is)
    (case c0 => k_is)
    (case k0 => k_is)
    (case a1 => k_is)
    (case l1 => k_is)
    (case c1 => k_is)
    (case k1 => k_is)
    (case a2 => k_is)
    (case l2 => k_is)
    (case c2 => k_is)
    (case k2 => k_is)
    (case a3 => k_is)
    (case l3 => k_is)
    (case c3 => k_is)
    (case k3 => k_is)
    (case a4 => k_is)
    (case l4 => k_is)
    (case c4 => k_is)
    (case k4 => k_is)
    (case a5 => k_is)
    (case l5 => k_is)
    (case c5 => k_is)
    (case k5 => k_is)
    (case a6 => k_is)
    (case l6 => k_is)
    (case c6 => k_is)
    (case k6 => k_is)
    (case a7 => k_is)
    (case l7 => k_is)
    (case c7 => k_is)
    (case k7 => k_is)
    (case a8 => k_is)
    (case l8 => k_is)
    (case c8 => k_is)
    (case k8 => k_is)
    (case a9 => k_is)
    (case l9 => k_is)
    (case c9 => k_is)
    (case k9 => k_is)
    (case a10 => k_is)
    (case l10 => k_is)
    (case c10 => k_is)
    (case k10 => k_is)
    (case a11 => k_is)
    (case l11 => k_is)
    (case c11 => k_is)
    (case k11 => k_is)
    (case z_len => k_is)
    (case z_range => k_is)
    (case z_isinstance => k_is)
    (case z_int => k_is)
    (case z_list => k_is)
    (case z_tuple => k_is)
    (case z_str => k_is)
    (case z_dict => k_is)
    (case z_bool => k_is)
    (case z_all => k_is)
    (case z_max => k_is)
    (case z_min => k_is)
    (case z_sorted => k_is)
    (case z_reversed => k_is)
    (case n_SIGNS => k_is)
    (case e_BadRule => k_is)
    (case x_BadRule => k_exc)
    (case y_BadRule => k_is)
    (case u_BadRule => k_is)
    (case v_BadRule => k_is)
    (case e_NoName => k_is)
    (case x_NoName => k_exc)
    (case y_NoName => k_is)
    (case u_NoName => k_is)
    (case v_NoName => k_is)
    (case e_Endless => k_is)
    (case x_Endless => k_exc)
    (case y_Endless => k_is)
    (case u_Endless => k_is)
    (case v_Endless => k_is)
    (case e_BadText => k_is)
    (case x_BadText => k_exc)
    (case y_BadText => k_is)
    (case u_BadText => k_is)
    (case v_BadText => k_is)
    (case e_BadDeeds => k_is)
    (case x_BadDeeds => k_exc)
    (case y_BadDeeds => k_is)
    (case u_BadDeeds => k_is)
    (case v_BadDeeds => k_is)
    (case e_MendError => k_is)
    (case z_VE0 => k_is)
    (case hn0 => k_is)
    (case ht0 => k_is)
    (case hg_BadRule => k_is)
    (case hk_BadRule => k_is)
    (case hs_BadRule => k_is)
    (case hd_BadRule => k_is)
    (case ha_BadRule => k_is)
    (case hm_BadRule => k_is)
    (case q_BadRule => kts_exm)
    (case w_BadRule => kit_is)
    (case p_BadRule_BadRule => kit_is)
    (case p_BadRule_NoName => kit_is)
    (case p_BadRule_Endless => kit_is)
    (case p_BadRule_BadText => kit_is)
    (case p_BadRule_BadDeeds => kit_is)
    (case hg_NoName => k_is)
    (case hk_NoName => k_is)
    (case hs_NoName => k_is)
    (case hd_NoName => k_is)
    (case ha_NoName => k_is)
    (case hm_NoName => k_is)
    (case q_NoName => kts_exm)
    (case w_NoName => kit_is)
    (case p_NoName_BadRule => kit_is)
    (case p_NoName_NoName => kit_is)
    (case p_NoName_Endless => kit_is)
    (case p_NoName_BadText => kit_is)
    (case p_NoName_BadDeeds => kit_is)
    (case hg_Endless => k_is)
    (case hk_Endless => k_is)
    (case hs_Endless => k_is)
    (case hd_Endless => k_is)
    (case ha_Endless => k_is)
    (case hm_Endless => k_is)
    (case q_Endless => kts_exm)
    (case w_Endless => kit_is)
    (case p_Endless_BadRule => kit_is)
    (case p_Endless_NoName => kit_is)
    (case p_Endless_Endless => kit_is)
    (case p_Endless_BadText => kit_is)
    (case p_Endless_BadDeeds => kit_is)
    (case hg_BadText => k_is)
    (case hk_BadText => k_is)
    (case hs_BadText => k_is)
    (case hd_BadText => k_is)
    (case ha_BadText => k_is)
    (case hm_BadText => k_is)
    (case q_BadText => kts_exm)
    (case w_BadText => kit_is)
    (case p_BadText_BadRule => kit_is)
    (case p_BadText_NoName => kit_is)
    (case p_BadText_Endless => kit_is)
    (case p_BadText_BadText => kit_is)
    (case p_BadText_BadDeeds => kit_is)
    (case hg_BadDeeds => k_is)
    (case hk_BadDeeds => k_is)
    (case hs_BadDeeds => k_is)
    (case hd_BadDeeds => k_is)
    (case ha_BadDeeds => k_is)
    (case hm_BadDeeds => k_is)
    (case q_BadDeeds => kts_exm)
    (case w_BadDeeds => kit_is)
    (case p_BadDeeds_BadRule => kit_is)
    (case p_BadDeeds_NoName => kit_is)
    (case p_BadDeeds_Endless => kit_is)
    (case p_BadDeeds_BadText => kit_is)
    (case p_BadDeeds_BadDeeds => kit_is)

