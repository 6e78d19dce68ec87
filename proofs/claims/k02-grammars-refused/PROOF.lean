import PyProof.Rows.All
import Wide.All
import OpenK.AllK
import Wide.FinOn
import HandS.ForMost
import HandS.IsInst
import HandS.Deep
import HandS.Exc
import HandS.TryOnly
import HandS.ExcOwn
import HandS.WordsExc
import HandS.TupAny
import HandS.Steps
import HandS.More
import HandS.TupLe
import KE.SortData
import KE.OsSortAny
import HandS.Conv
import HandS.List
import HandS.DeepEq
import KE.KEqNest
import HandS.ExcIs
import HandS.TupMul
import KE.RegKIsAll
import KE.RegKTryMore
import PySem.Challenge.RW_mendread_k02_grammars_refused
set_option Elab.async false
set_option linter.all false
set_option maxRecDepth 100000
set_option maxHeartbeats 4000000
/-! PL: the pure layer. Data trees D, slots, ownership; judgements over a pure state. -/
namespace PL
open PySem L2

/-! ### data -/
inductive D where
  | non | bl (b : Bool) | int (i : Int) | str (s : Str)
  | tup (l : List D) | lst (l : List D)
  | dT (kvs : List (List Key × V)) | dK (kvs : List (Key × V))
  | scr (ns : List Int)
  | ty (n : String)
  | ref (a : Addr)

mutual
inductive Rep (K : PySem.W.Frag) (S : Hp) : V → D → Prop where
  | non : Rep K S .non .non
  | bl (b : Bool) : Rep K S (.bl b) (.bl b)
  | int (i : Int) : Rep K S (.int i) (.int i)
  | str (s : Str) : Rep K S (.str s) (.str s)
  | tup {a : Addr} {xs : List V} {ds : List D} : S a = some (.tup xs) → RepA K S xs ds → Rep K S (.ref a) (.tup ds)
  | lst {a : Addr} {xs : List V} {ds : List D} : S a = some (.lst xs) → RepA K S xs ds → Rep K S (.ref a) (.lst ds)
  | dT {a : Addr} {kvs : List (List Key × V)} : Rd S a (.dT kvs) → Rep K S (.ref a) (.dT kvs)
  | dK {a : Addr} {kvs : List (Key × V)} : S a = some (.dK kvs) → Rep K S (.ref a) (.dK kvs)
  | scr {a : Addr} {ns : List Int} : SqL K S a (ns.map V.int) → Rep K S (.ref a) (.scr ns)
  | ty (n : String) : Rep K S (.ty n) (.ty n)
  | ref (a : Addr) : Rep K S (.ref a) (.ref a)
inductive RepA (K : PySem.W.Frag) (S : Hp) : List V → List D → Prop where
  | nil : RepA K S [] []
  | cons {v : V} {d : D} {vs : List V} {ds : List D} : Rep K S v d → RepA K S vs ds → RepA K S (v :: vs) (d :: ds)
end

/-! no list, no dict within -/
mutual
def D.flat : D → Bool
  | .tup l => flatA l
  | .lst _ => false
  | .dT _ => false
  | .dK _ => false
  | .scr _ => false
  | _ => true
def flatA : List D → Bool
  | [] => true
  | d :: l => d.flat && flatA l
end

section
variable {K : PySem.W.Frag} {S S' : Hp}
theorem rd_mono {a : Addr} {u : HO} (m : Same S S') (h : Rd S a u) : Rd S' a u := by
  rcases h with h | ⟨o, h⟩
  · exact .inl (m _ _ h)
  · exact .inr ⟨o, m _ _ h⟩
mutual
theorem Rep.mono {v : V} {d : D} (m : Same S S') : Rep K S v d → Rep K S' v d
  | .non => .non
  | .bl b => .bl b
  | .int i => .int i
  | .str s => .str s
  | .tup h r => .tup (m _ _ h) (RepA.mono m r)
  | .lst h r => .lst (m _ _ h) (RepA.mono m r)
  | .dT h => .dT (rd_mono m h)
  | .dK h => .dK (m _ _ h)
  | .scr h => .scr (m.seq h)
  | .ty n => .ty n
  | .ref a => .ref a
theorem RepA.mono {vs : List V} {ds : List D} (m : Same S S') : RepA K S vs ds → RepA K S' vs ds
  | .nil => .nil
  | .cons h r => .cons (Rep.mono m h) (RepA.mono m r)
end
/-! flat data leans on tuples alone -/
mutual
theorem Rep.flatMono {v : V} {d : D} (m : ∀ a xs, S a = some (.tup xs) → S' a = some (.tup xs)) (hf : d.flat = true) : Rep K S v d → Rep K S' v d
  | .non => .non
  | .bl b => .bl b
  | .int i => .int i
  | .str s => .str s
  | .tup h r => .tup (m _ _ h) (RepA.flatMono m hf r)
  | .lst h r => by cases hf
  | .dT h => by cases hf
  | .dK h => by cases hf
  | .scr h => by cases hf
  | .ty n => .ty n
  | .ref a => .ref a
theorem RepA.flatMono {vs : List V} {ds : List D} (m : ∀ a xs, S a = some (.tup xs) → S' a = some (.tup xs)) (hf : flatA ds = true) : RepA K S vs ds → RepA K S' vs ds
  | .nil => .nil
  | .cons h r => by
    have hf' := Bool.and_eq_true_iff.mp hf
    exact .cons (Rep.flatMono m hf'.1 h) (RepA.flatMono m hf'.2 r)
end
theorem RepA.len : ∀ {vs : List V} {ds : List D}, RepA K S vs ds → vs.length = ds.length
  | _, _, .nil => rfl
  | _, _, .cons _ r => congrArg (· + 1) r.len
theorem RepA.get : ∀ {vs : List V} {ds : List D} {i : Nat} {d : D}, RepA K S vs ds → ds[i]? = some d → ∃ v, vs[i]? = some v ∧ Rep K S v d
  | _, _, _, _, .nil, e => by simp at e
  | _, _, 0, _, .cons h r, e => by
    simp at e; subst e
    exact ⟨_, rfl, h⟩
  | _, _, i + 1, d, .cons h r, e => by
    obtain ⟨u, h1, h2⟩ := RepA.get (i := i) (d := d) r (by simpa using e)
    exact ⟨u, by simpa using h1, h2⟩
theorem RepA.getV : ∀ {vs : List V} {ds : List D} {i : Nat} {v : V}, RepA K S vs ds → vs[i]? = some v → ∃ d, ds[i]? = some d ∧ Rep K S v d
  | _, _, _, _, .nil, e => by simp at e
  | _, _, 0, _, .cons h r, e => by
    simp at e; subst e
    exact ⟨_, rfl, h⟩
  | _, _, i + 1, d, .cons h r, e => by
    obtain ⟨u, h1, h2⟩ := RepA.getV (i := i) (v := d) r (by simpa using e)
    exact ⟨u, by simpa using h1, h2⟩
theorem RepA.append : ∀ {vs us : List V} {ds es : List D}, RepA K S vs ds → RepA K S us es → RepA K S (vs ++ us) (ds ++ es)
  | _, _, _, _, .nil, q => q
  | _, _, _, _, .cons h r, q => .cons h (r.append q)
theorem RepA.take : ∀ {vs : List V} {ds : List D} (n : Nat), RepA K S vs ds → RepA K S (vs.take n) (ds.take n)
  | _, _, 0, _ => .nil
  | _, _, _ + 1, .nil => .nil
  | _, _, n + 1, .cons h r => .cons h (r.take n)
theorem RepA.drop : ∀ {vs : List V} {ds : List D} (n : Nat), RepA K S vs ds → RepA K S (vs.drop n) (ds.drop n)
  | _, _, 0, r => r
  | _, _, _ + 1, .nil => .nil
  | _, _, n + 1, .cons _ r => r.drop n
theorem RepA.rev : ∀ {vs : List V} {ds : List D}, RepA K S vs ds → RepA K S vs.reverse ds.reverse
  | _, _, .nil => .nil
  | _, _, .cons h r => by
    rw [List.reverse_cons, List.reverse_cons]
    exact r.rev.append (.cons h .nil)
theorem RepA.dropLast {vs : List V} {ds : List D} (h : RepA K S vs ds) : RepA K S vs.dropLast ds.dropLast := by
  rw [List.dropLast_eq_take, List.dropLast_eq_take, h.len]
  exact h.take _
theorem RepA.set : ∀ {vs : List V} {ds : List D} (i : Nat) {v : V} {d : D}, RepA K S vs ds → Rep K S v d → RepA K S (vs.set i v) (ds.set i d)
  | _, _, _, _, _, .nil, _ => .nil
  | _, _, 0, _, _, .cons _ r, h => .cons h r
  | _, _, i + 1, _, _, .cons q r, h => .cons q (r.set i h)
theorem RepA.eraseIdx : ∀ {vs : List V} {ds : List D} (i : Nat), RepA K S vs ds → RepA K S (vs.eraseIdx i) (ds.eraseIdx i)
  | _, _, _, .nil => .nil
  | _, _, 0, .cons _ r => r
  | _, _, i + 1, .cons q r => .cons q (r.eraseIdx i)
end

/-! ### slots -/
inductive Mo where
  | lst (ds : List D) | dT (kvs : List (List Key × V)) | dK (kvs : List (Key × V))
@[reducible] def Mo.toD : Mo → D
  | .lst ds => .lst ds
  | .dT k => .dT k
  | .dK k => .dK k
inductive Slot where
  | no | sh (d : D) | ow (a : Addr) (m : Mo)
abbrev Sl := List Slot
def MoOk (K : PySem.W.Frag) (S H : Hp) (a : Addr) : Mo → Prop
  | .lst ds => ∃ vs, H a = some (.lst vs) ∧ RepA K S vs ds
  | .dT kvs => H a = some (.dT kvs)
  | .dK kvs => H a = some (.dK kvs)
def SlOk (K : PySem.W.Frag) (F S H : Hp) : Slot → Option (Option V) → Prop
  | .no, _ => True
  | .sh d, o => ∃ v, o = some (some v) ∧ Rep K S v d
  | .ow a m, o => o = some (some (.ref a)) ∧ F a = none ∧ S a = none ∧ MoOk K S H a m
structure Sat (K : PySem.W.Frag) (F S0 : Hp) (G : Sl) (S : Hp) (σ : L2.St) (H : Hp) : Prop where
  len : σ.length = G.length
  sh : Same S H
  fr : Same F H
  am : ∀ a o, F a = some o → (∀ xs, o ≠ .tup xs) → S a = S0 a
  val : ∀ (i : Nat) (s : Slot), G[i]? = some s → SlOk K F S H s σ[i]?
  sep : ∀ (i j : Nat) (a : Addr) (m m' : Mo), G[i]? = some (.ow a m) → G[j]? = some (.ow a m') → i = j
/-- a result: shared data, a new object, the object of a slot -/
inductive R where
  | sh (d : D) | ow (a : Addr) (m : Mo) | bo (i : Nat)
def ROk (K : PySem.W.Frag) (F S H : Hp) (G : Sl) (σ : L2.St) : R → V → Prop
  | .sh d, v => Rep K S v d
  | .ow a m, v => v = .ref a ∧ F a = none ∧ S a = none ∧ MoOk K S H a m ∧ ∀ (i : Nat) (m' : Mo), G[i]? ≠ some (Slot.ow a m')
  | .bo i, v => σ[i]? = some (some v)
@[reducible] def fz : R → R
  | .ow _ m => .sh m.toD
  | r => r
structure Ec where
  E : XK
  X : Value → Prop
def Z0 : Ec := ⟨E0, fun _ => False⟩

theorem MoOk.mono {K : PySem.W.Frag} {S S' H H' : Hp} {a : Addr} {m : Mo} (h : MoOk K S H a m) (hs : Same S S') (hh : ∀ o, H a = some o → H' a = some o) : MoOk K S' H' a m := by
  cases m with
  | lst ds =>
    obtain ⟨vs, e, r⟩ := h
    exact ⟨vs, hh _ e, r.mono hs⟩
  | dT k => exact hh _ h
  | dK k => exact hh _ h
theorem MoOk.some {K : PySem.W.Frag} {S H : Hp} {a : Addr} {m : Mo} (h : MoOk K S H a m) : ∃ o, H a = Option.some o ∧ ∀ xs, o ≠ .tup xs := by
  cases m with
  | lst ds =>
    obtain ⟨vs, e, r⟩ := h
    exact ⟨_, e, fun xs z => by cases z⟩
  | dT k => exact ⟨_, h, fun xs z => by cases z⟩
  | dK k => exact ⟨_, h, fun xs z => by cases z⟩
theorem MoOk.rep {K : PySem.W.Frag} {S H : Hp} {a : Addr} {m : Mo} (h : MoOk K S H a m) {S' : Hp} (hs : Same S S') (e : S' a = H a) : Rep K S' (.ref a) m.toD := by
  cases m with
  | lst ds =>
    obtain ⟨vs, e', r⟩ := h
    exact .lst (e.trans e') (r.mono hs)
  | dT k => exact .dT (.inl (e.trans h))
  | dK k => exact .dK (e.trans h)

section
variable {K : PySem.W.Frag} {F S0 S S' : Hp} {G : Sl} {σ : L2.St} {H H' : Hp}
/-- the heap grows (new objects; what is owned stays) -/
theorem Sat.grow (s : Sat K F S0 G S σ H) (m : Same H H') : Sat K F S0 G S σ H' :=
  ⟨s.len, s.sh.trans m, s.fr.trans m, s.am, fun i sl e => by
    have h := s.val i sl e
    cases sl with
    | no => trivial
    | sh d => exact h
    | ow a mo => exact ⟨h.1, h.2.1, h.2.2.1, h.2.2.2.mono (Same.refl _) fun o q => m _ _ q⟩, s.sep⟩
/-- more is shared -/
theorem Sat.more (s : Sat K F S0 G S σ H) (m : Same S S') (h1 : Same S' H) (h2 : ∀ a o, F a = some o → (∀ xs, o ≠ .tup xs) → S' a = S a) (h3 : ∀ (i : Nat) (a : Addr) (mo : Mo), G[i]? = some (.ow a mo) → S' a = none) : Sat K F S0 G S' σ H :=
  ⟨s.len, h1, s.fr, fun a o e n => (h2 a o e n).trans (s.am a o e n), fun i sl e => by
    have h := s.val i sl e
    cases sl with
    | no => trivial
    | sh d =>
      obtain ⟨v, e1, r⟩ := h
      exact ⟨v, e1, r.mono m⟩
    | ow a mo => exact ⟨h.1, h.2.1, h3 i a mo e, h.2.2.2.mono m fun o q => q⟩, s.sep⟩
theorem Sat.unfr {a : Addr} (s : Sat K F S0 G S σ H) (h : H a = none) : F a = none := by
  cases e : F a with
  | none => rfl
  | some o => rw [s.fr a o e] at h; cases h
theorem Sat.unsh {a : Addr} (s : Sat K F S0 G S σ H) (h : H a = none) : S a = none := by
  cases e : S a with
  | none => rfl
  | some o => rw [s.sh a o e] at h; cases h
theorem Sat.noow {a : Addr} (s : Sat K F S0 G S σ H) (h : H a = none) : ∀ (i : Nat) (m : Mo), G[i]? ≠ some (Slot.ow a m) := fun i m e => by
  obtain ⟨_, _, _, mo⟩ := s.val i _ e
  obtain ⟨o, e2, _⟩ := mo.some
  rw [h] at e2; cases e2
theorem same_new {p : Addr} {o : HO} (h : H p = none) : Same H (upd H p o) := fun b u e => by
  rw [upd_ne (ne_of_none e h)]; exact e
/-- a new shared object -/
theorem Sat.newsh {p : Addr} {o : HO} (s : Sat K F S0 G S σ H) (h : H p = none) : Same S (upd S p o) ∧ Sat K F S0 G (upd S p o) σ (upd H p o) := by
  have hs := s.unsh h
  have m : Same S (upd S p o) := same_new hs
  refine ⟨m, (s.grow (same_new h)).more m (fun b u e => ?_) (fun a u e _ => ?_) fun i a mo e => ?_⟩
  · by_cases hb : b = p
    · subst hb
      rw [upd_same] at e ⊢; exact e
    · rw [upd_ne hb] at e ⊢; exact s.sh b u e
  · have ha : a ≠ p := fun z => by subst z; rw [s.unfr h] at e; cases e
    rw [upd_ne ha]
  · have ha : a ≠ p := fun z => by subst z; exact s.noow h i mo e
    rw [upd_ne ha]
    exact (s.val i _ e).2.2.1
/-- a new object becomes shared -/
theorem Sat.freeze {a : Addr} {m : Mo} (s : Sat K F S0 G S σ H) (hF : F a = none) (hS : S a = none) (hm : MoOk K S H a m) (hn : ∀ (i : Nat) (m' : Mo), G[i]? ≠ some (Slot.ow a m')) :
    ∃ S', Same S S' ∧ Sat K F S0 G S' σ H ∧ Rep K S' (.ref a) m.toD := by
  obtain ⟨o, ho, _⟩ := hm.some
  have hm1 : Same S (upd S a o) := same_new hS
  refine ⟨upd S a o, hm1, s.more hm1 (fun b u e => ?_) (fun b u e _ => ?_) (fun i b mo e => ?_), hm.rep hm1 (by rw [upd_same, ho])⟩
  · by_cases hb : b = a
    · subst hb
      rw [upd_same] at e; rw [ho]; exact e
    · rw [upd_ne hb] at e; exact s.sh b u e
  · have hb : b ≠ a := fun z => by subst z; rw [hF] at e; cases e
    rw [upd_ne hb]
  · have hb : b ≠ a := fun z => by subst z; exact hn i mo e
    rw [upd_ne hb]
    exact (s.val i _ e).2.2.1
theorem Sat.fz {r : R} {v : V} (s : Sat K F S0 G S σ H) (h : ROk K F S H G σ r v) : ∃ S', Same S S' ∧ Sat K F S0 G S' σ H ∧ ROk K F S' H G σ (fz r) v := by
  cases r with
  | sh d => exact ⟨S, Same.refl _, s, h⟩
  | bo i => exact ⟨S, Same.refl _, s, h⟩
  | ow a m =>
    obtain ⟨rfl, h1, h2, h3, h4⟩ := h
    exact s.freeze h1 h2 h3 h4
theorem ROk.keep {G' : Sl} {r : R} {v : V} (h : ROk K F S H G σ (PL.fz r) v) (m : Same S S') : ROk K F S' H' G' σ (PL.fz r) v := by
  cases r with
  | sh d => exact Rep.mono m h
  | bo i => exact h
  | ow a mo => exact Rep.mono m h
/-- slot i takes shared data -/
theorem Sat.setSh {i : Nat} {v : V} {d : D} (s : Sat K F S0 G S σ H) (hi : i < G.length) (r : Rep K S v d) : Sat K F S0 (G.set i (.sh d)) S (σ.set i (some v)) H := by
  have hiσ : i < σ.length := by rw [s.len]; exact hi
  refine ⟨by simp [s.len], s.sh, s.fr, s.am, fun j sl e => ?_, fun j k a m m' e1 e2 => ?_⟩
  · by_cases hj : j = i
    · subst hj
      rw [List.getElem?_set_self hi] at e; cases e
      rw [List.getElem?_set_self hiσ]
      exact ⟨v, rfl, r⟩
    · rw [List.getElem?_set_ne (Ne.symm hj)] at e
      rw [List.getElem?_set_ne (Ne.symm hj)]
      exact s.val j sl e
  · have f : ∀ {j : Nat} {m : Mo}, (G.set i (Slot.sh d))[j]? = some (Slot.ow a m) → G[j]? = some (Slot.ow a m) := fun {j m} e => by
      by_cases hj : j = i
      · subst hj
        rw [List.getElem?_set_self hi] at e; cases e
      · rw [List.getElem?_set_ne (Ne.symm hj)] at e; exact e
    exact s.sep j k a m m' (f e1) (f e2)
/-- slot i takes a new object -/
theorem Sat.setOw {i : Nat} {a : Addr} {m : Mo} (s : Sat K F S0 G S σ H) (hi : i < G.length) (hF : F a = none) (hS : S a = none) (hm : MoOk K S H a m) (hn : ∀ (i : Nat) (m' : Mo), G[i]? ≠ some (Slot.ow a m')) : Sat K F S0 (G.set i (.ow a m)) S (σ.set i (some (.ref a))) H := by
  have hiσ : i < σ.length := by rw [s.len]; exact hi
  refine ⟨by simp [s.len], s.sh, s.fr, s.am, fun j sl e => ?_, fun j k b m1 m2 e1 e2 => ?_⟩
  · by_cases hj : j = i
    · subst hj
      rw [List.getElem?_set_self hi] at e; cases e
      rw [List.getElem?_set_self hiσ]
      exact ⟨rfl, hF, hS, hm⟩
    · rw [List.getElem?_set_ne (Ne.symm hj)] at e
      rw [List.getElem?_set_ne (Ne.symm hj)]
      exact s.val j sl e
  · have f : ∀ {j : Nat} {m1 : Mo}, (G.set i (Slot.ow a m))[j]? = some (Slot.ow b m1) → (j = i ∧ b = a) ∨ (j ≠ i ∧ G[j]? = some (Slot.ow b m1)) := fun {j m1} e => by
      by_cases hj : j = i
      · subst hj
        rw [List.getElem?_set_self hi] at e; cases e
        exact .inl ⟨rfl, rfl⟩
      · rw [List.getElem?_set_ne (Ne.symm hj)] at e; exact .inr ⟨hj, e⟩
    rcases f e1 with ⟨h1, h2⟩ | ⟨h1, h2⟩ <;> rcases f e2 with ⟨h3, h4⟩ | ⟨h3, h4⟩
    · rw [h1, h3]
    · subst h2; exact absurd h4 (hn _ _)
    · subst h4; exact absurd h2 (hn _ _)
    · exact s.sep j k b m1 m2 h2 h4
/-- slot i is forgotten -/
theorem Sat.forget {i : Nat} (s : Sat K F S0 G S σ H) : Sat K F S0 (G.set i .no) S σ H := by
  have f : ∀ {j : Nat} {sl : Slot}, (G.set i .no)[j]? = some sl → sl = .no ∨ G[j]? = some sl := fun {j sl} e => by
    by_cases hj : j = i
    · subst hj
      by_cases hi : j < G.length
      · rw [List.getElem?_set_self hi] at e; cases e; exact .inl rfl
      · rw [List.getElem?_eq_none (by simp; omega)] at e; cases e
    · rw [List.getElem?_set_ne (Ne.symm hj)] at e; exact .inr e
  refine ⟨by simp [s.len], s.sh, s.fr, s.am, fun j sl e => ?_, fun j k a m m' e1 e2 => ?_⟩
  · rcases f e with rfl | h
    · trivial
    · exact s.val j sl h
  · rcases f e1 with h | h1
    · cases h
    · rcases f e2 with h | h2
      · cases h
      · exact s.sep j k a m m' h1 h2
/-- slot i's object has another content -/
theorem Sat.mut {i : Nat} {a : Addr} {m m' : Mo} {o : HO} (s : Sat K F S0 G S σ H) (hi : G[i]? = some (.ow a m)) (hm : MoOk K S (upd H a o) a m') : Sat K F S0 (G.set i (.ow a m')) S σ (upd H a o) := by
  have hil : i < G.length := (List.getElem?_eq_some_iff.mp hi).1
  obtain ⟨h1, h2, h3, h4⟩ := s.val i _ hi
  have f : ∀ {j : Nat} {sl : Slot}, (G.set i (.ow a m'))[j]? = some sl → (j = i ∧ sl = .ow a m') ∨ (j ≠ i ∧ G[j]? = some sl) := fun {j sl} e => by
    by_cases hj : j = i
    · subst hj
      rw [List.getElem?_set_self hil] at e; cases e
      exact .inl ⟨rfl, rfl⟩
    · rw [List.getElem?_set_ne (Ne.symm hj)] at e; exact .inr ⟨hj, e⟩
  refine ⟨by simp [s.len], fun b u e => ?_, fun b u e => ?_, s.am, fun j sl e => ?_, fun j k b m1 m2 e1 e2 => ?_⟩
  · have hb : b ≠ a := fun z => by subst z; rw [h3] at e; cases e
    rw [upd_ne hb]; exact s.sh b u e
  · have hb : b ≠ a := fun z => by subst z; rw [h2] at e; cases e
    rw [upd_ne hb]; exact s.fr b u e
  · rcases f e with ⟨rfl, rfl⟩ | ⟨hj, e'⟩
    · exact ⟨h1, h2, h3, hm⟩
    · have h := s.val j sl e'
      cases sl with
      | no => trivial
      | sh d => exact h
      | ow b mo =>
        have hb : b ≠ a := fun z => by subst z; exact hj (s.sep _ _ _ _ _ e' hi)
        exact ⟨h.1, h.2.1, h.2.2.1, h.2.2.2.mono (Same.refl _) fun u q => by rw [upd_ne hb]; exact q⟩
  · rcases f e1 with ⟨h5, h6⟩ | ⟨h5, h6⟩ <;> rcases f e2 with ⟨h7, h8⟩ | ⟨h7, h8⟩
    · rw [h5, h7]
    · cases h6; exact (s.sep _ _ _ _ _ h8 hi) ▸ h5
    · cases h8; exact (s.sep _ _ _ _ _ h6 hi).trans h7.symm
    · exact s.sep j k b m1 m2 h6 h8
end
end PL

/-! PM: the judgements wE, wT, wA, wR, wC, wG, wS over the pure state. -/
namespace PL
open PySem L2

/-- a question for the prover -/
def Ask (p : Prop) : Prop := p
def hZ (Z : Ec) (F : Hp) : Prop := ∀ c H', Z.X c → Same F H' → Z.E c none H'
theorem hZ0 {F : Hp} : hZ Z0 F := fun _ _ h => h.elim

def FOk (K : PySem.W.Frag) (S : Hp) (σ : L2.St) : R → V → Prop
  | .sh d, v => Rep K S v d
  | .bo i, v => σ[i]? = some (some v)
  | .ow _ _, _ => False
inductive FsOk (K : PySem.W.Frag) (S : Hp) (σ : L2.St) : List R → List V → Prop where
  | nil : FsOk K S σ [] []
  | cons {r : R} {v : V} {rs : List R} {vs : List V} : FOk K S σ r v → FsOk K S σ rs vs → FsOk K S σ (r :: rs) (v :: vs)
theorem FOk.mono {K : PySem.W.Frag} {S S' : Hp} {σ : L2.St} {r : R} {v : V} (m : Same S S') (h : FOk K S σ r v) : FOk K S' σ r v := by
  cases r with
  | sh d => exact Rep.mono m h
  | bo i => exact h
  | ow a mo => exact h
theorem FsOk.mono {K : PySem.W.Frag} {S S' : Hp} {σ : L2.St} {rs : List R} {vs : List V} (m : Same S S') (h : FsOk K S σ rs vs) : FsOk K S' σ rs vs := by
  induction h with
  | nil => exact .nil
  | cons h _ ih => exact .cons (h.mono m) ih
theorem FOk.of {K : PySem.W.Frag} {F S H : Hp} {G : Sl} {σ : L2.St} {r : R} {v : V} (h : ROk K F S H G σ (fz r) v) : FOk K S σ (fz r) v := by
  cases r with
  | sh d => exact h
  | bo i => exact h
  | ow a mo => exact h

section
variable (K : PySem.W.Frag) (Z : Ec)
def kE (F S0 S : Hp) (σ : L2.St) (Q : R → Sl → Prop) (Qr : VK) : Prop :=
  ∀ r G' v S' H', Q r G' → Same S S' → Sat K F S0 G' S' σ H' → ROk K F S' H' G' σ r v → Qr v H'
def wE (te : TE) (G : Sl) (Q : R → Sl → Prop) : Prop :=
  ∀ F S0 S σ H (Qr : VK), Sat K F S0 G S σ H → hZ Z F → kE K F S0 S σ Q Qr → te σ H Qr
def kT (F S0 S : Hp) (σ : L2.St) (Q : Bool → Sl → Prop) (Qr : Bool → Hp → Prop) : Prop :=
  ∀ b G' S' H', Q b G' → Same S S' → Sat K F S0 G' S' σ H' → Qr b H'
def wT (tt : TT) (G : Sl) (Q : Bool → Sl → Prop) : Prop :=
  ∀ F S0 S σ H (Qr : Bool → Hp → Prop), Sat K F S0 G S σ H → hZ Z F → kT K F S0 S σ Q Qr → tt σ H Qr
def kA (F S0 S : Hp) (σ : L2.St) (Q : List R → Sl → Prop) (Qr : List V → Hp → Prop) : Prop :=
  ∀ rs G' vs S' H', Q rs G' → Same S S' → Sat K F S0 G' S' σ H' → FsOk K S' σ rs vs → Qr vs H'
def wA (ta : TA) (G : Sl) (Q : List R → Sl → Prop) : Prop :=
  ∀ F S0 S σ H (Qr : List V → Hp → Prop), Sat K F S0 G S σ H → hZ Z F → kA K F S0 S σ Q Qr → ta σ H Qr
/-- by values: two-place, one-place, a call, a method -/
def wR (r : R2) (x y : R) (G : Sl) (Q : R → Sl → Prop) : Prop :=
  ∀ F S0 S σ H (Qr : VK) v u, Sat K F S0 G S σ H → hZ Z F → FOk K S σ x v → FOk K S σ y u → kE K F S0 S σ Q Qr → r v u H Qr
def wU (r : V → Hp → VK → Prop) (x : R) (G : Sl) (Q : R → Sl → Prop) : Prop :=
  ∀ F S0 S σ H (Qr : VK) v, Sat K F S0 G S σ H → hZ Z F → FOk K S σ x v → kE K F S0 S σ Q Qr → r v H Qr
def wC (r : List V → Hp → VK → Prop) (rs : List R) (G : Sl) (Q : R → Sl → Prop) : Prop :=
  ∀ F S0 S σ H (Qr : VK) vs, Sat K F S0 G S σ H → hZ Z F → FsOk K S σ rs vs → kE K F S0 S σ Q Qr → r vs H Qr
def wM (r : V → List V → Hp → VK → Prop) (x : R) (rs : List R) (G : Sl) (Q : R → Sl → Prop) : Prop :=
  ∀ F S0 S σ H (Qr : VK) v vs, Sat K F S0 G S σ H → hZ Z F → FOk K S σ x v → FsOk K S σ rs vs → kE K F S0 S σ Q Qr → r v vs H Qr
def wG (g : TG) (d : D) (G : Sl) (Q : Sl → Prop) : Prop :=
  ∀ F S0 S σ H v (Qr : L2.St → Hp → Prop), Sat K F S0 G S σ H → Rep K S v d → (∀ G' S' σ' H', Q G' → Same S S' → Sat K F S0 G' S' σ' H' → Qr σ' H') → g v σ H Qr
def wGs (g : TGs) (ds : List D) (G : Sl) (Q : Sl → Prop) : Prop :=
  ∀ F S0 S σ H vs (Qr : L2.St → Hp → Prop), Sat K F S0 G S σ H → RepA K S vs ds → (∀ G' S' σ' H', Q G' → Same S S' → Sat K F S0 G' S' σ' H' → Qr σ' H') → g vs σ H Qr
structure Po where
  nx : Sl → Prop
  rt : R → Sl → Prop
  bk : Sl → Prop := fun _ => False
  ct : Sl → Prop := fun _ => False
structure POk (F S0 S : Hp) (P : Po) (D : Ends) : Prop where
  nx : ∀ G' S' σ' H', P.nx G' → Same S S' → Sat K F S0 G' S' σ' H' → D.nx σ' H'
  rt : ∀ r G' v S' σ' H', P.rt r G' → Same S S' → Sat K F S0 G' S' σ' H' → ROk K F S' H' G' σ' r v → D.rt v H'
  bk : ∀ G' S' σ' H', P.bk G' → Same S S' → Sat K F S0 G' S' σ' H' → D.bk σ' H'
  ct : ∀ G' S' σ' H', P.ct G' → Same S S' → Sat K F S0 G' S' σ' H' → D.ct σ' H'
def wS (ts : TS) (G : Sl) (P : Po) : Prop :=
  ∀ F S0 S σ H (D : Ends), Sat K F S0 G S σ H → hZ Z F → POk K F S0 S P D → ts D σ H
end

section
variable {K : PySem.W.Frag} {Z : Ec} {F S0 S S' : Hp} {G : Sl} {σ : L2.St} {H H' : Hp} {Q : R → Sl → Prop}
theorem kE.from {Qr : VK} (k : kE K F S0 S σ Q Qr) (m : Same S S') : kE K F S0 S' σ Q Qr := fun r G' v S2 H2 q m2 s2 o => k r G' v S2 H2 q (m.trans m2) s2 o
theorem kE.val {Qr : VK} (k : kE K F S0 S σ Q Qr) {v : V} {d : D} (s : Sat K F S0 G S σ H) (q : Q (.sh d) G) (r : Rep K S v d) : Qr v H := k _ _ _ _ _ q (Same.refl _) s r
theorem POk.from {P : Po} {D : Ends} (k : POk K F S0 S P D) (m : Same S S') : POk K F S0 S' P D :=
  ⟨fun G' S2 σ' H' q m2 s => k.nx G' S2 σ' H' q (m.trans m2) s, fun r G' v S2 σ' H' q m2 s o => k.rt r G' v S2 σ' H' q (m.trans m2) s o, fun G' S2 σ' H' q m2 s => k.bk G' S2 σ' H' q (m.trans m2) s, fun G' S2 σ' H' q m2 s => k.ct G' S2 σ' H' q (m.trans m2) s⟩
theorem wE.mono {te : TE} {Q Q' : R → Sl → Prop} (h : wE K Z te G Q) (q : ∀ r G', Q r G' → Q' r G') : wE K Z te G Q' :=
  fun F S0 S σ H Qr s z k => h F S0 S σ H Qr s z fun r G' v S' H' x => k r G' v S' H' (q r G' x)
theorem wS.mono {ts : TS} {P P' : Po} (h : wS K Z ts G P) (nx : ∀ G', P.nx G' → P'.nx G') (rt : ∀ r G', P.rt r G' → P'.rt r G') (bk : ∀ G', P.bk G' → P'.bk G') (ct : ∀ G', P.ct G' → P'.ct G') : wS K Z ts G P' :=
  fun F S0 S σ H D s z k => h F S0 S σ H D s z ⟨fun G' S' σ' H' q => k.nx G' S' σ' H' (nx G' q), fun r G' v S' σ' H' q => k.rt r G' v S' σ' H' (rt r G' q), fun G' S' σ' H' q => k.bk G' S' σ' H' (bk G' q), fun G' S' σ' H' q => k.ct G' S' σ' H' (ct G' q)⟩

/-! ### names, constants -/
theorem wE_var {i : Nat} {d : D} (h : G[i]? = some (.sh d)) (q : Q (.sh d) G) : wE K Z (tVar i) G Q := fun F S0 S σ H Qr s z k => by
  obtain ⟨v, e, r⟩ := s.val i _ h
  exact ⟨v, e, k.val s q r⟩
theorem wE_varB {i : Nat} {a : Addr} {m : Mo} (h : G[i]? = some (.ow a m)) (q : Q (.bo i) G) : wE K Z (tVar i) G Q := fun F S0 S σ H Qr s z k => by
  obtain ⟨e, _⟩ := s.val i _ h
  exact ⟨_, e, k _ _ _ _ _ q (Same.refl _) s e⟩
/-- an owned object becomes shared where it is read -/
theorem Sat.fzSlot {i : Nat} {a : Addr} {m : Mo} (s : Sat K F S0 G S σ H) (h : G[i]? = some (.ow a m)) : ∃ S', Same S S' ∧ Sat K F S0 (G.set i (.sh m.toD)) S' σ H ∧ Rep K S' (.ref a) m.toD := by
  have hi : i < G.length := (List.getElem?_eq_some_iff.mp h).1
  obtain ⟨e, h1, h2, h3⟩ := s.val i _ h
  have hn : ∀ (j : Nat) (m' : Mo), (G.set i .no)[j]? ≠ some (Slot.ow a m') := fun j m' e' => by
    by_cases hj : j = i
    · subst hj
      rw [List.getElem?_set_self hi] at e'; cases e'
    · rw [List.getElem?_set_ne (Ne.symm hj)] at e'
      exact hj (s.sep _ _ _ _ _ e' h)
  obtain ⟨S', m1, s1, r1⟩ := (s.forget (i := i)).freeze h1 h2 h3 hn
  have s2 := s1.setSh (i := i) (by simpa using hi) r1
  rw [List.set_set] at s2
  have e3 : σ.set i (some (V.ref a)) = σ := by
    apply List.ext_getElem?
    intro j
    by_cases hj : j = i
    · subst hj
      have hiσ : j < σ.length := (List.getElem?_eq_some_iff.mp e).1
      rw [List.getElem?_set_self hiσ, e]
    · rw [List.getElem?_set_ne (Ne.symm hj)]
  rw [e3] at s2
  exact ⟨S', m1, s2, r1⟩
theorem wE_varF {i : Nat} {a : Addr} {m : Mo} (h : G[i]? = some (.ow a m)) (q : Q (.sh m.toD) (G.set i (.sh m.toD))) : wE K Z (tVar i) G Q := fun F S0 S σ H Qr s z k => by
  obtain ⟨e, _⟩ := s.val i _ h
  obtain ⟨S', m1, s1, r1⟩ := s.fzSlot h
  exact ⟨_, e, k _ _ _ _ _ q m1 s1 r1⟩
def vD : V → Option D
  | .non => some .non
  | .bl b => some (.bl b)
  | .int i => some (.int i)
  | .str s => some (.str s)
  | .ty n => some (.ty n)
  | .ref a => some (.ref a)
  | _ => none
theorem vD_rep {v : V} {d : D} (h : vD v = some d) : Rep K S v d := by
  cases v <;> simp [vD] at h <;> subst h
  · exact .non
  · exact .bl _
  · exact .int _
  · exact .str _
  · exact .ref _
  · exact .ty _
def dV : D → Option V
  | .non => some .non
  | .bl b => some (.bl b)
  | .int i => some (.int i)
  | .str s => some (.str s)
  | _ => none
theorem dV_rep {v u : V} {d : D} (h : dV d = some u) (r : Rep K S v d) : v = u := by
  cases r <;> simp [dV] at h <;> exact h
theorem wE_c {v : V} {d : D} (h : vD v = some d) (q : Q (.sh d) G) : wE K Z (tC v) G Q := fun F S0 S σ H Qr s z k => k.val s q (vD_rep h)
/-! ### operators -/
/-- evaluate, then freeze -/
theorem wE.fz {te : TE} (h : wE K Z te G fun r G1 => Q (PL.fz r) G1) : wE K Z te G Q := fun F S0 S σ H Qr s z k => h F S0 S σ H Qr s z fun r G' v S' H' q m s' o => by
  obtain ⟨S2, m2, s2, o2⟩ := s'.fz o
  exact k _ _ _ _ _ q (m.trans m2) s2 o2
theorem evF {te : TE} {Q : R → Sl → Prop} (h : wE K Z te G Q) (s : Sat K F S0 G S σ H) (z : hZ Z F) {Qr : VK}
    (k : ∀ r G' v S' H', Q r G' → Same S S' → Sat K F S0 G' S' σ H' → FOk K S' σ (fz r) v → Qr v H') : te σ H Qr := h F S0 S σ H Qr s z fun r G' v S' H' q m s' o => by
  obtain ⟨S2, m2, s2, o2⟩ := s'.fz o
  exact k r G' v S2 H' q (m.trans m2) s2 (FOk.of o2)
theorem wE_op {r : R2} {ta tb : TE} (h : wE K Z ta G fun x G1 => wE K Z tb G1 fun y G2 => wR K Z r (fz x) (fz y) G2 Q) : wE K Z (tOp r ta tb) G Q := fun F S0 S σ H Qr s z k =>
  evF h s z fun x G1 v S1 H1 h1 m1 s1 o1 => evF h1 s1 z fun y G2 u S2 H2 h2 m2 s2 o2 => h2 F S0 S2 σ H2 Qr v u s2 z (o1.mono m2) o2 (k.from (m1.trans m2))
theorem wE_un {r : V → Hp → VK → Prop} {ta : TE} (h : wE K Z ta G fun x G1 => wU K Z r (fz x) G1 Q) : wE K Z (tUn r ta) G Q := fun F S0 S σ H Qr s z k =>
  evF h s z fun x G1 v S1 H1 h1 m1 s1 o1 => h1 F S0 S1 σ H1 Qr v s1 z o1 (k.from m1)
theorem wA_nil {Q : List R → Sl → Prop} (q : Q [] G) : wA K Z tNil G Q := fun F S0 S σ H Qr s z k => k [] G [] S H q (Same.refl _) s .nil
theorem wA_cons {ta : TE} {tr : TA} {Q : List R → Sl → Prop} (h : wE K Z ta G fun x G1 => wA K Z tr G1 fun rs G2 => Q (fz x :: rs) G2) : wA K Z (tCons ta tr) G Q := fun F S0 S σ H Qr s z k =>
  evF h s z fun x G1 v S1 H1 h1 m1 s1 o1 => h1 F S0 S1 σ H1 _ s1 z fun rs G2 vs S2 H2 q m2 s2 o2 => k _ _ _ _ _ q (m1.trans m2) s2 (.cons (o1.mono m2) o2)
theorem wE_cb {r : List V → Hp → VK → Prop} {ta : TA} (h : wA K Z ta G fun rs G1 => wC K Z r rs G1 Q) : wE K Z (tCB r ta) G Q := fun F S0 S σ H Qr s z k =>
  h F S0 S σ H _ s z fun rs G' vs S' H' q m s' o => q F S0 S' σ H' Qr vs s' z o (k.from m)
/-- shared data in a row -/
def shs : List R → Option (List D)
  | [] => some []
  | .sh d :: rs => match shs rs with
    | some ds => some (d :: ds)
    | none => none
  | _ :: _ => none
theorem shs_rep : ∀ {rs : List R} {vs : List V} {ds : List D}, shs rs = some ds → FsOk K S σ rs vs → RepA K S vs ds
  | [], _, _, h, .nil => by
    cases h; exact .nil
  | .sh d :: rs, _, _, h, .cons o q => by
    simp only [shs] at h
    split at h
    · rename_i es h1
      cases h
      exact .cons o (shs_rep h1 q)
    · cases h
  | .bo _ :: _, _, _, h, _ => by cases h
  | .ow _ _ :: _, _, _, h, _ => by cases h
theorem wE_tup {ta : TA} (h : wA K Z ta G fun rs G1 => ∃ ds, shs rs = some ds ∧ Nat.ble rs.length 1000 = true ∧ Q (.sh (.tup ds)) G1) : wE K Z (tTup ta) G Q := fun F S0 S σ H Qr s z k =>
  h F S0 S σ H _ s z fun rs G' vs S' H' q m s' o => by
    obtain ⟨ds, e, hl, q⟩ := q
    have rp := shs_rep e o
    have hlen : vs.length = rs.length := by
      clear rp e q hl
      induction o with
      | nil => rfl
      | cons _ _ ih => simp [ih]
    refine ⟨by rw [hlen]; exact Nat.le_trans (Nat.le_of_ble_eq_true hl) (by decide), fun p hp => ?_⟩
    obtain ⟨m2, s2⟩ := s'.newsh (o := .tup vs) hp
    exact k _ _ _ _ _ q (m.trans m2) s2 (Rep.tup upd_same (rp.mono m2))
/-- a new owned object -/
theorem Sat.newow {p : Addr} {o : HO} (s : Sat K F S0 G S σ H) (h : H p = none) : Sat K F S0 G S σ (upd H p o) ∧ F p = none ∧ S p = none ∧ ∀ (i : Nat) (m' : Mo), G[i]? ≠ some (Slot.ow p m') :=
  ⟨s.grow (same_new h), s.unfr h, s.unsh h, s.noow h⟩
theorem wE_lst {ta : TA} (h : wA K Z ta G fun rs G1 => ∃ ds, shs rs = some ds ∧ Nat.ble rs.length 1000 = true ∧ ∀ a, Q (.ow a (.lst ds)) G1) : wE K Z (tLst ta) G Q := fun F S0 S σ H Qr s z k =>
  h F S0 S σ H _ s z fun rs G' vs S' H' q m s' o => by
    obtain ⟨ds, e, hl, q⟩ := q
    have rp := shs_rep e o
    have hlen : vs.length = rs.length := by
      clear rp e q hl
      induction o with
      | nil => rfl
      | cons _ _ ih => simp [ih]
    refine ⟨by rw [hlen]; exact Nat.le_trans (Nat.le_of_ble_eq_true hl) (by decide), fun p hp => ?_⟩
    obtain ⟨s2, h1, h2, h3⟩ := s'.newow (o := .lst vs) hp
    exact k _ _ _ _ _ (q p) m s2 ⟨rfl, h1, h2, ⟨vs, upd_same, rp⟩, h3⟩
/-- a list literal, shared at once -/
theorem wE_lstS {ta : TA} (h : wA K Z ta G fun rs G1 => ∃ ds, shs rs = some ds ∧ Nat.ble rs.length 1000 = true ∧ Q (.sh (.lst ds)) G1) : wE K Z (tLst ta) G Q :=
  wE.fz (wE_lst (fun F S0 S σ H Qr s z k => h F S0 S σ H Qr s z fun rs G' vs S' H' q m s' o => k rs G' vs S' H' (by
    obtain ⟨ds, e, hl, q⟩ := q
    exact ⟨ds, e, hl, fun a => q⟩) m s' o))

/-! ### ints -/
theorem wR_I0 {g : Int → Int → V} {i j : Int} {d : D} (hd : vD (g i j) = some d) (q : Q (.sh d) G) : wR K Z (rI0 g) (.sh (.int i)) (.sh (.int j)) G Q := fun F S0 S σ H Qr v u s z o1 o2 k => by
  cases o1; cases o2
  exact ⟨i, j, rfl, rfl, k.val s q (vD_rep hd)⟩
theorem wR_I {C : Int → Int → Prop} {g : Int → Int → V} {i j : Int} {d : D} (hc : C i j) (hd : vD (g i j) = some d) (q : Q (.sh d) G) : wR K Z (rI C g) (.sh (.int i)) (.sh (.int j)) G Q := fun F S0 S σ H Qr v u s z o1 o2 k => by
  cases o1; cases o2
  exact ⟨i, j, rfl, rfl, hc, k.val s q (vD_rep hd)⟩
theorem wU_I {g : Int → V} {i : Int} {d : D} (hd : vD (g i) = some d) (q : Q (.sh d) G) : wU K Z (rU g) (.sh (.int i)) G Q := fun F S0 S σ H Qr v s z o1 k => by
  cases o1
  exact ⟨i, rfl, k.val s q (vD_rep hd)⟩
/-! ### == of scalars -/
theorem wR_eq {x y : D} {v u : V} (hx : dV x = some v) (hy : dV y = some u) (hs : scal v u = true) (q : Q (.sh (.bl (decide (v = u)))) G) : wR K Z rEq (.sh x) (.sh y) G Q := fun F S0 S σ H Qr v' u' s z o1 o2 k => by
  have e1 := dV_rep hx o1; have e2 := dV_rep hy o2
  subst e1; subst e2
  exact ⟨hs, k.val s q (.bl _)⟩
theorem wR_ne {x y : D} {v u : V} (hx : dV x = some v) (hy : dV y = some u) (hs : scal v u = true) (q : Q (.sh (.bl (!decide (v = u)))) G) : wR K Z rNe (.sh x) (.sh y) G Q := fun F S0 S σ H Qr v' u' s z o1 o2 k => by
  have e1 := dV_rep hx o1; have e2 := dV_rep hy o2
  subst e1; subst e2
  exact ⟨hs, k.val s q (.bl _)⟩
theorem dInt {i j : Int} : decide (V.int i = V.int j) = decide (i = j) := by simp
theorem dStr {i j : Str} : decide (V.str i = V.str j) = decide (i = j) := by simp
theorem dBl {i j : Bool} : decide (V.bl i = V.bl j) = decide (i = j) := by simp
theorem wR_eqI {i j : Int} (q : Q (.sh (.bl (decide (i = j)))) G) : wR K Z rEq (.sh (.int i)) (.sh (.int j)) G Q := wR_eq rfl rfl rfl (by rw [dInt]; exact q)
theorem wR_neI {i j : Int} (q : Q (.sh (.bl (!decide (i = j)))) G) : wR K Z rNe (.sh (.int i)) (.sh (.int j)) G Q := wR_ne rfl rfl rfl (by rw [dInt]; exact q)
theorem wR_eqS {i j : Str} (q : Q (.sh (.bl (decide (i = j)))) G) : wR K Z rEq (.sh (.str i)) (.sh (.str j)) G Q := wR_eq rfl rfl rfl (by rw [dStr]; exact q)
theorem wR_neS {i j : Str} (q : Q (.sh (.bl (!decide (i = j)))) G) : wR K Z rNe (.sh (.str i)) (.sh (.str j)) G Q := wR_ne rfl rfl rfl (by rw [dStr]; exact q)
theorem wR_eqB {i j : Bool} (q : Q (.sh (.bl (decide (i = j)))) G) : wR K Z rEq (.sh (.bl i)) (.sh (.bl j)) G Q := wR_eq rfl rfl rfl (by rw [dBl]; exact q)
theorem wR_neB {i j : Bool} (q : Q (.sh (.bl (!decide (i = j)))) G) : wR K Z rNe (.sh (.bl i)) (.sh (.bl j)) G Q := wR_ne rfl rfl rfl (by rw [dBl]; exact q)
/-! ### is None -/
def isN : D → Bool
  | .non => true
  | _ => false
theorem isN_rep {v : V} {d : D} (r : Rep K S v d) : decide (v = .non) = isN d := by
  cases r <;> simp [isN]
theorem wR_isN {x : D} (q : Q (.sh (.bl (isN x))) G) : wR K Z rIsN (.sh x) (.sh .non) G Q := fun F S0 S σ H Qr v u s z o1 o2 k => by
  cases o2
  exact ⟨rfl, k.val s q (by rw [isN_rep o1]; exact .bl _)⟩
theorem wR_notN {x : D} (q : Q (.sh (.bl (!isN x))) G) : wR K Z rNotN (.sh x) (.sh .non) G Q := fun F S0 S σ H Qr v u s z o1 o2 k => by
  cases o2
  exact ⟨rfl, k.val s q (by rw [isN_rep o1]; exact .bl _)⟩
/-! ### and, or, not, if -/
theorem wT_test {te : TE} {Q : Bool → Sl → Prop} (h : wE K Z te G fun r G1 => ∃ b, r = .sh (.bl b) ∧ Q b G1) : wT K Z (tTest te) G Q := fun F S0 S σ H Qr s z k =>
  h F S0 S σ H _ s z fun r G' v S' H' q m s' o => by
    obtain ⟨b, rfl, q⟩ := q
    cases o
    exact ⟨b, rfl, k b G' S' H' q m s'⟩
theorem wT_B {te : TE} {Q : Bool → Sl → Prop} (h : wE K Z te G fun r G1 => ∃ b, r = .sh (.bl b) ∧ Q b G1) : wT K Z (tB te) G Q := fun F S0 S σ H Qr s z k =>
  h F S0 S σ H _ s z fun r G' v S' H' q m s' o => by
    obtain ⟨b, rfl, q⟩ := q
    cases o
    exact ⟨b, rfl, k b G' S' H' q m s'⟩
theorem wT_and {t u : TT} {Q : Bool → Sl → Prop} (h : wT K Z t G fun b G1 => (b = true → wT K Z u G1 Q) ∧ (b = false → Q false G1)) : wT K Z (tAnd t u) G Q := fun F S0 S σ H Qr s z k =>
  h F S0 S σ H _ s z fun b G' S' H' q m s' => by
    cases b with
    | true => exact q.1 rfl F S0 S' σ H' Qr s' z fun b2 G2 S2 H2 q2 m2 s2 => k b2 G2 S2 H2 q2 (m.trans m2) s2
    | false => exact k false G' S' H' (q.2 rfl) m s'
theorem wT_or {t u : TT} {Q : Bool → Sl → Prop} (h : wT K Z t G fun b G1 => (b = true → Q true G1) ∧ (b = false → wT K Z u G1 Q)) : wT K Z (tOr t u) G Q := fun F S0 S σ H Qr s z k =>
  h F S0 S σ H _ s z fun b G' S' H' q m s' => by
    cases b with
    | true => exact k true G' S' H' (q.1 rfl) m s'
    | false => exact q.2 rfl F S0 S' σ H' Qr s' z fun b2 G2 S2 H2 q2 m2 s2 => k b2 G2 S2 H2 q2 (m.trans m2) s2
theorem wT_not {t : TT} {Q : Bool → Sl → Prop} (h : wT K Z t G fun b G1 => Q (!b) G1) : wT K Z (tNot t) G Q := fun F S0 S σ H Qr s z k =>
  h F S0 S σ H _ s z fun b G' S' H' q m s' => k _ G' S' H' q m s'
theorem wE_and {ta tb : TE} (h : wE K Z ta G fun r G1 => ∃ b, r = .sh (.bl b) ∧ (b = true → wE K Z tb G1 Q) ∧ (b = false → Q (.sh (.bl false)) G1)) : wE K Z (tAndV ta tb) G Q := fun F S0 S σ H Qr s z k =>
  h F S0 S σ H _ s z fun r G' v S' H' q m s' o => by
    obtain ⟨b, rfl, q1, q2⟩ := q
    cases o
    refine ⟨b, rfl, ?_⟩
    cases b with
    | true => exact q1 rfl F S0 S' σ H' Qr s' z (k.from m)
    | false => exact (k.from m).val s' (q2 rfl) (.bl _)
theorem wE_or {ta tb : TE} (h : wE K Z ta G fun r G1 => ∃ b, r = .sh (.bl b) ∧ (b = true → Q (.sh (.bl true)) G1) ∧ (b = false → wE K Z tb G1 Q)) : wE K Z (tOrV ta tb) G Q := fun F S0 S σ H Qr s z k =>
  h F S0 S σ H _ s z fun r G' v S' H' q m s' o => by
    obtain ⟨b, rfl, q1, q2⟩ := q
    cases o
    refine ⟨b, rfl, ?_⟩
    cases b with
    | true => exact (k.from m).val s' (q1 rfl) (.bl _)
    | false => exact q2 rfl F S0 S' σ H' Qr s' z (k.from m)
theorem wE_not {ta : TE} (h : wE K Z ta G fun r G1 => ∃ b, r = .sh (.bl b) ∧ Q (.sh (.bl (!b))) G1) : wE K Z (tNotV ta) G Q := fun F S0 S σ H Qr s z k =>
  h F S0 S σ H _ s z fun r G' v S' H' q m s' o => by
    obtain ⟨b, rfl, q⟩ := q
    cases o
    exact ⟨b, rfl, (k.from m).val s' q (.bl _)⟩
theorem wE_if {t : TT} {ta tb : TE} (h : wT K Z t G fun b G1 => (b = true → wE K Z ta G1 Q) ∧ (b = false → wE K Z tb G1 Q)) : wE K Z (tIf t ta tb) G Q := fun F S0 S σ H Qr s z k =>
  h F S0 S σ H _ s z fun b G' S' H' q m s' => by
    cases b with
    | true => exact q.1 rfl F S0 S' σ H' Qr s' z (k.from m)
    | false => exact q.2 rfl F S0 S' σ H' Qr s' z (k.from m)
/-! ### views -/
def lv (G : Sl) : R → Option (List D)
  | .sh (.lst ds) => some ds
  | .bo i => match G[i]? with
    | some (.ow _ (.lst ds)) => some ds
    | _ => none
  | _ => none
theorem lv_ok {r : R} {v : V} {ds : List D} (h : lv G r = some ds) (s : Sat K F S0 G S σ H) (o : FOk K S σ r v) : ∃ a xs, v = .ref a ∧ H a = some (.lst xs) ∧ RepA K S xs ds := by
  cases r with
  | sh d =>
    cases o <;> try cases h
    rename_i a xs h1 h2
    exact ⟨a, xs, rfl, s.sh _ _ h1, h2⟩
  | bo i =>
    unfold lv at h
    simp only at h
    split at h
    · cases h
      rename_i a _ e
      obtain ⟨e1, _, _, xs, h1, h2⟩ := s.val i _ e
      have o' : σ[i]? = some (some v) := o
      rw [e1] at o'
      cases o'
      exact ⟨_, xs, rfl, h1, h2⟩
    · cases h
  | ow a m => cases h
def dv (G : Sl) : R → Option D
  | .sh d => some d
  | .bo i => match G[i]? with
    | some (.ow _ m) => some m.toD
    | _ => none
  | _ => none
theorem dv_rep {r : R} {v : V} {d : D} (h : dv G r = some d) (s : Sat K F S0 G S σ H) (o : FOk K S σ r v) : Rep K H v d := by
  cases r with
  | sh d => cases h; exact Rep.mono s.sh o
  | bo i =>
    unfold dv at h
    simp only at h
    split at h
    · cases h
      rename_i a m e
      obtain ⟨e1, _, _, mo⟩ := s.val i _ e
      have o' : σ[i]? = some (some v) := o
      rw [e1] at o'
      cases o'
      exact mo.rep s.sh rfl
    · cases h
  | ow a m => cases h
/-! ### truth -/
def tru : D → Option Bool
  | .non => some false
  | .bl b => some b
  | .int i => some (i != 0)
  | .lst ds => some (!ds.isEmpty)
  | .tup ds => some (!ds.isEmpty)
  | _ => none
theorem RepA.isEmpty {vs : List V} {ds : List D} (h : RepA K S vs ds) : vs.isEmpty = ds.isEmpty := by
  cases h <;> rfl
theorem tru_rep {v : V} {d : D} {b : Bool} (h : tru d = some b) (r : Rep K H v d) : TruV K v H b := by
  cases r <;> (first | cases h | skip)
  · rfl
  · rfl
  · rfl
  · rename_i a xs ds h1 h2
    exact .inr (.inl ⟨xs, .inl (.inl h1), by rw [h2.isEmpty]⟩)
  · rename_i a xs ds h1 h2
    exact .inl ⟨xs, .inl (.inl h1), by rw [h2.isEmpty]⟩
theorem wT_tru {te : TE} {Q : Bool → Sl → Prop} (h : wE K Z te G fun r G1 => ∃ d b, dv G1 (fz r) = some d ∧ tru d = some b ∧ Q b G1) : wT K Z (tTru K te) G Q := fun F S0 S σ H Qr s z k =>
  evF h s z fun r G' v S' H' q m s' o => by
    obtain ⟨d, b, h1, h2, q⟩ := q
    exact ⟨b, tru_rep h2 (dv_rep h1 s' o), k b G' S' H' q m s'⟩
end
end PL

/-! PN: texts, lists, tuples, dicts, calls of built-ins, by values. -/
namespace PL
open PySem L2

/-! ### texts as lists of signs -/
abbrev mk (l : List Nat) : Str := ⟨l.toArray⟩
abbrev tx (l : List Nat) : D := .str (mk l)
theorem mk_inj {l m : List Nat} : mk l = mk m ↔ l = m := by
  constructor
  · intro h
    have := congrArg (fun s : Str => s.cps.toList) h
    simpa using this
  · intro h; rw [h]
theorem mk_len (l : List Nat) : (mk l).length = l.length := by simp [mk, Str.length]
theorem mk_app (a b : List Nat) : mk a ++ mk b = mk (a ++ b) := TL.ext_tl (by rw [TL.tl_append])
theorem mk_of (s : Str) : s = mk s.cps.toList := (TL.mk_tl s).symm
theorem mk_eqD {l m : List Nat} : decide (mk l = mk m) = decide (l = m) := by
  by_cases h : l = m
  · subst h; simp
  · have h' : ¬ mk l = mk m := fun e => h (mk_inj.mp e)
    rw [decide_eq_false h, decide_eq_false h']
def cut {α : Type} (l : List α) (lo hi : Option Int) : List α := (l.drop (HT.sIx l.length 0 lo)).take (HT.sIx l.length l.length hi - HT.sIx l.length 0 lo)
theorem cutS_mk (l : List Nat) (lo hi : Option Int) : cutS (mk l) lo hi = mk (cut l lo hi) := by
  unfold cutS cut
  rw [mk_len]
theorem line_of {n : Nat} (h : n ≤ 1000000) : n ≤ sizeLine := Nat.le_trans h (by decide)
theorem line_lt {n : Nat} (h : n ≤ 1000000) : n < sizeLine := Nat.lt_of_le_of_lt h (by decide)
/-- readings of the hand layer's rules, by a name -/
@[reducible] def sAddS : R2 := fun x y H Q => ∃ i j, x = .str i ∧ y = .str j ∧ i.length + j.length ≤ sizeLine ∧ Q (.str (i ++ j)) H
@[reducible] def cLen (K : PySem.W.Frag) : List V → Hp → VK → Prop := fun xs H Q => ∃ x n, xs = [x] ∧ LenV K x H n ∧ Q (.int (n : Nat)) H
@[reducible] def cInt : List V → Hp → VK → Prop := fun xs H Q => (∃ i, xs = [.int i] ∧ Q (.int i) H) ∨ ∃ k, xs = [.bl k] ∧ Q (.int (if k then 1 else 0)) H
@[reducible] def cList (K : PySem.W.Frag) : List V → Hp → VK → Prop := fun xs H Q => ∃ p ys, xs = [.ref p] ∧ (SqL K H p ys ∨ SqT K H p ys) ∧ ∀ l, H l = none → Q (.ref l) (upd H l (.lst ys))
@[reducible] def cTuple (K : PySem.W.Frag) : List V → Hp → VK → Prop := fun xs H Q => ∃ p ys, xs = [.ref p] ∧ ((SqL K H p ys ∧ ∀ l, H l = none → Q (.ref l) (upd H l (.tup ys))) ∨ (SqT K H p ys ∧ Q (.ref p) H))
@[reducible] def cMax2 : List V → Hp → VK → Prop := fun xs H Q => ∃ i j, xs = [.int i, .int j] ∧ Q (.int (if j > i then j else i)) H
@[reducible] def cMin2 : List V → Hp → VK → Prop := fun xs H Q => ∃ i j, xs = [.int i, .int j] ∧ Q (.int (if j < i then j else i)) H
@[reducible] def mJoin (K : PySem.W.Frag) : V → List V → Hp → VK → Prop := fun x xs H Q => ∃ a p, ∃ ys : List Str, x = .str a ∧ xs = [.ref p] ∧ (SqL K H p (ys.map V.str) ∨ SqT K H p (ys.map V.str)) ∧
    (ys.map (·.length)).sum + ys.length * a.length ≤ 16777216 ∧ Q (.str (Txt.join a ys)) H
@[reducible] def mFind : V → List V → Hp → VK → Prop := fun x xs H Q => ∃ a b, x = .str a ∧ xs = [.str b] ∧ Q (.int (Txt.find a b)) H
@[reducible] def mLower : V → List V → Hp → VK → Prop := fun x xs H Q => ∃ a, x = .str a ∧ xs = [] ∧ a.length ≤ 5592405 ∧ Q (.str (Txt.lower a)) H

section
variable {K : PySem.W.Frag} {Z : Ec} {F S0 S S' : Hp} {G : Sl} {σ : L2.St} {H H' : Hp} {Q : R → Sl → Prop}
/-- a constant text by its signs -/
theorem wE_cs {x : Str} (l : List Nat) (h : x = mk l) (q : Q (.sh (tx l)) G) : wE K Z (tC (.str x)) G Q := wE_c (d := tx l) (by rw [h]; rfl) q
theorem wR_eqT {l m : List Nat} (q : Q (.sh (.bl (decide (l = m)))) G) : wR K Z rEq (.sh (tx l)) (.sh (tx m)) G Q := wR_eqS (by rw [mk_eqD]; exact q)
theorem wR_neT {l m : List Nat} (q : Q (.sh (.bl (!decide (l = m)))) G) : wR K Z rNe (.sh (tx l)) (.sh (tx m)) G Q := wR_neS (by rw [mk_eqD]; exact q)
theorem wR_addT {l m : List Nat} (hl : l.length + m.length ≤ 1000000) (q : Q (.sh (tx (l ++ m))) G) : wR K Z sAddS (.sh (tx l)) (.sh (tx m)) G Q := fun F S0 S σ H Qr v u s z o1 o2 k => by
  cases o1; cases o2
  exact ⟨_, _, rfl, rfl, by rw [mk_len, mk_len]; exact line_of hl, k.val s q (by rw [mk_app]; exact .str _)⟩
theorem wR_inS {c : Nat} {m : List Nat} (q : Q (.sh (.bl (decide (c ∈ m)))) G) : wR K Z rInS (.sh (tx [c])) (.sh (tx m)) G Q := fun F S0 S σ H Qr v u s z o1 o2 k => by
  cases o1; cases o2
  exact ⟨c, _, rfl, rfl, k.val s q (.bl _)⟩
theorem wR_ninS {c : Nat} {m : List Nat} (q : Q (.sh (.bl (!decide (c ∈ m)))) G) : wR K Z rNotInS (.sh (tx [c])) (.sh (tx m)) G Q := fun F S0 S σ H Qr v u s z o1 o2 k => by
  cases o1; cases o2
  exact ⟨c, _, rfl, rfl, k.val s q (.bl _)⟩
/-! ### items -/
theorem atI_rep {vs : List V} {ds : List D} (r : RepA K S vs ds) {i : Int} {d : D} (h : atI ds i = some d) : ∃ v, atI vs i = some v ∧ Rep K S v d := by
  unfold atI at h ⊢
  rw [r.len]
  cases e : ixN ds.length i with
  | none => rw [e] at h; cases h
  | some j =>
    rw [e] at h
    exact r.get h
theorem wR_ixL {x : R} {ds : List D} {i : Int} {d : D} (h : lv G x = some ds) (hi : atI ds i = some d) (q : Q (.sh d) G) : wR K Z (rIxL K) x (.sh (.int i)) G Q := fun F S0 S σ H Qr v u s z o1 o2 k => by
  obtain ⟨a, xs, rfl, h1, h2⟩ := lv_ok h s o1
  cases o2
  obtain ⟨w, hw, rw'⟩ := atI_rep h2 hi
  exact ⟨a, xs, i, w, rfl, rfl, SqL.of h1, hw, k.val s q rw'⟩
theorem wR_ixC {ns : List Int} {i n : Int} (hi : atI ns i = some n) (q : Q (.sh (.int n)) G) : wR K Z (rIxL K) (.sh (.scr ns)) (.sh (.int i)) G Q := fun F S0 S σ H Qr v u s z o1 o2 k => by
  cases o1; cases o2
  rename_i a h
  refine ⟨a, _, i, .int n, rfl, rfl, s.sh.seq h, ?_, k.val s q (.int _)⟩
  unfold atI at hi ⊢
  rw [List.length_map]
  cases e : ixN ns.length i with
  | none => rw [e] at hi; cases hi
  | some j =>
    rw [e] at hi
    have hi' : ns[j]? = some n := hi
    show (ns.map V.int)[j]? = _
    rw [List.getElem?_map, hi']; rfl
theorem wR_ixT {ds : List D} {i : Int} {d : D} (hi : atI ds i = some d) (q : Q (.sh d) G) : wR K Z (rIxT K) (.sh (.tup ds)) (.sh (.int i)) G Q := fun F S0 S σ H Qr v u s z o1 o2 k => by
  cases o1; cases o2
  rename_i a xs h1 h2
  obtain ⟨w, hw, rw'⟩ := atI_rep h2 hi
  exact ⟨a, xs, i, w, rfl, rfl, SqT.of (s.sh _ _ h1), hw, k.val s q rw'⟩
theorem wR_ixS {l : List Nat} {i : Int} {c : Nat} (hl : l.length ≤ 1000000) (hi : atI l i = some c) (q : Q (.sh (tx [c])) G) : wR K Z rIxS (.sh (tx l)) (.sh (.int i)) G Q := fun F S0 S σ H Qr v u s z o1 o2 k => by
  cases o1; cases o2
  exact ⟨mk l, i, c, rfl, rfl, by rw [mk_len]; exact line_of hl, hi, k.val s q (.str _)⟩
/-! ### slices -/
def wO (K : PySem.W.Frag) (Z : Ec) (to : TO) (G : Sl) (Q : Option Int → Sl → Prop) : Prop :=
  ∀ F S0 S σ H (Qr : Option Int → Hp → Prop), Sat K F S0 G S σ H → hZ Z F → (∀ o G' S' H', Q o G' → Same S S' → Sat K F S0 G' S' σ H' → Qr o H') → to σ H Qr
def wL (K : PySem.W.Frag) (Z : Ec) (r : V → Option Int → Option Int → Hp → VK → Prop) (x : R) (lo hi : Option Int) (G : Sl) (Q : R → Sl → Prop) : Prop :=
  ∀ F S0 S σ H (Qr : VK) v, Sat K F S0 G S σ H → hZ Z F → FOk K S σ x v → kE K F S0 S σ Q Qr → r v lo hi H Qr
theorem wO_none {Q : Option Int → Sl → Prop} (q : Q none G) : wO K Z tNoPart G Q := fun F S0 S σ H Qr s z k => k none G S H q (Same.refl _) s
theorem wO_some {te : TE} {Q : Option Int → Sl → Prop} (h : wE K Z te G fun r G1 => ∃ i, r = .sh (.int i) ∧ Q (some i) G1) : wO K Z (tPart te) G Q := fun F S0 S σ H Qr s z k =>
  h F S0 S σ H _ s z fun r G' v S' H' q m s' o => by
    obtain ⟨i, rfl, q⟩ := q
    cases o
    exact ⟨i, rfl, k _ G' S' H' q m s'⟩
theorem wE_sl {r : V → Option Int → Option Int → Hp → VK → Prop} {te : TE} {tl th : TO} (h : wE K Z te G fun x G1 => wO K Z tl G1 fun lo G2 => wO K Z th G2 fun hi G3 => wL K Z r (fz x) lo hi G3 Q) : wE K Z (tSl r te tl th) G Q := fun F S0 S σ H Qr s z k =>
  evF h s z fun x G1 v S1 H1 h1 m1 s1 o1 => h1 F S0 S1 σ H1 _ s1 z fun lo G2 S2 H2 h2 m2 s2 => h2 F S0 S2 σ H2 _ s2 z fun hi G3 S3 H3 h3 m3 s3 =>
    h3 F S0 S3 σ H3 Qr v s3 z (o1.mono (m2.trans m3)) (k.from (m1.trans (m2.trans m3)))
theorem wL_S {l : List Nat} {lo hi : Option Int} (hl : l.length ≤ 1000000) (q : Q (.sh (tx (cut l lo hi))) G) : wL K Z rSlS (.sh (tx l)) lo hi G Q := fun F S0 S σ H Qr v s z o k => by
  cases o
  exact ⟨mk l, rfl, by rw [mk_len]; exact line_of hl, k.val s q (by rw [cutS_mk]; exact .str _)⟩
theorem cut_rep {vs : List V} {ds : List D} (r : RepA K S vs ds) (lo hi : Option Int) : RepA K S (cutV vs lo hi) (cut ds lo hi) := by
  unfold cutV cut
  rw [r.len]
  exact (r.drop _).take _
theorem cut_whole {α : Type} {l : List α} {lo hi : Option Int} (h : HT.sIx l.length 0 lo = 0 ∧ HT.sIx l.length l.length hi = l.length) : cut l lo hi = l := by
  unfold cut
  rw [h.1, h.2]
  simp
theorem wL_T {ds : List D} {lo hi : Option Int} (q : Q (.sh (.tup (cut ds lo hi))) G) : wL K Z (rSlA K) (.sh (.tup ds)) lo hi G Q := fun F S0 S σ H Qr v s z o k => by
  cases o
  rename_i a xs h1 h2
  refine ⟨a, xs, rfl, SqT.of (s.sh _ _ h1), fun hw => ?_, fun hw p hp => ?_⟩
  · rw [h2.len] at hw
    rw [cut_whole hw] at q
    exact k.val s q (.tup h1 h2)
  · obtain ⟨m2, s2⟩ := s.newsh (o := .tup (cutV xs lo hi)) hp
    exact k _ _ _ _ _ q m2 s2 (Rep.tup upd_same ((cut_rep h2 lo hi).mono m2))
theorem wL_L {x : R} {ds : List D} {lo hi : Option Int} (h : lv G x = some ds) (q : ∀ a, Q (.ow a (.lst (cut ds lo hi))) G) : wL K Z (rSlL K) x lo hi G Q := fun F S0 S σ H Qr v s z o k => by
  obtain ⟨a, xs, rfl, h1, h2⟩ := lv_ok h s o
  refine ⟨a, xs, rfl, SqL.of h1, fun p hp => ?_⟩
  obtain ⟨s2, g1, g2, g3⟩ := s.newow (o := .lst (cutV xs lo hi)) hp
  exact k _ _ _ _ _ (q p) (Same.refl _) s2 ⟨rfl, g1, g2, ⟨_, upd_same, cut_rep h2 lo hi⟩, g3⟩
/-! ### calls of built-ins -/
theorem fs1 {r : R} {vs : List V} (h : FsOk K S σ [r] vs) : ∃ v, vs = [v] ∧ FOk K S σ r v := by
  cases h with
  | cons a b => cases b; exact ⟨_, rfl, a⟩
theorem fs2 {r r' : R} {vs : List V} (h : FsOk K S σ [r, r'] vs) : ∃ v u, vs = [v, u] ∧ FOk K S σ r v ∧ FOk K S σ r' u := by
  cases h with
  | cons a b =>
    obtain ⟨u, rfl, b'⟩ := fs1 b
    exact ⟨_, u, rfl, a, b'⟩
theorem wC_lenT {l : List Nat} (hl : l.length ≤ 1000000) (q : Q (.sh (.int (l.length : Nat))) G) : wC K Z (cLen K) [.sh (tx l)] G Q := fun F S0 S σ H Qr vs s z o k => by
  obtain ⟨v, rfl, oo⟩ := fs1 o
  cases oo
  exact ⟨.str (mk l), l.length, rfl, ⟨by rw [mk_len]; exact line_of hl, (mk_len l).symm⟩, k.val s q (.int _)⟩
theorem wC_lenL {x : R} {ds : List D} (h : lv G x = some ds) (q : Q (.sh (.int (ds.length : Nat))) G) : wC K Z (cLen K) [x] G Q := fun F S0 S σ H Qr vs s z o k => by
  obtain ⟨v, rfl, oo⟩ := fs1 o
  obtain ⟨a, xs, rfl, h1, h2⟩ := lv_ok h s oo
  exact ⟨_, ds.length, rfl, .inl ⟨xs, SqL.of h1, h2.len.symm⟩, k.val s q (.int _)⟩
theorem wC_lenU {ds : List D} (q : Q (.sh (.int (ds.length : Nat))) G) : wC K Z (cLen K) [.sh (.tup ds)] G Q := fun F S0 S σ H Qr vs s z o k => by
  obtain ⟨v, rfl, oo⟩ := fs1 o
  cases oo
  rename_i a xs h1 h2
  exact ⟨_, ds.length, rfl, .inr ⟨xs, SqT.of (s.sh _ _ h1), h2.len.symm⟩, k.val s q (.int _)⟩
theorem wC_lenC {ns : List Int} (q : Q (.sh (.int (ns.length : Nat))) G) : wC K Z (cLen K) [.sh (.scr ns)] G Q := fun F S0 S σ H Qr vs s z o k => by
  obtain ⟨v, rfl, oo⟩ := fs1 o
  cases oo
  rename_i a h1
  exact ⟨_, ns.length, rfl, .inl ⟨_, s.sh.seq h1, by simp⟩, k.val s q (.int _)⟩
theorem wC_intB {b : Bool} (q : Q (.sh (.int (if b then 1 else 0))) G) : wC K Z cInt [.sh (.bl b)] G Q := fun F S0 S σ H Qr vs s z o k => by
  obtain ⟨v, rfl, oo⟩ := fs1 o
  cases oo
  exact .inr ⟨b, rfl, k.val s q (.int _)⟩
theorem wC_list {x : R} {ds : List D} (h : lv G x = some ds) (q : ∀ a, Q (.ow a (.lst ds)) G) : wC K Z (cList K) [x] G Q := fun F S0 S σ H Qr vs s z o k => by
  obtain ⟨v, rfl, oo⟩ := fs1 o
  obtain ⟨a, xs, rfl, h1, h2⟩ := lv_ok h s oo
  refine ⟨a, xs, rfl, .inl (SqL.of h1), fun p hp => ?_⟩
  obtain ⟨s2, g1, g2, g3⟩ := s.newow (o := .lst xs) hp
  exact k _ _ _ _ _ (q p) (Same.refl _) s2 ⟨rfl, g1, g2, ⟨_, upd_same, h2⟩, g3⟩
theorem wC_tuple {x : R} {ds : List D} (h : lv G x = some ds) (q : Q (.sh (.tup ds)) G) : wC K Z (cTuple K) [x] G Q := fun F S0 S σ H Qr vs s z o k => by
  obtain ⟨v, rfl, oo⟩ := fs1 o
  obtain ⟨a, xs, rfl, h1, h2⟩ := lv_ok h s oo
  refine ⟨a, xs, rfl, .inl ⟨SqL.of h1, fun p hp => ?_⟩⟩
  obtain ⟨m2, s2⟩ := s.newsh (o := .tup xs) hp
  exact k _ _ _ _ _ q m2 s2 (Rep.tup upd_same (h2.mono m2))
theorem wC_max {i j : Int} (q : Q (.sh (.int (if j > i then j else i))) G) : wC K Z cMax2 [.sh (.int i), .sh (.int j)] G Q := fun F S0 S σ H Qr vs s z o k => by
  obtain ⟨v, u, rfl, o1, o2⟩ := fs2 o
  cases o1; cases o2
  exact ⟨i, j, rfl, k.val s q (.int _)⟩
theorem wC_min {i j : Int} (q : Q (.sh (.int (if j < i then j else i))) G) : wC K Z cMin2 [.sh (.int i), .sh (.int j)] G Q := fun F S0 S σ H Qr vs s z o k => by
  obtain ⟨v, u, rfl, o1, o2⟩ := fs2 o
  cases o1; cases o2
  exact ⟨i, j, rfl, k.val s q (.int _)⟩
theorem repA_bls {vs : List V} : ∀ {bs : List Bool}, RepA K S vs (bs.map D.bl) → vs = bs.map V.bl := fun {bs} => by
  induction bs generalizing vs with
  | nil => intro h; cases h; rfl
  | cons b bs ih =>
    intro h
    cases h with
    | cons a r => cases a; rw [ih r]; rfl
theorem repA_ints {vs : List V} : ∀ {bs : List Int}, RepA K S vs (bs.map D.int) → vs = bs.map V.int := fun {bs} => by
  induction bs generalizing vs with
  | nil => intro h; cases h; rfl
  | cons b bs ih =>
    intro h
    cases h with
    | cons a r => cases a; rw [ih r]; rfl
theorem repA_txs {vs : List V} : ∀ {ls : List (List Nat)}, RepA K S vs (ls.map tx) → vs = (ls.map mk).map V.str := fun {ls} => by
  induction ls generalizing vs with
  | nil => intro h; cases h; rfl
  | cons b bs ih =>
    intro h
    cases h with
    | cons a r => cases a; rw [ih r]; rfl
theorem wC_all {x : R} {bs : List Bool} (h : lv G x = some (bs.map D.bl)) (q : Q (.sh (.bl (bs.all id))) G) : wC K Z (rAll K) [x] G Q := fun F S0 S σ H Qr vs s z o k => by
  obtain ⟨v, rfl, oo⟩ := fs1 o
  obtain ⟨a, xs, rfl, h1, h2⟩ := lv_ok h s oo
  have e := repA_bls h2
  subst e
  exact ⟨a, bs, rfl, SqL.of h1, k.val s q (.bl _)⟩
def IsMin (m : Int) (ns : List Int) : Prop := m ∈ ns ∧ ∀ y ∈ ns, m ≤ y
theorem wC_minL {x : R} {ns : List Int} (h : lv G x = some (ns.map D.int)) (hl : 0 < ns.length) (q : ∀ m, IsMin m ns → Q (.sh (.int m)) G) : wC K Z (rMin K) [x] G Q := fun F S0 S σ H Qr vs s z o k => by
  obtain ⟨v, rfl, oo⟩ := fs1 o
  obtain ⟨a, xs, rfl, h1, h2⟩ := lv_ok h s oo
  have e := repA_ints h2
  subst e
  exact ⟨a, ns, rfl, SqL.of h1, hl, fun m hm hle => k.val s (q m ⟨hm, hle⟩) (.int _)⟩
def tyn : D → String
  | .non => "NoneType" | .bl _ => "bool" | .int _ => "int" | .str _ => "str" | .tup _ => "tuple" | .lst _ => "list" | .dT _ => "dict" | .dK _ => "dict" | .scr _ => "" | .ty _ => "" | .ref _ => ""
theorem tyn_rep {v : V} {d : D} (r : Rep K H v d) (h1 : ∀ ns, d ≠ .scr ns) (h2 : ∀ n, d ≠ .ty n) (h3 : ∀ k, d ≠ .dT k) (h4 : ∀ a, d ≠ .ref a) : TyX K H v (.type (tyn d)) := by
  cases r with
  | non => exact .base .non
  | bl b => exact .base (.bl b)
  | int i => exact .base (.int i)
  | str x => exact .base (.str x)
  | tup a b => exact .base (.tup a)
  | lst a b => exact .base (.lst a)
  | dT a => exact absurd rfl (h3 _)
  | dK a => exact .base (.dK a)
  | scr a => exact absurd rfl (h1 _)
  | ty n => exact absurd rfl (h2 _)
  | ref a => exact absurd rfl (h4 _)
def isPl : D → Bool
  | .scr _ => false | .ty _ => false | .dT _ => false | .ref _ => false | _ => true
theorem wC_isi {x : R} {d : D} {T : String} {b : Bool} (h : dv G x = some d) (hp : isPl d = true) (hb : kitB (tyn d) T = some b) (q : Q (.sh (.bl b)) G) :
    wC K Z (rIsi K) [x, .sh (.ty T)] G Q := fun F S0 S σ H Qr vs s z o k => by
  obtain ⟨v, u, rfl, o1, o2⟩ := fs2 o
  cases o2
  exact ⟨v, .ty T, .type (tyn d), .type T, b, rfl, .ty T, tyn_rep (dv_rep h s o1) (fun ns e => by subst e; cases hp) (fun n e => by subst e; cases hp) (fun n e => by subst e; cases hp) (fun n e => by subst e; cases hp), kit_ty hb, k.val s q (.bl _)⟩
/-! ### in -/
def eqF : D → D → Bool
  | .non, .non => true
  | .bl a, .bl b => a == b
  | .bl a, .int b => (if a then 1 else 0) == b
  | .int a, .bl b => a == (if b then 1 else 0)
  | .int a, .int b => a == b
  | .str a, .str b => a == b
  | _, _ => false
def flatD : D → Bool
  | .non => true | .bl _ => true | .int _ => true | .str _ => true | _ => false
theorem flat_rep {v : V} {d : D} (h : flatD d = true) (r : Rep K S v d) : flatV v = true := by
  cases r <;> first | rfl | cases h
theorem eqF_rep {v u : V} {d e : D} (r : Rep K S v d) (r' : Rep K S u e) (h : flatD d = true) (h' : flatD e = true) : eqV v u = eqF d e := by
  cases r <;> cases r' <;> first | rfl | cases h | cases h'
theorem inF_rep {v : V} {d : D} {vs : List V} {ds : List D} (r : Rep K S v d) (rs : RepA K S vs ds) (h : flatD d = true) (h' : ds.all flatD = true) : vs.all flatV = true ∧ inV v vs = ds.any fun e => eqF e d := by
  induction ds generalizing vs with
  | nil => cases rs; exact ⟨rfl, rfl⟩
  | cons e ds ih =>
    cases rs with
    | cons a b =>
      have hh := Bool.and_eq_true_iff.mp h'
      obtain ⟨i1, i2⟩ := ih b hh.2
      refine ⟨?_, ?_⟩
      · rw [List.all_cons, flat_rep hh.1 a, i1]; rfl
      · unfold inV at i2 ⊢
        rw [List.any_cons, List.any_cons, eqF_rep a r hh.1 h, i2]
theorem wR_in {neg : Bool} {d : D} {y : R} {ds : List D} (h : lv G y = some ds ∨ y = .sh (.tup ds)) (hx : flatD d = true) (ha : ds.all flatD = true) (q : Q (.sh (.bl (if neg then !(ds.any fun e => eqF e d) else ds.any fun e => eqF e d))) G) :
    wR K Z (rIn K neg) (.sh d) y G Q := fun F S0 S σ H Qr v u s z o1 o2 k => by
  have fin : ∀ {a : Addr} {xs : List V}, u = .ref a → (SqL K H a xs ∨ SqT K H a xs) → RepA K S xs ds → rIn K neg v u H Qr := fun {a xs} hu hq hr => by
    obtain ⟨f1, f2⟩ := inF_rep o1 hr hx ha
    refine ⟨a, xs, hu, hq, flat_rep hx o1, f1, ?_⟩
    rw [f2]
    exact k.val s q (.bl _)
  rcases h with h | h
  · obtain ⟨a, xs, rfl, h1, h2⟩ := lv_ok h s o2
    exact fin rfl (.inl (SqL.of h1)) h2
  · subst h
    cases o2
    rename_i a xs h1 h2
    exact fin rfl (.inr (SqT.of (s.sh _ _ h1))) h2
theorem any_txs (l : List Nat) (ls : List (List Nat)) : ((ls.map tx).any fun e => eqF e (tx l)) = decide (l ∈ ls) := by
  induction ls with
  | nil => rfl
  | cons m ls ih =>
    rw [List.map_cons, List.any_cons, ih]
    have e : eqF (tx m) (tx l) = decide (l = m) := by
      show (mk m == mk l) = _
      by_cases h : l = m
      · subst h; simp
      · have h' : ¬ mk m = mk l := fun e => h (mk_inj.mp e).symm
        rw [decide_eq_false h]
        exact beq_eq_false_iff_ne.mpr h'
    rw [e]
    by_cases h : l = m
    · simp [h]
    · simp [h]
theorem all_txs (ls : List (List Nat)) : (ls.map tx).all flatD = true := by
  induction ls with
  | nil => rfl
  | cons m ls ih => rw [List.map_cons, List.all_cons, ih]; rfl
theorem wR_inT {l : List Nat} {y : R} {ls : List (List Nat)} (h : lv G y = some (ls.map tx)) (q : Q (.sh (.bl (decide (l ∈ ls)))) G) : wR K Z (rIn K false) (.sh (tx l)) y G Q :=
  wR_in (.inl h) rfl (all_txs ls) (by rw [any_txs]; exact q)
theorem wR_ninT {l : List Nat} {y : R} {ls : List (List Nat)} (h : lv G y = some (ls.map tx)) (q : Q (.sh (.bl (!decide (l ∈ ls)))) G) : wR K Z (rIn K true) (.sh (tx l)) y G Q :=
  wR_in (.inl h) rfl (all_txs ls) (by rw [any_txs]; exact q)
/-! ### methods of texts -/
theorem wE_m1 {r : V → List V → Hp → VK → Prop} {to te : TE} (h : wE K Z to G fun x G1 => (∃ l, x = .sh (tx l)) ∧ wE K Z te G1 fun y G2 => wM K Z r (fz x) [fz y] G2 Q) : wE K Z (tM1 r to te) G Q := fun F S0 S σ H Qr s z k =>
  h F S0 S σ H _ s z fun x G1 v S1 H1 h1 m1 s1 o1 => by
    obtain ⟨⟨l, rfl⟩, h1⟩ := h1
    cases o1
    refine ⟨⟨_, rfl⟩, evF h1 s1 z fun y G2 u S2 H2 h2 m2 s2 o2 => ?_⟩
    exact h2 F S0 S2 σ H2 Qr _ _ s2 z (.str _) (.cons o2 .nil) (k.from (m1.trans m2))
theorem wE_m0 {r : V → List V → Hp → VK → Prop} {to : TE} (h : wE K Z to G fun x G1 => (∃ l, x = .sh (tx l)) ∧ wM K Z r (fz x) [] G1 Q) : wE K Z (tM0 r to) G Q := fun F S0 S σ H Qr s z k =>
  h F S0 S σ H _ s z fun x G1 v S1 H1 h1 m1 s1 o1 => by
    obtain ⟨⟨l, rfl⟩, h1⟩ := h1
    cases o1
    exact ⟨⟨_, rfl⟩, h1 F S0 S1 σ H1 Qr _ _ s1 z (.str _) .nil (k.from m1)⟩
theorem joinL_nil : ∀ ls : List (List Nat), TL.joinL [] ls = ls.flatten
  | [] => rfl
  | [p] => by simp [TL.joinL]
  | p :: q :: r => by
    show p ++ ([] ++ TL.joinL [] (q :: r)) = _
    rw [joinL_nil (q :: r)]
    simp
theorem wM_join {x : R} {ls : List (List Nat)} (h : lv G x = some (ls.map tx)) (hl : (ls.map List.length).sum ≤ 1000000) (q : Q (.sh (tx ls.flatten)) G) : wM K Z (mJoin K) (.sh (tx [])) [x] G Q := fun F S0 S σ H Qr v vs s z o os k => by
  cases o
  obtain ⟨u, rfl, o2⟩ := fs1 os
  obtain ⟨a, xs, rfl, h1, h2⟩ := lv_ok h s o2
  have e := repA_txs h2
  subst e
  refine ⟨mk [], a, ls.map mk, rfl, rfl, .inl (SqL.of h1), ?_, k.val s q ?_⟩
  · have e1 : (List.map (fun s : Str => s.length) (ls.map mk)) = ls.map List.length := by
      rw [List.map_map]; exact List.map_congr_left fun l _ => mk_len l
    rw [e1, mk_len]
    simp only [List.length_nil, Nat.mul_zero, Nat.add_zero]
    exact Nat.le_trans hl (by decide)
  · have e1 : Txt.join (mk []) (ls.map mk) = mk ls.flatten := by
      rw [TL.join_eq]
      refine TL.ext_tl ?_
      rw [TL.tl_join]
      show TL.joinL [] ((ls.map mk).map TL.tl) = ls.flatten
      rw [List.map_map, show (TL.tl ∘ mk) = id from rfl, List.map_id, joinL_nil]
    rw [e1]
    exact .str _
theorem wM_findRaw {l m : List Nat} (q : Q (.sh (.int (Txt.find (mk l) (mk m)))) G) : wM K Z mFind (.sh (tx l)) [.sh (tx m)] G Q := fun F S0 S σ H Qr v vs s z o os k => by
  cases o
  obtain ⟨u, rfl, o2⟩ := fs1 os
  cases o2
  exact ⟨_, _, rfl, rfl, k.val s q (.int _)⟩
theorem wM_lowerRaw {l m : List Nat} (hl : l.length ≤ 1000000) (e : Txt.lower (mk l) = mk m) (q : Q (.sh (tx m)) G) : wM K Z mLower (.sh (tx l)) [] G Q := fun F S0 S σ H Qr v vs s z o os k => by
  cases o
  cases os
  exact ⟨_, rfl, rfl, by rw [mk_len]; exact Nat.le_trans hl (by decide), k.val s q (by rw [e]; exact .str _)⟩
/-! ### dicts -/
def keyD : D → Option Key
  | .int i => some (.inl i)
  | .str x => some (.inr x)
  | _ => none
def keysD : List D → Option (List Key)
  | [] => some []
  | d :: ds => match keyD d with
    | some k => match keysD ds with
      | some ks => some (k :: ks)
      | none => none
    | none => none
theorem keyD_rep {v : V} {d : D} {k : Key} (h : keyD d = some k) (r : Rep K S v d) : v = kV k := by
  cases r <;> simp [keyD] at h <;> subst h <;> rfl
theorem keysD_rep : ∀ {ds : List D} {vs : List V} {k : List Key}, keysD ds = some k → RepA K S vs ds → vs = k.map kV
  | [], _, _, h, .nil => by cases h; rfl
  | d :: ds, _, _, h, .cons r rs => by
    simp only [keysD] at h
    split at h
    · rename_i k0 h1
      split at h
      · rename_i ks h2
        cases h
        rw [keyD_rep h1 r, keysD_rep h2 rs]; rfl
      · cases h
    · cases h
/-- what a dict is read as -/
inductive DD where
  | t (kvs : List (List Key × V)) | k (kvs : List (Key × V))
def dd (G : Sl) (r : R) : Option DD := match dv G r with
  | some (.dT kvs) => some (.t kvs)
  | some (.dK kvs) => some (.k kvs)
  | _ => none
/-- what it holds at a key -/
def look : DD → D → Option (Option V)
  | .t kvs, .tup ds => (keysD ds).map fun k => valV kvs k
  | .k kvs, d => (keyD d).map fun k => valV kvs k
  | _, _ => none
theorem look_rep {r : R} {x y : V} {d : D} {m : DD} {o : Option V} (h : dd G r = some m) (hl : look m d = some o) (s : Sat K F S0 G S σ H) (ox : FOk K S σ r x) (oy : Rep K S y d) : ∃ a, x = .ref a ∧ IsD H a ∧ DGet H a y o := by
  unfold dd at h
  split at h
  · rename_i kvs e
    cases h
    have rp := dv_rep e s ox
    cases rp
    rename_i a h1
    cases oy <;> simp only [look] at hl <;> first | cases hl | skip
    rename_i b xs ds h2 h3
    obtain ⟨k, hk, rfl⟩ := Option.map_eq_some_iff.mp hl
    have e3 := keysD_rep hk h3
    subst e3
    exact ⟨a, rfl, .inr ⟨kvs, h1⟩, .inr ⟨kvs, k, b, h1, rfl, s.sh _ _ h2, rfl⟩⟩
  · rename_i kvs e
    cases h
    have rp := dv_rep e s ox
    cases rp
    rename_i a h1
    obtain ⟨k, hk, rfl⟩ := Option.map_eq_some_iff.mp (show (keyD d).map (fun k => valV kvs k) = some o from hl)
    exact ⟨a, rfl, .inl ⟨kvs, .inl h1⟩, .inl ⟨kvs, k, .inl h1, keyD_rep hk oy, rfl⟩⟩
  · cases h
theorem wE_dget {td ty : TE} (h : wE K Z td G fun x G1 => wE K Z ty G1 fun y G2 => ∃ m d v e, dd G2 (fz x) = some m ∧ fz y = .sh d ∧ look m d = some (some v) ∧ vD v = some e ∧ Q (.sh e) G2) : wE K Z (tDGet td ty) G Q := fun F S0 S σ H Qr s z k =>
  evF h s z fun x G1 v S1 H1 h1 m1 s1 o1 => evF h1 s1 z fun y G2 u S2 H2 h2 m2 s2 o2 => by
    obtain ⟨m, d, w, e, e1, e2, e3, e4, q⟩ := h2
    rw [e2] at o2
    obtain ⟨a, rfl, _, g⟩ := look_rep e1 e3 s2 (o1.mono m2) o2
    exact ⟨a, w, rfl, g, (k.from (m1.trans m2)).val s2 q (vD_rep e4)⟩
theorem wE_dget1 {td ty : TE} (h : wE K Z td G fun x G1 => (∃ m, dd G1 (fz x) = some m) ∧ wE K Z ty G1 fun y G2 => ∃ m d o e, dd G2 (fz x) = some m ∧ fz y = .sh d ∧ look m d = some o ∧ vD (o.getD .non) = some e ∧ Q (.sh e) G2) : wE K Z (tDGet1 td ty) G Q := fun F S0 S σ H Qr s z k =>
  evF h s z fun x G1 v S1 H1 h1 m1 s1 o1 => by
    obtain ⟨⟨m0, e0⟩, h1⟩ := h1
    have hd : ∃ a, v = .ref a ∧ IsD H1 a := by
      unfold dd at e0
      split at e0
      · rename_i kvs e
        have rp := dv_rep e s1 o1
        cases rp
        rename_i a h1
        exact ⟨a, rfl, .inr ⟨kvs, h1⟩⟩
      · rename_i kvs e
        have rp := dv_rep e s1 o1
        cases rp
        rename_i a h1
        exact ⟨a, rfl, .inl ⟨kvs, .inl h1⟩⟩
      · cases e0
    obtain ⟨a, rfl, hd⟩ := hd
    refine ⟨a, rfl, hd, evF h1 s1 z fun y G2 u S2 H2 h2 m2 s2 o2 => ?_⟩
    obtain ⟨m, d, o, e, e1, e2, e3, e4, q⟩ := h2
    rw [e2] at o2
    obtain ⟨b, eb, _, g⟩ := look_rep e1 e3 s2 (o1.mono m2) o2
    cases eb
    exact ⟨o, g, (k.from (m1.trans m2)).val s2 q (vD_rep e4)⟩
theorem wE_din {td ty : TE} (h : wE K Z ty G fun y G1 => wE K Z td G1 fun x G2 => ∃ m d o, dd G2 (fz x) = some m ∧ fz y = .sh d ∧ look m d = some o ∧ Q (.sh (.bl o.isSome)) G2) : wE K Z (tDIn ty td) G Q := fun F S0 S σ H Qr s z k =>
  evF h s z fun y G1 u S1 H1 h1 m1 s1 o1 => evF h1 s1 z fun x G2 v S2 H2 h2 m2 s2 o2 => by
    obtain ⟨m, d, o, e1, e2, e3, q⟩ := h2
    rw [e2] at o1
    obtain ⟨a, rfl, _, g⟩ := look_rep e1 e3 s2 o2 (Rep.mono m2 o1)
    exact ⟨a, o, rfl, g, (k.from (m1.trans m2)).val s2 q (.bl _)⟩
theorem wE_dnin {td ty : TE} (h : wE K Z ty G fun y G1 => wE K Z td G1 fun x G2 => ∃ m d o, dd G2 (fz x) = some m ∧ fz y = .sh d ∧ look m d = some o ∧ Q (.sh (.bl (!o.isSome))) G2) : wE K Z (tDNotIn ty td) G Q := fun F S0 S σ H Qr s z k =>
  evF h s z fun y G1 u S1 H1 h1 m1 s1 o1 => evF h1 s1 z fun x G2 v S2 H2 h2 m2 s2 o2 => by
    obtain ⟨m, d, o, e1, e2, e3, q⟩ := h2
    rw [e2] at o1
    obtain ⟨a, rfl, _, g⟩ := look_rep e1 e3 s2 o2 (Rep.mono m2 o1)
    exact ⟨a, o, rfl, g, (k.from (m1.trans m2)).val s2 q (.bl _)⟩
theorem wE_dnewT (q : ∀ a, Q (.ow a (.dT [])) G) : wE K Z tDNewT G Q := fun F S0 S σ H Qr s z k p hp => by
  obtain ⟨s2, g1, g2, g3⟩ := s.newow (o := .dT []) hp
  exact k _ _ _ _ _ (q p) (Same.refl _) s2 ⟨rfl, g1, g2, upd_same, g3⟩
theorem wE_dnewK (q : ∀ a, Q (.ow a (.dK [])) G) : wE K Z tDNewK G Q := fun F S0 S σ H Qr s z k p hp => by
  obtain ⟨s2, g1, g2, g3⟩ := s.newow (o := .dK []) hp
  exact k _ _ _ _ _ (q p) (Same.refl _) s2 ⟨rfl, g1, g2, upd_same, g3⟩
/-! ### lists changed -/
theorem RepA.last {vs : List V} {ds : List D} {d : D} (r : RepA K S vs (ds ++ [d])) : ∃ v, vs[vs.length - 1]? = some v ∧ Rep K S v d ∧ RepA K S vs.dropLast ds := by
  have e : (ds ++ [d])[ds.length]? = some d := by simp
  obtain ⟨v, h1, h2⟩ := r.get e
  have hl := r.len
  rw [List.length_append, List.length_singleton] at hl
  refine ⟨v, by rw [hl, Nat.add_sub_cancel]; exact h1, h2, ?_⟩
  have := r.dropLast
  rwa [List.dropLast_concat] at this
theorem wE_pop {j : Nat} {a : Addr} {ds : List D} {d : D} (h : G[j]? = some (.ow a (.lst (ds ++ [d])))) (q : Q (.sh d) (G.set j (.ow a (.lst ds)))) : wE K Z (tBM0 K "list" rPop (tVar j)) G Q := fun F S0 S σ H Qr s z k => by
  obtain ⟨e, h1, h2, vs, h3, h4⟩ := s.val j _ h
  obtain ⟨v, g1, g2, g3⟩ := h4.last
  refine ⟨_, e, .inl ⟨rfl, _, SqL.of h3⟩, a, vs, v, rfl, rfl, h3, g1, ?_⟩
  exact k _ _ _ _ _ q (Same.refl _) (s.mut h ⟨_, upd_same, g3⟩) g2
end
end PL

/-! PO: statements, loops, comprehensions, calls, a def's promise. -/
namespace PL
open PySem L2

/-- a result goes to slot i -/
def rput (r : R) (i : Nat) (G : Sl) (Q : Sl → Prop) : Prop :=
  Nat.blt i G.length = true ∧ match r with
  | .sh d => Q (G.set i (.sh d))
  | .ow a m => Q (G.set i (.ow a m))
  | .bo j => match G[j]? with
    | some (.ow _ m) => Q ((G.set j (.sh m.toD)).set i (.sh m.toD))
    | _ => False
def rsh : R → Option D
  | .sh d => some d
  | .ow _ m => some m.toD
  | .bo _ => none

section
variable {K : PySem.W.Frag} {Z : Ec} {F S0 S S' : Hp} {G : Sl} {σ : L2.St} {H H' : Hp} {Q : R → Sl → Prop} {P : Po}
theorem blt_lt {i n : Nat} (h : Nat.blt i n = true) : i < n := Nat.lt_of_lt_of_eq (Nat.le_of_ble_eq_true h) rfl
theorem rput_ok {r : R} {i : Nat} {Q : Sl → Prop} {v : V} {Qr : L2.St → Hp → Prop} (h : rput r i G Q) (s : Sat K F S0 G S σ H) (o : ROk K F S H G σ r v)
    (k : ∀ G' S' σ' H', Q G' → Same S S' → Sat K F S0 G' S' σ' H' → Qr σ' H') : Qr (σ.set i (some v)) H := by
  obtain ⟨hi, h⟩ := h
  have hi := blt_lt hi
  cases r with
  | sh d => exact k _ S _ _ h (Same.refl _) (s.setSh hi o)
  | ow a m =>
    obtain ⟨rfl, h1, h2, h3, h4⟩ := o
    exact k _ S _ _ h (Same.refl _) (s.setOw hi h1 h2 h3 h4)
  | bo j =>
    simp only at h
    split at h
    · rename_i a m e
      obtain ⟨e1, _⟩ := s.val j _ e
      have o' : σ[j]? = some (some v) := o
      rw [e1] at o'
      cases o'
      obtain ⟨S', m1, s1, r1⟩ := s.fzSlot e
      exact k _ S' _ _ h m1 (s1.setSh (by simpa using hi) r1)
    · exact h.elim

/-! ### statements -/
theorem wS_nil (h : P.nx G) : wS K Z tNext G P := fun F S0 S σ H D s z k => k.nx G S σ H h (Same.refl _) s
theorem wS_seq {t u : TS} (h : wS K Z t G { P with nx := fun G1 => wS K Z u G1 P }) : wS K Z (tSeq t u) G P := fun F S0 S σ H D s z k =>
  h F S0 S σ H _ s z ⟨fun G' S' σ' H' q m s' => q F S0 S' σ' H' D s' z (k.from m), k.rt, k.bk, k.ct⟩
/-- a word between two statements -/
theorem wS_cut {ts : TS} (M : Sl → Prop) (h : wS K Z ts G { P with nx := M }) (k : ∀ G', M G' → P.nx G') : wS K Z ts G P := h.mono k (fun _ _ q => q) (fun _ q => q) (fun _ q => q)
theorem wS_asg {te : TE} {i : Nat} (h : wE K Z te G fun r G1 => rput r i G1 P.nx) : wS K Z (tAsg te (gName i)) G P := fun F S0 S σ H D s z k =>
  h F S0 S σ H _ s z fun r G' v S' H' q m s' o => rput_ok (Qr := D.nx) q s' o fun G2 S2 σ2 H2 q2 m2 s2 => k.nx G2 S2 σ2 H2 q2 (m.trans m2) s2
/-- any target -/
theorem wS_asgG {te : TE} {g : TG} (h : wE K Z te G fun r G1 => ∃ d, rsh r = some d ∧ wG K g d G1 P.nx) : wS K Z (tAsg te g) G P := fun F S0 S σ H D s z k =>
  evF h s z fun r G' v S' H' q m s' o => by
    obtain ⟨d, e, q⟩ := q
    have r' : Rep K S' v d := by
      cases r with
      | sh d' => cases e; exact o
      | ow a m => cases e; exact o
      | bo i => cases e
    exact q F S0 S' σ H' v _ s' r' fun G2 S2 σ2 H2 q2 m2 s2 => k.nx G2 S2 σ2 H2 q2 (m.trans m2) s2
theorem wG_name {i : Nat} {d : D} {Q : Sl → Prop} (q : Nat.blt i G.length = true ∧ Q (G.set i (.sh d))) : wG K (gName i) d G Q := fun F S0 S σ H v Qr s r k =>
  k _ S _ _ q.2 (Same.refl _) (s.setSh (blt_lt q.1) r)
theorem wGs_nil {Q : Sl → Prop} (q : Q G) : wGs K gNil [] G Q := fun F S0 S σ H vs Qr s r k => by
  cases r
  exact ⟨rfl, k G S σ H q (Same.refl _) s⟩
theorem wGs_cons {g : TG} {gs : TGs} {d : D} {ds : List D} {Q : Sl → Prop} (h : wG K g d G fun G1 => wGs K gs ds G1 Q) : wGs K (gCons g gs) (d :: ds) G Q := fun F S0 S σ H vs Qr s r k => by
  cases r with
  | cons a b =>
    rename_i v vs
    refine ⟨v, vs, rfl, h F S0 S σ H v _ s a fun G1 S1 σ1 H1 q1 m1 s1 => ?_⟩
    exact q1 F S0 S1 σ1 H1 vs Qr s1 (b.mono m1) fun G2 S2 σ2 H2 q2 m2 s2 => k G2 S2 σ2 H2 q2 (m1.trans m2) s2
theorem wG_tup {n : Nat} {gs : TGs} {ds : List D} {Q : Sl → Prop} (h : Nat.beq ds.length n = true ∧ wGs K gs ds G Q) : wG K (gTup K n gs) (.tup ds) G Q := fun F S0 S σ H v Qr s r k => by
  cases r
  rename_i a xs h1 h2
  exact ⟨a, xs, rfl, SqT.of (s.sh _ _ h1), h2.len.trans (Nat.eq_of_beq_eq_true h.1), h.2 F S0 S σ H xs Qr s h2 k⟩
theorem wS_drop {te : TE} (h : wE K Z te G fun r G1 => P.nx G1) : wS K Z (tDrop te) G P := fun F S0 S σ H D s z k =>
  h F S0 S σ H _ s z fun r G' v S' H' q m s' o => k.nx G' S' σ H' q m s'
theorem wS_ret {te : TE} (h : wE K Z te G P.rt) : wS K Z (tRet te) G P := fun F S0 S σ H D s z k =>
  h F S0 S σ H _ s z fun r G' v S' H' q m s' o => k.rt r G' v S' σ H' q m s' o
/-- hand back an owned object -/
theorem wS_retO {i : Nat} {a : Addr} {m : Mo} (h : G[i]? = some (.ow a m)) (q : P.rt (.ow a m) (G.set i .no)) : wS K Z (tRet (tVar i)) G P := fun F S0 S σ H D s z k => by
  obtain ⟨e, h1, h2, h3⟩ := s.val i _ h
  refine ⟨_, e, k.rt _ (G.set i .no) _ S σ H q (Same.refl _) s.forget ⟨rfl, h1, h2, h3, fun j m' e' => ?_⟩⟩
  by_cases hj : j = i
  · subst hj
    rw [List.getElem?_set_self (List.getElem?_eq_some_iff.mp h).1] at e'; cases e'
  · rw [List.getElem?_set_ne (Ne.symm hj)] at e'
    exact hj (s.sep _ _ _ _ _ e' h)
theorem wS_retN (q : P.rt (.sh .non) G) : wS K Z tRetN G P := fun F S0 S σ H D s z k => k.rt _ G _ S σ H q (Same.refl _) s .non
theorem wS_if {c : TT} {t u : TS} (h : wT K Z c G fun b G1 => (b = true → wS K Z t G1 P) ∧ (b = false → wS K Z u G1 P)) : wS K Z (tIfS c t u) G P := fun F S0 S σ H D s z k =>
  h F S0 S σ H _ s z fun b G' S' H' q m s' => by
    cases b with
    | true => exact q.1 rfl F S0 S' σ H' D s' z (k.from m)
    | false => exact q.2 rfl F S0 S' σ H' D s' z (k.from m)
theorem wS_brk (q : P.bk G) : wS K Z tBreak G P := fun F S0 S σ H D s z k => k.bk G S σ H q (Same.refl _) s
theorem wS_cont (q : P.ct G) : wS K Z tCont G P := fun F S0 S σ H D s z k => k.ct G S σ H q (Same.refl _) s
theorem wS_raise {cls : Value} (q : Z.X cls) : wS K Z (tRaise Z.E cls) G P := fun F S0 S σ H D s z k => z cls H q s.fr
/-- l.append(e), l an owned list in slot i -/
theorem wS_app {i : Nat} {a : Addr} {ds0 : List D} {te : TE} (h0 : G[i]? = some (.ow a (.lst ds0))) (h : wE K Z te G fun r G1 => ∃ ds d, G1[i]? = some (.ow a (.lst ds)) ∧ rsh r = some d ∧ ds.length ≤ 1000000 ∧ P.nx (G1.set i (.ow a (.lst (ds ++ [d]))))) :
    wS K Z (tDrop (tBM K "list" rAppend (tVar i) (tCons te tNil))) G P := fun F S0 S σ H D s z k => by
  obtain ⟨e, _, _, vs0, g1, _⟩ := s.val i _ h0
  refine ⟨_, e, .inl ⟨rfl, _, SqL.of g1⟩, evF h s z fun r G1 v S1 H1 q m s1 o => ?_⟩
  obtain ⟨ds, d, h1, e2, hl, q⟩ := q
  obtain ⟨e', _, _, vs, g3, g4⟩ := s1.val i _ h1
  have r' : Rep K S1 v d := by
    cases r with
    | sh d' => cases e2; exact o
    | ow a m => cases e2; exact o
    | bo i => cases e2
  refine ⟨a, vs, v, rfl, rfl, g3, by rw [g4.len]; exact line_lt hl, k.nx _ S1 σ _ q m (s1.mut h1 ⟨_, upd_same, g4.append (.cons r' .nil)⟩)⟩
/-- l.reverse(), l.clear() -/
theorem wS_rev {i : Nat} {a : Addr} {ds : List D} (h0 : G[i]? = some (.ow a (.lst ds))) (q : P.nx (G.set i (.ow a (.lst ds.reverse)))) : wS K Z (tDrop (tBM0 K "list" rReverse (tVar i))) G P := fun F S0 S σ H D s z k => by
  obtain ⟨e, _, _, vs, g3, g4⟩ := s.val i _ h0
  exact ⟨_, e, .inl ⟨rfl, _, SqL.of g3⟩, a, vs, rfl, rfl, g3, k.nx _ S σ _ q (Same.refl _) (s.mut h0 ⟨_, upd_same, g4.rev⟩)⟩
theorem wS_clear {i : Nat} {a : Addr} {ds : List D} (h0 : G[i]? = some (.ow a (.lst ds))) (q : P.nx (G.set i (.ow a (.lst [])))) : wS K Z (tDrop (tBM0 K "list" rClear (tVar i))) G P := fun F S0 S σ H D s z k => by
  obtain ⟨e, _, _, vs, g3, g4⟩ := s.val i _ h0
  exact ⟨_, e, .inl ⟨rfl, _, SqL.of g3⟩, a, vs, rfl, rfl, g3, k.nx _ S σ _ q (Same.refl _) (s.mut h0 ⟨_, upd_same, .nil⟩)⟩
/-- l[j] = e -/
theorem wS_setL {i : Nat} {a : Addr} {ds0 : List D} {te ti : TE} (h : wE K Z te G fun r G1 => ∃ d, rsh r = some d ∧ G1[i]? = some (.ow a (.lst ds0)) ∧ wE K Z ti G1 fun x G2 => ∃ j n ds, x = .sh (.int j) ∧ G2[i]? = some (.ow a (.lst ds)) ∧ ixN ds.length j = some n ∧ P.nx (G2.set i (.ow a (.lst (ds.set n d))))) :
    wS K Z (tAsg te (gSub (tVar i) ti rSetL)) G P := fun F S0 S σ H D s z k =>
  evF h s z fun r G1 v S1 H1 q m s1 o => by
    obtain ⟨d, e2, h1, q⟩ := q
    obtain ⟨e, _, _, _, _, _⟩ := s1.val i _ h1
    have r' : Rep K S1 v d := by
      cases r with
      | sh d' => cases e2; exact o
      | ow a m => cases e2; exact o
      | bo i => cases e2
    refine ⟨_, e, evF q s1 z fun x G2 u S2 H2 q m2 s2 o2 => ?_⟩
    obtain ⟨j, n, ds, rfl, h2, hn, q⟩ := q
    cases o2
    obtain ⟨e', _, _, vs, g3, g4⟩ := s2.val i _ h2
    exact ⟨a, vs, j, n, rfl, rfl, g3, by rw [g4.len]; exact hn, k.nx _ S2 σ _ q (m.trans m2) (s2.mut h2 ⟨_, upd_same, g4.set n (Rep.mono m2 r')⟩)⟩
/-- d[k] = e, keys tuples -/
theorem wS_putT {i : Nat} {a : Addr} {tv ty : TE} (h : wE K Z tv G fun r G1 => ∃ w d, r = .sh d ∧ dV d = some w ∧ (∃ m, G1[i]? = some (.ow a m)) ∧ wE K Z ty G1 fun y G2 => ∃ ds ks kvs, fz y = .sh (.tup ds) ∧ keysD ds = some ks ∧ G2[i]? = some (.ow a (.dT kvs)) ∧ kvs.length ≤ 1000000 ∧ P.nx (G2.set i (.ow a (.dT (putK kvs ks w))))) :
    wS K Z (sDPut (tVar i) ty tv) G P := fun F S0 S σ H D s z k =>
  evF h s z fun r G1 v S1 H1 q m s1 o => by
    obtain ⟨w, d, rfl, hd, ⟨m0, h1⟩, q⟩ := q
    have ew := dV_rep hd o
    subst ew
    obtain ⟨e, _⟩ := s1.val i _ h1
    refine ⟨_, e, evF q s1 z fun y G2 u S2 H2 q m2 s2 o2 => ?_⟩
    obtain ⟨ds, ks, kvs, e1, e2, h2, hl, q⟩ := q
    rw [e1] at o2
    cases o2
    rename_i b xs g1 g2
    have e3 := keysD_rep e2 g2
    subst e3
    obtain ⟨e', f1, f2, f3⟩ := s2.val i _ h2
    exact ⟨a, _, rfl, DPut.t f3 (s2.sh _ _ g1) (line_lt hl), k.nx _ S2 σ _ q (m.trans m2) (s2.mut h2 upd_same)⟩
theorem wS_putK {i : Nat} {a : Addr} {tv ty : TE} (h : wE K Z tv G fun r G1 => ∃ w d, r = .sh d ∧ dV d = some w ∧ (∃ m, G1[i]? = some (.ow a m)) ∧ wE K Z ty G1 fun y G2 => ∃ e ks kvs, fz y = .sh e ∧ keyD e = some ks ∧ G2[i]? = some (.ow a (.dK kvs)) ∧ kvs.length ≤ 1000000 ∧ P.nx (G2.set i (.ow a (.dK (putK kvs ks w))))) :
    wS K Z (sDPut (tVar i) ty tv) G P := fun F S0 S σ H D s z k =>
  evF h s z fun r G1 v S1 H1 q m s1 o => by
    obtain ⟨w, d, rfl, hd, ⟨m0, h1⟩, q⟩ := q
    have ew := dV_rep hd o
    subst ew
    obtain ⟨e, _⟩ := s1.val i _ h1
    refine ⟨_, e, evF q s1 z fun y G2 u S2 H2 q m2 s2 o2 => ?_⟩
    obtain ⟨ds, ks, kvs, e1, e2, h2, hl, q⟩ := q
    rw [e1] at o2
    have e3 := keyD_rep e2 o2
    subst e3
    obtain ⟨e', f1, f2, f3⟩ := s2.val i _ h2
    exact ⟨a, _, rfl, DPut.k f3 (line_lt hl), k.nx _ S2 σ _ q (m.trans m2) (s2.mut h2 upd_same)⟩

/-! ### loops -/
theorem wS_while {c : TT} {tb : TS} (inv : Nat → Sl → Prop) (m0 : Nat) (h0 : inv m0 G) (h : ∀ m G1, inv m G1 → wT K Z c G1 fun b G2 => (b = true → wS K Z tb G2 ⟨fun G3 => ∃ m', m' < m ∧ inv m' G3, P.rt, P.nx, fun G3 => ∃ m', m' < m ∧ inv m' G3⟩) ∧ (b = false → P.nx G2)) :
    wS K Z (tWhile c tb) G P := fun F S0 S σ H D s z k => by
  refine ⟨fun m σ' H' => ∃ G' S', inv m G' ∧ Same S S' ∧ Sat K F S0 G' S' σ' H', ⟨m0, G, S, h0, Same.refl _, s⟩, ?_⟩
  rintro m σ1 H1 ⟨G1, S1, i1, m1, s1⟩
  refine h m G1 i1 F S0 S1 σ1 H1 _ s1 z fun b G2 S2 H2 q m2 s2 => ?_
  cases b with
  | true =>
    refine ⟨fun σ' H' => ∃ m' G' S', m' < m ∧ inv m' G' ∧ Same S S' ∧ Sat K F S0 G' S' σ' H', ?_, ?_⟩
    · rintro σ' H' ⟨m', G', S', hm, i', mm, s'⟩
      exact ⟨m', hm, G', S', i', mm, s'⟩
    · refine q.1 rfl F S0 S2 σ1 H2 _ s2 z ⟨?_, ?_, ?_, ?_⟩
      · rintro G3 S3 σ3 H3 ⟨m', hm, i'⟩ m3 s3
        exact ⟨m', G3, S3, hm, i', m1.trans (m2.trans m3), s3⟩
      · intro r G3 v S3 σ3 H3 q3 m3 s3 o3
        exact k.rt r G3 v S3 σ3 H3 q3 (m1.trans (m2.trans m3)) s3 o3
      · intro G3 S3 σ3 H3 q3 m3 s3
        exact k.nx G3 S3 σ3 H3 q3 (m1.trans (m2.trans m3)) s3
      · rintro G3 S3 σ3 H3 ⟨m', hm, i'⟩ m3 s3
        exact ⟨m', G3, S3, hm, i', m1.trans (m2.trans m3), s3⟩
  | false => exact k.nx G2 S2 σ1 H2 (q.2 rfl) (m1.trans m2) s2
/-- the core of a for over what stands still: items are read as data -/
theorem for_core {J : L2.It} {g : TG} {tb : TS} {En : Ends} (n : Nat) (inv : Nat → Sl → Prop) (item : Nat → D → Prop) (z : hZ Z F) (s : Sat K F S0 G S σ H) (k : POk K F S0 S P En) (h0 : inv 0 G)
    (hgo : ∀ i G' S' σ' H', i < n → inv i G' → Same S S' → Sat K F S0 G' S' σ' H' → J.go i H' ∧ ∀ x H2, J.yld i H' x H2 → H2 = H' ∧ ∃ d, item i d ∧ Rep K S' x d)
    (hstop : ∀ G' S' σ' H', inv n G' → Same S S' → Sat K F S0 G' S' σ' H' → J.stop n H')
    (hs : ∀ i d G', i < n → item i d → inv i G' → wG K g d G' fun G2 => wS K Z tb G2 ⟨inv (i + 1), P.rt, P.nx, inv (i + 1)⟩) (hd : ∀ G', inv n G' → P.nx G') :
    ∃ W : Nat → Nat → L2.St → Hp → Prop, (∃ m, W 0 m σ H) ∧ ∀ i m σ H, W i m σ H →
      (J.stop i H ∧ En.nx σ H) ∨ (J.go i H ∧ ∃ N : L2.St → Hp → Prop, (∀ σ' H', N σ' H' → ∃ m', m' < m ∧ W (i + 1) m' σ' H') ∧ ∀ x H', J.yld i H x H' → g x σ H' fun σ2 H2 => tb { En with nx := N, ct := N, bk := En.nx } σ2 H2) := by
  refine ⟨fun i m σ' H' => m = n - i ∧ i ≤ n ∧ ∃ G' S', inv i G' ∧ Same S S' ∧ Sat K F S0 G' S' σ' H', ⟨n, by simp, Nat.zero_le _, G, S, h0, Same.refl _, s⟩, ?_⟩
  rintro i m σ1 H1 ⟨rfl, hi, G1, S1, i1, m1, s1⟩
  by_cases hlt : i < n
  · obtain ⟨hg, hy⟩ := hgo i G1 S1 σ1 H1 hlt i1 m1 s1
    refine .inr ⟨hg, fun σ' H' => ∃ G' S', inv (i + 1) G' ∧ Same S S' ∧ Sat K F S0 G' S' σ' H', ?_, fun x H2 y => ?_⟩
    · rintro σ' H' ⟨G', S', i', mm, s'⟩
      exact ⟨n - (i + 1), by omega, rfl, hlt, G', S', i', mm, s'⟩
    · obtain ⟨rfl, d, hit, r⟩ := hy x H2 y
      refine hs i d G1 hlt hit i1 F S0 S1 σ1 H2 x _ s1 r fun G2 S2 σ2 H3 q2 m2 s2 => ?_
      refine q2 F S0 S2 σ2 H3 _ s2 z ⟨?_, ?_, ?_, ?_⟩
      · intro G3 S3 σ3 H3 q3 m3 s3
        exact ⟨G3, S3, q3, m1.trans (m2.trans m3), s3⟩
      · intro r G3 v S3 σ3 H3 q3 m3 s3 o3
        exact k.rt r G3 v S3 σ3 H3 q3 (m1.trans (m2.trans m3)) s3 o3
      · intro G3 S3 σ3 H3 q3 m3 s3
        exact k.nx G3 S3 σ3 H3 q3 (m1.trans (m2.trans m3)) s3
      · intro G3 S3 σ3 H3 q3 m3 s3
        exact ⟨G3, S3, q3, m1.trans (m2.trans m3), s3⟩
  · have e : i = n := by omega
    subst e
    exact .inl ⟨hstop G1 S1 σ1 H1 i1 m1 s1, k.nx G1 S1 σ1 H1 (hd G1 i1) m1 s1⟩
theorem rsh_ok {r : R} {v : V} {d : D} (e : rsh r = some d) (o : FOk K S σ (fz r) v) : Rep K S v d := by
  cases r with
  | sh d' => cases e; exact o
  | ow a m => cases e; exact o
  | bo i => cases e
theorem wS_forL {tl : TE} {g : TG} {tb : TS} (h : wE K Z tl G fun r G1 => Ask (∃ ds, rsh r = some (.lst ds) ∧ ∃ inv : Nat → Sl → Prop, inv 0 G1 ∧
    (∀ i d G2, ds[i]? = some d → inv i G2 → wG K g d G2 fun G3 => wS K Z tb G3 ⟨inv (i + 1), P.rt, P.nx, inv (i + 1)⟩) ∧ ∀ G2, inv ds.length G2 → P.nx G2)) : wS K Z (tFor (iList K tl) g tb) G P := fun F S0 S σ H D s z k =>
  evF h s z fun r G1 v S1 H1 q m1 s1 o => by
    obtain ⟨ds, e, inv, h0, hs, hd⟩ := q
    have r' := rsh_ok e o
    cases r'
    rename_i a xs h1 h2
    refine ⟨a, rfl, ⟨xs, SqL.of (s1.sh _ _ h1)⟩, for_core ds.length inv (fun i d => ds[i]? = some d) z s1 (k.from m1) h0 (fun i G' S' σ' H' hi _ m s' => ?_) (fun G' S' σ' H' _ m s' => ?_) (fun i d G' _ hi q => hs i d G' hi q) hd⟩
    · have h1' := s'.sh _ _ (m _ _ h1)
      have hi' : i < xs.length := by rw [h2.len]; exact hi
      refine ⟨⟨xs, xs[i], SqL.of h1', by simp [hi']⟩, fun x H2 y => ⟨y.1, ?_⟩⟩
      obtain ⟨d, hd, rd⟩ := h2.getV (y.2 xs (SqL.of h1'))
      exact ⟨d, hd, rd.mono m⟩
    · exact ⟨xs, SqL.of (s'.sh _ _ (m _ _ h1)), by rw [h2.len]; exact Nat.le_refl _⟩
/-- over an owned list that the body leaves as it is -/
theorem wS_forB {j : Nat} {a : Addr} {ds : List D} {g : TG} {tb : TS} (h : G[j]? = some (.ow a (.lst ds))) (inv : Nat → Sl → Prop) (hk : ∀ i G2, inv i G2 → ∃ j' : Nat, G2[j']? = some (Slot.ow a (.lst ds))) (h0 : inv 0 G)
    (hs : ∀ i d G2, ds[i]? = some d → inv i G2 → wG K g d G2 fun G3 => wS K Z tb G3 ⟨inv (i + 1), P.rt, P.nx, inv (i + 1)⟩) (hd : ∀ G2, inv ds.length G2 → P.nx G2) : wS K Z (tFor (iList K (tVar j)) g tb) G P := fun F S0 S σ H D s z k => by
  obtain ⟨e, _, _, vs, g1, g2⟩ := s.val j _ h
  refine ⟨_, e, a, rfl, ⟨vs, SqL.of g1⟩, for_core ds.length inv (fun i d => ds[i]? = some d) z s k h0 (fun i G' S' σ' H' hi iv m s' => ?_) (fun G' S' σ' H' iv m s' => ?_) (fun i d G' _ hi q => hs i d G' hi q) hd⟩
  · obtain ⟨j', hj'⟩ := hk i G' iv
    obtain ⟨_, _, _, vs', g1', g2'⟩ := s'.val j' _ hj'
    have hi' : i < vs'.length := by rw [g2'.len]; exact hi
    refine ⟨⟨vs', vs'[i], SqL.of g1', by simp [hi']⟩, fun x H2 y => ⟨y.1, ?_⟩⟩
    obtain ⟨d, hd, rd⟩ := g2'.getV (y.2 vs' (SqL.of g1'))
    exact ⟨d, hd, rd⟩
  · obtain ⟨j', hj'⟩ := hk _ G' iv
    obtain ⟨_, _, _, vs', g1', g2'⟩ := s'.val j' _ hj'
    exact ⟨vs', SqL.of g1', by rw [g2'.len]; exact Nat.le_refl _⟩
theorem wS_forT {tl : TE} {g : TG} {tb : TS} (h : wE K Z tl G fun r G1 => Ask (∃ ds, r = .sh (.tup ds) ∧ ∃ inv : Nat → Sl → Prop, inv 0 G1 ∧
    (∀ i d G2, ds[i]? = some d → inv i G2 → wG K g d G2 fun G3 => wS K Z tb G3 ⟨inv (i + 1), P.rt, P.nx, inv (i + 1)⟩) ∧ ∀ G2, inv ds.length G2 → P.nx G2)) : wS K Z (tFor (iTup K tl) g tb) G P := fun F S0 S σ H D s z k =>
  evF h s z fun r G1 v S1 H1 q m1 s1 o => by
    obtain ⟨ds, rfl, inv, h0, hs, hd⟩ := q
    cases o
    rename_i a xs h1 h2
    refine ⟨a, rfl, ⟨xs, SqT.of (s1.sh _ _ h1)⟩, for_core ds.length inv (fun i d => ds[i]? = some d) z s1 (k.from m1) h0 (fun i G' S' σ' H' hi _ m s' => ?_) (fun G' S' σ' H' _ m s' => ?_) (fun i d G' _ hi q => hs i d G' hi q) hd⟩
    · have h1' := s'.sh _ _ (m _ _ h1)
      have hi' : i < xs.length := by rw [h2.len]; exact hi
      refine ⟨⟨xs, xs[i], SqT.of h1', by simp [hi']⟩, fun x H2 y => ⟨y.1, ?_⟩⟩
      obtain ⟨d, hd, rd⟩ := h2.getV (y.2 xs (SqT.of h1'))
      exact ⟨d, hd, rd.mono m⟩
    · exact ⟨xs, SqT.of (s'.sh _ _ (m _ _ h1)), by rw [h2.len]; exact Nat.le_refl _⟩
theorem wS_forR1 {ta : TA} {g : TG} {tb : TS} (h : wA K Z ta G fun rs G1 => Ask (∃ n : Int, rs = [.sh (.int n)] ∧ n ≤ 1000000 ∧ -1000000 ≤ n ∧ ∃ inv : Nat → Sl → Prop, inv 0 G1 ∧
    (∀ (i : Nat) G2, (i : Int) < n → inv i G2 → wG K g (.int (i : Nat)) G2 fun G3 => wS K Z tb G3 ⟨inv (i + 1), P.rt, P.nx, inv (i + 1)⟩) ∧ ∀ G2, inv n.toNat G2 → P.nx G2)) : wS K Z (tFor (iRng1 ta) g tb) G P := fun F S0 S σ H D s z k =>
  h F S0 S σ H _ s z fun rs G1 vs S1 H1 q m1 s1 o => by
    obtain ⟨n, rfl, b1, b2, inv, h0, hs, hd⟩ := q
    obtain ⟨v, rfl, o1⟩ := fs1 o
    cases o1
    refine ⟨n, rfl, by omega, by omega, for_core n.toNat inv (fun i d => d = .int (i : Nat)) z s1 (k.from m1) h0 (fun i G' S' σ' H' hi _ m s' => ⟨hi, fun x H2 y => ⟨y.1, .int (i : Nat), rfl, ?_⟩⟩) (fun G' S' σ' H' _ m s' => Nat.le_refl _) (fun i d G' hi e q => by rw [e]; exact hs i G' (by omega) q) hd⟩
    rw [y.2, Int.zero_add]
    exact .int _
theorem wS_forR2 {ta : TA} {g : TG} {tb : TS} (h : wA K Z ta G fun rs G1 => Ask (∃ lo n : Int, rs = [.sh (.int lo), .sh (.int n)] ∧ (n ≤ 1000000 ∧ -1000000 ≤ n ∧ lo ≤ 1000000 ∧ -1000000 ≤ lo) ∧ ∃ inv : Nat → Sl → Prop, inv 0 G1 ∧
    (∀ (i : Nat) G2, lo + (i : Int) < n → inv i G2 → wG K g (.int (lo + (i : Nat))) G2 fun G3 => wS K Z tb G3 ⟨inv (i + 1), P.rt, P.nx, inv (i + 1)⟩) ∧ ∀ G2, inv (n - lo).toNat G2 → P.nx G2)) : wS K Z (tFor (iRng2 ta) g tb) G P := fun F S0 S σ H D s z k =>
  h F S0 S σ H _ s z fun rs G1 vs S1 H1 q m1 s1 o => by
    obtain ⟨lo, n, rfl, ⟨b1, b2, b3, b4⟩, inv, h0, hs, hd⟩ := q
    obtain ⟨v, u, rfl, o1, o2⟩ := fs2 o
    cases o1; cases o2
    refine ⟨lo, n, rfl, ⟨by omega, by omega, by omega, by omega⟩, for_core (n - lo).toNat inv (fun i d => d = .int (lo + (i : Nat))) z s1 (k.from m1) h0 (fun i G' S' σ' H' hi _ m s' => ⟨hi, fun x H2 y => ⟨y.1, .int (lo + (i : Nat)), rfl, ?_⟩⟩) (fun G' S' σ' H' _ m s' => Nat.le_refl _) (fun i d G' hi e q => by rw [e]; exact hs i G' (by omega) q) hd⟩
    rw [y.2]
    exact .int _
end
end PL

/-! PQ: comprehensions, calls, a def's promise. -/
namespace PL
open PySem L2

def keepOw : Sl → Sl → Prop
  | [], _ => True
  | .ow a m :: r, s :: t => s = .ow a m ∧ keepOw r t
  | _ :: r, _ :: t => keepOw r t
  | _ :: _, [] => False
theorem keepOw_ok : ∀ {G G' : Sl} {i : Nat} {a : Addr} {m : Mo}, keepOw G G' → G[i]? = some (.ow a m) → G'[i]? = some (.ow a m)
  | [], _, i, _, _, _, e => by simp at e
  | s :: r, [], i, a, m, h, e => by cases s <;> exact h.elim
  | s :: r, t :: u, 0, a, m, h, e => by
    simp at e; subst e
    obtain ⟨h1, _⟩ := h
    subst h1; rfl
  | s :: r, t :: u, i + 1, a, m, h, e => by
    have h' : keepOw r u := by cases s <;> first | exact h | exact h.2
    simpa using keepOw_ok h' (by simpa using e)
theorem keepOw_refl : ∀ G : Sl, keepOw G G
  | [] => trivial
  | s :: r => by cases s <;> first | exact keepOw_refl r | exact ⟨rfl, keepOw_refl r⟩

section
variable {K : PySem.W.Frag} {Z : Ec} {F S0 S S' : Hp} {G : Sl} {σ : L2.St} {H H' : Hp} {Q : R → Sl → Prop} {P : Po}
theorem wT_yes {Q : Bool → Sl → Prop} (q : Q true G) : wT K Z tYes G Q := fun F S0 S σ H Qr s z k => k true G S H q (Same.refl _) s
/-- an anonymous object is guarded -/
theorem Sat.guard {p : Addr} {o : HO} (s : Sat K F S0 G S σ H) (hp : H p = some o) (hF : F p = none) (hS : S p = none) (hn : ∀ (i : Nat) (m' : Mo), G[i]? ≠ some (Slot.ow p m')) :
    Sat K (upd F p o) (fun b => if b = p then none else S0 b) G S σ H := by
  refine ⟨s.len, s.sh, fun b u e => ?_, fun b u e n => ?_, fun i sl e => ?_, s.sep⟩
  · by_cases hb : b = p
    · subst hb; rw [upd_same] at e; rw [hp]; exact e
    · rw [upd_ne hb] at e; exact s.fr b u e
  · by_cases hb : b = p
    · subst hb; simp only [if_true]; exact hS
    · rw [upd_ne hb] at e; simp only [if_neg hb]; exact s.am b u e n
  · have h := s.val i sl e
    cases sl with
    | no => trivial
    | sh d => exact h
    | ow a m =>
      have ha : a ≠ p := fun z => by subst z; exact hn i m e
      exact ⟨h.1, by rw [upd_ne ha]; exact h.2.1, h.2.2.1, h.2.2.2⟩
theorem hZ_guard {p : Addr} {o : HO} (z : hZ Z F) (hF : F p = none) : hZ Z (upd F p o) := fun c H' x m => z c H' x ((same_new hF).trans m)
/-- the slot of the comprehension's name is forgotten -/
theorem Sat.wiped {j : Nat} (s : Sat K F S0 G S σ H) : Sat K F S0 (G.set j .no) S (wipe σ [j]) H := by
  have s1 := s.forget (i := j)
  refine ⟨by simp [wipe, s.len], s1.sh, s1.fr, s1.am, fun i sl e => ?_, s1.sep⟩
  by_cases hj : i = j
  · subst hj
    by_cases hi : i < G.length
    · rw [List.getElem?_set_self hi] at e; cases e; trivial
    · rw [List.getElem?_eq_none (by simp; omega)] at e; cases e
  · have h := s1.val i sl e
    show SlOk K F S H sl (σ.set j none)[i]?
    rw [List.getElem?_set_ne (Ne.symm hj)]
    exact h
theorem wipe_turn (σ : L2.St) (j : Nat) (x : Option V) : wipe ((wipe σ [j]).set j x) [j] = wipe σ [j] := by
  show ((σ.set j none).set j x).set j none = σ.set j none
  rw [List.set_set, List.set_set]
/-- behind a turn: the def's own slots again -/
theorem Sat.back {G4 : Sl} {S4 : Hp} {σ4 : L2.St} {p : Addr} {o : HO} {H4 : Hp} (s : Sat K F S0 G S σ H) (hF : F p = none) (m : Same S S4) (s4 : Sat K (upd F p o) (fun b => if b = p then none else S0 b) G4 S4 σ4 H4) (hk : keepOw G G4) :
    Sat K F S0 G S4 σ H4 := by
  refine ⟨s.len, s4.sh, (same_new hF).trans s4.fr, fun b u e n => ?_, fun i sl e => ?_, s.sep⟩
  · have hb : b ≠ p := fun z => by subst z; rw [hF] at e; cases e
    have := s4.am b u (by rw [upd_ne hb]; exact e) n
    simpa only [if_neg hb] using this
  · have h := s.val i sl e
    cases sl with
    | no => trivial
    | sh d =>
      obtain ⟨v, e1, r⟩ := h
      exact ⟨v, e1, r.mono m⟩
    | ow a mo =>
      have h4 := s4.val i _ (keepOw_ok hk e)
      exact ⟨h.1, h.2.1, h4.2.2.1, h4.2.2.2⟩
theorem filterMap_range_succ {α : Type} (out : Nat → Option α) (i : Nat) : (List.range (i + 1)).filterMap out = (List.range i).filterMap out ++ (out i).toList := by
  rw [List.range_succ, List.filterMap_append]
  cases h : out i <;> simp [h]
theorem filterMap_range_len {α : Type} (out : Nat → Option α) (i : Nat) : ((List.range i).filterMap out).length ≤ i := by
  have := List.length_filterMap_le out (List.range i)
  rwa [List.length_range] at this
/-- the core of a comprehension -/
theorem lc_core' {J : L2.It} {j : Nat} {tt : TT} {te : TE} {Qd : VK} {p : Addr} (n : Nat) (out : Nat → Option D) (item : Nat → D → Prop) (z : hZ Z F) (s : Sat K F S0 G S σ H) (hp : H p = none) (hn : n ≤ 1000000)
    (hgo : ∀ i S' H', i < n → Same S S' → Sat K F S0 G S' σ H' → J.go i H' ∧ ∀ x H2, J.yld i H' x H2 → H2 = H' ∧ ∃ d, item i d ∧ Rep K S' x d)
    (hstop : ∀ S' H', Same S S' → Sat K F S0 G S' σ H' → J.stop n H') (hj : j < G.length)
    (hs : ∀ i d, i < n → item i d → wT K Z tt ((G.set j .no).set j (.sh d)) fun b G2 => (b = true → wE K Z te G2 fun r G3 => ∃ e, rsh r = some e ∧ out i = some e ∧ keepOw G G3) ∧ (b = false → out i = none ∧ keepOw G G2))
    (hd : ∀ S' H', Same S S' → Sat K F S0 G S' σ H' → S' p = none → (∃ vs, H' p = some (.lst vs) ∧ RepA K S' vs ((List.range n).filterMap out)) → Qd (.ref p) H') :
    ∃ W : Nat → Nat → Hp → Prop, (∃ m, W 0 m (upd H p (.lst []))) ∧ ∀ i m H, W i m H →
      (J.stop i H ∧ Qd (.ref p) H) ∨ (J.go i H ∧ ∃ Nx : Hp → Prop, (∀ H', Nx H' → ∃ m', m' < m ∧ W (i + 1) m' H') ∧ ∀ x H', J.yld i H x H' → gName j x (wipe σ [j]) H' fun σ2 H2 => wipe σ2 [j] = wipe σ [j] ∧ tt σ2 H2 fun b H3 =>
        if b = true then te σ2 H3 fun y H4 => ∃ acc, H4 p = some (.lst acc) ∧ acc.length < sizeLine ∧ Nx (upd H4 p (.lst (acc ++ [y]))) else Nx H3) := by
  have hF := s.unfr hp
  have hS := s.unsh hp
  have hno := s.noow hp
  let I : Nat → Hp → Prop := fun i H' => ∃ S' vs, Same S S' ∧ Sat K F S0 G S' σ H' ∧ S' p = none ∧ H' p = some (.lst vs) ∧ RepA K S' vs ((List.range i).filterMap out)
  refine ⟨fun i m H' => m = n - i ∧ i ≤ n ∧ I i H', ⟨n, by simp, Nat.zero_le _, S, [], Same.refl _, s.grow (same_new hp), hS, upd_same, .nil⟩, ?_⟩
  rintro i m H1 ⟨rfl, hi, S1, vs, m1, s1, hS1, hH1, hr1⟩
  by_cases hlt : i < n
  · obtain ⟨hg, hy⟩ := hgo i S1 H1 hlt m1 s1
    refine .inr ⟨hg, I (i + 1), fun H' q => ⟨n - (i + 1), by omega, rfl, hlt, q⟩, fun x H2 y => ?_⟩
    obtain ⟨rfl, d, hit, r⟩ := hy x H2 y
    refine ⟨wipe_turn σ j _, ?_⟩
    have sg := (s1.guard hH1 hF hS1 hno)
    have zg : hZ Z (upd F p (.lst vs)) := hZ_guard z hF
    have sw := (sg.wiped (j := j)).setSh (i := j) (by simpa using hj) r
    have hs' := hs i d hlt hit
    refine hs' _ _ _ _ _ _ sw zg fun b G2 S2 H3 q m2 s2 => ?_
    have p2 : ∀ {S3 : Hp} {G3 : Sl} {σ3 : L2.St} {H3 : Hp}, Sat K (upd F p (.lst vs)) (fun b => if b = p then none else S0 b) G3 S3 σ3 H3 → S3 p = none ∧ H3 p = some (.lst vs) := fun {S3 G3 σ3 H3} s3 =>
      ⟨by have := s3.am p _ upd_same (fun xs z => by cases z); simpa using this, s3.fr p _ upd_same⟩
    cases b with
    | true =>
      refine evF (q.1 rfl) s2 zg fun r G3 v S3 H4 q3 m3 s3 o3 => ?_
      obtain ⟨e, e1, e2, hk⟩ := q3
      obtain ⟨a1, a2⟩ := p2 s3
      have rv := rsh_ok e1 o3
      have sb := s1.back hF (m2.trans m3) s3 hk
      have sb2 : Sat K F S0 G S3 σ (upd H4 p (.lst (vs ++ [v]))) := by
        refine ⟨sb.len, fun b u eb => ?_, fun b u eb => ?_, sb.am, fun k sl ek => ?_, sb.sep⟩
        · have hb : b ≠ p := fun z => by subst z; rw [a1] at eb; cases eb
          rw [upd_ne hb]; exact sb.sh b u eb
        · have hb : b ≠ p := fun z => by subst z; rw [hF] at eb; cases eb
          rw [upd_ne hb]; exact sb.fr b u eb
        · have h := sb.val k sl ek
          cases sl with
          | no => trivial
          | sh d => exact h
          | ow a mo =>
            have ha : a ≠ p := fun z => by subst z; exact hno k mo ek
            exact ⟨h.1, h.2.1, h.2.2.1, h.2.2.2.mono (Same.refl _) fun u q => by rw [upd_ne ha]; exact q⟩
      refine ⟨vs, a2, ?_, S3, vs ++ [v], m1.trans (m2.trans m3), sb2, a1, upd_same, ?_⟩
      · rw [hr1.len]
        exact line_lt (Nat.le_trans (filterMap_range_len out i) (by omega))
      · rw [filterMap_range_succ, e2]
        exact (hr1.mono (m2.trans m3)).append (.cons rv .nil)
    | false =>
      obtain ⟨e2, hk⟩ := q.2 rfl
      obtain ⟨a1, a2⟩ := p2 s2
      refine ⟨S2, vs, m1.trans m2, s1.back hF m2 s2 hk, a1, a2, ?_⟩
      rw [filterMap_range_succ, e2]
      simpa using hr1.mono m2
  · have e : i = n := by omega
    subst e
    exact .inl ⟨hstop S1 H1 m1 s1, hd S1 H1 m1 s1 hS1 ⟨vs, hH1, hr1⟩⟩
theorem range_get {α β : Type} (f : α → Option β) : ∀ ds : List α, (List.range ds.length).filterMap (fun i => ds[i]?.bind f) = ds.filterMap f
  | [] => rfl
  | d :: ds => by
    rw [List.length_cons, List.range_succ_eq_map, List.filterMap_cons, List.filterMap_map]
    have h := range_get f ds
    have e : ((fun i => (d :: ds)[i]?.bind f) ∘ Nat.succ) = fun i => ds[i]?.bind f := by
      funext i
      show ((d :: ds)[i + 1]?).bind f = _
      rw [List.getElem?_cons_succ]
    rw [e, h, List.filterMap_cons]
    show (match f d with | none => ds.filterMap f | some b => b :: ds.filterMap f) = _
    cases f d <;> rfl
abbrev LcEl (K : PySem.W.Frag) (Z : Ec) (tt : TT) (te : TE) (j : Nat) (f : D → Option D) (G : Sl) (d : D) : Prop :=
  wT K Z tt ((G.set j .no).set j (.sh d)) fun b G2 => (b = true → wE K Z te G2 fun r G3 => ∃ e, rsh r = some e ∧ f d = some e ∧ keepOw G G3) ∧ (b = false → f d = none ∧ keepOw G G2)
theorem lc_fin {j : Nat} {ds : List D} {f : D → Option D} {v : V} {p : Addr} {Qr : VK} (s1 : Sat K F S0 G S σ H) (k : kE K F S0 S σ Q Qr) (hp : H p = none) (q : ∀ a, Q (.ow a (.lst (ds.filterMap f))) G) {S' H' : Hp} (m : Same S S') (s' : Sat K F S0 G S' σ H') (h1 : S' p = none)
    (h2 : ∃ vs, H' p = some (.lst vs) ∧ RepA K S' vs (ds.filterMap f)) : Qr (.ref p) H' :=
  k _ _ _ _ _ (q p) m s' ⟨rfl, s1.unfr hp, h1, h2, s1.noow hp⟩
theorem wE_lcL {tl : TE} {tt : TT} {te : TE} {j : Nat} (f : D → Option D) (h : wE K Z tl G fun r G1 => Ask (∃ ds, rsh r = some (.lst ds) ∧ Nat.blt j G1.length = true ∧ ds.length ≤ 1000000 ∧ (∀ d ∈ ds, LcEl K Z tt te j f G1 d) ∧ ∀ a, Q (.ow a (.lst (ds.filterMap f))) G1)) :
    wE K Z (tLc (iList K tl) (gName j) tt te [j]) G Q := fun F S0 S σ H Qr s z k =>
  evF h s z fun r G1 v S1 H1 q m1 s1 o => by
    obtain ⟨ds, e, hj, hl, hs, q⟩ := q
    have r' := rsh_ok e o
    cases r'
    rename_i a xs h1 h2
    refine ⟨a, rfl, ⟨xs, SqL.of (s1.sh _ _ h1)⟩, fun p hp => lc_core' ds.length (fun i => ds[i]?.bind f) (fun i d => ds[i]? = some d) z s1 hp hl (fun i S' H' hi m s' => ?_) (fun S' H' m s' => ?_) (blt_lt hj) (fun i d hi e => ?_) fun S' H' m s' g1 g2 => ?_⟩
    · have h1' := s'.sh _ _ (m _ _ h1)
      have hi' : i < xs.length := by rw [h2.len]; exact hi
      refine ⟨⟨xs, xs[i], SqL.of h1', by simp [hi']⟩, fun x H2 y => ⟨y.1, ?_⟩⟩
      obtain ⟨d, hd, rd⟩ := h2.getV (y.2 xs (SqL.of h1'))
      exact ⟨d, hd, rd.mono m⟩
    · exact ⟨xs, SqL.of (s'.sh _ _ (m _ _ h1)), by rw [h2.len]; exact Nat.le_refl _⟩
    · simp only [e, Option.bind_some]
      exact hs d (List.mem_of_getElem? e)
    · rw [range_get] at g2
      exact lc_fin (v := V.ref a) (j := j) s1 (k.from m1) hp q m s' g1 g2
/-- over an owned list -/
theorem wE_lcB {i0 : Nat} {a : Addr} {ds : List D} {tt : TT} {te : TE} {j : Nat} (f : D → Option D) (h : G[i0]? = some (.ow a (.lst ds))) (hj : Nat.blt j G.length = true) (hl : ds.length ≤ 1000000) (hs : ∀ d ∈ ds, LcEl K Z tt te j f G d) (q : ∀ a, Q (.ow a (.lst (ds.filterMap f))) G) :
    wE K Z (tLc (iList K (tVar i0)) (gName j) tt te [j]) G Q := fun F S0 S σ H Qr s z k => by
  obtain ⟨e, _, _, vs, g1, g2⟩ := s.val i0 _ h
  refine ⟨_, e, a, rfl, ⟨vs, SqL.of g1⟩, fun p hp => lc_core' ds.length (fun i => ds[i]?.bind f) (fun i d => ds[i]? = some d) z s hp hl (fun i S' H' hi m s' => ?_) (fun S' H' m s' => ?_) (blt_lt hj) (fun i d hi e => ?_) fun S' H' m s' g1 g2 => ?_⟩
  · obtain ⟨_, _, _, vs', g1', g2'⟩ := s'.val i0 _ h
    have hi' : i < vs'.length := by rw [g2'.len]; exact hi
    refine ⟨⟨vs', vs'[i], SqL.of g1', by simp [hi']⟩, fun x H2 y => ⟨y.1, ?_⟩⟩
    obtain ⟨d, hd, rd⟩ := g2'.getV (y.2 vs' (SqL.of g1'))
    exact ⟨d, hd, rd⟩
  · obtain ⟨_, _, _, vs', g1', g2'⟩ := s'.val i0 _ h
    exact ⟨vs', SqL.of g1', by rw [g2'.len]; exact Nat.le_refl _⟩
  · simp only [e, Option.bind_some]
    exact hs d (List.mem_of_getElem? e)
  · rw [range_get] at g2
    exact lc_fin (v := V.ref a) (j := j) s k hp q m s' g1 g2
theorem wE_lcT {tl : TE} {tt : TT} {te : TE} {j : Nat} (f : D → Option D) (h : wE K Z tl G fun r G1 => Ask (∃ ds, r = .sh (.tup ds) ∧ Nat.blt j G1.length = true ∧ ds.length ≤ 1000000 ∧ (∀ d ∈ ds, LcEl K Z tt te j f G1 d) ∧ ∀ a, Q (.ow a (.lst (ds.filterMap f))) G1)) :
    wE K Z (tLc (iTup K tl) (gName j) tt te [j]) G Q := fun F S0 S σ H Qr s z k =>
  evF h s z fun r G1 v S1 H1 q m1 s1 o => by
    obtain ⟨ds, rfl, hj, hl, hs, q⟩ := q
    cases o
    rename_i a xs h1 h2
    refine ⟨a, rfl, ⟨xs, SqT.of (s1.sh _ _ h1)⟩, fun p hp => lc_core' ds.length (fun i => ds[i]?.bind f) (fun i d => ds[i]? = some d) z s1 hp hl (fun i S' H' hi m s' => ?_) (fun S' H' m s' => ?_) (blt_lt hj) (fun i d hi e => ?_) fun S' H' m s' g1 g2 => ?_⟩
    · have h1' := s'.sh _ _ (m _ _ h1)
      have hi' : i < xs.length := by rw [h2.len]; exact hi
      refine ⟨⟨xs, xs[i], SqT.of h1', by simp [hi']⟩, fun x H2 y => ⟨y.1, ?_⟩⟩
      obtain ⟨d, hd, rd⟩ := h2.getV (y.2 xs (SqT.of h1'))
      exact ⟨d, hd, rd.mono m⟩
    · exact ⟨xs, SqT.of (s'.sh _ _ (m _ _ h1)), by rw [h2.len]; exact Nat.le_refl _⟩
    · simp only [e, Option.bind_some]
      exact hs d (List.mem_of_getElem? e)
    · rw [range_get] at g2
      exact lc_fin (v := V.ref a) (j := j) s1 (k.from m1) hp q m s' g1 g2
/-- over a text's signs -/
theorem wE_lcS {tl : TE} {tt : TT} {te : TE} {j : Nat} (f : D → Option D) (h : wE K Z tl G fun r G1 => Ask (∃ l : List Nat, r = .sh (tx l) ∧ Nat.blt j G1.length = true ∧ l.length ≤ 1000000 ∧ (∀ c ∈ l, LcEl K Z tt te j f G1 (tx [c])) ∧ ∀ a, Q (.ow a (.lst ((l.map fun c => tx [c]).filterMap f))) G1)) :
    wE K Z (tLc (iStr tl) (gName j) tt te [j]) G Q := fun F S0 S σ H Qr s z k =>
  evF h s z fun r G1 v S1 H1 q m1 s1 o => by
    obtain ⟨l, rfl, hj, hl, hs, q⟩ := q
    cases o
    have hsz : (mk l).cps.size = (l.map fun c => tx [c]).length := by simp [mk]
    refine ⟨_, rfl, fun p hp => lc_core' (l.map fun c => tx [c]).length (fun i => (l.map fun c => tx [c])[i]?.bind f) (fun i d => (l.map fun c => tx [c])[i]? = some d) z s1 hp (by simpa using hl) (fun i S' H' hi m s' => ?_) (fun S' H' m s' => ?_) (blt_lt hj) (fun i d hi e => ?_) fun S' H' m s' g1 g2 => ?_⟩
    · refine ⟨by show i < (mk l).cps.size; rw [hsz]; exact hi, fun x H2 y => ⟨y.1, ?_⟩⟩
      obtain ⟨_, c, hc, rfl⟩ := y
      refine ⟨tx [c], ?_, .str _⟩
      have hc' : l[i]? = some c := by simpa [mk] using hc
      rw [List.getElem?_map, hc']; rfl
    · show (mk l).cps.size ≤ _
      rw [hsz]; exact Nat.le_refl _
    · simp only [e, Option.bind_some]
      have hm := List.mem_of_getElem? e
      obtain ⟨c, hc, rfl⟩ := List.mem_map.mp hm
      exact hs c hc
    · rw [range_get] at g2
      exact lc_fin (v := V.non) (j := j) s1 (k.from m1) hp q m s' g1 g2
/-- over range(n), all kept -/
theorem wE_lcR {ta : TA} {tt : TT} {te : TE} {j : Nat} (f : Nat → D) (h : wA K Z ta G fun rs G1 => Ask (∃ n : Int, rs = [.sh (.int n)] ∧ Nat.blt j G1.length = true ∧ n ≤ 1000000 ∧ -1000000 ≤ n ∧ (∀ i : Nat, (i : Int) < n → wT K Z tt ((G1.set j .no).set j (.sh (.int i))) fun b G2 => b = true ∧ wE K Z te G2 fun r G3 => rsh r = some (f i) ∧ keepOw G1 G3) ∧ ∀ a, Q (.ow a (.lst ((List.range n.toNat).map f))) G1)) :
    wE K Z (tLc (iRng1 ta) (gName j) tt te [j]) G Q := fun F S0 S σ H Qr s z k =>
  h F S0 S σ H _ s z fun rs G1 vs S1 H1 q m1 s1 o => by
    obtain ⟨n, rfl, hj, b1, b2, hs, q⟩ := q
    obtain ⟨v, rfl, o1⟩ := fs1 o
    cases o1
    have ef : ∀ m : Nat, (List.range m).filterMap (fun i => some (f i)) = (List.range m).map f := fun m => by
      rw [List.filterMap_eq_map']
    refine ⟨n, rfl, by omega, by omega, fun p hp => lc_core' n.toNat (fun i => some (f i)) (fun i d => d = .int (i : Nat)) z s1 hp (by omega) (fun i S' H' hi m s' => ⟨hi, fun x H2 y => ⟨y.1, .int (i : Nat), rfl, ?_⟩⟩) (fun S' H' m s' => Nat.le_refl _) (blt_lt hj) (fun i d hi e => ?_) fun S' H' m s' g1 g2 => ?_⟩
    · rw [y.2, Int.zero_add]
      exact .int _
    · subst e
      have h1 := hs i (by omega)
      refine fun F S0 S σ H Qr s z k => h1 F S0 S σ H Qr s z fun b G2 S2 H2 q m s2 => k b G2 S2 H2 ⟨fun _ => ?_, fun e => ?_⟩ m s2
      · exact wE.mono q.2 fun r G3 q3 => ⟨f i, q3.1, rfl, q3.2⟩
      · rw [q.1] at e; cases e
    · rw [ef] at g2
      exact k _ _ _ _ _ (q p) (m1.trans m) s' ⟨rfl, s1.unfr hp, g1, g2, s1.noow hp⟩
end
end PL

/-! PR: a def's promise over data, its body, its calls. -/
namespace PL
open PySem PySem.Spec PyProof.Rows L2

abbrev Phi := List D → (R → Prop) → (Value → Prop) → Prop
def RetOk (K : PySem.W.Frag) (H S' H' : Hp) : R → V → Prop
  | .sh d, v => Rep K S' v d
  | .ow a m, v => v = .ref a ∧ H a = none ∧ S' a = none ∧ MoOk K S' H' a m
  | .bo _, _ => False
def mkSp (K : PySem.W.Frag) (φ : Phi) : Sp := fun vs H Q E => ∃ ds S Q0 X0, RepA K S vs ds ∧ Same S H ∧ φ ds Q0 X0 ∧
  (∀ r, Q0 r → ∀ v S' H', Same H H' → Same S' H' → Same S S' → (∀ a o, H a = some o → (∀ xs, o ≠ .tup xs) → S' a = S a) → RetOk K H S' H' r v → Q v H') ∧ ∀ c, X0 c → ∀ H', Same H H' → E c none H'
/-- the slots at the entry -/
def G0 (N : List Str) (ds : List D) : Sl := ds.map Slot.sh ++ List.replicate (N.length - ds.length) .no
def rtQ (Q : R → Prop) : R → Sl → Prop := fun r _ => match r with
  | .sh d => Q (.sh d)
  | .ow a m => Q (.ow a m)
  | .bo _ => False
def PoQ (Q : R → Prop) : Po := ⟨fun _ => Q (.sh .non), rtQ Q, fun _ => False, fun _ => False⟩
section
variable {K : PySem.W.Frag} {Z : Ec} {F S0 S S' : Hp} {G : Sl} {σ : L2.St} {H H' : Hp} {Q : R → Sl → Prop} {P : Po}
theorem Sat.start {N : List Str} {ds : List D} {vs : List V} (h : RepA K S vs ds) (m : Same S H) : Sat K H S (G0 N ds) S (L2.start N vs) H := by
  have hl := h.len
  refine ⟨by simp [G0, L2.start, hl], m, Same.refl _, fun _ _ _ _ => rfl, fun i sl e => ?_, fun i j a mo mo' e _ => ?_⟩
  · by_cases hi : i < ds.length
    · have e1 : (G0 N ds)[i]? = some (.sh ds[i]) := by
        unfold G0
        rw [List.getElem?_append_left (by simpa using hi), List.getElem?_map, List.getElem?_eq_getElem hi]; rfl
      rw [e1] at e; cases e
      obtain ⟨v, h1, h2⟩ := h.get (List.getElem?_eq_getElem hi)
      refine ⟨v, ?_, h2⟩
      unfold L2.start
      rw [List.getElem?_append_left (by rw [List.length_map, hl]; exact hi), List.getElem?_map, h1]; rfl
    · unfold G0 at e
      rw [List.getElem?_append_right (by simpa using hi), List.getElem?_replicate] at e
      split at e
      · cases e; trivial
      · cases e
  · exfalso
    by_cases hi : i < ds.length
    · have e1 : (G0 N ds)[i]? = some (.sh ds[i]) := by
        unfold G0
        rw [List.getElem?_append_left (by simpa using hi), List.getElem?_map, List.getElem?_eq_getElem hi]; rfl
      rw [e1] at e; cases e
    · unfold G0 at e
      rw [List.getElem?_append_right (by simpa using hi), List.getElem?_replicate] at e
      split at e <;> cases e
theorem body_ok {N : List Str} {φ : Phi} {t : TS} {E : XK} {vs : List V} {Qr : VK} (hw : ∀ ds Q X, φ ds Q X → wS K ⟨E, X⟩ t (G0 N ds) (PoQ Q)) (h : mkSp K φ vs H Qr E) :
    t { nx := fun _ H' => Qr .non H', rt := Qr } (L2.start N vs) H := by
  obtain ⟨ds, S, Q0, X0, h1, h2, h3, h4, h5⟩ := h
  refine hw ds Q0 X0 h3 H S S (L2.start N vs) H _ (Sat.start h1 h2) (fun c H' x m => h5 c x H' m) ⟨fun G' S' σ' H' q m s => ?_, fun r G' v S' σ' H' q m s o => ?_, fun _ _ _ _ q => q.elim, fun _ _ _ _ q => q.elim⟩
  · exact h4 _ q _ S' H' s.fr s.sh m s.am .non
  · cases r with
    | sh d => exact h4 _ q v S' H' s.fr s.sh m s.am o
    | ow a mo => exact h4 _ q v S' H' s.fr s.sh m s.am ⟨o.1, o.2.1, o.2.2.1, o.2.2.2.1⟩
    | bo i => exact q.elim
theorem mkSp_len {φ : Phi} {n : Nat} (hl : ∀ ds Q X, φ ds Q X → ds.length = n) : ∀ vs H Q E, mkSp K φ vs H Q E → vs.length = n := fun vs H Q E h => by
  obtain ⟨ds, S, Q0, X0, h1, _, h3, _⟩ := h
  rw [h1.len]; exact hl _ _ _ h3
/-- THE RULE for a def that raises nothing -/
theorem fn_pure {P : Program} {w : World} {mg : Str → Option Value} {base : Heap} {x qual : Str} {st : Stmt} {f : Addr} {fd : FuncData} {N ps : List Str} {k : Nat} {φ : Phi} {t : TS} (F : Fun K x qual st f fd) (Sc : FnScope N ps (defScope st)) (hl : ∀ ds Q X, φ ds Q X → ds.length = ps.length)
    (hw : ∀ ds Q X, φ ds Q X → ∀ E, wS K ⟨E, X⟩ t (G0 N ds) (PoQ Q))
    (hb : ∀ (cdv : Value) (A : Around) (outer : List Env) (s : Shared) (H : Hp) (E : XK), Room k (A.deeper (envOfC qual (defScope st) s.heap.objs.size f cdv)) → PSs (cxOf CX0 P w K mg base N qual (defScope st) f cdv A outer s H E).nox (defBody st) t) :
    FnOk P w K mg base CX0 (k + 1) f fd ps (mkSp K φ) :=
  F.ok Sc (mkSp_len hl) fun cdv A outer s H vs Q E hr h => ⟨t, hb cdv A outer s H E hr, body_ok (fun ds Q X h => hw ds Q X h E) h⟩
/-- .. for a def that may raise -/
theorem fn_pureX {P : Program} {w : World} {mg : Str → Option Value} {base : Heap} {x qual : Str} {st : Stmt} {f : Addr} {fd : FuncData} {N ps : List Str} {k : Nat} {φ : Phi} {t : XK → TS} (F : Fun K x qual st f fd) (Sc : FnScope N ps (defScope st)) (hl : ∀ ds Q X, φ ds Q X → ds.length = ps.length)
    (hw : ∀ ds Q X, φ ds Q X → ∀ E, wS K ⟨E, X⟩ (t E) (G0 N ds) (PoQ Q))
    (hb : ∀ (cdv : Value) (A : Around) (outer : List Env) (s : Shared) (H : Hp) (E : XK), Room k (A.deeper (envOfC qual (defScope st) s.heap.objs.size f cdv)) → PSs (cxOf (L2.CX P w) P w K mg base N qual (defScope st) f cdv A outer s H E) (defBody st) (t E)) :
    FnOk P w K mg base (L2.CX P w) (k + 1) f fd ps (mkSp K φ) :=
  F.okX Sc (mkSp_len hl) fun cdv A outer s H vs Q E hr h => ⟨t E, hb cdv A outer s H E hr, body_ok (fun ds Q X h => hw ds Q X h E) h⟩

/-! ### calls -/
def dsOf (G : Sl) : List R → Option (List D)
  | [] => some []
  | r :: rs => match dv G r with
    | some d => match dsOf G rs with
      | some ds => some (d :: ds)
      | none => none
    | none => none
def noBo : List R → Bool
  | [] => true
  | .bo _ :: _ => false
  | _ :: rs => noBo rs
def flatR : R → Bool
  | .sh d => d.flat
  | .ow _ (.lst ds) => flatA ds
  | .ow _ _ => true
  | .bo _ => false
/-- the objects that are lent -/
def Lent (G : Sl) (rs : List R) (a : Addr) : Prop := ∃ i m, R.bo i ∈ rs ∧ G[i]? = some (Slot.ow a m)
theorem noBo_lent {rs : List R} {a : Addr} (h : noBo rs = true) : ¬ Lent G rs a := by
  rintro ⟨i, m, hm, _⟩
  induction rs with
  | nil => cases hm
  | cons r rs ih =>
    cases r with
    | sh d =>
      rcases List.mem_cons.mp hm with e | e
      · cases e
      · exact ih h e
    | ow a m =>
      rcases List.mem_cons.mp hm with e | e
      · cases e
      · exact ih h e
    | bo j => cases h
open Classical in
/-- what the callee may read -/
noncomputable def lendS (G : Sl) (rs : List R) (S H : Hp) : Hp := fun a => if Lent G rs a then H a else S a
theorem lend_rep {rs : List R} {all : List R} {vs : List V} {ds : List D} (hsub : ∀ r ∈ rs, r ∈ all) (h : dsOf G rs = some ds) (s : Sat K F S0 G S σ H) (o : FsOk K S σ rs vs) (m : Same S (lendS G all S H)) : RepA K (lendS G all S H) vs ds := by
  induction o generalizing ds with
  | nil => cases h; exact .nil
  | @cons r v rs vs o1 o2 ih =>
    have h' : ∃ d es, dv G r = some d ∧ dsOf G rs = some es ∧ ds = d :: es := by
      simp only [dsOf] at h
      split at h
      · rename_i d h1
        split at h
        · rename_i es h2
          cases h
          exact ⟨d, es, h1, h2, rfl⟩
        · cases h
      · cases h
    obtain ⟨d, es, h1, h2, rfl⟩ := h'
    refine .cons ?_ (ih (fun r hr => hsub r (List.mem_cons_of_mem _ hr)) h2)
    cases r with
    | sh d' => cases h1; exact Rep.mono m o1
    | ow a mo => cases h1
    | bo i =>
      unfold dv at h1
      simp only at h1
      split at h1
      · cases h1
        rename_i a mo e
        obtain ⟨e1, _, _, mok⟩ := s.val i _ e
        have o' : σ[i]? = some (some v) := o1
        rw [e1] at o'
        cases o'
        refine mok.rep m ?_
        unfold lendS
        rw [if_pos ⟨i, _, hsub _ List.mem_cons_self, e⟩]
      · cases h1
theorem call_core {φ : Phi} {E' : XK} {X' : Value → Prop} {rs : List R} {vs : List V} {ds : List D} {Qr : VK} (hX : ∀ c H', X' c → Same F H' → E' c none H') (s : Sat K F S0 G S σ H) (o : FsOk K S σ rs vs) (hd : dsOf G rs = some ds)
    (hφ : φ ds (fun r => (noBo rs = true ∨ flatR r = true) ∧ Q r G) X') (k : kE K F S0 S σ Q Qr) : mkSp K φ vs H Qr E' := by
  have own : ∀ {a : Addr}, Lent G rs a → ∃ m, F a = none ∧ S a = none ∧ MoOk K S H a m := fun {a} ⟨i, m, _, e⟩ => ⟨m, (s.val i _ e).2⟩
  have m1 : Same S (lendS G rs S H) := fun a u e => by
    unfold lendS
    by_cases h : Lent G rs a
    · obtain ⟨_, _, h2, _⟩ := own h
      rw [h2] at e; cases e
    · rw [if_neg h]; exact e
  have m2 : Same (lendS G rs S H) H := fun a u e => by
    unfold lendS at e
    by_cases h : Lent G rs a
    · rw [if_pos h] at e; exact e
    · rw [if_neg h] at e; exact s.sh a u e
  refine ⟨ds, _, _, _, lend_rep (fun _ h => h) hd s o m1, m2, hφ, fun r q v S' H' g1 g2 g5 g3 g4 => ?_, fun c x H' m => hX c H' x (s.fr.trans m)⟩
  obtain ⟨hb, q⟩ := q
  -- what is shared behind the call
  have notlent : ∀ {a : Addr}, (∃ xs, S' a = some (.tup xs)) → ¬ Lent G rs a := fun {a} ⟨xs, e⟩ hl => by
    obtain ⟨mo, _, _, mok⟩ := own hl
    obtain ⟨u, e2, hnt⟩ := mok.some
    have e3 := g3 a u e2 hnt
    unfold lendS at e3
    rw [if_pos hl, e2] at e3
    rw [e3] at e; cases e
    exact hnt xs rfl
  let S2 : Hp := fun a => open Classical in if Lent G rs a then none else S' a
  have S2of : ∀ {a : Addr}, ¬ Lent G rs a → S2 a = S' a := fun {a} h => if_neg h
  have S2no : ∀ {a : Addr}, Lent G rs a → S2 a = none := fun {a} h => if_pos h
  have n1 : Same S S2 := fun a u e => by
    have hl : ¬ Lent G rs a := fun h => by
      obtain ⟨_, _, h2, _⟩ := own h
      rw [h2] at e; cases e
    rw [S2of hl]
    refine g5 a u ?_
    unfold lendS
    rw [if_neg hl]; exact e
  have s2 : Sat K F S0 G S2 σ H' := by
    refine ⟨s.len, fun a u e => ?_, s.fr.trans g1, fun a u e n => ?_, fun i sl e => ?_, s.sep⟩
    · by_cases hl : Lent G rs a
      · rw [S2no hl] at e; cases e
      · rw [S2of hl] at e; exact g2 a u e
    · have hl : ¬ Lent G rs a := fun h => by
        obtain ⟨_, h1, _, _⟩ := own h
        rw [h1] at e; cases e
      rw [S2of hl, g3 a u (s.fr a u e) n]
      unfold lendS
      rw [if_neg hl]; exact s.am a u e n
    · have h := s.val i sl e
      cases sl with
      | no => trivial
      | sh d =>
        obtain ⟨w, e1, r1⟩ := h
        exact ⟨w, e1, r1.mono n1⟩
      | ow a mo =>
        obtain ⟨h1, h2, h3, h4⟩ := h
        refine ⟨h1, h2, ?_, h4.mono n1 fun u q => g1 a u q⟩
        by_cases hl : Lent G rs a
        · exact S2no hl
        · obtain ⟨u, e2, hnt⟩ := h4.some
          rw [S2of hl, g3 a u e2 hnt]
          unfold lendS
          rw [if_neg hl]; exact h3
  have rep2 : ∀ {v : V} {d : D}, (noBo rs = true ∨ d.flat = true) → Rep K S' v d → Rep K S2 v d := fun {v d} h r => by
    rcases h with h | h
    · exact r.mono fun a u e => by rw [S2of (noBo_lent h)]; exact e
    · exact r.flatMono (fun a xs e => by rw [S2of (notlent ⟨xs, e⟩)]; exact e) h
  have repA2 : ∀ {vs : List V} {ds : List D}, (noBo rs = true ∨ flatA ds = true) → RepA K S' vs ds → RepA K S2 vs ds := fun {vs ds} h r => by
    rcases h with h | h
    · exact r.mono fun a u e => by rw [S2of (noBo_lent h)]; exact e
    · exact r.flatMono (fun a xs e => by rw [S2of (notlent ⟨xs, e⟩)]; exact e) h
  refine k r G v S2 H' q n1 s2 ?_
  cases r with
  | sh d => exact rep2 (hb.imp id id) g4
  | bo i => exact g4.elim
  | ow a mo =>
    obtain ⟨e1, e2, e3, e4⟩ := g4
    have hl : ¬ Lent G rs a := fun h => by
      obtain ⟨_, _, _, h4⟩ := own h
      obtain ⟨u, e5, _⟩ := h4.some
      rw [e2] at e5; cases e5
    refine ⟨e1, s.unfr e2, by rw [S2of hl]; exact e3, ?_, s.noow e2⟩
    cases mo with
    | lst ds =>
      obtain ⟨ws, f1, f2⟩ := e4
      exact ⟨ws, f1, repA2 (hb.imp id id) f2⟩
    | dT kvs => exact e4
    | dK kvs => exact e4
theorem wE_call {φ : Phi} {ta : TA} (h : wA K Z ta G fun rs G1 => ∃ ds, dsOf G1 rs = some ds ∧ φ ds (fun r => (noBo rs = true ∨ flatR r = true) ∧ Q r G1) Z.X) : wE K Z (tCall (mkSp K φ) [] Z.E ta) G Q := fun F S0 S σ H Qr s z k =>
  h F S0 S σ H _ s z fun rs G1 vs S1 H1 q m1 s1 o => by
    obtain ⟨ds, e, q⟩ := q
    show mkSp K φ (vs ++ []) H1 Qr Z.E
    rw [List.append_nil]
    exact call_core z s1 o e q (k.from m1)
theorem wE_call0 {φ : Phi} {ta : TA} {E' : XK} (h : wA K Z ta G fun rs G1 => ∃ ds, dsOf G1 rs = some ds ∧ φ ds (fun r => (noBo rs = true ∨ flatR r = true) ∧ Q r G1) fun _ => False) : wE K Z (tCall (mkSp K φ) [] E' ta) G Q := fun F S0 S σ H Qr s z k =>
  h F S0 S σ H _ s z fun rs G1 vs S1 H1 q m1 s1 o => by
    obtain ⟨ds, e, q⟩ := q
    show mkSp K φ (vs ++ []) H1 Qr E'
    rw [List.append_nil]
    exact call_core (fun _ _ x => x.elim) s1 o e q (k.from m1)
end
end PL

/-! PS: == of data at any depth, operators that take any of their kinds, calls by a bundle. -/
namespace PL
open PySem PySem.Spec PyProof.Rows L2

/-! ### == of data -/
mutual
def toPy : D → PyData
  | .non => .none
  | .bl b => .bool b
  | .int i => .int i
  | .str s => .str s
  | .tup l => .tuple (toPyA l)
  | .lst l => .list (toPyA l)
  | _ => .none
def toPyA : List D → List PyData
  | [] => []
  | d :: l => toPy d :: toPyA l
end
/-! None, bools, ints, texts, lists, tuples; the signs within Unicode; the depth -/
mutual
def dat : Nat → D → Bool
  | _, .non => true
  | _, .bl _ => true
  | _, .int _ => true
  | _, .str s => s.cps.all (· < 0x110000)
  | 0, .tup _ => false
  | n + 1, .tup l => datA n l
  | 0, .lst _ => false
  | n + 1, .lst l => datA n l
  | _, _ => false
def datA : Nat → List D → Bool
  | _, [] => true
  | n, d :: l => dat n d && datA n l
end
mutual
theorem dat_fit : ∀ (n : Nat) (d : D), dat n d = true → (toPy d).canLay0 = true ∧ (toPy d).depth ≤ n
  | n, .non, _ => by cases n <;> exact ⟨rfl, Nat.zero_le _⟩
  | n, .bl _, _ => by cases n <;> exact ⟨rfl, Nat.zero_le _⟩
  | n, .int _, _ => by cases n <;> exact ⟨rfl, Nat.zero_le _⟩
  | n, .str s, h => by
    have h' : s.cps.all (· < 0x110000) = true := by cases n <;> (unfold dat at h; exact h)
    exact ⟨by show PyData.canLay0 (.str s) = true; unfold PyData.canLay0; exact h', Nat.zero_le _⟩
  | 0, .tup l, h => by unfold dat at h; cases h
  | n + 1, .tup l, h => by
    have h' := datA_fit n l (by unfold dat at h; exact h)
    refine ⟨?_, ?_⟩
    · show PyData.canLay0 (.tuple (toPyA l)) = true
      unfold PyData.canLay0; exact h'.1
    · show PyData.depth (.tuple (toPyA l)) ≤ n + 1
      unfold PyData.depth; exact Nat.succ_le_succ h'.2
  | 0, .lst l, h => by unfold dat at h; cases h
  | n + 1, .lst l, h => by
    have h' := datA_fit n l (by unfold dat at h; exact h)
    refine ⟨?_, ?_⟩
    · show PyData.canLay0 (.list (toPyA l)) = true
      unfold PyData.canLay0; exact h'.1
    · show PyData.depth (.list (toPyA l)) ≤ n + 1
      unfold PyData.depth; exact Nat.succ_le_succ h'.2
  | n, .dT _, h => by cases n <;> (unfold dat at h; cases h)
  | n, .dK _, h => by cases n <;> (unfold dat at h; cases h)
  | n, .scr _, h => by cases n <;> (unfold dat at h; cases h)
  | n, .ty _, h => by cases n <;> (unfold dat at h; cases h)
  | n, .ref _, h => by cases n <;> (unfold dat at h; cases h)
theorem datA_fit : ∀ (n : Nat) (l : List D), datA n l = true → PyData.canLayAll0 (toPyA l) = true ∧ PyData.depthAll (toPyA l) ≤ n
  | n, [], _ => ⟨rfl, Nat.zero_le _⟩
  | n, d :: l, h => by
    have h' : dat n d = true ∧ datA n l = true := by unfold datA at h; exact Bool.and_eq_true_iff.mp h
    have h1 := dat_fit n d h'.1
    have h2 := datA_fit n l h'.2
    refine ⟨?_, ?_⟩
    · show PyData.canLayAll0 (toPy d :: toPyA l) = true
      unfold PyData.canLayAll0
      rw [h1.1, h2.1]; rfl
    · show PyData.depthAll (toPy d :: toPyA l) ≤ n
      unfold PyData.depthAll
      exact Nat.max_le.mpr ⟨h1.2, h2.2⟩
end
theorem dat_shaped {d : D} (h : dat 64 d = true) : SeqAt.shaped (toPy d) = true := by
  have h' := dat_fit 64 d h
  unfold SeqAt.shaped
  rw [h'.1, decide_eq_true h'.2]; rfl
section
variable {K : PySem.W.Frag} {H : Hp}
mutual
theorem dp_rep : ∀ {n : Nat} {v : V} {d : D}, dat n d = true → Rep K H v d → Dp K H v (toPy d)
  | n, _, .non, _, r => by cases r; exact .non
  | n, _, .bl b, _, r => by cases r; exact .bl b
  | n, _, .int i, _, r => by cases r; exact .int i
  | n, _, .str s, _, r => by cases r; exact .str s
  | 0, _, .tup l, h, _ => by unfold dat at h; cases h
  | n + 1, _, .tup l, h, r => by
    cases r with
    | tup h1 r => exact .tup (SqT.of h1) (dpA_rep (n := n) (ds := l) (by unfold dat at h; exact h) r)
  | 0, _, .lst l, h, _ => by unfold dat at h; cases h
  | n + 1, _, .lst l, h, r => by
    cases r with
    | lst h1 r => exact .lst (SqL.of h1) (dpA_rep (n := n) (ds := l) (by unfold dat at h; exact h) r)
  | n, _, .dT _, h, _ => by cases n <;> (unfold dat at h; cases h)
  | n, _, .dK _, h, _ => by cases n <;> (unfold dat at h; cases h)
  | n, _, .scr _, h, _ => by cases n <;> (unfold dat at h; cases h)
  | n, _, .ty _, h, _ => by cases n <;> (unfold dat at h; cases h)
  | n, _, .ref _, h, _ => by cases n <;> (unfold dat at h; cases h)
theorem dpA_rep : ∀ {n : Nat} {vs : List V} {ds : List D}, datA n ds = true → RepA K H vs ds → DpAll K H vs (toPyA ds)
  | n, _, [], _, r => by cases r; exact .nil
  | n, _, d :: ds, h, r => by
    have h' : dat n d = true ∧ datA n ds = true := by unfold datA at h; exact Bool.and_eq_true_iff.mp h
    cases r with
    | cons r rs => exact .cons (dp_rep h'.1 r) (dpA_rep h'.2 rs)
end
end
def eqD (d e : D) : Bool := PyData.eqv (toPy d) (toPy e)
/-! without bools == is equality -/
mutual
def noB : D → Bool
  | .non => true
  | .int _ => true
  | .str _ => true
  | .tup l => noBA l
  | .lst l => noBA l
  | _ => false
def noBA : List D → Bool
  | [] => true
  | d :: l => noB d && noBA l
end
mutual
theorem eqD_iff : ∀ (d e : D), noB d = true → noB e = true → (PyData.eqv (toPy d) (toPy e) = true ↔ d = e)
  | .non, .non, _, _ => by simp [toPy, PyData.eqv]
  | .non, .int _, _, _ => by simp [toPy, PyData.eqv]
  | .non, .str _, _, _ => by simp [toPy, PyData.eqv]
  | .non, .tup _, _, _ => by simp [toPy, PyData.eqv]
  | .non, .lst _, _, _ => by simp [toPy, PyData.eqv]
  | .int _, .non, _, _ => by simp [toPy, PyData.eqv]
  | .int _, .int _, _, _ => by simp [toPy, PyData.eqv]
  | .int _, .str _, _, _ => by simp [toPy, PyData.eqv]
  | .int _, .tup _, _, _ => by simp [toPy, PyData.eqv]
  | .int _, .lst _, _, _ => by simp [toPy, PyData.eqv]
  | .str _, .non, _, _ => by simp [toPy, PyData.eqv]
  | .str _, .int _, _, _ => by simp [toPy, PyData.eqv]
  | .str _, .str _, _, _ => by simp [toPy, PyData.eqv]
  | .str _, .tup _, _, _ => by simp [toPy, PyData.eqv]
  | .str _, .lst _, _, _ => by simp [toPy, PyData.eqv]
  | .tup _, .non, _, _ => by simp [toPy, PyData.eqv]
  | .tup _, .int _, _, _ => by simp [toPy, PyData.eqv]
  | .tup _, .str _, _, _ => by simp [toPy, PyData.eqv]
  | .tup l, .tup m, h1, h2 => by
    have := eqDA_iff l m (by unfold noB at h1; exact h1) (by unfold noB at h2; exact h2)
    show PyData.eqv (.tuple (toPyA l)) (.tuple (toPyA m)) = true ↔ _
    unfold PyData.eqv
    rw [this]
    constructor
    · intro h; rw [h]
    · intro h; cases h; rfl
  | .tup _, .lst _, _, _ => by simp [toPy, PyData.eqv]
  | .lst _, .non, _, _ => by simp [toPy, PyData.eqv]
  | .lst _, .int _, _, _ => by simp [toPy, PyData.eqv]
  | .lst _, .str _, _, _ => by simp [toPy, PyData.eqv]
  | .lst _, .tup _, _, _ => by simp [toPy, PyData.eqv]
  | .lst l, .lst m, h1, h2 => by
    have := eqDA_iff l m (by unfold noB at h1; exact h1) (by unfold noB at h2; exact h2)
    show PyData.eqv (.list (toPyA l)) (.list (toPyA m)) = true ↔ _
    unfold PyData.eqv
    rw [this]
    constructor
    · intro h; rw [h]
    · intro h; cases h; rfl
  | .bl _, _, h, _ => by unfold noB at h; cases h
  | .dT _, _, h, _ => by unfold noB at h; cases h
  | .dK _, _, h, _ => by unfold noB at h; cases h
  | .scr _, _, h, _ => by unfold noB at h; cases h
  | .ty _, _, h, _ => by unfold noB at h; cases h
  | .ref _, _, h, _ => by unfold noB at h; cases h
  | _, .bl _, _, h => by unfold noB at h; cases h
  | _, .dT _, _, h => by unfold noB at h; cases h
  | _, .dK _, _, h => by unfold noB at h; cases h
  | _, .scr _, _, h => by unfold noB at h; cases h
  | _, .ty _, _, h => by unfold noB at h; cases h
  | _, .ref _, _, h => by unfold noB at h; cases h
theorem eqDA_iff : ∀ (l m : List D), noBA l = true → noBA m = true → (PyData.eqvAll (toPyA l) (toPyA m) = true ↔ l = m)
  | [], [], _, _ => by simp [toPyA, PyData.eqvAll]
  | [], _ :: _, _, _ => by simp [toPyA, PyData.eqvAll]
  | _ :: _, [], _, _ => by simp [toPyA, PyData.eqvAll]
  | d :: l, e :: m, h1, h2 => by
    have g1 : noB d = true ∧ noBA l = true := by unfold noBA at h1; exact Bool.and_eq_true_iff.mp h1
    have g2 : noB e = true ∧ noBA m = true := by unfold noBA at h2; exact Bool.and_eq_true_iff.mp h2
    have i1 := eqD_iff d e g1.1 g2.1
    have i2 := eqDA_iff l m g1.2 g2.2
    show PyData.eqvAll (toPy d :: toPyA l) (toPy e :: toPyA m) = true ↔ _
    unfold PyData.eqvAll
    rw [Bool.and_eq_true_iff, i1, i2, List.cons.injEq]
end

/-! ### operators of any kind -/
def uAdd (K : PySem.W.Frag) : R2 := fun x y H Q => rI0 (fun i j => .int (i + j)) x y H Q ∨ sAddS x y H Q ∨ rCat x y H Q ∨ rCatA K x y H Q
def uEq (K : PySem.W.Frag) : R2 := fun x y H Q => rEq x y H Q ∨ rEqD K x y H Q
def uNe (K : PySem.W.Frag) : R2 := fun x y H Q => rNe x y H Q ∨ rNeD K x y H Q
def uIn (K : PySem.W.Frag) : R2 := fun x y H Q => rInS x y H Q ∨ rIn K false x y H Q ∨ rInD K x y H Q
def uNin (K : PySem.W.Frag) : R2 := fun x y H Q => rNotInS x y H Q ∨ rIn K true x y H Q ∨ rNotInD K x y H Q
def uSl (K : PySem.W.Frag) : V → Option Int → Option Int → Hp → VK → Prop := fun x l h H Q => rSlS x l h H Q ∨ rSlL K x l h H Q ∨ rSlA K x l h H Q
theorem opr_or {X : Cx} {f : Value → Value → Sem Value} {r r' : R2} (h : OpR X f r) (h' : OpR X f r') : OpR X f (fun x y H Q => r x y H Q ∨ r' x y H Q) := by
  intro pins s σ H x y v u Q I rx ry q
  rcases q with q | q
  · exact h pins s σ H x y v u Q I rx ry q
  · exact h' pins s σ H x y v u Q I rx ry q
section
variable {X : Cx}
theorem op_uAdd : OpR X (binaryOp .Add) (uAdd X.K) := opr_or op_add (opr_or op_add_str (opr_or op_cat op_catA))
theorem op_uEq {k : Nat} (hr : Room k X.A) : OpR X (compareOp .Eq) (uEq X.K) := opr_or op_eq (op_eqD hr.units)
theorem op_uNe {k : Nat} (hr : Room k X.A) : OpR X (compareOp .NotEq) (uNe X.K) := opr_or op_ne (op_neD hr.units)
theorem op_uIn {k : Nat} (hr : Room k X.A) : OpR X (compareOp .In) (uIn X.K) := opr_or op_inS (opr_or op_in_seq (op_inD (by have := hr.un; omega)))
theorem op_uNin {k : Nat} (hr : Room k X.A) : OpR X (compareOp .NotIn) (uNin X.K) := opr_or op_notInS (opr_or op_notIn_seq (op_notInD (by have := hr.un; omega)))
theorem sl_u : SlR X (uSl X.K) := sl_str.or (SlR.or sl_list sl_tupA)
theorem room_u {k : Nat} (hr : Room k X.A) : X.A.units + 1 < cLine := by have := hr.un; omega
end
section
variable {K : PySem.W.Frag} {Z : Ec} {F S0 S S' : Hp} {G : Sl} {σ : L2.St} {H H' : Hp} {Q : R → Sl → Prop} {P : Po}
theorem wR_imp {r r' : R2} (h : ∀ x y H Q, r x y H Q → r' x y H Q) {x y : R} (q : wR K Z r x y G Q) : wR K Z r' x y G Q := fun F S0 S σ H Qr v u s z o1 o2 k => h _ _ _ _ (q F S0 S σ H Qr v u s z o1 o2 k)
theorem wL_imp {r r' : V → Option Int → Option Int → Hp → VK → Prop} (h : ∀ x l u H Q, r x l u H Q → r' x l u H Q) {x : R} {lo hi : Option Int} (q : wL K Z r x lo hi G Q) : wL K Z r' x lo hi G Q := fun F S0 S σ H Qr v s z o k => h _ _ _ _ _ (q F S0 S σ H Qr v s z o k)
/-! #### + -/
theorem u_addI {i j : Int} (q : Q (.sh (.int (i + j))) G) : wR K Z (uAdd K) (.sh (.int i)) (.sh (.int j)) G Q := wR_imp (fun _ _ _ _ h => .inl h) (wR_I0 rfl q)
theorem u_addT {l m : List Nat} (hl : l.length + m.length ≤ 1000000) (q : Q (.sh (tx (l ++ m))) G) : wR K Z (uAdd K) (.sh (tx l)) (.sh (tx m)) G Q := wR_imp (fun _ _ _ _ h => .inr (.inl h)) (wR_addT hl q)
theorem u_addL {x y : R} {ds es : List D} (hx : lv G x = some ds) (hy : lv G y = some es) (hl : ds.length + es.length ≤ 1000000) (q : ∀ a, Q (.ow a (.lst (ds ++ es))) G) : wR K Z (uAdd K) x y G Q := fun F S0 S σ H Qr v u s z o1 o2 k => by
  obtain ⟨a, xs, rfl, h1, h2⟩ := lv_ok hx s o1
  obtain ⟨b, ys, rfl, h3, h4⟩ := lv_ok hy s o2
  refine .inr (.inr (.inl ⟨a, b, xs, ys, rfl, rfl, h1, h3, by rw [h2.len, h4.len]; exact line_of hl, fun p hp => ?_⟩))
  obtain ⟨s2, g1, g2, g3⟩ := s.newow (o := .lst (xs ++ ys)) hp
  exact k _ _ _ _ _ (q p) (Same.refl _) s2 ⟨rfl, g1, g2, ⟨_, upd_same, h2.append h4⟩, g3⟩
theorem u_addU {ds es : List D} (hl : ds.length + es.length ≤ 1000000) (q : Q (.sh (.tup (ds ++ es))) G) : wR K Z (uAdd K) (.sh (.tup ds)) (.sh (.tup es)) G Q := fun F S0 S σ H Qr v u s z o1 o2 k => by
  cases o1; cases o2
  rename_i a xs h1 h2 b ys h3 h4
  refine .inr (.inr (.inr ⟨a, b, xs, ys, rfl, rfl, SqT.of (s.sh _ _ h1), SqT.of (s.sh _ _ h3), by rw [h2.len, h4.len]; exact line_of hl, fun e => ?_, fun _ e => ?_, fun _ _ p hp => ?_⟩))
  · subst e
    cases h2
    exact k.val s q (.tup h3 h4)
  · subst e
    cases h4
    rw [List.append_nil] at q
    exact k.val s q (.tup h1 h2)
  · obtain ⟨m2, s2⟩ := s.newsh (o := .tup (xs ++ ys)) hp
    exact k _ _ _ _ _ q m2 s2 (Rep.tup upd_same ((h2.append h4).mono m2))
/-! #### ==, != -/
theorem u_eqI {i j : Int} (q : Q (.sh (.bl (decide (i = j)))) G) : wR K Z (uEq K) (.sh (.int i)) (.sh (.int j)) G Q := wR_imp (fun _ _ _ _ h => .inl h) (wR_eqI q)
theorem u_neI {i j : Int} (q : Q (.sh (.bl (!decide (i = j)))) G) : wR K Z (uNe K) (.sh (.int i)) (.sh (.int j)) G Q := wR_imp (fun _ _ _ _ h => .inl h) (wR_neI q)
theorem u_eqT {l m : List Nat} (q : Q (.sh (.bl (decide (l = m)))) G) : wR K Z (uEq K) (.sh (tx l)) (.sh (tx m)) G Q := wR_imp (fun _ _ _ _ h => .inl h) (wR_eqT q)
theorem u_neT {l m : List Nat} (q : Q (.sh (.bl (!decide (l = m)))) G) : wR K Z (uNe K) (.sh (tx l)) (.sh (tx m)) G Q := wR_imp (fun _ _ _ _ h => .inl h) (wR_neT q)
theorem u_eqB {i j : Bool} (q : Q (.sh (.bl (decide (i = j)))) G) : wR K Z (uEq K) (.sh (.bl i)) (.sh (.bl j)) G Q := wR_imp (fun _ _ _ _ h => .inl h) (wR_eqB q)
theorem u_neB {i j : Bool} (q : Q (.sh (.bl (!decide (i = j)))) G) : wR K Z (uNe K) (.sh (.bl i)) (.sh (.bl j)) G Q := wR_imp (fun _ _ _ _ h => .inl h) (wR_neB q)
theorem u_eqV {x y : D} {v u : V} (hx : dV x = some v) (hy : dV y = some u) (hs : scal v u = true) (q : Q (.sh (.bl (decide (v = u)))) G) : wR K Z (uEq K) (.sh x) (.sh y) G Q := wR_imp (fun _ _ _ _ h => .inl h) (wR_eq hx hy hs q)
theorem u_neV {x y : D} {v u : V} (hx : dV x = some v) (hy : dV y = some u) (hs : scal v u = true) (q : Q (.sh (.bl (!decide (v = u)))) G) : wR K Z (uNe K) (.sh x) (.sh y) G Q := wR_imp (fun _ _ _ _ h => .inl h) (wR_ne hx hy hs q)
theorem u_eqD {x y : R} {d e : D} (hx : dv G x = some d) (hy : dv G y = some e) (h1 : dat 64 d = true) (h2 : dat 64 e = true) (q : Q (.sh (.bl (eqD d e))) G) : wR K Z (uEq K) x y G Q := fun F S0 S σ H Qr v u s z o1 o2 k =>
  .inr ⟨_, _, dp_rep h1 (dv_rep hx s o1), dp_rep h2 (dv_rep hy s o2), dat_shaped h1, dat_shaped h2, k.val s q (.bl _)⟩
theorem u_neD {x y : R} {d e : D} (hx : dv G x = some d) (hy : dv G y = some e) (h1 : dat 64 d = true) (h2 : dat 64 e = true) (q : Q (.sh (.bl (!eqD d e))) G) : wR K Z (uNe K) x y G Q := fun F S0 S σ H Qr v u s z o1 o2 k =>
  .inr ⟨_, _, dp_rep h1 (dv_rep hx s o1), dp_rep h2 (dv_rep hy s o2), dat_shaped h1, dat_shaped h2, k.val s q (.bl _)⟩
/-! #### in, not in -/
theorem u_inS {c : Nat} {m : List Nat} (q : Q (.sh (.bl (decide (c ∈ m)))) G) : wR K Z (uIn K) (.sh (tx [c])) (.sh (tx m)) G Q := wR_imp (fun _ _ _ _ h => .inl h) (wR_inS q)
theorem u_ninS {c : Nat} {m : List Nat} (q : Q (.sh (.bl (!decide (c ∈ m)))) G) : wR K Z (uNin K) (.sh (tx [c])) (.sh (tx m)) G Q := wR_imp (fun _ _ _ _ h => .inl h) (wR_ninS q)
theorem u_inF {d : D} {y : R} {ds : List D} (h : lv G y = some ds ∨ y = .sh (.tup ds)) (hx : flatD d = true) (ha : ds.all flatD = true) (q : Q (.sh (.bl (ds.any fun e => eqF e d))) G) : wR K Z (uIn K) (.sh d) y G Q := wR_imp (fun _ _ _ _ h => .inr (.inl h)) (wR_in h hx ha (by simpa using q))
theorem u_ninF {d : D} {y : R} {ds : List D} (h : lv G y = some ds ∨ y = .sh (.tup ds)) (hx : flatD d = true) (ha : ds.all flatD = true) (q : Q (.sh (.bl (!(ds.any fun e => eqF e d)))) G) : wR K Z (uNin K) (.sh d) y G Q := wR_imp (fun _ _ _ _ h => .inr (.inl h)) (wR_in h hx ha (by simpa using q))
theorem u_inT {l : List Nat} {y : R} {ls : List (List Nat)} (h : lv G y = some (ls.map tx)) (q : Q (.sh (.bl (decide (l ∈ ls)))) G) : wR K Z (uIn K) (.sh (tx l)) y G Q := wR_imp (fun _ _ _ _ h => .inr (.inl h)) (wR_inT h q)
theorem u_ninT {l : List Nat} {y : R} {ls : List (List Nat)} (h : lv G y = some (ls.map tx)) (q : Q (.sh (.bl (!decide (l ∈ ls)))) G) : wR K Z (uNin K) (.sh (tx l)) y G Q := wR_imp (fun _ _ _ _ h => .inr (.inl h)) (wR_ninT h q)
theorem toPyA_any (f : PyData → Bool) : ∀ ds : List D, (toPyA ds).any f = ds.any fun d => f (toPy d)
  | [] => rfl
  | d :: ds => by
    show (toPy d :: toPyA ds).any f = _
    rw [List.any_cons, List.any_cons, toPyA_any f ds]
theorem u_inD {x y : R} {d : D} {ds : List D} (hx : dv G x = some d) (hy : dv G y = some (.lst ds)) (h1 : dat 64 d = true) (h2 : dat 64 (.lst ds) = true) (q : Q (.sh (.bl (ds.any fun e => eqD e d))) G) : wR K Z (uIn K) x y G Q := fun F S0 S σ H Qr v u s z o1 o2 k =>
  .inr (.inr ⟨_, toPyA ds, dp_rep h1 (dv_rep hx s o1), dp_rep h2 (dv_rep hy s o2), dat_shaped h1, dat_shaped h2, k.val s q (by rw [toPyA_any]; exact .bl _)⟩)
theorem u_ninD {x y : R} {d : D} {ds : List D} (hx : dv G x = some d) (hy : dv G y = some (.lst ds)) (h1 : dat 64 d = true) (h2 : dat 64 (.lst ds) = true) (q : Q (.sh (.bl (!(ds.any fun e => eqD e d)))) G) : wR K Z (uNin K) x y G Q := fun F S0 S σ H Qr v u s z o1 o2 k =>
  .inr (.inr ⟨_, toPyA ds, dp_rep h1 (dv_rep hx s o1), dp_rep h2 (dv_rep hy s o2), dat_shaped h1, dat_shaped h2, k.val s q (by rw [toPyA_any]; exact .bl _)⟩)
/-! #### slices, items -/
theorem u_slS {l : List Nat} {lo hi : Option Int} (hl : l.length ≤ 1000000) (q : Q (.sh (tx (cut l lo hi))) G) : wL K Z (uSl K) (.sh (tx l)) lo hi G Q := wL_imp (fun _ _ _ _ _ h => .inl h) (wL_S hl q)
theorem u_slL {x : R} {ds : List D} {lo hi : Option Int} (h : lv G x = some ds) (q : ∀ a, Q (.ow a (.lst (cut ds lo hi))) G) : wL K Z (uSl K) x lo hi G Q := wL_imp (fun _ _ _ _ _ h => .inr (.inl h)) (wL_L h q)
theorem u_slT {ds : List D} {lo hi : Option Int} (q : Q (.sh (.tup (cut ds lo hi))) G) : wL K Z (uSl K) (.sh (.tup ds)) lo hi G Q := wL_imp (fun _ _ _ _ _ h => .inr (.inr h)) (wL_T q)
theorem u_ixL {x : R} {ds : List D} {i : Int} {d : D} (h : lv G x = some ds) (hi : atI ds i = some d) (q : Q (.sh d) G) : wR K Z (rIx K) x (.sh (.int i)) G Q := wR_imp (fun _ _ _ _ h => .inl h) (wR_ixL h hi q)
theorem u_ixC {ns : List Int} {i n : Int} (hi : atI ns i = some n) (q : Q (.sh (.int n)) G) : wR K Z (rIx K) (.sh (.scr ns)) (.sh (.int i)) G Q := wR_imp (fun _ _ _ _ h => .inl h) (wR_ixC hi q)
theorem u_ixT {ds : List D} {i : Int} {d : D} (hi : atI ds i = some d) (q : Q (.sh d) G) : wR K Z (rIx K) (.sh (.tup ds)) (.sh (.int i)) G Q := wR_imp (fun _ _ _ _ h => .inr (.inl h)) (wR_ixT hi q)
theorem u_ixS {l : List Nat} {i : Int} {c : Nat} (hl : l.length ≤ 1000000) (hi : atI l i = some c) (q : Q (.sh (tx [c])) G) : wR K Z (rIx K) (.sh (tx l)) (.sh (.int i)) G Q := wR_imp (fun _ _ _ _ h => .inr (.inr h)) (wR_ixS hl hi q)
/-! #### chains -/
theorem wE_chain {r r' : R2} {ta tb tc : TE} (h : wE K Z ta G fun x G1 => wE K Z tb G1 fun y G2 => wR K Z r (fz x) (fz y) G2 fun t G3 => ∃ b, t = .sh (.bl b) ∧ (b = true → wE K Z tc G3 fun w G4 => wR K Z r' (fz y) (fz w) G4 Q) ∧ (b = false → Q (.sh (.bl false)) G3)) :
    wE K Z (tChain r r' ta tb tc) G Q := fun F S0 S σ H Qr s z k =>
  evF h s z fun x G1 v S1 H1 h1 m1 s1 o1 => evF h1 s1 z fun y G2 u S2 H2 h2 m2 s2 o2 => by
    refine h2 F S0 S2 σ H2 _ v u s2 z (o1.mono m2) o2 fun t G3 w S3 H3 q m3 s3 o3 => ?_
    obtain ⟨b, rfl, q1, q2⟩ := q
    cases o3
    refine ⟨b, rfl, ?_⟩
    cases b with
    | true => exact evF (q1 rfl) s3 z fun w G4 e S4 H4 h4 m4 s4 o4 => h4 F S0 S4 σ H4 Qr u e s4 z (o2.mono (m3.trans m4)) o4 (k.from (m1.trans (m2.trans (m3.trans m4))))
    | false => exact (k.from (m1.trans (m2.trans m3))).val s3 (q2 rfl) (.bl _)
end

/-! ### calls by a bundle -/
/-- the def that stands at the module's name x keeps φ -/
structure Cal (P : Program) (w : World) (K : PySem.W.Frag) (mg : Str → Option Value) (base : Heap) (CX : CXT) (k : Nat) (x : Str) (ps : List Str) (φ : Phi) : Prop where
  ex : ∃ f fd, FnOk P w K mg base CX k f fd ps (mkSp K φ) ∧ mg x = some (.ref f) ∧ PySem.W.keepIn K (.ref f) = true ∧ Binds K fd ps []
section
variable {X : Cx} {CX : CXT} {k : Nat} {ps : List Str} {φ : Phi} {E : XK} {x : Str} {p pos : Pos} {e : Expr} {es : List Expr} {t : TA}
theorem pe_cal (G : Cal X.prog X.w X.K X.mg X.base CX k x ps φ) (hr : Room k X.A) (hg : Gl X x) (hx : Passes CX X E)
    (ha : PA X (e :: es) t) (hdb : (x == ("__debug__" : Str)) = false := by decide) (he : starEach (e :: es) X.env = (false, eval e X.env) :: starEach es X.env := by rfl) (hpl : (backTo pos (starEach es X.env)).any (·.1) = false := by rfl) :
    PE X (.Call (.Name x p) (e :: es) [] pos) (tCall (mkSp X.K φ) [] E t) := by
  obtain ⟨f, fd, h1, h2, h3, h4⟩ := G.ex
  exact pe_call h1 hr hg h2 h3 h4 .nil hx ha hdb he hpl
theorem pe_cal0 (G : Cal X.prog X.w X.K X.mg X.base CX k x ps φ) (hr : Room k X.A) (hg : Gl X x) (hx : Passes CX X E) (hdb : (x == ("__debug__" : Str)) = false := by decide) :
    PE X (.Call (.Name x p) [] [] pos) (tCall (mkSp X.K φ) [] E tNil) := by
  obtain ⟨f, fd, h1, h2, h3, h4⟩ := G.ex
  exact pe_call0 h1 hr hg h2 h3 h4 .nil hx hdb
/-- a module's constant -/
theorem pe_gl {v : V} (hg : Gl X x) (h : ∃ u, X.mg x = some u ∧ RelV v u) (hd : (x == ("__debug__" : Str)) = false := by decide) : PE X (.Name x pos) (tC v) := by
  obtain ⟨u, h1, h2⟩ := h
  exact pe_glob hg h1 h2 hd
end
/-! ### texts as constants, errors, the built-ins' names -/
theorem pe_strL {X : Cx} {x : Str} {l : List Nat} {j pos} (h : x = mk l) : PE X (.Constant (.str x) j pos) (tC (.str (mk l))) := h ▸ pe_str
structure ErA where
  rule : Addr
  name : Addr
  endless : Addr
  text : Addr
  deeds : Addr
  mend : Addr
structure ExF (K : PySem.W.Frag) (mg : Str → Option Value) (x : Str) (C : Addr) : Prop where
  gC : mg x = some (.ref C)
  xC : PySem.W.excIn K C [.type "ValueError", .type "Exception", .type "BaseException", .type "object"] "ValueError.__new__" = true
  kC : PySem.W.keepIn K (.ref C) = true
  r1 : PySem.W.subIn K (.ref C) (.type "BaseException") = some true
  r2 : PySem.W.typeIn K (.ref C) = some (.type "type")
theorem ps_rz {X : Cx} {E : XK} {C : Addr} {x m : Str} {j : Nat} {p p2 pos pos2 : Pos} (hc : X.calm = true) (tk : Takes X (fun cls d _ H => E cls d H)) (T : ExF X.K X.mg x C) (hg : Gl X x) (hdb : (x == ("__debug__" : Str)) = false := by decide) :
    PS X (.Raise (some (.Call (.Name x p) [.Constant (.str m) j p2] [] pos)) none pos2) (tRaise E (.ref C)) := ps_raise hc tk (pmk_own PySem.F.excBase_ValueError T.xC T.gC T.kC (raises_own T.r1 T.r2) hg hdb)
structure Bi (mg : Str → Option Value) : Prop where
  len : mg "len" = none
  range : mg "range" = none
  isinstance : mg "isinstance" = none
  int : mg "int" = none
  list : mg "list" = none
  tuple : mg "tuple" = none
  str : mg "str" = none
  dict : mg "dict" = none
  bool : mg "bool" = none
  all : mg "all" = none
  max : mg "max" = none
  min : mg "min" = none
  sorted : mg "sorted" = none
  reversed : mg "reversed" = none
def lettersL : List Nat := [97, 98, 99, 100, 101, 102, 103, 104, 105, 106, 107, 108, 109, 110, 111, 112, 113, 114, 115, 116, 117, 118, 119, 120, 121, 122]
def greatL : List Nat := [65, 66, 67, 68, 69, 70, 71, 72, 73, 74, 75, 76, 77, 78, 79, 80, 81, 82, 83, 84, 85, 86, 87, 88, 89, 90]
def lowL : List Nat := [32, 33, 34, 35, 36, 38, 39, 40, 41, 42, 43, 44, 45, 46, 47, 48, 49, 50, 51, 52, 53, 54, 55, 56, 57, 58, 59, 60, 61, 62, 63, 64]
def midL : List Nat := [91, 92, 93, 94, 95, 96]
def endL : List Nat := [123, 124, 125, 126]
def signsL : List Nat := lowL ++ greatL ++ midL ++ lettersL ++ endL
@[reducible] def rMulT : R2 := fun x y H Q => ∃ (l : List Nat) (n : Int), x = .str (mk l) ∧ y = .int n ∧ (n = 0 ∨ n = 1) ∧ Q (.str (mk (if n = 1 then l else []))) H
theorem op_mulT {X : Cx} : OpR X (binaryOp .Mult) rMulT := by
  intro pins s σ H x y v u Q I rx ry h
  obtain ⟨l, n, rfl, rfl, hn, q⟩ := h
  obtain ⟨t, rfl⟩ := rx
  obtain ⟨t', rfl⟩ := ry
  rcases hn with rfl | rfl
  · exact PySem.P.mul_str_none (by decide) (by decide) ⟨.str (mk []), H, I.tok _, ⟨_, rfl⟩, q⟩
  · refine PySem.P.mul_str (by decide) (fun _ h => by simp at h) (fun _ h => by simp at h) ?_
    exact ⟨.str (mk l), H, I, ⟨_, rfl⟩, q⟩
def uMul : R2 := fun x y H Q => rI CMul (fun i j => .int (i * j)) x y H Q ∨ rMulT x y H Q
theorem op_uMul {X : Cx} : OpR X (binaryOp .Mult) uMul := opr_or op_mul op_mulT
section
variable {K : PySem.W.Frag} {Z : Ec} {G : Sl} {Q : R → Sl → Prop}
theorem u_mulI {i j : Int} (h : (-(2 ^ 64) < i ∧ i < 2 ^ 64) ∨ (-(2 ^ 64) < j ∧ j < 2 ^ 64)) (q : Q (.sh (.int (i * j))) G) : wR K Z uMul (.sh (.int i)) (.sh (.int j)) G Q := wR_imp (fun _ _ _ _ h => .inl h) (wR_I h rfl q)
theorem u_mulT {l : List Nat} {n : Int} (h : n = 0 ∨ n = 1) (q : Q (.sh (tx (if n = 1 then l else []))) G) : wR K Z uMul (.sh (tx l)) (.sh (.int n)) G Q := fun F S0 S σ H Qr v u s z o1 o2 k => by
  cases o1; cases o2
  exact .inr ⟨l, n, rfl, rfl, h, k.val s q (.str _)⟩
end
theorem rt_sh {Q : R → Prop} {G : Sl} {d : D} (q : Q (.sh d)) : (PoQ Q).rt (.sh d) G := q
theorem rt_ow {Q : R → Prop} {G : Sl} {a : Addr} {m : Mo} (q : Q (.ow a m)) : (PoQ Q).rt (.ow a m) G := q
theorem nx_non {Q : R → Prop} {G : Sl} (q : Q (.sh .non)) : (PoQ Q).nx G := q
theorem q_bl {Q : R → Prop} {b c : Bool} (q : Q (.sh (.bl c))) (h : b = c) : Q (.sh (.bl b)) := h ▸ q
theorem q_sh {Q : R → Prop} {b c : D} (q : Q (.sh c)) (h : b = c) : Q (.sh b) := h ▸ q
theorem rput_sh {i : Nat} {G : Sl} {d : D} {Q : Sl → Prop} (h : Nat.blt i G.length = true) (q : Q (G.set i (.sh d))) : rput (.sh d) i G Q := ⟨h, q⟩
theorem rput_ow {i : Nat} {G : Sl} {a : Addr} {m : Mo} {Q : Sl → Prop} (h : Nat.blt i G.length = true) (q : Q (G.set i (.ow a m))) : rput (.ow a m) i G Q := ⟨h, q⟩
theorem b_tt {P Q : Prop} (h : P) : (true = true → P) ∧ (true = false → Q) := ⟨fun _ => h, fun e => Bool.noConfusion e⟩
theorem b_ff {P Q : Prop} (h : Q) : (false = true → P) ∧ (false = false → Q) := ⟨fun e => Bool.noConfusion e, fun _ => h⟩
theorem b_dec {c P Q : Prop} [Decidable c] (h1 : c → P) (h2 : ¬ c → Q) : (decide c = true → P) ∧ (decide c = false → Q) := ⟨fun e => h1 (of_decide_eq_true e), fun e => h2 (of_decide_eq_false e)⟩
theorem b_not {b : Bool} {P Q : Prop} (h : (b = true → Q) ∧ (b = false → P)) : ((!b) = true → P) ∧ ((!b) = false → Q) := by
  cases b with
  | true => exact ⟨fun e => Bool.noConfusion e, fun _ => h.1 rfl⟩
  | false => exact ⟨fun _ => h.2 rfl, fun e => Bool.noConfusion e⟩
theorem b_any {b : Bool} {P Q : Prop} (h1 : b = true → P) (h2 : b = false → Q) : (b = true → P) ∧ (b = false → Q) := ⟨h1, h2⟩
theorem b_decT {c P Q : Prop} [Decidable c] (h : c) (h1 : P) : (decide c = true → P) ∧ (decide c = false → Q) := ⟨fun _ => h1, fun e => absurd h (of_decide_eq_false e)⟩
theorem b_decF {c P Q : Prop} [Decidable c] (h : ¬ c) (h1 : Q) : (decide c = true → P) ∧ (decide c = false → Q) := ⟨fun e => absurd (of_decide_eq_true e) h, fun _ => h1⟩
theorem b_or {x y : Bool} {P Q : Prop} (h : (x = true → P) ∧ (x = false → (y = true → P) ∧ (y = false → Q))) : ((x || y) = true → P) ∧ ((x || y) = false → Q) := by
  cases x with
  | true => exact ⟨fun _ => h.1 rfl, fun e => Bool.noConfusion e⟩
  | false => exact h.2 rfl
theorem b_and {x y : Bool} {P Q : Prop} (h : (x = true → (y = true → P) ∧ (y = false → Q)) ∧ (x = false → Q)) : ((x && y) = true → P) ∧ ((x && y) = false → Q) := by
  cases x with
  | true => exact h.1 rfl
  | false => exact ⟨fun e => Bool.noConfusion e, fun _ => h.2 rfl⟩
section
variable {K : PySem.W.Frag} {Z : Ec} {G : Sl} {Q : R → Sl → Prop}
theorem u_ninI2 {n a b : Int} (q : Q (.sh (.bl (!(decide (n = a) || decide (n = b))))) G) : wR K Z (uNin K) (.sh (.int n)) (.sh (.tup [.int a, .int b])) G Q := u_ninF (.inr rfl) rfl rfl (by
  have e : (([.int a, .int b] : List D).any fun e => eqF e (.int n)) = (decide (n = a) || decide (n = b)) := by
    show ((a == n) || ((b == n) || false)) = _
    rw [Bool.or_false, Bool.beq_eq_decide_eq, Bool.beq_eq_decide_eq, decide_eq_decide.mpr (eq_comm (a := a)), decide_eq_decide.mpr (eq_comm (a := b))]
  rw [e]; exact q)
end
/-! ### texts of a fit size -/
def Tx (l : List Nat) : Prop := l.length ≤ 100000 ∧ ∀ c ∈ l, c < 1114112
theorem fmod_rng (x : Int) {n : Int} (h : 0 < n) : 0 ≤ x.fmod n ∧ x.fmod n < n := by
  rw [Int.fmod_eq_emod_of_nonneg x (by omega)]
  exact ⟨Int.emod_nonneg x (by omega), Int.emod_lt_of_pos x h⟩
theorem atI_at {α : Type} {l : List α} {i : Int} {x : α} (h0 : 0 ≤ i) (h : l[i.toNat]? = some x) : atI l i = some x := by
  have e : i = ((i.toNat : Nat) : Int) := by omega
  rw [e]
  exact atI_nat h
theorem atI_d {α : Type} {l : List α} {i : Int} (d : α) (h0 : 0 ≤ i) (h : i < l.length) : atI l i = some (l.getD i.toNat d) := by
  refine atI_at h0 ?_
  rw [List.getD_eq_getElem?_getD, List.getElem?_eq_getElem (by omega)]
  rfl
theorem getD_mem {α : Type} {l : List α} {i : Nat} (d : α) (h : i < l.length) : l.getD i d ∈ l := by
  rw [List.getD_eq_getElem?_getD, List.getElem?_eq_getElem h]
  exact List.getElem_mem h
section
variable {K : PySem.W.Frag} {Z : Ec} {G : Sl} {Q : R → Sl → Prop}
theorem wM_join1 {x : R} {n : Nat} {g : Nat → Nat} (h : lv G x = some ((List.range n).map fun i => tx [g i])) (hl : n ≤ 1000000) (q : Q (.sh (tx ((List.range n).map g))) G) : wM K Z (mJoin K) (.sh (tx [])) [x] G Q := by
  have e : ((List.range n).map fun i => tx [g i]) = ((List.range n).map fun i => [g i]).map tx := by rw [List.map_map]; rfl
  refine wM_join (ls := (List.range n).map fun i => [g i]) (by rw [h, e]) ?_ ?_
  · rw [List.map_map]
    have : ((List.length ∘ fun i => [g i]) : Nat → Nat) = fun _ => 1 := rfl
    rw [this, List.map_const', List.sum_replicate_nat, List.length_range]
    omega
  · have e2 : ((List.range n).map fun i => [g i]).flatten = (List.range n).map g := by
      rw [← List.flatMap_def]
      induction (List.range n) with
      | nil => rfl
      | cons a l ih => rw [List.flatMap_cons, ih]; rfl
    rw [e2]; exact q
end
section
variable {K : PySem.W.Frag} {Z : Ec} {G : Sl} {Q : R → Sl → Prop}
/-- an item at a remainder -/
theorem u_ixSm {l : List Nat} {x n : Int} (h0 : 0 < n) (hn : n ≤ l.length) (hl : l.length ≤ 1000000) (q : Q (.sh (tx [l.getD (x.fmod n).toNat 0])) G) : wR K Z (rIx K) (.sh (tx l)) (.sh (.int (x.fmod n))) G Q := by
  have h := fmod_rng x h0
  exact u_ixS hl (atI_d 0 h.1 (by omega)) q
theorem u_ixLm {y : R} {ds : List D} {x n : Int} (hy : lv G y = some ds) (h0 : 0 < n) (hn : n ≤ ds.length) (q : Q (.sh (ds.getD (x.fmod n).toNat .non)) G) : wR K Z (rIx K) y (.sh (.int (x.fmod n))) G Q := by
  have h := fmod_rng x h0
  exact u_ixL hy (atI_d .non h.1 (by omega)) q
/-- an item at a place in bounds -/
theorem u_ixSd {l : List Nat} {i : Int} (h0 : 0 ≤ i) (hi : i < l.length) (hl : l.length ≤ 1000000) (q : Q (.sh (tx [l.getD i.toNat 0])) G) : wR K Z (rIx K) (.sh (tx l)) (.sh (.int i)) G Q := u_ixS hl (atI_d 0 h0 hi) q
theorem u_ixLd {y : R} {ds : List D} {i : Int} (hy : lv G y = some ds) (h0 : 0 ≤ i) (hi : i < ds.length) (q : Q (.sh (ds.getD i.toNat .non)) G) : wR K Z (rIx K) y (.sh (.int i)) G Q := u_ixL hy (atI_d .non h0 hi) q
end
end PL

/-! PT: defs that change their first argument. -/
namespace PL
open PySem PySem.Spec PyProof.Rows L2

abbrev PhiM := Mo → List D → (Mo → Prop) → Prop
/-- the first argument is an owned object, which is changed; rb: it is handed back, else None is -/
def mkSpM (K : PySem.W.Frag) (rb : Bool) (φ : PhiM) : Sp := fun vs H Q _ => ∃ a m us ds S M, vs = .ref a :: us ∧ S a = none ∧ MoOk K S H a m ∧ RepA K S us ds ∧ Same S H ∧ φ m ds M ∧
  ∀ m', M m' → ∀ S' H', (∀ b o, b ≠ a → H b = some o → H' b = some o ∧ ((∀ xs, o ≠ .tup xs) → S' b = S b)) → Same S' H' → Same S S' → S' a = none → MoOk K S' H' a m' → Q (if rb = true then .ref a else .non) H'
def G0M (N : List Str) (a : Addr) (m : Mo) (ds : List D) : Sl := .ow a m :: (ds.map Slot.sh ++ List.replicate (N.length - (ds.length + 1)) .no)
def PoM (rb : Bool) (a : Addr) (M : Mo → Prop) : Po :=
  if rb = true then ⟨fun _ => False, fun r _ => match r with | .ow b m => b = a ∧ M m | _ => False, fun _ => False, fun _ => False⟩
  else ⟨fun G => ∃ m, G[0]? = some (.ow a m) ∧ M m, fun _ _ => False, fun _ => False, fun _ => False⟩
section
variable {K : PySem.W.Frag} {Z : Ec} {F S0 S S' : Hp} {G : Sl} {σ : L2.St} {H H' : Hp} {Q : R → Sl → Prop} {P : Po}
theorem Sat.startM {N : List Str} {a : Addr} {m : Mo} {ds : List D} {us : List V} (hS : S a = none) (hm : MoOk K S H a m) (h : RepA K S us ds) (s : Same S H) : Sat K (fun b => open Classical in if b = a then none else H b) S (G0M N a m ds) S (L2.start N (.ref a :: us)) H := by
  have hl := h.len
  have F0 : ∀ {b : Addr} {o : HO}, (if b = a then none else H b) = some o → b ≠ a ∧ H b = some o := fun {b o} e => by
    by_cases hb : b = a
    · rw [if_pos hb] at e; cases e
    · rw [if_neg hb] at e; exact ⟨hb, e⟩
  have sl : ∀ (i : Nat) (sl : Slot), (ds.map Slot.sh ++ List.replicate (N.length - (ds.length + 1)) .no)[i]? = some sl → sl = .no ∨ ∃ d v, sl = .sh d ∧ us[i]? = some v ∧ Rep K S v d ∧ i < ds.length := fun i sl e => by
    by_cases hi : i < ds.length
    · rw [List.getElem?_append_left (by simpa using hi), List.getElem?_map, List.getElem?_eq_getElem hi] at e
      cases e
      obtain ⟨v, h1, h2⟩ := h.get (List.getElem?_eq_getElem hi)
      exact .inr ⟨_, v, rfl, h1, h2, hi⟩
    · rw [List.getElem?_append_right (by simpa using hi), List.getElem?_replicate] at e
      split at e
      · cases e; exact .inl rfl
      · cases e
  refine ⟨by simp [G0M, L2.start, hl], s, fun b o e => (F0 e).2, fun _ _ _ _ => rfl, fun i x e => ?_, fun i j b mo mo' e1 e2 => ?_⟩
  · cases i with
    | zero =>
      cases e
      exact ⟨rfl, if_pos rfl, hS, hm⟩
    | succ i =>
      rcases sl i x (by simpa [G0M] using e) with rfl | ⟨d, v, rfl, h1, h2, h3⟩
      · trivial
      · refine ⟨v, ?_, h2⟩
        unfold L2.start
        rw [List.getElem?_append_left (by rw [List.length_map, List.length_cons, hl]; omega), List.getElem?_map, List.getElem?_cons_succ, h1]; rfl
  · have z : ∀ (i : Nat) (b : Addr) (mo : Mo), (G0M N a m ds)[i]? = some (.ow b mo) → i = 0 := fun i b mo e => by
      cases i with
      | zero => rfl
      | succ i =>
        rcases sl i _ (by simpa [G0M] using e) with e | ⟨d, v, e, _⟩ <;> cases e
    rw [z i b mo e1, z j b mo' e2]
theorem body_okM {N : List Str} {rb : Bool} {φ : PhiM} {t : TS} {E : XK} {vs : List V} {Qr : VK} (hw : ∀ a m ds M, φ m ds M → wS K ⟨E, fun _ => False⟩ t (G0M N a m ds) (PoM rb a M)) (h : mkSpM K rb φ vs H Qr E) :
    t { nx := fun _ H' => Qr .non H', rt := Qr } (L2.start N vs) H := by
  obtain ⟨a, m, us, ds, S, M, rfl, hS, hm, h1, h2, h3, h4⟩ := h
  have F0 : ∀ {b : Addr} {o : HO}, b ≠ a → H b = some o → (fun b => open Classical in if b = a then none else H b) b = some o := fun {b o} hb e => by
    show (if b = a then none else H b) = some o
    rw [if_neg hb]; exact e
  refine hw a m ds M h3 _ S S _ H _ (Sat.startM hS hm h1 h2) (fun c H' x _ => x.elim) ?_
  cases rb with
  | false =>
    refine ⟨fun G' S' σ' H' q mm s => ?_, fun r G' v S' σ' H' q _ _ _ => q.elim, fun _ _ _ _ q => q.elim, fun _ _ _ _ q => q.elim⟩
    obtain ⟨m', e, q⟩ := q
    obtain ⟨_, _, g3, g4⟩ := s.val 0 _ e
    exact h4 m' q S' H' (fun b o hb e => ⟨s.fr b o (F0 hb e), s.am b o (F0 hb e)⟩) s.sh mm g3 g4
  | true =>
    refine ⟨fun _ _ _ _ q => q.elim, fun r G' v S' σ' H' q mm s o => ?_, fun _ _ _ _ q => q.elim, fun _ _ _ _ q => q.elim⟩
    cases r with
    | sh d => exact q.elim
    | bo i => exact q.elim
    | ow b mo =>
      obtain ⟨rfl, q⟩ := q
      obtain ⟨rfl, _, g3, g4, _⟩ := o
      exact h4 mo q S' H' (fun b o hb e => ⟨s.fr b o (F0 hb e), s.am b o (F0 hb e)⟩) s.sh mm g3 g4
theorem mkSpM_len {rb : Bool} {φ : PhiM} {n : Nat} (hl : ∀ m ds M, φ m ds M → ds.length + 1 = n) : ∀ vs H Q E, mkSpM K rb φ vs H Q E → vs.length = n := fun vs H Q E h => by
  obtain ⟨a, m, us, ds, S, M, rfl, _, _, h1, _, h3, _⟩ := h
  rw [List.length_cons, h1.len]; exact hl _ _ _ h3
theorem fn_pureM {P : Program} {w : World} {mg : Str → Option Value} {base : Heap} {x qual : Str} {st : Stmt} {f : Addr} {fd : FuncData} {N ps : List Str} {k : Nat} {rb : Bool} {φ : PhiM} {t : TS} (F : Fun K x qual st f fd) (Sc : FnScope N ps (defScope st)) (hl : ∀ m ds M, φ m ds M → ds.length + 1 = ps.length)
    (hw : ∀ a m ds M, φ m ds M → ∀ E, wS K ⟨E, fun _ => False⟩ t (G0M N a m ds) (PoM rb a M))
    (hb : ∀ (cdv : Value) (A : Around) (outer : List Env) (s : Shared) (H : Hp) (E : XK), Room k (A.deeper (envOfC qual (defScope st) s.heap.objs.size f cdv)) → PSs (cxOf CX0 P w K mg base N qual (defScope st) f cdv A outer s H E).nox (defBody st) t) :
    FnOk P w K mg base CX0 (k + 1) f fd ps (mkSpM K rb φ) :=
  F.ok Sc (mkSpM_len hl) fun cdv A outer s H vs Q E hr h => ⟨t, hb cdv A outer s H E hr, body_okM (fun a m ds M h => hw a m ds M h E) h⟩
def flatM : Mo → Bool
  | .lst ds => flatA ds
  | _ => true
def noI (i : Nat) : List R → Bool
  | [] => true
  | .bo j :: rs => !(Nat.beq j i) && noI i rs
  | _ :: rs => noI i rs
theorem noI_ne {i j : Nat} : ∀ {rs : List R}, noI i rs = true → R.bo j ∈ rs → j ≠ i
  | [], _, h => by cases h
  | .bo k :: rs, h, hm => by
    have h' := Bool.and_eq_true_iff.mp h
    rcases List.mem_cons.mp hm with e | hm
    · cases e
      intro e
      subst e
      rw [Nat.beq_refl] at h'; exact Bool.noConfusion h'.1
    · exact noI_ne h'.2 hm
  | .sh d :: rs, h, hm => by
    rcases List.mem_cons.mp hm with e | hm
    · cases e
    · exact noI_ne (rs := rs) h hm
  | .ow a m :: rs, h, hm => by
    rcases List.mem_cons.mp hm with e | hm
    · cases e
    · exact noI_ne (rs := rs) h hm
theorem call_coreM {rb : Bool} {φ : PhiM} {E' : XK} {i : Nat} {a : Addr} {m : Mo} {rs : List R} {vs : List V} {v0 : V} {ds : List D} {Qr : VK} (s : Sat K F S0 G S σ H) (o0 : FOk K S σ (.bo i) v0) (o : FsOk K S σ rs vs) (ei : G[i]? = some (.ow a m)) (hd : dsOf G rs = some ds) (hn : noI i rs = true)
    (hφ : φ m ds fun m' => (noBo rs = true ∨ flatM m' = true) ∧ Q (if rb = true then .bo i else .sh .non) (G.set i (.ow a m'))) (k : kE K F S0 S σ Q Qr) : mkSpM K rb φ (v0 :: vs) H Qr E' := by
  have own : ∀ {b : Addr}, Lent G rs b → ∃ m, F b = none ∧ S b = none ∧ MoOk K S H b m := fun {b} ⟨i, m, _, e⟩ => ⟨m, (s.val i _ e).2⟩
  obtain ⟨ea, fa, sa, ma⟩ := s.val i _ ei
  have o0' : σ[i]? = some (some v0) := o0
  rw [ea] at o0'
  cases o0'
  have nla : ¬ Lent G rs a := fun ⟨j, m', hj, e⟩ => noI_ne hn hj (s.sep _ _ _ _ _ e ei)
  have lS : ∀ {b : Addr}, ¬ Lent G rs b → lendS G rs S H b = S b := fun {b} h => by unfold lendS; rw [if_neg h]
  have m1 : Same S (lendS G rs S H) := fun b u e => by
    rw [lS]
    · exact e
    · intro h
      obtain ⟨_, _, h2, _⟩ := own h
      rw [h2] at e; cases e
  have m2 : Same (lendS G rs S H) H := fun b u e => by
    unfold lendS at e
    by_cases h : Lent G rs b
    · rw [if_pos h] at e; exact e
    · rw [if_neg h] at e; exact s.sh b u e
  refine ⟨a, m, vs, ds, _, _, rfl, (lS nla).trans sa, ma.mono m1 fun _ q => q, lend_rep (fun _ h => h) hd s o m1, m2, hφ, fun m' q S' H' g1 g2 g5 g3 g4 => ?_⟩
  obtain ⟨hb, q⟩ := q
  have notlent : ∀ {b : Addr}, (∃ xs, S' b = some (.tup xs)) → ¬ Lent G rs b := fun {b} ⟨xs, e⟩ hl => by
    obtain ⟨mo, _, _, mok⟩ := own hl
    obtain ⟨u, e2, hnt⟩ := mok.some
    have hba : b ≠ a := fun z => by subst z; exact nla hl
    have e3 := (g1 b u hba e2).2 hnt
    unfold lendS at e3
    rw [if_pos hl, e2] at e3
    rw [e3] at e; cases e
    exact hnt xs rfl
  let S2 : Hp := fun b => open Classical in if Lent G rs b then none else S' b
  have S2of : ∀ {b : Addr}, ¬ Lent G rs b → S2 b = S' b := fun {b} h => if_neg h
  have S2no : ∀ {b : Addr}, Lent G rs b → S2 b = none := fun {b} h => if_pos h
  have n1 : Same S S2 := fun b u e => by
    have hl : ¬ Lent G rs b := fun h => by
      obtain ⟨_, _, h2, _⟩ := own h
      rw [h2] at e; cases e
    have hba : b ≠ a := fun z => by subst z; rw [sa] at e; cases e
    rw [S2of hl]
    exact g5 b u (m1 b u e)
  have repA2 : ∀ {vs : List V} {ds : List D}, (noBo rs = true ∨ flatA ds = true) → RepA K S' vs ds → RepA K S2 vs ds := fun {vs ds} h r => by
    rcases h with h | h
    · exact r.mono fun b u e => by rw [S2of (noBo_lent h)]; exact e
    · exact r.flatMono (fun b xs e => by rw [S2of (notlent ⟨xs, e⟩)]; exact e) h
  have hil : i < G.length := (List.getElem?_eq_some_iff.mp ei).1
  have f : ∀ {j : Nat} {sl : Slot}, (G.set i (.ow a m'))[j]? = some sl → (j = i ∧ sl = .ow a m') ∨ (j ≠ i ∧ G[j]? = some sl) := fun {j sl} e => by
    by_cases hj : j = i
    · subst hj
      rw [List.getElem?_set_self hil] at e; cases e
      exact .inl ⟨rfl, rfl⟩
    · rw [List.getElem?_set_ne (Ne.symm hj)] at e; exact .inr ⟨hj, e⟩
  have s2 : Sat K F S0 (G.set i (.ow a m')) S2 σ H' := by
    refine ⟨by simp [s.len], fun b u e => ?_, fun b u e => ?_, fun b u e n => ?_, fun j sl e => ?_, fun j k b x y e1 e2 => ?_⟩
    · by_cases hl : Lent G rs b
      · rw [S2no hl] at e; cases e
      · rw [S2of hl] at e; exact g2 b u e
    · have hba : b ≠ a := fun z => by subst z; rw [fa] at e; cases e
      exact (g1 b u hba (s.fr b u e)).1
    · have hl : ¬ Lent G rs b := fun h => by
        obtain ⟨_, h1, _, _⟩ := own h
        rw [h1] at e; cases e
      have hba : b ≠ a := fun z => by subst z; rw [fa] at e; cases e
      rw [S2of hl, (g1 b u hba (s.fr b u e)).2 n, lS hl]; exact s.am b u e n
    · rcases f e with ⟨rfl, rfl⟩ | ⟨hj, e'⟩
      · refine ⟨ea, fa, by rw [S2of nla]; exact g3, ?_⟩
        cases m' with
        | lst ds =>
          obtain ⟨ws, f1, f2⟩ := g4
          exact ⟨ws, f1, repA2 (hb.imp id id) f2⟩
        | dT kvs => exact g4
        | dK kvs => exact g4
      · have h := s.val j sl e'
        cases sl with
        | no => trivial
        | sh d =>
          obtain ⟨w, e1, r1⟩ := h
          exact ⟨w, e1, r1.mono n1⟩
        | ow b mo =>
          obtain ⟨h1, h2, h3, h4⟩ := h
          have hba : b ≠ a := fun z => by subst z; exact hj (s.sep _ _ _ _ _ e' ei)
          refine ⟨h1, h2, ?_, h4.mono n1 fun u q => (g1 b u hba q).1⟩
          by_cases hl : Lent G rs b
          · exact S2no hl
          · obtain ⟨u, e2, hnt⟩ := h4.some
            rw [S2of hl, (g1 b u hba e2).2 hnt, lS hl]; exact h3
    · rcases f e1 with ⟨h5, h6⟩ | ⟨h5, h6⟩ <;> rcases f e2 with ⟨h7, h8⟩ | ⟨h7, h8⟩
      · rw [h5, h7]
      · cases h6; exact (s.sep _ _ _ _ _ h8 ei) ▸ h5
      · cases h8; exact (s.sep _ _ _ _ _ h6 ei).trans h7.symm
      · exact s.sep j k b x y h6 h8
  cases rb with
  | false => exact k _ _ _ S2 H' q n1 s2 .non
  | true => exact k _ _ _ S2 H' q n1 s2 ea
theorem wE_callM {rb : Bool} {φ : PhiM} {ta : TA} {E' : XK} (h : wA K Z ta G fun rs G1 => ∃ i a m rs' ds, rs = .bo i :: rs' ∧ G1[i]? = some (.ow a m) ∧ dsOf G1 rs' = some ds ∧ noI i rs' = true ∧ φ m ds fun m' => (noBo rs' = true ∨ flatM m' = true) ∧ Q (if rb = true then .bo i else .sh .non) (G1.set i (.ow a m'))) : wE K Z (tCall (mkSpM K rb φ) [] E' ta) G Q := fun F S0 S σ H Qr s z k =>
  h F S0 S σ H _ s z fun rs G1 vs S1 H1 q m1 s1 o => by
    obtain ⟨i, a, m, rs', ds, rfl, ei, e, hn, q⟩ := q
    show mkSpM K rb φ (vs ++ []) H1 Qr E'
    rw [List.append_nil]
    cases o with
    | cons o0 o => exact call_coreM s1 o0 o ei e hn q (k.from m1)
/-- a slot takes its own object again -/
theorem wS_asgB {te : TE} {i : Nat} (h : wE K Z te G fun r G1 => r = .bo i ∧ Nat.blt i G1.length = true ∧ P.nx G1) : wS K Z (tAsg te (gName i)) G P := fun F S0 S σ H D s z k =>
  h F S0 S σ H _ s z fun r G' v S' H' q m s' o => by
    obtain ⟨rfl, hi, q⟩ := q
    have o' : σ[i]? = some (some v) := o
    have e : σ.set i (some v) = σ := by
      obtain ⟨hl, e⟩ := List.getElem?_eq_some_iff.mp o'
      rw [← e]; exact List.set_getElem_self hl
    show D.nx (σ.set i (some v)) H'
    rw [e]
    exact k.nx G' S' σ H' q m s'
end
/-- the def that stands at the module's name x keeps φ and changes its first argument -/
structure CalM (P : Program) (w : World) (K : PySem.W.Frag) (mg : Str → Option Value) (base : Heap) (CX : CXT) (k : Nat) (x : Str) (ps : List Str) (rb : Bool) (φ : PhiM) : Prop where
  ex : ∃ f fd, FnOk P w K mg base CX k f fd ps (mkSpM K rb φ) ∧ mg x = some (.ref f) ∧ PySem.W.keepIn K (.ref f) = true ∧ Binds K fd ps []
section
variable {X : Cx} {CX : CXT} {k : Nat} {ps : List Str} {rb : Bool} {φ : PhiM} {E : XK} {x : Str} {p pos : Pos} {e : Expr} {es : List Expr} {t : TA}
theorem pe_calM (G : CalM X.prog X.w X.K X.mg X.base CX k x ps rb φ) (hr : Room k X.A) (hg : Gl X x) (hx : Passes CX X E)
    (ha : PA X (e :: es) t) (hdb : (x == ("__debug__" : Str)) = false := by decide) (he : starEach (e :: es) X.env = (false, eval e X.env) :: starEach es X.env := by rfl) (hpl : (backTo pos (starEach es X.env)).any (·.1) = false := by rfl) :
    PE X (.Call (.Name x p) (e :: es) [] pos) (tCall (mkSpM X.K rb φ) [] E t) := by
  obtain ⟨f, fd, h1, h2, h3, h4⟩ := G.ex
  exact pe_call h1 hr hg h2 h3 h4 .nil hx ha hdb he hpl
end
end PL

/-! PU: two names at once, list of a dict. -/
namespace PL
open PySem PySem.Spec PyProof.Rows L2
@[reducible] def cListD : List V → Hp → VK → Prop := fun xs H Q => ∃ (a : Addr) (kvs : List (Key × V)), xs = [.ref a] ∧ Rd H a (.dK kvs) ∧ ∀ p, H p = none → Q (.ref p) (upd H p (.lst (kvs.map fun kv => kV kv.1)))
def dK1 : Key → D
  | .inl i => .int i
  | .inr s => .str s
section
variable {K : PySem.W.Frag} {Z : Ec} {F S0 S S' : Hp} {G : Sl} {σ : L2.St} {H H' : Hp} {Q : R → Sl → Prop} {P : Po}
theorem keys_rep : ∀ kvs : List (Key × V), RepA K S (kvs.map fun kv => kV kv.1) (kvs.map fun kv => dK1 kv.1)
  | [] => .nil
  | (k, v) :: kvs => by
    refine .cons ?_ (keys_rep kvs)
    cases k with
    | inl i => exact .int i
    | inr s => exact .str s
theorem wC_listD {x : R} {kvs : List (Key × V)} (h : dv G x = some (.dK kvs)) (q : ∀ a, Q (.ow a (.lst (kvs.map fun kv => dK1 kv.1))) G) : wC K Z cListD [x] G Q := fun F S0 S σ H Qr vs s z o k => by
  obtain ⟨v, rfl, o1⟩ := fs1 o
  have r := dv_rep h s o1
  cases r with
  | dK h1 =>
    refine ⟨_, kvs, rfl, .inl h1, fun p hp => ?_⟩
    obtain ⟨s2, g1, g2, g3⟩ := s.newow (o := .lst (kvs.map fun kv => kV kv.1)) hp
    exact k _ _ _ _ _ (q p) (Same.refl _) s2 ⟨rfl, g1, g2, ⟨_, upd_same, keys_rep kvs⟩, g3⟩
theorem wS_par {i j : Nat} {ta : TA} (h : wA K Z ta G fun rs G1 => Ask (∃ d1 d2, rs = [.sh d1, .sh d2] ∧ Nat.blt i G1.length = true ∧ Nat.blt j G1.length = true ∧ P.nx ((G1.set i (.sh d1)).set j (.sh d2)))) : wS K Z (tPar i j ta) G P := fun F S0 S σ H D s z k =>
  h F S0 S σ H _ s z fun rs G1 vs S1 H1 q m1 s1 o => by
    obtain ⟨d1, d2, rfl, hi, hj, q⟩ := q
    obtain ⟨v, u, rfl, o1, o2⟩ := fs2 o
    refine ⟨v, u, rfl, k.nx _ S1 _ H1 q m1 ((s1.setSh (blt_lt hi) o1).setSh ?_ o2)⟩
    rw [List.length_set]
    exact blt_lt hj
end
end PL

/-! PV: walks over dicts. -/
namespace PL
open PySem PySem.Spec PyProof.Rows L2
section
variable {K : PySem.W.Frag} {Z : Ec} {F S0 S S' : Hp} {G : Sl} {σ : L2.St} {H H' : Hp} {Q : R → Sl → Prop} {P : Po}
def kD : Key → D
  | .inl i => .int i
  | .inr s => .str s
theorem kD_rep (k : Key) : Rep K S (kV k) (kD k) := by
  cases k with
  | inl i => exact .int i
  | inr s => exact .str s
theorem kDs_rep : ∀ ks : List Key, RepA K S (ks.map kV) (ks.map kD)
  | [] => .nil
  | k :: ks => .cons (kD_rep k) (kDs_rep ks)
/-- a tuple of keys is shared -/
theorem Sat.shKey {q : Addr} {ks : List Key} (s : Sat K F S0 G S σ H) (h : H q = some (.tup (ks.map kV))) : ∃ S', Same S S' ∧ Sat K F S0 G S' σ H ∧ Rep K S' (.ref q) (.tup (ks.map kD)) := by
  by_cases hs : S q = none
  · have m : Same S (upd S q (.tup (ks.map kV))) := same_new hs
    refine ⟨_, m, s.more m (fun b u e => ?_) (fun b u e n => ?_) (fun i b mo e => ?_), .tup upd_same (kDs_rep ks)⟩
    · by_cases hb : b = q
      · subst hb; rw [upd_same] at e; rw [h]; exact e
      · rw [upd_ne hb] at e; exact s.sh b u e
    · have hb : b ≠ q := fun z => by
        subst z
        rw [s.fr b u e] at h
        cases h
        exact n _ rfl
      rw [upd_ne hb]
    · have hb : b ≠ q := fun z => by
        subst z
        obtain ⟨_, _, _, mo'⟩ := s.val i _ e
        obtain ⟨o, e2, e3⟩ := mo'.some
        rw [h] at e2; cases e2
        exact e3 _ rfl
      rw [upd_ne hb]
      exact (s.val i _ e).2.2.1
  · cases e : S q with
    | none => exact absurd e hs
    | some o =>
      have e2 := s.sh _ _ e
      rw [h] at e2; cases e2
      exact ⟨S, Same.refl _, s, .tup e (kDs_rep ks)⟩
/-! #### a locked dict -/
section
variable {a : Addr} {od : Obj} {kvs : List (List Key × V)}
mutual
theorem Rep.unlock (e : S a = some (.frz od (.dT kvs))) {v : V} {d : D} : Rep K S v d → Rep K (upd S a (.dT kvs)) v d
  | .non => .non
  | .bl b => .bl b
  | .int i => .int i
  | .str s => .str s
  | .tup (a := b) h r => .tup (by
      have hb : b ≠ a := fun z => by subst z; rw [e] at h; cases h
      rw [upd_ne hb]; exact h) (RepA.unlock e r)
  | .lst (a := b) h r => .lst (by
      have hb : b ≠ a := fun z => by subst z; rw [e] at h; cases h
      rw [upd_ne hb]; exact h) (RepA.unlock e r)
  | .dT (a := b) h => by
    by_cases hb : b = a
    · subst hb
      rcases h with h | ⟨o, h⟩
      · rw [e] at h; cases h
      · rw [e] at h; cases h
        exact .dT (.inl upd_same)
    · refine .dT ?_
      unfold Rd
      rw [upd_ne hb]; exact h
  | .dK (a := b) h => .dK (by
      have hb : b ≠ a := fun z => by subst z; rw [e] at h; cases h
      rw [upd_ne hb]; exact h)
  | .scr (a := b) h => by
    refine .scr ?_
    rcases h with h | h
    · by_cases hb : b = a
      · subst hb
        rcases h with h | ⟨o, h⟩ <;> (rw [e] at h; cases h)
      · refine .inl ?_
        unfold Rd
        rw [upd_ne hb]; exact h
    · exact .inr h
  | .ty n => .ty n
  | .ref a => .ref a
theorem RepA.unlock (e : S a = some (.frz od (.dT kvs))) {vs : List V} {ds : List D} : RepA K S vs ds → RepA K (upd S a (.dT kvs)) vs ds
  | .nil => .nil
  | .cons h r => .cons (Rep.unlock e h) (RepA.unlock e r)
end
theorem moOk_unlock {b : Addr} {m : Mo} (e : S a = some (.frz od (.dT kvs))) (hb : b ≠ a) (h : MoOk K S H b m) : MoOk K (upd S a (.dT kvs)) (upd H a (.dT kvs)) b m := by
  cases m with
  | lst ds =>
    obtain ⟨vs, h1, h2⟩ := h
    exact ⟨vs, by rw [upd_ne hb]; exact h1, h2.unlock e⟩
  | dT k => exact (upd_ne hb).trans h
  | dK k => exact (upd_ne hb).trans h
theorem Sat.unlock (s : Sat K F S0 G S σ H) (hF : F a = none) (e : S a = some (.frz od (.dT kvs))) : Sat K F S0 G (upd S a (.dT kvs)) σ (upd H a (.dT kvs)) := by
  refine ⟨s.len, fun b u q => ?_, fun b u q => ?_, fun b u q n => ?_, fun j sl q => ?_, s.sep⟩
  · by_cases hb : b = a
    · subst hb; rw [upd_same] at q ⊢; exact q
    · rw [upd_ne hb] at q ⊢; exact s.sh b u q
  · have hb : b ≠ a := fun z => by subst z; rw [hF] at q; cases q
    rw [upd_ne hb]; exact s.fr b u q
  · have hb : b ≠ a := fun z => by subst z; rw [hF] at q; cases q
    rw [upd_ne hb]; exact s.am b u q n
  · have h := s.val j sl q
    cases sl with
    | no => trivial
    | sh d =>
      obtain ⟨v, h1, h2⟩ := h
      exact ⟨v, h1, h2.unlock e⟩
    | ow b m =>
      obtain ⟨h1, h2, h3, h4⟩ := h
      have hb : b ≠ a := fun z => by subst z; rw [e] at h3; cases h3
      exact ⟨h1, h2, by rw [upd_ne hb]; exact h3, moOk_unlock e hb h4⟩
theorem Sat.lock {i : Nat} (s : Sat K F S0 G S σ H) (hi : G[i]? = some (.ow a (.dT kvs))) (od : Obj) : Sat K F S0 (G.set i (.sh (.dT kvs))) (upd S a (.frz od (.dT kvs))) σ (upd H a (.frz od (.dT kvs))) := by
  obtain ⟨h1, h2, h3, h4⟩ := s.val i _ hi
  have hil : i < G.length := (List.getElem?_eq_some_iff.mp hi).1
  have m : Same S (upd S a (.frz od (.dT kvs))) := same_new h3
  have f : ∀ {j : Nat} {sl : Slot}, (G.set i (.sh (.dT kvs)))[j]? = some sl → (j = i ∧ sl = .sh (.dT kvs)) ∨ (j ≠ i ∧ G[j]? = some sl) := fun {j sl} e => by
    by_cases hj : j = i
    · subst hj
      rw [List.getElem?_set_self hil] at e; cases e
      exact .inl ⟨rfl, rfl⟩
    · rw [List.getElem?_set_ne (Ne.symm hj)] at e; exact .inr ⟨hj, e⟩
  refine ⟨by simp [s.len], fun b u q => ?_, fun b u q => ?_, fun b u q n => ?_, fun j sl q => ?_, fun j k b m m' e1 e2 => ?_⟩
  · by_cases hb : b = a
    · subst hb; rw [upd_same] at q ⊢; exact q
    · rw [upd_ne hb] at q ⊢; exact s.sh b u q
  · have hb : b ≠ a := fun z => by subst z; rw [h2] at q; cases q
    rw [upd_ne hb]; exact s.fr b u q
  · have hb : b ≠ a := fun z => by subst z; rw [h2] at q; cases q
    rw [upd_ne hb]; exact s.am b u q n
  · rcases f q with ⟨rfl, rfl⟩ | ⟨hj, q'⟩
    · exact ⟨_, h1, .dT (.inr ⟨od, upd_same⟩)⟩
    · have h := s.val j sl q'
      cases sl with
      | no => trivial
      | sh d =>
        obtain ⟨v, g1, g2⟩ := h
        exact ⟨v, g1, g2.mono m⟩
      | ow b mo =>
        obtain ⟨g1, g2, g3, g4⟩ := h
        have hb : b ≠ a := fun z => by subst z; exact hj (s.sep _ _ _ _ _ q' hi)
        exact ⟨g1, g2, by rw [upd_ne hb]; exact g3, g4.mono m fun o q => by rw [upd_ne hb]; exact q⟩
  · rcases f e1 with ⟨_, z⟩ | ⟨_, e1'⟩
    · cases z
    · rcases f e2 with ⟨_, z⟩ | ⟨_, e2'⟩
      · cases z
      · exact s.sep _ _ _ _ _ e1' e2'
end
/-- the core of a for whose items come to be shared -/
theorem for_core2 {J : L2.It} {g : TG} {tb : TS} {En : Ends} (n : Nat) (inv : Nat → Sl → Prop) (item : Nat → D → Prop) (z : hZ Z F) (s : Sat K F S0 G S σ H) (k : POk K F S0 S P En) (h0 : inv 0 G)
    (hgo : ∀ i G' S' σ' H', i < n → inv i G' → Same S S' → Sat K F S0 G' S' σ' H' → J.go i H' ∧ ∀ x H2, J.yld i H' x H2 → H2 = H' ∧ ∃ S2, Same S' S2 ∧ Sat K F S0 G' S2 σ' H' ∧ ∃ d, item i d ∧ Rep K S2 x d)
    (hstop : ∀ G' S' σ' H', inv n G' → Same S S' → Sat K F S0 G' S' σ' H' → J.stop n H')
    (hs : ∀ i d G', i < n → item i d → inv i G' → wG K g d G' fun G2 => wS K Z tb G2 ⟨inv (i + 1), P.rt, P.nx, inv (i + 1)⟩) (hd : ∀ G', inv n G' → P.nx G') :
    ∃ W : Nat → Nat → L2.St → Hp → Prop, (∃ m, W 0 m σ H) ∧ ∀ i m σ H, W i m σ H →
      (J.stop i H ∧ En.nx σ H) ∨ (J.go i H ∧ ∃ N : L2.St → Hp → Prop, (∀ σ' H', N σ' H' → ∃ m', m' < m ∧ W (i + 1) m' σ' H') ∧ ∀ x H', J.yld i H x H' → g x σ H' fun σ2 H2 => tb { En with nx := N, ct := N, bk := En.nx } σ2 H2) := by
  refine ⟨fun i m σ' H' => m = n - i ∧ i ≤ n ∧ ∃ G' S', inv i G' ∧ Same S S' ∧ Sat K F S0 G' S' σ' H', ⟨n, by simp, Nat.zero_le _, G, S, h0, Same.refl _, s⟩, ?_⟩
  rintro i m σ1 H1 ⟨rfl, hi, G1, S1, i1, m1, s1⟩
  by_cases hlt : i < n
  · obtain ⟨hg, hy⟩ := hgo i G1 S1 σ1 H1 hlt i1 m1 s1
    refine .inr ⟨hg, fun σ' H' => ∃ G' S', inv (i + 1) G' ∧ Same S S' ∧ Sat K F S0 G' S' σ' H', ?_, fun x H2 y => ?_⟩
    · rintro σ' H' ⟨G', S', i', mm, s'⟩
      exact ⟨n - (i + 1), by omega, rfl, hlt, G', S', i', mm, s'⟩
    · obtain ⟨rfl, S1', mx, s1', d, hit, r⟩ := hy x H2 y
      have m1 := m1.trans mx
      refine hs i d G1 hlt hit i1 F S0 S1' σ1 H2 x _ s1' r fun G2 S2 σ2 H3 q2 m2 s2 => ?_
      refine q2 F S0 S2 σ2 H3 _ s2 z ⟨?_, ?_, ?_, ?_⟩
      · intro G3 S3 σ3 H3 q3 m3 s3
        exact ⟨G3, S3, q3, m1.trans (m2.trans m3), s3⟩
      · intro r G3 v S3 σ3 H3 q3 m3 s3 o3
        exact k.rt r G3 v S3 σ3 H3 q3 (m1.trans (m2.trans m3)) s3 o3
      · intro G3 S3 σ3 H3 q3 m3 s3
        exact k.nx G3 S3 σ3 H3 q3 (m1.trans (m2.trans m3)) s3
      · intro G3 S3 σ3 H3 q3 m3 s3
        exact ⟨G3, S3, q3, m1.trans (m2.trans m3), s3⟩
  · have e : i = n := by omega
    subst e
    exact .inl ⟨hstop G1 S1 σ1 H1 i1 m1 s1, k.nx G1 S1 σ1 H1 (hd G1 i1) m1 s1⟩
/-- for k in d, d an owned dict with tuple keys in slot i; it is data from here on -/
theorem wS_forKT {i : Nat} {a : Addr} {kvs : List (List Key × V)} {g : TG} {tb : TS} (h : G[i]? = some (.ow a (.dT kvs))) (inv : Nat → Sl → Prop) (h0 : inv 0 (G.set i (.sh (.dT kvs))))
    (hs : ∀ j k v G2, kvs[j]? = some (k, v) → inv j G2 → wG K g (.tup (k.map kD)) G2 fun G3 => wS K Z tb G3 ⟨inv (j + 1), P.rt, P.nx, inv (j + 1)⟩)
    (hd : ∀ G2, inv kvs.length G2 → P.nx G2) : wS K Z (tLock (tFor (iKeys (tVar i)) g tb)) G P := fun F S0 S σ H D s z k => by
  obtain ⟨e, f1, f2, f3⟩ := s.val i _ h
  refine ⟨a, .dT kvs, f3, trivial, fun od => ?_⟩
  have s1 := s.lock h od
  have mS : Same S (upd S a (.frz od (.dT kvs))) := same_new f2
  have fin : ∀ {S' : Hp}, Same (upd S a (.frz od (.dT kvs))) S' → S' a = some (.frz od (.dT kvs)) ∧ Same S (upd S' a (.dT kvs)) := fun {S'} m => ⟨m a _ upd_same, fun b u q => by
    have hb : b ≠ a := fun z => by subst z; rw [f2] at q; cases q
    rw [upd_ne hb]; exact m b u (by rw [upd_ne hb]; exact q)⟩
  refine ⟨_, e, a, od, rfl, .inr ⟨kvs, upd_same, for_core2 (P := P) (S := upd S a (.frz od (.dT kvs))) kvs.length inv (fun j d => ∃ k v, kvs[j]? = some (k, v) ∧ d = .tup (k.map kD)) z s1 ⟨?_, ?_, ?_, ?_⟩ h0 (fun j G' S' σ' H' hj iv m s' => ?_) (fun G' S' σ' H' iv m s' => ?_) (fun j d G' hj it iv => ?_) hd⟩⟩
  · intro G' S' σ' H' q m s'
    obtain ⟨g1, g2⟩ := fin m
    exact ⟨s'.sh _ _ g1, k.nx G' _ σ' _ q g2 (s'.unlock f1 g1)⟩
  · intro r G' v S' σ' H' q m s' o
    obtain ⟨g1, g2⟩ := fin m
    refine ⟨s'.sh _ _ g1, k.rt r G' v _ σ' _ q g2 (s'.unlock f1 g1) ?_⟩
    cases r with
    | sh d => exact Rep.unlock g1 o
    | bo j => exact o
    | ow b mo =>
      obtain ⟨o1, o2, o3, o4, o5⟩ := o
      have hb : b ≠ a := fun z => by subst z; rw [g1] at o3; cases o3
      exact ⟨o1, o2, by rw [upd_ne hb]; exact o3, moOk_unlock g1 hb o4, o5⟩
  · intro G' S' σ' H' q m s'
    obtain ⟨g1, g2⟩ := fin m
    exact ⟨s'.sh _ _ g1, k.bk G' _ σ' _ q g2 (s'.unlock f1 g1)⟩
  · intro G' S' σ' H' q m s'
    obtain ⟨g1, g2⟩ := fin m
    exact ⟨s'.sh _ _ g1, k.ct G' _ σ' _ q g2 (s'.unlock f1 g1)⟩
  · have g1 := s'.sh _ _ (fin m).1
    refine ⟨⟨g1, hj⟩, fun x H2 y => ?_⟩
    obtain ⟨rfl, ks, v, q, y1, y2, y3⟩ := y
    subst y2
    obtain ⟨S2, m2, s2, r2⟩ := s'.shKey y3
    exact ⟨rfl, S2, m2, s2, _, ⟨ks, v, y1, rfl⟩, r2⟩
  · exact ⟨s'.sh _ _ (fin m).1, Nat.le_refl _⟩
  · obtain ⟨ks, v, y1, rfl⟩ := it
    exact hs j ks v G' y1 iv
end
/-! #### is True, is not True -/
@[reducible] def rIsB : R2 := fun x y H Q => ∃ a b, x = .bl a ∧ y = .bl b ∧ Q (.bl (decide (a = b))) H
@[reducible] def rNotB : R2 := fun x y H Q => ∃ a b, x = .bl a ∧ y = .bl b ∧ Q (.bl (!decide (a = b))) H
theorem op_isB {X : Cx} : OpR X (compareOp .Is) PL.rIsB := op_is_bl
theorem op_notB {X : Cx} : OpR X (compareOp .IsNot) PL.rNotB := op_isnot_bl
section
variable {K : PySem.W.Frag} {Z : Ec} {G : Sl} {Q : R → Sl → Prop}
theorem wR_isB {a b : Bool} (q : Q (.sh (.bl (decide (a = b)))) G) : wR K Z PL.rIsB (.sh (.bl a)) (.sh (.bl b)) G Q := fun F S0 S σ H Qr v u s z o1 o2 k => by
  cases o1; cases o2
  exact ⟨a, b, rfl, rfl, k.val s q (.bl _)⟩
theorem wR_notB {a b : Bool} (q : Q (.sh (.bl (!decide (a = b)))) G) : wR K Z PL.rNotB (.sh (.bl a)) (.sh (.bl b)) G Q := fun F S0 S σ H Qr v u s z o1 o2 k => by
  cases o1; cases o2
  exact ⟨a, b, rfl, rfl, k.val s q (.bl _)⟩
end
end PL

/-! PX: sorted of lists and dicts of tuples (text, whole number, whole number); walks over dicts with plain keys. -/
namespace PL
open PySem PySem.Spec PyProof.Rows L2
abbrev K3 := Str × Int × Int
def k3P (k : K3) : PyData := .tuple [.str k.1, .int k.2.1, .int k.2.2]
def k3K (k : K3) : List Key := [.inr k.1, .inl k.2.1, .inl k.2.2]
def k3D (k : K3) : D := .tup [.str k.1, .int k.2.1, .int k.2.2]
def k3V (k : K3) : List V := [.str k.1, .int k.2.1, .int k.2.2]
def sortK3 (ks : List K3) : List K3 := ks.mergeSort (PySem.W.dataLe false k3P)
theorem sortK3_perm {l m : List K3} (h : l.Perm m) : sortK3 l = sortK3 m := by
  have T := PySem.W.sortLe_total (PyProof.Rows.listOrd PyProof.Rows.itemOrd) false (fun b : K3 => PySem.W.keyToks (k3P b))
  refine PySem.W.Srt.the_of_perm (le := PySem.W.dataLe false k3P) (fun a b c h1 h2 => T.trans a b c h1 h2) (fun a b => Bool.or_eq_true_iff.mpr (T.total a b)) (fun x y h1 h2 => ?_) ((List.mergeSort_perm l _).trans h) (PySem.W.sort_pairwise T l)
  have h1' : (!PyProof.Rows.lexLt PyProof.Rows.itemOrd (PySem.W.keyToks (k3P y)) (PySem.W.keyToks (k3P x))) = true := h1
  have h2' : (!PyProof.Rows.lexLt PyProof.Rows.itemOrd (PySem.W.keyToks (k3P x)) (PySem.W.keyToks (k3P y))) = true := h2
  rw [Bool.not_eq_true'] at h1' h2'
  have e := PyProof.Rows.lex_total (O := PyProof.Rows.itemOrd) _ _ h2' h1'
  obtain ⟨a, b, c⟩ := x
  obtain ⟨a', b', c'⟩ := y
  simp only [k3P, PySem.W.keyToks, PySem.W.keyToksAll, List.cons_append, List.nil_append, List.cons.injEq, Sum.inr.injEq, Sum.inl.injEq, and_true, true_and] at e
  obtain ⟨e1, e2, e3⟩ := e
  rw [PySem.W.str_of_cps e1, e2, e3]
section
variable {X : Cx}
theorem each_vals {R : V → K3 → Prop} : ∀ {xs : List V} {us : List Value} {ks : List K3}, Vals xs us → PySem.W.EachIs R xs ks → PySem.W.EachIs (fun u k => ∃ x, RelV x u ∧ R x k) us ks
  | _, _, _, .nil, h => by cases h; exact .nil
  | _, _, _, .cons r rs, h => by
    cases h with
    | cons h1 t => exact .cons ⟨_, r, h1⟩ (each_vals rs t)
theorem vals_each {R : V → K3 → Prop} : ∀ {us : List Value} {ks : List K3}, PySem.W.EachIs (fun u k => ∃ x, RelV x u ∧ R x k) us ks → ∃ xs, Vals xs us ∧ PySem.W.EachIs R xs ks
  | _, _, .nil => ⟨[], .nil, .nil⟩
  | _, _, .cons ⟨x, r, h⟩ t => by
    obtain ⟨xs, h1, h2⟩ := vals_each t
    exact ⟨x :: xs, .cons r h1, .cons h h2⟩
/-- sorted(xs): R is whatever the items are known to stand for -/
def rSortK (K : PySem.W.Frag) : List V → Hp → VK → Prop := fun vs H Q => ∃ (a : Addr) (xs : List V) (ks : List K3) (R : V → K3 → Prop), vs = [V.ref a] ∧ SqL K H a xs ∧ PySem.W.EachIs R xs ks ∧ (∀ x k, R x k → ∃ t, x = V.ref t ∧ SqT K H t (k3V k)) ∧ ks.length ≤ 1000000 ∧
  ∀ ys p, PySem.W.EachIs R ys (sortK3 ks) → H p = none → Q (.ref p) (upd H p (.lst ys))
theorem k3_depth (k : K3) : (k3P k).depth = 1 := by simp [k3P, PyData.depth, PyData.depthAll]
theorem k3_alike (ks : List K3) : PySem.W.AllAlike (ks.map k3P) := PySem.W.AllAlike.of fun _ _ => by simp [PySem.W.alike, PySem.W.alikeAll, k3P]
theorem cr_sortK (hu : X.A.units + 65 < cLine) : CallR X (.builtin "sorted") (rSortK X.K) := by
  intro pins s σ H vs us Q I r h
  obtain ⟨a, xs, ks, R, rfl, hs, he, hR, hl, q⟩ := h
  obtain ⟨its, rv, hls, hz⟩ := I.list hs
  obtain ⟨u, rfl, rx⟩ := vals1 r
  cases rx
  have e := each_vals rv he
  have er : PySem.W.EachIs (fun v k => ∃ as, Reads s.heap v (k3P k) as) its ks := e.mono fun v k ⟨x, r1, r2⟩ => by
    obtain ⟨t, rfl, ht⟩ := hR x k r2
    exact Dp.reads I (k3P k) _ _ (.tup ht (.cons (.str _) (.cons (.int _) (.cons (.int _) .nil)))) r1
  refine PySem.W.sorted_data hls.isList e er (k3_alike ks) (PySem.W.Sortable.tuples fun _ => ⟨_, _, rfl⟩) (line_of hl) (fun b _ => by rw [k3_depth]; omega) fun out ho eo => ?_
  obtain ⟨ys, h1, h2⟩ := vals_each eo
  obtain ⟨ep, he'⟩ := PyProof.Rows.sortedAll_at s.heap its out.toArray
  have hlen : ys.length ≤ sizeLine := by
    rw [h1.length, ho]; exact line_of hl
  exact ⟨.ref _, upd H (s.heap.objs.size + 1) (.lst ys), I.laid (t' := s.toks) (fun _ _ => PyProof.Rows.sortedAll_old) (Nat.le_succ _) ⟨hlen, out, ep, h1, he'⟩, rfl, q _ _ h2 (I.hok.fresh (Nat.le_succ _))⟩
/-- sorted(d), d a dict with such keys -/
def rSortDT : List V → Hp → VK → Prop := fun vs H Q => ∃ (a : Addr) (kvs : List (List Key × V)) (ks : List K3), vs = [V.ref a] ∧ Rd H a (.dT kvs) ∧ kvs.map (·.1) = ks.map k3K ∧ ks.length ≤ 1000000 ∧
  ∀ ys p, PySem.W.EachIs (fun x k => ∃ t, x = V.ref t ∧ H t = some (.tup (k3V k))) ys (sortK3 ks) → H p = none → Q (.ref p) (upd H p (.lst ys))
theorem cr_sortDT (hc : X.calm = true) (hu : X.A.units + 65 < cLine) : CallR X (.builtin "sorted") rSortDT := by
  intro pins s σ H vs us Q I r h
  obtain ⟨d, kvs, ks, rfl, hd, hks, hl, q⟩ := h
  obtain ⟨u, rfl, rx⟩ := vals1 r
  cases rx
  obtain ⟨z, hs, xs, pr, o, es, ep, ho, hx, hdt, he, hn⟩ := (show ObjOk X.prog X.w H s.heap d (.dT kvs) from hd.ok I.hok)
  have l1 : es.size = xs.length := size_of_entries he
  have l2 : kvs.length = xs.length := Paired.length pr
  have l3 : kvs.length = ks.length := by
    have := congrArg List.length hks
    simpa using this
  refine Calls.call_function_entry PyProof.Rows.kind_sorted PyProof.Rows.plain_sorted PyProof.Rows.entry_sorted (PyProof.Rows.args_sorted1 _) ?_
  unfold Builtin.«sorted»
  refine wpAny_bind (m := checkCount "sorted" 1 1 _) (wpAny_pure ?_)
  refine wpAny_bind (PySem.W.kdu_collect (A := X.A.in1) (kdl_raw hs hx hdt) (I.ok.hd hc) ho (by omega) fun h' tk acc hk it => ?_)
  have ea : acc.toList = xs.map fun x => Value.ref x.2.1 := by
    have hl : acc.toList.length = xs.length := by rw [Array.length_toList, it.1]; exact l1
    apply List.ext_getElem?
    intro j
    rw [List.getElem?_map]
    cases hj : acc.toList[j]? with
    | none =>
      have h1 := List.getElem?_eq_none_iff.mp hj
      rw [List.getElem?_eq_none (by omega)]
      all_goals rfl
    | some v =>
      obtain ⟨en, hen, hv⟩ := it.2 j v (by rw [← Array.getElem?_toList]; exact hj)
      have qe := entry_at he j
      rw [hen] at qe
      cases hb : xs[j]? with
      | none =>
        rw [hb] at qe
        exact nomatch (show some en = none from qe)
      | some b =>
        rw [hb] at qe
        have e2 : en = entryOfKey (tupleKind (mixKind X.prog X.w)) b := Option.some.inj qe
        rw [hv, e2]
        all_goals rfl
  have hE : ∀ {kvs : List (List Key × V)} {xs : List (List Key × Addr × Value)} {ks : List K3}, KT H kvs xs → kvs.map (·.1) = ks.map k3K → PySem.W.EachIs (fun u k => ∃ x, RelV x u ∧ ∃ t, x = V.ref t ∧ H t = some (.tup (k3V k))) (xs.map fun x => Value.ref x.2.1) ks := by
    intro kvs xs ks r
    induction r generalizing ks with
    | nil =>
      intro e
      cases ks with
      | nil => exact .nil
      | cons k ks => cases e
    | @cons p x ps xs h t ih =>
      intro e
      cases ks with
      | nil => cases e
      | cons k ks =>
        rw [List.map_cons, List.map_cons, List.cons.injEq] at e
        refine .cons ⟨V.ref x.2.1, rfl, x.2.1, rfl, ?_⟩ (ih e.2)
        have h2 := h.2.1
        rw [e.1] at h2
        exact h2
  have e := hE pr hks
  rw [← ea] at e
  have I1 : Inv X pins σ H { s with heap := h', toks := tk } := I.kept hk
  have hal : acc.toList.length = ks.length := by rw [ea, List.length_map]; omega
  refine wpAny_bind (wpAny_newList ?_ (by rw [hal]; exact line_of hl))
  have hoL : (h'.push (seqObj "list" acc.toList.toArray 0)).get? h'.objs.size = some (seqObj "list" acc.toList.toArray 0) := Heap.get?_push_size _ rfl
  show wpAny _ _ _ _ _ { s with heap := h'.push (seqObj "list" acc.toList.toArray 0), toks := tk }
  have hk2 : ∀ b o, h'.get? b = some o → (h'.push (seqObj "list" acc.toList.toArray 0)).get? b = some o := fun b o e => Heap.get?_push_of_some _ e
  have er : PySem.W.EachIs (fun v k => ∃ as, Reads (h'.push (seqObj "list" acc.toList.toArray 0)) v (k3P k) as ∧ h'.objs.size ∉ as) acc.toList ks := e.mono fun v k h => by
    obtain ⟨x, r1, t, rfl, ht⟩ := h
    obtain ⟨as, hr⟩ := Dp.reads I1 (k3P k) (V.ref t) v (.tup (SqT.of ht) (.cons (.str _) (.cons (.int _) (.cons (.int _) .nil)))) r1
    refine ⟨as, PyProof.Rows.Reads.keeps hk2 hr, ?_⟩
    have hnil : as = [] := by
      unfold k3P at hr
      cases hr with
      | @tuple _ _ vs _ _ _ g1 g2 g3 g4 =>
        generalize vs.toList = l at g4
        cases g4 with
        | cons a1 g4 =>
          cases a1
          cases g4 with
          | cons a2 g4 =>
            cases a2
            cases g4 with
            | cons a3 g4 =>
              cases a3
              cases g4
              rfl
    rw [hnil]
    exact List.not_mem_nil
  refine wpAny_bind (wpAny_holding (PySem.W.list_sort_data (s := { s with heap := h'.push (seqObj "list" acc.toList.toArray 0), toks := tk }) hoL e er (k3_alike ks) (PySem.W.Sortable.tuples fun _ => ⟨_, _, rfl⟩) (line_of hl) (fun b _ => by rw [k3_depth]; show X.A.units + 1 + 1 + 1 < _; omega) fun out ho eo => ?_))
  obtain ⟨ys, g1, g2⟩ := vals_each eo
  obtain ⟨e', he'⟩ := PyProof.Rows.sortedHeap_at (vs := acc.toList) (out := out.toArray) hoL
  have hlen : ys.length ≤ sizeLine := by
    rw [g1.length, ho]; exact line_of hl
  refine wpAny_pure ⟨_, rfl, .ref h'.objs.size, upd H h'.objs.size (.lst ys), I1.laid (t' := tk) (fun b u e => ?_) (Nat.le_refl _)
    (show ObjOk X.prog X.w _ _ _ (.lst ys) from ⟨hlen, out, e', g1, he'⟩), rfl, q ys _ g2 (I1.hok.fresh (Nat.le_refl _))⟩
  have hb : b < h'.objs.size := Heap.lt_size e
  rw [PyProof.Rows.sortedHeap_old (Nat.ne_of_lt hb) (by rw [size_push']; exact Nat.lt_succ_of_lt hb)]
  exact Heap.get?_push_of_some _ e
end
/-! #### in the pure layer -/
def uSorted (K : PySem.W.Frag) : List V → Hp → VK → Prop := fun vs H Q => rSortedS K vs H Q ∨ rSortK K vs H Q ∨ rSortDT vs H Q
theorem cr_uSorted {X : Cx} (hc : X.calm = true) {k : Nat} (hr : Room k X.A) : CallR X (.builtin "sorted") (uSorted X.K) := by
  have hu : X.A.units + 65 < cLine := by have := hr.un; omega
  intro pins s σ H vs us Q I r h
  rcases h with h | h | h
  · exact cr_sortedS pins s σ H vs us Q I r h
  · exact cr_sortK hu pins s σ H vs us Q I r h
  · exact cr_sortDT hc hu pins s σ H vs us Q I r h
section
variable {K : PySem.W.Frag} {Z : Ec} {F S0 S S' : Hp} {G : Sl} {σ : L2.St} {H H' : Hp} {Q : R → Sl → Prop} {P : Po}
theorem each_repA : ∀ {xs : List V} {ks : List K3}, PySem.W.EachIs (fun x k => Rep K S x (k3D k)) xs ks → RepA K S xs (ks.map k3D)
  | _, _, .nil => .nil
  | _, _, .cons h t => .cons h (each_repA t)
theorem repA_each : ∀ {xs : List V} {ks : List K3}, RepA K S xs (ks.map k3D) → PySem.W.EachIs (fun x k => Rep K S x (k3D k)) xs ks
  | _, [], h => by cases h; exact .nil
  | _, k :: ks, h => by
    cases h with
    | cons h t => exact .cons h (repA_each t)
theorem k3_rep {x : V} {k : K3} (h : Rep K S x (k3D k)) : ∃ t, x = V.ref t ∧ S t = some (.tup (k3V k)) := by
  unfold k3D at h
  cases h with
  | tup h r =>
    cases r with
    | cons a r =>
      cases a
      cases r with
      | cons a r =>
        cases a
        cases r with
        | cons a r =>
          cases a
          cases r
          exact ⟨_, rfl, h⟩
theorem wC_sortK {x : R} {ks : List K3} (h : lv G x = some (ks.map k3D)) (hl : ks.length ≤ 1000000) (q : ∀ a, Q (.ow a (.lst ((sortK3 ks).map k3D))) G) : wC K Z (uSorted K) [x] G Q := fun F S0 S σ H Qr vs s z o k => by
  obtain ⟨v, rfl, oo⟩ := fs1 o
  obtain ⟨a, xs, rfl, h1, h2⟩ := lv_ok h s oo
  refine .inr (.inl ⟨a, xs, ks, fun x k => Rep K S x (k3D k), rfl, SqL.of h1, repA_each h2, fun x k r => ?_, hl, fun ys p e hp => ?_⟩)
  · obtain ⟨t, rfl, ht⟩ := k3_rep r
    exact ⟨t, rfl, SqT.of (s.sh _ _ ht)⟩
  · obtain ⟨s2, g1, g2, g3⟩ := s.newow (o := .lst ys) hp
    exact k _ _ _ _ _ (q p) (Same.refl _) s2 ⟨rfl, g1, g2, ⟨_, upd_same, each_repA e⟩, g3⟩
/-- key tuples that come to be shared, one by one -/
theorem Sat.shKeys {ks : List K3} {ys : List V} (e : PySem.W.EachIs (fun x k => ∃ t, x = V.ref t ∧ H t = some (.tup (k3V k))) ys ks) : ∀ {S : Hp}, Sat K F S0 G S σ H → ∃ S', Same S S' ∧ Sat K F S0 G S' σ H ∧ RepA K S' ys (ks.map k3D) := by
  induction e with
  | nil => exact fun s => ⟨_, Same.refl _, s, .nil⟩
  | @cons x k ys ks h t ih =>
    intro S s
    obtain ⟨t, rfl, ht⟩ := h
    obtain ⟨S1, m1, s1, r1⟩ := s.shKey (ks := k3K k) ht
    obtain ⟨S2, m2, s2, r2⟩ := ih s1
    exact ⟨S2, m1.trans m2, s2, .cons (r1.mono m2) r2⟩
theorem wC_sortDT {x : R} {kvs : List (List Key × V)} {ks : List K3} (h : dv G x = some (.dT kvs)) (hk : kvs.map (·.1) = ks.map k3K) (hl : ks.length ≤ 1000000) (q : ∀ a, Q (.ow a (.lst ((sortK3 ks).map k3D))) G) : wC K Z (uSorted K) [x] G Q := fun F S0 S σ H Qr vs s z o k => by
  obtain ⟨v, rfl, oo⟩ := fs1 o
  have r := dv_rep h s oo
  cases r with
  | dT h1 =>
    refine .inr (.inr ⟨_, kvs, ks, rfl, h1, hk, hl, fun ys p e hp => ?_⟩)
    obtain ⟨S', m, s', r⟩ := s.shKeys e
    obtain ⟨s2, g1, g2, g3⟩ := s'.newow (o := .lst ys) hp
    exact k _ _ _ _ _ (q p) m s2 ⟨rfl, g1, g2, ⟨_, upd_same, r⟩, g3⟩
theorem wC_sortS {x : R} {ls : List (List Nat)} (h : lv G x = some (ls.map tx)) (hl : ls.length < 64) (q : ∀ (a : Addr) (ms : List (List Nat)), ms.Perm ls → Q (.ow a (.lst (ms.map tx))) G) : wC K Z (uSorted K) [x] G Q := fun F S0 S σ H Qr vs s z o k => by
  obtain ⟨v, rfl, oo⟩ := fs1 o
  obtain ⟨a, xs, rfl, h1, h2⟩ := lv_ok h s oo
  have e := repA_txs h2
  subst e
  refine .inl ⟨a, ls.map mk, rfl, SqL.of h1, by rw [List.length_map]; exact hl, fun ys p hp _ hn => ?_⟩
  obtain ⟨s2, g1, g2, g3⟩ := s.newow (o := .lst (ys.map V.str)) hn
  have hp2 : (ys.map fun y => y.cps.toList).Perm ls := by
    have := hp.map fun y : Str => y.cps.toList
    rw [List.map_map] at this
    have e2 : ls.map ((fun y : Str => y.cps.toList) ∘ mk) = ls := (List.map_congr_left fun l _ => rfl).trans (List.map_id ls)
    rw [e2] at this
    exact this
  have rep : ∀ l : List Str, RepA K S (l.map V.str) ((l.map fun y => y.cps.toList).map tx) := fun l => by
    induction l with
    | nil => exact .nil
    | cons c l ih =>
      refine .cons ?_ ih
      show Rep K S (.str c) (.str (mk c.cps.toList))
      rw [← mk_of c]
      exact .str _
  exact k _ _ _ _ _ (q p _ hp2) (Same.refl _) s2 ⟨rfl, g1, g2, ⟨_, upd_same, rep ys⟩, g3⟩
end
end PL

/-! PY: walks over dicts with plain keys. -/
namespace PL
open PySem PySem.Spec PyProof.Rows L2
section
variable {K : PySem.W.Frag} {Z : Ec} {F S0 S S' : Hp} {G : Sl} {σ : L2.St} {H H' : Hp} {Q : R → Sl → Prop} {P : Po}
section
variable {a : Addr} {od : Obj} {kvs : List (Key × V)}
mutual
theorem Rep.unlockK (e : S a = some (.frz od (.dK kvs))) {v : V} {d : D} : Rep K S v d → Rep K (upd S a (.dK kvs)) v d
  | .non => .non
  | .bl b => .bl b
  | .int i => .int i
  | .str s => .str s
  | .tup (a := b) h r => .tup (by
      have hb : b ≠ a := fun z => by subst z; rw [e] at h; cases h
      rw [upd_ne hb]; exact h) (RepA.unlockK e r)
  | .lst (a := b) h r => .lst (by
      have hb : b ≠ a := fun z => by subst z; rw [e] at h; cases h
      rw [upd_ne hb]; exact h) (RepA.unlockK e r)
  | .dT (a := b) h => by
    have hb : b ≠ a := fun z => by
      subst z
      rcases h with h | ⟨o, h⟩ <;> (rw [e] at h; cases h)
    refine .dT ?_
    unfold Rd
    rw [upd_ne hb]; exact h
  | .dK (a := b) h => .dK (by
      have hb : b ≠ a := fun z => by subst z; rw [e] at h; cases h
      rw [upd_ne hb]; exact h)
  | .scr (a := b) h => by
    refine .scr ?_
    rcases h with h | h
    · by_cases hb : b = a
      · subst hb
        rcases h with h | ⟨o, h⟩ <;> (rw [e] at h; cases h)
      · refine .inl ?_
        unfold Rd
        rw [upd_ne hb]; exact h
    · exact .inr h
  | .ty n => .ty n
  | .ref a => .ref a
theorem RepA.unlockK (e : S a = some (.frz od (.dK kvs))) {vs : List V} {ds : List D} : RepA K S vs ds → RepA K (upd S a (.dK kvs)) vs ds
  | .nil => .nil
  | .cons h r => .cons (Rep.unlockK e h) (RepA.unlockK e r)
end
theorem moOk_unlockK {b : Addr} {m : Mo} (e : S a = some (.frz od (.dK kvs))) (hb : b ≠ a) (h : MoOk K S H b m) : MoOk K (upd S a (.dK kvs)) (upd H a (.dK kvs)) b m := by
  cases m with
  | lst ds =>
    obtain ⟨vs, h1, h2⟩ := h
    exact ⟨vs, by rw [upd_ne hb]; exact h1, h2.unlockK e⟩
  | dT k => exact (upd_ne hb).trans h
  | dK k => exact (upd_ne hb).trans h
theorem Sat.unlockK (s : Sat K F S0 G S σ H) (hF : F a = none) (e : S a = some (.frz od (.dK kvs))) : Sat K F S0 G (upd S a (.dK kvs)) σ (upd H a (.dK kvs)) := by
  refine ⟨s.len, fun b u q => ?_, fun b u q => ?_, fun b u q n => ?_, fun j sl q => ?_, s.sep⟩
  · by_cases hb : b = a
    · subst hb; rw [upd_same] at q ⊢; exact q
    · rw [upd_ne hb] at q ⊢; exact s.sh b u q
  · have hb : b ≠ a := fun z => by subst z; rw [hF] at q; cases q
    rw [upd_ne hb]; exact s.fr b u q
  · have hb : b ≠ a := fun z => by subst z; rw [hF] at q; cases q
    rw [upd_ne hb]; exact s.am b u q n
  · have h := s.val j sl q
    cases sl with
    | no => trivial
    | sh d =>
      obtain ⟨v, h1, h2⟩ := h
      exact ⟨v, h1, h2.unlockK e⟩
    | ow b m =>
      obtain ⟨h1, h2, h3, h4⟩ := h
      have hb : b ≠ a := fun z => by subst z; rw [e] at h3; cases h3
      exact ⟨h1, h2, by rw [upd_ne hb]; exact h3, moOk_unlockK e hb h4⟩
theorem Sat.lockK {i : Nat} (s : Sat K F S0 G S σ H) (hi : G[i]? = some (.ow a (.dK kvs))) (od : Obj) : Sat K F S0 (G.set i .no) (upd S a (.frz od (.dK kvs))) σ (upd H a (.frz od (.dK kvs))) := by
  obtain ⟨h1, h2, h3, h4⟩ := s.val i _ hi
  have hil : i < G.length := (List.getElem?_eq_some_iff.mp hi).1
  have m : Same S (upd S a (.frz od (.dK kvs))) := same_new h3
  have f : ∀ {j : Nat} {sl : Slot}, (G.set i .no)[j]? = some sl → (j = i ∧ sl = .no) ∨ (j ≠ i ∧ G[j]? = some sl) := fun {j sl} e => by
    by_cases hj : j = i
    · subst hj
      rw [List.getElem?_set_self hil] at e; cases e
      exact .inl ⟨rfl, rfl⟩
    · rw [List.getElem?_set_ne (Ne.symm hj)] at e; exact .inr ⟨hj, e⟩
  refine ⟨by simp [s.len], fun b u q => ?_, fun b u q => ?_, fun b u q n => ?_, fun j sl q => ?_, fun j k b m m' e1 e2 => ?_⟩
  · by_cases hb : b = a
    · subst hb; rw [upd_same] at q ⊢; exact q
    · rw [upd_ne hb] at q ⊢; exact s.sh b u q
  · have hb : b ≠ a := fun z => by subst z; rw [h2] at q; cases q
    rw [upd_ne hb]; exact s.fr b u q
  · have hb : b ≠ a := fun z => by subst z; rw [h2] at q; cases q
    rw [upd_ne hb]; exact s.am b u q n
  · rcases f q with ⟨rfl, rfl⟩ | ⟨hj, q'⟩
    · trivial
    · have h := s.val j sl q'
      cases sl with
      | no => trivial
      | sh d =>
        obtain ⟨v, g1, g2⟩ := h
        exact ⟨v, g1, g2.mono m⟩
      | ow b mo =>
        obtain ⟨g1, g2, g3, g4⟩ := h
        have hb : b ≠ a := fun z => by subst z; exact hj (s.sep _ _ _ _ _ q' hi)
        exact ⟨g1, g2, by rw [upd_ne hb]; exact g3, g4.mono m fun o q => by rw [upd_ne hb]; exact q⟩
  · rcases f e1 with ⟨_, z⟩ | ⟨_, e1'⟩
    · cases z
    · rcases f e2 with ⟨_, z⟩ | ⟨_, e2'⟩
      · cases z
      · exact s.sep _ _ _ _ _ e1' e2'
end
/-- for k in d, d an owned dict with plain keys in slot i; it is forgotten -/
theorem wS_forKK {i : Nat} {a : Addr} {kvs : List (Key × V)} {g : TG} {tb : TS} (h : G[i]? = some (.ow a (.dK kvs))) (inv : Nat → Sl → Prop) (h0 : inv 0 (G.set i .no))
    (hs : ∀ j k v G2, kvs[j]? = some (k, v) → inv j G2 → wG K g (kD k) G2 fun G3 => wS K Z tb G3 ⟨inv (j + 1), P.rt, P.nx, inv (j + 1)⟩)
    (hd : ∀ G2, inv kvs.length G2 → P.nx G2) : wS K Z (tLock (tFor (iKeys (tVar i)) g tb)) G P := fun F S0 S σ H D s z k => by
  obtain ⟨e, f1, f2, f3⟩ := s.val i _ h
  refine ⟨a, .dK kvs, f3, trivial, fun od => ?_⟩
  have s1 := s.lockK h od
  have mS : Same S (upd S a (.frz od (.dK kvs))) := same_new f2
  have fin : ∀ {S' : Hp}, Same (upd S a (.frz od (.dK kvs))) S' → S' a = some (.frz od (.dK kvs)) ∧ Same S (upd S' a (.dK kvs)) := fun {S'} m => ⟨m a _ upd_same, fun b u q => by
    have hb : b ≠ a := fun z => by subst z; rw [f2] at q; cases q
    rw [upd_ne hb]; exact m b u (by rw [upd_ne hb]; exact q)⟩
  refine ⟨_, e, a, od, rfl, .inl ⟨kvs, upd_same, for_core2 (P := P) (S := upd S a (.frz od (.dK kvs))) kvs.length inv (fun j d => ∃ k v, kvs[j]? = some (k, v) ∧ d = kD k) z s1 ⟨?_, ?_, ?_, ?_⟩ h0 (fun j G' S' σ' H' hj iv m s' => ?_) (fun G' S' σ' H' iv m s' => ?_) (fun j d G' hj it iv => ?_) hd⟩⟩
  · intro G' S' σ' H' q m s'
    obtain ⟨g1, g2⟩ := fin m
    exact ⟨s'.sh _ _ g1, k.nx G' _ σ' _ q g2 (s'.unlockK f1 g1)⟩
  · intro r G' v S' σ' H' q m s' o
    obtain ⟨g1, g2⟩ := fin m
    refine ⟨s'.sh _ _ g1, k.rt r G' v _ σ' _ q g2 (s'.unlockK f1 g1) ?_⟩
    cases r with
    | sh d => exact Rep.unlockK g1 o
    | bo j => exact o
    | ow b mo =>
      obtain ⟨o1, o2, o3, o4, o5⟩ := o
      have hb : b ≠ a := fun z => by subst z; rw [g1] at o3; cases o3
      exact ⟨o1, o2, by rw [upd_ne hb]; exact o3, moOk_unlockK g1 hb o4, o5⟩
  · intro G' S' σ' H' q m s'
    obtain ⟨g1, g2⟩ := fin m
    exact ⟨s'.sh _ _ g1, k.bk G' _ σ' _ q g2 (s'.unlockK f1 g1)⟩
  · intro G' S' σ' H' q m s'
    obtain ⟨g1, g2⟩ := fin m
    exact ⟨s'.sh _ _ g1, k.ct G' _ σ' _ q g2 (s'.unlockK f1 g1)⟩
  · have g1 := s'.sh _ _ (fin m).1
    refine ⟨⟨g1, hj⟩, fun x H2 y => ?_⟩
    obtain ⟨rfl, ks, v, q, rfl⟩ := y
    exact ⟨rfl, S', Same.refl _, s', _, ⟨ks, v, q, rfl⟩, kD_rep ks⟩
  · exact ⟨s'.sh _ _ (fin m).1, Nat.le_refl _⟩
  · obtain ⟨ks, v, y1, rfl⟩ := it
    exact hs j ks v G' y1 iv
/-- over range(lo, n), all kept -/
theorem wE_lcR2 {ta : TA} {tt : TT} {te : TE} {j : Nat} (f : Nat → D) (h : wA K Z ta G fun rs G1 => Ask (∃ lo n : Int, rs = [.sh (.int lo), .sh (.int n)] ∧ Nat.blt j G1.length = true ∧ (n ≤ 100000 ∧ -100000 ≤ n ∧ lo ≤ 100000 ∧ -100000 ≤ lo) ∧ (∀ i : Nat, lo + (i : Int) < n → wT K Z tt ((G1.set j .no).set j (.sh (.int (lo + (i : Nat))))) fun b G2 => b = true ∧ wE K Z te G2 fun r G3 => rsh r = some (f i) ∧ keepOw G1 G3) ∧ ∀ a, Q (.ow a (.lst ((List.range (n - lo).toNat).map f))) G1)) :
    wE K Z (tLc (iRng2 ta) (gName j) tt te [j]) G Q := fun F S0 S σ H Qr s z k =>
  h F S0 S σ H _ s z fun rs G1 vs S1 H1 q m1 s1 o => by
    obtain ⟨lo, n, rfl, hj, ⟨b1, b2, b3, b4⟩, hs, q⟩ := q
    obtain ⟨v, u, rfl, o1, o2⟩ := fs2 o
    cases o1; cases o2
    have ef : ∀ m : Nat, (List.range m).filterMap (fun i => some (f i)) = (List.range m).map f := fun m => by
      rw [List.filterMap_eq_map']
    refine ⟨lo, n, rfl, ⟨by omega, by omega, by omega, by omega⟩, fun p hp => lc_core' (n - lo).toNat (fun i => some (f i)) (fun i d => d = .int (lo + (i : Nat))) z s1 hp (by omega) (fun i S' H' hi m s' => ⟨hi, fun x H2 y => ⟨y.1, .int (lo + (i : Nat)), rfl, ?_⟩⟩) (fun S' H' m s' => Nat.le_refl _) (blt_lt hj) (fun i d hi e => ?_) fun S' H' m s' g1 g2 => ?_⟩
    · rw [y.2]
      exact .int _
    · subst e
      have h1 := hs i (by omega)
      refine fun F S0 S σ H Qr s z k => h1 F S0 S σ H Qr s z fun b G2 S2 H2 q m s2 => k b G2 S2 H2 ⟨fun _ => ?_, fun e => ?_⟩ m s2
      · exact wE.mono q.2 fun r G3 q3 => ⟨f i, q3.1, rfl, q3.2⟩
      · rw [q.1] at e; cases e
    · rw [ef] at g2
      exact k _ _ _ _ _ (q p) (m1.trans m) s' ⟨rfl, s1.unfr hp, g1, g2, s1.noow hp⟩
/-- isinstance of an owned dict with tuple keys -/
theorem wC_isiDT {i : Nat} {a : Addr} {kvs : List (List Key × V)} {T : String} {b : Bool} (h : G[i]? = some (.ow a (.dT kvs))) (hb : kitB "dict" T = some b) (q : Q (.sh (.bl b)) G) : wC K Z (rIsi K) [.bo i, .sh (.ty T)] G Q := fun F S0 S σ H Qr vs s z o k => by
  obtain ⟨v, u, rfl, o1, o2⟩ := fs2 o
  cases o2
  obtain ⟨e, _, _, h3⟩ := s.val i _ h
  have o' : σ[i]? = some (some v) := o1
  rw [e] at o'
  cases o'
  exact ⟨_, .ty T, .type "dict", .type T, b, rfl, .ty T, .base (.dT h3), kit_ty hb, k.val s q (.bl _)⟩
end
end PL

/-! PZ: written dicts of constants; a call in a try. -/
namespace PL
open PySem PySem.Spec PyProof.Rows L2
section
variable {K : PySem.W.Frag} {Z : Ec} {F S0 S S' : Hp} {G : Sl} {σ : L2.St} {H H' : Hp} {Q : R → Sl → Prop} {P : Po}
theorem tPairs_c {σ : L2.St} : ∀ (kvs : List (Key × V)) (H : Hp) (Q : List (V × V) → Hp → Prop), Q (kvs.map fun kv => (kV kv.1, kv.2)) H → tPairs (kvs.map fun kv => (tC (kV kv.1), tC kv.2)) σ H Q
  | [], H, Q, h => h
  | p :: kvs, H, Q, h => tPairs_c kvs H _ h
/-- {k: v, ..} of constants -/
theorem wE_dispC (kvs : List (Key × V)) (hl : Nat.ble kvs.length 15 = true) (q : ∀ a, Q (.ow a (.dK (mergeK [] kvs))) G) : wE K Z (tDisp (kvs.map fun kv => (tC (kV kv.1), tC kv.2))) G Q := fun F S0 S σ H Qr s z k p hp => by
  refine tPairs_c kvs _ _ ⟨upd_same, kvs, rfl, Nat.le_of_ble_eq_true hl, ?_⟩
  obtain ⟨s2, g1, g2, g3⟩ := s.newow (o := .dK (mergeK [] kvs)) hp
  have e : upd (upd H p (.dK [])) p (.dK (mergeK [] kvs)) = upd H p (.dK (mergeK [] kvs)) := by
    funext b
    by_cases hb : b = p
    · subst hb; rw [upd_same, upd_same]
    · rw [upd_ne hb, upd_ne hb, upd_ne hb]
  rw [e]
  exact k _ _ _ _ _ (q p) (Same.refl _) s2 ⟨rfl, g1, g2, upd_same, g3⟩
end
end PL

/-! PW: a slice stored. -/
namespace PL
open PySem PySem.Spec PyProof.Rows L2
/-- xs[lo:hi] = another list -/
def gSlice (to ta tb : TE) : TG := fun v σ H Q => to σ H fun o H1 => ta σ H1 fun x H2 => tb σ H2 fun y H3 => ∃ (l b : Addr) (xs ys : List V) (a c : Int), o = .ref l ∧ v = .ref b ∧ x = .int a ∧ y = .int c ∧ H3 l = some (.lst xs) ∧ H3 b = some (.lst ys) ∧ l ≠ b ∧ 0 ≤ a ∧ a ≤ c ∧ c ≤ xs.length ∧ xs.length + ys.length ≤ sizeLine ∧ Q σ (upd H3 l (.lst (xs.take a.toNat ++ ys ++ xs.drop c.toNat)))
section
variable {X : Cx} {pos p2 : Pos} {o lo hi : Expr} {to ta tb : TE}
theorem pg_slice (ho : PE X o to) (hl : PE X lo ta) (hu : PE X hi tb)
    (ha : ∀ v, assign (.Subscript o (.Slice (some lo) (some hi) none p2) pos) X.env v = (do
      let ov ← holding [v] (eval o X.env)
      let iv ← holding [v, ov] (eval (.Slice (some lo) (some hi) none p2) X.env)
      standAt pos
      holding [v, ov, iv] (setItem ov iv v)
      release [iv, v, ov] []) := by intro _; rfl) : PG X (.Subscript o (.Slice (some lo) (some hi) none p2) pos) (gSlice to ta tb) := by
  refine ⟨fun pins s σ H v u Q I r h => ?_⟩
  rw [ha]
  refine wpAny_bind (wpAny_holding (thn (ho.run pins s σ H _ I h) fun ov s1 ⟨x, H1, I1, r1, q1⟩ => ?_))
  refine wpAny_bind (wpAny_holding ?_)
  refine wpAny_Slice ?_
  rw [evalPart_some, evalPart_some, evalPart_none]
  refine thn (hl.run pins s1 σ H1 _ I1 q1) fun vl s2 ⟨l, H2, I2, pl, q2⟩ => thn (hu.run pins s2 σ H2 _ I2 q2) fun vu s3 ⟨y, H3, I3, pu, q3⟩ => ?_
  refine wpAny_pure ?_
  have I4 : Inv X pins σ H3 { s3 with heap := s3.heap.push { cls := .type "slice", data := .fields #[vl, vu, .none] } } := I3.kept (t' := s3.toks) fun b ob q => Heap.get?_push_of_some _ q
  obtain ⟨la, b, xs, ys, a, c, rfl, rfl, rfl, rfl, hH, hB, hne, h0, hac, hc, hz, q⟩ := q3
  cases r1
  cases r
  refine wpAny_bind (wpAny_standAt (wpAny_bind (wpAny_holding ?_)))
  refine set_slice (s := { s3 with heap := s3.heap.push { cls := .type "slice", data := .fields #[vl, vu, .none] } }) I4 hH hB hne (Heap.IsSliceOf.new ..) pl pu h0 hac hc hz fun s' I' => ?_
  exact wpAny_release ⟨σ, _, I', q⟩
end
section
variable {K : PySem.W.Frag} {Z : Ec} {F S0 S S' : Hp} {G : Sl} {σ : L2.St} {H H' : Hp} {Q : R → Sl → Prop} {P : Po}
theorem wS_setSl {i : Nat} {a : Addr} {te ta tb : TE} (h : wE K Z te G fun r G1 => ∃ es, rsh r = some (.lst es) ∧ (∃ m, G1[i]? = some (.ow a m)) ∧ wE K Z ta G1 fun x G2 => wE K Z tb G2 fun y G3 => ∃ (p q : Int) (ds : List D), x = .sh (.int p) ∧ y = .sh (.int q) ∧ G3[i]? = some (.ow a (.lst ds)) ∧ 0 ≤ p ∧ p ≤ q ∧ q ≤ ds.length ∧ ds.length + es.length ≤ 1000000 ∧ P.nx (G3.set i (.ow a (.lst (ds.take p.toNat ++ es ++ ds.drop q.toNat))))) :
    wS K Z (tAsg te (gSlice (tVar i) ta tb)) G P := fun F S0 S σ H D s z k =>
  evF h s z fun r G1 v S1 H1 q m s1 o => by
    obtain ⟨es, e2, ⟨m0, h1⟩, q⟩ := q
    obtain ⟨e, _⟩ := s1.val i _ h1
    have r' := rsh_ok e2 o
    cases r' with
    | @lst b ys _ hb hy =>
      refine ⟨_, e, evF q s1 z fun x G2 u S2 H2 q m2 s2 o2 => evF q s2 z fun y G3 w S3 H3 q m3 s3 o3 => ?_⟩
      obtain ⟨p, q', ds, rfl, rfl, h2, h0, hpq, hq, hl, q⟩ := q
      cases o2; cases o3
      obtain ⟨e', f1, f2, vs, g3, g4⟩ := s3.val i _ h2
      have hb3 : S3 b = some (.lst ys) := m3 _ _ (m2 _ _ hb)
      have hne : a ≠ b := fun z => by subst z; rw [f2] at hb3; cases hb3
      have hlen := hy.len
      refine ⟨a, b, vs, ys, p, q', rfl, rfl, rfl, rfl, g3, s3.sh _ _ hb3, hne, h0, hpq, by rw [g4.len]; exact hq, by rw [g4.len, hlen]; exact line_of hl, k.nx _ S3 σ _ q ((m.trans m2).trans m3) (s3.mut h2 ⟨_, upd_same, ?_⟩)⟩
      exact ((g4.take _).append (hy.mono (m2.trans m3))).append (g4.drop _)
end
end PL

namespace PySem.SeqAt
open AutoSeq1 (wpAny_loadPart')
open MeetsSeq MeetsSeq2 MeetsSeq3 SeqRoads2
section
variable {A : Around} {s : Shared}
def IsDict (s : Shared) (a : Addr) : Prop := ∃ o es ep, s.heap.get? a = some o ∧ o.cls = .type "dict" ∧ o.data = .dict es ep
theorem IsDict.ty {a : Addr} (h : IsDict s a) : s.TypeIs (.ref a) "dict" := by
  obtain ⟨o, es, ep, h1, h2, h3⟩ := h
  exact ⟨o, h1, h2⟩
theorem str_eq_declines_dict (b : Str) (u : Tok) (l : Addr) (c : Value) (dd : Option Addr) (sl : Array (Option Value)) (es : Array DictEntry) (ep : Nat) :
    Meets (Builtin.«str.__eq__» ⟨[.str b u, .ref l], []⟩) (fun _ R s => s.heap.get? l = some { cls := c, dict := dd, data := .dict es ep, slots := sl } ∧ R (.ok (.ret .notImplemented)) s) :=
  .of_wp fun prog w A R s h => by obtain ⟨hp, g, d, tk, os⟩ := s; obtain ⟨hl, h⟩ := h; wp_walk using wpAny_loadPart' hl, wpAny_load hl; exact ⟨_, rfl, h⟩
theorem dict_eq_declines_str {prog : Program} {w : World} {E Q : Value → Shared → Prop} {l : Addr} {x : Str} {t : Tok} (hd : IsDict s l) (h : Q .notImplemented s) : wpAny (model prog w) A (call (.builtin "dict.__eq__") [.ref l, .str x t]) Q E s := by
  refine wpAny_call_entry PySem.F.slot_dict_eq hd.ty PySem.F.entry_dict_eq ?_ (PySem.F.args_dict_eq_2 _ _)
  show wpAny _ _ (Builtin.Dict.dictSlotArgs "__eq__" ⟨[.ref l, .str x t], []⟩ >>= _) _ _ s
  refine wpAny_bind ?_
  unfold Builtin.Dict.dictSlotArgs
  refine wpAny_bind (wpAny_notOrdered_dict hd.ty ?_)
  show wpAny _ _ (pure (Value.ref l, Value.str x t)) _ _ s
  refine wpAny_pure ?_
  refine wpAny_bind (wpAny_isInstance (T := "str") (typeIs_str s x t) PySem.F.sub_str_dict ?_)
  rw [if_pos (by decide)]
  exact wpAny_bind (wpAny_rule (wpAny_pure ⟨_, rfl, h⟩))
theorem RcAt.dict_str {l : Addr} (x : Str) (t : Tok) (hl : IsDict s l) (hu : A.units < cLine) : RcAt A s (.ref l) (.str x t) false := fun prog w E Q h => by
  have hl' := hl
  obtain ⟨⟨cls, dd, data, sl⟩, es, ep, ho, hc, hd⟩ := hl
  simp only at hc hd
  subst hc hd
  exact rc_eq_decline_or (k := false) ⟨_, ho, rfl⟩ (typeIs_str s x t) (by decide) F.sub_str_dict F.slot_dict_eq F.slot_str_eq_refl
    (fun _ hq => dict_eq_declines_str hl' hq)
    (fun _ hq => call_meets F.slot_str_eq_refl (typeIs_str s x t) F.entry_str_eq (F.args_str_eq_2 _ _) (str_eq_declines_dict x t l (.type "dict") dd sl es ep) ⟨ho, hq⟩)
    (fun _ hq => wpAny_of_eq (rfl : isSame (.ref l) (.str x t) = pure false) hq) (.inr hu) h
theorem RcAt.str_dict {l : Addr} (x : Str) (t : Tok) (hl : IsDict s l) (hu : A.units < cLine) : RcAt A s (.str x t) (.ref l) false := fun prog w E Q h => by
  have hl' := hl
  obtain ⟨⟨cls, dd, data, sl⟩, es, ep, ho, hc, hd⟩ := hl
  simp only at hc hd
  subst hc hd
  exact rc_eq_decline_or (k := false) (typeIs_str s x t) ⟨_, ho, rfl⟩ (by decide) F.sub_dict_str F.slot_str_eq F.slot_dict_eq_refl
    (fun _ hq => call_meets F.slot_str_eq (typeIs_str s x t) F.entry_str_eq (F.args_str_eq_2 _ _) (str_eq_declines_dict x t l (.type "dict") dd sl es ep) ⟨ho, hq⟩)
    (fun _ hq => dict_eq_declines_str hl' hq)
    (fun _ hq => wpAny_of_eq (rfl : isSame (.str x t) (.ref l) = pure false) hq) (.inr hu) h
theorem EqAt.dict_str {l : Addr} (x : Str) (t : Tok) (hl : IsDict s l) (hu : A.units < cLine) : EqAt A s (.ref l) (.str x t) false := fun prog w E Q h => by
  unfold eqBool
  refine wpAny_holding ?_
  refine wpAny_ite_split (fun hab => absurd (eq_of_beq hab) nofun) (fun _ => ?_)
  exact wpAny_bind (RcAt.dict_str x t hl hu prog w E _ (wpAny_truthy_bool h))
theorem EqAt.str_dict {l : Addr} (x : Str) (t : Tok) (hl : IsDict s l) (hu : A.units < cLine) : EqAt A s (.str x t) (.ref l) false := fun prog w E Q h => by
  unfold eqBool
  refine wpAny_holding ?_
  refine wpAny_ite_split (fun hab => absurd (eq_of_beq hab) nofun) (fun _ => ?_)
  exact wpAny_bind (RcAt.str_dict x t hl hu prog w E _ (wpAny_truthy_bool h))
theorem str_ne_declines_dict (b : Str) (u : Tok) (l : Addr) (c : Value) (dd : Option Addr) (sl : Array (Option Value)) (es : Array DictEntry) (ep : Nat) :
    Meets (Builtin.«str.__ne__» ⟨[.str b u, .ref l], []⟩) (fun _ R s => s.heap.get? l = some { cls := c, dict := dd, data := .dict es ep, slots := sl } ∧ R (.ok (.ret .notImplemented)) s) :=
  .of_wp fun prog w A R s h => by obtain ⟨hp, g, d, tk, os⟩ := s; obtain ⟨hl, h⟩ := h; wp_walk using wpAny_loadPart' hl, wpAny_load hl; exact ⟨_, rfl, h⟩
theorem dict_ne_declines_str {prog : Program} {w : World} {E Q : Value → Shared → Prop} {l : Addr} {x : Str} {t : Tok} (hd : IsDict s l) (h : Q .notImplemented s) : wpAny (model prog w) A (call (.builtin "dict.__ne__") [.ref l, .str x t]) Q E s := by
  refine wpAny_call_entry PySem.F.slot_dict_ne hd.ty PySem.F.entry_dict_ne ?_ (PySem.F.args_dict_ne_2 _ _)
  show wpAny _ _ (Builtin.Dict.dictSlotArgs "__ne__" ⟨[.ref l, .str x t], []⟩ >>= _) _ _ s
  refine wpAny_bind ?_
  unfold Builtin.Dict.dictSlotArgs
  refine wpAny_bind (wpAny_notOrdered_dict hd.ty ?_)
  show wpAny _ _ (pure (Value.ref l, Value.str x t)) _ _ s
  refine wpAny_pure ?_
  refine wpAny_bind (wpAny_isInstance (T := "str") (typeIs_str s x t) PySem.F.sub_str_dict ?_)
  rw [if_pos (by decide)]
  exact wpAny_bind (wpAny_rule (wpAny_pure ⟨_, rfl, h⟩))
theorem RcNeAt.dict_str {l : Addr} (x : Str) (t : Tok) (hl : IsDict s l) (hu : A.units < cLine) : RcNeAt A s (.ref l) (.str x t) true := fun prog w E Q h => by
  have hl' := hl
  obtain ⟨⟨cls, dd, data, sl⟩, es, ep, ho, hc, hd⟩ := hl
  simp only at hc hd
  subst hc hd
  exact rc_ne_decline_or (k := false) ⟨_, ho, rfl⟩ (typeIs_str s x t) (by decide) F.sub_str_dict F.slot_dict_ne F.slot_str_ne_refl
    (fun _ hq => dict_ne_declines_str hl' hq)
    (fun _ hq => call_meets F.slot_str_ne_refl (typeIs_str s x t) F.entry_str_ne (F.args_str_ne_2 _ _) (str_ne_declines_dict x t l (.type "dict") dd sl es ep) ⟨ho, hq⟩)
    (fun _ hq => wpAny_of_eq (rfl : isSame (.ref l) (.str x t) = pure false) hq) (.inr hu) h
end
end PySem.SeqAt
namespace PL
open PySem PySem.Spec PyProof.Rows L2
section
variable {X : Cx} {pins : List (Addr × Obj)} {σ : L2.St} {H : Hp} {s : Shared}
theorem isDict_of {a : Addr} {kvs : List (Key × V)} (I : Inv X pins σ H s) (e : H a = some (.dK kvs)) : SeqAt.IsDict s a := by
  obtain ⟨_, _, vs, r, o, es, ep, h1, h2, h3, _⟩ := (show ObjOk X.prog X.w H s.heap a (.dK kvs) from I.hok a _ e)
  exact ⟨o, es, ep, h1, h2.1, h3⟩
def DkAt (H : Hp) (x : V) : Prop := ∃ a kvs, x = .ref a ∧ H a = some (.dK kvs)
def rEqS : R2 := fun x y H Q => DkAt H x ∧ (∃ z, y = .str z) ∧ Q (.bl false) H
def rNeS : R2 := fun x y H Q => DkAt H x ∧ (∃ z, y = .str z) ∧ Q (.bl true) H
theorem op_eqS (hu : X.A.units < cLine) : OpR X (compareOp .Eq) rEqS := by
  intro pins s σ H x y v u Q I rx ry h
  obtain ⟨⟨a, kvs, rfl, e⟩, ⟨z, rfl⟩, q⟩ := h
  cases (show v = Value.ref a from rx)
  obtain ⟨t, rfl⟩ := ry
  exact SeqAt.RcAt.dict_str z t (isDict_of I e) hu _ _ _ _ ⟨.bl false, H, I, rfl, q⟩
theorem op_neS (hu : X.A.units < cLine) : OpR X (compareOp .NotEq) rNeS := by
  intro pins s σ H x y v u Q I rx ry h
  obtain ⟨⟨a, kvs, rfl, e⟩, ⟨z, rfl⟩, q⟩ := h
  cases (show v = Value.ref a from rx)
  obtain ⟨t, rfl⟩ := ry
  exact SeqAt.RcNeAt.dict_str z t (isDict_of I e) hu _ _ _ _ ⟨.bl true, H, I, rfl, q⟩
/-- a text against a thing: what == says -/
def SvE (K : PySem.W.Frag) (H : Hp) (z : Str) (x : V) (b : Bool) : Prop := (DkAt H x ∧ b = false) ∨ ∃ d, Dp K H x d ∧ SeqAt.shaped (.str z) = true ∧ SeqAt.shaped d = true ∧ b = PyData.eqv (.str z) d
theorem svE_at {A : Around} {z : Str} {x : V} {b : Bool} {u v : Value} (I : Inv X pins σ H s) (hu : A.units + 64 < cLine) (h : SvE X.K H z x b) (ru : RelV (.str z) u) (rv : RelV x v) : SeqAt.EqAt A s u v b := by
  obtain ⟨t, rfl⟩ := ru
  rcases h with ⟨⟨a, kvs, rfl, e⟩, rfl⟩ | ⟨d, hd, sz, sd, rfl⟩
  · cases (show v = Value.ref a from rv)
    exact SeqAt.EqAt.str_dict z t (isDict_of I e) (by omega)
  · obtain ⟨as, r⟩ := Dp.reads I d x v hd rv
    exact SeqAt.eqAt_reads (.str z) d A s _ _ _ _ (Reads.str z t) r (SeqAt.canLay_of_shaped sz) (SeqAt.canLay_of_shaped sd) (SeqAt.room_of_shaped sz hu)
/-- w == x says no -/
def NeI (K : PySem.W.Frag) (H : Hp) (w x : V) : Prop :=
  (∃ z, w = .str z ∧ SvE K H z x false) ∨
  ∃ (a b : Addr) (ss : List Str) (ys : List V) (e : Nat → Bool), w = .ref a ∧ x = .ref b ∧ SqT K H a (ss.map V.str) ∧ SqT K H b ys ∧ a ≠ b ∧ (∀ j z y, ss[j]? = some z → ys[j]? = some y → SvE K H z y (e j)) ∧ (ss.length = ys.length → ∃ j, j < ss.length ∧ e j = false)
theorem neI_at {A : Around} {w x : V} {u v : Value} (I : Inv X pins σ H s) (hu : A.units + 66 < cLine) (h : NeI X.K H w x) (ru : RelV w u) (rv : RelV x v) : SeqAt.EqAt A s u v false := by
  rcases h with ⟨z, rfl, h⟩ | ⟨a, b, ss, ys, e, rfl, rfl, h1, h2, hne, hs, hf⟩
  · exact svE_at I (by omega) h ru rv
  · cases (show u = Value.ref a from ru)
    cases (show v = Value.ref b from rv)
    obtain ⟨us, r1, p1, _⟩ := I.tuple h1
    obtain ⟨ws, r2, p2, _⟩ := I.tuple h2
    have l1 : us.length = ss.length := by rw [← r1.length, List.length_map]
    have l2 : ws.length = ys.length := r2.length.symm
    have key := SeqAt.RcAt.tuples (A := A) (s := s) (e := e) p1 p2 (by omega) fun j j1 j2 => by
      have j1' : j < ss.length := by rw [← l1]; simpa using j1
      have j2' : j < ys.length := by rw [← l2]; simpa using j2
      obtain ⟨u1, e1, g1⟩ := Vals.get (i := j) (x := V.str ss[j]) r1 (by rw [List.getElem?_map, List.getElem?_eq_getElem j1']; rfl)
      obtain ⟨u2, e2, g2⟩ := Vals.get (i := j) r2 (List.getElem?_eq_getElem j2')
      have c1 : us.toArray[j] = u1 := by
        have := (List.getElem?_eq_some_iff.mp e1).2
        simpa using this
      have c2 : ws.toArray[j] = u2 := by
        have := (List.getElem?_eq_some_iff.mp e2).2
        simpa using this
      rw [c1, c2]
      exact svE_at I (by show A.units + 1 + 64 < cLine; omega) (hs j _ _ (List.getElem?_eq_getElem j1') (List.getElem?_eq_getElem j2')) g1 g2
    have hr : ((List.range (min us.toArray.size ws.toArray.size)).all e && us.toArray.size == ws.toArray.size) = false := by
      rw [List.size_toArray, List.size_toArray, l1, l2]
      by_cases hl : ss.length = ys.length
      · obtain ⟨j, hj, ej⟩ := hf hl
        have : (List.range (min ss.length ys.length)).all e = false := by
          rw [List.all_eq_false]
          exact ⟨j, List.mem_range.mpr (by omega), by rw [ej]; exact Bool.false_ne_true⟩
        rw [this]; rfl
      · have : (ss.length == ys.length) = false := beq_eq_false_iff_ne.mpr hl
        rw [this, Bool.and_false]
    rw [hr] at key
    exact SeqAt.EqAt.of_refs hne key
/-! equal data, as deep as n -/
mutual
def okE : Nat → D → Bool
  | _, .non => true
  | _, .bl _ => true
  | _, .int _ => true
  | _, .str _ => true
  | n + 1, .tup l => okEA n l
  | n + 1, .lst l => okEA n l
  | _ + 1, .dK l => l.isEmpty
  | _, _ => false
def okEA : Nat → List D → Bool
  | _, [] => true
  | n, d :: l => okE n d && okEA n l
end
theorem eqT_leaf {n : Nat} {x : V} {u v : Value} (f : flatB x = true) (ru : RelV x u) (rv : RelV x v) : PySem.W.EqTree X.prog X.w s n u v true := .leaf fun A _ => eqAt_same ru rv f
theorem all_yes (n : Nat) : ((List.range n).all fun _ => true) = true := List.all_eq_true.mpr fun _ _ => rfl
mutual
theorem eqT_run (I : Inv X pins σ H s) : ∀ (n : Nat) (d : D) {x y : V} {u v : Value}, okE n d = true → Rep X.K H x d → Rep X.K H y d → RelV x u → RelV y v → PySem.W.EqTree X.prog X.w s n u v true
  | n, .non, _, _, _, _, _, r1, r2, ru, rv => by cases r1; cases r2; exact eqT_leaf rfl ru rv
  | n, .bl b, _, _, _, _, _, r1, r2, ru, rv => by cases r1; cases r2; exact eqT_leaf rfl ru rv
  | n, .int i, _, _, _, _, _, r1, r2, ru, rv => by cases r1; cases r2; exact eqT_leaf rfl ru rv
  | n, .str z, _, _, _, _, _, r1, r2, ru, rv => by cases r1; cases r2; exact eqT_leaf rfl ru rv
  | 0, .tup l, _, _, _, _, h, _, _, _, _ => by unfold okE at h; cases h
  | n + 1, .tup l, _, _, _, _, h, r1, r2, ru, rv => by
    have h : okEA n l = true := by unfold okE at h; exact h
    cases r1
    rename_i a xs h1 g1
    cases r2
    rename_i b ys h2 g2
    cases ru
    cases rv
    by_cases e : a = b
    · subst e; exact .same
    · obtain ⟨us, q1, p1, _⟩ := I.tuple (SqT.of h1)
      obtain ⟨ws, q2, p2, _⟩ := I.tuple (SqT.of h2)
      have hl : us.length = ws.length := by rw [← q1.length, ← q2.length, g1.len, g2.len]
      have t := PySem.W.EqTree.tuples (prog := X.prog) (w := X.w) (n := n) (e := fun _ => true) e p1 p2 fun j j1 j2 => by
        have := eqTA_run I n l h g1 g2 q1 q2 j (by simpa using j1) (by simpa using j2)
        simpa using this
      rw [all_yes, List.size_toArray, List.size_toArray, hl, beq_self_eq_true] at t
      exact t
  | 0, .lst l, _, _, _, _, h, _, _, _, _ => by unfold okE at h; cases h
  | n + 1, .lst l, _, _, _, _, h, r1, r2, ru, rv => by
    have h : okEA n l = true := by unfold okE at h; exact h
    cases r1
    rename_i a xs h1 g1
    cases r2
    rename_i b ys h2 g2
    cases ru
    cases rv
    by_cases e : a = b
    · subst e; exact .same
    · obtain ⟨us, q1, p1, _⟩ := I.list (SqL.of h1)
      obtain ⟨ws, q2, p2, _⟩ := I.list (SqL.of h2)
      have hl : us.length = ws.length := by rw [← q1.length, ← q2.length, g1.len, g2.len]
      have t := PySem.W.EqTree.lists (prog := X.prog) (w := X.w) (n := n) (e := fun _ => true) e p1.isList p2.isList (by rw [List.size_toArray, List.size_toArray, hl]) fun j j1 j2 => by
        have := eqTA_run I n l h g1 g2 q1 q2 j (by simpa using j1) (by simpa using j2)
        simpa using this
      rw [all_yes] at t
      exact t
  | 0, .dK l, _, _, _, _, h, _, _, _, _ => by unfold okE at h; cases h
  | n + 1, .dK l, _, _, _, _, h, r1, r2, ru, rv => by
    have h : l.isEmpty = true := by unfold okE at h; exact h
    cases l with
    | cons _ _ => cases h
    | nil =>
    cases r1
    rename_i a h1
    cases r2
    rename_i b h2
    cases ru
    cases rv
    by_cases e : a = b
    · subst e; exact .same
    · obtain ⟨_, y1, v1, k1, d1⟩ := (show ObjOk X.prog X.w H s.heap a (.dK []) from I.hok a _ h1)
      obtain ⟨_, y2, v2, k2, d2⟩ := (show ObjOk X.prog X.w H s.heap b (.dK []) from I.hok b _ h2)
      cases k1
      cases k2
      exact PySem.W.EqTree.dicts (knd := mixKind X.prog X.w) (e := fun _ => true) e y1 y2 d1 d2 fun k v y hm _ => by cases hm
  | n, .dT _, _, _, _, _, h, _, _, _, _ => by cases n <;> (unfold okE at h; cases h)
  | n, .scr _, _, _, _, _, h, _, _, _, _ => by cases n <;> (unfold okE at h; cases h)
  | n, .ty _, _, _, _, _, h, _, _, _, _ => by cases n <;> (unfold okE at h; cases h)
  | n, .ref _, _, _, _, _, h, _, _, _, _ => by cases n <;> (unfold okE at h; cases h)
theorem eqTA_run (I : Inv X pins σ H s) : ∀ (n : Nat) (l : List D) {xs ys : List V} {us ws : List Value}, okEA n l = true → RepA X.K H xs l → RepA X.K H ys l → Vals xs us → Vals ys ws → ∀ j (h1 : j < us.length) (h2 : j < ws.length), PySem.W.EqTree X.prog X.w s n us[j] ws[j] true
  | n, [], _, _, _, _, _, .nil, _, r1, _ => fun j h1 _ => by cases r1; exact absurd h1 (Nat.not_lt_zero j)
  | n, d :: l, _, _, _, _, h, .cons g1 t1, .cons g2 t2, .cons r1 s1, .cons r2 s2 => fun j h1 h2 => by
    have h : okE n d = true ∧ okEA n l = true := by unfold okEA at h; exact Bool.and_eq_true_iff.mp h
    cases j with
    | zero => exact eqT_run I n d h.1 g1 g2 r1 r2
    | succ j => exact eqTA_run I n l h.2 t1 t2 s1 s2 j (Nat.lt_of_succ_lt_succ h1) (Nat.lt_of_succ_lt_succ h2)
end
def rEqW (K : PySem.W.Frag) : R2 := fun x y H Q => ∃ l, okEA 60 l = true ∧ Rep K H x (.lst l) ∧ Rep K H y (.lst l) ∧ Q (.bl true) H
theorem op_eqW (hu : X.A.units + 64 < cLine) : OpR X (compareOp .Eq) (rEqW X.K) := by
  intro pins s σ H x y v u Q I rx ry h
  obtain ⟨l, hl, r1, r2, q⟩ := h
  cases r1
  rename_i a xs h1 g1
  cases r2
  rename_i b ys h2 g2
  cases rx
  cases ry
  obtain ⟨us, q1, p1, _⟩ := I.list (SqL.of h1)
  obtain ⟨ws, q2, p2, _⟩ := I.list (SqL.of h2)
  have he : us.length = ws.length := by rw [← q1.length, ← q2.length, g1.len, g2.len]
  refine PySem.W.eq_listsT (n := 60) (e := fun _ => true) p1.isList p2.isList (by rw [List.size_toArray, List.size_toArray, he]) (fun j j1 j2 => ?_) (by omega) ?_
  · have := eqTA_run I 60 l hl g1 g2 q1 q2 j (by simpa using j1) (by simpa using j2)
    simpa using this
  · rw [all_yes]
    exact ⟨.bl true, H, I, rfl, q⟩
/-- x is in no place of a list or tuple -/
def rInN (K : PySem.W.Frag) (neg : Bool) : R2 := fun x y H Q => ∃ p xs, y = .ref p ∧ (SqL K H p xs ∨ SqT K H p xs) ∧ (∀ w ∈ xs, NeI K H w x) ∧ Q (.bl neg) H
theorem vals_mem : ∀ {xs : List V} {us : List Value}, Vals xs us → ∀ u ∈ us, ∃ w, w ∈ xs ∧ RelV w u
  | _, _, .nil, u, hu => by cases hu
  | x :: xs, u' :: us, .cons r t, u, hu => by
    rcases List.mem_cons.mp hu with rfl | hu
    · exact ⟨x, List.mem_cons_self, r⟩
    · obtain ⟨w, h1, h2⟩ := vals_mem t u hu
      exact ⟨w, List.mem_cons_of_mem _ h1, h2⟩
theorem any_no (us : List Value) : us.toArray.any (fun _ => false) = false := by simp
theorem op_inN (hu : X.A.units + 67 < cLine) : OpR X (compareOp .In) (rInN X.K false) := by
  intro pins s σ H x y v u Q I rx ry h
  obtain ⟨p, xs, rfl, hq, hn, q⟩ := h
  cases ry
  rcases hq with hq | hq
  · obtain ⟨its, r, pl, hz⟩ := I.list hq
    refine SeqAt.in_listAt (fun _ => false) pl.isList (fun w hw => ?_) ⟨.bl _, H, I, rfl, ?_⟩
    · obtain ⟨w', h1, h2⟩ := vals_mem r w (by simpa using hw)
      exact neI_at I (by show X.A.units + 1 + 66 < cLine; omega) (hn w' h1) h2 rx
    · rw [any_no]; exact q
  · obtain ⟨its, r, pl, hz⟩ := I.tuple hq
    refine SeqAt.in_tupleAt (fun _ => false) pl (fun w hw => ?_) ⟨.bl _, H, I, rfl, ?_⟩
    · obtain ⟨w', h1, h2⟩ := vals_mem r w (by simpa using hw)
      exact neI_at I (by show X.A.units + 1 + 66 < cLine; omega) (hn w' h1) h2 rx
    · rw [any_no]; exact q
theorem op_ninN (hu : X.A.units + 67 < cLine) : OpR X (compareOp .NotIn) (rInN X.K true) := by
  intro pins s σ H x y v u Q I rx ry h
  obtain ⟨p, xs, rfl, hq, hn, q⟩ := h
  cases ry
  rcases hq with hq | hq
  · obtain ⟨its, r, pl, hz⟩ := I.list hq
    refine SeqAt.notIn_listAt (fun _ => false) pl.isList (fun w hw => ?_) ⟨.bl _, H, I, rfl, ?_⟩
    · obtain ⟨w', h1, h2⟩ := vals_mem r w (by simpa using hw)
      exact neI_at I (by show X.A.units + 1 + 66 < cLine; omega) (hn w' h1) h2 rx
    · rw [any_no]; exact q
  · obtain ⟨its, r, pl, hz⟩ := I.tuple hq
    refine SeqAt.notIn_tupleAt (fun _ => false) pl (fun w hw => ?_) ⟨.bl _, H, I, rfl, ?_⟩
    · obtain ⟨w', h1, h2⟩ := vals_mem r w (by simpa using hw)
      exact neI_at I (by show X.A.units + 1 + 66 < cLine; omega) (hn w' h1) h2 rx
    · rw [any_no]; exact q
end
/-! #### the operators with these -/
def vEq (K : PySem.W.Frag) : R2 := fun x y H Q => uEq K x y H Q ∨ rEqS x y H Q ∨ rEqW K x y H Q
def vNe (K : PySem.W.Frag) : R2 := fun x y H Q => uNe K x y H Q ∨ rNeS x y H Q
def vIn (K : PySem.W.Frag) : R2 := fun x y H Q => uIn K x y H Q ∨ rInN K false x y H Q
def vNin (K : PySem.W.Frag) : R2 := fun x y H Q => uNin K x y H Q ∨ rInN K true x y H Q
section
variable {X : Cx}
theorem op_vEq {k : Nat} (hr : Room k X.A) : OpR X (compareOp .Eq) (vEq X.K) := opr_or (op_uEq hr) (opr_or (op_eqS (by have := hr.un; omega)) (op_eqW hr.units))
theorem op_vNe {k : Nat} (hr : Room k X.A) : OpR X (compareOp .NotEq) (vNe X.K) := opr_or (op_uNe hr) (op_neS (by have := hr.un; omega))
theorem op_vIn {k : Nat} (hr : Room k X.A) : OpR X (compareOp .In) (vIn X.K) := opr_or (op_uIn hr) (op_inN (by have := hr.un; omega))
theorem op_vNin {k : Nat} (hr : Room k X.A) : OpR X (compareOp .NotIn) (vNin X.K) := opr_or (op_uNin hr) (op_ninN (by have := hr.un; omega))
end
section
variable {K : PySem.W.Frag} {Z : Ec} {F S0 S S' : Hp} {G : Sl} {σ : L2.St} {H H' : Hp} {Q : R → Sl → Prop} {P : Po}
theorem v_eq {x y : R} (q : wR K Z (uEq K) x y G Q) : wR K Z (vEq K) x y G Q := wR_imp (fun _ _ _ _ h => .inl h) q
theorem v_ne {x y : R} (q : wR K Z (uNe K) x y G Q) : wR K Z (vNe K) x y G Q := wR_imp (fun _ _ _ _ h => .inl h) q
theorem v_in {x y : R} (q : wR K Z (uIn K) x y G Q) : wR K Z (vIn K) x y G Q := wR_imp (fun _ _ _ _ h => .inl h) q
theorem v_nin {x y : R} (q : wR K Z (uNin K) x y G Q) : wR K Z (vNin K) x y G Q := wR_imp (fun _ _ _ _ h => .inl h) q
theorem v_eqS {kvs : List (Key × V)} {z : Str} (q : Q (.sh (.bl false)) G) : wR K Z (vEq K) (.sh (.dK kvs)) (.sh (.str z)) G Q := fun F S0 S σ H Qr v u s zz o1 o2 k => by
  cases o1
  rename_i a h1
  cases o2
  exact .inr (.inl ⟨⟨a, kvs, rfl, s.sh _ _ h1⟩, ⟨z, rfl⟩, k.val s q (.bl _)⟩)
theorem v_neS {kvs : List (Key × V)} {z : Str} (q : Q (.sh (.bl true)) G) : wR K Z (vNe K) (.sh (.dK kvs)) (.sh (.str z)) G Q := fun F S0 S σ H Qr v u s zz o1 o2 k => by
  cases o1
  rename_i a h1
  cases o2
  exact .inr ⟨⟨a, kvs, rfl, s.sh _ _ h1⟩, ⟨z, rfl⟩, k.val s q (.bl _)⟩
/-- no place of ds is d -/
def NoD (d : D) : D → Prop := fun e =>
  (∃ z, e = .str z ∧ ((∃ kvs, d = .dK kvs) ∨ (dat 64 d = true ∧ dat 64 (.str z) = true ∧ eqD (.str z) d = false))) ∨
  ∃ (ss : List Str) (l : List D), e = .tup (ss.map D.str) ∧ d = .tup l ∧ (∀ z ∈ ss, dat 64 (.str z) = true) ∧ (∀ y ∈ l, (∃ kvs, y = .dK kvs) ∨ dat 64 y = true) ∧ ∃ (j : Nat) (kvs : List (Key × V)), l[j]? = some (.dK kvs)
theorem repA_strs {S : Hp} : ∀ {ss : List Str} {xs : List V}, RepA K S xs (ss.map D.str) → xs = ss.map V.str
  | [], _, .nil => rfl
  | z :: ss, _, .cons h r => by
    cases h
    rw [repA_strs r]; rfl
theorem repA_at {S : Hp} : ∀ {ds : List D} {xs : List V}, RepA K S xs ds → ∀ {j : Nat} {x : V}, xs[j]? = some x → ∃ d, ds[j]? = some d ∧ Rep K S x d
  | _, _, .nil, j, x, h => by cases h
  | d :: ds, v :: vs, .cons r t, 0, x, h => by
    cases h
    exact ⟨d, rfl, r⟩
  | d :: ds, v :: vs, .cons r t, j + 1, x, h => repA_at t (j := j) (by simpa using h)
theorem repA_to {S : Hp} : ∀ {ds : List D} {xs : List V}, RepA K S xs ds → ∀ {j : Nat} {d : D}, ds[j]? = some d → ∃ x, xs[j]? = some x ∧ Rep K S x d
  | _, _, .nil, j, x, h => by cases h
  | d :: ds, v :: vs, .cons r t, 0, x, h => by
    cases h
    exact ⟨v, rfl, r⟩
  | d :: ds, v :: vs, .cons r t, j + 1, x, h => repA_to t (j := j) (by simpa using h)
def eTup (ss : List Str) (l : List D) (j : Nat) : Bool := match ss[j]?, l[j]? with
  | some _, some (.dK _) => false
  | some z, some d => eqD (.str z) d
  | _, _ => true
def svB (z : Str) : D → Bool
  | .dK _ => false
  | d => eqD (.str z) d
theorem eTup_at {ss : List Str} {l : List D} {i : Nat} {z : Str} {d : D} (e1 : ss[i]? = some z) (e2 : l[i]? = some d) : eTup ss l i = svB z d := by
  unfold eTup
  rw [e1, e2]
  cases d <;> rfl
theorem svE_of {z : Str} {x : V} {d : D} (r : Rep K H x d) (hz : dat 64 (.str z) = true) (h : (∃ kvs, d = .dK kvs) ∨ dat 64 d = true) : SvE K H z x (svB z d) := by
  rcases h with ⟨kvs, rfl⟩ | h
  · cases r
    rename_i a h1
    exact .inl ⟨⟨a, kvs, rfl, h1⟩, rfl⟩
  · refine .inr ⟨toPy d, dp_rep h r, dat_shaped hz, dat_shaped h, ?_⟩
    cases d <;> first | rfl | (unfold dat at h; cases h)
theorem neI_of {S : Hp} (m : Same S H) {w x : V} {d e : D} (rw' : Rep K S w e) (rx : Rep K S x d) (h : NoD d e) : NeI K H w x := by
  rcases h with ⟨z, rfl, h⟩ | ⟨ss, l, rfl, rfl, hz, hl, j, kvs, hj⟩
  · cases rw'
    refine .inl ⟨z, rfl, ?_⟩
    rcases h with ⟨kvs, rfl⟩ | ⟨h1, h2, h3⟩
    · cases rx
      rename_i a h1
      exact .inl ⟨⟨a, kvs, rfl, m _ _ h1⟩, rfl⟩
    · exact .inr ⟨toPy d, dp_rep h1 (rx.mono m), dat_shaped h2, dat_shaped h1, h3.symm⟩
  · cases rw'
    rename_i a xs h1 h2
    cases rx
    rename_i b ys h3 h4
    have := repA_strs h2
    subst this
    refine .inr ⟨a, b, ss, ys, eTup ss l, rfl, rfl, SqT.of (m _ _ h1), SqT.of (m _ _ h3), fun e => ?_, fun i z y e1 e2 => ?_, fun hlen => ⟨j, ?_, ?_⟩⟩
    · subst e
      rw [h1] at h3
      cases h3
      obtain ⟨x, hx, rx⟩ := repA_to h4 hj
      cases rx
      rw [List.getElem?_map] at hx
      obtain ⟨z, _, hz⟩ := Option.map_eq_some_iff.mp hx
      cases hz
    · obtain ⟨d, hd, rd⟩ := repA_at h4 e2
      rw [eTup_at e1 hd]
      exact svE_of (rd.mono m) (hz z (List.mem_of_getElem? e1)) (hl d (List.mem_of_getElem? hd))
    · obtain ⟨x, hx, _⟩ := repA_to h4 hj
      have := (List.getElem?_eq_some_iff.mp hx).1
      omega
    · have hjs : j < ss.length := by
        obtain ⟨x, hx, _⟩ := repA_to h4 hj
        have := (List.getElem?_eq_some_iff.mp hx).1
        omega
      unfold eTup
      rw [List.getElem?_eq_getElem hjs, hj]
theorem v_ninN {y : R} {d : D} {ds : List D} (hy : lv G y = some ds ∨ y = .sh (.tup ds)) (h : ∀ e ∈ ds, NoD d e) (q : Q (.sh (.bl true)) G) : wR K Z (vNin K) (.sh d) y G Q := fun F S0 S σ H Qr v u s z o1 o2 k => by
  have fin : ∀ {a : Addr} {xs : List V}, u = .ref a → (SqL K H a xs ∨ SqT K H a xs) → RepA K S xs ds → vNin K v u H Qr := fun {a xs} hu hq hr => by
    refine .inr ⟨a, xs, hu, hq, fun w hw => ?_, k.val s q (.bl _)⟩
    obtain ⟨j, hj⟩ := List.mem_iff_getElem?.mp hw
    obtain ⟨e, he, re⟩ := repA_at hr hj
    exact neI_of s.sh re o1 (h e (List.mem_of_getElem? he))
  rcases hy with hy | hy
  · obtain ⟨a, xs, rfl, h1, h2⟩ := lv_ok hy s o2
    exact fin rfl (.inl (SqL.of h1)) h2
  · subst hy
    cases o2
    rename_i a xs h1 h2
    exact fin rfl (.inr (SqT.of (s.sh _ _ h1))) h2
/-! the same things, in two lists -/
theorem v_eqSame {x y : R} {ds : List D} (hx : lv G x = some ds) (hy : lv G y = some ds) (h : okEA 60 ds = true) (q : Q (.sh (.bl true)) G) : wR K Z (vEq K) x y G Q := fun F S0 S σ H Qr v u s z o1 o2 k => by
  obtain ⟨a, xs, rfl, h1, h2⟩ := lv_ok hx s o1
  obtain ⟨b, ys, rfl, h3, h4⟩ := lv_ok hy s o2
  exact .inr (.inr ⟨ds, h, .lst h1 (h2.mono s.sh), .lst h3 (h4.mono s.sh), k.val s q (.bl _)⟩)
end
end PL

/-! PB: a walk from the end. -/
namespace PL
open PySem PySem.Spec PyProof.Rows L2
section
variable {K : PySem.W.Frag} {Z : Ec} {F S0 S S' : Hp} {G : Sl} {σ : L2.St} {H H' : Hp} {Q : R → Sl → Prop} {P : Po}
theorem wS_forRev {ta : TA} {g : TG} {tb : TS} (h : wA K Z ta G fun rs G1 => Ask (∃ ds, rs = [.sh (.lst ds)] ∧ ∃ inv : Nat → Sl → Prop, inv 0 G1 ∧
    (∀ i d G2, i < ds.length → ds[ds.length - 1 - i]? = some d → inv i G2 → wG K g d G2 fun G3 => wS K Z tb G3 ⟨inv (i + 1), P.rt, P.nx, inv (i + 1)⟩) ∧ ∀ G2, inv ds.length G2 → P.nx G2)) : wS K Z (tFor (iRev K ta) g tb) G P := fun F S0 S σ H D s z k =>
  h F S0 S σ H _ s z fun rs G1 vs S1 H1 q m1 s1 o => by
    obtain ⟨ds, rfl, inv, h0, hs, hd⟩ := q
    obtain ⟨v, rfl, o1⟩ := fs1 o
    cases o1
    rename_i a xs h1 h2
    refine ⟨a, xs, rfl, SqL.of (s1.sh _ _ h1), ?_⟩
    have hl := h2.len
    rw [hl]
    refine for_core ds.length inv (fun i d => i < ds.length ∧ ds[ds.length - 1 - i]? = some d) z s1 (k.from m1) h0 (fun i G' S' σ' H' hi _ m s' => ?_) (fun G' S' σ' H' _ m s' => Nat.le_refl _) (fun i d G' _ hi q => hs i d G' hi.1 hi.2 q) hd
    have h1' := s'.sh _ _ (m _ _ h1)
    have hi' : ds.length - 1 - i < xs.length := by omega
    refine ⟨⟨hi, xs, xs[ds.length - 1 - i], SqL.of h1', List.getElem?_eq_getElem hi'⟩, fun x H2 y => ⟨y.1, ?_⟩⟩
    obtain ⟨d, hd, rd⟩ := h2.getV (y.2 xs (SqL.of h1'))
    exact ⟨d, ⟨hi, hd⟩, rd.mono m⟩
theorem wT_pre {c : TT} {Q : Bool → Sl → Prop} (Q' : Bool → Prop) (h : wT K Z c G fun b G2 => G2 = G ∧ Q' b) (k : ∀ b, Q' b → Q b G) : wT K Z c G Q := fun F S0 S σ H Qr s z kk => h F S0 S σ H Qr s z fun b G' S' H' q m s' => kk b G' S' H' (by
  obtain ⟨rfl, q⟩ := q
  exact k b q) m s'
end
end PL

/-! PC: try .. except C as e. -/
namespace PL
open PySem PySem.Spec PyProof.Rows L2
/-! ### isinstance of what was caught -/
def cls1 : V → Bool
  | .ref _ => true
  | .ty _ => true
  | _ => false
def vv : V → Value
  | .ref a => .ref a
  | .ty n => .type n
  | _ => .none
theorem relV_vv {c : V} {u : Value} (h : cls1 c = true) (r : RelV c u) : u = vv c := by
  cases c <;> first | exact r | cases h
theorem vals_vv : ∀ {cs : List V} {us : List Value}, cs.all cls1 = true → Vals cs us → us = cs.map vv
  | _, _, _, .nil => rfl
  | c :: cs, u :: us, h, .cons r t => by
    rw [List.all_cons, Bool.and_eq_true] at h
    rw [List.map_cons, relV_vv h.1 r, vals_vv h.2 t]
def rIsX (K : PySem.W.Frag) (D a : Addr) : List V → Hp → VK → Prop := fun xs H Q => ∃ (c : V) (b : Bool), xs = [.ref a, c] ∧
  ((cls1 c = true ∧ PySem.W.kitOne K (.ref D) (vv c) = some b) ∨ ∃ tp cs, c = .ref tp ∧ H tp = some (.tup cs) ∧ cs.all cls1 = true ∧ PySem.W.kitAny K (.ref D) (cs.map vv) = some b) ∧ Q (.bl b) H
theorem call_isX {X : Cx} {a D : Addr} {oe : Obj} {pn : List (Addr × Obj)} (C : ExcC X.K D) (hz : Zc (.ref D) none oe) (hf : ∃ vs, oe.data = .fields vs) : CallR (X.suite a ((a, oe) :: pn)) (.builtin "isinstance") (rIsX X.K D a) := by
  intro pins s σ H xs us Q I r h
  obtain ⟨c, b, rfl, e, q⟩ := h
  cases r with
  | cons rx rr =>
    cases rr with
    | cons rt rr =>
      cases rr
      cases rx
      obtain ⟨hget, _⟩ := I.pin (a, oe) (List.mem_append.mpr (.inl List.mem_cons_self))
      obtain ⟨vs, hv⟩ := hf
      have J : PySem.W.InstAt s.heap a oe D none := by
        obtain ⟨oc, od, oda, osl⟩ := oe
        obtain ⟨h1, h2⟩ := hz
        dsimp only at h1 h2 hv
        subst h1 h2 hv
        exact ⟨hget, rfl, rfl, trivial⟩
      have Z := PySem.W.handS_kitx_exc (ox := oe) (x := a) C.hg C.hk C.hs C.hd C.ha C.hn C.ht C.hm
      rcases e with ⟨hc, e⟩ | ⟨tp, cs, rfl, htp, hcs, e⟩
      · have ec := relV_vv hc rt
        subst ec
        exact PySem.W.kia_one Z I.kIn J e (fun z => nomatch z) fun tk => ⟨.bl b, H, I.kept (t' := tk) fun _ _ z => z, rfl, q⟩
      · cases rt
        obtain ⟨its, rv, ⟨o, ho, hc, n, hd⟩, _⟩ := I.tuple (SqT.of htp)
        have ei := vals_vv hcs rv
        subst ei
        obtain ⟨oc, od, oda, osl⟩ := o
        dsimp only at hc hd
        subst hc hd
        exact PySem.W.kia_tup Z I.kIn J ho e (fun z => nomatch z) fun tk => ⟨.bl b, H, I.kept (t' := tk) fun _ _ z => z, rfl, q⟩
/-! ### the statement -/
section
variable {K : PySem.W.Frag} {Z : Ec} {F S0 S S' : Hp} {G : Sl} {σ : L2.St} {H H' : Hp} {Q : R → Sl → Prop} {P : Po}
/-- as call_core, what an exception finds told in full -/
theorem call_coreS {φ : Phi} {E' : XK} {X' : Value → Prop} {rs : List R} {vs : List V} {ds : List D} {Qr : VK} (hX : ∀ c H', X' c → Same H H' → E' c none H') (s : Sat K F S0 G S σ H) (o : FsOk K S σ rs vs) (hd : dsOf G rs = some ds)
    (hφ : φ ds (fun r => (noBo rs = true ∨ flatR r = true) ∧ Q r G) X') (k : kE K F S0 S σ Q Qr) : mkSp K φ vs H Qr E' := by
  have own : ∀ {a : Addr}, Lent G rs a → ∃ m, F a = none ∧ S a = none ∧ MoOk K S H a m := fun {a} ⟨i, m, _, e⟩ => ⟨m, (s.val i _ e).2⟩
  have m1 : Same S (lendS G rs S H) := fun a u e => by
    unfold lendS
    by_cases h : Lent G rs a
    · obtain ⟨_, _, h2, _⟩ := own h
      rw [h2] at e; cases e
    · rw [if_neg h]; exact e
  have m2 : Same (lendS G rs S H) H := fun a u e => by
    unfold lendS at e
    by_cases h : Lent G rs a
    · rw [if_pos h] at e; exact e
    · rw [if_neg h] at e; exact s.sh a u e
  refine ⟨ds, _, _, _, lend_rep (fun _ h => h) hd s o m1, m2, hφ, fun r q v S' H' g1 g2 g5 g3 g4 => ?_, fun c x H' m => hX c H' x m⟩
  obtain ⟨hb, q⟩ := q
  -- what is shared behind the call
  have notlent : ∀ {a : Addr}, (∃ xs, S' a = some (.tup xs)) → ¬ Lent G rs a := fun {a} ⟨xs, e⟩ hl => by
    obtain ⟨mo, _, _, mok⟩ := own hl
    obtain ⟨u, e2, hnt⟩ := mok.some
    have e3 := g3 a u e2 hnt
    unfold lendS at e3
    rw [if_pos hl, e2] at e3
    rw [e3] at e; cases e
    exact hnt xs rfl
  let S2 : Hp := fun a => open Classical in if Lent G rs a then none else S' a
  have S2of : ∀ {a : Addr}, ¬ Lent G rs a → S2 a = S' a := fun {a} h => if_neg h
  have S2no : ∀ {a : Addr}, Lent G rs a → S2 a = none := fun {a} h => if_pos h
  have n1 : Same S S2 := fun a u e => by
    have hl : ¬ Lent G rs a := fun h => by
      obtain ⟨_, _, h2, _⟩ := own h
      rw [h2] at e; cases e
    rw [S2of hl]
    refine g5 a u ?_
    unfold lendS
    rw [if_neg hl]; exact e
  have s2 : Sat K F S0 G S2 σ H' := by
    refine ⟨s.len, fun a u e => ?_, s.fr.trans g1, fun a u e n => ?_, fun i sl e => ?_, s.sep⟩
    · by_cases hl : Lent G rs a
      · rw [S2no hl] at e; cases e
      · rw [S2of hl] at e; exact g2 a u e
    · have hl : ¬ Lent G rs a := fun h => by
        obtain ⟨_, h1, _, _⟩ := own h
        rw [h1] at e; cases e
      rw [S2of hl, g3 a u (s.fr a u e) n]
      unfold lendS
      rw [if_neg hl]; exact s.am a u e n
    · have h := s.val i sl e
      cases sl with
      | no => trivial
      | sh d =>
        obtain ⟨w, e1, r1⟩ := h
        exact ⟨w, e1, r1.mono n1⟩
      | ow a mo =>
        obtain ⟨h1, h2, h3, h4⟩ := h
        refine ⟨h1, h2, ?_, h4.mono n1 fun u q => g1 a u q⟩
        by_cases hl : Lent G rs a
        · exact S2no hl
        · obtain ⟨u, e2, hnt⟩ := h4.some
          rw [S2of hl, g3 a u e2 hnt]
          unfold lendS
          rw [if_neg hl]; exact h3
  have rep2 : ∀ {v : V} {d : D}, (noBo rs = true ∨ d.flat = true) → Rep K S' v d → Rep K S2 v d := fun {v d} h r => by
    rcases h with h | h
    · exact r.mono fun a u e => by rw [S2of (noBo_lent h)]; exact e
    · exact r.flatMono (fun a xs e => by rw [S2of (notlent ⟨xs, e⟩)]; exact e) h
  have repA2 : ∀ {vs : List V} {ds : List D}, (noBo rs = true ∨ flatA ds = true) → RepA K S' vs ds → RepA K S2 vs ds := fun {vs ds} h r => by
    rcases h with h | h
    · exact r.mono fun a u e => by rw [S2of (noBo_lent h)]; exact e
    · exact r.flatMono (fun a xs e => by rw [S2of (notlent ⟨xs, e⟩)]; exact e) h
  refine k r G v S2 H' q n1 s2 ?_
  cases r with
  | sh d => exact rep2 (hb.imp id id) g4
  | bo i => exact g4.elim
  | ow a mo =>
    obtain ⟨e1, e2, e3, e4⟩ := g4
    have hl : ¬ Lent G rs a := fun h => by
      obtain ⟨_, _, _, h4⟩ := own h
      obtain ⟨u, e5, _⟩ := h4.some
      rw [e2] at e5; cases e5
    refine ⟨e1, s.unfr e2, by rw [S2of hl]; exact e3, ?_, s.noow e2⟩
    cases mo with
    | lst ds =>
      obtain ⟨ws, f1, f2⟩ := e4
      exact ⟨ws, f1, repA2 (hb.imp id id) f2⟩
    | dT kvs => exact e4
    | dK kvs => exact e4
theorem Sat.setNo {i : Nat} (s : Sat K F S0 G S σ H) : Sat K F S0 (G.set i .no) S (σ.set i none) H := by
  have f := s.forget (i := i)
  refine ⟨by rw [List.length_set, List.length_set]; exact s.len, f.sh, f.fr, f.am, fun j sl e => ?_, f.sep⟩
  have h := f.val j sl e
  by_cases hj : j = i
  · subst hj
    by_cases hl : j < G.length
    · rw [List.getElem?_set_self hl] at e
      cases e
      trivial
    · rw [List.getElem?_eq_none (by simp; omega)] at e; cases e
  · rw [List.getElem?_set_ne (Ne.symm hj)]
    exact h
abbrev WF : WX := fun _ _ _ _ => False
/-- try: (body with the call) except c as (slot i): ts -/
def tTryC (K : PySem.W.Frag) (c : Value) (i : Nat) (sp : Sp) (ta : TA) (tk : TE → TS) (ts : Addr → Value → Option Addr → TS) : TS := fun D σ H => tk (tCallS sp (WE (wAs K c i ts WF D)) ta) D σ H
/-- behind the suite the name is gone -/
def goneP (i : Nat) (P : Po) : Po := ⟨fun G => P.nx (G.set i .no), P.rt, fun G => P.bk (G.set i .no), fun G => P.ct (G.set i .no)⟩
theorem POk.gone {i : Nat} {D : Ends} (k : POk K F S0 S P D) : POk K F S0 S (goneP i P) { nx := fun σ' H' => D.nx (σ'.set i none) H', rt := D.rt, bk := fun σ' H' => D.bk (σ'.set i none) H', ct := fun σ' H' => D.ct (σ'.set i none) H' } :=
  ⟨fun G' S' σ' H' q m s => k.nx _ _ _ _ q m s.setNo, k.rt, fun G' S' σ' H' q m s => k.bk _ _ _ _ q m s.setNo, fun G' S' σ' H' q m s => k.ct _ _ _ _ q m s.setNo⟩
/-- what the clause must do with an exception of the class cls -/
def Caught (K : PySem.W.Frag) (Z : Ec) (c : Value) (i : Nat) (ts : Addr → Value → Option Addr → TS) (G : Sl) (P : Po) (cls : Value) : Prop :=
  PySem.W.exmOne K cls c = some true ∧ Nat.blt i G.length = true ∧ ∀ a, wS K Z (ts a cls none) (G.set i (.sh (.ref a))) (goneP i P)
theorem caught_ok {c : Value} {i : Nat} {ts : Addr → Value → Option Addr → TS} {cls : Value} {D : Ends} (hc : Caught K Z c i ts G P cls) (z : hZ Z F) (s : Sat K F S0 G S σ H) (k : POk K F S0 S P D) (m : Same H H') : wAs K c i ts WF D cls none σ H' := by
  obtain ⟨h1, h2, h3⟩ := hc
  refine ⟨true, h1, fun _ a _ => ?_, fun e => by cases e⟩
  exact h3 a F S0 S (σ.set i (some (.ref a))) H' _ ((s.grow m).setSh (blt_lt h2) (.ref a)) z k.gone
theorem wS_tryAsg {c : Value} {i j : Nat} {φ : Phi} {ta : TA} {ts : Addr → Value → Option Addr → TS} (h : wA K Z ta G fun rs G1 => ∃ ds, dsOf G1 rs = some ds ∧ φ ds (fun r => (noBo rs = true ∨ flatR r = true) ∧ rput r j G1 P.nx) fun cls => Caught K Z c i ts G1 P cls) :
    wS K Z (tTryC K c i (mkSp K φ) ta (fun te => tAsg te (gName j)) ts) G P := fun F S0 S σ H D s z k => by
  show ta σ H fun vs H1 => _
  exact h F S0 S σ H _ s z fun rs G1 vs S1 H1 q m1 s1 o => by
    obtain ⟨ds, e, q⟩ := q
    exact call_coreS (fun cls H' hc m => caught_ok hc z s1 (k.from m1) m) s1 o e q fun r G' v S' H' q m s' o => rput_ok (Qr := D.nx) q s' o fun G2 S2 σ2 H2 q2 m2 s2 => k.nx G2 S2 σ2 H2 q2 (m1.trans (m.trans m2)) s2
theorem wS_tryDrop {c : Value} {i : Nat} {φ : Phi} {ta : TA} {ts : Addr → Value → Option Addr → TS} (h : wA K Z ta G fun rs G1 => ∃ ds, dsOf G1 rs = some ds ∧ φ ds (fun r => (noBo rs = true ∨ flatR r = true) ∧ P.nx G1) fun cls => Caught K Z c i ts G1 P cls) :
    wS K Z (tTryC K c i (mkSp K φ) ta tDrop ts) G P := fun F S0 S σ H D s z k => by
  show ta σ H fun vs H1 => _
  exact h F S0 S σ H _ s z fun rs G1 vs S1 H1 q m1 s1 o => by
    obtain ⟨ds, e, q⟩ := q
    exact call_coreS (fun cls H' hc m => caught_ok hc z s1 (k.from m1) m) s1 o e q fun r G' v S' H' q m s' o => k.nx G' S' σ H' q (m1.trans m) s'
end
section
variable {X : Cx} {x n f : Str} {c : Value} {i k : Nat} {ps : List Str} {φ : Phi} {e : Expr} {es : List Expr} {ta : TA} {tk : TE → TS} {body suite : List Stmt} {b₀ : Stmt} {np p p2 pos pos' : Pos} {ts : Addr → Value → Option Addr → TS}
theorem ps_tryC (hs : X.stack = X.env :: X.outer) (hf : X.env.frame = some X.env.locals) (hN : X.N.Nodup) (hi : X.N[i]? = some n) (hln : X.env.kindOf n = some .local) (hc : Names X x c)
    (G : Cal X.prog X.w X.K X.mg X.base (L2.CX X.prog X.w) k f ps φ) (hr : Room k X.A) (hg : Gl X f)
    (ha : ∀ (pn : List (Addr × Obj)) (xe : Value → Shared → Prop), PA (X.tr pn xe) (e :: es) ta)
    (hb : ∀ (pn : List (Addr × Obj)) (xe : Value → Shared → Prop) (te : TE), PE (X.tr pn xe) (.Call (.Name f p) (e :: es) [] p2) te → PSs (X.tr pn xe) body (tk te))
    (hsu : ∀ (a : Addr) (oe : Obj) (cls : Value) (d : Option Addr) (pn : List (Addr × Obj)), Zc cls d oe → (∃ vs, oe.data = .fields vs) → PSs (X.suite a ((a, oe) :: pn)) (b₀ :: suite) (ts a cls d))
    (hdb : (f == ("__debug__" : Str)) = false := by decide) (he : starEach (e :: es) X.env = (false, eval e X.env) :: starEach es X.env := by rfl) (hpl : (backTo p2 (starEach es X.env)).any (·.1) = false := by rfl) :
    PS X (.Try body [.ExceptHandler (some (.Name x np)) (some n) (b₀ :: suite) pos'] [] [] pos) (tTryC X.K c i (mkSp X.K φ) ta tk ts) := by
  obtain ⟨fa, fd, h1, h2, h3, h4⟩ := G.ex
  exact ps_try_as (tb := fun W => tk (tCallS (mkSp X.K φ) (WE W) ta)) hs hf hN hi hln hc (Wout := WF) (fun u s' ⟨_, _, _, _, _, _, _, _, _, _, _, _, _, _, _, _, w⟩ => w.elim)
    (fun W pn xe tkW own => hb pn xe _ (pe_callS (X := X.tr pn xe) h1 hr hg h2 h3 h4 (passAt tkW) (ha pn xe) hdb he hpl)) hsu
end
/-! ### our errors -/
def ErA.at (C : ErA) : Nat → Addr
  | 0 => C.rule
  | 1 => C.name
  | 2 => C.endless
  | 3 => C.text
  | _ => C.deeds
structure ErK (K : PySem.W.Frag) (C : ErA) : Prop where
  ex : ∀ i, i < 5 → ExcC K (C.at i)
  ctch : ∀ i, i < 5 → PySem.W.exmOne K (.ref (C.at i)) (.ref C.mend) = some true
  ve : ∀ i, i < 5 → PySem.W.kitOne K (.ref (C.at i)) (.type "ValueError") = some true
  kit : ∀ i, i < 5 → ∀ j, j < 5 → PySem.W.kitOne K (.ref (C.at i)) (.ref (C.at j)) = some (decide (i = j))
theorem all5 {p : Nat → Prop} (h0 : p 0) (h1 : p 1) (h2 : p 2) (h3 : p 3) (h4 : p 4) : ∀ i, i < 5 → p i
  | 0, _ => h0
  | 1, _ => h1
  | 2, _ => h2
  | 3, _ => h3
  | 4, _ => h4
  | n + 5, h => by omega
/-- a suite that knows which of ours it holds -/
def tSuite (C : ErA) (t : Addr → Nat → TS) : Addr → Value → Option Addr → TS := fun a cls d D σ H => ∃ n, n < 5 ∧ cls = .ref (C.at n) ∧ d = none ∧ t a n D σ H
section
variable {K : PySem.W.Frag} {Z : Ec} {G : Sl} {P : Po} {C : ErA} {t : Addr → Nat → TS}
theorem wS_suite {a : Addr} {n : Nat} (hn : n < 5) (h : wS K Z (t a n) G P) : wS K Z (tSuite C t a (.ref (C.at n)) none) G P := fun F S0 S σ H D s z k => ⟨n, hn, rfl, rfl, h F S0 S σ H D s z k⟩
theorem caught_of {i n : Nat} (XK : ErK K C) (hn : n < 5) (hi : Nat.blt i G.length = true) (h : ∀ a, wS K Z (t a n) (G.set i (.sh (.ref a))) (goneP i P)) : Caught K Z (.ref C.mend) i (tSuite C t) G P (.ref (C.at n)) := ⟨XK.ctch n hn, hi, fun a => wS_suite hn (h a)⟩
variable {Q : R → Sl → Prop}
theorem wC_isX1 {a : Addr} {n j : Nat} (XK : ErK K C) (hn : n < 5) (hj : j < 5) (q : Q (.sh (.bl (decide (n = j)))) G) : wC K Z (rIsX K (C.at n) a) [.sh (.ref a), .sh (.ref (C.at j))] G Q := fun F S0 S σ H Qr vs s z o k => by
  obtain ⟨v, u, rfl, o1, o2⟩ := fs2 o
  cases o1
  cases o2
  exact ⟨_, _, rfl, .inl ⟨rfl, XK.kit n hn j hj⟩, k.val s q (.bl _)⟩
theorem wC_isXV {a : Addr} {n : Nat} (XK : ErK K C) (hn : n < 5) (q : Q (.sh (.bl true)) G) : wC K Z (rIsX K (C.at n) a) [.sh (.ref a), .sh (.ty "ValueError")] G Q := fun F S0 S σ H Qr vs s z o k => by
  obtain ⟨v, u, rfl, o1, o2⟩ := fs2 o
  cases o1
  cases o2
  exact ⟨_, _, rfl, .inl ⟨rfl, XK.ve n hn⟩, k.val s q (.bl _)⟩
theorem repA_refs {S : Hp} : ∀ {l : List Addr} {vs : List V}, RepA K S vs (l.map D.ref) → vs = l.map V.ref
  | [], _, .nil => rfl
  | _ :: _, _, .cons h r => by cases h; rw [repA_refs r]; rfl
theorem kitAny_of (XK : ErK K C) {n : Nat} (hn : n < 5) : ∀ {l : List Nat}, (∀ j ∈ l, j < 5) → PySem.W.kitAny K (.ref (C.at n)) (l.map fun j => Value.ref (C.at j)) = some (decide (n ∈ l))
  | [], _ => rfl
  | j :: l, h => by
    show (match PySem.W.kitOne K (.ref (C.at n)) (.ref (C.at j)) with
      | some true => some true
      | some false => PySem.W.kitAny K (.ref (C.at n)) (l.map fun j => Value.ref (C.at j))
      | none => none) = _
    rw [XK.kit n hn j (h j List.mem_cons_self)]
    by_cases e : n = j
    · rw [decide_eq_true e, decide_eq_true (List.mem_cons.mpr (.inl e))]
    · rw [decide_eq_false e]
      show PySem.W.kitAny K (.ref (C.at n)) (l.map fun j => Value.ref (C.at j)) = _
      rw [kitAny_of XK hn fun j hj => h j (List.mem_cons_of_mem _ hj)]
      congr 1
      by_cases q : n ∈ l
      · rw [decide_eq_true q, decide_eq_true (List.mem_cons_of_mem _ q)]
      · rw [decide_eq_false q, decide_eq_false fun z => (List.mem_cons.mp z).elim e q]
theorem wC_isXT {a : Addr} {n : Nat} {l : List Nat} (XK : ErK K C) (hn : n < 5) (hl : ∀ j ∈ l, j < 5) (q : Q (.sh (.bl (decide (n ∈ l)))) G) : wC K Z (rIsX K (C.at n) a) [.sh (.ref a), .sh (.tup (l.map fun j => D.ref (C.at j)))] G Q := fun F S0 S σ H Qr vs s z o k => by
  obtain ⟨v, u, rfl, o1, o2⟩ := fs2 o
  cases o1
  cases o2
  rename_i tp xs h1 h2
  have e : xs = (l.map fun j => C.at j).map V.ref := repA_refs (by rw [List.map_map]; exact h2)
  subst e
  refine ⟨_, _, rfl, .inr ⟨tp, _, rfl, s.sh _ _ h1, ?_, ?_⟩, k.val s q (.bl _)⟩
  · rw [List.all_map, List.all_eq_true]
    exact fun _ _ => rfl
  · rw [List.map_map, List.map_map]
    exact kitAny_of XK hn hl
end
section
variable {X : Cx} {C : ErA} {a : Addr} {oe : Obj} {cls : Value} {d : Option Addr} {pn : List (Addr × Obj)} {t : Addr → Nat → TS} {ss : List Stmt}
theorem pss_suite (hz : Zc cls d oe) (h : ∀ n, n < 5 → Zc (.ref (C.at n)) none oe → PSs (X.suite a ((a, oe) :: pn)) ss (t a n)) : PSs (X.suite a ((a, oe) :: pn)) ss (tSuite C t a cls d) :=
  ⟨fun pins s σ H D I q => by
    obtain ⟨n, hn, rfl, rfl, q⟩ := q
    exact (h n hn hz).run pins s σ H D I q⟩
theorem roomS {k : Nat} (hr : Room k X.A) : (X.suite a pn).A.units + 200 < cLine := by
  have := hr.un
  show X.A.units + 200 < cLine
  omega
theorem op_vEqH (hr : X.A.units + 200 < cLine) : OpR X (compareOp .Eq) (vEq X.K) := opr_or (opr_or op_eq (op_eqD (by omega))) (opr_or (op_eqS (by omega)) (op_eqW (by omega)))
end
end PL

/-! PD: l.pop(i), l.insert(i, e). -/
namespace PL
open PySem PySem.Spec PyProof.Rows L2
def mInsert : V → List V → Hp → VK → Prop := fun x vs H Q => ∃ (l : Addr) (xs : List V) (i : Int) (y : V), x = .ref l ∧ vs = [.int i, y] ∧ H l = some (.lst xs) ∧ xs.length < sizeLine ∧ 0 ≤ i ∧ i < 2 ^ 63 ∧ Q .non (upd H l (.lst (xs.take i.toNat ++ [y] ++ xs.drop i.toNat)))
theorem mt_ins {X : Cx} : MtR X "list.insert" mInsert := mt_insert
section
variable {K : PySem.W.Frag} {Z : Ec} {F S0 S S' : Hp} {G : Sl} {σ : L2.St} {H H' : Hp} {Q : R → Sl → Prop} {P : Po}
theorem wS_popAt {i : Nat} {a : Addr} {ds0 : List D} {te : TE} (h0 : G[i]? = some (.ow a (.lst ds0))) (h : wE K Z te G fun r G1 => ∃ (ds : List D) (j : Nat), r = .sh (.int ((j : Nat) : Int)) ∧ G1[i]? = some (.ow a (.lst ds)) ∧ j < ds.length ∧ j ≤ 1000000 ∧ P.nx (G1.set i (.ow a (.lst (ds.eraseIdx j))))) :
    wS K Z (tDrop (tBM K "list" rPopAt (tVar i) (tCons te tNil))) G P := fun F S0 S σ H D s z k => by
  obtain ⟨e, _, _, vs0, g1, _⟩ := s.val i _ h0
  refine ⟨_, e, .inl ⟨rfl, _, SqL.of g1⟩, evF h s z fun r G1 v S1 H1 q m s1 o => ?_⟩
  obtain ⟨ds, j, e1, h1, hj, hjl, q⟩ := q
  subst e1
  cases o
  obtain ⟨e', _, _, vs, g3, g4⟩ := s1.val i _ h1
  have hj' : j < vs.length := by rw [g4.len]; exact hj
  have hix : ixN vs.length ((j : Nat) : Int) = some j := by
    unfold ixN
    rw [if_pos (by omega), if_pos (by omega), Int.toNat_natCast]
  obtain ⟨sq, _⟩ := ixN_seq hix
  exact ⟨a, vs, _, j, vs[j], rfl, rfl, g3, by omega, by omega, sq, List.getElem?_eq_getElem hj', k.nx _ S1 σ _ q m (s1.mut h1 ⟨_, upd_same, g4.eraseIdx j⟩)⟩
theorem wS_ins {i : Nat} {a : Addr} {ds0 : List D} {ti te : TE} (h0 : G[i]? = some (.ow a (.lst ds0))) (h : wA K Z (tCons ti (tCons te tNil)) G fun rs G1 => ∃ (ds : List D) (j : Nat) (d : D), rs = [.sh (.int ((j : Nat) : Int)), .sh d] ∧ G1[i]? = some (.ow a (.lst ds)) ∧ ds.length ≤ 1000000 ∧ j ≤ 1000000 ∧ P.nx (G1.set i (.ow a (.lst (ds.take j ++ [d] ++ ds.drop j))))) :
    wS K Z (tDrop (tBM K "list" mInsert (tVar i) (tCons ti (tCons te tNil)))) G P := fun F S0 S σ H D s z k => by
  obtain ⟨e, _, _, vs0, g1, _⟩ := s.val i _ h0
  refine ⟨_, e, .inl ⟨rfl, _, SqL.of g1⟩, h F S0 S σ H _ s z fun rs G1 ws S1 H1 q m s1 o => ?_⟩
  obtain ⟨ds, j, d, rfl, h1, hl, hjl, q⟩ := q
  obtain ⟨v, u, rfl, o1, o2⟩ := fs2 o
  cases o1
  obtain ⟨e', _, _, vs, g3, g4⟩ := s1.val i _ h1
  refine ⟨a, vs, _, u, rfl, rfl, g3, by rw [g4.len]; exact line_lt hl, by omega, by omega, k.nx _ S1 σ _ q m (s1.mut h1 ⟨_, upd_same, ?_⟩)⟩
  rw [Int.toNat_natCast]
  exact ((g4.take j).append (.cons o2 .nil)).append (g4.drop j)
end
end PL

/-! PE: tuple * 0, tuple * 1; an owned object frozen between two statements. -/
namespace PL
open PySem PySem.Spec PyProof.Rows L2
theorem tuple_mul1 (l : Addr) (items : Array Value) (n : Nat) (u : Tok) :
    Meets (Builtin.«tuple.__mul__» ⟨[.ref l, .int 1 u], []⟩) (fun _ R s => (∃ dd sl, s.heap.get? l = some { cls := .type "tuple", dict := dd, data := .seq items n, slots := sl }) ∧ R (.ok (.ret (Value.ref l))) s) :=
  .of_wp fun prog w A R s h => by
    obtain ⟨hp, g, d, tk, os⟩ := s
    obtain ⟨⟨dd, sl, hl⟩, h⟩ := h
    have f1 := AutoSeq1.idx_int
    have c1 : (items.isEmpty || (1 : Int) == 1) = true := by rw [show ((1 : Int) == 1) = true from rfl, Bool.or_true]
    wp_walk using wpAny_loadPart' hl, wpAny_load hl
    repeat (first
      | (refine wpAny_ite_true (decide_eq_true (by rw [c1])) ?_; wp_walk using wpAny_loadPart' hl, wpAny_load hl)
      | (refine wpAny_ite_true c1 ?_; wp_walk using wpAny_loadPart' hl, wpAny_load hl))
    exact ⟨_, rfl, h⟩
theorem tuple_mul0 (l : Addr) (items : Array Value) (n : Nat) (u : Tok) (hne : items.isEmpty = false) :
    Meets (Builtin.«tuple.__mul__» ⟨[.ref l, .int 0 u], []⟩) (fun _ R s => (∃ dd sl, s.heap.get? l = some { cls := .type "tuple", dict := dd, data := .seq items n, slots := sl }) ∧
      R (.ok (.ret (Value.ref s.heap.objs.size))) { s with heap := s.heap.push { cls := Value.type "tuple", data := Data.seq #[] }, toks := s.toks }) :=
  .of_wp fun prog w A R s h => by
    obtain ⟨hp, g, d, tk, os⟩ := s
    obtain ⟨⟨dd, sl, hl⟩, h⟩ := h
    have f1 := AutoSeq1.idx_int
    have c1 : (items.isEmpty || (0 : Int) == 1) = false := by rw [hne]; rfl
    have c2 : (decide ((0 : Int) ≤ 0) || items.isEmpty) = true := by rw [decide_eq_true (Int.le_refl 0)]; rfl
    wp_walk using wpAny_loadPart' hl, wpAny_load hl
    repeat (first
      | (refine wpAny_ite_false (decide_eq_false (by rw [c1]; exact Bool.false_ne_true)) ?_; wp_walk using wpAny_loadPart' hl, wpAny_load hl)
      | (refine wpAny_ite_true (decide_eq_true c2) ?_; wp_walk using wpAny_loadPart' hl, wpAny_load hl))
    exact ⟨_, rfl, h⟩
/-- tuple * 0 or 1 -/
def rRep01 (K : PySem.W.Frag) : R2 := fun x y H Q => ∃ l xs, x = .ref l ∧ SqT K H l xs ∧ xs ≠ [] ∧ ((y = .int 1 ∧ Q (.ref l) H) ∨ (y = .int 0 ∧ ∀ p, H p = none → Q (.ref p) (upd H p (.tup []))))
section
variable {X : Cx}
theorem op_rep01 : OpR X (binaryOp .Mult) (rRep01 X.K) := by
  intro pins s σ H x y v u Q I rx ry h
  obtain ⟨l, xs, rfl, hT, hne, q⟩ := h
  cases rx
  obtain ⟨its, r, ⟨⟨cls, dd, data, sl⟩, ho, hc, n, hd⟩, hs⟩ := I.tuple hT
  simp only at hc hd
  subst hc hd
  have hle : its.length = xs.length := r.length.symm
  have hn : its ≠ [] := fun e => hne (by
    rw [e] at hle
    exact List.eq_nil_of_length_eq_zero hle.symm)
  have hi : its.toArray.isEmpty = false := by
    cases its with
    | nil => exact absurd rfl hn
    | cons a b => rfl
  rcases q with ⟨rfl, q⟩ | ⟨rfl, q⟩
  · obtain ⟨t, rfl⟩ := ry
    refine wpAny_binaryOp_repeat_ref (T := "tuple") (U := "int") (by decide) ⟨_, ho, rfl⟩ (fun s' => typeIs_int s' 1 t) noFill_tuple_mul F.fills_int_mul F.slot_int_rmul repeat_tuple F.slot_int_index.lookup
      (call_meets F.slot_int_rmul (typeIs_int s 1 t) F.entry_int_rmul (F.args_int_rmul_2 _ _) (int_rmul_tuple 1 t l its.toArray n dd sl)
        ⟨ho, rfl, ⟨_, ho, rfl⟩, call_meets F.slot_tuple_mul ⟨_, ho, rfl⟩ F.entry_tuple_mul (F.args_tuple_mul_2 _ _) (tuple_mul1 l its.toArray n t) ⟨⟨dd, sl, ho⟩, ?_⟩⟩)
    exact ⟨.ref l, H, I, rfl, q⟩
  · obtain ⟨t, rfl⟩ := ry
    refine wpAny_binaryOp_repeat_ref (T := "tuple") (U := "int") (by decide) ⟨_, ho, rfl⟩ (fun s' => typeIs_int s' 0 t) noFill_tuple_mul F.fills_int_mul F.slot_int_rmul repeat_tuple F.slot_int_index.lookup
      (call_meets F.slot_int_rmul (typeIs_int s 0 t) F.entry_int_rmul (F.args_int_rmul_2 _ _) (int_rmul_tuple 0 t l its.toArray n dd sl)
        ⟨ho, rfl, ⟨_, ho, rfl⟩, call_meets F.slot_tuple_mul ⟨_, ho, rfl⟩ F.entry_tuple_mul (F.args_tuple_mul_2 _ _) (tuple_mul0 l its.toArray n t hi) ⟨⟨dd, sl, ho⟩, ?_⟩⟩)
    refine ⟨.ref s.heap.objs.size, _, I.laid (t' := s.toks) (o := .tup []) (fun b ob q => Heap.get?_push_of_some _ q) (Nat.le_refl _) ?_, rfl, q _ (I.hok.fresh (Nat.le_refl _))⟩
    exact ⟨by rw [sizeLine_eq]; exact Nat.zero_le _, [], .nil, IsTup.new _ _⟩
end
def vMul (K : PySem.W.Frag) : R2 := fun x y H Q => uMul x y H Q ∨ rRep01 K x y H Q
theorem op_vMul {X : Cx} : OpR X (binaryOp .Mult) (vMul X.K) := opr_or op_uMul op_rep01
section
variable {K : PySem.W.Frag} {Z : Ec} {F S0 S S' : Hp} {G : Sl} {σ : L2.St} {H H' : Hp} {Q : R → Sl → Prop} {P : Po}
theorem v_mul {x y : R} (q : wR K Z uMul x y G Q) : wR K Z (vMul K) x y G Q := wR_imp (fun _ _ _ _ h => .inl h) q
theorem v_mul1 {ds : List D} (hn : ds ≠ []) (q : Q (.sh (.tup ds)) G) : wR K Z (vMul K) (.sh (.tup ds)) (.sh (.int 1)) G Q := fun F S0 S σ H Qr v u s z o1 o2 k => by
  have o1' : Rep K S v (.tup ds) := o1
  cases o1
  rename_i a xs h1 h2
  cases o2
  refine .inr ⟨a, xs, rfl, SqT.of (s.sh _ _ h1), fun e => hn ?_, .inl ⟨rfl, k.val s q o1'⟩⟩
  subst e
  cases h2
  rfl
theorem v_mul0 {ds : List D} (hn : ds ≠ []) (q : Q (.sh (.tup [])) G) : wR K Z (vMul K) (.sh (.tup ds)) (.sh (.int 0)) G Q := fun F S0 S σ H Qr v u s z o1 o2 k => by
  cases o1
  rename_i a xs h1 h2
  cases o2
  refine .inr ⟨a, xs, rfl, SqT.of (s.sh _ _ h1), fun e => hn ?_, .inr ⟨rfl, fun p hp => ?_⟩⟩
  · subst e
    cases h2
    rfl
  · obtain ⟨m2, s2⟩ := s.newsh (o := .tup []) hp
    exact k _ _ _ _ _ q m2 s2 (Rep.tup upd_same .nil)
/-- an owned object is shared from here on -/
theorem wS_fz {ts : TS} {i : Nat} {a : Addr} {m : Mo} (h : G[i]? = some (.ow a m)) (q : wS K Z ts (G.set i (.sh m.toD)) P) : wS K Z ts G P := fun F S0 S σ H D s z k => by
  obtain ⟨S', m1, s1, r1⟩ := s.fzSlot h
  exact q F S0 S' σ H D s1 z (k.from m1)
end
end PL

local macro_rules | `(tactic| walk_at "w") => `(tactic| first
  | with_reducible refine' PL.wS_seq ?_
  | with_reducible refine' PL.wS_asg ?_
  | ((with_reducible refine' PL.wS_retO ?h ?_); (case h => exact rfl); try simp only [List.set_cons_zero, List.set_cons_succ])
  | with_reducible refine' PL.wS_ret ?_
  | with_reducible refine' PL.wS_nil ?_
  | with_reducible refine' PL.wS_raise ?_
  | ((with_reducible refine' PL.wS_app ?h ?_); (case h => exact rfl))
  | with_reducible refine' PL.wS_retN ?_
  | with_reducible refine' PL.wS_cont ?_
  | with_reducible refine' PL.wE_op ?_
  | with_reducible refine' PL.wE_cb ?_
  | with_reducible refine' PL.wE_call ?_
  | with_reducible refine' PL.wE_call0 ?_
  | with_reducible refine' PL.wA_cons ?_
  | with_reducible refine' PL.wA_nil ?_
  | ((with_reducible refine' PL.wE_var ?h ?_); (case h => exact rfl))
  | ((with_reducible refine' PL.wE_varB ?h ?_); (case h => exact rfl))
  | ((with_reducible refine' PL.wE_c ?h ?_); (case h => exact rfl))
  | with_reducible refine' PL.wT_yes ?_
  | with_reducible refine' PL.wT_test ?_
  | with_reducible refine' PL.wT_B ?_
  | with_reducible refine' PL.wT_tru ?_
  | with_reducible refine' PL.wT_not ?_
  | with_reducible refine' PL.wT_and ?_
  | with_reducible refine' PL.wT_or ?_
  | with_reducible refine' PL.wE_and ?_
  | with_reducible refine' PL.wE_or ?_
  | with_reducible refine' PL.wE_not ?_
  | with_reducible refine' PL.wE_tup ?_
  | with_reducible refine' PL.wE_lst ?_
  | with_reducible refine' PL.wE_sl ?_
  | with_reducible refine' PL.wO_none ?_
  | with_reducible refine' PL.wO_some ?_
  | with_reducible refine' PL.wE_m1 ?_
  | with_reducible refine' PL.wE_m0 ?_
  | with_reducible refine' PL.wE_un ?_
  | with_reducible refine' PL.wE_chain ?_
  | with_reducible refine' PL.wE_if ?_
  | ((with_reducible refine' PL.rput_sh ?h ?_); (case h => exact rfl); try simp only [List.set_cons_zero, List.set_cons_succ])
  | ((with_reducible refine' PL.rput_ow ?h ?_); (case h => exact rfl); try simp only [List.set_cons_zero, List.set_cons_succ])
  | (with_reducible refine ⟨⟨_, rfl⟩, ?_⟩)
  | with_reducible refine' PL.u_addI ?_
  | ((with_reducible refine' PL.u_mulI ?h ?_); (case h => first | exact Or.inl (by omega) | exact Or.inr (by omega)))
  | with_reducible refine' PL.u_eqI ?_
  | with_reducible refine' PL.u_neI ?_
  | with_reducible refine' PL.u_eqT ?_
  | with_reducible refine' PL.u_neT ?_
  | with_reducible refine' PL.u_eqB ?_
  | with_reducible refine' PL.u_neB ?_
  | with_reducible refine' PL.wC_intB ?_
  | with_reducible refine' PL.wC_max ?_
  | with_reducible refine' PL.wC_min ?_
  | with_reducible refine' PL.wC_lenC ?_
  | with_reducible refine' PL.wC_lenU ?_
  | ((with_reducible refine' PL.wC_lenL ?h ?_); (case h => exact rfl))
  | with_reducible refine' PL.wR_isN ?_
  | with_reducible refine' PL.wR_notN ?_
  | with_reducible refine' PL.u_slT ?_
  | ((with_reducible refine' PL.wR_I0 ?h ?_); (case h => exact rfl))
  | ((with_reducible refine' PL.wU_I ?h ?_); (case h => exact rfl))
  | ((with_reducible refine' PL.wR_I ?c ?h ?_); (case h => exact rfl); (case c => first | decide | exact ⟨by decide, by decide⟩ | (show (_ : Int) ≠ 0; omega)))
  | ((with_reducible refine' PL.u_ixT ?h ?_); (case h => exact rfl))
  | ((with_reducible refine' PL.u_ixL ?h ?i ?_); (case h => exact rfl); (case i => exact rfl))
  | ((with_reducible refine' PL.u_ixSm ?a ?b ?c ?_); (case a => first | decide | omega); (case b => first | decide | omega); (case c => walk_at "side"))
  | ((with_reducible refine' PL.u_ixLm ?y ?a ?b ?_); (case y => exact rfl); (case a => first | decide | omega); (case b => first | (show (_ : Int) ≤ ((List.length _ : Nat) : Int); simp only [List.length_cons, List.length_nil]; omega) | decide | omega))
  | ((with_reducible refine' PL.wC_isi ?h ?p ?b ?_); (case h => exact rfl); (case p => exact rfl); (case b => exact rfl))
  | ((with_reducible refine' PL.wC_lenT ?h ?_); (case h => walk_at "side"))
  | ((with_reducible refine' PL.u_addT ?h ?_); (case h => walk_at "side"))
  | ((with_reducible refine' PL.u_slS ?h ?_); (case h => walk_at "side"))
  | ((with_reducible refine' PL.u_addL ?x ?y ?l ?_); (case x => exact rfl); (case y => exact rfl); (case l => walk_at "side"); intro _)
  | ((with_reducible refine' PL.u_slL ?x ?_); (case x => exact rfl); intro _)
  | ((with_reducible refine' PL.wC_tuple ?x ?_); (case x => exact rfl))
  | ((with_reducible refine' PL.wC_list ?x ?_); (case x => exact rfl); intro _)
  | with_reducible refine' PL.u_ninI2 ?_
  | with_reducible refine' PL.u_inS ?_
  | with_reducible refine' PL.u_ninS ?_
  | with_reducible refine' PL.rt_sh ?_
  | with_reducible refine' PL.rt_ow ?_
  | with_reducible refine' PL.b_tt ?_
  | with_reducible refine' PL.b_ff ?_
  | with_reducible refine' PL.b_not ?_
  | with_reducible refine' PL.b_or ?_
  | with_reducible refine' PL.b_and ?_
  | ((with_reducible refine' PL.b_decT ?h ?_); (case h => walk_at "c"))
  | ((with_reducible refine' PL.b_decF ?h ?_); (case h => walk_at "c"))
  | with_reducible refine' PL.b_dec ?_ ?_
  | ((with_reducible refine' PL.wM_lowerRaw ?h ?e ?_); (case h => decide); (case e => decide +kernel))
  | (with_reducible refine ⟨_, _, rfl, rfl, ?_⟩)
  | (with_reducible refine ⟨_, rfl, rfl, fun _ => ?_⟩)
  | (with_reducible refine ⟨_, rfl, rfl, ?_⟩)
  | (with_reducible refine ⟨_, rfl, ?_⟩)
  | with_reducible refine' PL.b_any (fun _ => ?_) (fun _ => ?_)
  | (with_reducible intro))
local macro_rules | `(tactic| walk_at "keep") => `(tactic| first | exact True.intro | (refine ⟨rfl, ?_⟩; walk_at "keep"))
local macro_rules | `(tactic| walk_at "c") => `(tactic| first | exact rfl | omega | (simp only [List.length_cons, List.length_nil]; omega) | assumption)
local macro_rules | `(tactic| walk_at "side") => `(tactic| first | decide | omega | assumption | (simp only [List.length_append, List.length_cons, List.length_nil] at *; omega))
local macro_rules | `(tactic| walk_at "wst") => `(tactic| repeat' (walk_at "w"))
local macro_rules | `(tactic| walk_at "wgo") => `(tactic| repeat' (first | walk_at "w" | with_reducible refine' PL.wS_if ?_))
local macro_rules | `(tactic| walk_at "pl") => `(tactic| first | assumption | exact Or.inl ⟨_, rfl, by walk_at "side"⟩ | exact Or.inr ⟨by decide, rfl⟩)
local macro_rules | `(tactic| walk_at "wnx") => `(tactic| ((show PL.wS _ _ _ _ _); (try simp only [List.set_cons_zero, List.set_cons_succ]); walk_at "wgo"))

namespace PL
open PySem PySem.Spec PyProof.Rows L2
/-- things that are asked: no script, no class; a text of a size -/
def Plain (d : D) : Prop := (∃ l : List Nat, d = tx l ∧ Tx l) ∨ (tyn d ≠ "str" ∧ isPl d = true)
def isSignL : List Nat → Bool
  | [c] => decide (c ∈ signsL)
  | _ => false
def isSignD : D → Bool
  | .str s => isSignL s.cps.toList
  | _ => false
def phi_is_sign (_ : ErA) : Phi := fun ds Q _ => ∃ d, ds = [d] ∧ Plain d ∧ Q (.sh (.bl (isSignD d)))
theorem len_is_sign {C : ErA} : ∀ ds Q X, phi_is_sign C ds Q X → ds.length = 1 := fun ds Q X h => by
  obtain ⟨d, rfl, _⟩ := h; rfl
theorem kit_nstr {d : D} (h : tyn d ≠ "str") (hp : isPl d = true) : kitB (tyn d) "str" = some false := by
  cases d <;> first | rfl | (exact absurd rfl h) | cases hp
theorem isSign_tx {l : List Nat} (h : ¬ (l.length : Int) = 1) : isSignL l = false := by
  match l with
  | [] => rfl
  | [c] => exact absurd rfl h
  | _ :: _ :: _ => rfl
theorem isSign_n {d : D} (h : tyn d ≠ "str") : isSignD d = false := by
  cases d <;> first | rfl | (exact absurd rfl h)
theorem one_of {l : List Nat} (h : (l.length : Int) = 1) : ∃ c, l = [c] := by
  match l with
  | [] => cases h
  | [c] => exact ⟨c, rfl⟩
  | _ :: _ :: _ => simp at h; omega
theorem c_is_sign {C : ErA} {d : D} {Q : R → Prop} {X : Value → Prop} (hp : Plain d) (q : Q (.sh (.bl (isSignD d)))) : phi_is_sign C [d] Q X := ⟨d, rfl, hp, q⟩
local macro_rules | `(tactic| walk_at "w") => `(tactic| ((with_reducible refine' c_is_sign ?p ⟨Or.inl rfl, ?_⟩); (case p => walk_at "pl")))
abbrev N_is_sign : List Str := ["thing"]
def t_is_sign (K : PySem.W.Frag) (C : ErA) : TS :=
  tRet (tAndV (tCB (rIsi K) (tCons (tVar 0) (tCons (tC (.ty "str")) tNil))) (tAndV (tOp (uEq K) (tCB (cLen K) (tCons (tVar 0) tNil)) (tC (.int 1))) (tOp (uIn K) (tVar 0) (tC (.str (mk signsL))))))
theorem w_is_sign {K : PySem.W.Frag} {C : ErA} : ∀ ds Q X, phi_is_sign C ds Q X → ∀ E, wS K ⟨E, X⟩ (t_is_sign K C) (G0 ["thing"] ds) (PoQ Q) := by
  intro ds Q X h E
  obtain ⟨d, rfl, hp, q⟩ := h
  show wS K _ (t_is_sign K C) [.sh d] _
  unfold t_is_sign
  rcases hp with ⟨l, rfl, hl, hc⟩ | ⟨h1, h2⟩
  · walk_at "wgo"
    · rename_i h
      obtain ⟨c, rfl⟩ := one_of h
      walk_at "wgo"
      exact q
    · rename_i h
      exact q_bl q (isSign_tx h).symm
  · walk_at "wgo"
    refine wC_isi rfl h2 (kit_nstr h1 h2) ?_
    walk_at "wgo"
    exact q_bl q (isSign_n h1).symm
def isNameL (l : List Nat) : Bool := decide (0 < l.length) && decide (l.length ≤ 12) && l.all fun c => decide (c ∈ lettersL)
def isNameD : D → Bool
  | .str s => isNameL s.cps.toList
  | _ => false
def phi_is_name (_ : ErA) : Phi := fun ds Q _ => ∃ d, ds = [d] ∧ Plain d ∧ Q (.sh (.bl (isNameD d)))
theorem len_is_name {C : ErA} : ∀ ds Q X, phi_is_name C ds Q X → ds.length = 1 := fun ds Q X h => by
  obtain ⟨d, rfl, _⟩ := h; rfl
theorem isName_n {d : D} (h : tyn d ≠ "str") : isNameD d = false := by
  cases d <;> first | rfl | (exact absurd rfl h)
def letD : D → Option D
  | .str s => some (.bl (decide (s.cps.toList.headD 0 ∈ lettersL)))
  | _ => none
theorem letD_map (l : List Nat) : ((l.map fun c => tx [c]).filterMap letD) = (l.map fun c => decide (c ∈ lettersL)).map D.bl := by
  rw [List.filterMap_map, List.map_map]
  induction l with
  | nil => rfl
  | cons c l ih =>
    rw [List.filterMap_cons, List.map_cons, ih]
    rfl
theorem c_is_name {C : ErA} {d : D} {Q : R → Prop} {X : Value → Prop} (hp : Plain d) (q : Q (.sh (.bl (isNameD d)))) : phi_is_name C [d] Q X := ⟨d, rfl, hp, q⟩
local macro_rules | `(tactic| walk_at "w") => `(tactic| ((with_reducible refine' c_is_name ?p ⟨Or.inl rfl, ?_⟩); (case p => walk_at "pl")))
abbrev N_is_name : List Str := ["thing", "sign"]
def t_is_name (K : PySem.W.Frag) (C : ErA) : TS :=
  tSeq (tIfS (tOr (tNot (tTru K (tCB (rIsi K) (tCons (tVar 0) (tCons (tC (.ty "str")) tNil))))) (tNot (tTest (tChain (rI0 fun i j => .bl (decide (i < j))) (rI0 fun i j => .bl (decide (i ≤ j))) (tC (.int 0)) (tCB (cLen K) (tCons (tVar 0) tNil)) (tC (.int 12)))))) (tRet (tC (.bl false))) tNext) (tRet (tCB (rAll K) (tCons (tLc (iStr (tVar 0)) (gName 1) tYes (tOp (uIn K) (tVar 1) (tC (.str (mk lettersL)))) [1]) tNil)))
theorem w_is_name {K : PySem.W.Frag} {C : ErA} : ∀ ds Q X, phi_is_name C ds Q X → ∀ E, wS K ⟨E, X⟩ (t_is_name K C) (G0 ["thing", "sign"] ds) (PoQ Q) := by
  intro ds Q X h E
  obtain ⟨d, rfl, hp, q⟩ := h
  show wS K _ (t_is_name K C) [.sh d, .no] _
  unfold t_is_name
  rcases hp with ⟨l, rfl, hl, hc⟩ | ⟨h1, h2⟩
  · walk_at "wgo"
    · refine wE_lcS letD ?_
      walk_at "w"
      refine ⟨l, rfl, rfl, by omega, fun c hc => ?_, fun a => ?_⟩
      · walk_at "wgo"
        walk_at "keep"
      · walk_at "wgo"
        refine wC_all (bs := l.map fun c => decide (c ∈ lettersL)) (by show some _ = some _; rw [letD_map]) ?_
        refine rt_sh (q_bl q ?_)
        rename_i h1 h2
        show (List.map (fun c => decide (c ∈ lettersL)) l).all id = isNameL l
        unfold isNameL
        rw [decide_eq_true (show 0 < l.length by omega), decide_eq_true (show l.length ≤ 12 by omega), List.all_map]
        rfl
    · rename_i h1 h2
      refine q_bl q ?_
      show false = isNameL l
      unfold isNameL
      rw [decide_eq_false (show ¬ l.length ≤ 12 by omega)]
      simp
    · rename_i h1
      refine q_bl q ?_
      show false = isNameL l
      unfold isNameL
      rw [decide_eq_false (show ¬ 0 < l.length by omega)]
      simp
  · walk_at "wgo"
    refine wC_isi rfl h2 (kit_nstr h1 h2) ?_
    walk_at "wgo"
    exact q_bl q (isName_n h1).symm

/-! ### rules -/
def RuleP (d : D) : Prop := Plain d ∧ ∀ ds, d = .tup ds → ∀ x ∈ ds, Plain x
def isRuleD : D → Bool
  | .tup [a, b] => isNameD a && isSignD b
  | .tup [a, b, c] => isNameD a && (isNameD b && isNameD c)
  | _ => false
def phi_is_rule (_ : ErA) : Phi := fun ds Q _ => ∃ d, ds = [d] ∧ RuleP d ∧ Q (.sh (.bl (isRuleD d)))
theorem len_is_rule {C : ErA} : ∀ ds Q X, phi_is_rule C ds Q X → ds.length = 1 := fun ds Q X h => by
  obtain ⟨d, rfl, _⟩ := h; rfl
theorem kit_ntup {d : D} (h : ∀ ds, d ≠ .tup ds) (hp : isPl d = true) : kitB (tyn d) "tuple" = some false := by
  cases d <;> first | rfl | (exact absurd rfl (h _)) | cases hp
theorem plain_pl {d : D} (h : Plain d) : isPl d = true := by
  rcases h with ⟨l, rfl, _⟩ | ⟨_, h⟩
  · rfl
  · exact h
abbrev N_is_rule : List Str := ["thing"]
def t_is_rule (K : PySem.W.Frag) (C : ErA) : TS :=
  tSeq (tIfS (tOr (tNot (tTru K (tCB (rIsi K) (tCons (tVar 0) (tCons (tC (.ty "tuple")) tNil))))) (tOr (tTest (tOp (uNin K) (tCB (cLen K) (tCons (tVar 0) tNil)) (tTup (tCons (tC (.int 2)) (tCons (tC (.int 3)) tNil))))) (tNot (tTru K (tCall (mkSp K (phi_is_name C)) [] E0 (tCons (tOp (rIx K) (tVar 0) (tC (.int 0))) tNil)))))) (tRet (tC (.bl false))) tNext) (tSeq (tIfS (tTest (tOp (uEq K) (tCB (cLen K) (tCons (tVar 0) tNil)) (tC (.int 2)))) (tRet (tCall (mkSp K (phi_is_sign C)) [] E0 (tCons (tOp (rIx K) (tVar 0) (tC (.int 1))) tNil))) tNext) (tRet (tAndV (tCall (mkSp K (phi_is_name C)) [] E0 (tCons (tOp (rIx K) (tVar 0) (tC (.int 1))) tNil)) (tCall (mkSp K (phi_is_name C)) [] E0 (tCons (tOp (rIx K) (tVar 0) (tC (.int 2))) tNil)))))
theorem c_is_rule {C : ErA} {d : D} {Q : R → Prop} {X : Value → Prop} (hp : RuleP d) (q : Q (.sh (.bl (isRuleD d)))) : phi_is_rule C [d] Q X := ⟨d, rfl, hp, q⟩
local macro_rules | `(tactic| walk_at "w") => `(tactic| ((with_reducible refine' c_is_rule ?p ⟨Or.inl rfl, ?_⟩); (case p => assumption)))
theorem len_ne {α : Type} {l : List α} (h2 : ∀ a b, l ≠ [a, b]) (h3 : ∀ a b c, l ≠ [a, b, c]) : l.length ≠ 2 ∧ l.length ≠ 3 := by
  match l with
  | [] => exact ⟨by simp, by simp⟩
  | [_] => exact ⟨by simp, by simp⟩
  | [a, b] => exact absurd rfl (h2 a b)
  | [a, b, c] => exact absurd rfl (h3 a b c)
  | _ :: _ :: _ :: _ :: r => exact ⟨by simp, by simp⟩
theorem isRule_n {ds : List D} (h2 : ∀ a b, ds ≠ [a, b]) (h3 : ∀ a b c, ds ≠ [a, b, c]) : isRuleD (.tup ds) = false := by
  match ds with
  | [] => rfl
  | [_] => rfl
  | [a, b] => exact absurd rfl (h2 a b)
  | [a, b, c] => exact absurd rfl (h3 a b c)
  | _ :: _ :: _ :: _ :: r => rfl
theorem w_is_rule {K : PySem.W.Frag} {C : ErA} : ∀ ds Q X, phi_is_rule C ds Q X → ∀ E, wS K ⟨E, X⟩ (t_is_rule K C) (G0 ["thing"] ds) (PoQ Q) := by
  intro ds Q X h E
  obtain ⟨d, rfl, ⟨hp, hq⟩, q⟩ := h
  show wS K _ (t_is_rule K C) [.sh d] _
  unfold t_is_rule
  by_cases h2 : ∃ a b, d = .tup [a, b]
  · obtain ⟨a, b, rfl⟩ := h2
    have ha : Plain a := hq _ rfl a (by simp)
    have hb : Plain b := hq _ rfl b (by simp)
    walk_at "wgo"
    · rename_i e
      exact q_bl q (by show _ = (isNameD a && isSignD b); rw [e]; rfl)
    · rename_i e
      exact q_bl q (by show _ = (isNameD a && isSignD b); rw [e]; rfl)
  · by_cases h3 : ∃ a b c, d = .tup [a, b, c]
    · obtain ⟨a, b, c, rfl⟩ := h3
      have ha : Plain a := hq _ rfl a (by simp)
      have hb : Plain b := hq _ rfl b (by simp)
      have hc : Plain c := hq _ rfl c (by simp)
      walk_at "wgo"
      · rename_i e1 e2
        exact q_bl q (by show _ = (isNameD a && (isNameD b && isNameD c)); rw [e1, e2]; rfl)
      · rename_i e1 e2
        exact q_bl q (by show _ = (isNameD a && (isNameD b && isNameD c)); rw [e1, e2]; rfl)
      · rename_i e1
        exact q_bl q (by show _ = (isNameD a && (isNameD b && isNameD c)); rw [e1]; rfl)
    · by_cases ht : ∃ ds, d = .tup ds
      · obtain ⟨ds, rfl⟩ := ht
        have hn := len_ne (l := ds) (fun a b e => h2 ⟨a, b, by rw [e]⟩) (fun a b c e => h3 ⟨a, b, c, by rw [e]⟩)
        walk_at "wgo"
        exact q_bl q (isRule_n (fun a b e => h2 ⟨a, b, by rw [e]⟩) (fun a b c e => h3 ⟨a, b, c, by rw [e]⟩)).symm
      · walk_at "wgo"
        refine wC_isi rfl (plain_pl hp) (kit_ntup (fun ds e => ht ⟨ds, e⟩) (plain_pl hp)) ?_
        walk_at "wgo"
        refine q_bl q ?_
        cases d <;> first | rfl | (exact absurd ⟨_, rfl⟩ ht)

/-! ### grammars -/
abbrev Name := List Nat
inductive Rl where
  | sg (n : Name) (s : Nat)
  | fk (n a b : Name)
  deriving DecidableEq
def Rl.nm : Rl → Name
  | .sg n _ => n
  | .fk n _ _ => n
def ruleD : Rl → D
  | .sg n s => .tup [tx n, tx [s]]
  | .fk n a b => .tup [tx n, tx a, tx b]
abbrev rsD (rs : List Rl) : List D := rs.map ruleD
def namesOf (rs : List Rl) : List Name := rs.foldl (fun acc r => if r.nm ∈ acc then acc else acc ++ [r.nm]) []
theorem namesOf_snoc (rs : List Rl) (r : Rl) : namesOf (rs ++ [r]) = if r.nm ∈ namesOf rs then namesOf rs else namesOf rs ++ [r.nm] := by
  unfold namesOf
  rw [List.foldl_append]
  rfl
theorem take_snoc {α : Type} {l : List α} {i : Nat} {x : α} (h : l[i]? = some x) : l.take (i + 1) = l.take i ++ [x] := by
  rw [List.take_add_one, h]; rfl
theorem namesOf_len (rs : List Rl) : (namesOf rs).length ≤ rs.length := by
  have : ∀ (l : List Rl) (acc : List Name), (l.foldl (fun acc r => if r.nm ∈ acc then acc else acc ++ [r.nm]) acc).length ≤ acc.length + l.length := by
    intro l
    induction l with
    | nil => intro acc; exact Nat.le_refl _
    | cons r l ih =>
      intro acc
      rw [List.foldl_cons, List.length_cons]
      refine Nat.le_trans (ih _) ?_
      split
      · omega
      · rw [List.length_append, List.length_singleton]; omega
  have h := this rs []
  simpa [namesOf] using h
theorem mem_namesOf (rs : List Rl) (n : Name) : n ∈ namesOf rs ↔ ∃ r ∈ rs, r.nm = n := by
  have : ∀ (l : List Rl) (acc : List Name), n ∈ l.foldl (fun acc r => if r.nm ∈ acc then acc else acc ++ [r.nm]) acc ↔ n ∈ acc ∨ ∃ r ∈ l, r.nm = n := by
    intro l
    induction l with
    | nil => intro acc; simp
    | cons r l ih =>
      intro acc
      rw [List.foldl_cons, ih]
      split
      · rename_i h
        constructor
        · rintro (h1 | ⟨r', h1, h2⟩)
          · exact .inl h1
          · exact .inr ⟨r', List.mem_cons_of_mem _ h1, h2⟩
        · rintro (h1 | ⟨r', h1, h2⟩)
          · exact .inl h1
          · rcases List.mem_cons.mp h1 with rfl | h1
            · exact .inl (h2 ▸ h)
            · exact .inr ⟨r', h1, h2⟩
      · rw [List.mem_append, List.mem_singleton]
        constructor
        · rintro ((h1 | h1) | ⟨r', h1, h2⟩)
          · exact .inl h1
          · exact .inr ⟨r, List.mem_cons_self, h1.symm⟩
          · exact .inr ⟨r', List.mem_cons_of_mem _ h1, h2⟩
        · rintro (h1 | ⟨r', h1, h2⟩)
          · exact .inl (.inl h1)
          · rcases List.mem_cons.mp h1 with rfl | h1
            · exact .inl (.inr h2.symm)
            · exact .inr ⟨r', h1, h2⟩
  have h := this rs []
  simpa [namesOf] using h
theorem rule_get {rs : List Rl} {k : Nat} {d : D} (h : (rsD rs)[k]? = some d) : ∃ r, rs[k]? = some r ∧ d = ruleD r := by
  rw [List.getElem?_map] at h
  obtain ⟨r, h1, h2⟩ := Option.map_eq_some_iff.mp h
  exact ⟨r, h1, h2.symm⟩
def phi_names_of (_ : ErA) : Phi := fun ds Q _ => ∃ rs, ds = [.lst (rsD rs)] ∧ rs.length ≤ 100000 ∧ ∀ a, Q (.ow a (.lst ((namesOf rs).map tx)))
theorem len_names_of {C : ErA} : ∀ ds Q X, phi_names_of C ds Q X → ds.length = 1 := fun ds Q X h => by
  obtain ⟨d, rfl, _⟩ := h; rfl
theorem c_names_of {C : ErA} {rs : List Rl} {Q : R → Prop} {X : Value → Prop} (hl : rs.length ≤ 100000) (q : ∀ a, Q (.ow a (.lst ((namesOf rs).map tx)))) : phi_names_of C [.lst (rsD rs)] Q X := ⟨rs, rfl, hl, q⟩
abbrev N_names_of : List Str := ["rules", "found", "rule"]
def t_names_of (K : PySem.W.Frag) (C : ErA) : TS :=
  tSeq (tAsg (tLst tNil) (gName 1)) (tSeq (tFor (iList K (tVar 0)) (gName 2) (tIfS (tTest (tOp (uNin K) (tOp (rIx K) (tVar 2) (tC (.int 0))) (tVar 1))) (tDrop (tBM K "list" rAppend (tVar 1) (tCons (tOp (rIx K) (tVar 2) (tC (.int 0))) tNil))) tNext)) (tRet (tVar 1)))
theorem ruleD_0 (r : Rl) : ∃ ds, ruleD r = .tup ds ∧ atI ds 0 = some (tx r.nm) := by
  cases r with
  | sg n s => exact ⟨_, rfl, rfl⟩
  | fk n a b => exact ⟨_, rfl, rfl⟩
theorem w_names_of {K : PySem.W.Frag} {C : ErA} : ∀ ds Q X, phi_names_of C ds Q X → ∀ E, wS K ⟨E, X⟩ (t_names_of K C) (G0 N_names_of ds) (PoQ Q) := by
  intro ds Q X h E
  obtain ⟨rs, rfl, hl, q⟩ := h
  show wS K _ (t_names_of K C) [.sh (.lst (rsD rs)), .no, .no] _
  unfold t_names_of
  walk_at "wgo"
  rename_i a
  refine wS_forL ?_
  walk_at "wgo"
  refine ⟨_, rfl, fun k G => ∃ s, G = [.sh (.lst (rsD rs)), .ow a (.lst ((namesOf (rs.take k)).map tx)), s], ⟨_, rfl⟩, fun k d G hd h => ?_, fun G h => ?_⟩
  · obtain ⟨s, rfl⟩ := h
    obtain ⟨r, hr, rfl⟩ := rule_get hd
    obtain ⟨es, e1, e2⟩ := ruleD_0 r
    have hk := take_snoc hr
    have hn := namesOf_len (rs.take k)
    rw [List.length_take] at hn
    refine wG_name ⟨rfl, ?_⟩
    rw [e1]
    walk_at "wgo"
    refine u_ixT e2 ?_
    walk_at "wgo"
    refine u_ninT (ls := namesOf (rs.take k)) rfl ?_
    walk_at "wgo"
    · rename_i h
      refine ⟨.sh (.tup es), ?_⟩
      rw [hk, namesOf_snoc, if_pos h]
      rfl
    · rename_i h
      refine u_ixT e2 ?_
      refine ⟨_, _, rfl, rfl, by rw [List.length_map]; omega, .sh (.tup es), ?_⟩
      rw [hk, namesOf_snoc, if_neg h, List.map_append]
      rfl
  · obtain ⟨s, rfl⟩ := h
    rw [List.length_map, List.take_length]
    walk_at "wgo"
    exact q _

/-! ### the names that stand for some text -/
inductive Pro (rs : List Rl) : Name → Prop where
  | sg {n : Name} {s : Nat} : Rl.sg n s ∈ rs → Pro rs n
  | fk {n a b : Name} : Rl.fk n a b ∈ rs → Pro rs a → Pro rs b → Pro rs n
/-- what a rule asks of the known names -/
def Rl.due (ks : List Name) : Rl → Bool
  | .sg _ _ => true
  | .fk _ a b => decide (a ∈ ks) && decide (b ∈ ks)
def phi_telling (_ : ErA) : Phi := fun ds Q _ => ∃ rs, ds = [.lst (rsD rs)] ∧ rs.length ≤ 100000 ∧ ∀ (a : Addr) (ks : List Name), (∀ n, n ∈ ks ↔ Pro rs n) → Q (.ow a (.lst (ks.map tx)))
theorem len_telling {C : ErA} : ∀ ds Q X, phi_telling C ds Q X → ds.length = 1 := fun ds Q X h => by
  obtain ⟨d, rfl, _⟩ := h; rfl
theorem nodup_le : ∀ {l m : List Name}, l.Nodup → (∀ x ∈ l, x ∈ m) → l.length ≤ m.length
  | [], _, _, _ => Nat.zero_le _
  | x :: l, m, hn, hs => by
    have hx : x ∈ m := hs x List.mem_cons_self
    obtain ⟨m1, m2, rfl⟩ := List.append_of_mem hx
    have hn' := List.nodup_cons.mp hn
    have ih := nodup_le (m := m1 ++ m2) hn'.2 fun y hy => by
      have h1 := hs y (List.mem_cons_of_mem _ hy)
      have hne : y ≠ x := fun e => hn'.1 (e ▸ hy)
      simp only [List.mem_append, List.mem_cons] at h1 ⊢
      rcases h1 with h1 | h1 | h1
      · exact .inl h1
      · exact absurd h1 hne
      · exact .inr h1
    simp only [List.length_append, List.length_cons] at ih ⊢
    omega
theorem pro_closed {rs : List Rl} {ks : List Name} (h : ∀ r ∈ rs, r.due ks = true → r.nm ∈ ks) : ∀ n, Pro rs n → n ∈ ks := fun n p => by
  induction p with
  | sg hm => exact h _ hm rfl
  | fk hm _ _ i1 i2 => exact h _ hm (by show (decide _ && decide _) = true; rw [decide_eq_true i1, decide_eq_true i2]; rfl)
/-- between two turns: the names known so far -/
structure TellI (rs : List Rl) (ks : List Name) : Prop where
  nd : ks.Nodup
  sub : ∀ n ∈ ks, n ∈ rs.map Rl.nm
  pro : ∀ n ∈ ks, Pro rs n
theorem TellI.add {rs : List Rl} {ks : List Name} {r : Rl} (t : TellI rs ks) (hr : r ∈ rs) (hd : r.due ks = true) (hn : r.nm ∉ ks) : TellI rs (ks ++ [r.nm]) := by
  have hp : Pro rs r.nm := by
    cases r with
    | sg n s => exact .sg hr
    | fk n a b =>
      have h := Bool.and_eq_true_iff.mp hd
      exact .fk hr (t.pro _ (of_decide_eq_true h.1)) (t.pro _ (of_decide_eq_true h.2))
  refine ⟨?_, fun n h => ?_, fun n h => ?_⟩
  · rw [List.nodup_append]
    refine ⟨t.nd, by simp, fun x hx y hy e => ?_⟩
    cases List.mem_singleton.mp hy
    exact hn (e ▸ hx)
  · rcases List.mem_append.mp h with h | h
    · exact t.sub n h
    · cases List.mem_singleton.mp h
      exact List.mem_map_of_mem hr
  · rcases List.mem_append.mp h with h | h
    · exact t.pro n h
    · cases List.mem_singleton.mp h
      exact hp
theorem TellI.le {rs : List Rl} {ks : List Name} (t : TellI rs ks) : ks.length ≤ rs.length := by
  have := nodup_le t.nd t.sub
  rwa [List.length_map] at this
theorem c_telling {C : ErA} {rs : List Rl} {Q : R → Prop} {X : Value → Prop} (hl : rs.length ≤ 100000) (q : ∀ (a : Addr) (ks : List Name), (∀ n, n ∈ ks ↔ Pro rs n) → Q (.ow a (.lst (ks.map tx)))) : phi_telling C [.lst (rsD rs)] Q X := ⟨rs, rfl, hl, q⟩
abbrev N_telling : List Str := ["rules", "known", "grown", "rule"]
def t_telling (K : PySem.W.Frag) (C : ErA) : TS :=
  tSeq (tAsg (tLst tNil) (gName 1)) (tSeq (tAsg (tC (.bl true)) (gName 2)) (tSeq (tWhile (tTru K (tVar 2)) (tSeq (tAsg (tC (.bl false)) (gName 2)) (tFor (iList K (tVar 0)) (gName 3) (tIfS (tAnd (tTest (tOp (uNin K) (tOp (rIx K) (tVar 3) (tC (.int 0))) (tVar 1))) (tOr (tTest (tOp (uEq K) (tCB (cLen K) (tCons (tVar 3) tNil)) (tC (.int 2)))) (tAnd (tTest (tOp (uIn K) (tOp (rIx K) (tVar 3) (tC (.int 1))) (tVar 1))) (tTest (tOp (uIn K) (tOp (rIx K) (tVar 3) (tC (.int 2))) (tVar 1)))))) (tSeq (tDrop (tBM K "list" rAppend (tVar 1) (tCons (tOp (rIx K) (tVar 3) (tC (.int 0))) tNil))) (tAsg (tC (.bl true)) (gName 2))) tNext)))) (tRet (tVar 1))))
theorem w_telling {K : PySem.W.Frag} {C : ErA} : ∀ ds Q X, phi_telling C ds Q X → ∀ E, wS K ⟨E, X⟩ (t_telling K C) (G0 N_telling ds) (PoQ Q) := by
  intro ds Q X h E
  obtain ⟨rs, rfl, hl, q⟩ := h
  show wS K _ (t_telling K C) [.sh (.lst (rsD rs)), .no, .no, .no] _
  unfold t_telling
  walk_at "wgo"
  rename_i a
  refine wS_while (fun m G => ∃ ks g s, G = [.sh (.lst (rsD rs)), .ow a (.lst (ks.map tx)), .sh (.bl g), s] ∧ TellI rs ks ∧ (g = false → ∀ r ∈ rs, r.due ks = true → r.nm ∈ ks) ∧ m = rs.length - ks.length + if g then 1 else 0) (rs.length + 1)
    ⟨[], true, _, rfl, ⟨List.nodup_nil, (by intro n h; cases h), (by intro n h; cases h)⟩, (by intro e; cases e), rfl⟩ fun m G h => ?_
  obtain ⟨ks, g, s, rfl, ht, hc, hm⟩ := h
  walk_at "wgo"
  · rename_i hg
    subst hg
    refine wS_forL ?_
    walk_at "wgo"
    refine ⟨_, rfl, fun k G => ∃ ks' g' s, G = [.sh (.lst (rsD rs)), .ow a (.lst (ks'.map tx)), .sh (.bl g'), s] ∧ TellI rs ks' ∧ ks.length + (if g' then 1 else 0) ≤ ks'.length ∧ (g' = false → ks' = ks ∧ ∀ r ∈ rs.take k, r.due ks = true → r.nm ∈ ks), ⟨ks, false, _, rfl, ht, by simp, fun _ => ⟨rfl, fun r hr => by simp at hr⟩⟩, fun k d G hd h => ?_, fun G h => ?_⟩
    · obtain ⟨ks', g', s, rfl, ht', hl', hc'⟩ := h
      obtain ⟨r, hr, rfl⟩ := rule_get hd
      have hrm : r ∈ rs := List.mem_of_getElem? hr
      have hk := take_snoc hr
      have hle := ht'.le
      refine wG_name ⟨rfl, ?_⟩
      refine wS_cut (fun G => ∃ g2 ks2 s, G = [.sh (.lst (rsD rs)), .ow a (.lst (ks2.map tx)), .sh (.bl g2), s] ∧ ((g2 = true ∧ ks2 = ks' ++ [r.nm] ∧ r.due ks' = true ∧ r.nm ∉ ks') ∨ (g2 = g' ∧ ks2 = ks' ∧ (r.due ks' = true → r.nm ∈ ks')))) ?_ fun G h => ?_
      · cases r with
        | sg n sgn =>
          show wS K _ _ [.sh (.lst (rsD rs)), .ow a (.lst (ks'.map tx)), .sh (.bl g'), .sh (.tup [tx n, tx [sgn]])] _
          walk_at "wgo"
          refine u_ninT (ls := ks') rfl ?_
          walk_at "wgo"
          · rename_i hm
            exact ⟨_, _, _, rfl, .inr ⟨rfl, rfl, fun _ => hm⟩⟩
          · rename_i hm
            refine ⟨by rw [List.length_map]; omega, ?_⟩
            walk_at "wnx"
            refine ⟨true, ks' ++ [n], .sh (.tup [tx n, tx [sgn]]), ?_, .inl ⟨rfl, rfl, rfl, hm⟩⟩
            rw [List.map_append]; rfl
        | fk n x y =>
          show wS K _ _ [.sh (.lst (rsD rs)), .ow a (.lst (ks'.map tx)), .sh (.bl g'), .sh (.tup [tx n, tx x, tx y])] _
          walk_at "wgo"
          refine u_ninT (ls := ks') rfl ?_
          walk_at "wgo"
          · rename_i hm
            exact ⟨_, _, _, rfl, .inr ⟨rfl, rfl, fun _ => hm⟩⟩
          · rename_i hm
            refine u_inT (ls := ks') rfl ?_
            walk_at "wgo"
            · rename_i hx
              refine u_inT (ls := ks') rfl ?_
              walk_at "wgo"
              · rename_i hy
                refine ⟨by rw [List.length_map]; omega, ?_⟩
                walk_at "wnx"
                refine ⟨true, ks' ++ [n], .sh (.tup [tx n, tx x, tx y]), ?_, .inl ⟨rfl, rfl, ?_, hm⟩⟩
                · rw [List.map_append]; rfl
                · show (decide _ && decide _) = true
                  rw [decide_eq_true hx, decide_eq_true hy]; rfl
              · rename_i hy
                refine ⟨_, _, _, rfl, .inr ⟨rfl, rfl, fun e => ?_⟩⟩
                have h := Bool.and_eq_true_iff.mp e
                exact absurd (of_decide_eq_true h.2) hy
            · rename_i hx
              refine ⟨_, _, _, rfl, .inr ⟨rfl, rfl, fun e => ?_⟩⟩
              have h := Bool.and_eq_true_iff.mp e
              exact absurd (of_decide_eq_true h.1) hx
      · obtain ⟨g2, ks2, s, rfl, ⟨rfl, rfl, hd2, hm⟩ | ⟨rfl, rfl, hc2⟩⟩ := h
        · refine ⟨_, true, _, rfl, ht'.add hrm hd2 hm, ?_, fun e => by cases e⟩
          rw [List.length_append, List.length_singleton]
          have : (if g' = true then 1 else 0) ≥ (0 : Nat) := Nat.zero_le _
          simp
          omega
        · refine ⟨_, _, _, rfl, ht', hl', fun e => ?_⟩
          obtain ⟨e1, e2⟩ := hc' e
          refine ⟨e1, fun r' hr' hd' => ?_⟩
          rw [hk] at hr'
          rcases List.mem_append.mp hr' with h | h
          · exact e2 r' h hd'
          · cases List.mem_singleton.mp h
            rw [e1] at hc2
            exact hc2 hd'
    · obtain ⟨ks', g', s, rfl, ht', hl', hc'⟩ := h
      have hle := ht'.le
      rw [List.length_map, List.take_length] at hc'
      refine ⟨rs.length - ks'.length + (if g' then 1 else 0), ?_, ks', g', s, rfl, ht', fun e => ?_, rfl⟩
      · rw [hm]
        cases g' with
        | true => simp at hl' ⊢; omega
        | false => simp at hl' ⊢; omega
      · obtain ⟨e1, e2⟩ := hc' e
        rw [e1]; exact e2
  · rename_i hg
    subst hg
    walk_at "wgo"
    exact q a ks fun n => ⟨ht.pro n, pro_closed (hc rfl) n⟩


/-! ### need_rules -/
def Rl.ok : Rl → Bool
  | .sg n s => isNameL n && decide (s ∈ signsL)
  | .fk n a b => isNameL n && (isNameL a && isNameL b)
def BadR (l : List D) : Prop := l = [] ∨ 40 < l.length ∨ ∃ d ∈ l, isRuleD d = false
structure GoodR (rs : List Rl) : Prop where
  ne : rs ≠ []
  le : rs.length ≤ 40
  ok : ∀ r ∈ rs, r.ok = true
def Missing (rs : List Rl) : Prop := ∃ n a b, Rl.fk n a b ∈ rs ∧ (a ∉ namesOf rs ∨ b ∉ namesOf rs)
def Unpro (rs : List Rl) : Prop := ∃ n ∈ namesOf rs, ¬ Pro rs n
def phi_need_rules (C : ErA) : Phi := fun ds Q X => ∃ l, ds = [.lst l] ∧ (∀ d ∈ l, RuleP d) ∧ l.length ≤ 100000 ∧ (BadR l → X (.ref C.rule)) ∧
  ∀ rs, l = rsD rs → GoodR rs → (Missing rs → X (.ref C.name)) ∧ (¬ Missing rs → Unpro rs → X (.ref C.endless)) ∧ (¬ Missing rs → ¬ Unpro rs → ∀ a, Q (.ow a (.lst l)))
theorem len_need_rules {C : ErA} : ∀ ds Q X, phi_need_rules C ds Q X → ds.length = 1 := fun ds Q X h => by
  obtain ⟨d, rfl, _⟩ := h; rfl
theorem plain_str {s : Str} (h : Plain (.str s)) : ∃ l, D.str s = tx l ∧ Tx l := by
  rcases h with h | ⟨h, _⟩
  · exact h
  · exact absurd rfl h
theorem name_of_D {d : D} (hp : Plain d) (h : isNameD d = true) : ∃ l, d = tx l ∧ isNameL l = true := by
  cases d with
  | str s =>
    obtain ⟨l, e, _⟩ := plain_str hp
    rw [e] at h
    exact ⟨l, e, h⟩
  | _ => cases h
theorem sign_of_D {d : D} (hp : Plain d) (h : isSignD d = true) : ∃ c, d = tx [c] ∧ c ∈ signsL := by
  cases d with
  | str s =>
    obtain ⟨l, e, _⟩ := plain_str hp
    rw [e] at h ⊢
    have h' : isSignL l = true := h
    match l, h' with
    | [c], h' => exact ⟨c, rfl, of_decide_eq_true h'⟩
  | _ => cases h
theorem rule_of_D {d : D} (hp : RuleP d) (h : isRuleD d = true) : ∃ r, d = ruleD r ∧ r.ok = true := by
  match d, h with
  | .tup [a, b], h =>
    have h := Bool.and_eq_true_iff.mp h
    obtain ⟨n, rfl, hn⟩ := name_of_D (hp.2 _ rfl a (by simp)) h.1
    obtain ⟨c, rfl, hc⟩ := sign_of_D (hp.2 _ rfl b (by simp)) h.2
    exact ⟨.sg n c, rfl, by show (_ && _) = true; rw [hn, decide_eq_true hc]; rfl⟩
  | .tup [a, b, c], h =>
    have h := Bool.and_eq_true_iff.mp h
    have h2 := Bool.and_eq_true_iff.mp h.2
    obtain ⟨n, rfl, hn⟩ := name_of_D (hp.2 _ rfl a (by simp)) h.1
    obtain ⟨x, rfl, hx⟩ := name_of_D (hp.2 _ rfl b (by simp)) h2.1
    obtain ⟨y, rfl, hy⟩ := name_of_D (hp.2 _ rfl c (by simp)) h2.2
    exact ⟨.fk n x y, rfl, by show (_ && (_ && _)) = true; rw [hn, hx, hy]; rfl⟩
theorem rules_of_D : ∀ {l : List D}, (∀ d ∈ l, RuleP d) → (∀ d ∈ l, isRuleD d = true) → ∃ rs, l = rsD rs ∧ ∀ r ∈ rs, r.ok = true
  | [], _, _ => ⟨[], rfl, by intro r h; cases h⟩
  | d :: l, h1, h2 => by
    obtain ⟨r, e, ho⟩ := rule_of_D (h1 d List.mem_cons_self) (h2 d List.mem_cons_self)
    obtain ⟨rs, e2, ho2⟩ := rules_of_D (fun x hx => h1 x (List.mem_cons_of_mem _ hx)) (fun x hx => h2 x (List.mem_cons_of_mem _ hx))
    refine ⟨r :: rs, by rw [e, e2]; rfl, fun x hx => ?_⟩
    rcases List.mem_cons.mp hx with rfl | hx
    · exact ho
    · exact ho2 x hx
theorem good_of {l : List D} (h1 : ∀ d ∈ l, RuleP d) (h : ¬ BadR l) : ∃ rs, l = rsD rs ∧ GoodR rs := by
  have hb : ∀ d ∈ l, isRuleD d = true := fun d hd => by
    cases e : isRuleD d with
    | true => rfl
    | false => exact absurd (.inr (.inr ⟨d, hd, e⟩)) h
  obtain ⟨rs, rfl, ho⟩ := rules_of_D h1 hb
  refine ⟨rs, rfl, fun e => h (.inl (by rw [e]; rfl)), ?_, ho⟩
  have : ¬ 40 < (rsD rs).length := fun e => h (.inr (.inl e))
  rw [List.length_map] at this
  omega
theorem flat_txs : ∀ ls : List Name, flatA (ls.map tx) = true
  | [] => rfl
  | l :: ls => by
    show (D.flat (tx l) && flatA (ls.map tx)) = true
    rw [flat_txs ls]; rfl
abbrev N_need_rules : List Str := ["rules", "found", "rule", "names", "known", "name"]
def t_need_rules (K : PySem.W.Frag) (C : ErA) (E : XK) : TS :=
  tSeq (tIfS (tNot (tTru K (tVar 0))) (tRaise E (.ref C.rule)) tNext) (tSeq (tAsg (tLst tNil) (gName 1)) (tSeq (tFor (iList K (tVar 0)) (gName 2) (tSeq (tIfS (tOr (tTest (tOp (uEq K) (tCB (cLen K) (tCons (tVar 1) tNil)) (tC (.int 40)))) (tNot (tTru K (tCall (mkSp K (phi_is_rule C)) [] E0 (tCons (tVar 2) tNil))))) (tRaise E (.ref C.rule)) tNext) (tDrop (tBM K "list" rAppend (tVar 1) (tCons (tVar 2) tNil))))) (tSeq (tAsg (tCall (mkSp K (phi_names_of C)) [] E0 (tCons (tVar 1) tNil)) (gName 3)) (tSeq (tFor (iList K (tVar 1)) (gName 2) (tFor (iTup K (tSl (uSl K) (tVar 2) (tPart (tC (.int 1))) tNoPart)) (gName 5) (tIfS (tAnd (tTest (tOp (uEq K) (tCB (cLen K) (tCons (tVar 2) tNil)) (tC (.int 3)))) (tTest (tOp (uNin K) (tVar 5) (tVar 3)))) (tRaise E (.ref C.name)) tNext))) (tSeq (tAsg (tCall (mkSp K (phi_telling C)) [] E0 (tCons (tVar 1) tNil)) (gName 4)) (tSeq (tFor (iList K (tVar 3)) (gName 5) (tIfS (tTest (tOp (uNin K) (tVar 5) (tVar 4))) (tRaise E (.ref C.endless)) tNext)) (tRet (tVar 1))))))))
theorem w_need_rules {K : PySem.W.Frag} {C : ErA} : ∀ ds Q X, phi_need_rules C ds Q X → ∀ E, wS K ⟨E, X⟩ (t_need_rules K C E) (G0 N_need_rules ds) (PoQ Q) := by
  intro ds Q X h E
  obtain ⟨l, rfl, hp, hl, hb, hg⟩ := h
  show wS K _ (t_need_rules K C E) [.sh (.lst l), .no, .no, .no, .no, .no] _
  unfold t_need_rules
  walk_at "wst"
  refine wS_cut (fun G => G = [.sh (.lst l), .no, .no, .no, .no, .no] ∧ l ≠ []) ?_ fun G h => ?_
  · walk_at "wgo"
    · rename_i h
      refine hb (.inl ?_)
      cases l with
      | nil => rfl
      | cons x r => cases h
    · rename_i h
      exact ⟨rfl, by intro e; rw [e] at h; cases h⟩
  · obtain ⟨rfl, hne⟩ := h
    walk_at "wgo"
    rename_i a
    refine wS_forL ?_
    walk_at "wgo"
    refine ⟨_, rfl, fun k G => ∃ s, G = [.sh (.lst l), .ow a (.lst (l.take k)), s, .no, .no, .no] ∧ k ≤ 40 ∧ ∀ d ∈ l.take k, isRuleD d = true, ⟨_, rfl, by omega, by simp⟩, fun k d G hd h => ?_, fun G h => ?_⟩
    · obtain ⟨s, rfl, hk, hr⟩ := h
      have hkl : k < l.length := (List.getElem?_eq_some_iff.mp hd).1
      have hlk : (l.take k).length = k := by rw [List.length_take]; omega
      have hdp := hp d (List.mem_of_getElem? hd)
      have hts := take_snoc hd
      refine wG_name ⟨rfl, ?_⟩
      walk_at "wgo"
      · rename_i h
        exact hb (.inr (.inl (by omega)))
      · rename_i h1 h2
        refine ⟨by omega, ?_⟩
        refine ⟨.sh d, ?_, by omega, fun x hx => ?_⟩
        · rw [hts]; rfl
        · rw [hts] at hx
          rcases List.mem_append.mp hx with hx | hx
          · exact hr x hx
          · cases List.mem_singleton.mp hx
            exact h2
      · rename_i h1 h2
        exact hb (.inr (.inr ⟨d, List.mem_of_getElem? hd, h2⟩))
    · obtain ⟨s, rfl, hk, hr⟩ := h
      rw [List.take_length] at hr
      have hnb : ¬ BadR l := by
        rintro (h | h | ⟨d, h1, h2⟩)
        · exact hne h
        · omega
        · rw [hr d h1] at h2; cases h2
      obtain ⟨rs, rfl, hgd⟩ := good_of hp hnb
      obtain ⟨g1, g2, g3⟩ := hg rs rfl hgd
      have hrl : rs.length ≤ 100000 := by have := hgd.le; omega
      show wS K _ _ [.sh (.lst (rsD rs)), .ow a (.lst ((rsD rs).take (rsD rs).length)), s, .no, .no, .no] _
      rw [List.take_length]
      walk_at "wgo"
      refine c_names_of hrl fun a3 => ⟨.inr ?_, ?_⟩
      · exact flat_txs _
      walk_at "wgo"
      refine wS_forB (a := a) (ds := rsD rs) rfl (fun k G => ∃ s s5, G = [.sh (.lst (rsD rs)), .ow a (.lst (rsD rs)), s, .ow a3 (.lst ((namesOf rs).map tx)), .no, s5] ∧ ∀ r ∈ rs.take k, ∀ n x y, r = .fk n x y → x ∈ namesOf rs ∧ y ∈ namesOf rs)
        (fun k G h => by obtain ⟨s, s5, rfl, _⟩ := h; exact ⟨1, rfl⟩) ⟨_, _, rfl, by simp⟩ (fun k d G hd h => ?_) fun G h => ?_
      · obtain ⟨s, s5, rfl, hc⟩ := h
        obtain ⟨r, hr', rfl⟩ := rule_get hd
        have hrm : r ∈ rs := List.mem_of_getElem? hr'
        have hts := take_snoc hr'
        refine wG_name ⟨rfl, ?_⟩
        refine wS_forT ?_
        cases r with
        | sg n sgn =>
          show wE K _ _ [.sh (.lst (rsD rs)), .ow a (.lst (rsD rs)), .sh (.tup [tx n, tx [sgn]]), .ow a3 (.lst ((namesOf rs).map tx)), .no, s5] _
          walk_at "wgo"
          refine ⟨[tx [sgn]], rfl, fun _ G => ∃ s5, G = [.sh (.lst (rsD rs)), .ow a (.lst (rsD rs)), .sh (.tup [tx n, tx [sgn]]), .ow a3 (.lst ((namesOf rs).map tx)), .no, s5], ⟨_, rfl⟩, fun i d G hd h => ?_, fun G h => ?_⟩
          · obtain ⟨s5, rfl⟩ := h
            refine wG_name ⟨rfl, ?_⟩
            walk_at "wgo"
            exact ⟨_, rfl⟩
          · obtain ⟨s5, rfl⟩ := h
            refine ⟨_, _, rfl, fun r hr n x y e => ?_⟩
            rw [hts] at hr
            rcases List.mem_append.mp hr with hr | hr
            · exact hc r hr n x y e
            · cases List.mem_singleton.mp hr
              cases e
        | fk n x y =>
          show wE K _ _ [.sh (.lst (rsD rs)), .ow a (.lst (rsD rs)), .sh (.tup [tx n, tx x, tx y]), .ow a3 (.lst ((namesOf rs).map tx)), .no, s5] _
          walk_at "wgo"
          refine ⟨[tx x, tx y], rfl, fun i G => (∃ s5, G = [.sh (.lst (rsD rs)), .ow a (.lst (rsD rs)), .sh (.tup [tx n, tx x, tx y]), .ow a3 (.lst ((namesOf rs).map tx)), .no, s5]) ∧ ∀ z ∈ [x, y].take i, z ∈ namesOf rs, ⟨⟨_, rfl⟩, by simp⟩, fun i d G hd h => ?_, fun G h => ?_⟩
          · obtain ⟨⟨s5, rfl⟩, hz⟩ := h
            have hd' : ∃ z, [x, y][i]? = some z ∧ d = tx z := by
              match i, hd with
              | 0, hd => exact ⟨x, rfl, by cases hd; rfl⟩
              | 1, hd => exact ⟨y, rfl, by cases hd; rfl⟩
            obtain ⟨z, hz1, rfl⟩ := hd'
            have hzm : z = x ∨ z = y := by
              have := List.mem_of_getElem? hz1
              simpa using this
            refine wG_name ⟨rfl, ?_⟩
            walk_at "wgo"
            refine u_ninT (ls := namesOf rs) rfl ?_
            walk_at "wgo"
            · rename_i hm u hu
              rw [take_snoc hz1] at hu
              rcases List.mem_append.mp hu with hu | hu
              · exact hz u hu
              · cases List.mem_singleton.mp hu
                exact hm
            · rename_i hm
              refine g1 ⟨n, x, y, hrm, ?_⟩
              rcases hzm with rfl | rfl
              · exact .inl hm
              · exact .inr hm
          · obtain ⟨⟨s5, rfl⟩, hz⟩ := h
            refine ⟨_, _, rfl, fun r hr n' x' y' e => ?_⟩
            rw [hts] at hr
            rcases List.mem_append.mp hr with hr | hr
            · exact hc r hr n' x' y' e
            · cases List.mem_singleton.mp hr
              cases e
              exact ⟨hz x (by simp), hz y (by simp)⟩
      · obtain ⟨s, s5, rfl, hc⟩ := h
        rw [List.length_map, List.take_length] at hc
        have hnm : ¬ Missing rs := by
          rintro ⟨n, x, y, hm, h⟩
          obtain ⟨h1, h2⟩ := hc _ hm n x y rfl
          rcases h with h | h
          · exact h h1
          · exact h h2
        walk_at "wgo"
        refine c_telling hrl fun a4 ks hks => ⟨.inr ?_, ?_⟩
        · exact flat_txs _
        walk_at "wgo"
        refine wS_forB (a := a3) (ds := (namesOf rs).map tx) rfl (fun k G => ∃ s5, G = [.sh (.lst (rsD rs)), .ow a (.lst (rsD rs)), s, .ow a3 (.lst ((namesOf rs).map tx)), .ow a4 (.lst (ks.map tx)), s5] ∧ ∀ n ∈ (namesOf rs).take k, n ∈ ks)
          (fun k G h => by obtain ⟨s5, rfl, _⟩ := h; exact ⟨3, rfl⟩) ⟨_, rfl, by simp⟩ (fun k d G hd h => ?_) fun G h => ?_
        · obtain ⟨s5, rfl, hk⟩ := h
          rw [List.getElem?_map] at hd
          obtain ⟨n, hn, rfl⟩ := Option.map_eq_some_iff.mp hd
          refine wG_name ⟨rfl, ?_⟩
          walk_at "wgo"
          refine u_ninT (ls := ks) rfl ?_
          walk_at "wgo"
          · rename_i hm u hu
            rw [take_snoc hn] at hu
            rcases List.mem_append.mp hu with hu | hu
            · exact hk u hu
            · cases List.mem_singleton.mp hu
              exact hm
          · rename_i hm
            exact g2 hnm ⟨n, List.mem_of_getElem? hn, fun p => hm ((hks n).mpr p)⟩
        · obtain ⟨s5, rfl, hk⟩ := h
          rw [List.length_map, List.take_length] at hk
          walk_at "wgo"
          exact g3 hnm (fun ⟨n, h1, h2⟩ => h2 ((hks n).mp (hk n h1))) a


/-! ### the table of costs, in plain Lean -/
abbrev Key3 := Name × Nat × Nat
abbrev Tb := List (Key3 × Nat)
def kK (k : Key3) : List Key := [.inr (mk k.1), .inl ((k.2.1 : Nat) : Int), .inl ((k.2.2 : Nat) : Int)]
theorem kK_inj {k j : Key3} : kK k = kK j ↔ k = j := by
  constructor
  · intro h
    unfold kK at h
    simp only [List.cons.injEq, Sum.inr.injEq, Sum.inl.injEq, and_true] at h
    obtain ⟨h1, h2, h3⟩ := h
    have h1 := mk_inj.mp h1
    obtain ⟨a, b, c⟩ := k
    obtain ⟨a', b', c'⟩ := j
    simp only at h1 h2 h3
    have h2 : b = b' := by omega
    have h3 : c = c' := by omega
    rw [h1, h2, h3]
  · rintro rfl; rfl
def enc (es : Tb) : List (List Key × V) := es.map fun p => (kK p.1, V.int ((p.2 : Nat) : Int))
def tat (es : Tb) (k : Key3) : Option Nat := (es.find? fun p => decide (p.1 = k)).map (·.2)
def tput (es : Tb) (k : Key3) (c : Nat) : Tb := if (es.any fun p => decide (p.1 = k)) = true then es.map (fun p => if p.1 = k then (p.1, c) else p) else es ++ [(k, c)]
theorem tat_cons (p : Key3 × Nat) (es : Tb) (k : Key3) : tat (p :: es) k = if p.1 = k then some p.2 else tat es k := by
  unfold tat
  rw [List.find?_cons]
  by_cases h : p.1 = k
  · rw [decide_eq_true h, if_pos h]; rfl
  · rw [decide_eq_false h, if_neg h]
theorem valV_enc : ∀ (es : Tb) (k : Key3), valV (enc es) (kK k) = (tat es k).map fun c => V.int ((c : Nat) : Int)
  | [], _ => rfl
  | p :: es, k => by
    rw [tat_cons]
    show valV ((kK p.1, V.int _) :: enc es) (kK k) = _
    by_cases h : p.1 = k
    · rw [if_pos h, valV_pos (kK_inj.mpr h)]; rfl
    · rw [if_neg h, valV_neg (fun e => h (kK_inj.mp e)), valV_enc es k]
theorem any_enc (es : Tb) (k : Key3) : ((enc es).any fun kv => decide (kv.1 = kK k)) = (es.any fun p => decide (p.1 = k)) := by
  unfold enc
  rw [List.any_map]
  congr 1
  funext p
  exact decide_eq_decide.mpr kK_inj
theorem putK_enc (es : Tb) (k : Key3) (c : Nat) : putK (enc es) (kK k) (V.int ((c : Nat) : Int)) = enc (tput es k c) := by
  unfold putK tput
  rw [any_enc]
  split
  · unfold enc
    rw [List.map_map, List.map_map]
    refine List.map_congr_left fun p _ => ?_
    show (if kK p.1 = kK k then _ else _) = (kK (if p.1 = k then (p.1, c) else p).1, V.int (((if p.1 = k then (p.1, c) else p).2 : Nat) : Int))
    by_cases h : p.1 = k
    · rw [if_pos (kK_inj.mpr h), if_pos h]
    · rw [if_neg (fun e => h (kK_inj.mp e)), if_neg h]
  · unfold enc
    rw [List.map_append]; rfl
theorem oInt_inj {a b : Option Nat} (h : a.map (fun c => V.int ((c : Nat) : Int)) = b.map fun c => V.int ((c : Nat) : Int)) : a = b := by
  cases a with
  | none => cases b with
    | none => rfl
    | some y => cases h
  | some x => cases b with
    | none => cases h
    | some y =>
      simp only [Option.map_some, Option.some.injEq, V.int.injEq] at h
      rw [show x = y by omega]
theorem tat_put (es : Tb) (k j : Key3) (c : Nat) : tat (tput es k c) j = if j = k then some c else tat es j := by
  refine oInt_inj ?_
  rw [← valV_enc, ← putK_enc, valV_put]
  by_cases h : j = k
  · rw [if_pos (kK_inj.mpr h), if_pos h]; rfl
  · rw [if_neg (fun e => h (kK_inj.mp e)), if_neg h, valV_enc]
theorem any_tat (k : Key3) : ∀ es : Tb, (es.any fun p => decide (p.1 = k)) = (tat es k).isSome
  | [] => rfl
  | p :: es => by
    rw [List.any_cons, tat_cons, any_tat k es]
    by_cases h : p.1 = k
    · rw [decide_eq_true h, if_pos h]; rfl
    · rw [decide_eq_false h, if_neg h, Bool.false_or]
theorem tput_new {es : Tb} {k : Key3} (c : Nat) (h : tat es k = none) : tput es k c = es ++ [(k, c)] := by
  unfold tput
  rw [any_tat, h]; rfl
theorem tput_len (es : Tb) (k : Key3) (c : Nat) : (tput es k c).length = es.length + (if (tat es k).isSome then 0 else 1) := by
  unfold tput
  rw [any_tat]
  cases h : (tat es k).isSome with
  | true => simp
  | false => simp
theorem tat_mem {k : Key3} : ∀ {es : Tb}, k ∈ es.map (·.1) ↔ (tat es k).isSome = true
  | [] => by simp [tat]
  | p :: es => by
    rw [List.map_cons, List.mem_cons, tat_cons, tat_mem (es := es)]
    by_cases h : p.1 = k
    · rw [if_pos h]; simp [h]
    · rw [if_neg h]
      simp only [or_iff_right_iff_imp]
      intro e; exact absurd e.symm h
theorem tput_keys (es : Tb) (k : Key3) (c : Nat) : (tput es k c).map (·.1) = if (tat es k).isSome then es.map (·.1) else es.map (·.1) ++ [k] := by
  unfold tput
  rw [any_tat]
  cases h : (tat es k).isSome with
  | true =>
    rw [if_pos rfl, if_pos rfl, List.map_map]
    refine List.map_congr_left fun p _ => ?_
    show (if p.1 = k then (p.1, c) else p).1 = p.1
    split <;> rfl
  | false =>
    rw [if_neg (by decide), if_neg (by decide), List.map_append]; rfl
theorem tput_nodup {es : Tb} (k : Key3) (c : Nat) (h : (es.map (·.1)).Nodup) : ((tput es k c).map (·.1)).Nodup := by
  rw [tput_keys]
  split
  · exact h
  · rename_i hn
    rw [List.nodup_append]
    refine ⟨h, by simp, fun x hx y hy e => ?_⟩
    cases List.mem_singleton.mp hy
    subst e
    exact hn (tat_mem.mp hx)
/-! #### what a rule comes to -/
def lc (s : Nat) (t : List Nat) (b e : Nat) : Nat := if b = e then 1 else e - b - (if s ∈ (t.drop b).take (e - b) then 1 else 0)
def pairC (es : Tb) (x y : Name) (b e k : Nat) : Option Nat := match tat es (x, b, k), tat es (y, k, e) with
  | some c, some d => some (c + d)
  | _, _ => none
def minO (acc : Option Nat) : Option Nat → Option Nat
  | none => acc
  | some s => match acc with
    | none => some s
    | some l => if s < l then some s else some l
def leastTo (es : Tb) (x y : Name) (b e j : Nat) : Option Nat := (List.range j).foldl (fun acc i => minO acc (pairC es x y b e (b + i))) none
theorem leastTo_succ (es : Tb) (x y : Name) (b e j : Nat) : leastTo es x y b e (j + 1) = minO (leastTo es x y b e j) (pairC es x y b e (b + j)) := by
  unfold leastTo
  rw [List.range_succ, List.foldl_append]; rfl
theorem minO_le {acc o : Option Nat} : (∀ l, acc = some l → ∃ m, minO acc o = some m ∧ m ≤ l) ∧ (∀ s, o = some s → ∃ m, minO acc o = some m ∧ m ≤ s) ∧ ∀ m, minO acc o = some m → acc = some m ∨ o = some m := by
  cases o with
  | none =>
    exact ⟨fun l h => ⟨l, h, Nat.le_refl _⟩, fun s h => (by cases h), fun m h => .inl h⟩
  | some s =>
    cases acc with
    | none => exact ⟨fun l h => by (cases h), fun s' h => ⟨s, rfl, by cases h; exact Nat.le_refl _⟩, fun m h => .inr h⟩
    | some l =>
      show (∀ l', _ → ∃ m, (if s < l then some s else some l) = some m ∧ _) ∧ (∀ s', _ → ∃ m, (if s < l then some s else some l) = some m ∧ _) ∧ ∀ m, (if s < l then some s else some l) = some m → _
      by_cases h : s < l
      · rw [if_pos h]
        exact ⟨fun l' e => ⟨s, rfl, by cases e; omega⟩, fun s' e => ⟨s, rfl, by cases e; omega⟩, fun m e => .inr e⟩
      · rw [if_neg h]
        exact ⟨fun l' e => ⟨l, rfl, by cases e; omega⟩, fun s' e => ⟨l, rfl, by cases e; omega⟩, fun m e => .inl e⟩
theorem leastTo_le (es : Tb) (x y : Name) (b e : Nat) : ∀ (j i : Nat) (s : Nat), i < j → pairC es x y b e (b + i) = some s → ∃ m, leastTo es x y b e j = some m ∧ m ≤ s
  | 0, _, _, h, _ => by omega
  | j + 1, i, s, h, hs => by
    rw [leastTo_succ]
    by_cases e2 : i = j
    · subst e2; exact minO_le.2.1 s hs
    · obtain ⟨m, h1, h2⟩ := leastTo_le es x y b e j i s (by omega) hs
      obtain ⟨m', h3, h4⟩ := minO_le (o := pairC es x y b e (b + j)) |>.1 m h1
      exact ⟨m', h3, by omega⟩
theorem leastTo_of (es : Tb) (x y : Name) (b e : Nat) : ∀ (j m : Nat), leastTo es x y b e j = some m → ∃ i, i < j ∧ pairC es x y b e (b + i) = some m
  | 0, _, h => by cases h
  | j + 1, m, h => by
    rw [leastTo_succ] at h
    rcases minO_le.2.2 m h with h | h
    · obtain ⟨i, h1, h2⟩ := leastTo_of es x y b e j m h
      exact ⟨i, by omega, h2⟩
    · exact ⟨j, by omega, h⟩
def rcost (es : Tb) (t : List Nat) (b e : Nat) : Rl → Option Nat
  | .sg _ s => some (lc s t b e)
  | .fk _ x y => leastTo es x y b e (e + 1 - b)
/-! #### trees -/
inductive Der (rs : List Rl) (t : List Nat) : Name → Nat → Nat → Nat → Prop where
  | sg {n : Name} {s b e : Nat} : Rl.sg n s ∈ rs → b ≤ e → Der rs t n b e (lc s t b e)
  | fk {n x y : Name} {b k e c d : Nat} : Rl.fk n x y ∈ rs → Der rs t x b k c → Der rs t y k e d → Der rs t n b e (c + d)
theorem Der.le {rs : List Rl} {t : List Nat} {n : Name} {b e c : Nat} (h : Der rs t n b e c) : b ≤ e := by
  induction h with
  | sg _ h => exact h
  | fk _ _ _ i1 i2 => omega
theorem Der.nm {rs : List Rl} {t : List Nat} {n : Name} {b e c : Nat} (h : Der rs t n b e c) : n ∈ namesOf rs := by
  cases h with
  | sg h _ => exact (mem_namesOf rs _).mpr ⟨_, h, rfl⟩
  | fk h _ _ => exact (mem_namesOf rs _).mpr ⟨_, h, rfl⟩
theorem Pro.der {rs : List Rl} {n : Name} (t : List Nat) (h : Pro rs n) : ∀ b e : Nat, b ≤ e → ∃ c, Der rs t n b e c := by
  induction h with
  | sg h => intro b e hb; exact ⟨_, .sg h hb⟩
  | fk h _ _ i1 i2 =>
    intro b e hb
    obtain ⟨c, h1⟩ := i1 b b (Nat.le_refl _)
    obtain ⟨d, h2⟩ := i2 b e hb
    exact ⟨_, .fk h h1 h2⟩
/-- what the table has is what a tree comes to -/
def Snd (rs : List Rl) (t : List Nat) (es : Tb) : Prop := ∀ n b e c, tat es (n, b, e) = some c → Der rs t n b e c
/-- .. and no tree over the stretch comes to less -/
def Mn (rs : List Rl) (t : List Nat) (es : Tb) (b e : Nat) : Prop := ∀ n c, Der rs t n b e c → ∃ c', tat es (n, b, e) = some c' ∧ c' ≤ c
theorem rcost_der {rs : List Rl} {t : List Nat} {es : Tb} (hS : Snd rs t es) {r : Rl} (hr : r ∈ rs) {b e f : Nat} (hb : b ≤ e) (h : rcost es t b e r = some f) : Der rs t r.nm b e f := by
  cases r with
  | sg n s => cases h; exact .sg hr hb
  | fk n x y =>
    obtain ⟨i, h1, h2⟩ := leastTo_of es x y b e _ f h
    unfold pairC at h2
    split at h2
    · rename_i c d e1 e2
      cases h2
      exact .fk hr (hS _ _ _ _ e1) (hS _ _ _ _ e2)
    · cases h2
/-! #### one stretch filled in -/
def better (es : Tb) (k : Key3) (f : Nat) : Bool := match tat es k with
  | none => true
  | some c => decide (f < c)
def stp (t : List Nat) (b e : Nat) (p : Tb × Bool) (r : Rl) : Tb × Bool := match rcost p.1 t b e r with
  | none => p
  | some f => if better p.1 (r.nm, b, e) f = true then (tput p.1 (r.nm, b, e) f, true) else p
def pas (t : List Nat) (b e : Nat) (rs : List Rl) (es : Tb) : Tb × Bool := rs.foldl (stp t b e) (es, false)
inductive Runs (rs : List Rl) (t : List Nat) (b e : Nat) : Tb → Nat → Tb → Prop where
  | stop {es es' : Tb} : pas t b e rs es = (es', false) → Runs rs t b e es 0 es'
  | go {es es' es'' : Tb} {m : Nat} : pas t b e rs es = (es', true) → Runs rs t b e es' m es'' → Runs rs t b e es (m + 1) es''
theorem stp_cases (t : List Nat) (b e : Nat) (p : Tb × Bool) (r : Rl) : stp t b e p r = p ∨ ∃ f, rcost p.1 t b e r = some f ∧ better p.1 (r.nm, b, e) f = true ∧ stp t b e p r = (tput p.1 (r.nm, b, e) f, true) := by
  unfold stp
  cases h : rcost p.1 t b e r with
  | none => exact .inl rfl
  | some f =>
    by_cases hb : better p.1 (r.nm, b, e) f = true
    · exact .inr ⟨f, rfl, hb, if_pos hb⟩
    · exact .inl (if_neg hb)
theorem fold_true (t : List Nat) (b e : Nat) : ∀ (l : List Rl) (es : Tb), (l.foldl (stp t b e) (es, true)).2 = true
  | [], _ => rfl
  | r :: l, es => by
    rw [List.foldl_cons]
    rcases stp_cases t b e (es, true) r with h | ⟨f, _, _, h⟩
    · rw [h]; exact fold_true t b e l es
    · rw [h]; exact fold_true t b e l _
/-- where nothing changed, nothing was better -/
theorem fold_false (t : List Nat) (b e : Nat) : ∀ (l : List Rl) (es : Tb), (l.foldl (stp t b e) (es, false)).2 = false → (l.foldl (stp t b e) (es, false)).1 = es ∧ ∀ r ∈ l, ∀ f, rcost es t b e r = some f → better es (r.nm, b, e) f = false
  | [], es, _ => ⟨rfl, by intro r h; cases h⟩
  | r :: l, es, h => by
    rw [List.foldl_cons] at h ⊢
    cases hc : rcost es t b e r with
    | none =>
      have e1 : stp t b e (es, false) r = (es, false) := by unfold stp; simp only [hc]
      rw [e1] at h ⊢
      obtain ⟨h1, h2⟩ := fold_false t b e l es h
      refine ⟨h1, fun x hx f hf => ?_⟩
      rcases List.mem_cons.mp hx with rfl | hx
      · rw [hc] at hf; cases hf
      · exact h2 x hx f hf
    | some f0 =>
      by_cases hb : better es (r.nm, b, e) f0 = true
      · have e1 : stp t b e (es, false) r = (tput es (r.nm, b, e) f0, true) := by unfold stp; simp only [hc]; exact if_pos hb
        rw [e1, fold_true] at h
        cases h
      · have e1 : stp t b e (es, false) r = (es, false) := by unfold stp; simp only [hc]; exact if_neg hb
        rw [e1] at h ⊢
        obtain ⟨h1, h2⟩ := fold_false t b e l es h
        refine ⟨h1, fun x hx f hf => ?_⟩
        rcases List.mem_cons.mp hx with rfl | hx
        · rw [hc] at hf; cases hf
          simpa using hb
        · exact h2 x hx f hf
theorem fold_keep {I : Tb → Prop} {rs : List Rl} {t : List Nat} {b e : Nat} (hI : ∀ es r f, r ∈ rs → I es → rcost es t b e r = some f → better es (r.nm, b, e) f = true → I (tput es (r.nm, b, e) f)) : ∀ (l : List Rl) (p : Tb × Bool), (∀ r ∈ l, r ∈ rs) → I p.1 → I (l.foldl (stp t b e) p).1
  | [], _, _, h => h
  | r :: l, p, hl, h => by
    rw [List.foldl_cons]
    refine fold_keep hI l _ (fun x hx => hl x (List.mem_cons_of_mem _ hx)) ?_
    rcases stp_cases t b e p r with q | ⟨f, q1, q2, q⟩
    · rw [q]; exact h
    · rw [q]; exact hI p.1 r f (hl r List.mem_cons_self) h q1 q2
theorem Runs.keep {I : Tb → Prop} {rs : List Rl} {t : List Nat} {b e : Nat} (hI : ∀ es r f, r ∈ rs → I es → rcost es t b e r = some f → better es (r.nm, b, e) f = true → I (tput es (r.nm, b, e) f)) {es es' : Tb} {m : Nat} (h : Runs rs t b e es m es') : I es → I es' := by
  induction h with
  | @stop es es' h =>
    intro h0
    have := fold_keep hI rs (es, false) (fun _ h => h) h0
    rw [show rs.foldl (stp t b e) (es, false) = (es', false) from h] at this
    exact this
  | @go es es' es'' m h _ ih =>
    intro h0
    have := fold_keep hI rs (es, false) (fun _ h => h) h0
    rw [show rs.foldl (stp t b e) (es, false) = (es', true) from h] at this
    exact ih this
theorem Runs.closed {rs : List Rl} {t : List Nat} {b e : Nat} {es es' : Tb} {m : Nat} (h : Runs rs t b e es m es') : ∀ r ∈ rs, ∀ f, rcost es' t b e r = some f → ∃ c, tat es' (r.nm, b, e) = some c ∧ c ≤ f := by
  induction h with
  | @stop es es' h =>
    intro r hr f hf
    have q := fold_false t b e rs es (by rw [show rs.foldl (stp t b e) (es, false) = (es', false) from h])
    rw [show rs.foldl (stp t b e) (es, false) = (es', false) from h] at q
    obtain ⟨q1, q2⟩ := q
    simp only at q1
    subst q1
    have := q2 r hr f hf
    unfold better at this
    split at this
    · cases this
    · rename_i c hc
      exact ⟨c, hc, by have := of_decide_eq_false this; omega⟩
  | go _ _ ih => exact ih
theorem Runs.snd {rs : List Rl} {t : List Nat} {b e : Nat} {es es' : Tb} {m : Nat} (hb : b ≤ e) (h : Runs rs t b e es m es') : Snd rs t es → Snd rs t es' :=
  h.keep fun es r f hr hS hc _ n b' e' c hk => by
    rw [tat_put] at hk
    split at hk
    · rename_i e1
      cases hk
      cases e1
      exact rcost_der hS hr hb hc
    · exact hS _ _ _ _ hk
theorem Runs.elsewhere {rs : List Rl} {t : List Nat} {b e : Nat} {es es' : Tb} {m : Nat} (h : Runs rs t b e es m es') (k : Key3) (hk : k.2 ≠ (b, e)) : tat es' k = tat es k :=
  h.keep (I := fun x => tat x k = tat es k) (fun es r f _ hS _ _ => by
    rw [tat_put, if_neg (fun e => hk (by rw [e]))]; exact hS) rfl
theorem Runs.nodup {rs : List Rl} {t : List Nat} {b e : Nat} {es es' : Tb} {m : Nat} (h : Runs rs t b e es m es') : (es.map (·.1)).Nodup → (es'.map (·.1)).Nodup :=
  h.keep (I := fun x => (x.map (·.1)).Nodup) fun es r f _ hS _ _ => tput_nodup _ _ hS
/-- nothing comes to less -/
theorem Runs.mn {rs : List Rl} {t : List Nat} {b e : Nat} {es es' : Tb} {m : Nat} (h : Runs rs t b e es m es') (hi : ∀ b' e', b ≤ b' → e' ≤ e → (b', e') ≠ (b, e) → Mn rs t es b' e') : Mn rs t es' b e := by
  have key : ∀ n b0 e0 c, Der rs t n b0 e0 c → b ≤ b0 → e0 ≤ e → ∃ c', tat es' (n, b0, e0) = some c' ∧ c' ≤ c := fun n b0 e0 c hD => by
    induction hD with
    | @sg n s b0 e0 hr hbe =>
      intro h1 h2
      by_cases hq : (b0, e0) = (b, e)
      · cases hq
        exact h.closed _ hr _ rfl
      · have := hi b0 e0 h1 h2 hq n _ (.sg hr hbe)
        rw [h.elsewhere _ hq]; exact this
    | @fk n x y b0 k e0 c d hr d1 d2 i1 i2 =>
      intro h1 h2
      by_cases hq : (b0, e0) = (b, e)
      · cases hq
        obtain ⟨c', g1, g2⟩ := i1 (Nat.le_refl _) (by have := d2.le; omega)
        obtain ⟨d', g3, g4⟩ := i2 (by have := d1.le; omega) (Nat.le_refl _)
        have hk := d1.le
        have hk2 := d2.le
        have hp : pairC es' x y b e (b + (k - b)) = some (c' + d') := by
          rw [show b + (k - b) = k by omega]
          unfold pairC
          rw [g1, g3]
        obtain ⟨m, h3, h4⟩ := leastTo_le es' x y b e (e + 1 - b) (k - b) _ (by omega) hp
        obtain ⟨c2, h5, h6⟩ := h.closed _ hr m h3
        exact ⟨c2, h5, by omega⟩
      · have := hi b0 e0 h1 h2 hq n _ (.fk hr d1 d2)
        rw [h.elsewhere _ hq]; exact this
  exact fun n c hD => key n b e c hD (Nat.le_refl _) (Nat.le_refl _)
/-! #### it ends -/
theorem sum_le {α : Type} {f g : α → Nat} : ∀ {l : List α}, (∀ x ∈ l, f x ≤ g x) → (l.map f).sum ≤ (l.map g).sum
  | [], _ => Nat.le_refl _
  | x :: l, h => by
    rw [List.map_cons, List.map_cons, List.sum_cons, List.sum_cons]
    have h1 := h x List.mem_cons_self
    have h2 := sum_le (l := l) fun y hy => h y (List.mem_cons_of_mem _ hy)
    omega
theorem sum_lt {α : Type} {f g : α → Nat} {z : α} : ∀ {l : List α}, (∀ x ∈ l, f x ≤ g x) → z ∈ l → f z < g z → (l.map f).sum < (l.map g).sum
  | [], _, h, _ => by cases h
  | x :: l, h, hz, hlt => by
    rw [List.map_cons, List.map_cons, List.sum_cons, List.sum_cons]
    have h1 := h x List.mem_cons_self
    have h2 := sum_le (l := l) fun y hy => h y (List.mem_cons_of_mem _ hy)
    rcases List.mem_cons.mp hz with rfl | hz
    · omega
    · have h3 := sum_lt (l := l) (fun y hy => h y (List.mem_cons_of_mem _ hy)) hz hlt
      omega
def cnt (rs : List Rl) (b e : Nat) (es : Tb) : Nat := ((namesOf rs).map fun n => if (tat es (n, b, e)).isSome then 0 else 1).sum
def tot (rs : List Rl) (b e : Nat) (es : Tb) : Nat := ((namesOf rs).map fun n => (tat es (n, b, e)).getD 0).sum
theorem cnt_le (rs : List Rl) (b e : Nat) (es : Tb) : cnt rs b e es ≤ rs.length := by
  have h : cnt rs b e es ≤ ((namesOf rs).map fun _ => 1).sum := sum_le fun n _ => by split <;> omega
  rw [List.map_const', List.sum_replicate_nat] at h
  have := namesOf_len rs
  omega
def Lss (rs : List Rl) (b e : Nat) (x y : Tb) : Prop := cnt rs b e x < cnt rs b e y ∨ (cnt rs b e x = cnt rs b e y ∧ tot rs b e x < tot rs b e y)
theorem Lss.trans {rs : List Rl} {b e : Nat} {x y z : Tb} (h : Lss rs b e x y) (h' : Lss rs b e y z) : Lss rs b e x z := by
  unfold Lss at *; omega
theorem put_lss {rs : List Rl} {b e f : Nat} {es : Tb} {n : Name} (hn : n ∈ namesOf rs) (h : better es (n, b, e) f = true) : Lss rs b e (tput es (n, b, e) f) es ∧ (tput es (n, b, e) f).length + cnt rs b e (tput es (n, b, e) f) ≤ es.length + cnt rs b e es := by
  unfold better at h
  split at h
  · rename_i hk
    have hlt : cnt rs b e (tput es (n, b, e) f) < cnt rs b e es := by
      refine sum_lt (z := n) (fun x _ => ?_) hn ?_
      · rw [tat_put]
        split
        · simp
        · exact Nat.le_refl _
      · rw [tat_put, if_pos rfl, hk]; exact Nat.zero_lt_one
    refine ⟨.inl hlt, ?_⟩
    rw [tput_len, hk]
    simp; omega
  · rename_i c hk
    have hfc := of_decide_eq_true h
    have he : cnt rs b e (tput es (n, b, e) f) = cnt rs b e es := by
      unfold cnt
      congr 1
      refine List.map_congr_left fun x _ => ?_
      rw [tat_put]
      split
      · rename_i e1
        rw [e1, hk]; rfl
      · rfl
    refine ⟨.inr ⟨he, sum_lt (z := n) (fun x _ => ?_) hn ?_⟩, ?_⟩
    · rw [tat_put]
      split
      · rename_i e1
        rw [e1, hk]
        show f ≤ c
        omega
      · exact Nat.le_refl _
    · rw [tat_put, if_pos rfl, hk]; exact hfc
    · rw [tput_len, hk, he]; simp
theorem fold_lss {rs : List Rl} {t : List Nat} {b e : Nat} : ∀ (l : List Rl) (es : Tb) (fl : Bool), (∀ r ∈ l, r ∈ rs) → (l.foldl (stp t b e) (es, fl) = (es, fl)) ∨ Lss rs b e (l.foldl (stp t b e) (es, fl)).1 es
  | [], _, _, _ => .inl rfl
  | r :: l, es, fl, hl => by
    rw [List.foldl_cons]
    rcases stp_cases t b e (es, fl) r with q | ⟨f, q1, q2, q⟩
    · rw [q]; exact fold_lss l es fl fun x hx => hl x (List.mem_cons_of_mem _ hx)
    · rw [q]
      have hn : r.nm ∈ namesOf rs := (mem_namesOf rs _).mpr ⟨r, hl r List.mem_cons_self, rfl⟩
      have h1 := (put_lss hn q2).1
      rcases fold_lss l (tput es (r.nm, b, e) f) true fun x hx => hl x (List.mem_cons_of_mem _ hx) with h | h
      · right; rw [h]; exact h1
      · exact .inr (h.trans h1)
theorem runs_ex (rs : List Rl) (t : List Nat) (b e : Nat) : ∀ (N M : Nat) (es : Tb), cnt rs b e es < N → tot rs b e es < M → ∃ m es', Runs rs t b e es m es'
  | 0, _, _, h, _ => by omega
  | N + 1, 0, _, _, h => by omega
  | N + 1, M + 1, es, h1, h2 => by
    have hp : pas t b e rs es = ((pas t b e rs es).1, (pas t b e rs es).2) := rfl
    cases hf : (pas t b e rs es).2 with
    | false => rw [hf] at hp; exact ⟨0, _, .stop hp⟩
    | true =>
      rw [hf] at hp
      rcases fold_lss (rs := rs) (t := t) (b := b) (e := e) rs es false fun _ h => h with h | h
      · have : pas t b e rs es = (es, false) := h
        rw [this] at hf; cases hf
      · have h : Lss rs b e (pas t b e rs es).1 es := h
        have : ∃ m es', Runs rs t b e (pas t b e rs es).1 m es' := by
          rcases h with h | ⟨h3, h4⟩
          · exact runs_ex rs t b e N (tot rs b e (pas t b e rs es).1 + 1) _ (by omega) (by omega)
          · exact runs_ex rs t b e (N + 1) M _ (by omega) (by omega)
        obtain ⟨m, es', hr⟩ := this
        exact ⟨m + 1, es', .go hp hr⟩
theorem Runs.len {rs : List Rl} {t : List Nat} {b e : Nat} {es es' : Tb} {m : Nat} (h : Runs rs t b e es m es') : es'.length + cnt rs b e es' ≤ es.length + cnt rs b e es :=
  h.keep (I := fun x => x.length + cnt rs b e x ≤ es.length + cnt rs b e es) (fun x r f hr hS _ hb => by
    have := (put_lss (rs := rs) ((mem_namesOf rs _).mpr ⟨r, hr, rfl⟩) hb).2
    omega) (Nat.le_refl _)
/-! #### the whole table -/
structure TabOk (rs : List Rl) (t : List Nat) (es : Tb) : Prop where
  nd : (es.map (·.1)).Nodup
  snd : Snd rs t es
  mn : ∀ b e, b ≤ e → e ≤ t.length → Mn rs t es b e
  within : ∀ n b e, (tat es (n, b, e)).isSome = true → e ≤ t.length
/-- between two stretches: the shorter ones, and those of this size that begin ahead, are there -/
structure TabI (rs : List Rl) (t : List Nat) (size beg : Nat) (es : Tb) : Prop where
  nd : (es.map (·.1)).Nodup
  snd : Snd rs t es
  mn : ∀ b e, b ≤ e → e ≤ t.length → (e - b < size ∨ e - b = size ∧ b < beg) → Mn rs t es b e
  within : ∀ n b e, (tat es (n, b, e)).isSome = true → e ≤ t.length
  len : es.length ≤ (size * 41 + beg) * 40
theorem TabI.start (rs : List Rl) (t : List Nat) : TabI rs t 0 0 [] :=
  ⟨List.nodup_nil, fun n b e c h => (by cases h), fun b e _ _ h => (by omega), fun n b e h => (by cases h), Nat.zero_le _⟩
theorem TabI.next {rs : List Rl} {t : List Nat} {size beg : Nat} {es es' : Tb} {m : Nat} (h : TabI rs t size beg es) (hl : rs.length ≤ 40) (hb : beg + size ≤ t.length) (hr : Runs rs t beg (beg + size) es m es') : TabI rs t size (beg + 1) es' := by
  refine ⟨hr.nodup h.nd, hr.snd (by omega) h.snd, fun b e h1 h2 h3 => ?_, fun n b e hk => ?_, ?_⟩
  · by_cases hq : (b, e) = (beg, beg + size)
    · cases hq
      refine hr.mn fun b' e' g1 g2 g3 => ?_
      by_cases hle : b' ≤ e'
      · refine h.mn b' e' hle (by omega) (.inl ?_)
        by_cases hs : e' - b' = size
        · exact absurd (by rw [show b' = beg by omega, show e' = beg + size by omega]) g3
        · omega
      · intro n c hD
        exact absurd hD.le hle
    · have hne : ¬ (e - b = size ∧ b = beg) := fun q => hq (by rw [show b = beg by omega, show e = beg + size by omega])
      intro n c hD
      rw [hr.elsewhere (n, b, e) hq]
      exact h.mn b e h1 h2 (by omega) n c hD
  · by_cases hq : (b, e) = (beg, beg + size)
    · cases hq; exact hb
    · rw [hr.elsewhere (n, b, e) hq] at hk
      exact h.within n b e hk
  · have h1 := hr.len
    have h2 := cnt_le rs beg (beg + size) es
    have h3 := h.len
    have : (size * 41 + (beg + 1)) * 40 = (size * 41 + beg) * 40 + 40 := by omega
    omega
theorem TabI.turn {rs : List Rl} {t : List Nat} {size : Nat} {es : Tb} (h : TabI rs t size (t.length - size + 1) es) (hs : size ≤ t.length) (ht : t.length ≤ 40) : TabI rs t (size + 1) 0 es := by
  refine ⟨h.nd, h.snd, fun b e h1 h2 h3 => h.mn b e h1 h2 (by omega), h.within, ?_⟩
  have := h.len
  omega
theorem TabI.ok {rs : List Rl} {t : List Nat} {es : Tb} (h : TabI rs t (t.length + 1) 0 es) : TabOk rs t es :=
  ⟨h.nd, h.snd, fun b e h1 h2 => h.mn b e h1 h2 (by omega), h.within⟩
/-- every name is productive -/
def AllPro (rs : List Rl) : Prop := ∀ n ∈ namesOf rs, Pro rs n
theorem TabOk.get {rs : List Rl} {t : List Nat} {es : Tb} (h : TabOk rs t es) (hp : AllPro rs) {n : Name} {b e : Nat} (hn : n ∈ namesOf rs) (hb : b ≤ e) (he : e ≤ t.length) : ∃ c, tat es (n, b, e) = some c ∧ Der rs t n b e c ∧ ∀ c', Der rs t n b e c' → c ≤ c' := by
  obtain ⟨c0, h0⟩ := (hp n hn).der t b e hb
  obtain ⟨c, h1, _⟩ := h.mn b e hb he n c0 h0
  refine ⟨c, h1, h.snd _ _ _ _ h1, fun c' hD => ?_⟩
  obtain ⟨c2, h2, h3⟩ := h.mn b e hb he n c' hD
  rw [h1] at h2; cases h2
  exact h3


/-! ### leaf_cost -/
theorem cut_nat {α : Type} {l : List α} {b e : Nat} (h1 : b ≤ e) (h2 : e ≤ l.length) : cut l (some ((b : Nat) : Int)) (some ((e : Nat) : Int)) = (l.drop b).take (e - b) := by
  unfold cut
  rw [HT.sIx_nat, HT.sIx_nat, Nat.min_eq_left h2, Nat.min_eq_left (Nat.le_trans h1 h2)]
def phi_leaf_cost (_ : ErA) : Phi := fun ds Q _ => ∃ (s : Nat) (t : List Nat) (b e : Nat), ds = [tx [s], tx t, .int ((b : Nat) : Int), .int ((e : Nat) : Int)] ∧ b ≤ e ∧ e ≤ t.length ∧ t.length ≤ 100000 ∧ Q (.sh (.int ((lc s t b e : Nat) : Int)))
theorem len_leaf_cost {C : ErA} : ∀ ds Q X, phi_leaf_cost C ds Q X → ds.length = 4 := fun ds Q X h => by
  obtain ⟨_, _, _, _, rfl, _⟩ := h; rfl
theorem c_leaf_cost {C : ErA} {s : Nat} {t : List Nat} {b e : Nat} {Q : R → Prop} {X : Value → Prop} (h1 : b ≤ e) (h2 : e ≤ t.length) (h3 : t.length ≤ 100000) (q : Q (.sh (.int ((lc s t b e : Nat) : Int)))) : phi_leaf_cost C [tx [s], tx t, .int ((b : Nat) : Int), .int ((e : Nat) : Int)] Q X := ⟨_, _, _, _, rfl, h1, h2, h3, q⟩
abbrev N_leaf_cost : List Str := ["sign", "text", "begin", "end"]
def t_leaf_cost (K : PySem.W.Frag) (C : ErA) : TS :=
  tSeq (tIfS (tTest (tOp (uEq K) (tVar 2) (tVar 3))) (tRet (tC (.int 1))) tNext) (tRet (tOp (rI0 fun i j => .int (i - j)) (tOp (rI0 fun i j => .int (i - j)) (tVar 3) (tVar 2)) (tCB cInt (tCons (tOp (uIn K) (tVar 0) (tSl (uSl K) (tVar 1) (tPart (tVar 2)) (tPart (tVar 3)))) tNil))))
theorem w_leaf_cost {K : PySem.W.Frag} {C : ErA} : ∀ ds Q X, phi_leaf_cost C ds Q X → ∀ E, wS K ⟨E, X⟩ (t_leaf_cost K C) (G0 N_leaf_cost ds) (PoQ Q) := by
  intro ds Q X h E
  obtain ⟨s, t, b, e, rfl, h1, h2, h3, q⟩ := h
  show wS K _ (t_leaf_cost K C) [.sh (tx [s]), .sh (tx t), .sh (.int ((b : Nat) : Int)), .sh (.int ((e : Nat) : Int))] _
  unfold t_leaf_cost
  walk_at "wgo"
  · rename_i h
    refine q_sh q ?_
    unfold lc
    rw [if_pos (by omega)]; rfl
  · rename_i h
    refine q_sh q ?_
    have hl : lc s t b e = e - b - (if s ∈ (t.drop b).take (e - b) then 1 else 0) := if_neg (by omega)
    rw [hl, cut_nat h1 h2]
    congr 1
    by_cases hs : s ∈ (t.drop b).take (e - b)
    · rw [decide_eq_true hs, if_pos hs]
      simp; omega
    · rw [decide_eq_false hs, if_neg hs]
      simp; omega
/-! ### rule_cost -/
theorem b_nN {P Q : Prop} (h : P) : (isN .non = true → P) ∧ (isN .non = false → Q) := ⟨fun _ => h, fun e => Bool.noConfusion e⟩
theorem b_nI {c : Int} {P Q : Prop} (h : Q) : (isN (.int c) = true → P) ∧ (isN (.int c) = false → Q) := ⟨fun e => Bool.noConfusion e, fun _ => h⟩
theorem b_nU {c : List D} {P Q : Prop} (h : Q) : (isN (.tup c) = true → P) ∧ (isN (.tup c) = false → Q) := ⟨fun e => Bool.noConfusion e, fun _ => h⟩
theorem b_nS {c : Str} {P Q : Prop} (h : Q) : (isN (.str c) = true → P) ∧ (isN (.str c) = false → Q) := ⟨fun e => Bool.noConfusion e, fun _ => h⟩
local macro_rules | `(tactic| walk_at "w") => `(tactic| with_reducible refine' b_nN ?_)
local macro_rules | `(tactic| walk_at "w") => `(tactic| with_reducible refine' b_nI ?_)
local macro_rules | `(tactic| walk_at "w") => `(tactic| with_reducible refine' b_nU ?_)
local macro_rules | `(tactic| walk_at "w") => `(tactic| with_reducible refine' b_nS ?_)
def oD : Option Nat → D
  | none => .non
  | some c => .int ((c : Nat) : Int)
theorem oD_v (o : Option Nat) : vD ((o.map fun c => V.int ((c : Nat) : Int)).getD .non) = some (oD o) := by
  cases o <;> rfl
theorem look_enc (es : Tb) (n : Name) (b e : Nat) : look (.t (enc es)) (.tup [tx n, .int ((b : Nat) : Int), .int ((e : Nat) : Int)]) = some ((tat es (n, b, e)).map fun c => V.int ((c : Nat) : Int)) := by
  show some (valV (enc es) (kK (n, b, e))) = _
  rw [valV_enc]
def phi_rule_cost (_ : ErA) : Phi := fun ds Q _ => ∃ (es : Tb) (r : Rl) (t : List Nat) (b e : Nat), ds = [.dT (enc es), ruleD r, tx t, .int ((b : Nat) : Int), .int ((e : Nat) : Int)] ∧ b ≤ e ∧ e ≤ t.length ∧ t.length ≤ 100000 ∧ Q (.sh (oD (rcost es t b e r)))
theorem len_rule_cost {C : ErA} : ∀ ds Q X, phi_rule_cost C ds Q X → ds.length = 5 := fun ds Q X h => by
  obtain ⟨_, _, _, _, _, rfl, _⟩ := h; rfl
theorem c_rule_cost {C : ErA} {es : Tb} {r : Rl} {t : List Nat} {b e : Nat} {Q : R → Prop} {X : Value → Prop} (h1 : b ≤ e) (h2 : e ≤ t.length) (h3 : t.length ≤ 100000) (q : Q (.sh (oD (rcost es t b e r)))) : phi_rule_cost C [.dT (enc es), ruleD r, tx t, .int ((b : Nat) : Int), .int ((e : Nat) : Int)] Q X := ⟨_, _, _, _, _, rfl, h1, h2, h3, q⟩
abbrev N_rule_cost : List Str := ["table", "rule", "text", "begin", "end", "least", "place", "one", "other"]
def t_rule_cost (K : PySem.W.Frag) (C : ErA) : TS :=
  tSeq (tIfS (tTest (tOp (uEq K) (tCB (cLen K) (tCons (tVar 1) tNil)) (tC (.int 2)))) (tRet (tCall (mkSp K (phi_leaf_cost C)) [] E0 (tCons (tOp (rIx K) (tVar 1) (tC (.int 1))) (tCons (tVar 2) (tCons (tVar 3) (tCons (tVar 4) tNil)))))) tNext) (tSeq (tAsg (tC .non) (gName 5)) (tSeq (tFor (iRng2 (tCons (tVar 3) (tCons (tOp (uAdd K) (tVar 4) (tC (.int 1))) tNil))) (gName 6) (tSeq (tAsg (tDGet1 (tVar 0) (tTup (tCons (tOp (rIx K) (tVar 1) (tC (.int 1))) (tCons (tVar 3) (tCons (tVar 6) tNil))))) (gName 7)) (tSeq (tAsg (tDGet1 (tVar 0) (tTup (tCons (tOp (rIx K) (tVar 1) (tC (.int 2))) (tCons (tVar 6) (tCons (tVar 4) tNil))))) (gName 8)) (tIfS (tAnd (tTest (tOp rNotN (tVar 7) (tC .non))) (tAnd (tTest (tOp rNotN (tVar 8) (tC .non))) (tOr (tTest (tOp rIsN (tVar 5) (tC .non))) (tTest (tOp (rI0 fun i j => .bl (decide (i < j))) (tOp (uAdd K) (tVar 7) (tVar 8)) (tVar 5)))))) (tAsg (tOp (uAdd K) (tVar 7) (tVar 8)) (gName 5)) tNext)))) (tRet (tVar 5))))
theorem w_rule_cost {K : PySem.W.Frag} {C : ErA} : ∀ ds Q X, phi_rule_cost C ds Q X → ∀ E, wS K ⟨E, X⟩ (t_rule_cost K C) (G0 N_rule_cost ds) (PoQ Q) := by
  intro ds Q X h E
  obtain ⟨es, r, t, b, e, rfl, h1, h2, h3, q⟩ := h
  unfold t_rule_cost
  cases r with
  | sg n s =>
    show wS K _ _ [.sh (.dT (enc es)), .sh (.tup [tx n, tx [s]]), .sh (tx t), .sh (.int ((b : Nat) : Int)), .sh (.int ((e : Nat) : Int)), .no, .no, .no, .no] _
    walk_at "wgo"
    exact c_leaf_cost h1 h2 h3 ⟨.inl rfl, q⟩
  | fk n x y =>
    show wS K _ _ [.sh (.dT (enc es)), .sh (.tup [tx n, tx x, tx y]), .sh (tx t), .sh (.int ((b : Nat) : Int)), .sh (.int ((e : Nat) : Int)), .no, .no, .no, .no] _
    walk_at "wgo"
    refine wS_forR2 ?_
    walk_at "wgo"
    refine ⟨_, _, rfl, by omega, fun i G => ∃ s1 s2 s3, G = [.sh (.dT (enc es)), .sh (.tup [tx n, tx x, tx y]), .sh (tx t), .sh (.int ((b : Nat) : Int)), .sh (.int ((e : Nat) : Int)), .sh (oD (leastTo es x y b e i)), s1, s2, s3], ⟨_, _, _, rfl⟩, fun i G hi h => ?_, fun G h => ?_⟩
    · obtain ⟨s1, s2, s3, rfl⟩ := h
      refine wG_name ⟨rfl, ?_⟩
      walk_at "wgo"
      refine wE_dget1 ?_
      walk_at "wgo"
      refine ⟨_, _, _, _, rfl, rfl, look_enc es x b (b + i), oD_v _, ?_⟩
      walk_at "wgo"
      refine wE_dget1 ?_
      walk_at "wgo"
      refine ⟨_, _, _, _, rfl, rfl, look_enc es y (b + i) e, oD_v _, ?_⟩
      cases hx : tat es (x, b, b + i) with
      | none =>
        have hs : leastTo es x y b e (i + 1) = leastTo es x y b e i := by
          rw [leastTo_succ]; unfold pairC; rw [hx]; rfl
        simp only [oD]
        walk_at "wgo"
        show ∃ _ _ _, _ = _
        rw [hs]
        exact ⟨_, _, _, rfl⟩
      | some c =>
        cases hy : tat es (y, b + i, e) with
        | none =>
          have hs : leastTo es x y b e (i + 1) = leastTo es x y b e i := by
            rw [leastTo_succ]; unfold pairC; rw [hx, hy]; rfl
          simp only [oD]
          walk_at "wgo"
          show ∃ _ _ _, _ = _
          rw [hs]
          exact ⟨_, _, _, rfl⟩
        | some d =>
          have hs : leastTo es x y b e (i + 1) = minO (leastTo es x y b e i) (some (c + d)) := by
            rw [leastTo_succ]; unfold pairC; rw [hx, hy]
          cases hl : leastTo es x y b e i with
          | none =>
            rw [hl] at hs
            simp only [oD]
            walk_at "wgo"
            show ∃ _ _ _, _ = _
            rw [hs]
            exact ⟨_, _, _, rfl⟩
          | some l =>
            rw [hl] at hs
            simp only [oD]
            walk_at "wgo"
            · rename_i h
              have h4 : minO (some l) (some (c + d)) = some (c + d) := if_pos (by omega)
              rw [h4] at hs
              show ∃ _ _ _, _ = _
              rw [hs]
              exact ⟨_, _, _, rfl⟩
            · rename_i h
              have h4 : minO (some l) (some (c + d)) = some l := if_neg (by omega)
              rw [h4] at hs
              show ∃ _ _ _, _ = _
              rw [hs]
              exact ⟨_, _, _, rfl⟩
    · obtain ⟨s1, s2, s3, rfl⟩ := h
      walk_at "wgo"
      refine q_sh q ?_
      show oD (leastTo es x y b e _) = oD (leastTo es x y b e (e + 1 - b))
      congr 2
      omega


/-! ### fill -/
theorem u_ixR {K : PySem.W.Frag} {Z : Ec} {G : Sl} {Q : R → Sl → Prop} {r : Rl} (q : Q (.sh (tx r.nm)) G) : wR K Z (rIx K) (.sh (ruleD r)) (.sh (.int 0)) G Q := by
  obtain ⟨ds, e1, e2⟩ := ruleD_0 r
  rw [e1]
  exact u_ixT e2 q
theorem flat_oD (o : Option Nat) : (oD o).flat = true := by cases o <;> rfl
def phi_fill (_ : ErA) : PhiM := fun m0 ds M => ∃ (rs : List Rl) (t : List Nat) (b e m : Nat) (es es' : Tb), m0 = .dT (enc es) ∧ ds = [.lst (rsD rs), tx t, .int ((b : Nat) : Int), .int ((e : Nat) : Int)] ∧ b ≤ e ∧ e ≤ t.length ∧ t.length ≤ 100000 ∧ rs.length ≤ 100000 ∧ es.length + rs.length ≤ 1000000 ∧ Runs rs t b e es m es' ∧ M (.dT (enc es'))
theorem len_fill {C : ErA} : ∀ m ds M, phi_fill C m ds M → ds.length + 1 = 5 := fun m ds M h => by
  obtain ⟨_, _, _, _, _, _, _, _, rfl, _⟩ := h; rfl
theorem c_fill {C : ErA} {rs : List Rl} {t : List Nat} {b e m : Nat} {B E : Int} {es es' : Tb} {M : Mo → Prop} (hB : B = ((b : Nat) : Int)) (hE : E = ((e : Nat) : Int)) (h1 : b ≤ e) (h2 : e ≤ t.length) (h3 : t.length ≤ 100000) (h4 : rs.length ≤ 100000) (h5 : es.length + rs.length ≤ 1000000) (hr : Runs rs t b e es m es') (q : M (.dT (enc es'))) : phi_fill C (.dT (enc es)) [.lst (rsD rs), tx t, .int B, .int E] M := by
  subst hB; subst hE
  exact ⟨_, _, _, _, _, _, _, rfl, rfl, h1, h2, h3, h4, h5, hr, q⟩
abbrev N_fill : List Str := ["table", "rules", "text", "begin", "end", "changed", "rule", "found", "key"]
def t_fill (K : PySem.W.Frag) (C : ErA) : TS :=
  tSeq (tAsg (tC (.bl true)) (gName 5)) (tWhile (tTru K (tVar 5)) (tSeq (tAsg (tC (.bl false)) (gName 5)) (tFor (iList K (tVar 1)) (gName 6) (tSeq (tAsg (tCall (mkSp K (phi_rule_cost C)) [] E0 (tCons (tVar 0) (tCons (tVar 6) (tCons (tVar 2) (tCons (tVar 3) (tCons (tVar 4) tNil)))))) (gName 7)) (tSeq (tAsg (tTup (tCons (tOp (rIx K) (tVar 6) (tC (.int 0))) (tCons (tVar 3) (tCons (tVar 4) tNil)))) (gName 8)) (tIfS (tAnd (tTest (tOp rNotN (tVar 7) (tC .non))) (tOr (tB (tDNotIn (tVar 8) (tVar 0))) (tTest (tOp (rI0 fun i j => .bl (decide (i < j))) (tVar 7) (tDGet (tVar 0) (tVar 8)))))) (tSeq (sDPut (tVar 0) (tVar 8) (tVar 7)) (tAsg (tC (.bl true)) (gName 5))) tNext))))))
theorem w_fill {K : PySem.W.Frag} {C : ErA} : ∀ a m ds M, phi_fill C m ds M → ∀ E, wS K ⟨E, fun _ => False⟩ (t_fill K C) (G0M N_fill a m ds) (PoM false a M) := by
  intro a m0 ds M h E
  obtain ⟨rs, t, b, e, m, es, esF, rfl, rfl, h1, h2, h3, h4, h5, hr, q⟩ := h
  have hlen : es.length + cnt rs b e es ≤ 1000000 := by have := cnt_le rs b e es; omega
  show wS K _ (t_fill K C) [.ow a (.dT (enc es)), .sh (.lst (rsD rs)), .sh (tx t), .sh (.int ((b : Nat) : Int)), .sh (.int ((e : Nat) : Int)), .no, .no, .no, .no] _
  unfold t_fill
  walk_at "wgo"
  refine wS_while (fun k G => ∃ fl es1 s1 s2 s3, G = [.ow a (.dT (enc es1)), .sh (.lst (rsD rs)), .sh (tx t), .sh (.int ((b : Nat) : Int)), .sh (.int ((e : Nat) : Int)), .sh (.bl fl), s1, s2, s3] ∧ es1.length + cnt rs b e es1 ≤ 1000000 ∧ (fl = true → ∃ k', k = k' + 1 ∧ Runs rs t b e es1 k' esF) ∧ (fl = false → k = 0 ∧ es1 = esF)) (m + 1)
    ⟨true, es, _, _, _, rfl, hlen, fun _ => ⟨m, rfl, hr⟩, fun e => by cases e⟩ fun k G h => ?_
  obtain ⟨fl, es1, s1, s2, s3, rfl, hl1, ht, hf⟩ := h
  walk_at "wgo"
  · rename_i hfl
    obtain ⟨k', rfl, hr1⟩ := ht hfl
    refine wS_forL ?_
    walk_at "wgo"
    refine ⟨_, rfl, fun i G => ∃ s1 s2 s3, G = [.ow a (.dT (enc ((rs.take i).foldl (stp t b e) (es1, false)).1)), .sh (.lst (rsD rs)), .sh (tx t), .sh (.int ((b : Nat) : Int)), .sh (.int ((e : Nat) : Int)), .sh (.bl ((rs.take i).foldl (stp t b e) (es1, false)).2), s1, s2, s3], ⟨_, _, _, rfl⟩, fun i d G hd h => ?_, fun G h => ?_⟩
    · obtain ⟨s1, s2, s3, rfl⟩ := h
      obtain ⟨r, hr', rfl⟩ := rule_get hd
      have hrm : r ∈ rs := List.mem_of_getElem? hr'
      have hts : (rs.take (i + 1)).foldl (stp t b e) (es1, false) = stp t b e ((rs.take i).foldl (stp t b e) (es1, false)) r := by
        rw [take_snoc hr', List.foldl_append]; rfl
      have hlp : ((rs.take i).foldl (stp t b e) (es1, false)).1.length + cnt rs b e ((rs.take i).foldl (stp t b e) (es1, false)).1 ≤ 1000000 :=
        fold_keep (I := fun x => x.length + cnt rs b e x ≤ 1000000) (rs := rs) (fun x r f hr hS _ hb => by
          have := (put_lss (rs := rs) ((mem_namesOf rs _).mpr ⟨r, hr, rfl⟩) hb).2
          omega) (rs.take i) (es1, false) (fun _ h => List.mem_of_mem_take h) hl1
      generalize (rs.take i).foldl (stp t b e) (es1, false) = p at hts hlp
      have hsd : stp t b e p r = match rcost p.1 t b e r with
        | none => p
        | some f => if better p.1 (r.nm, b, e) f = true then (tput p.1 (r.nm, b, e) f, true) else p := rfl
      refine wG_name ⟨rfl, ?_⟩
      walk_at "wgo"
      refine c_rule_cost h1 h2 h3 ⟨.inr (flat_oD _), ?_⟩
      cases hc : rcost p.1 t b e r with
      | none =>
        rw [hc] at hsd
        simp only [oD]
        walk_at "wgo"
        refine u_ixR ?_
        walk_at "wgo"
        show ∃ _ _ _, _ = _
        rw [hts, hsd]
        exact ⟨_, _, _, rfl⟩
      | some f =>
        rw [hc] at hsd
        simp only [oD]
        walk_at "wgo"
        refine u_ixR ?_
        walk_at "wgo"
        refine wE_dnin ?_
        walk_at "wgo"
        refine ⟨_, _, _, rfl, rfl, look_enc _ _ _ _, ?_⟩
        cases hk : tat p.1 (r.nm, b, e) with
        | none =>
          have hb : better p.1 (r.nm, b, e) f = true := by unfold better; rw [hk]
          have hsd : stp t b e p r = (tput p.1 (r.nm, b, e) f, true) := hsd.trans (if_pos hb)
          refine ⟨_, rfl, b_tt ?_⟩
          walk_at "wgo"
          refine wS_putT (a := a) ?_
          walk_at "wgo"
          refine ⟨_, kK (r.nm, b, e), _, rfl, rfl, rfl, by show (List.map _ p.1).length ≤ _; rw [List.length_map]; omega, ?_⟩
          rw [putK_enc]
          walk_at "wnx"
          show ∃ _ _ _, _ = _
          rw [hts, hsd]
          exact ⟨_, _, _, rfl⟩
        | some c =>
          refine ⟨_, rfl, b_ff ?_⟩
          walk_at "wgo"
          refine wE_dget ?_
          walk_at "wgo"
          refine ⟨_, _, _, _, rfl, rfl, (look_enc _ _ _ _).trans (by rw [hk]; rfl), rfl, ?_⟩
          walk_at "wgo"
          · rename_i hlt
            have hb : better p.1 (r.nm, b, e) f = true := by unfold better; rw [hk]; exact decide_eq_true (by omega)
            have hsd : stp t b e p r = (tput p.1 (r.nm, b, e) f, true) := hsd.trans (if_pos hb)
            refine wS_putT (a := a) ?_
            walk_at "wgo"
            refine ⟨_, kK (r.nm, b, e), _, rfl, rfl, rfl, by show (List.map _ p.1).length ≤ _; rw [List.length_map]; omega, ?_⟩
            rw [putK_enc]
            walk_at "wnx"
            show ∃ _ _ _, _ = _
            rw [hts, hsd]
            exact ⟨_, _, _, rfl⟩
          · rename_i hlt
            have hb : ¬ better p.1 (r.nm, b, e) f = true := by unfold better; rw [hk]; exact fun h => by have := of_decide_eq_true h; omega
            have hsd : stp t b e p r = p := hsd.trans (if_neg hb)
            show ∃ _ _ _, _ = _
            rw [hts, hsd]
            exact ⟨_, _, _, rfl⟩
    · obtain ⟨s1, s2, s3, rfl⟩ := h
      rw [List.length_map, List.take_length]
      have hl2 : (rs.foldl (stp t b e) (es1, false)).1.length + cnt rs b e (rs.foldl (stp t b e) (es1, false)).1 ≤ 1000000 :=
        fold_keep (I := fun x => x.length + cnt rs b e x ≤ 1000000) (rs := rs) (fun x r f hr hS _ hb => by
          have := (put_lss (rs := rs) ((mem_namesOf rs _).mpr ⟨r, hr, rfl⟩) hb).2
          omega) rs (es1, false) (fun _ h => h) hl1
      cases hr1 with
      | stop hp =>
        have hp : rs.foldl (stp t b e) (es1, false) = (esF, false) := hp
        rw [hp] at hl2 ⊢
        exact ⟨0, by omega, false, esF, _, _, _, rfl, hl2, fun e => (by cases e), fun _ => ⟨rfl, rfl⟩⟩
      | @go _ es2 _ m2 hp hr2 =>
        have hp : rs.foldl (stp t b e) (es1, false) = (es2, true) := hp
        rw [hp] at hl2 ⊢
        exact ⟨m2 + 1, by omega, true, es2, _, _, _, rfl, hl2, fun _ => ⟨m2, rfl, hr2⟩, fun e => (by cases e)⟩
  · rename_i hfl
    obtain ⟨_, rfl⟩ := hf hfl
    exact ⟨_, rfl, q⟩


/-! ### table_of -/
theorem wS_dropC {K : PySem.W.Frag} {Z : Ec} {G : Sl} {P : Po} {sp : Sp} {dvs : List V} {E' : XK} {ta : TA} (h : wE K Z (tCall sp dvs E' ta) G fun r G1 => P.nx G1) : wS K Z (tDrop (tCall sp dvs E' ta)) G P := wS_drop h
local macro_rules | `(tactic| walk_at "w") => `(tactic| with_reducible refine' PL.wS_dropC ?_)
local macro_rules | `(tactic| walk_at "w") => `(tactic| with_reducible refine' PL.wE_callM ?_)
def phi_table_of (_ : ErA) : Phi := fun ds Q _ => ∃ (rs : List Rl) (t : List Nat), ds = [.lst (rsD rs), tx t] ∧ rs.length ≤ 40 ∧ t.length ≤ 40 ∧ ∀ a es, TabOk rs t es → Q (.ow a (.dT (enc es)))
theorem len_table_of {C : ErA} : ∀ ds Q X, phi_table_of C ds Q X → ds.length = 2 := fun ds Q X h => by
  obtain ⟨_, _, rfl, _⟩ := h; rfl
theorem c_table_of {C : ErA} {rs : List Rl} {t : List Nat} {Q : R → Prop} {X : Value → Prop} (h1 : rs.length ≤ 40) (h2 : t.length ≤ 40) (q : ∀ a es, TabOk rs t es → Q (.ow a (.dT (enc es)))) : phi_table_of C [.lst (rsD rs), tx t] Q X := ⟨_, _, rfl, h1, h2, q⟩
abbrev N_table_of : List Str := ["rules", "text", "table", "size", "begin"]
def t_table_of (K : PySem.W.Frag) (C : ErA) : TS :=
  tSeq (tAsg tDNewT (gName 2)) (tSeq (tFor (iRng1 (tCons (tOp (uAdd K) (tCB (cLen K) (tCons (tVar 1) tNil)) (tC (.int 1))) tNil)) (gName 3) (tFor (iRng1 (tCons (tOp (uAdd K) (tOp (rI0 fun i j => .int (i - j)) (tCB (cLen K) (tCons (tVar 1) tNil)) (tVar 3)) (tC (.int 1))) tNil)) (gName 4) (tDrop (tCall (mkSpM K false (phi_fill C)) [] E0 (tCons (tVar 2) (tCons (tVar 0) (tCons (tVar 1) (tCons (tVar 4) (tCons (tOp (uAdd K) (tVar 4) (tVar 3)) tNil))))))))) (tRet (tVar 2)))
theorem w_table_of {K : PySem.W.Frag} {C : ErA} : ∀ ds Q X, phi_table_of C ds Q X → ∀ E, wS K ⟨E, X⟩ (t_table_of K C) (G0 N_table_of ds) (PoQ Q) := by
  intro ds Q X h E
  obtain ⟨rs, t, rfl, h1, h2, q⟩ := h
  show wS K _ (t_table_of K C) [.sh (.lst (rsD rs)), .sh (tx t), .no, .no, .no] _
  unfold t_table_of
  walk_at "wgo"
  refine wE_dnewT fun a => ?_
  walk_at "wgo"
  refine wS_forR1 ?_
  walk_at "wgo"
  refine ⟨_, rfl, by omega, by omega, fun i G => ∃ es s1 s2, G = [.sh (.lst (rsD rs)), .sh (tx t), .ow a (.dT (enc es)), s1, s2] ∧ TabI rs t i 0 es, ⟨[], _, _, rfl, .start rs t⟩, fun i G hi h => ?_, fun G h => ?_⟩
  · obtain ⟨es, s1, s2, rfl, hT⟩ := h
    refine wG_name ⟨rfl, ?_⟩
    refine wS_forR1 ?_
    walk_at "wgo"
    refine ⟨_, rfl, by omega, by omega, fun j G => ∃ es s2, G = [.sh (.lst (rsD rs)), .sh (tx t), .ow a (.dT (enc es)), .sh (.int ((i : Nat) : Int)), s2] ∧ TabI rs t i j es, ⟨es, _, rfl, hT⟩, fun j G hj h => ?_, fun G h => ?_⟩
    · obtain ⟨es, s2, rfl, hT⟩ := h
      refine wG_name ⟨rfl, ?_⟩
      walk_at "wgo"
      obtain ⟨m, es', hr⟩ := runs_ex rs t j (j + i) _ _ es (Nat.lt_succ_self _) (Nat.lt_succ_self _)
      have hlen := hT.len
      refine ⟨2, a, _, _, _, rfl, rfl, rfl, rfl, c_fill rfl (by omega) (by omega) (by omega) (by omega) (by omega) (by omega) hr ⟨.inl rfl, ?_⟩⟩
      exact ⟨es', _, rfl, hT.next h1 (by omega) hr⟩
    · obtain ⟨es, s2, rfl, hT⟩ := h
      have e : ((t.length : Int) - (i : Int) + 1).toNat = t.length - i + 1 := by omega
      rw [e] at hT
      exact ⟨es, _, _, rfl, hT.turn (by omega) h2⟩
  · obtain ⟨es, s1, s2, rfl, hT⟩ := h
    have e : ((t.length : Int) + 1).toNat = t.length + 1 := by omega
    rw [e] at hT
    walk_at "wgo"
    exact q a es hT.ok

/-! ### what is refused -/
def DueR (C : ErA) (l : List D) (X : Value → Prop) (P : List Rl → Prop) : Prop := (BadR l → X (.ref C.rule)) ∧
  ∀ rs, l = rsD rs → GoodR rs → (Missing rs → X (.ref C.name)) ∧ (¬ Missing rs → Unpro rs → X (.ref C.endless)) ∧ (¬ Missing rs → ¬ Unpro rs → P rs)
theorem DueR.mono {C : ErA} {l : List D} {X : Value → Prop} {P P' : List Rl → Prop} (h : DueR C l X P) (k : ∀ rs, l = rsD rs → GoodR rs → ¬ Missing rs → ¬ Unpro rs → P rs → P' rs) : DueR C l X P' :=
  ⟨h.1, fun rs e g => ⟨(h.2 rs e g).1, (h.2 rs e g).2.1, fun m u => k rs e g m u ((h.2 rs e g).2.2 m u)⟩⟩
theorem c_need_rules {C : ErA} {l : List D} {Q : R → Prop} {X : Value → Prop} (h1 : ∀ d ∈ l, RuleP d) (h2 : l.length ≤ 100000) (q : DueR C l X fun _ => ∀ a, Q (.ow a (.lst l))) : phi_need_rules C [.lst l] Q X := ⟨l, rfl, h1, h2, q⟩
theorem unpro_all {rs : List Rl} (h : ¬ Unpro rs) : AllPro rs := fun n hn => Classical.byContradiction fun hp => h ⟨n, hn, hp⟩
theorem namesOf_nodup (rs : List Rl) : (namesOf rs).Nodup := by
  have : ∀ (l : List Rl) (acc : List Name), acc.Nodup → (l.foldl (fun acc r => if r.nm ∈ acc then acc else acc ++ [r.nm]) acc).Nodup := by
    intro l
    induction l with
    | nil => intro acc h; exact h
    | cons r l ih =>
      intro acc h
      rw [List.foldl_cons]
      refine ih _ ?_
      split
      · exact h
      · rename_i hn
        rw [List.nodup_append]
        refine ⟨h, by simp, fun x hx y hy e => ?_⟩
        cases List.mem_singleton.mp hy
        exact hn (e ▸ hx)
  exact this rs [] List.nodup_nil
/-! ### shortest -/
def encS (ns : List Name) (f : Name → Nat) : List (Key × V) := ns.map fun n => ((.inr (mk n) : Key), V.int ((f n : Nat) : Int))
theorem keyN_inj {m n : Name} : (Sum.inr (mk m) : Key) = Sum.inr (mk n) ↔ m = n := by
  rw [Sum.inr.injEq]; exact mk_inj
theorem valV_encS (f : Name → Nat) (n : Name) : ∀ ns : List Name, valV (encS ns f) (.inr (mk n)) = if n ∈ ns then some (V.int ((f n : Nat) : Int)) else none
  | [] => rfl
  | m :: ns => by
    show valV ((.inr (mk m), V.int _) :: encS ns f) _ = _
    by_cases h : m = n
    · subst h
      rw [valV_pos rfl, if_pos List.mem_cons_self]
    · rw [valV_neg (fun e => h (keyN_inj.mp e)), valV_encS f n ns]
      have : n ∈ m :: ns ↔ n ∈ ns := by
        rw [List.mem_cons]
        exact or_iff_right (fun e => h e.symm)
      by_cases h2 : n ∈ ns
      · rw [if_pos h2, if_pos (this.mpr h2)]
      · rw [if_neg h2, if_neg (fun e => h2 (this.mp e))]
theorem putK_encS {ns : List Name} {n : Name} (f : Name → Nat) (h : n ∉ ns) : putK (encS ns f) (.inr (mk n)) (V.int ((f n : Nat) : Int)) = encS (ns ++ [n]) f := by
  rw [putK_new _ (by rw [valV_encS, if_neg h])]
  unfold encS
  rw [List.map_append]; rfl
def Least0 (rs : List Rl) (f : Name → Nat) : Prop := ∀ n ∈ namesOf rs, Der rs [] n 0 0 (f n) ∧ ∀ c, Der rs [] n 0 0 c → f n ≤ c
def phi_shortest (C : ErA) : Phi := fun ds Q X => ∃ l, ds = [.lst l] ∧ (∀ d ∈ l, RuleP d) ∧ l.length ≤ 100000 ∧ DueR C l X fun rs => ∀ a f, Least0 rs f → Q (.ow a (.dK (encS (namesOf rs) f)))
theorem len_shortest {C : ErA} : ∀ ds Q X, phi_shortest C ds Q X → ds.length = 1 := fun ds Q X h => by
  obtain ⟨_, rfl, _⟩ := h; rfl
theorem c_shortest {C : ErA} {l : List D} {Q : R → Prop} {X : Value → Prop} (h1 : ∀ d ∈ l, RuleP d) (h2 : l.length ≤ 100000) (q : DueR C l X fun rs => ∀ a f, Least0 rs f → Q (.ow a (.dK (encS (namesOf rs) f)))) : phi_shortest C [.lst l] Q X := ⟨l, rfl, h1, h2, q⟩
abbrev N_shortest : List Str := ["rules", "table", "found", "name"]
def t_shortest (K : PySem.W.Frag) (C : ErA) (E : XK) : TS :=
  tSeq (tAsg (tCall (mkSp K (phi_table_of C)) [] E0 (tCons (tCall (mkSp K (phi_need_rules C)) [] E (tCons (tVar 0) tNil)) (tCons (tC (.str (mk []))) tNil))) (gName 1)) (tSeq (tAsg tDNewK (gName 2)) (tSeq (tFor (iList K (tCall (mkSp K (phi_names_of C)) [] E0 (tCons (tVar 0) tNil))) (gName 3) (sDPut (tVar 2) (tVar 3) (tDGet (tVar 1) (tTup (tCons (tVar 3) (tCons (tC (.int 0)) (tCons (tC (.int 0)) tNil))))))) (tRet (tVar 2))))
theorem w_shortest {K : PySem.W.Frag} {C : ErA} : ∀ ds Q X, phi_shortest C ds Q X → ∀ E, wS K ⟨E, X⟩ (t_shortest K C E) (G0 N_shortest ds) (PoQ Q) := by
  intro ds Q X h E
  obtain ⟨l, rfl, hp, hl, hd⟩ := h
  show wS K _ (t_shortest K C E) [.sh (.lst l), .no, .no, .no] _
  unfold t_shortest
  walk_at "wgo"
  refine c_need_rules hp hl (hd.mono fun rs e hg hm hu q a0 => ⟨.inl rfl, ?_⟩)
  subst e
  have hrl := hg.le
  walk_at "wgo"
  refine c_table_of hrl (Nat.zero_le _) fun a es hT => ⟨.inl rfl, ?_⟩
  walk_at "wgo"
  refine wE_dnewK fun a1 => ?_
  walk_at "wgo"
  refine wS_forL ?_
  walk_at "wgo"
  refine c_names_of (by omega) fun a2 => ⟨.inl rfl, ?_⟩
  refine ⟨_, rfl, fun k G => ∃ s, G = [.sh (.lst (rsD rs)), .ow a (.dT (enc es)), .ow a1 (.dK (encS ((namesOf rs).take k) fun n => (tat es (n, 0, 0)).getD 0)), s], ⟨_, rfl⟩, fun k d G hd h => ?_, fun G h => ?_⟩
  · obtain ⟨s, rfl⟩ := h
    rw [List.getElem?_map] at hd
    obtain ⟨n, hn, rfl⟩ := Option.map_eq_some_iff.mp hd
    have hnm := List.mem_of_getElem? hn
    obtain ⟨c, hc, _⟩ := hT.get (unpro_all hu) hnm (Nat.le_refl 0) (Nat.zero_le _)
    have hni : n ∉ (namesOf rs).take k := fun h => by
      obtain ⟨i, hi, e⟩ := List.mem_iff_getElem.mp h
      rw [List.length_take] at hi
      rw [List.getElem_take] at e
      obtain ⟨hk, e2⟩ := List.getElem?_eq_some_iff.mp hn
      have := (List.getElem_inj (namesOf_nodup rs)).mp (e.trans e2.symm)
      omega
    have hnl := namesOf_len rs
    refine wG_name ⟨rfl, ?_⟩
    refine wS_putK (a := a1) ?_
    walk_at "wgo"
    refine wE_dget ?_
    walk_at "wgo"
    refine ⟨_, _, _, _, rfl, rfl, (look_enc es n 0 0).trans (by rw [hc]; rfl), rfl, ?_⟩
    walk_at "wgo"
    refine ⟨_, .inr (mk n), _, rfl, rfl, rfl, ?_, ?_⟩
    · show (List.map _ _).length ≤ _
      rw [List.length_map, List.length_take]; omega
    · have e := putK_encS (fun n => (tat es (n, 0, 0)).getD 0) hni
      simp only [hc, Option.getD_some] at e
      rw [e, ← take_snoc hn]
      exact ⟨_, rfl⟩
  · obtain ⟨s, rfl⟩ := h
    rw [List.length_map, List.take_length]
    walk_at "wgo"
    refine q a1 _ fun n hn => ?_
    obtain ⟨c, hc, h1, h2⟩ := hT.get (unpro_all hu) hn (Nat.le_refl 0) (Nat.zero_le _)
    rw [hc]
    exact ⟨h1, h2⟩


/-! ### the script's cells -/
def cell (ns : List Int) (i : Int) : Int := ns[i.toNat]?.getD 0
def phi_l_at (_ : ErA) : Phi := fun ds Q _ => ∃ ns i, ds = [.scr ns, .int i] ∧ 0 ≤ i ∧ Q (.sh (.int (cell ns i)))
theorem len_l_at {C : ErA} : ∀ ds Q X, phi_l_at C ds Q X → ds.length = 2 := fun ds Q X h => by
  obtain ⟨ns, i, rfl, _⟩ := h; rfl
theorem c_l_at {C : ErA} {ns : List Int} {i : Int} {Q : R → Prop} {X : Value → Prop} (hp : 0 ≤ i) (q : Q (.sh (.int (cell ns i)))) : phi_l_at C [.scr ns, .int i] Q X := ⟨ns, i, rfl, hp, q⟩
local macro_rules | `(tactic| walk_at "w") => `(tactic| ((with_reducible refine' c_l_at ?p ⟨Or.inl rfl, ?_⟩); (case p => first | decide | omega)))
abbrev N_l_at : List Str := ["_law_script", "_law_place"]
def t_l_at (K : PySem.W.Frag) (C : ErA) : TS :=
  tSeq (tIfS (tTest (tOp (rI0 fun i j => .bl (decide (j ≤ i))) (tVar 1) (tCB (cLen K) (tCons (tVar 0) tNil)))) (tRet (tC (.int 0))) tNext) (tRet (tOp (rIx K) (tVar 0) (tVar 1)))
theorem w_l_at {K : PySem.W.Frag} {C : ErA} : ∀ ds Q X, phi_l_at C ds Q X → ∀ E, wS K ⟨E, X⟩ (t_l_at K C) (G0 ["_law_script", "_law_place"] ds) (PoQ Q) := by
  intro ds Q X h E
  obtain ⟨ns, i, rfl, hp, q⟩ := h
  show wS K _ (t_l_at K C) [.sh (.scr ns), .sh (.int i)] _
  unfold t_l_at
  walk_at "wgo"
  · rename_i h
    refine q_sh q ?_
    unfold cell
    rw [List.getElem?_eq_none (by omega)]
    rfl
  · rename_i h
    have hi : i.toNat < ns.length := by omega
    refine u_ixC (atI_at hp (List.getElem?_eq_getElem hi)) ?_
    refine rt_sh (q_sh q ?_)
    unfold cell
    rw [List.getElem?_eq_getElem hi]
    rfl


/-! ### words -/
local macro_rules | `(tactic| walk_at "w") => `(tactic| with_reducible refine' PL.wS_par ?_)
local macro_rules | `(tactic| walk_at "w") => `(tactic| first | (with_reducible refine ⟨_, _, rfl, rfl, rfl, ?_⟩) | fail)
theorem cut_lenG {α : Type} (l : List α) (lo hi : Option Int) : (cut l lo hi).length ≤ l.length := by
  unfold cut
  rw [List.length_take, List.length_drop]
  omega
theorem cut_mem {α : Type} {l : List α} {lo hi : Option Int} {x : α} (h : x ∈ cut l lo hi) : x ∈ l := List.mem_of_mem_drop (List.mem_of_mem_take h)
def ltr (i : Int) : Nat := lettersL.getD i.toNat 0
theorem ltr_mem (x : Int) : ltr (x.fmod 26) ∈ lettersL := by
  have h := fmod_rng x (n := 26) (by decide)
  exact getD_mem 0 (by show _ < 26; omega)
def wSize (c : Int) : Int := 1 + (c.fdiv 26).fmod 12
def wBase (c : Int) : List Nat := (List.range (wSize c).toNat).map fun j : Nat => ltr ((c + 3 * (j : Int)).fmod 26)
def wAt (c : Int) : Int := (c.fdiv 312).fmod (wSize c)
def wordL (c k : Int) : List Nat := cut (wBase c) none (some (wAt c)) ++ [ltr ((c + 7 * k).fmod 26)] ++ cut (wBase c) (some (wAt c + 1)) none
theorem wSize_rng (c : Int) : 1 ≤ wSize c ∧ wSize c ≤ 12 := by
  have h := fmod_rng (c.fdiv 26) (n := 12) (by decide)
  unfold wSize; omega
theorem wAt_rng (c : Int) : 0 ≤ wAt c ∧ wAt c < wSize c := fmod_rng _ (by have := wSize_rng c; omega)
theorem wBase_len (c : Int) : (wBase c).length = (wSize c).toNat := by
  unfold wBase
  rw [List.length_map, List.length_range]
theorem cut_hi {α : Type} {l : List α} {b : Nat} (h : b ≤ l.length) : cut l none (some ((b : Nat) : Int)) = l.take b := by
  unfold cut
  rw [HT.sIx_nat, HT.sIx_none, Nat.min_eq_left h, List.drop_zero]; rfl
theorem cut_lo {α : Type} {l : List α} {b : Nat} (h : b ≤ l.length) : cut l (some ((b : Nat) : Int)) none = l.drop b := by
  unfold cut
  rw [HT.sIx_nat, HT.sIx_none, Nat.min_eq_left h]
  exact List.take_of_length_le (by rw [List.length_drop]; exact Nat.le_refl _)
theorem wordL_len (c k : Int) : (wordL c k).length = (wSize c).toNat := by
  have h1 := wSize_rng c
  have h2 := wAt_rng c
  have e1 : wAt c = (((wAt c).toNat : Nat) : Int) := by omega
  have e2 : wAt c + 1 = (((wAt c).toNat + 1 : Nat) : Int) := by omega
  have hl := wBase_len c
  unfold wordL
  rw [e2, cut_lo (by omega)]
  rw [show cut (wBase c) none (some (wAt c)) = cut (wBase c) none (some (((wAt c).toNat : Nat) : Int)) from by rw [← e1], cut_hi (by omega)]
  simp only [List.length_append, List.length_take, List.length_drop, List.length_cons, List.length_nil]
  omega
theorem wordL_mem {c k : Int} {x : Nat} (h : x ∈ wordL c k) : x ∈ lettersL := by
  have hb : ∀ x ∈ wBase c, x ∈ lettersL := fun x hx => by
    obtain ⟨j, _, rfl⟩ := List.mem_map.mp hx
    exact ltr_mem _
  unfold wordL at h
  rcases List.mem_append.mp h with h | h
  · rcases List.mem_append.mp h with h | h
    · exact hb x (cut_mem h)
    · cases List.mem_singleton.mp h
      exact ltr_mem _
  · exact hb x (cut_mem h)
theorem isName_of {l : List Nat} (h0 : 0 < l.length) (h1 : l.length ≤ 12) (h : ∀ x ∈ l, x ∈ lettersL) : isNameL l = true := by
  unfold isNameL
  rw [decide_eq_true h0, decide_eq_true h1, Bool.true_and, Bool.true_and, List.all_eq_true]
  exact fun x hx => decide_eq_true (h x hx)
theorem wordL_name (c k : Int) : isNameL (wordL c k) = true := by
  have h1 := wSize_rng c
  have h2 := wordL_len c k
  exact isName_of (by omega) (by omega) fun x hx => wordL_mem hx
def phi_l_word (_ : ErA) : Phi := fun ds Q _ => ∃ c k : Int, ds = [.int c, .int k] ∧ Q (.sh (tx (wordL c k)))
theorem len_l_word {C : ErA} : ∀ ds Q X, phi_l_word C ds Q X → ds.length = 2 := fun ds Q X h => by
  obtain ⟨_, _, rfl, _⟩ := h; rfl
theorem c_l_word {C : ErA} {c k : Int} {Q : R → Prop} {X : Value → Prop} (q : Q (.sh (tx (wordL c k)))) : phi_l_word C [.int c, .int k] Q X := ⟨c, k, rfl, q⟩
abbrev N_l_word : List Str := ["_law_cell", "_law_k", "_law_letters", "_law_size", "_law_at_here", "_law_word_here", "_law_letter", "_law_j"]
def t_l_word (K : PySem.W.Frag) (C : ErA) : TS :=
  tSeq (tAsg (tC (.str (mk lettersL))) (gName 2)) (tSeq (tAsg (tOp (uAdd K) (tC (.int 1)) (tOp (rI (fun _ j => j ≠ 0) fun i j => .int (i.fmod j)) (tOp (rI CDivN fun i j => .int (i.fdiv j)) (tVar 0) (tC (.int 26))) (tC (.int 12)))) (gName 3)) (tSeq (tAsg (tOp (rI (fun _ j => j ≠ 0) fun i j => .int (i.fmod j)) (tOp (rI CDivN fun i j => .int (i.fdiv j)) (tVar 0) (tC (.int 312))) (tVar 3)) (gName 4)) (tSeq (tAsg (tM1 (mJoin K) (tC (.str (mk []))) (tLc (iRng1 (tCons (tVar 3) tNil)) (gName 7) tYes (tOp (rIx K) (tVar 2) (tOp (rI (fun _ j => j ≠ 0) fun i j => .int (i.fmod j)) (tOp (uAdd K) (tVar 0) (tOp uMul (tC (.int 3)) (tVar 7))) (tC (.int 26)))) [7])) (gName 5)) (tSeq (tAsg (tOp (rIx K) (tVar 2) (tOp (rI (fun _ j => j ≠ 0) fun i j => .int (i.fmod j)) (tOp (uAdd K) (tVar 0) (tOp uMul (tC (.int 7)) (tVar 1))) (tC (.int 26)))) (gName 6)) (tRet (tOp (uAdd K) (tOp (uAdd K) (tSl (uSl K) (tVar 5) tNoPart (tPart (tVar 4))) (tVar 6)) (tSl (uSl K) (tVar 5) (tPart (tOp (uAdd K) (tVar 4) (tC (.int 1)))) tNoPart)))))))
theorem w_l_word {K : PySem.W.Frag} {C : ErA} : ∀ ds Q X, phi_l_word C ds Q X → ∀ E, wS K ⟨E, X⟩ (t_l_word K C) (G0 N_l_word ds) (PoQ Q) := by
  intro ds Q X h E
  obtain ⟨c, k, rfl, q⟩ := h
  show wS K _ (t_l_word K C) [.sh (.int c), .sh (.int k), .no, .no, .no, .no, .no, .no] _
  unfold t_l_word
  have h1 := wSize_rng c
  have h2 := wAt_rng c
  have h0 := fmod_rng (c.fdiv 26) (n := 12) (by decide)
  walk_at "wgo"
  refine wE_lcR (fun j : Nat => tx [ltr ((c + 3 * (j : Int)).fmod 26)]) ?_
  walk_at "wgo"
  refine ⟨_, rfl, rfl, by show wSize c ≤ _; omega, by show _ ≤ wSize c; omega, fun j hj => ?_, fun a => ?_⟩
  · refine wT_yes ⟨rfl, ?_⟩
    walk_at "wgo"
    walk_at "keep"
  · refine wM_join1 (n := (wSize c).toNat) rfl (by omega) ?_
    have hl := wBase_len c
    show rput (.sh (tx (wBase c))) _ _ _
    have hc1 := cut_lenG (wBase c) none (some (wAt c))
    have hc2 := cut_lenG (wBase c) (some (wAt c + 1)) none
    have ha : (c.fdiv 312).fmod (1 + (c.fdiv 26).fmod 12) = wAt c := rfl
    rw [ha]
    walk_at "wgo"
    exact q


/-! ### grammars put together -/
structure Gram (rs : List Rl) : Prop where
  good : GoodR rs
  miss : ¬ Missing rs
  pro : AllPro rs
def InN (ns : List Name) : Rl → Prop
  | .sg n _ => n ∈ ns
  | .fk n a b => n ∈ ns ∧ a ∈ ns ∧ b ∈ ns
/-- the first j names have a rule of a sign, or of names ahead of them -/
structure Built (ns : List Name) (j : Nat) (rs : List Rl) : Prop where
  ok : ∀ r ∈ rs, r.ok = true
  inn : ∀ r ∈ rs, InN ns r
  base : ∀ k n, k < j → ns[k]? = some n → ∃ r ∈ rs, r.nm = n ∧ InN (n :: ns.take k) r ∧ ∀ a b, r = .fk n a b → a ∈ ns.take k ∧ b ∈ ns.take k
theorem Built.start (ns : List Name) : Built ns 0 [] := ⟨(by intro r h; cases h), (by intro r h; cases h), fun k n h => (by omega)⟩
theorem Built.more {ns : List Name} {j : Nat} {rs : List Rl} (h : Built ns j rs) {r : Rl} (h1 : r.ok = true) (h2 : InN ns r) : Built ns j (rs ++ [r]) := by
  refine ⟨fun x hx => ?_, fun x hx => ?_, fun k n hk hn => ?_⟩
  · rcases List.mem_append.mp hx with hx | hx
    · exact h.ok x hx
    · cases List.mem_singleton.mp hx; exact h1
  · rcases List.mem_append.mp hx with hx | hx
    · exact h.inn x hx
    · cases List.mem_singleton.mp hx; exact h2
  · obtain ⟨x, hx, e⟩ := h.base k n hk hn
    exact ⟨x, List.mem_append_left _ hx, e⟩
theorem Built.sg {ns : List Name} {j : Nat} {rs : List Rl} (h : Built ns j rs) {n : Name} {s : Nat} (hn : ns[j]? = some n) (h1 : isNameL n = true) (h2 : s ∈ signsL) : Built ns (j + 1) (rs ++ [.sg n s]) := by
  have hm := h.more (r := .sg n s) (by show (_ && _) = true; rw [h1, decide_eq_true h2]; rfl) (List.mem_of_getElem? hn)
  refine ⟨hm.ok, hm.inn, fun k m hk hm' => ?_⟩
  by_cases e : k = j
  · subst e
    rw [hn] at hm'; cases hm'
    exact ⟨.sg n s, List.mem_append_right _ List.mem_cons_self, rfl, List.mem_cons_self, fun a b e => by cases e⟩
  · exact hm.base k m (by omega) hm'
theorem Built.fk {ns : List Name} {j i1 i2 : Nat} {rs : List Rl} (h : Built ns j rs) {n a b : Name} (hn : ns[j]? = some n) (ha : ns[i1]? = some a) (hb : ns[i2]? = some b) (l1 : i1 < j) (l2 : i2 < j) (hok : ∀ x ∈ ns, isNameL x = true) : Built ns (j + 1) (rs ++ [.fk n a b]) := by
  have m0 := List.mem_of_getElem? hn
  have m1 := List.mem_of_getElem? ha
  have m2 := List.mem_of_getElem? hb
  have hm := h.more (r := .fk n a b) (by show (_ && (_ && _)) = true; rw [hok n m0, hok a m1, hok b m2]; rfl) ⟨m0, m1, m2⟩
  have t : ∀ {i : Nat} {x : Name}, ns[i]? = some x → i < j → x ∈ ns.take j := fun {i x} e l => by
    refine List.mem_of_getElem? (i := i) ?_
    rw [List.getElem?_take_of_lt l]; exact e
  refine ⟨hm.ok, hm.inn, fun k m hk hm' => ?_⟩
  by_cases e : k = j
  · subst e
    rw [hn] at hm'; cases hm'
    refine ⟨.fk n a b, List.mem_append_right _ List.mem_cons_self, rfl, ⟨List.mem_cons_self, List.mem_cons_of_mem _ (t ha l1), List.mem_cons_of_mem _ (t hb l2)⟩, fun a' b' e => ?_⟩
    cases e
    exact ⟨t ha l1, t hb l2⟩
  · exact hm.base k m (by omega) hm'
theorem Built.perm {ns : List Name} {j : Nat} {rs rs' : List Rl} (h : Built ns j rs) (hp : ∀ r, r ∈ rs' ↔ r ∈ rs) : Built ns j rs' :=
  ⟨fun r hr => h.ok r ((hp r).mp hr), fun r hr => h.inn r ((hp r).mp hr), fun k n hk hn => by
    obtain ⟨r, hr, e⟩ := h.base k n hk hn
    exact ⟨r, (hp r).mpr hr, e⟩⟩
theorem Built.rev {ns : List Name} {j : Nat} {rs : List Rl} (h : Built ns j rs) : Built ns j rs.reverse := h.perm fun _ => List.mem_reverse
theorem Built.pro {ns : List Name} {rs : List Rl} (h : Built ns ns.length rs) : ∀ (k : Nat) (n : Name), ns[k]? = some n → Pro rs n := fun k => by
  induction k using Nat.strongRecOn with
  | ind k ih =>
    intro n hn
    obtain ⟨r, hr, e1, e2, e3⟩ := h.base k n (List.getElem?_eq_some_iff.mp hn).1 hn
    cases r with
    | sg m s => cases e1; exact .sg hr
    | fk m a b =>
      cases e1
      obtain ⟨h1, h2⟩ := e3 a b rfl
      have t : ∀ x, x ∈ ns.take k → Pro rs x := fun x hx => by
        obtain ⟨i, hi, e⟩ := List.mem_iff_getElem.mp hx
        rw [List.length_take] at hi
        rw [List.getElem_take] at e
        exact ih i (by omega) x (List.getElem?_eq_some_iff.mpr ⟨by omega, e⟩)
      exact .fk hr (t a h1) (t b h2)
theorem Built.gram {ns : List Name} {rs : List Rl} (h : Built ns ns.length rs) (h0 : 0 < ns.length) (hl : rs.length ≤ 40) : Gram rs := by
  have hp : ∀ n ∈ ns, Pro rs n := fun n hn => by
    obtain ⟨i, hi⟩ := List.mem_iff_getElem?.mp hn
    exact h.pro i n hi
  have hin : ∀ n ∈ ns, n ∈ namesOf rs := fun n hn => by
    obtain ⟨i, hi⟩ := List.mem_iff_getElem?.mp hn
    obtain ⟨r, hr, e, _⟩ := h.base i n (List.getElem?_eq_some_iff.mp hi).1 hi
    exact (mem_namesOf rs n).mpr ⟨r, hr, e⟩
  refine ⟨⟨fun e => ?_, hl, h.ok⟩, ?_, fun n hn => ?_⟩
  · have hm : ns[0] ∈ ns := List.getElem_mem h0
    obtain ⟨r, hr, _⟩ := (mem_namesOf rs _).mp (hin _ hm)
    rw [e] at hr; cases hr
  · rintro ⟨n, a, b, hm, hx⟩
    obtain ⟨_, h1, h2⟩ := h.inn _ hm
    rcases hx with hx | hx
    · exact hx (hin _ h1)
    · exact hx (hin _ h2)
  · obtain ⟨r, hr, e⟩ := (mem_namesOf rs n).mp hn
    refine hp n ?_
    have := h.inn r hr
    cases r with
    | sg m s => cases e; exact this
    | fk m a b => cases e; exact this.1
/-! #### a good grammar is let through -/
theorem ok_plain {r : Rl} (h : r.ok = true) : RuleP (ruleD r) := by
  have nm : ∀ n : Name, isNameL n = true → Plain (tx n) := fun n hn => by
    unfold isNameL at hn
    simp only [Bool.and_eq_true, decide_eq_true_eq, List.all_eq_true] at hn
    refine .inl ⟨n, rfl, by omega, fun c hc => ?_⟩
    have := hn.2 c hc
    unfold lettersL at this
    simp at this
    omega
  have sg : ∀ s : Nat, s ∈ signsL → Plain (tx [s]) := fun s hs => by
    refine .inl ⟨[s], rfl, Nat.le_trans (Nat.le_refl 1) (by decide), fun c hc => ?_⟩
    cases List.mem_singleton.mp hc
    have : ∀ c ∈ signsL, c < 1114112 := by decide +kernel
    exact this s hs
  cases r with
  | sg n s =>
    have h := Bool.and_eq_true_iff.mp h
    refine ⟨.inr ⟨fun e => absurd e (show "tuple" ≠ "str" by decide), rfl⟩, fun ds e x hx => ?_⟩
    cases e
    simp only [List.mem_cons, List.not_mem_nil, or_false] at hx
    rcases hx with rfl | rfl
    · exact nm n h.1
    · exact sg s (of_decide_eq_true h.2)
  | fk n a b =>
    have h := Bool.and_eq_true_iff.mp h
    have h2 := Bool.and_eq_true_iff.mp h.2
    refine ⟨.inr ⟨fun e => absurd e (show "tuple" ≠ "str" by decide), rfl⟩, fun ds e x hx => ?_⟩
    cases e
    simp only [List.mem_cons, List.not_mem_nil, or_false] at hx
    rcases hx with rfl | rfl | rfl
    · exact nm n h.1
    · exact nm a h2.1
    · exact nm b h2.2
theorem ok_isRule {r : Rl} (h : r.ok = true) : isRuleD (ruleD r) = true := by
  cases r with
  | sg n s =>
    have h := Bool.and_eq_true_iff.mp h
    show (isNameL n && decide (s ∈ signsL)) = true
    rw [h.1, h.2]; rfl
  | fk n a b =>
    have h := Bool.and_eq_true_iff.mp h
    have h2 := Bool.and_eq_true_iff.mp h.2
    show (isNameL n && (isNameL a && isNameL b)) = true
    rw [h.1, h2.1, h2.2]; rfl
theorem tx_inj {l m : List Nat} (h : tx l = tx m) : l = m := by
  cases h; rfl
theorem ruleD_inj {r r' : Rl} (h : ruleD r = ruleD r') : r = r' := by
  cases r <;> cases r' <;> simp only [ruleD, D.tup.injEq, List.cons.injEq, and_true, reduceCtorEq, and_false] at h
  · obtain ⟨h1, h2⟩ := h
    cases tx_inj h1
    cases tx_inj h2
    rfl
  · obtain ⟨h1, h2, h3⟩ := h
    cases tx_inj h1
    cases tx_inj h2
    cases tx_inj h3
    rfl
theorem rsD_inj : ∀ {rs rs' : List Rl}, rsD rs = rsD rs' → rs = rs'
  | [], [], _ => rfl
  | [], _ :: _, h => by cases h
  | _ :: _, [], h => by cases h
  | r :: rs, r' :: rs', h => by
    have h : ruleD r :: rsD rs = ruleD r' :: rsD rs' := h
    rw [List.cons.injEq] at h
    rw [ruleD_inj h.1, rsD_inj h.2]
theorem Gram.due {C : ErA} {rs : List Rl} (h : Gram rs) {X : Value → Prop} {P : List Rl → Prop} (p : P rs) : DueR C (rsD rs) X P := by
  refine ⟨fun hb => ?_, fun rs' e hg => ?_⟩
  · exfalso
    rcases hb with hb | hb | ⟨d, hd, hb⟩
    · exact h.good.ne (by cases rs with | nil => rfl | cons r rs => cases hb)
    · rw [List.length_map] at hb
      have := h.good.le; omega
    · obtain ⟨r, hr, rfl⟩ := List.mem_map.mp hd
      rw [ok_isRule (h.good.ok r hr)] at hb
      cases hb
  · cases rsD_inj e
    exact ⟨fun m => absurd m h.miss, fun _ ⟨n, h1, h2⟩ => absurd (h.pro n h1) h2, fun _ _ => p⟩
theorem Gram.plain {rs : List Rl} (h : Gram rs) : ∀ d ∈ rsD rs, RuleP d := fun d hd => by
  obtain ⟨r, hr, rfl⟩ := List.mem_map.mp hd
  exact ok_plain (h.good.ok r hr)


/-! ### slots that hold no object -/
def notOw (s : Slot) : Prop := ∀ a m, s ≠ .ow a m
theorem notOw_no : notOw .no := fun a m e => by cases e
theorem notOw_sh (d : D) : notOw (.sh d) := fun a m e => by cases e
theorem keepOw_v {s t : Slot} {r u : Sl} (h : notOw s) (k : keepOw r u) : keepOw (s :: r) (t :: u) := by
  cases s with
  | no => exact k
  | sh d => exact k
  | ow a m => exact absurd rfl (h a m)
theorem keepOw_same {s : Slot} {r u : Sl} (k : keepOw r u) : keepOw (s :: r) (s :: u) := by
  cases s with
  | no => exact k
  | sh d => exact k
  | ow a m => exact ⟨rfl, k⟩
local macro_rules | `(tactic| walk_at "kv") => `(tactic| first | exact True.intro | (refine keepOw_same ?_; walk_at "kv") | (refine keepOw_v (by first | assumption | exact notOw_sh _ | exact notOw_no) ?_; walk_at "kv"))

/-! ### items at remainders -/
theorem kit_ib : kitB "int" "bool" = some false := by decide +kernel
theorem kit_bi : kitB "bool" "int" = some true := by decide +kernel
theorem wC_isiIB {K : PySem.W.Frag} {Z : Ec} {G : Sl} {Q : R → Sl → Prop} {i : Int} (q : Q (.sh (.bl false)) G) : wC K Z (rIsi K) [.sh (.int i), .sh (.ty "bool")] G Q := wC_isi rfl rfl kit_ib q
theorem wC_isiBI {K : PySem.W.Frag} {Z : Ec} {G : Sl} {Q : R → Sl → Prop} {i : Bool} (q : Q (.sh (.bl true)) G) : wC K Z (rIsi K) [.sh (.bl i), .sh (.ty "int")] G Q := wC_isi rfl rfl kit_bi q
local macro_rules | `(tactic| walk_at "w") => `(tactic| with_reducible refine' PL.wC_isiIB ?_)
local macro_rules | `(tactic| walk_at "w") => `(tactic| with_reducible refine' PL.wC_isiBI ?_)
theorem ix_fm {nl : List Name} (x : Int) {k : Int} (h0 : 0 < k) (hk : k ≤ nl.length) : ∃ (i : Nat) (a : Name), nl[i]? = some a ∧ (i : Int) < k ∧ atI (nl.map tx) (x.fmod k) = some (tx a) := by
  have h := fmod_rng x h0
  have hi : (x.fmod k).toNat < nl.length := by omega
  refine ⟨(x.fmod k).toNat, nl[(x.fmod k).toNat], List.getElem?_eq_getElem hi, by omega, atI_at h.1 ?_⟩
  rw [List.getElem?_map, List.getElem?_eq_getElem hi]; rfl
theorem ix_nm {nl : List Name} {k : Nat} {n : Name} (h : nl[k]? = some n) : atI (nl.map tx) ((k : Nat) : Int) = some (tx n) := atI_nat (by rw [List.getElem?_map, h]; rfl)
theorem sgn_mem {l : List Nat} {i : Nat} (h : i < l.length) (hl : l.all (fun c => decide (c ∈ signsL)) = true) : l.getD i 0 ∈ signsL := by
  have := List.all_eq_true.mp hl _ (getD_mem 0 h)
  exact of_decide_eq_true this
def wordsL (c : Int) (n : Nat) : List Name := (List.range n).map fun j : Nat => wordL c (j : Int)
theorem wordsL_tx (c : Int) (n : Nat) : ((List.range n).map fun j : Nat => tx (wordL c (j : Int))) = (wordsL c n).map tx := by
  unfold wordsL
  rw [List.map_map]; rfl
theorem wordsL_len (c : Int) (n : Nat) : (wordsL c n).length = n := by
  unfold wordsL
  rw [List.length_map, List.length_range]
theorem wordsL_ok (c : Int) (n : Nat) : ∀ x ∈ wordsL c n, isNameL x = true := fun x hx => by
  obtain ⟨j, _, rfl⟩ := List.mem_map.mp hx
  exact wordL_name _ _
theorem rsD_snoc (rs : List Rl) (r : Rl) : rsD rs ++ [ruleD r] = rsD (rs ++ [r]) := by
  show _ = List.map ruleD (rs ++ [r])
  rw [List.map_append]; rfl
theorem rsD_sg (rs : List Rl) (n : Name) (s : Nat) : rsD rs ++ [.tup [tx n, tx [s]]] = rsD (rs ++ [.sg n s]) := rsD_snoc rs (.sg n s)
theorem rsD_fk (rs : List Rl) (n a b : Name) : rsD rs ++ [.tup [tx n, tx a, tx b]] = rsD (rs ++ [.fk n a b]) := rsD_snoc rs (.fk n a b)
theorem len1 {rs : List Rl} {r : Rl} {j : Nat} (h : rs.length = j) : (rs ++ [r]).length = j + 1 := by rw [List.length_append, h]; rfl
theorem len2 {rs : List Rl} {r : Rl} {j k : Nat} (h : rs.length ≤ k + j) : (rs ++ [r]).length ≤ k + (j + 1) := by rw [List.length_append, List.length_singleton]; omega
theorem Built.moreSg {ns : List Name} {j : Nat} {rs : List Rl} (h : Built ns j rs) {n : Name} {s : Nat} (h1 : n ∈ ns) (h2 : isNameL n = true) (h3 : s ∈ signsL) : Built ns j (rs ++ [.sg n s]) :=
  h.more (by show (_ && _) = true; rw [h2, decide_eq_true h3]; rfl) h1
theorem Built.moreFk {ns : List Name} {j : Nat} {rs : List Rl} (h : Built ns j rs) {n a b : Name} (h1 : n ∈ ns) (h2 : a ∈ ns) (h3 : b ∈ ns) (hok : ∀ x ∈ ns, isNameL x = true) : Built ns j (rs ++ [.fk n a b]) :=
  h.more (by show (_ && (_ && _)) = true; rw [hok n h1, hok a h2, hok b h3]; rfl) ⟨h1, h2, h3⟩
theorem rsD_rev (rs : List Rl) : (rsD rs).reverse = rsD rs.reverse := List.map_reverse.symm


/-! ### data -/
theorem Der.pos {rs : List Rl} {t : List Nat} {n : Name} {b e c : Nat} (h : Der rs t n b e c) : b = e → 1 ≤ c := by
  induction h with
  | sg _ _ =>
    intro h
    unfold lc
    rw [if_pos h]; exact Nat.le_refl _
  | fk _ d1 d2 i1 i2 =>
    intro h
    have := d1.le
    have := d2.le
    have := i1 (by omega)
    omega
theorem Der.inv {rs : List Rl} {t : List Nat} {n : Name} {b e c : Nat} (h : Der rs t n b e c) : (∃ s, Rl.sg n s ∈ rs ∧ b ≤ e ∧ c = lc s t b e) ∨ ∃ x y k c1 d1, Rl.fk n x y ∈ rs ∧ Der rs t x b k c1 ∧ Der rs t y k e d1 ∧ c = c1 + d1 := by
  cases h with
  | sg hm hle => exact .inl ⟨_, hm, hle, rfl⟩
  | fk hm d1 d2 => exact .inr ⟨_, _, _, _, _, hm, d1, d2, rfl⟩
theorem Gram.parts {rs : List Rl} (h : Gram rs) {n a b : Name} (hm : Rl.fk n a b ∈ rs) : a ∈ namesOf rs ∧ b ∈ namesOf rs := by
  refine ⟨Classical.byContradiction fun e => h.miss ⟨n, a, b, hm, .inl e⟩, Classical.byContradiction fun e => h.miss ⟨n, a, b, hm, .inr e⟩⟩
/-! #### data -/
theorem dat_name {n : Nat} {l : Name} (h : isNameL l = true) : dat n (tx l) = true := by
  unfold isNameL at h
  simp only [Bool.and_eq_true, decide_eq_true_eq, List.all_eq_true] at h
  have : (mk l).cps.all (· < 0x110000) = true := by
    simp only [Array.all_eq_true, mk]
    intro i hi
    have hm : l.toArray[i] ∈ l := by simp
    have := h.2 _ hm
    unfold lettersL at this
    simp at this
    simp; omega
  cases n <;> (unfold dat; exact this)
theorem dat_sign {n : Nat} {s : Nat} (h : s ∈ signsL) : dat n (tx [s]) = true := by
  have : ∀ c ∈ signsL, (mk [c]).cps.all (· < 0x110000) = true := by decide +kernel
  cases n <;> (unfold dat; exact this s h)
theorem dat_rule {n : Nat} {r : Rl} (h : r.ok = true) : dat (n + 1) (ruleD r) = true := by
  cases r with
  | sg m s =>
    have h := Bool.and_eq_true_iff.mp h
    show datA n [tx m, tx [s]] = true
    simp only [datA, dat_name h.1, dat_sign (of_decide_eq_true h.2), Bool.and_self]
  | fk m a b =>
    have h := Bool.and_eq_true_iff.mp h
    have h2 := Bool.and_eq_true_iff.mp h.2
    show datA n [tx m, tx a, tx b] = true
    simp only [datA, dat_name h.1, dat_name h2.1, dat_name h2.2, Bool.and_self]
theorem datA_map {α : Type} {n : Nat} {g : α → D} : ∀ {l : List α}, (∀ x ∈ l, dat n (g x) = true) → datA n (l.map g) = true
  | [], _ => by unfold List.map datA; rfl
  | x :: l, h => by
    show datA n (g x :: l.map g) = true
    unfold datA
    rw [h x List.mem_cons_self, datA_map (l := l) fun y hy => h y (List.mem_cons_of_mem _ hy)]; rfl
theorem noBA_map {α : Type} {g : α → D} : ∀ {l : List α}, (∀ x ∈ l, noB (g x) = true) → noBA (l.map g) = true
  | [], _ => by unfold List.map noBA; rfl
  | x :: l, h => by
    show noBA (g x :: l.map g) = true
    unfold noBA
    rw [h x List.mem_cons_self, noBA_map (l := l) fun y hy => h y (List.mem_cons_of_mem _ hy)]; rfl
theorem eqD_self {d : D} (h : noB d = true) : eqD d d = true := (eqD_iff d d h h).mpr rfl
theorem noB_rule (r : Rl) : noB (ruleD r) = true := by
  cases r <;> rfl
theorem datL_rs {rs : List Rl} (h : ∀ r ∈ rs, r.ok = true) : dat 64 (.lst (rsD rs)) = true := by
  unfold dat
  exact datA_map fun r hr => dat_rule (h r hr)
theorem noB_rs (rs : List Rl) : noB (.lst (rsD rs)) = true := by
  unfold noB
  exact noBA_map fun r _ => noB_rule r
theorem datL_tx {ls : List Name} (h : ∀ l ∈ ls, isNameL l = true) : dat 64 (.lst (ls.map tx)) = true := by
  unfold dat
  exact datA_map fun r hr => dat_name (h r hr)
theorem noB_tx (ls : List Name) : noB (.lst (ls.map tx)) = true := by
  unfold noB
  exact noBA_map fun _ _ => by unfold noB; rfl
theorem Gram.names {rs : List Rl} (h : Gram rs) : ∀ n ∈ namesOf rs, isNameL n = true := fun n hn => by
  obtain ⟨r, hr, e⟩ := (mem_namesOf rs n).mp hn
  have := h.good.ok r hr
  cases r with
  | sg m s => cases e; exact (Bool.and_eq_true_iff.mp this).1
  | fk m a b => cases e; exact (Bool.and_eq_true_iff.mp this).1
theorem keys_encS (ns : List Name) (f : Name → Nat) : (encS ns f).map (fun kv => dK1 kv.1) = ns.map tx := by
  unfold encS
  rw [List.map_map]; rfl
open Classical in
noncomputable def decR (g : Rl → Option D) (d : D) : Option D := if h : ∃ r, d = ruleD r then g h.choose else none
theorem decR_eq (g : Rl → Option D) (r : Rl) : decR g (ruleD r) = g r := by
  unfold decR
  have h : ∃ r', ruleD r = ruleD r' := ⟨r, rfl⟩
  rw [dif_pos h, ← ruleD_inj h.choose_spec]
theorem decR_map (g : Rl → Option D) (rs : List Rl) : (rsD rs).filterMap (decR g) = rs.filterMap g := by
  rw [List.filterMap_map]
  congr 1
  funext r
  exact decR_eq g r


/-! ### texts and trees, in plain Lean -/
structure GoodT (t : List Nat) : Prop where
  le : t.length ≤ 40
  ok : ∀ c ∈ t, c ∈ signsL
def DueT (C : ErA) (d : D) (X : Value → Prop) (P : List Nat → Prop) : Prop := ((¬ ∃ t, d = tx t ∧ GoodT t) → X (.ref C.text)) ∧ ∀ t, d = tx t → GoodT t → P t
theorem DueT.mono {C : ErA} {d : D} {X : Value → Prop} {P P' : List Nat → Prop} (h : DueT C d X P) (k : ∀ t, d = tx t → GoodT t → P t → P' t) : DueT C d X P' := ⟨h.1, fun t e g => k t e g (h.2 t e g)⟩
theorem GoodT.due {C : ErA} {t : List Nat} (h : GoodT t) {X : Value → Prop} {P : List Nat → Prop} (p : P t) : DueT C (tx t) X P :=
  ⟨fun e => absurd ⟨t, rfl, h⟩ e, fun t' e _ => by rw [← tx_inj e]; exact p⟩
theorem signs_lt : ∀ c ∈ signsL, c < 1114112 := by decide +kernel
theorem GoodT.tx {t : List Nat} (h : GoodT t) : Tx t := ⟨Nat.le_trans h.le (by decide), fun c hc => signs_lt c (h.ok c hc)⟩
theorem GoodT.plain {t : List Nat} (h : GoodT t) : Plain (PL.tx t) := .inl ⟨t, rfl, h.tx⟩
/-! #### the first place of a sign -/
def firstIx (s : Nat) : List Nat → Option Nat
  | [] => none
  | x :: l => if x = s then some 0 else (firstIx s l).map (· + 1)
theorem firstIx_some {s : Nat} : ∀ {l : List Nat} {i : Nat}, l[i]? = some s → (∀ k, k < i → l[k]? ≠ some s) → firstIx s l = some i
  | [], i, h, _ => by simp at h
  | x :: l, 0, h, _ => by
    simp at h
    show (if x = s then some 0 else _) = _
    rw [if_pos h]
  | x :: l, i + 1, h, hn => by
    have h0 : ¬ x = s := fun e => hn 0 (by omega) (by simp [e])
    show (if x = s then some 0 else _) = _
    rw [if_neg h0, firstIx_some (l := l) (i := i) (by simpa using h) fun k hk => by
      have := hn (k + 1) (by omega)
      simpa using this]
    rfl
theorem firstIx_none {s : Nat} : ∀ {l : List Nat}, s ∉ l → firstIx s l = none
  | [], _ => rfl
  | x :: l, h => by
    show (if x = s then some 0 else _) = _
    rw [if_neg (fun e => h (by rw [e]; exact List.mem_cons_self)), firstIx_none fun e => h (List.mem_cons_of_mem _ e)]
    rfl
theorem firstIx_get {s : Nat} : ∀ {l : List Nat} {i : Nat}, firstIx s l = some i → l[i]? = some s ∧ ∀ k, k < i → l[k]? ≠ some s
  | [], _, h => by cases h
  | x :: l, i, h => by
    have h : (if x = s then some 0 else (firstIx s l).map (· + 1)) = some i := h
    by_cases e : x = s
    · rw [if_pos e] at h
      cases h
      exact ⟨by simp [e], fun k hk => by omega⟩
    · rw [if_neg e] at h
      obtain ⟨j, h1, rfl⟩ := Option.map_eq_some_iff.mp h
      obtain ⟨g1, g2⟩ := firstIx_get h1
      refine ⟨by simpa using g1, fun k hk => ?_⟩
      cases k with
      | zero => simpa using e
      | succ k => simpa using g2 k (by omega)
theorem firstIx_mem {s : Nat} {l : List Nat} (h : s ∈ l) : ∃ i, firstIx s l = some i := by
  induction l with
  | nil => cases h
  | cons x l ih =>
    show ∃ i, (if x = s then some 0 else (firstIx s l).map (· + 1)) = some i
    by_cases e : x = s
    · exact ⟨0, if_pos e⟩
    · rw [if_neg e]
      rcases List.mem_cons.mp h with h | h
      · exact absurd h.symm e
      · obtain ⟨i, hi⟩ := ih h
        exact ⟨i + 1, by rw [hi]; rfl⟩
theorem at_one {l : List Nat} {c i : Nat} : StrLaws.At (mk l) (mk [c]) (mk l).length i ↔ l[i]? = some c := by
  unfold StrLaws.At PySem.Builtin.Str.subAt
  rw [mk_len, mk_len]
  show (i + 1 ≤ l.length ∧ (l.toArray.extract i (i + 1) == ([c] : List Nat).toArray) = true) ↔ _
  rw [beq_iff_eq]
  have e : (l.toArray.extract i (i + 1)) = ((l.drop i).take 1).toArray := by
    simp [List.extract_toArray]
  rw [e]
  constructor
  · rintro ⟨h1, h2⟩
    have h4 : (l.drop i).take 1 = [c] := by
      have := congrArg Array.toList h2
      simpa using this
    rw [List.drop_eq_getElem_cons (by omega), List.take_succ_cons, List.take_zero] at h4
    rw [List.getElem?_eq_getElem (by omega)]
    cases h4; rfl
  · intro h
    obtain ⟨h1, h2⟩ := List.getElem?_eq_some_iff.mp h
    refine ⟨by omega, ?_⟩
    rw [List.drop_eq_getElem_cons h1, List.take_succ_cons, List.take_zero, h2]
theorem find_one (l : List Nat) (c : Nat) : Txt.find (mk l) (mk [c]) = (match firstIx c l with | some i => ((i : Nat) : Int) | none => -1) := by
  rcases find_whole (mk l) (mk [c]) with ⟨h1, h2⟩ | ⟨i, h1, h2, h3⟩
  · have hn : c ∉ l := fun hm => by
      obtain ⟨i, hi⟩ := List.mem_iff_getElem?.mp hm
      exact h2 i (at_one.mpr hi)
    rw [h1, firstIx_none hn]
  · rw [h1, firstIx_some (at_one.mp h2) fun k hk e => h3 k hk (at_one.mpr e)]
/-! #### trees -/
inductive Tr where
  | leaf (n : Name) (s b e : Nat) (k : Option Nat)
  | fork (n : Name) (l r : Tr)
def Tr.nm : Tr → Name
  | .leaf n _ _ _ _ => n
  | .fork n _ _ => n
def treeD : Tr → D
  | .leaf n s b e k => .tup [tx n, tx [s], .int ((b : Nat) : Int), .int ((e : Nat) : Int), oD k]
  | .fork n l r => .tup [tx n, treeD l, treeD r]
def Tr.sz : Tr → Nat
  | .leaf _ _ _ _ _ => 1
  | .fork _ l r => l.sz + r.sz + 2
theorem Tr.sz_pos (T : Tr) : 1 ≤ T.sz := by
  cases T with
  | leaf n s b e k => exact Nat.le_refl 1
  | fork n l r => exact Nat.le_add_left 1 _
def Tr.leaves : Tr → List (Name × Nat × Nat × Nat × Option Nat)
  | .leaf n s b e k => [(n, s, b, e, k)]
  | .fork _ l r => l.leaves ++ r.leaves
def keptF (s : Nat) (t : List Nat) (b e : Nat) : Option Nat := if b = e then none else some (b + (firstIx s ((t.drop b).take (e - b))).getD 0)
/-- the first place at which two parts come to c -/
def plF (f : Nat → Option Nat) (c : Nat) : Nat → Nat → Option Nat
  | 0, _ => none
  | m + 1, k => if f k = some c then some k else plF f c m (k + 1)
theorem plF_some {f : Nat → Option Nat} {c k : Nat} : ∀ {m k0 : Nat}, plF f c m k0 = some k → f k = some c ∧ k0 ≤ k ∧ k < k0 + m ∧ ∀ j, k0 ≤ j → j < k → f j ≠ some c
  | 0, _, h => by cases h
  | m + 1, k0, h => by
    have h : (if f k0 = some c then some k0 else plF f c m (k0 + 1)) = some k := h
    by_cases e : f k0 = some c
    · rw [if_pos e] at h
      cases h
      exact ⟨e, Nat.le_refl _, by omega, fun j h1 h2 => by omega⟩
    · rw [if_neg e] at h
      obtain ⟨h1, h2, h3, h4⟩ := plF_some h
      refine ⟨h1, by omega, by omega, fun j g1 g2 => ?_⟩
      by_cases ej : j = k0
      · rw [ej]; exact e
      · exact h4 j (by omega) g2
theorem plF_ex {f : Nat → Option Nat} {c k : Nat} : ∀ {m k0 : Nat}, f k = some c → k0 ≤ k → k < k0 + m → ∃ j, plF f c m k0 = some j
  | 0, _, _, _, _ => by omega
  | m + 1, k0, h, h1, h2 => by
    show ∃ j, (if f k0 = some c then some k0 else plF f c m (k0 + 1)) = some j
    by_cases e : f k0 = some c
    · exact ⟨k0, if_pos e⟩
    · rw [if_neg e]
      by_cases ek : k = k0
      · rw [ek] at h; exact absurd h e
      · exact plF_ex h (by omega) (by omega)
/-- the first rule that comes to the cost -/
def chF (es : Tb) (t : List Nat) (n : Name) (b e c : Nat) : List Rl → Option (Rl × Option Nat)
  | [] => none
  | .sg m s :: l => if m = n ∧ lc s t b e = c then some (.sg m s, none) else chF es t n b e c l
  | .fk m x y :: l => if m = n then (match plF (pairC es x y b e) c (e + 1 - b) b with
    | some k => some (.fk m x y, some k)
    | none => chF es t n b e c l) else chF es t n b e c l
theorem chF_some {es : Tb} {t : List Nat} {n : Name} {b e c : Nat} {p : Rl × Option Nat} : ∀ {l : List Rl}, chF es t n b e c l = some p → p.1 ∈ l ∧ ((∃ s, p = (.sg n s, none) ∧ lc s t b e = c) ∨ ∃ x y k, p = (.fk n x y, some k) ∧ plF (pairC es x y b e) c (e + 1 - b) b = some k)
  | [], h => by cases h
  | .sg m s :: l, h => by
    have h : (if m = n ∧ lc s t b e = c then some (.sg m s, none) else chF es t n b e c l) = some p := h
    by_cases q : m = n ∧ lc s t b e = c
    · rw [if_pos q] at h
      cases h
      refine ⟨List.mem_cons_self, .inl ⟨s, by rw [q.1], q.2⟩⟩
    · rw [if_neg q] at h
      obtain ⟨h1, h2⟩ := chF_some h
      exact ⟨List.mem_cons_of_mem _ h1, h2⟩
  | .fk m x y :: l, h => by
    have h : (if m = n then (match plF (pairC es x y b e) c (e + 1 - b) b with
      | some k => some (.fk m x y, some k)
      | none => chF es t n b e c l) else chF es t n b e c l) = some p := h
    by_cases q : m = n
    · rw [if_pos q] at h
      split at h
      · rename_i k hk
        cases h
        exact ⟨List.mem_cons_self, .inr ⟨x, y, k, by rw [q], hk⟩⟩
      · obtain ⟨h1, h2⟩ := chF_some h
        exact ⟨List.mem_cons_of_mem _ h1, h2⟩
    · rw [if_neg q] at h
      obtain ⟨h1, h2⟩ := chF_some h
      exact ⟨List.mem_cons_of_mem _ h1, h2⟩
theorem chF_ex {es : Tb} {t : List Nat} {n : Name} {b e c : Nat} {r : Rl} : ∀ {l : List Rl}, r ∈ l → ((∃ s, r = .sg n s ∧ lc s t b e = c) ∨ ∃ x y k, r = .fk n x y ∧ plF (pairC es x y b e) c (e + 1 - b) b = some k) → ∃ p, chF es t n b e c l = some p
  | [], h, _ => by cases h
  | .sg m s :: l, h, hr => by
    show ∃ p, (if m = n ∧ lc s t b e = c then some (.sg m s, none) else chF es t n b e c l) = some p
    by_cases q : m = n ∧ lc s t b e = c
    · exact ⟨_, if_pos q⟩
    · rw [if_neg q]
      rcases List.mem_cons.mp h with h | h
      · exfalso
        rcases hr with ⟨s', e1, e2⟩ | ⟨x, y, k, e1, _⟩
        · rw [h] at e1; cases e1
          exact q ⟨rfl, e2⟩
        · rw [h] at e1; cases e1
      · exact chF_ex h hr
  | .fk m x y :: l, h, hr => by
    show ∃ p, (if m = n then (match plF (pairC es x y b e) c (e + 1 - b) b with
      | some k => some (.fk m x y, some k)
      | none => chF es t n b e c l) else chF es t n b e c l) = some p
    by_cases q : m = n
    · rw [if_pos q]
      cases hk : plF (pairC es x y b e) c (e + 1 - b) b with
      | some k => exact ⟨_, rfl⟩
      | none =>
        rcases List.mem_cons.mp h with h | h
        · exfalso
          rcases hr with ⟨s', e1, e2⟩ | ⟨x, y, k, e1, e2⟩
          · rw [h] at e1; cases e1
          · rw [h] at e1; cases e1
            rw [hk] at e2; cases e2
        · exact chF_ex h hr
    · rw [if_neg q]
      rcases List.mem_cons.mp h with h | h
      · exfalso
        rcases hr with ⟨s', e1, e2⟩ | ⟨x, y, k, e1, e2⟩
        · rw [h] at e1; cases e1
        · rw [h] at e1; cases e1
          exact q rfl
      · exact chF_ex h hr
/-- the told tree of a name over a stretch -/
inductive Told (rs : List Rl) (t : List Nat) (es : Tb) : Name → Nat → Nat → Nat → Tr → Prop where
  | leaf {n : Name} {s b e c : Nat} : tat es (n, b, e) = some c → chF es t n b e c rs = some (.sg n s, none) → Told rs t es n b e c (.leaf n s b e (keptF s t b e))
  | fork {n x y : Name} {b k e c c1 c2 : Nat} {l r : Tr} : tat es (n, b, e) = some c → chF es t n b e c rs = some (.fk n x y, some k) → c1 + c2 = c → Told rs t es x b k c1 l → Told rs t es y k e c2 r → Told rs t es n b e c (.fork n l r)
theorem Told.at_ {rs : List Rl} {t : List Nat} {es : Tb} {n : Name} {b e c : Nat} {T : Tr} (h : Told rs t es n b e c T) : tat es (n, b, e) = some c := by
  cases h with
  | leaf h _ => exact h
  | fork h _ _ _ _ => exact h
theorem TabOk.choice {rs : List Rl} {t : List Nat} {es : Tb} (h : TabOk rs t es) {n : Name} {b e c : Nat} (he : e ≤ t.length) (hc : tat es (n, b, e) = some c) : ∃ p, chF es t n b e c rs = some p := by
  rcases (h.snd _ _ _ _ hc).inv with ⟨s, hm, _, e1⟩ | ⟨x, y, k, c1, d1, hm, D1, D2, e1⟩
  · exact chF_ex hm (.inl ⟨s, rfl, e1.symm⟩)
  · have l1 := D1.le
    have l2 := D2.le
    obtain ⟨c2, g1, g2⟩ := h.mn b k l1 (by omega) x c1 D1
    obtain ⟨d2, g3, g4⟩ := h.mn k e l2 he y d1 D2
    obtain ⟨c3, g5, g6⟩ := h.mn b e (by omega) he n _ (.fk hm (h.snd _ _ _ _ g1) (h.snd _ _ _ _ g3))
    rw [hc] at g5; cases g5
    have ep : pairC es x y b e k = some c := by
      unfold pairC
      rw [g1, g3]
      show some (c2 + d2) = some c
      congr 1; omega
    obtain ⟨j, hj⟩ := plF_ex (m := e + 1 - b) (k0 := b) ep l1 (by omega)
    exact chF_ex hm (.inr ⟨x, y, j, rfl, hj⟩)
theorem pairC_some {es : Tb} {x y : Name} {b e k c : Nat} (h : pairC es x y b e k = some c) : ∃ c1 c2, tat es (x, b, k) = some c1 ∧ tat es (y, k, e) = some c2 ∧ c1 + c2 = c := by
  unfold pairC at h
  split at h
  · rename_i c1 c2 h1 h2
    cases h
    exact ⟨c1, c2, h1, h2, rfl⟩
  · cases h
theorem TabOk.told {rs : List Rl} {t : List Nat} {es : Tb} (h : TabOk rs t es) : ∀ (m : Nat) (n : Name) (b e c : Nat), e - b + c < m → e ≤ t.length → tat es (n, b, e) = some c → ∃ T, Told rs t es n b e c T
  | 0, _, _, _, _, h, _, _ => by omega
  | m + 1, n, b, e, c, hm, he, hc => by
    obtain ⟨p, hp⟩ := h.choice he hc
    obtain ⟨_, ⟨s, rfl, _⟩ | ⟨x, y, k, rfl, hk⟩⟩ := chF_some hp
    · exact ⟨_, .leaf hc hp⟩
    · obtain ⟨h1, h2, h3, _⟩ := plF_some hk
      obtain ⟨c1, c2, g1, g2, g3⟩ := pairC_some h1
      have D1 := h.snd _ _ _ _ g1
      have D2 := h.snd _ _ _ _ g2
      have l1 := D1.le
      have l2 := D2.le
      have p1 : b = k → 1 ≤ c1 := fun e => D1.pos e
      have p2 : k = e → 1 ≤ c2 := fun e => D2.pos e
      obtain ⟨T1, t1⟩ := h.told m x b k c1 (by by_cases q : k = e <;> omega) (by omega) g1
      obtain ⟨T2, t2⟩ := h.told m y k e c2 (by by_cases q : b = k <;> omega) he g2
      exact ⟨_, .fork hc hp g3 t1 t2⟩
/-! #### the pile -/
inductive Wt where
  | go (n : Name) (b e c : Nat) (T : Tr)
  | mk (n : Name)
def Wt.d : Wt → D
  | .go n b e _ _ => .tup [tx n, .int ((b : Nat) : Int), .int ((e : Nat) : Int)]
  | .mk n => .tup [tx n]
def Wt.ok (rs : List Rl) (t : List Nat) (es : Tb) : Wt → Prop
  | .go n b e c T => Told rs t es n b e c T ∧ e ≤ t.length
  | .mk _ => True
def Wt.sz : Wt → Nat
  | .go _ _ _ _ T => T.sz
  | .mk _ => 1
/-- what the pile comes to -/
def pile : List Wt → List Tr → List Tr
  | [], d => d
  | .go _ _ _ _ T :: w, d => pile w (T :: d)
  | .mk n :: w, r :: l :: d => pile w (.fork n l r :: d)
  | .mk _ :: _, _ => []


/-! ### need_text, costs -/
def sgnD : D → Option D
  | .str s => some (.bl (isSignL s.cps.toList))
  | _ => none
def phi_need_text (C : ErA) : Phi := fun ds Q X => ∃ d, ds = [d] ∧ Plain d ∧ DueT C d X fun t => Q (.sh (tx t))
theorem len_need_text {C : ErA} : ∀ ds Q X, phi_need_text C ds Q X → ds.length = 1 := fun ds Q X h => by
  obtain ⟨_, rfl, _⟩ := h; rfl
theorem c_need_text {C : ErA} {d : D} {Q : R → Prop} {X : Value → Prop} (h1 : Plain d) (q : DueT C d X fun t => Q (.sh (tx t))) : phi_need_text C [d] Q X := ⟨d, rfl, h1, q⟩
theorem sgn_map (l : List Nat) : ((l.map fun c => tx [c]).filterMap sgnD) = (l.map fun c => decide (c ∈ signsL)).map D.bl := by
  rw [List.filterMap_map, List.map_map]
  induction l with
  | nil => rfl
  | cons c l ih =>
    rw [List.filterMap_cons, List.map_cons, ih]
    rfl
theorem not_good_t {t : List Nat} {C : ErA} {X : Value → Prop} {P : List Nat → Prop} (h : DueT C (tx t) X P) (hn : ¬ GoodT t) : X (.ref C.text) := h.1 fun ⟨t', e, g⟩ => hn (tx_inj e ▸ g)
theorem not_text {d : D} {C : ErA} {X : Value → Prop} {P : List Nat → Prop} (h : DueT C d X P) (hn : tyn d ≠ "str") : X (.ref C.text) := h.1 fun ⟨t', e, g⟩ => hn (by rw [e]; rfl)
abbrev N_need_text : List Str := ["text", "sign"]
def t_need_text (K : PySem.W.Frag) (C : ErA) (E : XK) : TS :=
  tSeq (tIfS (tOr (tNot (tTru K (tCB (rIsi K) (tCons (tVar 0) (tCons (tC (.ty "str")) tNil))))) (tOr (tTest (tOp (rI0 fun i j => .bl (decide (j < i))) (tCB (cLen K) (tCons (tVar 0) tNil)) (tC (.int 40)))) (tNot (tTru K (tCB (rAll K) (tCons (tLc (iStr (tVar 0)) (gName 1) tYes (tCall (mkSp K (phi_is_sign C)) [] E0 (tCons (tVar 1) tNil)) [1]) tNil)))))) (tRaise E (.ref C.text)) tNext) (tRet (tVar 0))
theorem w_need_text {K : PySem.W.Frag} {C : ErA} : ∀ ds Q X, phi_need_text C ds Q X → ∀ E, wS K ⟨E, X⟩ (t_need_text K C E) (G0 N_need_text ds) (PoQ Q) := by
  intro ds Q X h E
  obtain ⟨d, rfl, hp, q⟩ := h
  show wS K _ (t_need_text K C E) [.sh d, .no] _
  unfold t_need_text
  rcases hp with ⟨l, rfl, hl, hc0⟩ | ⟨h1, h2⟩
  · walk_at "wgo"
    · rename_i h
      exact not_good_t q fun g => by have := g.le; omega
    · rename_i h
      refine wE_lcS sgnD ?_
      walk_at "w"
      refine ⟨l, rfl, rfl, by omega, fun c hc => ?_, fun a => ?_⟩
      · refine wT_yes ⟨fun _ => ?_, fun e => by cases e⟩
        walk_at "wgo"
        refine c_is_sign (.inl ⟨[c], rfl, Nat.le_trans (Nat.le_refl 1) (by decide), fun x hx => by cases List.mem_singleton.mp hx; exact hc0 c hc⟩) ⟨.inl rfl, _, rfl, rfl, ?_⟩
        walk_at "kv"
      · walk_at "wgo"
        refine wC_all (bs := l.map fun c => decide (c ∈ signsL)) (by show some _ = some _; rw [sgn_map]) ?_
        refine ⟨_, _, rfl, rfl, ?_⟩
        have e : (l.map fun c => decide (c ∈ signsL)).all id = l.all fun c => decide (c ∈ signsL) := by rw [List.all_map]; rfl
        rw [e]
        refine b_not (b_any (fun h2 => ?_) fun h2 => ?_)
        · walk_at "wgo"
          refine q.2 l rfl ⟨by omega, fun c hc => ?_⟩
          exact of_decide_eq_true (List.all_eq_true.mp h2 c hc)
        · walk_at "wgo"
          refine not_good_t q fun g => ?_
          have : (l.all fun c => decide (c ∈ signsL)) = true := List.all_eq_true.mpr fun c hc => decide_eq_true (g.ok c hc)
          rw [this] at h2; cases h2
  · walk_at "wgo"
    refine wC_isi rfl h2 (kit_nstr h1 h2) ?_
    walk_at "wgo"
    exact not_text q h1
def phi_costs (C : ErA) : Phi := fun ds Q X => ∃ l d, ds = [.lst l, d] ∧ (∀ d ∈ l, RuleP d) ∧ l.length ≤ 100000 ∧ Plain d ∧ DueR C l X fun rs => DueT C d X fun t => ∀ a es, TabOk rs t es → Q (.ow a (.dT (enc es)))
theorem len_costs {C : ErA} : ∀ ds Q X, phi_costs C ds Q X → ds.length = 2 := fun ds Q X h => by
  obtain ⟨_, _, rfl, _⟩ := h; rfl
theorem c_costs {C : ErA} {l : List D} {d : D} {Q : R → Prop} {X : Value → Prop} (h1 : ∀ d ∈ l, RuleP d) (h2 : l.length ≤ 100000) (h3 : Plain d) (q : DueR C l X fun rs => DueT C d X fun t => ∀ a es, TabOk rs t es → Q (.ow a (.dT (enc es)))) : phi_costs C [.lst l, d] Q X := ⟨l, d, rfl, h1, h2, h3, q⟩
abbrev N_costs : List Str := ["rules", "text"]
def t_costs (K : PySem.W.Frag) (C : ErA) (E : XK) : TS :=
  tRet (tCall (mkSp K (phi_table_of C)) [] E0 (tCons (tCall (mkSp K (phi_need_rules C)) [] E (tCons (tVar 0) tNil)) (tCons (tCall (mkSp K (phi_need_text C)) [] E (tCons (tVar 1) tNil)) tNil)))
theorem w_costs {K : PySem.W.Frag} {C : ErA} : ∀ ds Q X, phi_costs C ds Q X → ∀ E, wS K ⟨E, X⟩ (t_costs K C E) (G0 N_costs ds) (PoQ Q) := by
  intro ds Q X h E
  obtain ⟨l, d, rfl, h1, h2, h3, q⟩ := h
  show wS K _ (t_costs K C E) [.sh (.lst l), .sh d] _
  unfold t_costs
  walk_at "wgo"
  refine c_need_rules h1 h2 (q.mono fun rs e hg hm hu q1 a => ⟨.inl rfl, ?_⟩)
  walk_at "wgo"
  refine c_need_text h3 (q1.mono fun t e2 ht q2 => ⟨.inl rfl, ?_⟩)
  subst e
  walk_at "wgo"
  exact c_table_of hg.le ht.le fun a es hT => ⟨.inl rfl, q2 a es hT⟩
/-! ### kept_place -/
def phi_kept_place (_ : ErA) : Phi := fun ds Q _ => ∃ (s : Nat) (t : List Nat) (b e : Nat), ds = [tx [s], tx t, .int ((b : Nat) : Int), .int ((e : Nat) : Int)] ∧ b ≤ e ∧ e ≤ t.length ∧ t.length ≤ 100000 ∧ Q (.sh (oD (keptF s t b e)))
theorem len_kept_place {C : ErA} : ∀ ds Q X, phi_kept_place C ds Q X → ds.length = 4 := fun ds Q X h => by
  obtain ⟨_, _, _, _, rfl, _⟩ := h; rfl
theorem c_kept_place {C : ErA} {s : Nat} {t : List Nat} {b e : Nat} {Q : R → Prop} {X : Value → Prop} (h1 : b ≤ e) (h2 : e ≤ t.length) (h3 : t.length ≤ 100000) (q : Q (.sh (oD (keptF s t b e)))) : phi_kept_place C [tx [s], tx t, .int ((b : Nat) : Int), .int ((e : Nat) : Int)] Q X := ⟨_, _, _, _, rfl, h1, h2, h3, q⟩
abbrev N_kept_place : List Str := ["sign", "text", "begin", "end", "place"]
def t_kept_place (K : PySem.W.Frag) (C : ErA) : TS :=
  tSeq (tIfS (tTest (tOp (uEq K) (tVar 2) (tVar 3))) (tRet (tC .non)) tNext) (tSeq (tAsg (tM1 mFind (tSl (uSl K) (tVar 1) (tPart (tVar 2)) (tPart (tVar 3))) (tVar 0)) (gName 4)) (tRet (tOp (uAdd K) (tVar 2) (tCB cMax2 (tCons (tC (.int 0)) (tCons (tVar 4) tNil))))))
theorem w_kept_place {K : PySem.W.Frag} {C : ErA} : ∀ ds Q X, phi_kept_place C ds Q X → ∀ E, wS K ⟨E, X⟩ (t_kept_place K C) (G0 N_kept_place ds) (PoQ Q) := by
  intro ds Q X h E
  obtain ⟨s, t, b, e, rfl, h1, h2, h3, q⟩ := h
  show wS K _ (t_kept_place K C) [.sh (tx [s]), .sh (tx t), .sh (.int ((b : Nat) : Int)), .sh (.int ((e : Nat) : Int)), .no] _
  unfold t_kept_place
  walk_at "wgo"
  · rename_i h
    refine q_sh q ?_
    unfold keptF
    rw [if_pos (by omega)]; rfl
  · rename_i h
    refine wM_findRaw ?_
    rw [cut_nat h1 h2, find_one]
    have hk : keptF s t b e = some (b + (firstIx s ((t.drop b).take (e - b))).getD 0) := if_neg (by omega)
    rw [hk] at q
    cases hf : firstIx s ((t.drop b).take (e - b)) with
    | none =>
      rw [hf] at q
      walk_at "wgo"
      exact q
    | some i =>
      rw [hf] at q
      walk_at "wgo"
      refine q_sh q ?_
      show D.int _ = D.int _
      congr 1
      split <;> simp <;> omega


/-! ### choice -/
def chD : Option (Rl × Option Nat) → D
  | none => .non
  | some p => .tup [ruleD p.1, oD p.2]
def phi_choice (_ : ErA) : Phi := fun ds Q _ => ∃ (es : Tb) (rs : List Rl) (t : List Nat) (n : Name) (b e c : Nat), ds = [.dT (enc es), .lst (rsD rs), tx t, tx n, .int ((b : Nat) : Int), .int ((e : Nat) : Int)] ∧ TabOk rs t es ∧ Gram rs ∧ b ≤ e ∧ e ≤ t.length ∧ t.length ≤ 100000 ∧ tat es (n, b, e) = some c ∧ Q (.sh (chD (chF es t n b e c rs)))
theorem len_choice {C : ErA} : ∀ ds Q X, phi_choice C ds Q X → ds.length = 6 := fun ds Q X h => by
  obtain ⟨_, _, _, _, _, _, _, rfl, _⟩ := h; rfl
theorem c_choice {C : ErA} {es : Tb} {rs : List Rl} {t : List Nat} {n : Name} {b e c : Nat} {Q : R → Prop} {X : Value → Prop} (hT : TabOk rs t es) (hG : Gram rs) (h1 : b ≤ e) (h2 : e ≤ t.length) (h3 : t.length ≤ 100000) (hc : tat es (n, b, e) = some c) (q : Q (.sh (chD (chF es t n b e c rs)))) : phi_choice C [.dT (enc es), .lst (rsD rs), tx t, tx n, .int ((b : Nat) : Int), .int ((e : Nat) : Int)] Q X := ⟨_, _, _, _, _, _, _, rfl, hT, hG, h1, h2, h3, hc, q⟩
theorem look_enc' {es : Tb} {n : Name} {b e c : Nat} (h : tat es (n, b, e) = some c) : look (.t (enc es)) (.tup [tx n, .int ((b : Nat) : Int), .int ((e : Nat) : Int)]) = some (some (V.int ((c : Nat) : Int))) :=
  (look_enc es n b e).trans (by rw [h]; rfl)
theorem chF_drop {es : Tb} {t : List Nat} {n : Name} {b e c : Nat} {rs : List Rl} {k : Nat} {r : Rl} (h : rs[k]? = some r) : rs.drop k = r :: rs.drop (k + 1) := by
  obtain ⟨h1, h2⟩ := List.getElem?_eq_some_iff.mp h
  rw [List.drop_eq_getElem_cons h1, h2]
abbrev N_choice : List Str := ["table", "rules", "text", "name", "begin", "end", "cost", "rule", "place"]
def t_choice (K : PySem.W.Frag) (C : ErA) : TS :=
  tSeq (tAsg (tDGet (tVar 0) (tTup (tCons (tVar 3) (tCons (tVar 4) (tCons (tVar 5) tNil))))) (gName 6)) (tSeq (tFor (iList K (tVar 1)) (gName 7) (tSeq (tIfS (tAnd (tTest (tOp (uEq K) (tOp (rIx K) (tVar 7) (tC (.int 0))) (tVar 3))) (tAnd (tTest (tOp (uEq K) (tCB (cLen K) (tCons (tVar 7) tNil)) (tC (.int 2)))) (tTest (tOp (uEq K) (tCall (mkSp K (phi_leaf_cost C)) [] E0 (tCons (tOp (rIx K) (tVar 7) (tC (.int 1))) (tCons (tVar 2) (tCons (tVar 4) (tCons (tVar 5) tNil))))) (tVar 6))))) (tRet (tTup (tCons (tVar 7) (tCons (tC .non) tNil)))) tNext) (tIfS (tAnd (tTest (tOp (uEq K) (tOp (rIx K) (tVar 7) (tC (.int 0))) (tVar 3))) (tTest (tOp (uEq K) (tCB (cLen K) (tCons (tVar 7) tNil)) (tC (.int 3))))) (tFor (iRng2 (tCons (tVar 4) (tCons (tOp (uAdd K) (tVar 5) (tC (.int 1))) tNil))) (gName 8) (tIfS (tTest (tOp (uEq K) (tOp (uAdd K) (tDGet (tVar 0) (tTup (tCons (tOp (rIx K) (tVar 7) (tC (.int 1))) (tCons (tVar 4) (tCons (tVar 8) tNil))))) (tDGet (tVar 0) (tTup (tCons (tOp (rIx K) (tVar 7) (tC (.int 2))) (tCons (tVar 8) (tCons (tVar 5) tNil)))))) (tVar 6))) (tRet (tTup (tCons (tVar 7) (tCons (tVar 8) tNil)))) tNext)) tNext))) (tRet (tC .non)))
theorem w_choice {K : PySem.W.Frag} {C : ErA} : ∀ ds Q X, phi_choice C ds Q X → ∀ E, wS K ⟨E, X⟩ (t_choice K C) (G0 N_choice ds) (PoQ Q) := by
  intro ds Q X h E
  obtain ⟨es, rs, t, n, b, e, c, rfl, hT, hG, h1, h2, h3, hc, q⟩ := h
  show wS K _ (t_choice K C) [.sh (.dT (enc es)), .sh (.lst (rsD rs)), .sh (tx t), .sh (tx n), .sh (.int ((b : Nat) : Int)), .sh (.int ((e : Nat) : Int)), .no, .no, .no] _
  unfold t_choice
  walk_at "wgo"
  refine wE_dget ?_
  walk_at "wgo"
  refine ⟨_, _, _, _, rfl, rfl, look_enc' hc, rfl, ?_⟩
  walk_at "wgo"
  refine wS_forL ?_
  walk_at "wgo"
  refine ⟨_, rfl, fun k G => ∃ s7 s8, G = [.sh (.dT (enc es)), .sh (.lst (rsD rs)), .sh (tx t), .sh (tx n), .sh (.int ((b : Nat) : Int)), .sh (.int ((e : Nat) : Int)), .sh (.int ((c : Nat) : Int)), s7, s8] ∧ chF es t n b e c rs = chF es t n b e c (rs.drop k), ⟨_, _, rfl, by rw [List.drop_zero]⟩, fun k d G hd h => ?_, fun G h => ?_⟩
  · obtain ⟨s7, s8, rfl, hk⟩ := h
    obtain ⟨r, hr, rfl⟩ := rule_get hd
    have hrm := List.mem_of_getElem? hr
    rw [chF_drop (es := es) (t := t) (n := n) (b := b) (e := e) (c := c) hr] at hk
    refine wG_name ⟨rfl, ?_⟩
    cases r with
    | sg m s =>
      have hk : chF es t n b e c rs = if m = n ∧ lc s t b e = c then some (.sg m s, none) else chF es t n b e c (rs.drop (k + 1)) := hk
      show wS K _ _ [.sh (.dT (enc es)), .sh (.lst (rsD rs)), .sh (tx t), .sh (tx n), .sh (.int ((b : Nat) : Int)), .sh (.int ((e : Nat) : Int)), .sh (.int ((c : Nat) : Int)), .sh (.tup [tx m, tx [s]]), s8] _
      walk_at "wgo"
      · rename_i hm
        refine c_leaf_cost h1 h2 h3 ⟨.inl rfl, ?_⟩
        walk_at "wgo"
        · rename_i hl
          rw [if_pos ⟨hm, by omega⟩] at hk
          exact q_sh q (by rw [hk]; rfl)
        · rename_i hl
          rw [if_neg (fun z => hl (by omega))] at hk
          exact ⟨_, _, rfl, hk⟩
      · rename_i hm
        rw [if_neg (fun z => hm z.1)] at hk
        exact ⟨_, _, rfl, hk⟩
    | fk m x y =>
      have hk : chF es t n b e c rs = if m = n then (match plF (pairC es x y b e) c (e + 1 - b) b with
        | some k => some (.fk m x y, some k)
        | none => chF es t n b e c (rs.drop (k + 1))) else chF es t n b e c (rs.drop (k + 1)) := hk
      obtain ⟨hx, hy⟩ := hG.parts hrm
      show wS K _ _ [.sh (.dT (enc es)), .sh (.lst (rsD rs)), .sh (tx t), .sh (tx n), .sh (.int ((b : Nat) : Int)), .sh (.int ((e : Nat) : Int)), .sh (.int ((c : Nat) : Int)), .sh (.tup [tx m, tx x, tx y]), s8] _
      walk_at "wgo"
      · rename_i hm
        rw [if_pos hm] at hk
        refine wS_forR2 ?_
        walk_at "wgo"
        refine ⟨_, _, rfl, by omega, fun i G => ∃ s8, G = [.sh (.dT (enc es)), .sh (.lst (rsD rs)), .sh (tx t), .sh (tx n), .sh (.int ((b : Nat) : Int)), .sh (.int ((e : Nat) : Int)), .sh (.int ((c : Nat) : Int)), .sh (.tup [tx m, tx x, tx y]), s8] ∧ plF (pairC es x y b e) c (e + 1 - b) b = plF (pairC es x y b e) c (e + 1 - b - i) (b + i), ⟨_, rfl, rfl⟩, fun i G hi h => ?_, fun G h => ?_⟩
        · obtain ⟨s8, rfl, hp⟩ := h
          obtain ⟨c1, g1, _⟩ := hT.get hG.pro hx (b := b) (e := b + i) (by omega) (by omega)
          obtain ⟨c2, g2, _⟩ := hT.get hG.pro hy (b := b + i) (e := e) (by omega) h2
          have ep : pairC es x y b e (b + i) = some (c1 + c2) := by
            unfold pairC
            rw [g1, g2]
          rw [show e + 1 - b - i = (e + 1 - b - (i + 1)) + 1 by omega] at hp
          have hp : plF (pairC es x y b e) c (e + 1 - b) b = if pairC es x y b e (b + i) = some c then some (b + i) else plF (pairC es x y b e) c (e + 1 - b - (i + 1)) (b + i + 1) := hp
          rw [ep] at hp
          refine wG_name ⟨rfl, ?_⟩
          walk_at "wgo"
          refine wE_dget ?_
          walk_at "wgo"
          refine ⟨_, _, _, _, rfl, rfl, look_enc' g1, rfl, ?_⟩
          refine wE_dget ?_
          walk_at "wgo"
          refine ⟨_, _, _, _, rfl, rfl, look_enc' g2, rfl, ?_⟩
          walk_at "wgo"
          · rename_i hl
            rw [if_pos (by rw [show c1 + c2 = c by omega])] at hp
            rw [hp] at hk
            exact q_sh q (by rw [hk]; rfl)
          · rename_i hl
            rw [if_neg (fun z => hl (by cases z; rfl))] at hp
            exact hp
        · obtain ⟨s8, rfl, hp⟩ := h
          rw [show e + 1 - b - ((e : Int) + 1 - (b : Int)).toNat = 0 by omega] at hp
          have hp : plF (pairC es x y b e) c (e + 1 - b) b = none := hp
          rw [hp] at hk
          exact ⟨_, _, rfl, hk⟩
      · rename_i hm
        rw [if_neg hm] at hk
        exact ⟨_, _, rfl, hk⟩
  · obtain ⟨s7, s8, rfl, hk⟩ := h
    walk_at "wgo"
    rw [List.length_map, List.drop_length] at hk
    exact q_sh q (by rw [hk]; rfl)


/-! ### told_tree -/
def Tr.lvs : Tr → Nat
  | .leaf _ _ _ _ _ => 1
  | .fork _ l r => l.lvs + r.lvs
theorem Tr.sz_lvs : ∀ T : Tr, T.sz + 2 = 3 * T.lvs
  | .leaf _ _ _ _ _ => rfl
  | .fork _ l r => by
    have h1 := l.sz_lvs
    have h2 := r.sz_lvs
    show l.sz + r.sz + 2 + 2 = 3 * (l.lvs + r.lvs)
    omega
theorem Told.le {rs : List Rl} {t : List Nat} {es : Tb} (hT : TabOk rs t es) {n : Name} {b e c : Nat} {T : Tr} (h : Told rs t es n b e c T) : b ≤ e := (hT.snd _ _ _ _ h.at_).le
theorem Told.lvs {rs : List Rl} {t : List Nat} {es : Tb} (hT : TabOk rs t es) {n : Name} {b e c : Nat} {T : Tr} (h : Told rs t es n b e c T) : T.lvs ≤ c + (e - b) := by
  induction h with
  | @leaf n s b e c h1 h2 =>
    show 1 ≤ _
    have hD := hT.snd _ _ _ _ h1
    have := hD.le
    by_cases q : b = e
    · have := hD.pos q; omega
    · omega
  | @fork n x y b k e c c1 c2 l r h1 h2 h3 t1 t2 i1 i2 =>
    have l1 := t1.le hT
    have l2 := t2.le hT
    show l.lvs + r.lvs ≤ _
    omega
def phi_told_tree (_ : ErA) : Phi := fun ds Q _ => ∃ (es : Tb) (rs : List Rl) (t : List Nat) (n : Name) (c : Nat), ds = [.dT (enc es), .lst (rsD rs), tx t, tx n, .int ((t.length : Nat) : Int)] ∧ TabOk rs t es ∧ Gram rs ∧ t.length ≤ 100000 ∧ c ≤ 5000 ∧ tat es (n, 0, t.length) = some c ∧ ∀ T, Told rs t es n 0 t.length c T → Q (.sh (treeD T))
theorem len_told_tree {C : ErA} : ∀ ds Q X, phi_told_tree C ds Q X → ds.length = 5 := fun ds Q X h => by
  obtain ⟨_, _, _, _, _, rfl, _⟩ := h; rfl
theorem c_told_tree {C : ErA} {es : Tb} {rs : List Rl} {t : List Nat} {n : Name} {c : Nat} {Q : R → Prop} {X : Value → Prop} (hT : TabOk rs t es) (hG : Gram rs) (h3 : t.length ≤ 100000) (h4 : c ≤ 5000) (hc : tat es (n, 0, t.length) = some c) (q : ∀ T, Told rs t es n 0 t.length c T → Q (.sh (treeD T))) : phi_told_tree C [.dT (enc es), .lst (rsD rs), tx t, tx n, .int ((t.length : Nat) : Int)] Q X := ⟨_, _, _, _, _, rfl, hT, hG, h3, h4, hc, q⟩
def wsD (ws : List Wt) : List D := (ws.map Wt.d).reverse
theorem wsD_cons (w : Wt) (ws : List Wt) : wsD (w :: ws) = wsD ws ++ [w.d] := by
  unfold wsD
  rw [List.map_cons, List.reverse_cons]
def dnD (dn : List Tr) : List D := (dn.map treeD).reverse
theorem dnD_cons (T : Tr) (dn : List Tr) : dnD (T :: dn) = dnD dn ++ [treeD T] := by
  unfold dnD
  rw [List.map_cons, List.reverse_cons]
theorem dnD_len (dn : List Tr) : (dnD dn).length = dn.length := by unfold dnD; simp
theorem wsD_len (ws : List Wt) : (wsD ws).length = ws.length := by unfold wsD; simp
theorem wsD_le (ws : List Wt) : ws.length ≤ (ws.map Wt.sz).sum := by
  induction ws with
  | nil => exact Nat.le_refl _
  | cons w ws ih =>
    rw [List.map_cons, List.sum_cons, List.length_cons]
    have : 1 ≤ w.sz := by
      cases w with
      | go n b e c T => exact T.sz_pos
      | mk n => exact Nat.le_refl _
    omega
theorem tru_cons {ds : List D} {d : D} : tru (.lst (ds ++ [d])) = some true := by
  cases ds <;> rfl
abbrev N_told_tree : List Str := ["table", "rules", "text", "name", "size", "waiting", "done", "row", "other", "one", "rule", "place"]
def t_told_tree (K : PySem.W.Frag) (C : ErA) : TS :=
  tSeq (tAsg (tLst (tCons (tTup (tCons (tVar 3) (tCons (tC (.int 0)) (tCons (tVar 4) tNil)))) tNil)) (gName 5)) (tSeq (tAsg (tLst tNil) (gName 6)) (tSeq (tWhile (tTru K (tVar 5)) (tSeq (tAsg (tBM0 K "list" rPop (tVar 5)) (gName 7)) (tSeq (tIfS (tTest (tOp (uEq K) (tCB (cLen K) (tCons (tVar 7) tNil)) (tC (.int 1)))) (tSeq (tAsg (tBM0 K "list" rPop (tVar 6)) (gName 8)) (tSeq (tAsg (tBM0 K "list" rPop (tVar 6)) (gName 9)) (tSeq (tDrop (tBM K "list" rAppend (tVar 6) (tCons (tTup (tCons (tOp (rIx K) (tVar 7) (tC (.int 0))) (tCons (tVar 9) (tCons (tVar 8) tNil)))) tNil))) tCont))) tNext) (tSeq (tAsg (tCall (mkSp K (phi_choice C)) [] E0 (tCons (tVar 0) (tCons (tVar 1) (tCons (tVar 2) (tCons (tOp (rIx K) (tVar 7) (tC (.int 0))) (tCons (tOp (rIx K) (tVar 7) (tC (.int 1))) (tCons (tOp (rIx K) (tVar 7) (tC (.int 2))) tNil))))))) (gTup K 2 (gCons (gName 10) (gCons (gName 11) gNil)))) (tIfS (tTest (tOp rIsN (tVar 11) (tC .non))) (tDrop (tBM K "list" rAppend (tVar 6) (tCons (tTup (tCons (tOp (rIx K) (tVar 7) (tC (.int 0))) (tCons (tOp (rIx K) (tVar 10) (tC (.int 1))) (tCons (tOp (rIx K) (tVar 7) (tC (.int 1))) (tCons (tOp (rIx K) (tVar 7) (tC (.int 2))) (tCons (tCall (mkSp K (phi_kept_place C)) [] E0 (tCons (tOp (rIx K) (tVar 10) (tC (.int 1))) (tCons (tVar 2) (tCons (tOp (rIx K) (tVar 7) (tC (.int 1))) (tCons (tOp (rIx K) (tVar 7) (tC (.int 2))) tNil))))) tNil)))))) tNil))) (tSeq (tDrop (tBM K "list" rAppend (tVar 5) (tCons (tTup (tCons (tOp (rIx K) (tVar 7) (tC (.int 0))) tNil)) tNil))) (tSeq (tDrop (tBM K "list" rAppend (tVar 5) (tCons (tTup (tCons (tOp (rIx K) (tVar 10) (tC (.int 2))) (tCons (tVar 11) (tCons (tOp (rIx K) (tVar 7) (tC (.int 2))) tNil)))) tNil))) (tDrop (tBM K "list" rAppend (tVar 5) (tCons (tTup (tCons (tOp (rIx K) (tVar 10) (tC (.int 1))) (tCons (tOp (rIx K) (tVar 7) (tC (.int 1))) (tCons (tVar 11) tNil)))) tNil)))))))))) (tRet (tOp (rIx K) (tVar 6) (tC (.int 0))))))
theorem w_told_tree {K : PySem.W.Frag} {C : ErA} : ∀ ds Q X, phi_told_tree C ds Q X → ∀ E, wS K ⟨E, X⟩ (t_told_tree K C) (G0 N_told_tree ds) (PoQ Q) := by
  intro ds Q X h E
  obtain ⟨es, rs, t, n0, c0, rfl, hT, hG, h3, h4, hc, q⟩ := h
  obtain ⟨T, hTd⟩ := hT.told _ n0 0 t.length c0 (Nat.lt_succ_self _) (Nat.le_refl _) hc
  have q := q T hTd
  have hsz : T.sz ≤ 400000 := by
    have h1 := T.sz_lvs
    have h2 := hTd.lvs hT
    omega
  show wS K _ (t_told_tree K C) [.sh (.dT (enc es)), .sh (.lst (rsD rs)), .sh (tx t), .sh (tx n0), .sh (.int ((t.length : Nat) : Int)), .no, .no, .no, .no, .no, .no, .no] _
  unfold t_told_tree
  walk_at "wgo"
  rename_i a5 a6
  refine wS_while (fun m G => ∃ ws dn s7 s8 s9 s10 s11, G = [.sh (.dT (enc es)), .sh (.lst (rsD rs)), .sh (tx t), .sh (tx n0), .sh (.int ((t.length : Nat) : Int)), .ow a5 (.lst (wsD ws)), .ow a6 (.lst (dnD dn)), s7, s8, s9, s10, s11] ∧ (∀ w ∈ ws, w.ok rs t es) ∧ pile ws dn = [T] ∧ m = (ws.map Wt.sz).sum ∧ dn.length + m ≤ T.sz) T.sz
    ⟨[.go n0 0 t.length c0 T], [], _, _, _, _, _, rfl, fun w hw => by cases List.mem_singleton.mp hw; exact ⟨hTd, Nat.le_refl _⟩, rfl, by show T.sz = T.sz + 0; omega, by show 0 + T.sz ≤ T.sz; omega⟩ fun m G h => ?_
  obtain ⟨ws, dn, s7, s8, s9, s10, s11, rfl, hok, hp, rfl, hl⟩ := h
  cases ws with
  | nil =>
    have hp : dn = [T] := hp
    subst hp
    refine wT_tru ?_
    walk_at "w"
    refine ⟨_, false, rfl, rfl, fun e => (by cases e), fun _ => ?_⟩
    walk_at "wgo"
    exact q
  | cons w ws =>
    rw [wsD_cons]
    have hww := hok w List.mem_cons_self
    have hok' : ∀ w ∈ ws, w.ok rs t es := fun x hx => hok x (List.mem_cons_of_mem _ hx)
    have hwl := wsD_le ws
    have hsum : ((w :: ws).map Wt.sz).sum = w.sz + (ws.map Wt.sz).sum := by rw [List.map_cons, List.sum_cons]
    rw [hsum] at hl ⊢
    refine wT_tru ?_
    walk_at "w"
    refine ⟨_, true, rfl, tru_cons, fun _ => ?_, fun e => (by cases e)⟩
    refine wS_seq (wS_asg (wE_pop rfl ?_))
    cases w with
    | mk n =>
      have hz : (Wt.mk n).sz = 1 := rfl
      match dn, hp with
      | r :: l :: dn, hp =>
        have hp : pile ws (.fork n l r :: dn) = [T] := hp
        rw [List.length_cons, List.length_cons] at hl
        show rput (.sh (.tup [tx n])) _ _ _
        walk_at "wgo"
        rw [dnD_cons, dnD_cons]
        refine wE_pop rfl ?_
        walk_at "wgo"
        refine wE_pop rfl ?_
        walk_at "wgo"
        refine ⟨by rw [dnD_len]; omega, ?_⟩
        have e : dnD dn ++ [.tup [tx n, treeD l, treeD r]] = dnD (.fork n l r :: dn) := (dnD_cons (.fork n l r) dn).symm
        rw [e]
        walk_at "wnx"
        exact ⟨_, by omega, ws, _, _, _, _, _, _, rfl, hok', hp, rfl, by rw [List.length_cons]; omega⟩
      | [_], hp => cases hp
      | [], hp => cases hp
    | go n b e c T1 =>
      obtain ⟨hTo, hel⟩ := hww
      have hbe := hTo.le hT
      have hz : (Wt.go n b e c T1).sz = T1.sz := rfl
      have hp : pile ws (T1 :: dn) = [T] := hp
      show rput (.sh (.tup [tx n, .int ((b : Nat) : Int), .int ((e : Nat) : Int)])) _ _ _
      walk_at "wgo"
      refine wS_asgG ?_
      walk_at "wgo"
      refine c_choice hT hG hbe hel h3 hTo.at_ ⟨.inl rfl, ?_⟩
      cases hTo with
      | @leaf _ s _ _ _ g1 g2 =>
        have ech : chD (chF es t n b e c rs) = .tup [.tup [tx n, tx [s]], .non] := by rw [g2]; rfl
        rw [ech]
        refine ⟨_, rfl, wG_tup ⟨rfl, wGs_cons (wG_name ⟨rfl, wGs_cons (wG_name ⟨rfl, wGs_nil ?_⟩)⟩)⟩⟩
        walk_at "wnx"
        refine c_kept_place hbe hel h3 ⟨.inl rfl, ?_⟩
        walk_at "wgo"
        refine ⟨by rw [dnD_len]; omega, ?_⟩
        have e2 : dnD dn ++ [.tup [tx n, tx [s], .int ((b : Nat) : Int), .int ((e : Nat) : Int), oD (keptF s t b e)]] = dnD (.leaf n s b e (keptF s t b e) :: dn) := (dnD_cons (.leaf n s b e (keptF s t b e)) dn).symm
        rw [e2]
        have hz : (Wt.go n b e c (.leaf n s b e (keptF s t b e))).sz = 1 := rfl
        exact ⟨_, by omega, ws, _, _, _, _, _, _, rfl, hok', hp, rfl, by rw [List.length_cons]; omega⟩
      | @fork _ x y _ k _ _ c1 c2 l r g1 g2 g3 t1 t2 =>
        have ech : chD (chF es t n b e c rs) = .tup [.tup [tx n, tx x, tx y], .int ((k : Nat) : Int)] := by rw [g2]; rfl
        rw [ech]
        refine ⟨_, rfl, wG_tup ⟨rfl, wGs_cons (wG_name ⟨rfl, wGs_cons (wG_name ⟨rfl, wGs_nil ?_⟩)⟩)⟩⟩
        have hl1 := t1.le hT
        have hl2 := t2.le hT
        have p1 := l.sz_pos
        have p2 := r.sz_pos
        have hz : (Wt.go n b e c (.fork n l r)).sz = l.sz + r.sz + 2 := rfl
        walk_at "wnx"
        refine ⟨by rw [wsD_len]; omega, ?_⟩
        rw [show wsD ws ++ [.tup [tx n]] = wsD (.mk n :: ws) from (wsD_cons (.mk n) ws).symm]
        walk_at "wnx"
        refine ⟨by rw [wsD_len, List.length_cons]; omega, ?_⟩
        rw [show wsD (.mk n :: ws) ++ [.tup [tx y, .int ((k : Nat) : Int), .int ((e : Nat) : Int)]] = wsD (.go y k e c2 r :: .mk n :: ws) from (wsD_cons (.go y k e c2 r) _).symm]
        walk_at "wnx"
        refine ⟨by rw [wsD_len, List.length_cons, List.length_cons]; omega, ?_⟩
        rw [show wsD (.go y k e c2 r :: .mk n :: ws) ++ [.tup [tx x, .int ((b : Nat) : Int), .int ((k : Nat) : Int)]] = wsD (.go x b k c1 l :: .go y k e c2 r :: .mk n :: ws) from (wsD_cons (.go x b k c1 l) _).symm]
        have hs2 : ((Wt.go x b k c1 l :: .go y k e c2 r :: .mk n :: ws).map Wt.sz).sum = l.sz + (r.sz + (1 + (ws.map Wt.sz).sum)) := rfl
        refine ⟨_, ?_, _, dn, _, _, _, _, _, rfl, ?_, hp, rfl, ?_⟩
        · rw [hs2]; omega
        · intro w hw
          rcases List.mem_cons.mp hw with rfl | hw
          · exact ⟨t1, by omega⟩
          · rcases List.mem_cons.mp hw with rfl | hw
            · exact ⟨t2, hel⟩
            · rcases List.mem_cons.mp hw with rfl | hw
              · trivial
              · exact hok' w hw
        · rw [hs2]; omega


/-! ### mend -/
def topN : List Rl → Name
  | [] => []
  | r :: _ => r.nm
theorem Gram.top {rs : List Rl} (h : Gram rs) : ∃ r l, rs = r :: l ∧ topN rs = r.nm ∧ topN rs ∈ namesOf rs := by
  cases rs with
  | nil => exact absurd rfl h.good.ne
  | cons r l => exact ⟨r, l, rfl, rfl, (mem_namesOf _ _).mpr ⟨r, List.mem_cons_self, rfl⟩⟩
def Small (rs : List Rl) : Prop := ∀ (t : List Nat) (n : Name), n ∈ namesOf rs → ∀ b e : Nat, b ≤ e → ∃ c, Der rs t n b e c ∧ c ≤ 2048 + (e - b)
theorem treeD_flat : ∀ T : Tr, (treeD T).flat = true
  | .leaf n s b e k => by cases k <;> rfl
  | .fork n l r => by
    show (true && ((treeD l).flat && ((treeD r).flat && true))) = true
    rw [treeD_flat l, treeD_flat r]; rfl
def phi_mend (C : ErA) : Phi := fun ds Q X => ∃ l d, ds = [.lst l, d] ∧ (∀ d ∈ l, RuleP d) ∧ l.length ≤ 100000 ∧ Plain d ∧ DueR C l X fun rs => DueT C d X fun t => Small rs ∧ ∀ es T c, TabOk rs t es → Told rs t es (topN rs) 0 t.length c T → Q (.sh (.tup [treeD T, .int ((c : Nat) : Int)]))
theorem len_mend {C : ErA} : ∀ ds Q X, phi_mend C ds Q X → ds.length = 2 := fun ds Q X h => by
  obtain ⟨_, _, rfl, _⟩ := h; rfl
theorem c_mend {C : ErA} {l : List D} {d : D} {Q : R → Prop} {X : Value → Prop} (h1 : ∀ d ∈ l, RuleP d) (h2 : l.length ≤ 100000) (h3 : Plain d) (q : DueR C l X fun rs => DueT C d X fun t => Small rs ∧ ∀ es T c, TabOk rs t es → Told rs t es (topN rs) 0 t.length c T → Q (.sh (.tup [treeD T, .int ((c : Nat) : Int)]))) : phi_mend C [.lst l, d] Q X := ⟨l, d, rfl, h1, h2, h3, q⟩
theorem due_gram {rs : List Rl} (hg : GoodR rs) (hm : ¬ Missing rs) (hu : ¬ Unpro rs) : Gram rs := ⟨hg, hm, unpro_all hu⟩
abbrev N_mend : List Str := ["rules", "text", "good", "table", "top"]
def t_mend (K : PySem.W.Frag) (C : ErA) (E : XK) : TS :=
  tSeq (tAsg (tCall (mkSp K (phi_need_rules C)) [] E (tCons (tVar 0) tNil)) (gName 2)) (tSeq (tDrop (tCall (mkSp K (phi_need_text C)) [] E (tCons (tVar 1) tNil))) (tSeq (tAsg (tCall (mkSp K (phi_table_of C)) [] E0 (tCons (tVar 2) (tCons (tVar 1) tNil))) (gName 3)) (tSeq (tAsg (tOp (rIx K) (tOp (rIx K) (tVar 2) (tC (.int 0))) (tC (.int 0))) (gName 4)) (tRet (tTup (tCons (tCall (mkSp K (phi_told_tree C)) [] E0 (tCons (tVar 3) (tCons (tVar 2) (tCons (tVar 1) (tCons (tVar 4) (tCons (tCB (cLen K) (tCons (tVar 1) tNil)) tNil)))))) (tCons (tDGet (tVar 3) (tTup (tCons (tVar 4) (tCons (tC (.int 0)) (tCons (tCB (cLen K) (tCons (tVar 1) tNil)) tNil))))) tNil)))))))
theorem w_mend {K : PySem.W.Frag} {C : ErA} : ∀ ds Q X, phi_mend C ds Q X → ∀ E, wS K ⟨E, X⟩ (t_mend K C E) (G0 N_mend ds) (PoQ Q) := by
  intro ds Q X h E
  obtain ⟨l, d, rfl, h1, h2, h3, q⟩ := h
  show wS K _ (t_mend K C E) [.sh (.lst l), .sh d, .no, .no, .no] _
  unfold t_mend
  walk_at "wgo"
  refine c_need_rules h1 h2 (q.mono fun rs e hg hm hu q1 a2 => ⟨.inl rfl, ?_⟩)
  have hG := due_gram hg hm hu
  subst e
  walk_at "wgo"
  refine c_need_text h3 (q1.mono fun t e2 ht q2 => ⟨.inl rfl, ?_⟩)
  subst e2
  obtain ⟨hS, q2⟩ := q2
  walk_at "wgo"
  refine c_table_of hg.le ht.le fun a es hT => ⟨.inr rfl, ?_⟩
  obtain ⟨r, l, hrl, hnm, htn⟩ := hG.top
  obtain ⟨ds, e1, e2⟩ := ruleD_0 r
  have hx : atI (rsD rs) 0 = some (ruleD r) := by rw [hrl]; exact atI_at (Int.le_refl 0) rfl
  obtain ⟨c0, hD, hc0⟩ := hS t (topN rs) htn 0 t.length (Nat.zero_le _)
  obtain ⟨c, hc, hD', hmin⟩ := hT.get hG.pro htn (Nat.zero_le _) (Nat.le_refl _)
  have hle := hmin c0 hD
  have htl := ht.le
  walk_at "wgo"
  refine u_ixL rfl hx ?_
  walk_at "wgo"
  refine u_ixR ?_
  rw [← hnm]
  walk_at "wgo"
  refine c_told_tree hT hG (by omega) (by omega) hc fun T hTd => ⟨.inr (treeD_flat T), ?_⟩
  walk_at "wgo"
  refine wE_dget ?_
  walk_at "wgo"
  refine ⟨_, _, _, _, rfl, rfl, look_enc' (b := 0) (e := t.length) hc, rfl, ?_⟩
  walk_at "wgo"
  exact q2 es T c hT hTd


/-! ### grammars whose trees are small -/
def SmallK (m : Nat) (rs : List Rl) : Prop := ∀ (t : List Nat) (n : Name), n ∈ namesOf rs → ∀ b e : Nat, b ≤ e → ∃ c, Der rs t n b e c ∧ c ≤ m + (e - b)
theorem lc_le (s : Nat) (t : List Nat) (b e : Nat) (h : b ≤ e) : lc s t b e ≤ 1 + (e - b) := by
  unfold lc
  split
  · omega
  · omega
theorem Built.der {ns : List Name} {rs : List Rl} (h : Built ns ns.length rs) (t : List Nat) : ∀ (k : Nat) (n : Name), ns[k]? = some n → ∀ b e : Nat, b ≤ e → ∃ c, Der rs t n b e c ∧ c ≤ 2 ^ k + (e - b) := fun k => by
  induction k using Nat.strongRecOn with
  | ind k ih =>
    intro n hn b e hb
    obtain ⟨r, hr, e1, e2, e3⟩ := h.base k n (List.getElem?_eq_some_iff.mp hn).1 hn
    have hp : 1 ≤ 2 ^ k := Nat.one_le_two_pow
    cases r with
    | sg m s =>
      cases e1
      have := lc_le s t b e hb
      exact ⟨_, .sg hr hb, by omega⟩
    | fk m x y =>
      cases e1
      obtain ⟨h1, h2⟩ := e3 x y rfl
      have t' : ∀ z, z ∈ ns.take k → ∃ i, i < k ∧ ns[i]? = some z := fun z hz => by
        obtain ⟨i, hi, e⟩ := List.mem_iff_getElem.mp hz
        rw [List.length_take] at hi
        rw [List.getElem_take] at e
        exact ⟨i, by omega, List.getElem?_eq_some_iff.mpr ⟨by omega, e⟩⟩
      obtain ⟨i, hi, gi⟩ := t' x h1
      obtain ⟨j, hj, gj⟩ := t' y h2
      obtain ⟨c, d1, l1⟩ := ih i hi x gi b b (Nat.le_refl _)
      obtain ⟨d, d2, l2⟩ := ih j hj y gj b e hb
      refine ⟨c + d, .fk hr d1 d2, ?_⟩
      have p1 : 2 ^ i ≤ 2 ^ (k - 1) := Nat.pow_le_pow_right (by decide) (by omega)
      have p2 : 2 ^ j ≤ 2 ^ (k - 1) := Nat.pow_le_pow_right (by decide) (by omega)
      have p3 : 2 ^ k = 2 ^ (k - 1) * 2 := by rw [← Nat.pow_succ]; congr 1; omega
      omega
theorem Built.small {ns : List Name} {rs : List Rl} (h : Built ns ns.length rs) {m : Nat} (hm : ∀ k, k < ns.length → 2 ^ k ≤ m) : SmallK m rs := fun t n hn b e hb => by
  obtain ⟨r, hr, e1⟩ := (mem_namesOf rs n).mp hn
  have hin := h.inn r hr
  have hnn : n ∈ ns := by
    cases r with
    | sg m s => cases e1; exact hin
    | fk m x y => cases e1; exact hin.1
  obtain ⟨i, hi⟩ := List.mem_iff_getElem?.mp hnn
  obtain ⟨c, hD, hc⟩ := h.der t i n hi b e hb
  have := hm i (List.getElem?_eq_some_iff.mp hi).1
  exact ⟨c, hD, by omega⟩
theorem SmallK.mono {m m' : Nat} {rs : List Rl} (h : SmallK m rs) (hm : m ≤ m') : SmallK m' rs := fun t n hn b e hb => by
  obtain ⟨c, hD, hc⟩ := h t n hn b e hb
  exact ⟨c, hD, by omega⟩
theorem SmallK.small {m : Nat} {rs : List Rl} (h : SmallK m rs) (hm : m ≤ 2048) : Small rs := h.mono hm
theorem pow_12 : ∀ k, k < 12 → 2 ^ k ≤ 2048 := by decide
theorem pow_4 : ∀ k, k < 4 → 2 ^ k ≤ 8 := by decide
/-! ### signs drawn -/
def signX (b k : Int) : Nat := signsL.getD ((b + 31 * k).fmod 94).toNat 0
theorem signX_ok (b k : Int) : signX b k ∈ signsL := by
  have h := fmod_rng (b + 31 * k) (n := 94) (by decide)
  exact getD_mem 0 (by show _ < 94; omega)
theorem lower_great' : Txt.lower (mk greatL) = mk lettersL := by decide +kernel
def phi_l_sign (_ : ErA) : Phi := fun ds Q _ => ∃ b k : Int, ds = [.int b, .int k] ∧ Q (.sh (tx [signX b k]))
theorem len_l_sign {C : ErA} : ∀ ds Q X, phi_l_sign C ds Q X → ds.length = 2 := fun ds Q X h => by
  obtain ⟨_, _, rfl, _⟩ := h; rfl
theorem c_l_sign {C : ErA} {b k : Int} {Q : R → Prop} {X : Value → Prop} (q : Q (.sh (tx [signX b k]))) : phi_l_sign C [.int b, .int k] Q X := ⟨b, k, rfl, q⟩
local macro_rules | `(tactic| walk_at "w") => `(tactic| (with_reducible refine' c_l_sign ⟨Or.inl rfl, ?_⟩))
theorem textX_ok {n : Nat} {b : Int} {f : Nat → Int} (h : n ≤ 40) : GoodT ((List.range n).map fun i => signX b (f i)) := by
  refine ⟨by rw [List.length_map, List.length_range]; exact h, fun c hc => ?_⟩
  obtain ⟨i, _, rfl⟩ := List.mem_map.mp hc
  exact signX_ok _ _


/-! ### tables alike; data of trees -/
theorem u_eqSame {K : PySem.W.Frag} {Z : Ec} {G : Sl} {Q : R → Sl → Prop} {x y : R} {d : D} (hx : dv G x = some d) (hy : dv G y = some d) (h1 : dat 64 d = true) (h2 : noB d = true) (q : Q (.sh (.bl true)) G) : wR K Z (uEq K) x y G Q :=
  u_eqD hx hy h1 h1 (by rw [eqD_self h2]; exact q)
theorem u_neSame {K : PySem.W.Frag} {Z : Ec} {G : Sl} {Q : R → Sl → Prop} {x y : R} {d : D} (hx : dv G x = some d) (hy : dv G y = some d) (h1 : dat 64 d = true) (h2 : noB d = true) (q : Q (.sh (.bl false)) G) : wR K Z (uNe K) x y G Q :=
  u_neD hx hy h1 h1 (by rw [eqD_self h2]; exact q)
theorem dat_oD (n : Nat) (o : Option Nat) : dat n (oD o) = true := by cases o <;> cases n <;> (unfold oD dat; rfl)
theorem dat_int (n : Nat) (i : Int) : dat n (.int i) = true := by cases n <;> (unfold dat; rfl)
theorem noB_oD (o : Option Nat) : noB (oD o) = true := by cases o <;> (unfold oD noB; rfl)
theorem dat_leaf {N : Nat} {n : Name} {s b e : Nat} {k : Option Nat} (h : (Rl.sg n s).ok = true) : dat (N + 1) (treeD (.leaf n s b e k)) = true := by
  have h := Bool.and_eq_true_iff.mp h
  show datA N [tx n, tx [s], .int ((b : Nat) : Int), .int ((e : Nat) : Int), oD k] = true
  simp only [datA, dat_name h.1, dat_sign (of_decide_eq_true h.2), dat_int, dat_oD, Bool.and_self]
theorem noB_tree : ∀ T : Tr, noB (treeD T) = true
  | .leaf n s b e k => by
    show noBA [tx n, tx [s], .int ((b : Nat) : Int), .int ((e : Nat) : Int), oD k] = true
    simp only [noBA, noB_oD, Bool.and_true]
    rfl
  | .fork n l r => by
    show noBA [tx n, treeD l, treeD r] = true
    simp only [noBA, noB_tree l, noB_tree r, Bool.and_true]
    rfl
/-- two tables of the same text tell the same -/
theorem TabOk.same {rs : List Rl} {t : List Nat} {es es' : Tb} (h : TabOk rs t es) (h' : TabOk rs t es') (n : Name) {b e : Nat} (hb : b ≤ e) (he : e ≤ t.length) : tat es (n, b, e) = tat es' (n, b, e) := by
  cases q : tat es (n, b, e) with
  | none =>
    cases q' : tat es' (n, b, e) with
    | none => rfl
    | some c =>
      obtain ⟨c2, h2, _⟩ := h.mn b e hb he n c (h'.snd _ _ _ _ q')
      rw [q] at h2; cases h2
  | some c =>
    obtain ⟨c2, h2, l2⟩ := h'.mn b e hb he n c (h.snd _ _ _ _ q)
    obtain ⟨c3, h3, l3⟩ := h.mn b e hb he n c2 (h'.snd _ _ _ _ h2)
    rw [q] at h3; cases h3
    rw [h2]
    congr 1; omega
theorem plF_congr {f g : Nat → Option Nat} {c : Nat} : ∀ {m k : Nat}, (∀ j, k ≤ j → j < k + m → f j = g j) → plF f c m k = plF g c m k
  | 0, _, _ => rfl
  | m + 1, k, h => by
    show (if f k = some c then some k else plF f c m (k + 1)) = if g k = some c then some k else plF g c m (k + 1)
    rw [h k (Nat.le_refl _) (by omega), plF_congr (m := m) (k := k + 1) fun j h1 h2 => h j (by omega) (by omega)]
theorem chF_same {rs : List Rl} {t : List Nat} {es es' : Tb} (h : TabOk rs t es) (h' : TabOk rs t es') {n : Name} {b e c : Nat} (he : e ≤ t.length) : ∀ l : List Rl, chF es t n b e c l = chF es' t n b e c l
  | [] => rfl
  | .sg m s :: l => by
    show (if m = n ∧ lc s t b e = c then some (.sg m s, none) else chF es t n b e c l) = if m = n ∧ lc s t b e = c then some (.sg m s, none) else chF es' t n b e c l
    rw [chF_same h h' he l]
  | .fk m x y :: l => by
    show (if m = n then (match plF (pairC es x y b e) c (e + 1 - b) b with
      | some k => some (Rl.fk m x y, some k)
      | none => chF es t n b e c l) else chF es t n b e c l) = if m = n then (match plF (pairC es' x y b e) c (e + 1 - b) b with
      | some k => some (.fk m x y, some k)
      | none => chF es' t n b e c l) else chF es' t n b e c l
    rw [chF_same h h' he l, plF_congr (f := pairC es x y b e) (g := pairC es' x y b e) fun j h1 h2 => by
      unfold pairC
      rw [h.same h' x h1 (by omega), h.same h' y (b := j) (e := e) (by omega) he]]
theorem Told.same {rs : List Rl} {t : List Nat} {es es' : Tb} (h : TabOk rs t es) (h' : TabOk rs t es') {n : Name} {b e c : Nat} {T : Tr} (hT : Told rs t es n b e c T) : e ≤ t.length → Told rs t es' n b e c T := by
  induction hT with
  | @leaf n s b e c h1 h2 =>
    intro he
    have hle := (h.snd _ _ _ _ h1).le
    exact .leaf (by rw [← h.same h' n hle he]; exact h1) (by rw [← chF_same h h' he]; exact h2)
  | @fork n x y b k e c c1 c2 l r h1 h2 h3 t1 t2 i1 i2 =>
    intro he
    have hle := (h.snd _ _ _ _ h1).le
    have hl2 := t2.le h
    exact .fork (by rw [← h.same h' n hle he]; exact h1) (by rw [← chF_same h h' he]; exact h2) h3 (i1 (by omega)) (i2 he)


/-! ### words aligned with texts -/
inductive Yld (rs : List Rl) : Name → List Nat → Prop where
  | sg {n : Name} {s : Nat} : Rl.sg n s ∈ rs → Yld rs n [s]
  | fk {n x y : Name} {u v : List Nat} : Rl.fk n x y ∈ rs → Yld rs x u → Yld rs y v → Yld rs n (u ++ v)
/-- what a sign costs over a stretch of signs -/
def lcu (s : Nat) (u : List Nat) : Nat := if u = [] then 1 else u.length - (if s ∈ u then 1 else 0)
inductive Ali : List Nat → List Nat → Nat → Prop where
  | nil : Ali [] [] 0
  | cons {s : Nat} {u w v : List Nat} {c : Nat} : Ali w v c → Ali (s :: w) (u ++ v) (lcu s u + c)
def cutT (t : List Nat) (b e : Nat) : List Nat := (t.drop b).take (e - b)
theorem cutT_len {t : List Nat} {b e : Nat} (h : e ≤ t.length) : (cutT t b e).length = e - b := by
  unfold cutT
  rw [List.length_take, List.length_drop]; omega
theorem cutT_app {t : List Nat} {b k e : Nat} (h1 : b ≤ k) (h2 : k ≤ e) : cutT t b e = cutT t b k ++ cutT t k e := by
  unfold cutT
  rw [show e - b = (k - b) + (e - k) by omega, List.take_add, List.drop_drop, show b + (k - b) = k by omega]
theorem cutT_nil (t : List Nat) (b : Nat) : cutT t b b = [] := by
  unfold cutT
  rw [Nat.sub_self, List.take_zero]
theorem cutT_all (t : List Nat) : cutT t 0 t.length = t := by
  unfold cutT
  rw [List.drop_zero, Nat.sub_zero, List.take_length]
theorem lc_lcu {s : Nat} {t : List Nat} {b e : Nat} (h1 : b ≤ e) (h2 : e ≤ t.length) : lc s t b e = lcu s (cutT t b e) := by
  have hl := cutT_len (b := b) h2
  unfold lc lcu
  by_cases q : b = e
  · subst q
    rw [if_pos rfl, if_pos (cutT_nil t b)]
  · have hne : ¬ cutT t b e = [] := fun z => q (by rw [z] at hl; simp at hl; omega)
    rw [if_neg q, if_neg hne, hl]
    rfl
theorem Ali.app {w v : List Nat} {c : Nat} (h : Ali w v c) {w' v' : List Nat} {c' : Nat} (h' : Ali w' v' c') : Ali (w ++ w') (v ++ v') (c + c') := by
  induction h with
  | nil => simpa using h'
  | @cons s u w v c _ ih =>
    rw [List.cons_append, List.append_assoc, Nat.add_assoc]
    exact .cons ih
theorem Ali.split {w1 : List Nat} : ∀ {w2 v : List Nat} {c : Nat}, Ali (w1 ++ w2) v c → ∃ v1 v2 c1 c2, v = v1 ++ v2 ∧ c = c1 + c2 ∧ Ali w1 v1 c1 ∧ Ali w2 v2 c2 := by
  induction w1 with
  | nil => intro w2 v c h; exact ⟨[], v, 0, c, rfl, by omega, .nil, h⟩
  | cons s w1 ih =>
    intro w2 v c h
    rw [List.cons_append] at h
    generalize hq : s :: (w1 ++ w2) = w at h
    cases h with
    | nil => cases hq
    | @cons s' u w' v' c' h =>
      cases hq
      obtain ⟨v1, v2, c1, c2, rfl, rfl, h1, h2⟩ := ih h
      exact ⟨u ++ v1, v2, lcu s u + c1, c2, by rw [List.append_assoc], by omega, .cons h1, h2⟩
theorem Der.ali {rs : List Rl} {t : List Nat} {n : Name} {b e c : Nat} (h : Der rs t n b e c) : e ≤ t.length → ∃ w, Yld rs n w ∧ Ali w (cutT t b e) c := by
  induction h with
  | @sg n s b e hr hb =>
    intro he
    refine ⟨[s], .sg hr, ?_⟩
    have := Ali.cons (s := s) (u := cutT t b e) .nil
    rw [List.append_nil, Nat.add_zero] at this
    rw [lc_lcu hb he]; exact this
  | @fk n x y b k e c d hr d1 d2 i1 i2 =>
    intro he
    have l1 := d1.le
    have l2 := d2.le
    obtain ⟨w1, y1, a1⟩ := i1 (by omega)
    obtain ⟨w2, y2, a2⟩ := i2 he
    refine ⟨w1 ++ w2, .fk hr y1 y2, ?_⟩
    rw [cutT_app l1 l2]
    exact a1.app a2
theorem Yld.der {rs : List Rl} {t : List Nat} {n : Name} {w : List Nat} (h : Yld rs n w) : ∀ {b e c : Nat}, b ≤ e → e ≤ t.length → Ali w (cutT t b e) c → Der rs t n b e c := by
  induction h with
  | @sg n s hr =>
    intro b e c hb he ha
    generalize hv : cutT t b e = v at ha
    cases ha with
    | @cons _ u _ v c h =>
      cases h
      rw [List.append_nil] at hv
      rw [Nat.add_zero, ← hv, ← lc_lcu hb he]
      exact .sg hr hb
  | @fk n x y u v hr _ _ i1 i2 =>
    intro b e c hb he ha
    obtain ⟨v1, v2, c1, c2, e1, rfl, a1, a2⟩ := ha.split
    have hl := cutT_len (b := b) he
    rw [e1, List.length_append] at hl
    have hk : cutT t b e = cutT t b (b + v1.length) ++ cutT t (b + v1.length) e := cutT_app (by omega) (by omega)
    rw [hk] at e1
    have hl2 := cutT_len (t := t) (b := b) (e := b + v1.length) (by omega)
    obtain ⟨e2, e3⟩ := List.append_inj e1 (by rw [hl2]; omega)
    rw [← e2] at a1
    rw [← e3] at a2
    exact .fk hr (i1 (by omega) (by omega) a1) (i2 (by omega) he a2)
theorem Ali.self : ∀ w : List Nat, Ali w w 0
  | [] => .nil
  | s :: w => by
    have h := Ali.cons (s := s) (u := [s]) (Ali.self w)
    have : lcu s [s] = 0 := by unfold lcu; simp
    rw [this, Nat.add_zero] at h
    exact h
theorem Ali.zero {w v : List Nat} {c : Nat} (h : Ali w v c) : c = 0 → v = w := by
  induction h with
  | nil => intro _; rfl
  | @cons s u w v c _ ih =>
    intro hc
    have h1 : lcu s u = 0 := by omega
    have h2 := ih (by omega)
    unfold lcu at h1
    split at h1
    · omega
    · rename_i hne
      have hu : u = [s] := by
        match u with
        | [] => exact absurd rfl hne
        | [x] =>
          by_cases q : s ∈ [x]
          · rw [List.mem_singleton.mp q]
          · rw [if_neg q] at h1; cases h1
        | x :: y :: r =>
          simp only [List.length_cons] at h1
          split at h1 <;> omega
      rw [hu, h2]; rfl
theorem Yld.ne {rs : List Rl} {n : Name} {w : List Nat} (h : Yld rs n w) : w ≠ [] := by
  induction h with
  | sg _ => simp
  | fk _ _ _ i1 _ => intro e; exact i1 (List.append_eq_nil_iff.mp e).1
/-! #### one sign more, less or other -/
def Ed (u v : List Nat) : Prop := ∃ p x y q, u = p ++ x ++ q ∧ v = p ++ y ++ q ∧ x.length ≤ 1 ∧ y.length ≤ 1
theorem lcu_ed {s : Nat} {u v : List Nat} (h : Ed u v) : lcu s v ≤ lcu s u + 1 := by
  obtain ⟨p, x, y, q, rfl, rfl, hx, hy⟩ := h
  have hl : (p ++ y ++ q).length ≤ (p ++ x ++ q).length + 1 := by
    simp only [List.length_append]; omega
  have hm : (p ++ y ++ q).length = (p ++ x ++ q).length + 1 → x = [] := fun e => by
    simp only [List.length_append] at e
    exact List.eq_nil_of_length_eq_zero (by omega)
  unfold lcu
  by_cases e1 : p ++ y ++ q = []
  · rw [if_pos e1]
    omega
  · rw [if_neg e1]
    by_cases e2 : p ++ x ++ q = []
    · rw [if_pos e2]
      rw [e2] at hl
      simp only [List.length_nil] at hl
      omega
    · rw [if_neg e2]
      by_cases hs : s ∈ p ++ x ++ q
      · rw [if_pos hs]
        by_cases hg : (p ++ y ++ q).length = (p ++ x ++ q).length + 1
        · have hx0 := hm hg
          subst hx0
          have hs' : s ∈ p ++ y ++ q := by
            simp only [List.append_nil, List.mem_append] at hs ⊢
            rcases hs with h | h
            · exact .inl (.inl h)
            · exact .inr h
          rw [if_pos hs']; omega
        · split <;> omega
      · rw [if_neg hs]
        split <;> omega
theorem Ali.ed {w v : List Nat} {c : Nat} (h : Ali w v c) : w ≠ [] → ∀ v', Ed v v' → ∃ c', Ali w v' c' ∧ c' ≤ c + 1 := by
  induction h with
  | nil => intro h; exact absurd rfl h
  | @cons s u w v c ha ih =>
    rintro _ v' ⟨p, x, y, q, e1, rfl, hx, hy⟩
    -- either the place lies in u, or in v
    by_cases hw : w = []
    · subst hw
      cases ha
      rw [List.append_nil] at e1
      have h1 := lcu_ed (s := s) (u := u) (v := p ++ y ++ q) ⟨p, x, y, q, e1, rfl, hx, hy⟩
      have h2 := Ali.cons (s := s) (u := p ++ y ++ q) Ali.nil
      rw [List.append_nil, Nat.add_zero] at h2
      exact ⟨_, h2, by omega⟩
    · by_cases hp : p.length + x.length ≤ u.length
      · -- within u
        have hu : u = p ++ x ++ q.take (u.length - (p.length + x.length)) ∧ v = q.drop (u.length - (p.length + x.length)) := by
          have h3 : p ++ x ++ q = (p ++ x ++ q.take (u.length - (p.length + x.length))) ++ q.drop (u.length - (p.length + x.length)) := by
            rw [List.append_assoc (p ++ x), List.take_append_drop]
          rw [h3] at e1
          by_cases hq : u.length - (p.length + x.length) ≤ q.length
          · have := List.append_inj e1 (by
              simp only [List.length_append, List.length_take]
              omega)
            exact this
          · have hl := congrArg List.length e1
            simp only [List.length_append, List.length_take, List.length_drop] at hl
            omega
        obtain ⟨hu1, hv1⟩ := hu
        have h1 := lcu_ed (s := s) (u := u) (v := p ++ y ++ q.take (u.length - (p.length + x.length))) ⟨p, x, y, _, hu1, rfl, hx, hy⟩
        have h2 := Ali.cons (s := s) (u := p ++ y ++ q.take (u.length - (p.length + x.length))) ha
        rw [hv1, List.append_assoc (p ++ y), List.take_append_drop] at h2
        exact ⟨_, h2, by omega⟩
      · -- within v
        have hpl : u.length ≤ p.length := by
          by_cases hx0 : x.length = 0
          · omega
          · omega
        have h3 : p ++ x ++ q = p.take u.length ++ (p.drop u.length ++ x ++ q) := by
          rw [← List.append_assoc, ← List.append_assoc, List.take_append_drop]
        rw [h3] at e1
        obtain ⟨e2, e3⟩ := List.append_inj e1 (by rw [List.length_take]; omega)
        obtain ⟨c', a1, a2⟩ := ih hw (p.drop u.length ++ y ++ q) ⟨p.drop u.length, x, y, q, e3, rfl, hx, hy⟩
        have h2 := Ali.cons (s := s) (u := u) a1
        have h4 : u ++ (p.drop u.length ++ y ++ q) = p ++ y ++ q := by
          rw [← List.append_assoc, ← List.append_assoc]
          congr 2
          conv => lhs; lhs; rw [e2]
          exact List.take_append_drop _ _
        rw [h4] at h2
        exact ⟨_, h2, by omega⟩
/-! #### the least cost over the whole text -/
def MinC (rs : List Rl) (t : List Nat) (n : Name) (c : Nat) : Prop := Der rs t n 0 t.length c ∧ ∀ c', Der rs t n 0 t.length c' → c ≤ c'
theorem MinC.ed {rs : List Rl} {t t' : List Nat} {n : Name} {c c' : Nat} (h : MinC rs t n c) (h' : MinC rs t' n c') (hE : Ed t t') : c' ≤ c + 1 := by
  obtain ⟨w, y, a⟩ := h.1.ali (Nat.le_refl _)
  rw [cutT_all] at a
  obtain ⟨c2, a2, l2⟩ := a.ed y.ne t' hE
  rw [← cutT_all t'] at a2
  have := h'.2 c2 (y.der (Nat.zero_le _) (Nat.le_refl _) a2)
  omega
theorem Ed.symm {u v : List Nat} (h : Ed u v) : Ed v u := by
  obtain ⟨p, x, y, q, h1, h2, h3, h4⟩ := h
  exact ⟨p, y, x, q, h2, h1, h4, h3⟩
theorem MinC.uniq {rs : List Rl} {t : List Nat} {n : Name} {c c' : Nat} (h : MinC rs t n c) (h' : MinC rs t n c') : c = c' := by
  have h1 := h.2 c' h'.1
  have h2 := h'.2 c h.1
  omega
theorem Yld.zero {rs : List Rl} {n : Name} {w : List Nat} (h : Yld rs n w) : MinC rs w n 0 :=
  ⟨h.der (Nat.zero_le _) (Nat.le_refl _) (by rw [cutT_all]; exact Ali.self w), fun c' _ => Nat.zero_le _⟩
theorem MinC.read {rs : List Rl} {t : List Nat} {n : Name} (h : MinC rs t n 0) : Yld rs n t := by
  obtain ⟨w, y, a⟩ := h.1.ali (Nat.le_refl _)
  have := a.zero rfl
  rw [cutT_all] at this
  rw [this]; exact y
/-! #### the told tree's text -/
def Tr.txt : Tr → List Nat
  | .leaf _ s _ _ _ => [s]
  | .fork _ l r => l.txt ++ r.txt
theorem Told.min {rs : List Rl} {t : List Nat} {es : Tb} (hT : TabOk rs t es) {n : Name} {c : Nat} {T : Tr} (h : Told rs t es n 0 t.length c T) : MinC rs t n c :=
  ⟨hT.snd _ _ _ _ h.at_, fun c' hD => by
    obtain ⟨c2, h2, l2⟩ := hT.mn 0 t.length (Nat.zero_le _) (Nat.le_refl _) n c' hD
    rw [h.at_] at h2; cases h2
    exact l2⟩
theorem Told.ali {rs : List Rl} {t : List Nat} {es : Tb} (hT : TabOk rs t es) {n : Name} {b e c : Nat} {T : Tr} (h : Told rs t es n b e c T) : e ≤ t.length → Yld rs n T.txt ∧ Ali T.txt (cutT t b e) c := by
  induction h with
  | @leaf n s b e c h1 h2 =>
    intro he
    have hb := (hT.snd _ _ _ _ h1).le
    obtain ⟨hm, ⟨s', e1, e2⟩ | ⟨x, y, k, e1, _⟩⟩ := chF_some h2
    · cases e1
      refine ⟨.sg hm, ?_⟩
      have := Ali.cons (s := s) (u := cutT t b e) .nil
      rw [List.append_nil, Nat.add_zero, ← lc_lcu hb he, e2] at this
      exact this
    · cases e1
  | @fork n x y b k e c c1 c2 l r h1 h2 h3 t1 t2 i1 i2 =>
    intro he
    have l1 := t1.le hT
    have l2 := t2.le hT
    obtain ⟨y1, a1⟩ := i1 (by omega)
    obtain ⟨y2, a2⟩ := i2 he
    refine ⟨.fk (chF_some h2).1 y1 y2, ?_⟩
    rw [cutT_app l1 l2, ← h3]
    exact a1.app a2
theorem Told.zero {rs : List Rl} {t : List Nat} {es : Tb} (hT : TabOk rs t es) {n : Name} {c : Nat} {T : Tr} (h : Told rs t es n 0 t.length c T) : T.txt = t ↔ c = 0 := by
  obtain ⟨y, a⟩ := h.ali hT (Nat.le_refl _)
  rw [cutT_all] at a
  constructor
  · intro e
    rw [e] at y
    exact (h.min hT).uniq y.zero
  · intro e
    exact (a.zero e).symm


/-! ### reads -/
def phi_reads (C : ErA) : Phi := fun ds Q X => ∃ l d, ds = [.lst l, d] ∧ (∀ d ∈ l, RuleP d) ∧ l.length ≤ 100000 ∧ Plain d ∧ DueR C l X fun rs => DueT C d X fun t => ∀ c, MinC rs t (topN rs) c → Q (.sh (.bl (decide (c = 0))))
theorem len_reads {C : ErA} : ∀ ds Q X, phi_reads C ds Q X → ds.length = 2 := fun ds Q X h => by
  obtain ⟨_, _, rfl, _⟩ := h; rfl
theorem c_reads {C : ErA} {l : List D} {d : D} {Q : R → Prop} {X : Value → Prop} (h1 : ∀ d ∈ l, RuleP d) (h2 : l.length ≤ 100000) (h3 : Plain d) (q : DueR C l X fun rs => DueT C d X fun t => ∀ c, MinC rs t (topN rs) c → Q (.sh (.bl (decide (c = 0))))) : phi_reads C [.lst l, d] Q X := ⟨l, d, rfl, h1, h2, h3, q⟩
abbrev N_reads : List Str := ["rules", "text", "good"]
def t_reads (K : PySem.W.Frag) (C : ErA) (E : XK) : TS :=
  tSeq (tAsg (tCall (mkSp K (phi_need_rules C)) [] E (tCons (tVar 0) tNil)) (gName 2)) (tSeq (tDrop (tCall (mkSp K (phi_need_text C)) [] E (tCons (tVar 1) tNil))) (tRet (tOp (uEq K) (tDGet (tCall (mkSp K (phi_table_of C)) [] E0 (tCons (tVar 2) (tCons (tVar 1) tNil))) (tTup (tCons (tOp (rIx K) (tOp (rIx K) (tVar 2) (tC (.int 0))) (tC (.int 0))) (tCons (tC (.int 0)) (tCons (tCB (cLen K) (tCons (tVar 1) tNil)) tNil))))) (tC (.int 0)))))
theorem w_reads {K : PySem.W.Frag} {C : ErA} : ∀ ds Q X, phi_reads C ds Q X → ∀ E, wS K ⟨E, X⟩ (t_reads K C E) (G0 N_reads ds) (PoQ Q) := by
  intro ds Q X h E
  obtain ⟨l, d, rfl, h1, h2, h3, q⟩ := h
  show wS K _ (t_reads K C E) [.sh (.lst l), .sh d, .no] _
  unfold t_reads
  walk_at "wgo"
  refine c_need_rules h1 h2 (q.mono fun rs e hg hm hu q1 a2 => ⟨.inl rfl, ?_⟩)
  have hG := due_gram hg hm hu
  subst e
  walk_at "wgo"
  refine c_need_text h3 (q1.mono fun t e2 ht q2 => ⟨.inl rfl, ?_⟩)
  subst e2
  obtain ⟨r, l, hrl, hnm, htn⟩ := hG.top
  have hx : atI (rsD rs) 0 = some (ruleD r) := by rw [hrl]; exact atI_at (Int.le_refl 0) rfl
  have htl := ht.le
  walk_at "wgo"
  refine wE_dget ?_
  walk_at "wgo"
  refine c_table_of hg.le ht.le fun a es hT => ⟨.inr rfl, ?_⟩
  obtain ⟨c, hc, hD', hmin⟩ := hT.get hG.pro htn (Nat.zero_le _) (Nat.le_refl _)
  walk_at "wgo"
  refine u_ixL rfl hx ?_
  walk_at "wgo"
  refine u_ixR ?_
  rw [← hnm]
  walk_at "wgo"
  refine ⟨_, _, _, _, rfl, rfl, look_enc' (b := 0) (e := t.length) hc, rfl, ?_⟩
  walk_at "wgo"
  refine q_bl (q2 c ⟨hD', hmin⟩) ?_
  exact decide_eq_decide.mpr (by omega)


/-! ### any data -/
mutual
def okD : D → Bool
  | .non => true
  | .bl _ => true
  | .int _ => true
  | .str s => decide (s.cps.toList.length ≤ 100000) && s.cps.toList.all fun c => decide (c < 1114112)
  | .tup l => okA l
  | .lst l => okA l
  | .dK _ => true
  | _ => false
def okA : List D → Bool
  | [] => true
  | d :: l => okD d && okA l
end
theorem okA_mem : ∀ {l : List D} {d : D}, okA l = true → d ∈ l → okD d = true
  | [], _, _, h => by cases h
  | x :: l, d, h, hd => by
    unfold okA at h
    have h := Bool.and_eq_true_iff.mp h
    rcases List.mem_cons.mp hd with rfl | hd
    · exact h.1
    · exact okA_mem h.2 hd
theorem okD_str {s : Str} (h : okD (.str s) = true) : Tx s.cps.toList := by
  unfold okD at h
  have h := Bool.and_eq_true_iff.mp h
  exact ⟨of_decide_eq_true h.1, fun c hc => of_decide_eq_true (List.all_eq_true.mp h.2 c hc)⟩
theorem okD_pl {d : D} (h : okD d = true) : isPl d = true := by
  cases d <;> first | rfl | (unfold okD at h; cases h)
theorem okD_plain {d : D} (h : okD d = true) : Plain d := by
  cases d with
  | str s => exact .inl ⟨s.cps.toList, congrArg D.str (mk_of s), okD_str h⟩
  | _ => first | exact .inr ⟨by simp [tyn], rfl⟩ | (exfalso; unfold okD at h; cases h)
theorem okD_tup {l : List D} (h : okD (.tup l) = true) : okA l = true := by unfold okD at h; exact h
theorem dat_tx {n : Nat} {l : List Nat} (h : ∀ c ∈ l, c < 1114112) : dat n (tx l) = true := by
  have e : (mk l).cps.all (· < 0x110000) = true := by
    rw [Array.all_eq_true_iff_forall_mem]
    intro c hc
    exact decide_eq_true (h c (by simpa using hc))
  cases n <;> (unfold dat; exact e)
def isI : D → Bool
  | .int _ => true
  | _ => false
def isT : D → Bool
  | .tup _ => true
  | _ => false
def isStr : D → Bool
  | .str _ => true
  | _ => false
theorem isI_of {d : D} (h : isI d = true) : ∃ i, d = .int i := by cases d <;> first | exact ⟨_, rfl⟩ | cases h
theorem isT_of {d : D} (h : isT d = true) : ∃ l, d = .tup l := by cases d <;> first | exact ⟨_, rfl⟩ | cases h
theorem isStr_of {d : D} (h : isStr d = true) : ∃ l, d = tx l := by
  cases d <;> first | cases h | skip
  rename_i s
  exact ⟨s.cps.toList, congrArg D.str (mk_of s)⟩
theorem kit_T {d : D} (hp : isPl d = true) : kitB (tyn d) "tuple" = some (isT d) := by
  cases d <;> first | rfl | cases hp
theorem kit_S {d : D} (hp : isPl d = true) : kitB (tyn d) "str" = some (isStr d) := by
  cases d <;> first | rfl | cases hp
def isIB : D → Bool
  | .int _ => true
  | .bl _ => true
  | _ => false
def isB : D → Bool
  | .bl _ => true
  | _ => false
theorem kit_I {d : D} (hp : isPl d = true) : kitB (tyn d) "int" = some (isIB d) := by
  cases d <;> first | exact kit_bi | rfl | cases hp
theorem kit_B {d : D} (hp : isPl d = true) : kitB (tyn d) "bool" = some (isB d) := by
  cases d <;> first | exact kit_ib | rfl | cases hp
section
variable {K : PySem.W.Frag} {Z : Ec} {G : Sl} {Q : R → Sl → Prop}
theorem wC_isT {d : D} (h : okD d = true) (q : Q (.sh (.bl (isT d))) G) : wC K Z (rIsi K) [.sh d, .sh (.ty "tuple")] G Q := wC_isi rfl (okD_pl h) (kit_T (okD_pl h)) q
theorem wC_isS {d : D} (h : okD d = true) (q : Q (.sh (.bl (isStr d))) G) : wC K Z (rIsi K) [.sh d, .sh (.ty "str")] G Q := wC_isi rfl (okD_pl h) (kit_S (okD_pl h)) q
theorem wC_isI {d : D} (h : okD d = true) (q : Q (.sh (.bl (isIB d))) G) : wC K Z (rIsi K) [.sh d, .sh (.ty "int")] G Q := wC_isi rfl (okD_pl h) (kit_I (okD_pl h)) q
theorem wC_isB {d : D} (h : okD d = true) (q : Q (.sh (.bl (isB d))) G) : wC K Z (rIsi K) [.sh d, .sh (.ty "bool")] G Q := wC_isi rfl (okD_pl h) (kit_B (okD_pl h)) q
end
/-! #### is_place -/
def phi_is_place (_ : ErA) : Phi := fun ds Q _ => ∃ d, ds = [d] ∧ okD d = true ∧ Q (.sh (.bl (isI d)))
theorem len_is_place {C : ErA} : ∀ ds Q X, phi_is_place C ds Q X → ds.length = 1 := fun ds Q X h => by
  obtain ⟨_, rfl, _⟩ := h; rfl
theorem c_is_place {C : ErA} {d : D} {Q : R → Prop} {X : Value → Prop} (h : okD d = true) (q : Q (.sh (.bl (isI d)))) : phi_is_place C [d] Q X := ⟨d, rfl, h, q⟩
local macro_rules | `(tactic| walk_at "w") => `(tactic| ((with_reducible refine' wC_isT ?p ?_); (case p => assumption)))
local macro_rules | `(tactic| walk_at "w") => `(tactic| ((with_reducible refine' wC_isS ?p ?_); (case p => assumption)))
local macro_rules | `(tactic| walk_at "w") => `(tactic| ((with_reducible refine' wC_isI ?p ?_); (case p => assumption)))
local macro_rules | `(tactic| walk_at "w") => `(tactic| ((with_reducible refine' wC_isB ?p ?_); (case p => assumption)))
local macro_rules | `(tactic| walk_at "w") => `(tactic| ((with_reducible refine' c_is_place ?p ⟨Or.inl rfl, ?_⟩); (case p => assumption)))
/-! #### is_leaf -/
def anyR (rs : List Rl) (d : D) : Bool := (rsD rs).any fun e => eqD e d
theorem anyR_iff {rs : List Rl} {d : D} (h : noB d = true) : anyR rs d = true ↔ d ∈ rsD rs := by
  unfold anyR
  rw [List.any_eq_true]
  constructor
  · rintro ⟨e, he, h2⟩
    obtain ⟨r, hr, rfl⟩ := List.mem_map.mp he
    have := (eqD_iff _ _ (noB_rule r) h).mp h2
    rw [← this]; exact he
  · intro hd
    obtain ⟨r, hr, rfl⟩ := List.mem_map.mp hd
    exact ⟨_, hd, (eqD_iff _ _ (noB_rule r) h).mpr rfl⟩
theorem mem_rs2 {rs : List Rl} {n l : List Nat} : D.tup [tx n, tx l] ∈ rsD rs ↔ ∃ s, l = [s] ∧ Rl.sg n s ∈ rs := by
  rw [List.mem_map]
  constructor
  · rintro ⟨r, hr, e⟩
    cases r with
    | sg m s =>
      have e : D.tup [tx m, tx [s]] = D.tup [tx n, tx l] := e
      simp only [D.tup.injEq, List.cons.injEq, and_true] at e
      obtain ⟨e1, e2⟩ := e
      cases tx_inj e1
      exact ⟨s, (tx_inj e2).symm, hr⟩
    | fk m a b =>
      have e : D.tup [tx m, tx a, tx b] = D.tup [tx n, tx l] := e
      simp at e
  · rintro ⟨s, rfl, h⟩
    exact ⟨_, h, rfl⟩
theorem mem_rs3 {rs : List Rl} {n u v : List Nat} : D.tup [tx n, tx u, tx v] ∈ rsD rs ↔ Rl.fk n u v ∈ rs := by
  rw [List.mem_map]
  constructor
  · rintro ⟨r, hr, e⟩
    cases r with
    | sg m s =>
      have e : D.tup [tx m, tx [s]] = D.tup [tx n, tx u, tx v] := e
      simp at e
    | fk m a b =>
      have e : D.tup [tx m, tx a, tx b] = D.tup [tx n, tx u, tx v] := e
      simp only [D.tup.injEq, List.cons.injEq, and_true] at e
      obtain ⟨e1, e2, e3⟩ := e
      cases tx_inj e1
      cases tx_inj e2
      cases tx_inj e3
      exact hr
  · intro h
    exact ⟨_, h, rfl⟩
/-- a leaf by the rules, wherever it lies -/
def LeafP (rs : List Rl) (x0 x1 x2 x3 x4 : D) : Prop := ∃ n s b e, x0 = tx n ∧ x1 = tx [s] ∧ x2 = .int b ∧ x3 = .int e ∧ Rl.sg n s ∈ rs ∧ (b = e → x4 = .non) ∧ (b ≠ e → ∃ k : Int, x4 = .int k ∧ b ≤ k ∧ k < e)
def phi_is_leaf (_ : ErA) : Phi := fun ds Q _ => ∃ (rs : List Rl) (x0 x1 x2 x3 x4 : D), ds = [.tup [x0, x1, x2, x3, x4], .lst (rsD rs)] ∧ okA [x0, x1, x2, x3, x4] = true ∧ (∀ r ∈ rs, r.ok = true) ∧ ∀ b : Bool, (b = true ↔ LeafP rs x0 x1 x2 x3 x4) → Q (.sh (.bl b))
theorem len_is_leaf {C : ErA} : ∀ ds Q X, phi_is_leaf C ds Q X → ds.length = 2 := fun ds Q X h => by
  obtain ⟨_, _, _, _, _, _, rfl, _⟩ := h; rfl
theorem c_is_leaf {C : ErA} {rs : List Rl} {x0 x1 x2 x3 x4 : D} {Q : R → Prop} {X : Value → Prop} (h1 : okA [x0, x1, x2, x3, x4] = true) (h2 : ∀ r ∈ rs, r.ok = true) (q : ∀ b : Bool, (b = true ↔ LeafP rs x0 x1 x2 x3 x4) → Q (.sh (.bl b))) : phi_is_leaf C [.tup [x0, x1, x2, x3, x4], .lst (rsD rs)] Q X := ⟨rs, x0, x1, x2, x3, x4, rfl, h1, h2, q⟩
theorem leafP_iff {rs : List Rl} {n l : List Nat} {b e : Int} {x4 : D} : LeafP rs (tx n) (tx l) (.int b) (.int e) x4 ↔ (∃ s, l = [s] ∧ Rl.sg n s ∈ rs) ∧ (b = e → x4 = .non) ∧ (b ≠ e → ∃ k : Int, x4 = .int k ∧ b ≤ k ∧ k < e) := by
  constructor
  · rintro ⟨n', s, b', e', e0, e1, e2, e3, h1, h2, h3⟩
    cases tx_inj e0
    cases tx_inj e1
    cases e2; cases e3
    exact ⟨⟨s, rfl, h1⟩, h2, h3⟩
  · rintro ⟨⟨s, rfl, h1⟩, h2, h3⟩
    exact ⟨n, s, b, e, rfl, rfl, rfl, rfl, h1, h2, h3⟩
/-! ### law k02: grammars -/
theorem sgAb (x : Int) : [97, 98, 32, 43].getD (x.fmod 4).toNat 0 ∈ signsL := by
  have h := fmod_rng x (n := 4) (by decide)
  exact sgn_mem (by show _ < 4; omega) (by decide +kernel)
def phi_l_rules (_ : ErA) : Phi := fun ds Q _ => ∃ ns b, ds = [.scr ns, .int b] ∧ ∀ a (nl : List Name) rs, Built nl nl.length rs → 0 < nl.length → nl.length ≤ 4 → (∀ x ∈ nl, isNameL x = true) → rs ≠ [] → rs.length ≤ 41 → Q (.ow a (.lst (rsD rs)))
theorem len_l_rules {C : ErA} : ∀ ds Q X, phi_l_rules C ds Q X → ds.length = 2 := fun ds Q X h => by
  obtain ⟨_, _, rfl, _⟩ := h; rfl
theorem c_l_rules {C : ErA} {ns : List Int} {b : Int} {Q : R → Prop} {X : Value → Prop} (q : ∀ a (nl : List Name) rs, Built nl nl.length rs → 0 < nl.length → nl.length ≤ 4 → (∀ x ∈ nl, isNameL x = true) → rs ≠ [] → rs.length ≤ 41 → Q (.ow a (.lst (rsD rs)))) : phi_l_rules C [.scr ns, .int b] Q X := ⟨ns, b, rfl, q⟩
local macro_rules | `(tactic| walk_at "w") => `(tactic| (with_reducible refine' c_l_word ⟨Or.inl rfl, ?_⟩))
abbrev N_l_rules : List Str := ["_law_script", "_law_base", "_law_count", "_law_names", "_law_rules_here", "_law_k", "_law_most", "_law_cell", "_law_one", "_law_other"]
def t_l_rules (K : PySem.W.Frag) (C : ErA) : TS :=
  tSeq (tAsg (tOp (uAdd K) (tC (.int 1)) (tOp (rI (fun _ j => j ≠ 0) fun i j => .int (i.fmod j)) (tVar 1) (tC (.int 4)))) (gName 2)) (tSeq (tAsg (tLc (iRng1 (tCons (tVar 2) tNil)) (gName 5) tYes (tCall (mkSp K (phi_l_word C)) [] E0 (tCons (tOp (rI CDivN fun i j => .int (i.fdiv j)) (tVar 1) (tC (.int 4))) (tCons (tVar 5) tNil))) [5]) (gName 3)) (tSeq (tAsg (tLst tNil) (gName 4)) (tSeq (tFor (iRng1 (tCons (tVar 2) tNil)) (gName 5) (tSeq (tAsg (tCall (mkSp K (phi_l_at C)) [] E0 (tCons (tVar 0) (tCons (tOp (uAdd K) (tC (.int 2)) (tVar 5)) tNil))) (gName 7)) (tIfS (tOr (tTest (tOp (uEq K) (tVar 5) (tC (.int 0)))) (tTest (tOp (uEq K) (tOp (rI (fun _ j => j ≠ 0) fun i j => .int (i.fmod j)) (tVar 7) (tC (.int 2))) (tC (.int 0))))) (tDrop (tBM K "list" rAppend (tVar 4) (tCons (tTup (tCons (tOp (rIx K) (tVar 3) (tVar 5)) (tCons (tOp (rIx K) (tC (.str (mk [97, 98, 32, 43]))) (tOp (rI (fun _ j => j ≠ 0) fun i j => .int (i.fmod j)) (tOp (rI CDivN fun i j => .int (i.fdiv j)) (tVar 7) (tC (.int 2))) (tC (.int 4)))) tNil))) tNil))) (tDrop (tBM K "list" rAppend (tVar 4) (tCons (tTup (tCons (tOp (rIx K) (tVar 3) (tVar 5)) (tCons (tOp (rIx K) (tVar 3) (tOp (rI (fun _ j => j ≠ 0) fun i j => .int (i.fmod j)) (tOp (rI CDivN fun i j => .int (i.fdiv j)) (tVar 7) (tC (.int 2))) (tVar 5))) (tCons (tOp (rIx K) (tVar 3) (tOp (rI (fun _ j => j ≠ 0) fun i j => .int (i.fmod j)) (tOp (rI CDivN fun i j => .int (i.fdiv j)) (tVar 7) (tC (.int 8))) (tVar 5))) tNil)))) tNil)))))) (tSeq (tAsg (tOp (uAdd K) (tCB (cLen K) (tCons (tVar 4) tNil)) (tOp (rI (fun _ j => j ≠ 0) fun i j => .int (i.fmod j)) (tCall (mkSp K (phi_l_at C)) [] E0 (tCons (tVar 0) (tCons (tC (.int 1)) tNil))) (tC (.int 7)))) (gName 6)) (tSeq (tIfS (tTest (tOp (uEq K) (tOp (rI (fun _ j => j ≠ 0) fun i j => .int (i.fmod j)) (tOp (rI CDivN fun i j => .int (i.fdiv j)) (tCall (mkSp K (phi_l_at C)) [] E0 (tCons (tVar 0) (tCons (tC (.int 1)) tNil))) (tC (.int 7))) (tC (.int 6))) (tC (.int 1)))) (tAsg (tOp (uAdd K) (tC (.int 39)) (tOp (rI (fun _ j => j ≠ 0) fun i j => .int (i.fmod j)) (tOp (rI CDivN fun i j => .int (i.fdiv j)) (tCall (mkSp K (phi_l_at C)) [] E0 (tCons (tVar 0) (tCons (tC (.int 1)) tNil))) (tC (.int 42))) (tC (.int 3)))) (gName 6)) tNext) (tSeq (tWhile (tTest (tOp (rI0 fun i j => .bl (decide (i < j))) (tCB (cLen K) (tCons (tVar 4) tNil)) (tVar 6))) (tSeq (tAsg (tOp (uAdd K) (tCall (mkSp K (phi_l_at C)) [] E0 (tCons (tVar 0) (tCons (tOp (uAdd K) (tC (.int 6)) (tOp (rI (fun _ j => j ≠ 0) fun i j => .int (i.fmod j)) (tCB (cLen K) (tCons (tVar 4) tNil)) (tC (.int 6)))) tNil))) (tOp uMul (tC (.int 13)) (tCB (cLen K) (tCons (tVar 4) tNil)))) (gName 7)) (tSeq (tPar 8 9 (tCons (tOp (rIx K) (tVar 3) (tOp (rI (fun _ j => j ≠ 0) fun i j => .int (i.fmod j)) (tOp (rI CDivN fun i j => .int (i.fdiv j)) (tVar 7) (tC (.int 3))) (tVar 2))) (tCons (tOp (rIx K) (tVar 3) (tOp (rI (fun _ j => j ≠ 0) fun i j => .int (i.fmod j)) (tOp (rI CDivN fun i j => .int (i.fdiv j)) (tVar 7) (tC (.int 12))) (tVar 2))) tNil))) (tDrop (tBM K "list" rAppend (tVar 4) (tCons (tTup (tCons (tOp (rIx K) (tVar 3) (tOp (rI (fun _ j => j ≠ 0) fun i j => .int (i.fmod j)) (tVar 7) (tVar 2))) (tCons (tVar 8) (tCons (tVar 9) tNil)))) tNil)))))) (tSeq (tIfS (tTest (tOp (uEq K) (tOp (rI (fun _ j => j ≠ 0) fun i j => .int (i.fmod j)) (tOp (rI CDivN fun i j => .int (i.fdiv j)) (tVar 1) (tC (.int 4))) (tC (.int 2))) (tC (.int 1)))) (tDrop (tBM0 K "list" rReverse (tVar 4))) tNext) (tRet (tVar 4)))))))))
theorem w_l_rules {K : PySem.W.Frag} {C : ErA} : ∀ ds Q X, phi_l_rules C ds Q X → ∀ E, wS K ⟨E, X⟩ (t_l_rules K C) (G0 N_l_rules ds) (PoQ Q) := by
  intro ds Q X h E
  obtain ⟨ns, b, rfl, q⟩ := h
  show wS K _ (t_l_rules K C) [.sh (.scr ns), .sh (.int b), .no, .no, .no, .no, .no, .no, .no, .no] _
  unfold t_l_rules
  have hb1 := fmod_rng b (n := 4) (by decide)
  obtain ⟨n, hn, hn1, hn2⟩ : ∃ n : Nat, 1 + b.fmod 4 = (n : Int) ∧ 1 ≤ n ∧ n ≤ 4 := ⟨(1 + b.fmod 4).toNat, by omega, by omega, by omega⟩
  walk_at "wst"
  rw [hn]
  walk_at "wst"
  refine wE_lcR (fun j : Nat => tx (wordL (b.fdiv 4) (j : Int))) ?_
  walk_at "wgo"
  refine ⟨_, rfl, rfl, by omega, by omega, fun j hj => ?_, fun a3 => ?_⟩
  · refine wT_yes ⟨rfl, ?_⟩
    walk_at "wgo"
    walk_at "keep"
  rw [Int.toNat_natCast, wordsL_tx]
  have hnl := wordsL_len (b.fdiv 4) n
  have hok := wordsL_ok (b.fdiv 4) n
  generalize wordsL (b.fdiv 4) n = nl at hnl hok
  walk_at "wgo"
  rename_i a4
  refine wS_forR1 ?_
  walk_at "wgo"
  refine ⟨_, rfl, by omega, by omega, fun j G => ∃ rs s5 s7, G = [.sh (.scr ns), .sh (.int b), .sh (.int ((n : Nat) : Int)), .ow a3 (.lst (nl.map tx)), .ow a4 (.lst (rsD rs)), s5, .no, s7, .no, .no] ∧ Built nl j rs ∧ rs.length = j, ⟨[], _, _, rfl, .start nl, rfl⟩, fun j G hj h => ?_, fun G h => ?_⟩
  · obtain ⟨rs, s5, s7, rfl, hB, hrl⟩ := h
    have hjn : j < nl.length := by omega
    obtain ⟨x, hx⟩ : ∃ x, nl[j]? = some x := ⟨_, List.getElem?_eq_getElem hjn⟩
    have hxo := hok x (List.mem_of_getElem? hx)
    refine wG_name ⟨rfl, ?_⟩
    walk_at "wgo"
    · refine u_ixL rfl (ix_nm hx) ?_
      walk_at "wgo"
      refine ⟨by rw [List.length_map]; omega, ?_⟩
      rw [rsD_sg]
      exact ⟨_, _, _, rfl, hB.sg hx hxo (sgAb _), len1 hrl⟩
    · refine u_ixL rfl (ix_nm hx) ?_
      walk_at "wgo"
      refine ⟨by rw [List.length_map]; omega, ?_⟩
      rw [rsD_sg]
      exact ⟨_, _, _, rfl, hB.sg hx hxo (sgAb _), len1 hrl⟩
    · rename_i hj0 _
      obtain ⟨i1, y1, g1, g2, g3⟩ := ix_fm (nl := nl) ((cell ns (2 + (j : Int))).fdiv 2) (k := (j : Int)) (by omega) (by omega)
      obtain ⟨i2, y2, g4, g5, g6⟩ := ix_fm (nl := nl) ((cell ns (2 + (j : Int))).fdiv 8) (k := (j : Int)) (by omega) (by omega)
      refine u_ixL rfl (ix_nm hx) ?_
      walk_at "wgo"
      refine u_ixL rfl g3 ?_
      walk_at "wgo"
      refine u_ixL rfl g6 ?_
      walk_at "wgo"
      refine ⟨by rw [List.length_map]; omega, ?_⟩
      rw [rsD_fk]
      exact ⟨_, _, _, rfl, hB.fk hx g1 g4 (by omega) (by omega) hok, len1 hrl⟩
  · obtain ⟨rs, s5, s7, rfl, hB, hrl⟩ := h
    rw [Int.toNat_natCast, ← hnl] at hB
    rw [Int.toNat_natCast] at hrl
    have hm := fmod_rng (cell ns 1) (n := 7) (by decide)
    have hm2 := fmod_rng ((cell ns 1).fdiv 42) (n := 3) (by decide)
    have hl0 : (rsD rs).length = n := (List.length_map ..).trans hrl
    walk_at "wst"
    refine wS_cut (fun G => ∃ (m : Nat) (s5 s7 : Slot), G = [.sh (.scr ns), .sh (.int b), .sh (.int ((n : Nat) : Int)), .ow a3 (.lst (nl.map tx)), .ow a4 (.lst (rsD rs)), s5, .sh (.int ((m : Nat) : Int)), s7, .no, .no] ∧ m ≤ 41) ?_ fun G h => ?_
    · walk_at "wgo"
      · exact ⟨(39 + ((cell ns 1).fdiv 42).fmod 3).toNat, _, _, by rw [Int.toNat_of_nonneg (by omega)], by omega⟩
      · exact ⟨(((rsD rs).length : Int) + (cell ns 1).fmod 7).toNat, _, _, by rw [Int.toNat_of_nonneg (by omega)], by omega⟩
    obtain ⟨m, s5, s7, rfl, hm41⟩ := h
    walk_at "wst"
    refine wS_while (fun q G => ∃ rs s5 s7 s8 s9, G = [.sh (.scr ns), .sh (.int b), .sh (.int ((n : Nat) : Int)), .ow a3 (.lst (nl.map tx)), .ow a4 (.lst (rsD rs)), s5, .sh (.int ((m : Nat) : Int)), s7, s8, s9] ∧ Built nl nl.length rs ∧ n ≤ rs.length ∧ rs.length ≤ 41 ∧ q = 41 - rs.length) (41 - rs.length) ⟨rs, _, _, _, _, rfl, hB, by omega, by omega, rfl⟩ fun q0 G h => ?_
    obtain ⟨rs, s5, s7, s8, s9, rfl, hB, hrl1, hrl2, hq⟩ := h
    have hl0 : (rsD rs).length = rs.length := List.length_map ..
    have h6 := fmod_rng (((rsD rs).length : Nat) : Int) (n := 6) (by decide)
    walk_at "wst"
    · rename_i hlt
      obtain ⟨i1, y1, g1, g2, g3⟩ := ix_fm (nl := nl) ((cell ns (6 + (((rsD rs).length : Nat) : Int).fmod 6) + 13 * (((rsD rs).length : Nat) : Int)).fdiv 3) (k := (n : Int)) (by omega) (by omega)
      obtain ⟨i2, y2, g4, g5, g6⟩ := ix_fm (nl := nl) ((cell ns (6 + (((rsD rs).length : Nat) : Int).fmod 6) + 13 * (((rsD rs).length : Nat) : Int)).fdiv 12) (k := (n : Int)) (by omega) (by omega)
      obtain ⟨i3, y3, g7, g8, g9⟩ := ix_fm (nl := nl) (cell ns (6 + (((rsD rs).length : Nat) : Int).fmod 6) + 13 * (((rsD rs).length : Nat) : Int)) (k := (n : Int)) (by omega) (by omega)
      have m1 := List.mem_of_getElem? g1
      have m2 := List.mem_of_getElem? g4
      have m3 := List.mem_of_getElem? g7
      refine u_ixL rfl g3 ?_
      walk_at "wgo"
      refine u_ixL rfl g6 ?_
      walk_at "wgo"
      refine ⟨_, _, rfl, rfl, rfl, ?_⟩
      walk_at "wnx"
      refine u_ixL rfl g9 ?_
      walk_at "wgo"
      refine ⟨by omega, ?_⟩
      rw [rsD_fk]
      exact ⟨41 - (rs.length + 1), by omega, _, _, _, _, _, rfl, hB.moreFk m3 m1 m2 hok, by rw [List.length_append]; omega, by rw [List.length_append, List.length_singleton]; omega, by rw [List.length_append, List.length_singleton]⟩
    · have hne : rs ≠ [] := fun e => by rw [e] at hrl1; simp at hrl1; omega
      walk_at "wgo"
      · refine wS_rev rfl ?_
        rw [rsD_rev]
        walk_at "wnx"
        exact q _ _ _ hB.rev (by omega) (by omega) hok (fun e => hne (List.reverse_eq_nil_iff.mp e)) (by rw [List.length_reverse]; omega)
      · exact q _ _ _ hB (by omega) (by omega) hok hne (by omega)


/-! #### what is wrong in a grammar -/
theorem okD_tx {l : List Nat} (h : Tx l) : okD (tx l) = true := by
  show (decide ((mk l).cps.toList.length ≤ 100000) && (mk l).cps.toList.all fun c => decide (c < 1114112)) = true
  rw [show (mk l).cps.toList = l from rfl, decide_eq_true h.1, Bool.true_and, List.all_eq_true]
  exact fun c hc => decide_eq_true (h.2 c hc)
theorem lt_letters : ∀ c ∈ lettersL, c < 1114112 := by decide +kernel
theorem tx_name {l : Name} (h : isNameL l = true) : Tx l := by
  unfold isNameL at h
  simp only [Bool.and_eq_true, decide_eq_true_eq, List.all_eq_true] at h
  exact ⟨by omega, fun c hc => lt_letters c (h.2 c hc)⟩
theorem tx_sign {s : Nat} (h : s ∈ signsL) : Tx [s] := ⟨by show 1 ≤ 100000; decide, fun c hc => by cases List.mem_singleton.mp hc; exact signs_lt _ h⟩
theorem okA_cons {d : D} {l : List D} (h1 : okD d = true) (h2 : okA l = true) : okA (d :: l) = true := by
  show (okD d && okA l) = true
  rw [h1, h2]; rfl
theorem okD_of {l : List D} (h : okA l = true) : okD (.tup l) = true := h
theorem okA_all : ∀ {l : List D}, (∀ d ∈ l, okD d = true) → okA l = true
  | [], _ => rfl
  | d :: l, h => okA_cons (h d List.mem_cons_self) (okA_all fun x hx => h x (List.mem_cons_of_mem _ hx))
structure OddR (d : D) : Prop where
  ok : okD d = true
  dt : dat 63 d = true
  nb : noB d = true
  sg : ∀ (x : D) (c : Nat), d = .tup [x, tx [c]] → c ∈ signsL
theorem sg_no2 {l : List D} (h : l.length ≠ 2) : ∀ (x : D) (c : Nat), D.tup l = .tup [x, tx [c]] → c ∈ signsL := fun x c e => by
  rw [D.tup.inj e] at h
  exact absurd rfl h
theorem sg_tx {y : D} {l : List Nat} (h : ∀ c, l = [c] → c ∈ signsL) : ∀ (x : D) (c : Nat), D.tup [y, tx l] = .tup [x, tx [c]] → c ∈ signsL := fun x c e => by
  have := D.tup.inj e
  rw [List.cons.injEq, List.cons.injEq] at this
  exact h c (tx_inj this.2.1)
theorem sg_ns {y z : D} (h : isStr z = false) : ∀ (x : D) (c : Nat), D.tup [y, z] = .tup [x, tx [c]] → c ∈ signsL := fun x c e => by
  have := D.tup.inj e
  rw [List.cons.injEq, List.cons.injEq] at this
  rw [this.2.1] at h
  cases h
theorem sg_nt {d : D} (h : isT d = false) : ∀ (x : D) (c : Nat), d = .tup [x, tx [c]] → c ∈ signsL := fun x c e => by rw [e] at h; cases h
theorem odd_tup {l : List D} (h1 : okA l = true) (h2 : datA 62 l = true) (h3 : noBA l = true) (h4 : ∀ (x : D) (c : Nat), D.tup l = .tup [x, tx [c]] → c ∈ signsL) : OddR (.tup l) := ⟨okD_of h1, h2, h3, h4⟩
theorem odd_rule {r : Rl} (h : r.ok = true) : OddR (ruleD r) := by
  cases r with
  | sg n s =>
    have h' := Bool.and_eq_true_iff.mp h
    have hs : s ∈ signsL := of_decide_eq_true h'.2
    exact ⟨okD_of (okA_cons (okD_tx (tx_name h'.1)) (okA_cons (okD_tx (tx_sign hs)) rfl)), dat_rule h, noB_rule _, sg_tx fun c e => by cases e; exact hs⟩
  | fk n a b =>
    have h1 := Bool.and_eq_true_iff.mp h
    have h2 := Bool.and_eq_true_iff.mp h1.2
    exact ⟨okD_of (okA_cons (okD_tx (tx_name h1.1)) (okA_cons (okD_tx (tx_name h2.1)) (okA_cons (okD_tx (tx_name h2.2)) rfl))), dat_rule h, noB_rule _, sg_no2 (by show 3 ≠ 2; decide)⟩
structure BadD (d : D) : Prop where
  no : isRuleD d = false
  odd : OddR d
def badL (n : Name) : List D :=
  [.tup [tx [97]], .tup [tx [97], tx [97, 98]], .lst [tx [97], tx [98]], .tup [tx [65], tx [98]], .non, .tup [tx [97], tx [98], tx [99], tx [100]], .tup [tx [97], tx []], .tup [tx [97], tx [98], .int 5], tx [97, 98]] ++
  [.tup [tx [97], tx [66], tx [99]], .tup [tx [97], .int 5], .tup [tx [97], tx [97, 98, 99, 100, 101, 102, 103, 104, 105, 106, 107, 108, 109], tx [97]], .tup [tx [97], tx [97], tx []]] ++
  [.tup [tx n, tx n, tx [97, 32, 98]]]
theorem bad_ok {n : Name} (hn : isNameL n = true) : ∀ d ∈ badL n, BadD d := fun d hd => by
  have no2 : ∀ {a b : Nat} {l : List Nat} (c : Nat), a :: b :: l = [c] → c ∈ signsL := fun {a b l} c e => by cases e
  unfold badL at hd
  simp only [List.mem_append, List.mem_cons, List.not_mem_nil, or_false, List.cons_append, List.nil_append] at hd
  rcases hd with (rfl | rfl | rfl | rfl | rfl | rfl | rfl | rfl | rfl | rfl | rfl | rfl | rfl | rfl)
  · exact ⟨rfl, odd_tup rfl (by decide +kernel) rfl (sg_no2 (by decide))⟩
  · exact ⟨rfl, odd_tup rfl (by decide +kernel) rfl (sg_tx no2)⟩
  · exact ⟨rfl, ⟨rfl, by decide +kernel, rfl, sg_nt rfl⟩⟩
  · exact ⟨rfl, odd_tup rfl (by decide +kernel) rfl (sg_tx fun c e => by cases e; decide +kernel)⟩
  · exact ⟨rfl, ⟨rfl, by decide +kernel, rfl, sg_nt rfl⟩⟩
  · exact ⟨rfl, odd_tup rfl (by decide +kernel) rfl (sg_no2 (by decide))⟩
  · exact ⟨rfl, odd_tup rfl (by decide +kernel) rfl (sg_tx fun c e => by cases e)⟩
  · exact ⟨rfl, odd_tup rfl (by decide +kernel) rfl (sg_no2 (by decide))⟩
  · exact ⟨rfl, ⟨rfl, by decide +kernel, rfl, sg_nt rfl⟩⟩
  · exact ⟨rfl, odd_tup rfl (by decide +kernel) rfl (sg_no2 (by decide))⟩
  · exact ⟨rfl, odd_tup rfl (by decide +kernel) rfl (sg_ns rfl)⟩
  · exact ⟨rfl, odd_tup rfl (by decide +kernel) rfl (sg_no2 (by decide))⟩
  · exact ⟨rfl, odd_tup rfl (by decide +kernel) rfl (sg_no2 (by decide))⟩
  · refine ⟨?_, odd_tup (okA_cons (okD_tx (tx_name hn)) (okA_cons (okD_tx (tx_name hn)) rfl)) ?_ rfl (sg_no2 (by show 3 ≠ 2; decide))⟩
    · show (isNameL n && (isNameL n && isNameL [97, 32, 98])) = false
      rw [hn]; decide +kernel
    · show (dat 62 (tx n) && (dat 62 (tx n) && (dat 62 (tx [97, 32, 98]) && true))) = true
      rw [dat_name hn]; decide +kernel
theorem bad_at {n : Name} (hn : isNameL n = true) (x : Int) : ∃ d, atI (badL n) (x.fmod 14) = some d ∧ BadD d := by
  have h := fmod_rng x (n := 14) (by decide)
  have h2 : (x.fmod 14).toNat < (badL n).length := by show _ < 14; omega
  exact ⟨_, atI_at h.1 (List.getElem?_eq_getElem h2), bad_ok hn _ (List.getElem_mem h2)⟩
/-- what is put in -/
def InsD (nl : List Name) (d : D) : Prop := BadD d ∨ ∃ n a b, d = ruleD (.fk n a b) ∧ (Rl.fk n a b).ok = true ∧ (n ∈ nl ∨ n = a)
def El (nl : List Name) (d : D) : Prop := InsD nl d ∨ ∃ r, d = ruleD r ∧ r.ok = true ∧ r.nm ∈ nl
theorem El.odd {nl : List Name} {d : D} (h : El nl d) : OddR d := by
  rcases h with (h | ⟨n, a, b, rfl, h, _⟩) | ⟨r, rfl, h, _⟩
  · exact h.odd
  · exact odd_rule h
  · exact odd_rule h
inductive Spo (nl : List Name) (l : List D) : List D → Prop where
  | same : Spo nl l l
  | clear : Spo nl l []
  | ins {j : Nat} {d : D} : j ≤ l.length → InsD nl d → Spo nl l (l.take j ++ [d] ++ l.drop j)
structure SpI (nl : List Name) (rs0 : List Rl) (l : List D) : Prop where
  el : ∀ d ∈ l, El nl d
  bs : (∀ r ∈ rs0, ruleD r ∈ l) ∨ ∀ d ∈ l, InsD nl d
theorem ins_mem {l : List D} {j : Nat} {d x : D} : x ∈ l.take j ++ [d] ++ l.drop j ↔ x = d ∨ x ∈ l := by
  have e := List.take_append_drop j l
  constructor
  · intro h
    rcases List.mem_append.mp h with h | h
    · rcases List.mem_append.mp h with h | h
      · exact .inr (List.mem_of_mem_take h)
      · exact .inl (List.mem_singleton.mp h)
    · exact .inr (List.mem_of_mem_drop h)
  · rintro (rfl | h)
    · exact List.mem_append_left _ (List.mem_append_right _ List.mem_cons_self)
    · rw [← e] at h
      rcases List.mem_append.mp h with h | h
      · exact List.mem_append_left _ (List.mem_append_left _ h)
      · exact List.mem_append_right _ h
theorem SpI.spo {nl : List Name} {rs0 : List Rl} {l l' : List D} (h : SpI nl rs0 l) (s : Spo nl l l') : SpI nl rs0 l' ∧ l'.length ≤ l.length + 1 := by
  cases s with
  | same => exact ⟨h, Nat.le_succ _⟩
  | clear => exact ⟨⟨fun d hd => (by cases hd), .inr fun d hd => (by cases hd)⟩, Nat.zero_le _⟩
  | @ins j d hj hd =>
    refine ⟨⟨fun x hx => ?_, ?_⟩, ?_⟩
    · rcases ins_mem.mp hx with rfl | hx
      · exact .inl hd
      · exact h.el x hx
    · rcases h.bs with hb | hb
      · exact .inl fun r hr => ins_mem.mpr (.inr (hb r hr))
      · refine .inr fun x hx => ?_
        rcases ins_mem.mp hx with rfl | hx
        · exact hd
        · exact hb x hx
    · rw [List.length_append, List.length_append, List.length_take, List.length_drop, List.length_singleton]; omega
theorem SpI.start {nl : List Name} {rs : List Rl} (h : Built nl nl.length rs) : SpI nl rs (rsD rs) := by
  refine ⟨fun d hd => ?_, .inl fun r hr => List.mem_map_of_mem hr⟩
  obtain ⟨r, hr, rfl⟩ := List.mem_map.mp hd
  refine .inr ⟨r, rfl, h.ok r hr, ?_⟩
  have := h.inn r hr
  cases r with
  | sg n s => exact this
  | fk n a b => exact this.1
theorem bad_no {r : Rl} (h : BadD (ruleD r)) (h2 : r.ok = true) : False := by
  have := h.no
  rw [ok_isRule h2] at this
  cases this
theorem mem_rsD {rs : List Rl} {r : Rl} (h : ruleD r ∈ rsD rs) : r ∈ rs := by
  obtain ⟨r', h1, h2⟩ := List.mem_map.mp h
  exact ruleD_inj h2 ▸ h1
theorem Der.sub2 {rs rs' : List Rl} (hm : ∀ r ∈ rs, r ∈ rs') {t : List Nat} {n : Name} {b e c : Nat} (h : Der rs t n b e c) : Der rs' t n b e c := by
  induction h with
  | sg h1 h2 => exact .sg (hm _ h1) h2
  | fk h1 _ _ i1 i2 => exact .fk (hm _ h1) i1 i2
theorem SpI.small {nl : List Name} {rs0 rs : List Rl} (h : SpI nl rs0 (rsD rs)) (hB : Built nl nl.length rs0) (hl : nl.length ≤ 4) (hG : Gram rs) : SmallK 8 rs := by
  rcases h.bs with hb | hb
  · have hin : ∀ n, Pro rs n → n ∈ nl := fun n p => by
      induction p with
      | @sg n s hm =>
        rcases h.el _ (List.mem_map_of_mem hm) with (h1 | ⟨n', a, b, e, _⟩) | ⟨r, e, _, h3⟩
        · exact (bad_no h1 (hG.good.ok _ hm)).elim
        · exact nomatch ruleD_inj e
        · rw [← ruleD_inj e] at h3; exact h3
      | @fk n a b hm _ _ i1 i2 =>
        rcases h.el _ (List.mem_map_of_mem hm) with (h1 | ⟨n', a', b', e, _, h3⟩) | ⟨r, e, _, h3⟩
        · exact (bad_no h1 (hG.good.ok _ hm)).elim
        · cases ruleD_inj e
          rcases h3 with h3 | h3
          · exact h3
          · rw [h3]; exact i1
        · rw [← ruleD_inj e] at h3; exact h3
    intro t n hn b e hbe
    obtain ⟨k, hk⟩ := List.mem_iff_getElem?.mp (hin n (hG.pro n hn))
    obtain ⟨c, hD, hc⟩ := hB.der t k n hk b e hbe
    have := pow_4 k (by have := (List.getElem?_eq_some_iff.mp hk).1; omega)
    exact ⟨c, hD.sub2 fun r hr => mem_rsD (hb r hr), by omega⟩
  · have hno : ∀ n, Pro rs n → False := fun n p => by
      induction p with
      | @sg n s hm =>
        rcases hb _ (List.mem_map_of_mem hm) with h1 | ⟨n', a, b, e, _⟩
        · exact bad_no h1 (hG.good.ok _ hm)
        · exact nomatch ruleD_inj e
      | fk _ _ _ i1 _ => exact i1
    intro t n hn
    exact (hno n (hG.pro n hn)).elim
/-! #### _law_spoilt -/
theorem lone_ok (c : Int) : isNameL (cut (wordL c 9 ++ [122]) none (some 12)) = true := by
  have h1 := wordL_len c 9
  have h2 := wSize_rng c
  have h3 : cut (wordL c 9 ++ [122]) none (some 12) = (wordL c 9 ++ [122]).take 12 := by
    unfold cut
    rw [show (some (12 : Int)) = some ((12 : Nat) : Int) from rfl, HT.sIx_nat, HT.sIx_none, List.drop_zero]
    by_cases h : 12 ≤ (wordL c 9 ++ [122]).length
    · rw [Nat.min_eq_left h]
    · have h' : (wordL c 9 ++ [122]).length ≤ 12 := by omega
      rw [Nat.min_eq_right h']
      exact (List.take_of_length_le (by rw [Nat.sub_zero]; exact Nat.le_refl _)).trans (List.take_of_length_le h').symm
  rw [h3]
  refine isName_of ?_ ?_ fun x hx => ?_
  · rw [List.length_take, List.length_append, List.length_singleton]; omega
  · rw [List.length_take]; omega
  · rcases List.mem_append.mp (List.mem_of_mem_take hx) with h | h
    · exact wordL_mem h
    · cases List.mem_singleton.mp h
      decide +kernel
def phi_l_spoilt (_ : ErA) : PhiM := fun m ds M => ∃ (l : List D) (c : Int) (nm nl : List Name), m = .lst l ∧ ds = [.int c, .lst (nm.map tx)] ∧ 0 < nm.length ∧ nm.length ≤ 100 ∧ l.length ≤ 100 ∧ (∀ x ∈ nm, isNameL x = true ∧ x ∈ nl) ∧ ∀ l', Spo nl l l' → M (.lst l')
theorem len_l_spoilt {C : ErA} : ∀ m ds M, phi_l_spoilt C m ds M → ds.length + 1 = 3 := fun m ds M h => by
  obtain ⟨_, _, _, _, _, rfl, _⟩ := h; rfl
theorem c_l_spoilt {C : ErA} {l : List D} {c : Int} {nm nl : List Name} {M : Mo → Prop} (h1 : 0 < nm.length) (h2 : nm.length ≤ 100) (h3 : l.length ≤ 100) (h4 : ∀ x ∈ nm, isNameL x = true ∧ x ∈ nl) (q : ∀ l', Spo nl l l' → M (.lst l')) : phi_l_spoilt C (.lst l) [.int c, .lst (nm.map tx)] M := ⟨l, c, nm, nl, rfl, rfl, h1, h2, h3, h4, q⟩
theorem fk_ok {n a b : Name} (h1 : isNameL n = true) (h2 : isNameL a = true) (h3 : isNameL b = true) : (Rl.fk n a b).ok = true := by
  show (isNameL n && (isNameL a && isNameL b)) = true
  rw [h1, h2, h3]; rfl
abbrev N_l_spoilt : List Str := ["_law_rules_here", "_law_cell", "_law_names", "_law_way", "_law_at_here", "_law_more", "_law_lone", "_law_some", "_law_bad"]
def t_l_spoilt (K : PySem.W.Frag) (C : ErA) : TS :=
  tSeq (tAsg (tOp (rI (fun _ j => j ≠ 0) fun i j => .int (i.fmod j)) (tVar 1) (tC (.int 8))) (gName 3)) (tSeq (tAsg (tOp (rI (fun _ j => j ≠ 0) fun i j => .int (i.fmod j)) (tOp (rI CDivN fun i j => .int (i.fdiv j)) (tVar 1) (tC (.int 8))) (tOp (uAdd K) (tCB (cLen K) (tCons (tVar 0) tNil)) (tC (.int 1)))) (gName 4)) (tSeq (tAsg (tOp (rI CDivN fun i j => .int (i.fdiv j)) (tOp (rI CDivN fun i j => .int (i.fdiv j)) (tVar 1) (tC (.int 8))) (tOp (uAdd K) (tCB (cLen K) (tCons (tVar 0) tNil)) (tC (.int 1)))) (gName 5)) (tSeq (tAsg (tOp (uAdd K) (tCall (mkSp K (phi_l_word C)) [] E0 (tCons (tVar 5) (tCons (tC (.int 9)) tNil))) (tC (.str (mk [122])))) (gName 6)) (tSeq (tAsg (tOp (uAdd K) (tVar 2) (tLst (tCons (tSl (uSl K) (tVar 6) tNoPart (tPart (tC (.int 12)))) tNil))) (gName 7)) (tSeq (tIfS (tTest (tOp (uEq K) (tVar 3) (tC (.int 0)))) (tSeq (tAsg (tLst (tCons (tTup (tCons (tC (.str (mk [97]))) tNil)) (tCons (tTup (tCons (tC (.str (mk [97]))) (tCons (tC (.str (mk [97, 98]))) tNil))) (tCons (tLst (tCons (tC (.str (mk [97]))) (tCons (tC (.str (mk [98]))) tNil))) (tCons (tTup (tCons (tC (.str (mk [65]))) (tCons (tC (.str (mk [98]))) tNil))) (tCons (tC .non) (tCons (tTup (tCons (tC (.str (mk [97]))) (tCons (tC (.str (mk [98]))) (tCons (tC (.str (mk [99]))) (tCons (tC (.str (mk [100]))) tNil))))) (tCons (tTup (tCons (tC (.str (mk [97]))) (tCons (tC (.str (mk []))) tNil))) (tCons (tTup (tCons (tC (.str (mk [97]))) (tCons (tC (.str (mk [98]))) (tCons (tC (.int 5)) tNil)))) (tCons (tC (.str (mk [97, 98]))) tNil)))))))))) (gName 8)) (tSeq (tAsg (tOp (uAdd K) (tVar 8) (tLst (tCons (tTup (tCons (tC (.str (mk [97]))) (tCons (tC (.str (mk [66]))) (tCons (tC (.str (mk [99]))) tNil)))) (tCons (tTup (tCons (tC (.str (mk [97]))) (tCons (tC (.int 5)) tNil))) (tCons (tTup (tCons (tC (.str (mk [97]))) (tCons (tC (.str (mk [97, 98, 99, 100, 101, 102, 103, 104, 105, 106, 107, 108, 109]))) (tCons (tC (.str (mk [97]))) tNil)))) (tCons (tTup (tCons (tC (.str (mk [97]))) (tCons (tC (.str (mk [97]))) (tCons (tC (.str (mk []))) tNil)))) tNil)))))) (gName 8)) (tSeq (tAsg (tOp (uAdd K) (tVar 8) (tLst (tCons (tTup (tCons (tOp (rIx K) (tVar 2) (tC (.int 0))) (tCons (tOp (rIx K) (tVar 2) (tC (.int 0))) (tCons (tC (.str (mk [97, 32, 98]))) tNil)))) tNil))) (gName 8)) (tDrop (tBM K "list" mInsert (tVar 0) (tCons (tVar 4) (tCons (tOp (rIx K) (tVar 8) (tOp (rI (fun _ j => j ≠ 0) fun i j => .int (i.fmod j)) (tVar 5) (tC (.int 14)))) tNil))))))) tNext) (tSeq (tIfS (tTest (tOp (uEq K) (tVar 3) (tC (.int 1)))) (tDrop (tBM K "list" mInsert (tVar 0) (tCons (tVar 4) (tCons (tTup (tCons (tOp (rIx K) (tVar 2) (tC (.int 0))) (tCons (tSl (uSl K) (tVar 6) tNoPart (tPart (tC (.int 12)))) (tCons (tOp (rIx K) (tVar 7) (tOp (rI (fun _ j => j ≠ 0) fun i j => .int (i.fmod j)) (tVar 5) (tCB (cLen K) (tCons (tVar 7) tNil)))) tNil)))) tNil)))) tNext) (tSeq (tIfS (tTest (tOp (uEq K) (tVar 3) (tC (.int 2)))) (tDrop (tBM K "list" mInsert (tVar 0) (tCons (tVar 4) (tCons (tTup (tCons (tOp (rIx K) (tVar 2) (tC (.int 0))) (tCons (tOp (rIx K) (tVar 7) (tOp (rI (fun _ j => j ≠ 0) fun i j => .int (i.fmod j)) (tVar 5) (tCB (cLen K) (tCons (tVar 7) tNil)))) (tCons (tSl (uSl K) (tVar 6) tNoPart (tPart (tC (.int 12)))) tNil)))) tNil)))) tNext) (tSeq (tIfS (tTest (tOp (uEq K) (tVar 3) (tC (.int 3)))) (tDrop (tBM K "list" mInsert (tVar 0) (tCons (tVar 4) (tCons (tTup (tCons (tSl (uSl K) (tVar 6) tNoPart (tPart (tC (.int 12)))) (tCons (tSl (uSl K) (tVar 6) tNoPart (tPart (tC (.int 12)))) (tCons (tOp (rIx K) (tVar 7) (tOp (rI (fun _ j => j ≠ 0) fun i j => .int (i.fmod j)) (tVar 5) (tCB (cLen K) (tCons (tVar 7) tNil)))) tNil)))) tNil)))) tNext) (tSeq (tIfS (tTest (tOp (uEq K) (tVar 3) (tC (.int 4)))) (tDrop (tBM0 K "list" rClear (tVar 0))) tNext) (tRet (tVar 0)))))))))))
theorem w_l_spoilt {K : PySem.W.Frag} {C : ErA} : ∀ a m ds M, phi_l_spoilt C m ds M → ∀ E, wS K ⟨E, fun _ => False⟩ (t_l_spoilt K C) (G0M N_l_spoilt a m ds) (PoM true a M) := by
  intro a m ds M h E
  obtain ⟨l, c, nm, nl, rfl, rfl, h1, h2, h3, hn, q⟩ := h
  show wS K _ (t_l_spoilt K C) [.ow a (.lst l), .sh (.int c), .sh (.lst (nm.map tx)), .no, .no, .no, .no, .no, .no] _
  unfold t_l_spoilt
  have h8 := fmod_rng c (n := 8) (by decide)
  have hj0 := fmod_rng (c.fdiv 8) (n := ((l.length : Nat) : Int) + 1) (by omega)
  obtain ⟨j, hj, hjl⟩ : ∃ j : Nat, (c.fdiv 8).fmod (((l.length : Nat) : Int) + 1) = (j : Int) ∧ j ≤ l.length := ⟨((c.fdiv 8).fmod (((l.length : Nat) : Int) + 1)).toNat, by omega, by omega⟩
  obtain ⟨n0, hn0⟩ : ∃ x, nm[0]? = some x := ⟨_, List.getElem?_eq_getElem h1⟩
  obtain ⟨hn1, hn2⟩ := hn n0 (List.mem_of_getElem? hn0)
  walk_at "wst"
  rw [hj]
  refine wR_I ⟨by omega, by omega⟩ rfl ?_
  walk_at "wst"
  have hL := lone_ok ((c.fdiv 8).fdiv (((l.length : Nat) : Int) + 1))
  have hW := wordL_len ((c.fdiv 8).fdiv (((l.length : Nat) : Int) + 1)) 9
  have hW2 := wSize_rng ((c.fdiv 8).fdiv (((l.length : Nat) : Int) + 1))
  generalize wordL ((c.fdiv 8).fdiv (((l.length : Nat) : Int) + 1)) 9 = W at hL hW
  have hWl : (W ++ [122]).length ≤ 13 := by rw [List.length_append, List.length_singleton]; omega
  walk_at "wst"
  refine u_addL rfl rfl (by rw [List.length_map]; show nm.length + 1 ≤ _; omega) fun a7 => ?_
  generalize W ++ [122] = W at hL hWl
  have hsl : nm.map tx ++ [tx (cut W none (some 12))] = (nm ++ [cut W none (some 12)]).map tx := by rw [List.map_append]; rfl
  rw [hsl]
  have hsn : ∀ x ∈ nm ++ [cut W none (some 12)], isNameL x = true := fun x hx => by
    rcases List.mem_append.mp hx with hx | hx
    · exact (hn x hx).1
    · cases List.mem_singleton.mp hx; exact hL
  have hsl2 : (nm ++ [cut W none (some 12)]).length = nm.length + 1 := by rw [List.length_append]; rfl
  generalize nm ++ [cut W none (some 12)] = sm at hsn hsl2
  have hml : (sm.map tx).length = sm.length := List.length_map ..
  have hx0 : atI (nm.map tx) 0 = some (tx n0) := ix_nm hn0
  obtain ⟨i1, y1, g1, g2, g3⟩ := ix_fm (nl := sm) ((c.fdiv 8).fdiv (((l.length : Nat) : Int) + 1)) (k := (((sm.map tx).length : Nat) : Int)) (by omega) (by omega)
  have hy1 := hsn y1 (List.mem_of_getElem? g1)
  have hfm := fmod_rng ((c.fdiv 8).fdiv (((l.length : Nat) : Int) + 1)) (n := (((sm.map tx).length : Nat) : Int)) (by omega)
  have g4 : (sm.map tx).getD (((c.fdiv 8).fdiv (((l.length : Nat) : Int) + 1)).fmod (((sm.map tx).length : Nat) : Int)).toNat .non = tx y1 := by
    have e := atI_d (l := sm.map tx) D.non hfm.1 hfm.2
    rw [g3] at e
    exact (Option.some.inj e).symm
  walk_at "wgo"
  · refine u_ixL rfl hx0 ?_
    walk_at "wgo"
    refine u_ixL rfl hx0 ?_
    walk_at "wgo"
    refine wS_ins rfl ?_
    walk_at "wgo"
    obtain ⟨d, hd1, hd2⟩ := bad_at hn1 ((c.fdiv 8).fdiv (((l.length : Nat) : Int) + 1))
    refine u_ixL (ds := badL n0) rfl hd1 ?_
    walk_at "wgo"
    refine ⟨l, j, d, rfl, rfl, by omega, by omega, ?_⟩
    walk_at "wnx"
    exact ⟨rfl, q _ (.ins hjl (.inl hd2))⟩
  · refine wS_ins rfl ?_
    walk_at "wgo"
    refine u_ixL rfl hx0 ?_
    walk_at "wgo"
    rw [g4]
    refine ⟨l, j, _, rfl, rfl, by omega, by omega, ?_⟩
    walk_at "wnx"
    exact ⟨rfl, q _ (.ins hjl (.inr ⟨_, _, _, rfl, fk_ok hn1 hL hy1, .inl hn2⟩))⟩
  · refine wS_ins rfl ?_
    walk_at "wgo"
    refine u_ixL rfl hx0 ?_
    walk_at "wgo"
    rw [g4]
    refine ⟨l, j, _, rfl, rfl, by omega, by omega, ?_⟩
    walk_at "wnx"
    exact ⟨rfl, q _ (.ins hjl (.inr ⟨_, _, _, rfl, fk_ok hn1 hy1 hL, .inl hn2⟩))⟩
  · refine wS_ins rfl ?_
    walk_at "wgo"
    rw [g4]
    refine ⟨l, j, _, rfl, rfl, by omega, by omega, ?_⟩
    walk_at "wnx"
    exact ⟨rfl, q _ (.ins hjl (.inr ⟨_, _, _, rfl, fk_ok hL hL hy1, .inr rfl⟩))⟩
  · refine wS_clear rfl ?_
    walk_at "wnx"
    exact ⟨rfl, q _ .clear⟩
  · exact ⟨rfl, q _ .same⟩


/-! #### the law's own walk: rules -/
theorem odd_P {d : D} (h : OddR d) : RuleP d := ⟨okD_plain h.ok, fun ds e x hx => okD_plain (okA_mem (okD_tup (e ▸ h.ok)) hx)⟩
def notL : D → Option D
  | .str s => if s.cps.toList.headD 0 ∈ lettersL then none else some (.str s)
  | _ => none
theorem notL_map : ∀ l : List Nat, ((l.map fun c => tx [c]).filterMap notL) = ((l.filter fun c => decide (c ∉ lettersL)).map fun c => tx [c])
  | [] => rfl
  | c :: l => by
    have e : notL (tx [c]) = if c ∈ lettersL then none else some (tx [c]) := rfl
    rw [List.map_cons, List.filterMap_cons, e, notL_map l, List.filter_cons]
    by_cases h : c ∈ lettersL
    · rw [if_pos h, decide_eq_false (not_not_intro h)]; rfl
    · rw [if_neg h, decide_eq_true h]; rfl
theorem filter_nil {l : List Nat} : (l.filter fun c => decide (c ∉ lettersL)) = [] ↔ (l.all fun c => decide (c ∈ lettersL)) = true := by
  rw [List.filter_eq_nil_iff, List.all_eq_true]
  constructor
  · intro h c hc
    have := h c hc
    rw [decide_eq_true_eq] at this ⊢
    exact Classical.not_not.mp this
  · intro h c hc
    have := h c hc
    rw [decide_eq_true_eq] at this ⊢
    exact not_not_intro this
theorem datL_cs {l : List Nat} (h : ∀ c ∈ l, c < 1114112) : dat 64 (.lst (l.map fun c => tx [c])) = true := by
  unfold dat
  exact datA_map fun c hc => dat_tx fun x hx => by cases List.mem_singleton.mp hx; exact h c hc
theorem eqD_nil {l : List D} (h : noB (.lst l) = true) : eqD (.lst l) (.lst []) = decide (l = []) := by
  rw [Bool.eq_iff_iff, decide_eq_true_eq]
  exact (eqD_iff _ _ h rfl).trans ⟨fun e => D.lst.inj e, fun e => by rw [e]⟩
theorem noB_cs (l : List Nat) : noB (.lst (l.map fun c => tx [c])) = true := by
  unfold noB
  exact noBA_map fun _ _ => by unfold noB; rfl
theorem dat_nil : dat 64 (.lst []) = true := by decide +kernel
def tGoodB (K : PySem.W.Frag) : TS := tSeq (tIfS (tOr (tNot (tTru K (tCB (rIsi K) (tCons (tVar 1) (tCons (tC (.ty "str")) tNil))))) (tNot (tTest (tChain (rI0 fun i j => .bl (decide (i < j))) (rI0 fun i j => .bl (decide (i < j))) (tC (.int 0)) (tCB (cLen K) (tCons (tVar 1) tNil)) (tC (.int 13)))))) (tRet (tC (.bl false))) tNext) (tIfS (tTest (tOp (uNe K) (tLc (iStr (tVar 1)) (gName 2) (tTest (tOp (uNin K) (tVar 2) (tC (.str (mk lettersL))))) (tVar 2) [2]) (tLst tNil))) (tRet (tC (.bl false))) tNext)
theorem good_body {K : PySem.W.Frag} {Z : Ec} {P : Po} {l : List D} {x : D} (hx : okD x = true) (h1 : isNameD x = false → ∀ G, P.rt (.sh (.bl false)) G) (h2 : isNameD x = true → P.nx [.sh (.tup l), .sh x, .no]) : wS K Z (tGoodB K) [.sh (.tup l), .sh x, .no] P := by
  unfold tGoodB
  rcases okD_plain hx with ⟨t, rfl, ht, hc0⟩ | ⟨g1, g2⟩
  · have hnt : isNameD (tx t) = (decide (0 < t.length) && decide (t.length ≤ 12) && t.all fun c => decide (c ∈ lettersL)) := rfl
    rw [hnt] at h1 h2
    walk_at "wgo"
    · rename_i e1 e2
      rw [decide_eq_true (show 0 < t.length by omega), decide_eq_true (show t.length ≤ 12 by omega)] at h1 h2
      refine wE_lcS notL ?_
      walk_at "w"
      refine ⟨t, rfl, rfl, by omega, fun c hc => ?_, fun a => ?_⟩
      · have e : notL (tx [c]) = if c ∈ lettersL then none else some (tx [c]) := rfl
        show wT K _ _ _ _
        rw [e]
        walk_at "wgo"
        · rename_i h
          refine ⟨?_, by walk_at "keep"⟩
          rw [if_pos h]
        · rename_i h
          refine ⟨?_, by walk_at "keep"⟩
          rw [if_neg h]
      · rw [notL_map]
        walk_at "wgo"
        refine u_neD rfl rfl (datL_cs fun c hc => hc0 c ((List.mem_filter.mp hc).1)) dat_nil ?_
        rw [eqD_nil (noB_cs _)]
        walk_at "wgo"
        · rename_i h
          refine h2 ?_
          rw [List.map_eq_nil_iff] at h
          rw [filter_nil.mp h]; rfl
        · rename_i h
          refine h1 ?_ _
          rw [List.map_eq_nil_iff, filter_nil, Bool.not_eq_true] at h
          rw [h]; rfl
    · refine h1 ?_ _
      rw [decide_eq_false (show ¬ t.length ≤ 12 by omega), Bool.and_false]; rfl
    · refine h1 ?_ _
      rw [decide_eq_false (show ¬ 0 < t.length by omega)]; rfl
    · rename_i h
      cases h
  · walk_at "wgo"
    · rename_i h
      exact absurd (by obtain ⟨t, rfl⟩ := isStr_of h; rfl) g1
    · exact h1 (isName_n g1) _
def phi_l_good_rule (_ : ErA) : Phi := fun ds Q _ => ∃ d, ds = [d] ∧ OddR d ∧ Q (.sh (.bl (isRuleD d)))
theorem len_l_good_rule {C : ErA} : ∀ ds Q X, phi_l_good_rule C ds Q X → ds.length = 1 := fun ds Q X h => by
  obtain ⟨_, rfl, _⟩ := h; rfl
theorem c_l_good_rule {C : ErA} {d : D} {Q : R → Prop} {X : Value → Prop} (h : OddR d) (q : Q (.sh (.bl (isRuleD d)))) : phi_l_good_rule C [d] Q X := ⟨d, rfl, h, q⟩
abbrev N_l_good_rule : List Str := ["_law_rule", "_law_name", "_law_sign"]
def t_l_good_rule (K : PySem.W.Frag) (C : ErA) : TS :=
  tSeq (tIfS (tOr (tNot (tTru K (tCB (rIsi K) (tCons (tVar 0) (tCons (tC (.ty "tuple")) tNil))))) (tOr (tTest (tOp (rI0 fun i j => .bl (decide (i < j))) (tCB (cLen K) (tCons (tVar 0) tNil)) (tC (.int 2)))) (tTest (tOp (rI0 fun i j => .bl (decide (j < i))) (tCB (cLen K) (tCons (tVar 0) tNil)) (tC (.int 3)))))) (tRet (tC (.bl false))) tNext) (tSeq (tFor (iTup K (tOp (uAdd K) (tSl (uSl K) (tVar 0) tNoPart (tPart (tC (.int 1)))) (tOp (vMul K) (tSl (uSl K) (tVar 0) (tPart (tC (.int 1))) tNoPart) (tCB cInt (tCons (tOp (uEq K) (tCB (cLen K) (tCons (tVar 0) tNil)) (tC (.int 3))) tNil))))) (gName 1) (tSeq (tIfS (tOr (tNot (tTru K (tCB (rIsi K) (tCons (tVar 1) (tCons (tC (.ty "str")) tNil))))) (tNot (tTest (tChain (rI0 fun i j => .bl (decide (i < j))) (rI0 fun i j => .bl (decide (i < j))) (tC (.int 0)) (tCB (cLen K) (tCons (tVar 1) tNil)) (tC (.int 13)))))) (tRet (tC (.bl false))) tNext) (tIfS (tTest (tOp (uNe K) (tLc (iStr (tVar 1)) (gName 2) (tTest (tOp (uNin K) (tVar 2) (tC (.str (mk lettersL))))) (tVar 2) [2]) (tLst tNil))) (tRet (tC (.bl false))) tNext))) (tRet (tOrV (tOp (uEq K) (tCB (cLen K) (tCons (tVar 0) tNil)) (tC (.int 3))) (tAndV (tCB (rIsi K) (tCons (tOp (rIx K) (tVar 0) (tC (.int 1))) (tCons (tC (.ty "str")) tNil))) (tOp (uEq K) (tCB (cLen K) (tCons (tOp (rIx K) (tVar 0) (tC (.int 1))) tNil)) (tC (.int 1)))))))
theorem w_l_good_rule {K : PySem.W.Frag} {C : ErA} : ∀ ds Q X, phi_l_good_rule C ds Q X → ∀ E, wS K ⟨E, X⟩ (t_l_good_rule K C) (G0 N_l_good_rule ds) (PoQ Q) := by
  intro ds Q X h E
  obtain ⟨d, rfl, ho, q⟩ := h
  have hok := ho.ok
  show wS K _ (t_l_good_rule K C) [.sh d, .no, .no] _
  unfold t_l_good_rule
  by_cases h2 : ∃ a b, d = .tup [a, b]
  · obtain ⟨a, b, rfl⟩ := h2
    have ha : okD a = true := okA_mem (okD_tup hok) (by simp)
    have hb : okD b = true := okA_mem (okD_tup hok) (by simp)
    walk_at "wgo"
    refine wS_forT ?_
    walk_at "wgo"
    show wR K _ (vMul K) (.sh (.tup [b])) (.sh (.int 0)) _ _
    refine v_mul0 (by simp) ?_
    refine u_addU (by show 1 + 0 ≤ 1000000; omega) ?_
    refine ⟨[a], rfl, fun i G => (∃ s, G = [.sh (.tup [a, b]), s, .no]) ∧ ∀ x ∈ [a].take i, isNameD x = true, ⟨⟨_, rfl⟩, by simp⟩, fun i x G hx h => ?_, fun G h => ?_⟩
    · obtain ⟨⟨s, rfl⟩, hn⟩ := h
      have hxm := List.mem_of_getElem? hx
      have hxa : x = a := List.mem_singleton.mp hxm
      refine wG_name ⟨rfl, ?_⟩
      refine good_body (hxa ▸ ha) (fun e _ => ?_) fun e => ?_
      · refine q_bl q ?_
        show false = (isNameD a && isSignD b)
        rw [← hxa, e]; rfl
      · refine ⟨⟨_, rfl⟩, fun y hy => ?_⟩
        rw [take_snoc hx] at hy
        rcases List.mem_append.mp hy with hy | hy
        · exact hn y hy
        · cases List.mem_singleton.mp hy; exact e
    · obtain ⟨⟨s, rfl⟩, hn⟩ := h
      have hna := hn a List.mem_cons_self
      have hr : isRuleD (.tup [a, b]) = isSignD b := by
        show (isNameD a && isSignD b) = _
        rw [hna, Bool.true_and]
      rw [hr] at q
      rcases okD_plain hb with ⟨t, rfl, ht, hc0⟩ | ⟨g1, g2⟩
      · walk_at "wgo"
        · refine q_bl q ?_
          match t, ho with
          | [], _ => rfl
          | [c], ho =>
            show decide (((1 : Nat) : Int) = 1) = decide (c ∈ signsL)
            rw [decide_eq_true (ho.sg _ _ rfl)]; rfl
          | _ :: _ :: t, _ =>
            show decide (((t.length + 1 + 1 : Nat) : Int) = 1) = false
            exact decide_eq_false (by omega)
        · rename_i h
          cases h
      · walk_at "wgo"
        · rename_i h
          exact absurd (by obtain ⟨t, rfl⟩ := isStr_of h; rfl) g1
        · exact q_bl q (isSign_n g1).symm
    · rename_i h
      cases h
  · by_cases h3 : ∃ a b c, d = .tup [a, b, c]
    · obtain ⟨a, b, c, rfl⟩ := h3
      have hall : ∀ x ∈ [a, b, c], okD x = true := fun x hx => okA_mem (okD_tup hok) hx
      have hb : okD b = true := hall b (by simp)
      have hr : isRuleD (.tup [a, b, c]) = (isNameD a && (isNameD b && isNameD c)) := rfl
      walk_at "wgo"
      refine wS_forT ?_
      walk_at "wgo"
      show wR K _ (vMul K) (.sh (.tup [b, c])) (.sh (.int 1)) _ _
      refine v_mul1 (by simp) ?_
      refine u_addU (by show 1 + 2 ≤ 1000000; omega) ?_
      refine ⟨[a, b, c], rfl, fun i G => (∃ s, G = [.sh (.tup [a, b, c]), s, .no]) ∧ ∀ x ∈ [a, b, c].take i, isNameD x = true, ⟨⟨_, rfl⟩, by simp⟩, fun i x G hx h => ?_, fun G h => ?_⟩
      · obtain ⟨⟨s, rfl⟩, hn⟩ := h
        have hxm := List.mem_of_getElem? hx
        refine wG_name ⟨rfl, ?_⟩
        refine good_body (hall x hxm) (fun e _ => ?_) fun e => ?_
        · refine q_bl q ?_
          rw [hr]
          simp only [List.mem_cons, List.not_mem_nil, or_false] at hxm
          rcases hxm with rfl | rfl | rfl
          · rw [e]; rfl
          · rw [e, Bool.false_and, Bool.and_false]
          · rw [e, Bool.and_false, Bool.and_false]
        · refine ⟨⟨_, rfl⟩, fun y hy => ?_⟩
          rw [take_snoc hx] at hy
          rcases List.mem_append.mp hy with hy | hy
          · exact hn y hy
          · cases List.mem_singleton.mp hy; exact e
      · obtain ⟨⟨s, rfl⟩, hn⟩ := h
        have ha := hn a (by simp)
        have hb' := hn b (by simp)
        have hc := hn c (by simp)
        walk_at "wgo"
        refine q_bl q ?_
        rw [hr, ha, hb', hc]; rfl
      · rename_i h
        cases h
    · cases ht : isT d with
      | true =>
        obtain ⟨ds, rfl⟩ := isT_of ht
        have hn := len_ne (l := ds) (fun a b e => h2 ⟨a, b, by rw [e]⟩) (fun a b c e => h3 ⟨a, b, c, by rw [e]⟩)
        have hr := isRule_n (ds := ds) (fun a b e => h2 ⟨a, b, by rw [e]⟩) (fun a b c e => h3 ⟨a, b, c, by rw [e]⟩)
        rw [hr] at q
        walk_at "wgo"
        all_goals first | exact q | (exfalso; omega) | skip
      | false =>
        walk_at "wgo"
        · rename_i h
          rw [ht] at h; cases h
        · refine q_bl q ?_
          cases d <;> first | rfl | cases ht


/-! #### what is due -/
inductive DueK (l : List D) : Option Nat → Prop where
  | rule : BadR l → DueK l (some 0)
  | name {rs : List Rl} : l = rsD rs → GoodR rs → Missing rs → DueK l (some 1)
  | endless {rs : List Rl} : l = rsD rs → GoodR rs → ¬ Missing rs → Unpro rs → DueK l (some 2)
  | none {rs : List Rl} : l = rsD rs → Gram rs → DueK l none
def kTx : Option Nat → List Nat
  | some 0 => [114, 117, 108, 101]
  | some 1 => [110, 97, 109, 101]
  | some 2 => [101, 110, 100, 108, 101, 115, 115]
  | some _ => [116, 101, 120, 116]
  | none => [110, 111, 110, 101]
theorem dueR_of {C : ErA} {l : List D} {X : Value → Prop} {P : List Rl → Prop} (hx : ∀ n, n < 3 → DueK l (some n) → X (.ref (C.at n))) (hp : ∀ rs, l = rsD rs → Gram rs → P rs) : DueR C l X P :=
  ⟨fun h => hx 0 (by decide) (.rule h), fun rs e g => ⟨fun m => hx 1 (by decide) (.name e g m), fun m u => hx 2 (by decide) (.endless e g m u), fun m u => hp rs e (due_gram g m u)⟩⟩
def encB (ks : List Name) : List (Key × V) := ks.map fun n => ((.inr (mk n) : Key), V.bl true)
theorem valV_encB (n : Name) : ∀ ks : List Name, valV (encB ks) (.inr (mk n)) = if n ∈ ks then some (V.bl true) else none
  | [] => rfl
  | m :: ns => by
    show valV ((.inr (mk m), V.bl true) :: encB ns) _ = _
    by_cases h : m = n
    · subst h
      rw [valV_pos rfl, if_pos List.mem_cons_self]
    · rw [valV_neg (fun e => h (keyN_inj.mp e)), valV_encB n ns]
      have : n ∈ m :: ns ↔ n ∈ ns := by
        rw [List.mem_cons]
        exact or_iff_right (fun e => h e.symm)
      by_cases h2 : n ∈ ns
      · rw [if_pos h2, if_pos (this.mpr h2)]
      · rw [if_neg h2, if_neg (fun e => h2 (this.mp e))]
def addN (ks : List Name) (n : Name) : List Name := if n ∈ ks then ks else ks ++ [n]
theorem putK_same {n : Name} : ∀ {ks : List Name}, n ∈ ks → putK (encB ks) (.inr (mk n)) (V.bl true) = encB ks := fun {ks} h => by
  have hv : ((encB ks).any fun kv => decide (kv.1 = (.inr (mk n) : Key))) = true := by
    rw [List.any_eq_true]
    exact ⟨_, List.mem_map_of_mem h, decide_eq_true rfl⟩
  unfold putK
  rw [if_pos hv]
  unfold encB
  rw [List.map_map]
  refine List.map_congr_left fun m _ => ?_
  show (if (Sum.inr (mk m) : Key) = .inr (mk n) then ((Sum.inr (mk m) : Key), V.bl true) else (.inr (mk m), V.bl true)) = _
  split <;> rfl
theorem putK_encB (ks : List Name) (n : Name) : putK (encB ks) (.inr (mk n)) (V.bl true) = encB (addN ks n) := by
  unfold addN
  by_cases h : n ∈ ks
  · rw [if_pos h, putK_same h]
  · rw [if_neg h, putK_new _ (by rw [valV_encB, if_neg h])]
    unfold encB
    rw [List.map_append]; rfl
theorem look_encB (ks : List Name) (n : Name) : look (.k (encB ks)) (tx n) = some (if n ∈ ks then some (V.bl true) else none) := by
  show some (valV (encB ks) (.inr (mk n))) = _
  rw [valV_encB]
theorem some_encB (ks : List Name) (n : Name) : (if n ∈ ks then some (V.bl true) else none).isSome = decide (n ∈ ks) := by
  by_cases h : n ∈ ks
  · rw [if_pos h, decide_eq_true h]; rfl
  · rw [if_neg h, decide_eq_false h]; rfl
def stepN (ks : List Name) (r : Rl) : List Name := if r.due ks = true then addN ks r.nm else ks
def Clo (rs : List Rl) (ks : List Name) : Prop := ∀ r ∈ rs, r.due ks = true → r.nm ∈ ks
/-- within a turn that began with ks0 -/
def TurnI (rs : List Rl) (ks0 : List Name) (k : Nat) (ks : List Name) : Prop := TellI rs ks ∧ ((ks = ks0 ∧ Clo (rs.take k) ks0) ∨ (ks0.length < ks.length ∧ ¬ Clo rs ks0))
theorem TurnI.step {rs : List Rl} {ks0 ks : List Name} {k : Nat} {r : Rl} (h : TurnI rs ks0 k ks) (hr : rs[k]? = some r) : TurnI rs ks0 (k + 1) (stepN ks r) := by
  obtain ⟨ht, h⟩ := h
  have hrm := List.mem_of_getElem? hr
  have hts := take_snoc hr
  unfold stepN
  by_cases hd : r.due ks = true
  · rw [if_pos hd]
    unfold addN
    by_cases hn : r.nm ∈ ks
    · rw [if_pos hn]
      refine ⟨ht, h.imp (fun ⟨e, hc⟩ => ⟨e, fun r' hr' hd' => ?_⟩) id⟩
      rw [hts] at hr'
      rcases List.mem_append.mp hr' with hr' | hr'
      · exact hc r' hr' hd'
      · cases List.mem_singleton.mp hr'
        exact e ▸ hn
    · rw [if_neg hn]
      refine ⟨ht.add hrm hd hn, .inr ?_⟩
      rw [List.length_append, List.length_singleton]
      rcases h with ⟨e, hc⟩ | ⟨hl, hc⟩
      · subst e
        exact ⟨Nat.lt_succ_self _, fun c => hn (c r hrm hd)⟩
      · exact ⟨by omega, hc⟩
  · rw [if_neg hd]
    refine ⟨ht, h.imp (fun ⟨e, hc⟩ => ⟨e, fun r' hr' hd' => ?_⟩) id⟩
    rw [hts] at hr'
    rcases List.mem_append.mp hr' with hr' | hr'
    · exact hc r' hr' hd'
    · cases List.mem_singleton.mp hr'
      exact absurd (e ▸ hd') hd
def OutI (rs : List Rl) (i : Nat) (ks : List Name) : Prop := TellI rs ks ∧ (Clo rs ks ∨ i ≤ ks.length)
theorem TurnI.out {rs : List Rl} {ks0 ks : List Name} {i : Nat} (h0 : OutI rs i ks0) (h : TurnI rs ks0 rs.length ks) : OutI rs (i + 1) ks := by
  obtain ⟨ht, h⟩ := h
  rw [List.take_length] at h
  refine ⟨ht, ?_⟩
  rcases h with ⟨e, hc⟩ | ⟨hl, hc⟩
  · exact .inl (e ▸ hc)
  · rcases h0.2 with hc0 | hi
    · exact absurd hc0 hc
    · exact .inr (by omega)
theorem OutI.all {rs : List Rl} {ks : List Name} (h : OutI rs rs.length ks) (n : Name) : n ∈ ks ↔ Pro rs n := by
  refine ⟨h.1.pro n, fun p => ?_⟩
  rcases h.2 with hc | hl
  · exact pro_closed hc n p
  · have hm : n ∈ rs.map Rl.nm := by
      cases p with
      | sg hm => exact List.mem_map_of_mem (f := Rl.nm) hm
      | fk hm _ _ => exact List.mem_map_of_mem (f := Rl.nm) hm
    refine Classical.byContradiction fun hn => ?_
    have := nodup_le (l := n :: ks) (m := rs.map Rl.nm) (List.nodup_cons.mpr ⟨hn, h.1.nd⟩) fun x hx => by
      rcases List.mem_cons.mp hx with rfl | hx
      · exact hm
      · exact h.1.sub x hx
    rw [List.length_cons, List.length_map] at this
    omega
theorem names_map {rs : List Rl} {n : Name} : n ∈ rs.map Rl.nm ↔ n ∈ namesOf rs := by
  rw [mem_namesOf, List.mem_map]
theorem nm_ok {r : Rl} (h : r.ok = true) : isNameL r.nm = true := by
  cases r with
  | sg n s => exact (Bool.and_eq_true_iff.mp h).1
  | fk n a b => exact (Bool.and_eq_true_iff.mp h).1
def dueB (d : D) : Option D := some (.bl (isRuleD d))
def decN (g : Name → Option D) : D → Option D
  | .str s => g s.cps.toList
  | _ => none
theorem decN_map (g : Name → Option D) (ls : List Name) : (ls.map tx).filterMap (decN g) = ls.filterMap g := by
  rw [List.filterMap_map]; rfl
theorem fm_not (ks : List Name) : ∀ ls : List Name, (ls.filterMap fun n => if n ∈ ks then none else some (tx n)) = (ls.filter fun n => decide (n ∉ ks)).map tx
  | [] => rfl
  | n :: ls => by
    rw [List.filterMap_cons, List.filter_cons, fm_not ks ls]
    by_cases h : n ∈ ks
    · rw [if_pos h, decide_eq_false (not_not_intro h)]; rfl
    · rw [if_neg h, decide_eq_true h]; rfl
def phi_l_due (_ : ErA) : Phi := fun ds Q _ => ∃ l, ds = [.lst l] ∧ (∀ d ∈ l, OddR d) ∧ l.length ≤ 1000 ∧ ∀ k, DueK l k → Q (.sh (tx (kTx k)))
theorem len_l_due {C : ErA} : ∀ ds Q X, phi_l_due C ds Q X → ds.length = 1 := fun ds Q X h => by
  obtain ⟨_, rfl, _⟩ := h; rfl
theorem c_l_due {C : ErA} {l : List D} {Q : R → Prop} {X : Value → Prop} (h1 : ∀ d ∈ l, OddR d) (h2 : l.length ≤ 1000) (q : ∀ k, DueK l k → Q (.sh (tx (kTx k)))) : phi_l_due C [.lst l] Q X := ⟨l, rfl, h1, h2, q⟩
theorem datL_odd {l : List D} (h : ∀ d ∈ l, OddR d) : dat 64 (.lst l) = true := by
  have : datA 63 l = true := by
    have := datA_map (n := 63) (g := fun d : D => d) (l := l) fun d hd => (h d hd).dt
    rwa [List.map_id'] at this
  unfold dat; exact this
theorem noB_odd {l : List D} (h : ∀ d ∈ l, OddR d) : noB (.lst l) = true := by
  have : noBA l = true := by
    have := noBA_map (g := fun d : D => d) (l := l) fun d hd => (h d hd).nb
    rwa [List.map_id'] at this
  unfold noB; exact this
abbrev N_l_due : List Str := ["_law_rules_here", "_law_names", "_law_rule", "_law_known", "_law_turn", "_law_name"]
def t_l_due (K : PySem.W.Frag) (C : ErA) : TS :=
  tSeq (tIfS (tOr (tTest (tOp (uEq K) (tVar 0) (tLst tNil))) (tOr (tTest (tOp (rI0 fun i j => .bl (decide (j < i))) (tCB (cLen K) (tCons (tVar 0) tNil)) (tC (.int 40)))) (tNot (tTru K (tCB (rAll K) (tCons (tLc (iList K (tVar 0)) (gName 2) tYes (tCall (mkSp K (phi_l_good_rule C)) [] E0 (tCons (tVar 2) tNil)) [2]) tNil)))))) (tRet (tC (.str (mk [114, 117, 108, 101])))) tNext) (tSeq (tAsg (tLc (iList K (tVar 0)) (gName 2) tYes (tOp (rIx K) (tVar 2) (tC (.int 0))) [2]) (gName 1)) (tSeq (tFor (iList K (tVar 0)) (gName 2) (tIfS (tAnd (tTest (tOp (uEq K) (tCB (cLen K) (tCons (tVar 2) tNil)) (tC (.int 3)))) (tOr (tTest (tOp (uNin K) (tOp (rIx K) (tVar 2) (tC (.int 1))) (tVar 1))) (tTest (tOp (uNin K) (tOp (rIx K) (tVar 2) (tC (.int 2))) (tVar 1))))) (tRet (tC (.str (mk [110, 97, 109, 101])))) tNext)) (tSeq (tAsg tDNewK (gName 3)) (tSeq (tFor (iRng1 (tCons (tCB (cLen K) (tCons (tVar 0) tNil)) tNil)) (gName 4) (tFor (iList K (tVar 0)) (gName 2) (tIfS (tOr (tTest (tOp (uEq K) (tCB (cLen K) (tCons (tVar 2) tNil)) (tC (.int 2)))) (tAnd (tB (tDIn (tOp (rIx K) (tVar 2) (tC (.int 1))) (tVar 3))) (tB (tDIn (tOp (rIx K) (tVar 2) (tC (.int 2))) (tVar 3))))) (sDPut (tVar 3) (tOp (rIx K) (tVar 2) (tC (.int 0))) (tC (.bl true))) tNext))) (tSeq (tIfS (tTest (tOp (uNe K) (tLc (iList K (tVar 1)) (gName 5) (tB (tDNotIn (tVar 5) (tVar 3))) (tVar 5) [5]) (tLst tNil))) (tRet (tC (.str (mk [101, 110, 100, 108, 101, 115, 115])))) tNext) (tRet (tC (.str (mk [110, 111, 110, 101])))))))))
theorem w_l_due {K : PySem.W.Frag} {C : ErA} : ∀ ds Q X, phi_l_due C ds Q X → ∀ E, wS K ⟨E, X⟩ (t_l_due K C) (G0 N_l_due ds) (PoQ Q) := by
  intro ds Q X h E
  obtain ⟨l, rfl, ho, hl, q⟩ := h
  show wS K _ (t_l_due K C) [.sh (.lst l), .no, .no, .no, .no, .no] _
  unfold t_l_due
  walk_at "wst"
  refine wS_cut (fun G => G = [.sh (.lst l), .no, .no, .no, .no, .no] ∧ ¬ BadR l) ?_ fun G h => ?_
  · walk_at "wgo"
    refine u_eqD rfl rfl (datL_odd ho) dat_nil ?_
    rw [eqD_nil (noB_odd ho)]
    walk_at "wgo"
    · rename_i h
      exact q _ (.rule (.inl h))
    · rename_i h
      exact q _ (.rule (.inr (.inl (by omega))))
    · rename_i h1 h2
      refine wE_lcL dueB ?_
      walk_at "wgo"
      refine ⟨_, rfl, rfl, by omega, fun d hd => ?_, fun a => ?_⟩
      · refine wT_yes ⟨fun _ => ?_, fun e => by cases e⟩
        walk_at "wgo"
        refine c_l_good_rule (ho d hd) ⟨.inl rfl, ?_⟩
        exact ⟨_, rfl, rfl, by walk_at "kv"⟩
      · have e : l.filterMap dueB = (l.map isRuleD).map D.bl := by
          rw [List.map_map]
          show l.filterMap (fun d => some (D.bl (isRuleD d))) = _
          rw [List.filterMap_eq_map']; rfl
        rw [e]
        walk_at "wgo"
        refine wC_all (bs := l.map isRuleD) rfl ?_
        walk_at "wgo"
        · rename_i h
          refine ⟨rfl, ?_⟩
          rintro (hb | hb | ⟨d, hd, hb⟩)
          · exact h1 hb
          · omega
          · have := List.all_eq_true.mp h _ (List.mem_map_of_mem (f := isRuleD) hd)
            rw [show id (isRuleD d) = isRuleD d from rfl, hb] at this
            cases this
        · rename_i h
          obtain ⟨b, hb1, hb2⟩ := List.all_eq_false.mp h
          obtain ⟨d, hd, rfl⟩ := List.mem_map.mp hb1
          exact q _ (.rule (.inr (.inr ⟨d, hd, Bool.eq_false_iff.mpr hb2⟩)))
  obtain ⟨rfl, hnb⟩ := h
  obtain ⟨rs, rfl, hg⟩ := good_of (fun d hd => odd_P (ho d hd)) hnb
  have hrl := hg.le
  walk_at "wst"
  refine wE_lcL (decR fun r => some (tx r.nm)) ?_
  walk_at "wgo"
  refine ⟨_, rfl, rfl, by rw [List.length_map]; omega, fun d hd => ?_, fun a1 => ?_⟩
  · obtain ⟨r, hr, rfl⟩ := List.mem_map.mp hd
    show wT K _ _ _ _
    rw [decR_eq]
    refine wT_yes ⟨fun _ => ?_, fun e => by cases e⟩
    walk_at "wgo"
    refine u_ixR ?_
    exact ⟨_, rfl, rfl, by walk_at "kv"⟩
  have e1 : (rsD rs).filterMap (decR fun r => some (tx r.nm)) = (rs.map Rl.nm).map tx := by
    rw [decR_map, List.filterMap_eq_map', List.map_map]; rfl
  rw [e1]
  have hlN : ((rs.map Rl.nm).map tx).length = rs.length := by rw [List.length_map, List.length_map]
  walk_at "wst"
  refine wS_forL ?_
  walk_at "wgo"
  refine ⟨_, rfl, fun k G => (∃ s2, G = [.sh (.lst (rsD rs)), .ow a1 (.lst ((rs.map Rl.nm).map tx)), s2, .no, .no, .no]) ∧ ∀ r ∈ rs.take k, ∀ n x y, r = .fk n x y → x ∈ namesOf rs ∧ y ∈ namesOf rs, ⟨⟨_, rfl⟩, by simp⟩, fun k d G hd h => ?_, fun G h => ?_⟩
  · obtain ⟨⟨s2, rfl⟩, hc⟩ := h
    obtain ⟨r, hr, rfl⟩ := rule_get hd
    have hrm := List.mem_of_getElem? hr
    have hts := take_snoc hr
    refine wG_name ⟨rfl, ?_⟩
    cases r with
    | sg n s =>
      show wS K _ _ [.sh (.lst (rsD rs)), .ow a1 (.lst ((rs.map Rl.nm).map tx)), .sh (.tup [tx n, tx [s]]), .no, .no, .no] _
      walk_at "wgo"
      rename_i r' hr' n' x' y' e
      rw [hts] at hr'
      rcases List.mem_append.mp hr' with hr' | hr'
      · exact hc r' hr' n' x' y' e
      · cases List.mem_singleton.mp hr'; cases e
    | fk n x y =>
      show wS K _ _ [.sh (.lst (rsD rs)), .ow a1 (.lst ((rs.map Rl.nm).map tx)), .sh (.tup [tx n, tx x, tx y]), .no, .no, .no] _
      walk_at "wgo"
      refine u_ninT (ls := rs.map Rl.nm) rfl ?_
      walk_at "wgo"
      · rename_i hx
        refine u_ninT (ls := rs.map Rl.nm) rfl ?_
        walk_at "wgo"
        · rename_i hy r' hr' n' x' y' e
          rw [hts] at hr'
          rcases List.mem_append.mp hr' with hr' | hr'
          · exact hc r' hr' n' x' y' e
          · cases List.mem_singleton.mp hr'; cases e
            exact ⟨names_map.mp hx, names_map.mp hy⟩
        · rename_i hy
          exact q _ (.name rfl hg ⟨n, x, y, hrm, .inr fun h => hy (names_map.mpr h)⟩)
      · rename_i hx
        exact q _ (.name rfl hg ⟨n, x, y, hrm, .inl fun h => hx (names_map.mpr h)⟩)
  obtain ⟨⟨s2, rfl⟩, hc⟩ := h
  rw [List.length_map, List.take_length] at hc
  have hnm : ¬ Missing rs := by
    rintro ⟨n, x, y, hm, h⟩
    obtain ⟨h1, h2⟩ := hc _ hm n x y rfl
    exact h.elim (fun h => h h1) fun h => h h2
  walk_at "wst"
  refine wE_dnewK fun a3 => ?_
  walk_at "wst"
  refine wS_forR1 ?_
  walk_at "wgo"
  have hrD : (rsD rs).length = rs.length := List.length_map ..
  refine ⟨_, rfl, by omega, by omega, fun i G => ∃ ks s2 s4, G = [.sh (.lst (rsD rs)), .ow a1 (.lst ((rs.map Rl.nm).map tx)), s2, .ow a3 (.dK (encB ks)), s4, .no] ∧ OutI rs i ks, ⟨[], _, _, rfl, ⟨List.nodup_nil, (by intro n h; cases h), (by intro n h; cases h)⟩, .inr (Nat.zero_le _)⟩, fun i G hi h => ?_, fun G h => ?_⟩
  · obtain ⟨ks0, s2, s4, rfl, hO⟩ := h
    refine wG_name ⟨rfl, ?_⟩
    refine wS_forL ?_
    walk_at "wgo"
    refine ⟨_, rfl, fun k G => ∃ ks s2, G = [.sh (.lst (rsD rs)), .ow a1 (.lst ((rs.map Rl.nm).map tx)), s2, .ow a3 (.dK (encB ks)), .sh (.int ((i : Nat) : Int)), .no] ∧ TurnI rs ks0 k ks, ⟨ks0, _, rfl, hO.1, .inl ⟨rfl, fun r hr => by simp at hr⟩⟩, fun k d G hd h => ?_, fun G h => ?_⟩
    · obtain ⟨ks, s2, rfl, hT⟩ := h
      obtain ⟨r, hr, rfl⟩ := rule_get hd
      have hle := hT.1.le
      have hkl : (encB ks).length = ks.length := List.length_map ..
      refine wG_name ⟨rfl, ?_⟩
      refine wS_cut (fun G => G = [.sh (.lst (rsD rs)), .ow a1 (.lst ((rs.map Rl.nm).map tx)), .sh (ruleD r), .ow a3 (.dK (encB (stepN ks r))), .sh (.int ((i : Nat) : Int)), .no]) ?_ fun G h => ?_
      · cases r with
        | sg n s =>
          show wS K _ _ [.sh (.lst (rsD rs)), .ow a1 (.lst ((rs.map Rl.nm).map tx)), .sh (.tup [tx n, tx [s]]), .ow a3 (.dK (encB ks)), .sh (.int ((i : Nat) : Int)), .no] _
          walk_at "wgo"
          refine wS_putK (a := a3) ?_
          walk_at "wgo"
          refine ⟨_, .inr (mk n), _, rfl, rfl, rfl, by omega, ?_⟩
          rw [putK_encB]; rfl
        | fk n x y =>
          have hst : stepN ks (.fk n x y) = if (decide (x ∈ ks) && decide (y ∈ ks)) = true then addN ks n else ks := rfl
          rw [hst]
          show wS K _ _ [.sh (.lst (rsD rs)), .ow a1 (.lst ((rs.map Rl.nm).map tx)), .sh (.tup [tx n, tx x, tx y]), .ow a3 (.dK (encB ks)), .sh (.int ((i : Nat) : Int)), .no] _
          walk_at "wgo"
          refine wE_din ?_
          walk_at "wgo"
          refine ⟨_, _, _, rfl, rfl, look_encB _ _, ?_⟩
          rw [some_encB]
          walk_at "wgo"
          · rename_i hx
            rw [decide_eq_true hx, Bool.true_and]
            refine wE_din ?_
            walk_at "wgo"
            refine ⟨_, _, _, rfl, rfl, look_encB _ _, ?_⟩
            rw [some_encB]
            walk_at "wgo"
            · rename_i hy
              rw [decide_eq_true hy]
              refine wS_putK (a := a3) ?_
              walk_at "wgo"
              refine ⟨_, .inr (mk n), _, rfl, rfl, rfl, by omega, ?_⟩
              rw [putK_encB]; rfl
            · rename_i hy
              rw [decide_eq_false hy]; rfl
          · rename_i hx
            rw [decide_eq_false hx]; rfl
      · subst h
        exact ⟨_, _, rfl, hT.step hr⟩
    · obtain ⟨ks, s2, rfl, hT⟩ := h
      rw [List.length_map] at hT
      exact ⟨_, _, _, rfl, hT.out hO⟩
  · obtain ⟨ks, s2, s4, rfl, hO⟩ := h
    rw [hrD, Int.toNat_natCast] at hO
    have hall := hO.all
    walk_at "wst"
    refine wS_cut (fun G => (∃ s2 s4 : Slot, G = [.sh (.lst (rsD rs)), .ow a1 (.lst ((rs.map Rl.nm).map tx)), s2, .ow a3 (.dK (encB ks)), s4, .no]) ∧ ∀ n ∈ namesOf rs, n ∈ ks) ?_ fun G h => ?_
    · walk_at "wgo"
      refine wE_lcB (a := a1) (ds := (rs.map Rl.nm).map tx) (decN fun n => if n ∈ ks then none else some (tx n)) rfl rfl (by omega) (fun d hd => ?_) fun a5 => ?_
      · obtain ⟨n, hn, rfl⟩ := List.mem_map.mp hd
        show wT K _ _ _ _
        have e : decN (fun n => if n ∈ ks then none else some (tx n)) (tx n) = if n ∈ ks then none else some (tx n) := rfl
        rw [e]
        walk_at "wgo"
        refine wE_dnin ?_
        walk_at "wgo"
        refine ⟨_, _, _, rfl, rfl, look_encB _ _, ?_⟩
        rw [some_encB]
        walk_at "wgo"
        · rename_i h
          refine ⟨?_, by walk_at "kv"⟩
          rw [if_pos h]
        · rename_i h
          refine ⟨?_, by walk_at "kv"⟩
          rw [if_neg h]
      · rw [decN_map, fm_not]
        have hfo : ∀ x ∈ (rs.map Rl.nm).filter (fun n => decide (n ∉ ks)), isNameL x = true := fun x hx => by
          obtain ⟨r, hr, rfl⟩ := List.mem_map.mp (List.mem_filter.mp hx).1
          exact nm_ok (hg.ok r hr)
        walk_at "wgo"
        refine u_neD rfl rfl (datL_tx hfo) dat_nil ?_
        rw [eqD_nil (noB_tx _)]
        walk_at "wgo"
        · rename_i h
          rw [List.map_eq_nil_iff, List.filter_eq_nil_iff] at h
          refine ⟨⟨_, _, rfl⟩, fun n hn => ?_⟩
          have := h n (names_map.mpr hn)
          rw [decide_eq_true_eq] at this
          exact Classical.not_not.mp this
        · rename_i h
          rw [List.map_eq_nil_iff] at h
          obtain ⟨n, hn⟩ := List.exists_mem_of_ne_nil _ h
          obtain ⟨h1, h2⟩ := List.mem_filter.mp hn
          exact q _ (.endless rfl hg hnm ⟨n, names_map.mp h1, fun p => of_decide_eq_true h2 ((hall n).mpr p)⟩)
    obtain ⟨⟨s2, s4, rfl⟩, hin⟩ := h
    walk_at "wgo"
    exact q _ (.none rfl (due_gram hg hnm fun ⟨n, h1, h2⟩ => h2 ((hall n).mp (hin n h1))))


/-! #### refusals -/
def GoodD (d : D) : Prop := ∃ t, d = tx t ∧ GoodT t
def DueX (d : D) (o : Option Nat) : Prop := (GoodD d ∧ o = none) ∨ (¬ GoodD d ∧ o = some 3)
def DueS (s : Nat) (l : List D) (d : D) (o : Option Nat) : Prop := (s = 5 ∧ DueX d o) ∨ (s < 5 ∧ ((∃ n, n < 3 ∧ o = some n ∧ DueK l (some n)) ∨ (DueK l none ∧ ((s < 2 ∧ o = none) ∨ (2 ≤ s ∧ DueX d o)))))
theorem good_nb {rs : List Rl} (h : GoodR rs) : ¬ BadR (rsD rs) := by
  rintro (hb | hb | ⟨d, hd, hb⟩)
  · exact h.ne (List.map_eq_nil_iff.mp hb)
  · rw [List.length_map] at hb
    have := h.le; omega
  · obtain ⟨r, hr, rfl⟩ := List.mem_map.mp hd
    rw [ok_isRule (h.ok r hr)] at hb
    cases hb
theorem gram_nu {rs : List Rl} (h : Gram rs) : ¬ Unpro rs := fun ⟨n, h1, h2⟩ => h2 (h.pro n h1)
theorem DueK.uniq {l : List D} {o o' : Option Nat} (h : DueK l o) (h' : DueK l o') : o = o' := by
  cases h with
  | rule hb =>
    cases h' with
    | rule _ => rfl
    | name e g _ => exact absurd (e ▸ hb) (good_nb g)
    | endless e g _ _ => exact absurd (e ▸ hb) (good_nb g)
    | none e g => exact absurd (e ▸ hb) (good_nb g.good)
  | name e g m =>
    subst e
    cases h' with
    | rule hb => exact absurd hb (good_nb g)
    | name _ _ _ => rfl
    | endless e _ m' _ => cases rsD_inj e; exact absurd m m'
    | none e g' => cases rsD_inj e; exact absurd m g'.miss
  | endless e g m u =>
    subst e
    cases h' with
    | rule hb => exact absurd hb (good_nb g)
    | name e _ m' => cases rsD_inj e; exact absurd m' m
    | endless _ _ _ _ => rfl
    | none e g' => cases rsD_inj e; exact absurd u (gram_nu g')
  | none e g =>
    subst e
    cases h' with
    | rule hb => exact absurd hb (good_nb g.good)
    | name e _ m' => cases rsD_inj e; exact absurd m' g.miss
    | endless e _ _ u => cases rsD_inj e; exact absurd u (gram_nu g)
    | none _ _ => rfl
theorem DueX.uniq {d : D} {o o' : Option Nat} (h : DueX d o) (h' : DueX d o') : o = o' := by
  rcases h with ⟨g, rfl⟩ | ⟨g, rfl⟩ <;> rcases h' with ⟨g', rfl⟩ | ⟨g', rfl⟩
  · rfl
  · exact absurd g g'
  · exact absurd g' g
  · rfl
theorem DueS.uniq {s : Nat} {l : List D} {d : D} {o o' : Option Nat} (h : DueS s l d o) (h' : DueS s l d o') : o = o' := by
  rcases h with ⟨e, h⟩ | ⟨e, h⟩ <;> rcases h' with ⟨e', h'⟩ | ⟨e', h'⟩
  · exact h.uniq h'
  · omega
  · omega
  · rcases h with ⟨n, _, rfl, h⟩ | ⟨hk, h⟩ <;> rcases h' with ⟨n', _, rfl, h'⟩ | ⟨hk', h'⟩
    · exact h.uniq h'
    · cases h.uniq hk'
    · cases hk.uniq h'
    · rcases h with ⟨a, rfl⟩ | ⟨a, h⟩ <;> rcases h' with ⟨a', rfl⟩ | ⟨a', h'⟩
      · rfl
      · omega
      · omega
      · exact h.uniq h'
theorem DueS.lt {s : Nat} {l : List D} {d : D} {n : Nat} (h : DueS s l d (some n)) : n < 4 := by
  have hx : ∀ {d : D} {n : Nat}, DueX d (some n) → n < 4 := fun {d n} h => by
    rcases h with ⟨_, e⟩ | ⟨_, e⟩
    · cases e
    · cases e; decide
  rcases h with ⟨_, h⟩ | ⟨_, ⟨m, hm, e, _⟩ | ⟨_, ⟨_, e⟩ | ⟨_, h⟩⟩⟩
  · exact hx h
  · cases e; omega
  · cases e
  · exact hx h
theorem dueT_of {C : ErA} {d : D} {X : Value → Prop} {P : List Nat → Prop} (hx : ¬ GoodD d → X (.ref (C.at 3))) (hp : ∀ t, d = tx t → GoodT t → P t) : DueT C d X P := ⟨hx, hp⟩
structure AskI (s : Nat) (l : List D) (d : D) : Prop where
  lt : s < 6
  odd : ∀ x ∈ l, OddR x
  len : l.length ≤ 1000
  pl : Plain d
  sm : ∀ rs, l = rsD rs → Gram rs → Small rs
def phi_l_done (C : ErA) : Phi := fun ds Q X => ∃ (s : Nat) (l : List D) (d : D), ds = [.int ((s : Nat) : Int), .lst l, d] ∧ AskI s l d ∧ (DueS s l d none → Q (.sh .non)) ∧ ∀ n, n < 4 → DueS s l d (some n) → X (.ref (C.at n))
theorem len_l_done {C : ErA} : ∀ ds Q X, phi_l_done C ds Q X → ds.length = 3 := fun ds Q X h => by
  obtain ⟨_, _, _, rfl, _⟩ := h; rfl
theorem c_l_done {C : ErA} {s : Nat} {l : List D} {d : D} {Q : R → Prop} {X : Value → Prop} (h1 : AskI s l d) (h2 : DueS s l d none → Q (.sh .non)) (h3 : ∀ n, n < 4 → DueS s l d (some n) → X (.ref (C.at n))) : phi_l_done C [.int ((s : Nat) : Int), .lst l, d] Q X := ⟨s, l, d, rfl, h1, h2, h3⟩
abbrev N_l_done : List Str := ["_law_sort", "_law_rules_here", "_law_text_here"]
def t_l_done (K : PySem.W.Frag) (C : ErA) (E : XK) : TS :=
  tIfS (tTest (tOp (uEq K) (tVar 0) (tC (.int 0)))) (tDrop (tCall (mkSp K (phi_need_rules C)) [] E (tCons (tVar 1) tNil))) (tIfS (tTest (tOp (uEq K) (tVar 0) (tC (.int 1)))) (tDrop (tCall (mkSp K (phi_shortest C)) [] E (tCons (tVar 1) tNil))) (tIfS (tTest (tOp (uEq K) (tVar 0) (tC (.int 2)))) (tDrop (tCall (mkSp K (phi_costs C)) [] E (tCons (tVar 1) (tCons (tVar 2) tNil)))) (tIfS (tTest (tOp (uEq K) (tVar 0) (tC (.int 3)))) (tDrop (tCall (mkSp K (phi_mend C)) [] E (tCons (tVar 1) (tCons (tVar 2) tNil)))) (tIfS (tTest (tOp (uEq K) (tVar 0) (tC (.int 4)))) (tDrop (tCall (mkSp K (phi_reads C)) [] E (tCons (tVar 1) (tCons (tVar 2) tNil)))) (tDrop (tCall (mkSp K (phi_need_text C)) [] E (tCons (tVar 2) tNil)))))))
theorem w_l_done {K : PySem.W.Frag} {C : ErA} : ∀ ds Q X, phi_l_done C ds Q X → ∀ E, wS K ⟨E, X⟩ (t_l_done K C E) (G0 N_l_done ds) (PoQ Q) := by
  intro ds Q X h E
  obtain ⟨s, l, d, rfl, hA, hq, hx⟩ := h
  have hP : ∀ x ∈ l, RuleP x := fun x hx => odd_P (hA.odd x hx)
  have hl := hA.len
  have hpl := hA.pl
  have hlt := hA.lt
  have rr : s < 5 → ∀ n, n < 3 → DueK l (some n) → X (.ref (C.at n)) := fun h5 n hn hk => hx n (by omega) (.inr ⟨h5, .inl ⟨n, hn, rfl, hk⟩⟩)
  have tt : s < 5 → 2 ≤ s → ∀ rs, l = rsD rs → Gram rs → ¬ GoodD d → X (.ref (C.at 3)) := fun h5 h2 rs e g hb => hx 3 (by omega) (.inr ⟨h5, .inr ⟨.none e g, .inr ⟨h2, .inr ⟨hb, rfl⟩⟩⟩⟩)
  have gg : s < 5 → 2 ≤ s → ∀ rs, l = rsD rs → Gram rs → GoodD d → (PoQ Q).nx [.sh (.int ((s : Nat) : Int)), .sh (.lst l), .sh d] := fun h5 h2 rs e g hb => nx_non (hq (.inr ⟨h5, .inr ⟨.none e g, .inr ⟨h2, .inl ⟨hb, rfl⟩⟩⟩⟩))
  show wS K _ (t_l_done K C E) [.sh (.int ((s : Nat) : Int)), .sh (.lst l), .sh d] _
  unfold t_l_done
  walk_at "wgo"
  · exact c_need_rules hP (by omega) (dueR_of (rr (by omega)) fun rs e g a => ⟨.inl rfl, nx_non (hq (.inr ⟨by omega, .inr ⟨.none e g, .inl ⟨by omega, rfl⟩⟩⟩))⟩)
  · exact c_shortest hP (by omega) (dueR_of (rr (by omega)) fun rs e g a f _ => ⟨.inl rfl, nx_non (hq (.inr ⟨by omega, .inr ⟨.none e g, .inl ⟨by omega, rfl⟩⟩⟩))⟩)
  · exact c_costs hP (by omega) hpl (dueR_of (rr (by omega)) fun rs e g => dueT_of (tt (by omega) (by omega) rs e g) fun t et gt a es _ => ⟨.inl rfl, gg (by omega) (by omega) rs e g ⟨t, et, gt⟩⟩)
  · exact c_mend hP (by omega) hpl (dueR_of (rr (by omega)) fun rs e g => dueT_of (tt (by omega) (by omega) rs e g) fun t et gt => ⟨hA.sm rs e g, fun es T c _ _ => ⟨.inl rfl, gg (by omega) (by omega) rs e g ⟨t, et, gt⟩⟩⟩)
  · exact c_reads hP (by omega) hpl (dueR_of (rr (by omega)) fun rs e g => dueT_of (tt (by omega) (by omega) rs e g) fun t et gt c _ => ⟨.inl rfl, gg (by omega) (by omega) rs e g ⟨t, et, gt⟩⟩)
  · exact c_need_text hpl (dueT_of (fun hb => hx 3 (by omega) (.inl ⟨by omega, .inr ⟨hb, rfl⟩⟩)) fun t et gt => ⟨.inl rfl, nx_non (hq (.inl ⟨by omega, .inl ⟨⟨t, et, gt⟩, rfl⟩⟩))⟩)
/-! #### _law_refusal -/
theorem u_mulB {K : PySem.W.Frag} {Z : Ec} {G : Sl} {Q : R → Sl → Prop} {l : List Nat} {b : Bool} (q : Q (.sh (tx (if b then l else []))) G) : wR K Z uMul (.sh (tx l)) (.sh (.int (if b then 1 else 0))) G Q := by
  cases b with
  | true => exact u_mulT (.inr rfl) q
  | false => exact u_mulT (.inl rfl) q
local macro_rules | `(tactic| walk_at "w") => `(tactic| with_reducible refine' PL.u_mulB ?_)
def phi_l_refusal (_ : ErA) : Phi := fun ds Q _ => ∃ (s : Nat) (l : List D) (d : D), ds = [.int ((s : Nat) : Int), .lst l, d] ∧ AskI s l d ∧ ∀ o, DueS s l d o → Q (.sh (tx (kTx o)))
theorem len_l_refusal {C : ErA} : ∀ ds Q X, phi_l_refusal C ds Q X → ds.length = 3 := fun ds Q X h => by
  obtain ⟨_, _, _, rfl, _⟩ := h; rfl
theorem c_l_refusal {C : ErA} {s : Nat} {l : List D} {d : D} {Q : R → Prop} {X : Value → Prop} (o : Option Nat) (h1 : AskI s l d) (h2 : DueS s l d o) (q : Q (.sh (tx (kTx o)))) : phi_l_refusal C [.int ((s : Nat) : Int), .lst l, d] Q X := ⟨s, l, d, rfl, h1, fun o' h => h2.uniq h ▸ q⟩
abbrev N_l_refusal : List Str := ["_law_sort", "_law_rules_here", "_law_text_here", "e", "_law_kinds"]
def t_l_refusal (K : PySem.W.Frag) (C : ErA) : TS :=
  tSeq (tTryC K (.ref C.mend) 3 (mkSp K (phi_l_done C)) (tCons (tVar 0) (tCons (tVar 1) (tCons (tVar 2) tNil))) tDrop (tSuite C fun a n => (tSeq (tAsg (tOp (uAdd K) (tOp uMul (tC (.str (mk [114, 117, 108, 101]))) (tCB cInt (tCons (tCB (rIsX K (C.at n) a) (tCons (tVar 3) (tCons (tC (.ref (C.at 0))) tNil))) tNil))) (tOp uMul (tC (.str (mk [110, 97, 109, 101]))) (tCB cInt (tCons (tCB (rIsX K (C.at n) a) (tCons (tVar 3) (tCons (tC (.ref (C.at 1))) tNil))) tNil)))) (gName 4)) (tSeq (tAsg (tOp (uAdd K) (tOp (uAdd K) (tVar 4) (tOp uMul (tC (.str (mk [101, 110, 100, 108, 101, 115, 115]))) (tCB cInt (tCons (tCB (rIsX K (C.at n) a) (tCons (tVar 3) (tCons (tC (.ref (C.at 2))) tNil))) tNil)))) (tOp uMul (tC (.str (mk [116, 101, 120, 116]))) (tCB cInt (tCons (tCB (rIsX K (C.at n) a) (tCons (tVar 3) (tCons (tC (.ref (C.at 3))) tNil))) tNil)))) (gName 4)) (tRet (tOp (uAdd K) (tVar 4) (tOp uMul (tC (.str (mk [32, 110, 111, 110, 101]))) (tCB cInt (tCons (tOrV (tNotV (tCB (rIsX K (C.at n) a) (tCons (tVar 3) (tCons (tC (.ty "ValueError")) tNil)))) (tCB (rIsX K (C.at n) a) (tCons (tVar 3) (tCons (tC (.ref (C.at 4))) tNil)))) tNil))))))))) (tRet (tC (.str (mk [110, 111, 110, 101]))))
theorem w_l_refusal {K : PySem.W.Frag} {C : ErA} (XK : ErK K C) : ∀ ds Q X, phi_l_refusal C ds Q X → ∀ E, wS K ⟨E, X⟩ (t_l_refusal K C) (G0 N_l_refusal ds) (PoQ Q) := by
  intro ds Q X h E
  obtain ⟨s, l, d, rfl, hA, q⟩ := h
  show wS K _ (t_l_refusal K C) [.sh (.int ((s : Nat) : Int)), .sh (.lst l), .sh d, .no, .no] _
  unfold t_l_refusal
  walk_at "wst"
  refine wS_tryDrop ?_
  walk_at "wgo"
  refine c_l_done hA (fun hn => ⟨.inl rfl, ?_⟩) fun n hn hd => ?_
  · walk_at "wnx"
    exact q none hn
  · have hq := q _ hd
    have h4 : n = 0 ∨ n = 1 ∨ n = 2 ∨ n = 3 := by omega
    rcases h4 with rfl | rfl | rfl | rfl
    · refine caught_of (n := 0) XK (by omega) rfl fun ae => ?_
      walk_at "wgo"
      refine wC_isX1 (n := 0) (j := 0) XK (by omega) (by omega) ?_
      walk_at "wgo"
      refine wC_isX1 (n := 0) (j := 1) XK (by omega) (by omega) ?_
      walk_at "wgo"
      refine wC_isX1 (n := 0) (j := 2) XK (by omega) (by omega) ?_
      walk_at "wgo"
      refine wC_isX1 (n := 0) (j := 3) XK (by omega) (by omega) ?_
      walk_at "wgo"
      refine wC_isXV (n := 0) XK (by omega) ?_
      walk_at "wgo"
      refine wC_isX1 (n := 0) (j := 4) XK (by omega) (by omega) ?_
      walk_at "wgo"
      exact hq
    · refine caught_of (n := 1) XK (by omega) rfl fun ae => ?_
      walk_at "wgo"
      refine wC_isX1 (n := 1) (j := 0) XK (by omega) (by omega) ?_
      walk_at "wgo"
      refine wC_isX1 (n := 1) (j := 1) XK (by omega) (by omega) ?_
      walk_at "wgo"
      refine wC_isX1 (n := 1) (j := 2) XK (by omega) (by omega) ?_
      walk_at "wgo"
      refine wC_isX1 (n := 1) (j := 3) XK (by omega) (by omega) ?_
      walk_at "wgo"
      refine wC_isXV (n := 1) XK (by omega) ?_
      walk_at "wgo"
      refine wC_isX1 (n := 1) (j := 4) XK (by omega) (by omega) ?_
      walk_at "wgo"
      exact hq
    · refine caught_of (n := 2) XK (by omega) rfl fun ae => ?_
      walk_at "wgo"
      refine wC_isX1 (n := 2) (j := 0) XK (by omega) (by omega) ?_
      walk_at "wgo"
      refine wC_isX1 (n := 2) (j := 1) XK (by omega) (by omega) ?_
      walk_at "wgo"
      refine wC_isX1 (n := 2) (j := 2) XK (by omega) (by omega) ?_
      walk_at "wgo"
      refine wC_isX1 (n := 2) (j := 3) XK (by omega) (by omega) ?_
      walk_at "wgo"
      refine wC_isXV (n := 2) XK (by omega) ?_
      walk_at "wgo"
      refine wC_isX1 (n := 2) (j := 4) XK (by omega) (by omega) ?_
      walk_at "wgo"
      exact hq
    · refine caught_of (n := 3) XK (by omega) rfl fun ae => ?_
      walk_at "wgo"
      refine wC_isX1 (n := 3) (j := 0) XK (by omega) (by omega) ?_
      walk_at "wgo"
      refine wC_isX1 (n := 3) (j := 1) XK (by omega) (by omega) ?_
      walk_at "wgo"
      refine wC_isX1 (n := 3) (j := 2) XK (by omega) (by omega) ?_
      walk_at "wgo"
      refine wC_isX1 (n := 3) (j := 3) XK (by omega) (by omega) ?_
      walk_at "wgo"
      refine wC_isXV (n := 3) XK (by omega) ?_
      walk_at "wgo"
      refine wC_isX1 (n := 3) (j := 4) XK (by omega) (by omega) ?_
      walk_at "wgo"
      exact hq
/-! #### texts -/
def TxD (d : D) : Prop := (∃ t, d = tx t ∧ t.length ≤ 60 ∧ ∀ c ∈ t, c ∈ signsL ∨ c = 10 ∨ c = 9) ∨ d = .non ∨ d = .int 5 ∨ d = .lst [tx [97]]
theorem sepL (x : Int) : ∃ u, [D.str (mk [10]), D.str (mk [9]), D.str (mk [10, 10])].getD (x.fmod 3).toNat .non = tx u ∧ u.length ≤ 2 ∧ ∀ c ∈ u, c = 10 ∨ c = 9 := by
  have h := fmod_rng x (n := 3) (by decide)
  have h2 : (x.fmod 3).toNat < 3 := by omega
  generalize (x.fmod 3).toNat = i at h2
  match i, h2 with
  | 0, _ => exact ⟨[10], rfl, by decide, by decide⟩
  | 1, _ => exact ⟨[9], rfl, by decide, by decide⟩
  | 2, _ => exact ⟨[10, 10], rfl, by decide, by decide⟩
theorem txL {d : D} (hd : TxD d) (x : Int) : TxD ([d, .non, .int 5, .lst [tx [97]]].getD (x.fmod 4).toNat .non) := by
  have h := fmod_rng x (n := 4) (by decide)
  have h2 : (x.fmod 4).toNat < 4 := by omega
  generalize (x.fmod 4).toNat = i at h2
  match i, h2 with
  | 0, _ => exact hd
  | 1, _ => exact .inr (.inl rfl)
  | 2, _ => exact .inr (.inr (.inl rfl))
  | 3, _ => exact .inr (.inr (.inr rfl))
def phi_l_text (_ : ErA) : Phi := fun ds Q _ => ∃ c : Int, ds = [.int c] ∧ ∀ d, TxD d → Q (.sh d)
theorem len_l_text {C : ErA} : ∀ ds Q X, phi_l_text C ds Q X → ds.length = 1 := fun ds Q X h => by
  obtain ⟨_, rfl, _⟩ := h; rfl
theorem c_l_text {C : ErA} {c : Int} {Q : R → Prop} {X : Value → Prop} (q : ∀ d, TxD d → Q (.sh d)) : phi_l_text C [.int c] Q X := ⟨c, rfl, q⟩
abbrev N_l_text : List Str := ["_law_cell", "_law_size", "_law_text_here", "_law_at_here", "_law_k"]
def t_l_text (K : PySem.W.Frag) (C : ErA) : TS :=
  tSeq (tAsg (tOp (rI (fun _ j => j ≠ 0) fun i j => .int (i.fmod j)) (tVar 0) (tC (.int 7))) (gName 1)) (tSeq (tIfS (tTest (tOp (uEq K) (tOp (rI (fun _ j => j ≠ 0) fun i j => .int (i.fmod j)) (tOp (rI CDivN fun i j => .int (i.fdiv j)) (tVar 0) (tC (.int 7))) (tC (.int 6))) (tC (.int 1)))) (tAsg (tOp (uAdd K) (tC (.int 39)) (tOp (rI (fun _ j => j ≠ 0) fun i j => .int (i.fmod j)) (tOp (rI CDivN fun i j => .int (i.fdiv j)) (tVar 0) (tC (.int 42))) (tC (.int 3)))) (gName 1)) tNext) (tSeq (tAsg (tM1 (mJoin K) (tC (.str (mk []))) (tLc (iRng1 (tCons (tVar 1) tNil)) (gName 4) tYes (tOp (rIx K) (tC (.str (mk [97, 98, 32, 43]))) (tOp (rI (fun _ j => j ≠ 0) fun i j => .int (i.fmod j)) (tOp (uAdd K) (tOp (rI CDivN fun i j => .int (i.fdiv j)) (tVar 0) (tC (.int 7))) (tVar 4)) (tC (.int 4)))) [4])) (gName 2)) (tSeq (tAsg (tOp (rI (fun _ j => j ≠ 0) fun i j => .int (i.fmod j)) (tOp (rI CDivN fun i j => .int (i.fdiv j)) (tVar 0) (tC (.int 28))) (tOp (uAdd K) (tVar 1) (tC (.int 1)))) (gName 3)) (tSeq (tIfS (tTest (tOp (uEq K) (tOp (rI (fun _ j => j ≠ 0) fun i j => .int (i.fmod j)) (tOp (rI CDivN fun i j => .int (i.fdiv j)) (tVar 0) (tC (.int 7))) (tC (.int 4))) (tC (.int 2)))) (tRet (tOp (rIx K) (tLst (tCons (tOp (uAdd K) (tOp (uAdd K) (tSl (uSl K) (tVar 2) tNoPart (tPart (tVar 3))) (tOp (rIx K) (tLst (tCons (tC (.str (mk [10]))) (tCons (tC (.str (mk [9]))) (tCons (tC (.str (mk [10, 10]))) tNil)))) (tOp (rI (fun _ j => j ≠ 0) fun i j => .int (i.fmod j)) (tOp (rI CDivN fun i j => .int (i.fdiv j)) (tVar 0) (tC (.int 28))) (tC (.int 3))))) (tSl (uSl K) (tVar 2) (tPart (tVar 3)) tNoPart)) (tCons (tC .non) (tCons (tC (.int 5)) (tCons (tLst (tCons (tC (.str (mk [97]))) tNil)) tNil))))) (tOp (rI (fun _ j => j ≠ 0) fun i j => .int (i.fmod j)) (tOp (rI CDivN fun i j => .int (i.fdiv j)) (tVar 0) (tC (.int 28))) (tC (.int 4))))) tNext) (tRet (tVar 2))))))
theorem w_l_text {K : PySem.W.Frag} {C : ErA} : ∀ ds Q X, phi_l_text C ds Q X → ∀ E, wS K ⟨E, X⟩ (t_l_text K C) (G0 N_l_text ds) (PoQ Q) := by
  intro ds Q X h E
  obtain ⟨c, rfl, q⟩ := h
  show wS K _ (t_l_text K C) [.sh (.int c), .no, .no, .no, .no] _
  unfold t_l_text
  have h7 := fmod_rng c (n := 7) (by decide)
  have h3 := fmod_rng (c.fdiv 42) (n := 3) (by decide)
  walk_at "wst"
  refine wS_cut (fun G => ∃ n : Nat, G = [.sh (.int c), .sh (.int ((n : Nat) : Int)), .no, .no, .no] ∧ n ≤ 41) ?_ fun G h => ?_
  · walk_at "wgo"
    · exact ⟨(39 + (c.fdiv 42).fmod 3).toNat, by rw [Int.toNat_of_nonneg (by omega)], by omega⟩
    · exact ⟨(c.fmod 7).toNat, by rw [Int.toNat_of_nonneg (by omega)], by omega⟩
  obtain ⟨n, rfl, hn⟩ := h
  walk_at "wst"
  refine wE_lcR (fun j : Nat => tx [[97, 98, 32, 43].getD ((c.fdiv 7 + (j : Int)).fmod 4).toNat 0]) ?_
  walk_at "wgo"
  refine ⟨_, rfl, rfl, by omega, by omega, fun j hj => ?_, fun a => ?_⟩
  · refine wT_yes ⟨rfl, ?_⟩
    walk_at "wgo"
    walk_at "keep"
  rw [Int.toNat_natCast]
  refine wM_join1 (n := n) rfl (by omega) ?_
  have htl : ((List.range n).map fun j : Nat => [97, 98, 32, 43].getD ((c.fdiv 7 + (j : Int)).fmod 4).toNat 0).length = n := by
    rw [List.length_map, List.length_range]
  have hts : ∀ x ∈ (List.range n).map fun j : Nat => [97, 98, 32, 43].getD ((c.fdiv 7 + (j : Int)).fmod 4).toNat 0, x ∈ signsL := fun x hx => by
    obtain ⟨j, _, rfl⟩ := List.mem_map.mp hx
    exact sgAb _
  generalize ((List.range n).map fun j : Nat => [97, 98, 32, 43].getD ((c.fdiv 7 + (j : Int)).fmod 4).toNat 0) = t at htl hts
  walk_at "wst"
  have hj0 := fmod_rng (c.fdiv 28) (n := (n : Int) + 1) (by omega)
  obtain ⟨u, hu, hul, huc⟩ := sepL (c.fdiv 28)
  have hT : TxD (tx (cut t none (some ((c.fdiv 28).fmod ((n : Int) + 1))) ++ u ++ cut t (some ((c.fdiv 28).fmod ((n : Int) + 1))) none)) := by
    refine .inl ⟨_, rfl, ?_, fun x hx => ?_⟩
    · have h1 := cut_lenG t none (some ((c.fdiv 28).fmod ((n : Int) + 1)))
      have h2 : (cut t (some ((c.fdiv 28).fmod ((n : Int) + 1))) none).length = t.length - ((c.fdiv 28).fmod ((n : Int) + 1)).toNat := by
        have e : (c.fdiv 28).fmod ((n : Int) + 1) = ((((c.fdiv 28).fmod ((n : Int) + 1)).toNat : Nat) : Int) := by omega
        rw [e, cut_lo (by omega), List.length_drop, Int.toNat_natCast]
      have h3 : (cut t none (some ((c.fdiv 28).fmod ((n : Int) + 1)))).length = ((c.fdiv 28).fmod ((n : Int) + 1)).toNat := by
        have e : (c.fdiv 28).fmod ((n : Int) + 1) = ((((c.fdiv 28).fmod ((n : Int) + 1)).toNat : Nat) : Int) := by omega
        rw [e, cut_hi (by omega), List.length_take, Int.toNat_natCast]
        omega
      rw [List.length_append, List.length_append, h2, h3]
      omega
    · rcases List.mem_append.mp hx with hx | hx
      · rcases List.mem_append.mp hx with hx | hx
        · exact .inl (hts x (cut_mem hx))
        · exact .inr (huc x hx)
      · exact .inl (hts x (cut_mem hx))
  have hc1 := cut_lenG t none (some ((c.fdiv 28).fmod ((n : Int) + 1)))
  have hc2 := cut_lenG t (some ((c.fdiv 28).fmod ((n : Int) + 1))) none
  walk_at "wgo"
  · rw [hu]
    walk_at "wgo"
    exact q _ (txL hT _)
  · exact q _ (.inl ⟨t, rfl, by omega, fun x hx => .inl (hts x hx)⟩)


/-! #### the law -/
theorem TxD.ok {d : D} (h : TxD d) : okD d = true := by
  have h97 : Tx [97] := tx_sign (by decide +kernel)
  rcases h with ⟨t, rfl, h1, h2⟩ | rfl | rfl | rfl
  · refine okD_tx ⟨by omega, fun c hc => ?_⟩
    rcases h2 c hc with h | h | h
    · exact signs_lt c h
    · omega
    · omega
  · rfl
  · rfl
  · exact okA_cons (okD_tx h97) rfl
theorem cut_last {α : Type} (l : List α) (x : α) : cut (l ++ [x]) none (some (-1)) = l := by
  unfold cut
  have e : HT.sIx (l ++ [x]).length (l ++ [x]).length (some (-1)) = l.length := by
    show (if (-1 : Int) < 0 then (-1 + (((l ++ [x]).length : Nat) : Int)).toNat else min (-1 : Int).toNat (l ++ [x]).length) = l.length
    rw [if_pos (by decide), List.length_append, List.length_singleton]
    omega
  rw [e, HT.sIx_none, List.drop_zero, Nat.sub_zero, List.take_left']
  rfl
theorem noG {d : D} (h : ¬ GoodD d) : true = false ↔ GoodD d := ⟨fun e => Bool.noConfusion e, fun g => absurd g h⟩
theorem good_tx {t : List Nat} : GoodD (tx t) ↔ GoodT t := ⟨fun ⟨t', e, g⟩ => tx_inj e ▸ g, fun g => ⟨t, rfl, g⟩⟩
theorem noG_of {d : D} (h : isStr d = false) : ¬ GoodD d := fun ⟨t, e, _⟩ => by rw [e] at h; cases h
theorem s10 : 10 ∉ signsL := by decide +kernel
theorem s9 : 9 ∉ signsL := by decide +kernel
theorem dueX_bad {d : D} {bad : Bool} (h : bad = false ↔ GoodD d) : DueX d (if bad then some 3 else none) := by
  cases bad with
  | true => exact .inr ⟨fun g => Bool.noConfusion (h.mpr g), rfl⟩
  | false => exact .inl ⟨h.mp rfl, rfl⟩
def phi_law (_ : ErA) : Phi := fun ds Q _ => ∃ ns, ds = [.scr ns] ∧ Q (.sh (.bl true))
theorem len_law {C : ErA} : ∀ ds Q X, phi_law C ds Q X → ds.length = 1 := fun ds Q X h => by
  obtain ⟨_, rfl, _⟩ := h; rfl
theorem wS_asgM {K : PySem.W.Frag} {Z : Ec} {G : Sl} {P : Po} {φ : PhiM} {ta : TA} {E' : XK} {i : Nat} (h : wE K Z (tCall (mkSpM K true φ) [] E' ta) G fun r G1 => r = .bo i ∧ Nat.blt i G1.length = true ∧ P.nx G1) : wS K Z (tAsg (tCall (mkSpM K true φ) [] E' ta) (gName i)) G P := wS_asgB h
local macro_rules | `(tactic| walk_at "w") => `(tactic| with_reducible refine' PL.wS_asgM ?_)
local macro_rules | `(tactic| walk_at "c") => `(tactic| decide)
abbrev N_law : List Str := ["_law_script", "_law_base", "_law_rules_here", "_law_names", "_law_text_here", "_law_bad", "_law_due_here", "_law_given", "_law_sort", "_law_wanted", "_law_found", "_law_rule"]
def t_law (K : PySem.W.Frag) (C : ErA) : TS :=
  tSeq (tAsg (tCall (mkSp K (phi_l_at C)) [] E0 (tCons (tVar 0) (tCons (tC (.int 0)) tNil))) (gName 1)) (tSeq (tAsg (tCall (mkSp K (phi_l_rules C)) [] E0 (tCons (tVar 0) (tCons (tVar 1) tNil))) (gName 2)) (tSeq (tAsg (tCB (uSorted K) (tCons (tLc (iList K (tVar 2)) (gName 11) tYes (tOp (rIx K) (tVar 11) (tC (.int 0))) [11]) tNil)) (gName 3)) (tSeq (tAsg (tCall (mkSpM K true (phi_l_spoilt C)) [] E0 (tCons (tVar 2) (tCons (tCall (mkSp K (phi_l_at C)) [] E0 (tCons (tVar 0) (tCons (tC (.int 12)) tNil))) (tCons (tVar 3) tNil)))) (gName 2)) (tSeq (tIfS (tTest (tOp (uEq K) (tOp (rI (fun _ j => j ≠ 0) fun i j => .int (i.fmod j)) (tCall (mkSp K (phi_l_at C)) [] E0 (tCons (tVar 0) (tCons (tC (.int 12)) tNil))) (tC (.int 3))) (tC (.int 1)))) (tAsg (tCall (mkSpM K true (phi_l_spoilt C)) [] E0 (tCons (tVar 2) (tCons (tCall (mkSp K (phi_l_at C)) [] E0 (tCons (tVar 0) (tCons (tC (.int 13)) tNil))) (tCons (tVar 3) tNil)))) (gName 2)) tNext) (tSeq (tAsg (tCall (mkSp K (phi_l_text C)) [] E0 (tCons (tCall (mkSp K (phi_l_at C)) [] E0 (tCons (tVar 0) (tCons (tC (.int 14)) tNil))) tNil)) (gName 4)) (tSeq (tIfS (tAnd (tTest (tOp (rI0 fun i j => .bl (decide (j < i))) (tCB (cLen K) (tCons (tVar 2) tNil)) (tC (.int 12)))) (tTru K (tCB (rIsi K) (tCons (tVar 4) (tCons (tC (.ty "str")) tNil))))) (tAsg (tSl (uSl K) (tVar 4) tNoPart (tPart (tC (.int 2)))) (gName 4)) tNext) (tSeq (tAsg (tOrV (tNotV (tCB (rIsi K) (tCons (tVar 4) (tCons (tC (.ty "str")) tNil)))) (tOrV (tOp (rI0 fun i j => .bl (decide (j < i))) (tCB (cLen K) (tCons (tVar 4) tNil)) (tC (.int 40))) (tOrV (tOp (uIn K) (tC (.str (mk [10]))) (tVar 4)) (tOp (uIn K) (tC (.str (mk [9]))) (tVar 4))))) (gName 5)) (tSeq (tAsg (tCall (mkSp K (phi_l_due C)) [] E0 (tCons (tVar 2) tNil)) (gName 6)) (tSeq (tAsg (tCB (cList K) (tCons (tVar 2) tNil)) (gName 7)) (tSeq (tFor (iRng1 (tCons (tC (.int 6)) tNil)) (gName 8) (tSeq (tAsg (tVar 6) (gName 9)) (tSeq (tIfS (tAnd (tTest (tOp (uEq K) (tVar 6) (tC (.str (mk [110, 111, 110, 101]))))) (tAnd (tNot (tTru K (tVar 5))) (tAnd (tTest (tChain (rI0 fun i j => .bl (decide (i < j))) (rI0 fun i j => .bl (decide (i < j))) (tC (.int 1)) (tVar 8) (tC (.int 5)))) (tTest (tOp (rI0 fun i j => .bl (decide (j < i))) (tCB (cLen K) (tCons (tVar 4) tNil)) (tC (.int 6))))))) tCont tNext) (tSeq (tIfS (tOr (tTest (tOp (uEq K) (tVar 8) (tC (.int 5)))) (tAnd (tTest (tOp (uEq K) (tVar 6) (tC (.str (mk [110, 111, 110, 101]))))) (tTest (tOp (rI0 fun i j => .bl (decide (j < i))) (tVar 8) (tC (.int 1)))))) (tAsg (tOp (rIx K) (tLst (tCons (tC (.str (mk [110, 111, 110, 101]))) (tCons (tC (.str (mk [116, 101, 120, 116]))) tNil))) (tCB cInt (tCons (tVar 5) tNil))) (gName 9)) tNext) (tIfS (tOr (tTest (tOp (uNe K) (tCall (mkSp K (phi_l_refusal C)) [] E0 (tCons (tVar 8) (tCons (tVar 7) (tCons (tVar 4) tNil)))) (tVar 9))) (tTest (tOp (uNe K) (tVar 7) (tVar 2)))) (tRet (tC (.bl false))) tNext))))) (tSeq (tIfS (tTest (tOp (uEq K) (tVar 6) (tC (.str (mk [110, 111, 110, 101]))))) (tSeq (tAsg (tCall (mkSp K (phi_need_rules C)) [] E0 (tCons (tVar 7) tNil)) (gName 10)) (tSeq (tDrop (tBM K "list" rAppend (tVar 10) (tCons (tC (.str (mk [109, 111, 114, 101]))) tNil))) (tIfS (tOr (tTest (tOp (uNe K) (tSl (uSl K) (tVar 10) tNoPart (tPart (tUn (rU fun i => .int (-i)) (tC (.int 1))))) (tVar 2))) (tTest (tOp (uNe K) (tVar 7) (tVar 2)))) (tRet (tC (.bl false))) tNext))) tNext) (tRet (tOrV (tVar 5) (tOp (uEq K) (tCall (mkSp K (phi_need_text C)) [] E0 (tCons (tVar 4) tNil)) (tVar 4)))))))))))))))
theorem w_law {K : PySem.W.Frag} {C : ErA} : ∀ ds Q X, phi_law C ds Q X → ∀ E, wS K ⟨E, X⟩ (t_law K C) (G0 N_law ds) (PoQ Q) := by
  intro ds Q X h E
  obtain ⟨ns, rfl, q⟩ := h
  show wS K _ (t_law K C) [.sh (.scr ns), .no, .no, .no, .no, .no, .no, .no, .no, .no, .no, .no] _
  unfold t_law
  walk_at "wst"
  refine c_l_rules fun a2 nl rs hB h0 h4 hok hne hl => ⟨.inl rfl, ?_⟩
  walk_at "wst"
  refine wE_lcB (a := a2) (ds := rsD rs) (decR fun r => some (tx r.nm)) rfl rfl (by rw [List.length_map]; omega) (fun d hd => ?_) fun a3 => ?_
  · obtain ⟨r, hr, rfl⟩ := List.mem_map.mp hd
    show wT K _ _ _ _
    rw [decR_eq]
    refine wT_yes ⟨fun _ => ?_, fun e => by cases e⟩
    walk_at "wgo"
    refine u_ixR ?_
    exact ⟨_, rfl, rfl, by walk_at "kv"⟩
  have e1 : (rsD rs).filterMap (decR fun r => some (tx r.nm)) = (rs.map Rl.nm).map tx := by
    rw [decR_map, List.filterMap_eq_map', List.map_map]; rfl
  rw [e1]
  walk_at "wgo"
  refine wC_sortS (ls := rs.map Rl.nm) rfl (by rw [List.length_map]; omega) fun a4 nm hp => ?_
  have hnl : nm.length = rs.length := by rw [hp.length_eq, List.length_map]
  have hnz : 0 < rs.length := List.length_pos_iff.mpr hne
  have hnm : ∀ x ∈ nm, isNameL x = true ∧ x ∈ nl := fun x hx => by
    obtain ⟨r, hr, rfl⟩ := List.mem_map.mp (hp.mem_iff.mp hx)
    refine ⟨nm_ok (hB.ok r hr), ?_⟩
    have := hB.inn r hr
    cases r with
    | sg n s => exact this
    | fk n a b => exact this.1
  refine rput_ow rfl ?_
  simp only [List.set_cons_zero, List.set_cons_succ]
  refine wS_fz (i := 3) rfl ?_
  show wS K _ _ [.sh (.scr ns), .sh (.int (cell ns 0)), .ow a2 (.lst (rsD rs)), .sh (.lst (nm.map tx)), .no, .no, .no, .no, .no, .no, .no, .no] _
  have hS0 := SpI.start hB
  have hl0 : (rsD rs).length ≤ 41 := by rw [List.length_map]; exact hl
  generalize hL0 : rsD rs = l0 at hS0 hl0
  walk_at "wst"
  refine ⟨2, a2, _, _, _, rfl, rfl, rfl, rfl, c_l_spoilt (by omega) (by omega) (by omega) hnm fun l1 hs1 => ⟨.inl rfl, rfl, rfl, ?_⟩⟩
  obtain ⟨hS1, hl1⟩ := hS0.spo hs1
  show wS K _ _ [.sh (.scr ns), .sh (.int (cell ns 0)), .ow a2 (.lst l1), .sh (.lst (nm.map tx)), .no, .no, .no, .no, .no, .no, .no, .no] _
  refine wS_seq ?_
  refine wS_cut (fun G => ∃ l, G = [.sh (.scr ns), .sh (.int (cell ns 0)), .ow a2 (.lst l), .sh (.lst (nm.map tx)), .no, .no, .no, .no, .no, .no, .no, .no] ∧ SpI nl rs l ∧ l.length ≤ 43) ?_ fun G h => ?_
  · walk_at "wgo"
    · refine ⟨2, a2, _, _, _, rfl, rfl, rfl, rfl, c_l_spoilt (by omega) (by omega) (by omega) hnm fun l2 hs2 => ⟨.inl rfl, rfl, rfl, ?_⟩⟩
      obtain ⟨hS2, hl2⟩ := hS1.spo hs2
      exact ⟨l2, rfl, hS2, by omega⟩
    · exact ⟨hS1, by omega⟩
  obtain ⟨l, rfl, hS, hll⟩ := h
  clear hS1 hS0 hl0 hl1 hs1 hL0 e1
  have hodd : ∀ d ∈ l, OddR d := fun d hd => (hS.el d hd).odd
  have hsm : ∀ rs', l = rsD rs' → Gram rs' → Small rs' := fun rs' e g => by
    subst e
    exact (hS.small hB h4 g).small (by decide)
  refine wS_fz (i := 2) rfl ?_
  show wS K _ _ [.sh (.scr ns), .sh (.int (cell ns 0)), .sh (.lst l), .sh (.lst (nm.map tx)), .no, .no, .no, .no, .no, .no, .no, .no] _
  walk_at "wst"
  refine c_l_text fun d hd => ⟨.inl rfl, ?_⟩
  walk_at "wst"
  refine wS_cut (fun G => ∃ d, G = [.sh (.scr ns), .sh (.int (cell ns 0)), .sh (.lst l), .sh (.lst (nm.map tx)), .sh d, .no, .no, .no, .no, .no, .no, .no] ∧ TxD d) ?_ fun G h => ?_
  · have hdo := hd.ok
    rcases hd with ⟨t, rfl, h1, h2⟩ | rfl | rfl | rfl
    · walk_at "wgo"
      · exact .inl ⟨_, rfl, Nat.le_trans (cut_lenG _ _ _) h1, fun c hc => h2 c (cut_mem hc)⟩
      · exact .inl ⟨t, rfl, h1, h2⟩
      · exact .inl ⟨t, rfl, h1, h2⟩
    · walk_at "wgo"
      all_goals first | exact .inr (.inl rfl) | (rename_i h; cases h)
    · walk_at "wgo"
      all_goals first | exact .inr (.inr (.inl rfl)) | (rename_i h; cases h)
    · walk_at "wgo"
      all_goals first | exact .inr (.inr (.inr rfl)) | (rename_i h _; cases h; done)
  clear hd
  obtain ⟨d, rfl, hd⟩ := h
  have hdo := hd.ok
  refine wS_seq ?_
  refine wS_cut (fun G => ∃ bad : Bool, G = [.sh (.scr ns), .sh (.int (cell ns 0)), .sh (.lst l), .sh (.lst (nm.map tx)), .sh d, .sh (.bl bad), .no, .no, .no, .no, .no, .no] ∧ (bad = false ↔ GoodD d)) ?_ fun G h => ?_
  · rcases hd with ⟨t, rfl, h1, h2⟩ | rfl | rfl | rfl
    · walk_at "wgo"
      · refine noG fun g => ?_
        have := (good_tx.mp g).le
        omega
      · rename_i h
        refine noG fun g => s10 ?_
        exact (good_tx.mp g).ok 10 h
      · rename_i h40 h10
        rw [decide_eq_false_iff_not, good_tx]
        refine ⟨fun h => ⟨by omega, fun c hc => ?_⟩, fun g h => s9 (g.ok 9 h)⟩
        rcases h2 c hc with e | e | e
        · exact e
        · exact absurd (e ▸ hc) h10
        · exact absurd (e ▸ hc) h
      · rename_i h
        cases h
    · walk_at "wgo"
      · rename_i h
        cases h
      · exact noG (noG_of rfl)
    · walk_at "wgo"
      · rename_i h
        cases h
      · exact noG (noG_of rfl)
    · walk_at "wgo"
      · rename_i h
        cases h
      · exact noG (noG_of rfl)
  obtain ⟨bad, rfl, hbad⟩ := h
  walk_at "wst"
  refine c_l_due hodd (by omega) fun kd hkd => ⟨.inl rfl, ?_⟩
  walk_at "wst"
  rename_i a7
  refine wS_fz (i := 7) rfl ?_
  show wS K _ _ [.sh (.scr ns), .sh (.int (cell ns 0)), .sh (.lst l), .sh (.lst (nm.map tx)), .sh d, .sh (.bl bad), .sh (tx (kTx kd)), .sh (.lst l), .no, .no, .no, .no] _
  have hP : ∀ x ∈ l, RuleP x := fun x hx => odd_P (hodd x hx)
  have hdl := datL_odd hodd
  have hnb := noB_odd hodd
  have hpl := okD_plain hdo
  have hA : ∀ s, s < 6 → AskI s l d := fun s hs => ⟨hs, hodd, by omega, hpl, hsm⟩
  refine wS_forR1 ?_
  walk_at "wgo"
  refine ⟨_, rfl, by omega, by omega, fun i G => ∃ s8 s9 : Slot, G = [.sh (.scr ns), .sh (.int (cell ns 0)), .sh (.lst l), .sh (.lst (nm.map tx)), .sh d, .sh (.bl bad), .sh (tx (kTx kd)), .sh (.lst l), s8, s9, .no, .no], ⟨_, _, rfl⟩, fun i G hi h => ?_, fun G h => ?_⟩
  · obtain ⟨s8, s9, rfl⟩ := h
    have hi6 : i < 6 := by omega
    refine wG_name ⟨rfl, ?_⟩
    have hX := dueX_bad hbad
    have hA' := hA i hi6
    cases hkd with
    | rule hb =>
      have hk : DueK l (some 0) := .rule hb
      cases bad with
      | true =>
        have hX : DueX d (some 3) := hX
        walk_at "wgo"
        · refine c_l_refusal (some 3) hA' (.inl ⟨by omega, hX⟩) ⟨.inl rfl, ?_⟩
          walk_at "wgo"
          refine u_neSame rfl rfl hdl hnb ?_
          walk_at "wgo"
          exact ⟨_, _, rfl⟩
        · refine c_l_refusal (some 0) hA' (.inr ⟨by omega, .inl ⟨0, by decide, rfl, hk⟩⟩) ⟨.inl rfl, ?_⟩
          walk_at "wgo"
          refine u_neSame rfl rfl hdl hnb ?_
          walk_at "wgo"
          exact ⟨_, _, rfl⟩
      | false =>
        have hX : DueX d (none) := hX
        walk_at "wgo"
        · refine c_l_refusal (none) hA' (.inl ⟨by omega, hX⟩) ⟨.inl rfl, ?_⟩
          walk_at "wgo"
          refine u_neSame rfl rfl hdl hnb ?_
          walk_at "wgo"
          exact ⟨_, _, rfl⟩
        · refine c_l_refusal (some 0) hA' (.inr ⟨by omega, .inl ⟨0, by decide, rfl, hk⟩⟩) ⟨.inl rfl, ?_⟩
          walk_at "wgo"
          refine u_neSame rfl rfl hdl hnb ?_
          walk_at "wgo"
          exact ⟨_, _, rfl⟩
    | name e g m =>
      have hk : DueK l (some 1) := .name e g m
      cases bad with
      | true =>
        have hX : DueX d (some 3) := hX
        walk_at "wgo"
        · refine c_l_refusal (some 3) hA' (.inl ⟨by omega, hX⟩) ⟨.inl rfl, ?_⟩
          walk_at "wgo"
          refine u_neSame rfl rfl hdl hnb ?_
          walk_at "wgo"
          exact ⟨_, _, rfl⟩
        · refine c_l_refusal (some 1) hA' (.inr ⟨by omega, .inl ⟨1, by decide, rfl, hk⟩⟩) ⟨.inl rfl, ?_⟩
          walk_at "wgo"
          refine u_neSame rfl rfl hdl hnb ?_
          walk_at "wgo"
          exact ⟨_, _, rfl⟩
      | false =>
        have hX : DueX d (none) := hX
        walk_at "wgo"
        · refine c_l_refusal (none) hA' (.inl ⟨by omega, hX⟩) ⟨.inl rfl, ?_⟩
          walk_at "wgo"
          refine u_neSame rfl rfl hdl hnb ?_
          walk_at "wgo"
          exact ⟨_, _, rfl⟩
        · refine c_l_refusal (some 1) hA' (.inr ⟨by omega, .inl ⟨1, by decide, rfl, hk⟩⟩) ⟨.inl rfl, ?_⟩
          walk_at "wgo"
          refine u_neSame rfl rfl hdl hnb ?_
          walk_at "wgo"
          exact ⟨_, _, rfl⟩
    | endless e g m u =>
      have hk : DueK l (some 2) := .endless e g m u
      cases bad with
      | true =>
        have hX : DueX d (some 3) := hX
        walk_at "wgo"
        · refine c_l_refusal (some 3) hA' (.inl ⟨by omega, hX⟩) ⟨.inl rfl, ?_⟩
          walk_at "wgo"
          refine u_neSame rfl rfl hdl hnb ?_
          walk_at "wgo"
          exact ⟨_, _, rfl⟩
        · refine c_l_refusal (some 2) hA' (.inr ⟨by omega, .inl ⟨2, by decide, rfl, hk⟩⟩) ⟨.inl rfl, ?_⟩
          walk_at "wgo"
          refine u_neSame rfl rfl hdl hnb ?_
          walk_at "wgo"
          exact ⟨_, _, rfl⟩
      | false =>
        have hX : DueX d (none) := hX
        walk_at "wgo"
        · refine c_l_refusal (none) hA' (.inl ⟨by omega, hX⟩) ⟨.inl rfl, ?_⟩
          walk_at "wgo"
          refine u_neSame rfl rfl hdl hnb ?_
          walk_at "wgo"
          exact ⟨_, _, rfl⟩
        · refine c_l_refusal (some 2) hA' (.inr ⟨by omega, .inl ⟨2, by decide, rfl, hk⟩⟩) ⟨.inl rfl, ?_⟩
          walk_at "wgo"
          refine u_neSame rfl rfl hdl hnb ?_
          walk_at "wgo"
          exact ⟨_, _, rfl⟩
    | none e g =>
      have hk : DueK l none := .none e g
      cases bad with
      | true =>
        have hX : DueX d (some 3) := hX
        walk_at "wgo"
        all_goals first
          | (refine c_l_refusal (some 3) hA' (.inl ⟨by omega, hX⟩) ⟨.inl rfl, ?_⟩
             walk_at "wgo"
             refine u_neSame rfl rfl hdl hnb ?_
             walk_at "wgo"
             exact ⟨_, _, rfl⟩)
          | (refine c_l_refusal (some 3) hA' (.inr ⟨by omega, .inr ⟨hk, .inr ⟨by omega, hX⟩⟩⟩) ⟨.inl rfl, ?_⟩
             walk_at "wgo"
             refine u_neSame rfl rfl hdl hnb ?_
             walk_at "wgo"
             exact ⟨_, _, rfl⟩)
          | (refine c_l_refusal none hA' (.inr ⟨by omega, .inr ⟨hk, .inl ⟨by omega, rfl⟩⟩⟩) ⟨.inl rfl, ?_⟩
             walk_at "wgo"
             refine u_neSame rfl rfl hdl hnb ?_
             walk_at "wgo"
             exact ⟨_, _, rfl⟩)
      | false =>
        have hX : DueX d none := hX
        obtain ⟨t, rfl, gt⟩ := hbad.mp rfl
        have htl := gt.le
        walk_at "wgo"
        all_goals first
          | exact ⟨_, _, rfl⟩
          | (refine c_l_refusal none hA' (.inl ⟨by omega, hX⟩) ⟨.inl rfl, ?_⟩
             walk_at "wgo"
             refine u_neSame rfl rfl hdl hnb ?_
             walk_at "wgo"
             exact ⟨_, _, rfl⟩)
          | (refine c_l_refusal none hA' (.inr ⟨by omega, .inr ⟨hk, .inr ⟨by omega, hX⟩⟩⟩) ⟨.inl rfl, ?_⟩
             walk_at "wgo"
             refine u_neSame rfl rfl hdl hnb ?_
             walk_at "wgo"
             exact ⟨_, _, rfl⟩)
          | (refine c_l_refusal none hA' (.inr ⟨by omega, .inr ⟨hk, .inl ⟨by omega, rfl⟩⟩⟩) ⟨.inl rfl, ?_⟩
             walk_at "wgo"
             refine u_neSame rfl rfl hdl hnb ?_
             walk_at "wgo"
             exact ⟨_, _, rfl⟩)
  · obtain ⟨s8, s9, rfl⟩ := h
    walk_at "wst"
    refine wS_cut (fun G => ∃ s8 s9 s10 : Slot, G = [.sh (.scr ns), .sh (.int (cell ns 0)), .sh (.lst l), .sh (.lst (nm.map tx)), .sh d, .sh (.bl bad), .sh (tx (kTx kd)), .sh (.lst l), s8, s9, s10, .no]) ?_ fun G h => ?_
    · cases hkd with
      | rule hb =>
        walk_at "wgo"
        exact ⟨_, _, _, rfl⟩
      | name e g m =>
        walk_at "wgo"
        exact ⟨_, _, _, rfl⟩
      | endless e g m u =>
        walk_at "wgo"
        exact ⟨_, _, _, rfl⟩
      | none e g =>
        subst e
        walk_at "wgo"
        refine c_need_rules hP (by omega) (g.due fun a10 => ⟨.inl rfl, ?_⟩)
        walk_at "wgo"
        refine ⟨by omega, ?_⟩
        walk_at "wnx"
        rw [cut_last]
        refine u_neSame rfl rfl hdl hnb ?_
        walk_at "wgo"
        refine u_neSame rfl rfl hdl hnb ?_
        walk_at "wgo"
        exact ⟨_, _, _, rfl⟩
    obtain ⟨s8, s9, s10, rfl⟩ := h
    cases bad with
    | true =>
      walk_at "wgo"
      exact q
    | false =>
      obtain ⟨t, rfl, gt⟩ := hbad.mp rfl
      walk_at "wgo"
      refine c_need_text hpl (gt.due ⟨.inl rfl, ?_⟩)
      walk_at "wgo"
      exact q_bl q (decide_eq_true rfl)


def E00 : ErA := ⟨0, 0, 0, 0, 0, 0⟩
theorem phi_law_of (ns : List Int) (hl : ns.length ≤ 63) : phi_law E00 [.scr ns] (fun r => r = .sh (.bl true)) fun _ => False := ⟨ns, rfl, rfl⟩
def topS (i : Nat) : Stmt := PySem.Challenge.pw_mendread_k02_grammars_refused.main.body.getD i (.Pass ⟨0, 0, 0, 0⟩)
abbrev s_is_sign : Stmt := topS 13
theorem sc_is_sign : FnScope N_is_sign ["thing"] (defScope s_is_sign) := ⟨rfl, rfl, rfl, by decide +kernel, rfl, by decide +kernel, by decide +kernel⟩
theorem fo_is_sign {P : Program} {w : World} {K : PySem.W.Frag} {mg : Str → Option Value} {base : Heap} {C : ErA} {f : Addr} {fd : FuncData} (F : Fun K "is_sign" "is_sign" s_is_sign f fd) (T : Bi mg) (C_SIGNS : ∃ u, mg "SIGNS" = some u ∧ RelV (.str (mk signsL)) u) :
    FnOk P w K mg base CX0 1 f fd ["thing"] (mkSp K (phi_is_sign C)) := by
  refine fn_pure (k := 0) (t := t_is_sign K C) F sc_is_sign len_is_sign w_is_sign ?_
  intro cdv A outer s H E hr
  exact (pss_one (ps_ret (pe_and (pe_callB call_isi (by rfl) T.isinstance (by decide +kernel) (pa_cons (pv 0) (pa_cons (pe_bltn (by rfl) T.str (by decide +kernel) rfl) pa_nil))) (pe_and (pe_cmpR (op_uEq hr) (pe_callB call_len (by rfl) T.len (by decide +kernel) (pa_cons (pv 0) pa_nil)) pe_int (nomark _)) (pe_one (pe_cmpR (op_uIn hr) (pv 0) (pe_gl (by rfl) C_SIGNS) (by rfl)))))))
theorem ok_is_sign {P : Program} {w : World} {K : PySem.W.Frag} {mg : Str → Option Value} {base : Heap} {C : ErA} {f : Addr} {fd : FuncData} (F : Fun K "is_sign" "is_sign" s_is_sign f fd) (m : mg "is_sign" = some (.ref f)) (T : Bi mg) (C_SIGNS : ∃ u, mg "SIGNS" = some u ∧ RelV (.str (mk signsL)) u) :
    Cal P w K mg base CX0 1 "is_sign" ["thing"] (phi_is_sign C) :=
  ⟨f, fd, fo_is_sign F T C_SIGNS, m, F.kp, F.binds (ps := ["thing"]) fun _ _ _ _ _ _ us hl => match us, hl with | [_], _ => rfl⟩
abbrev s_is_name : Stmt := topS 14
theorem sc_is_name : FnScope N_is_name ["thing"] (defScope s_is_name) := ⟨rfl, rfl, rfl, by decide +kernel, rfl, by decide +kernel, by decide +kernel⟩
theorem fo_is_name {P : Program} {w : World} {K : PySem.W.Frag} {mg : Str → Option Value} {base : Heap} {C : ErA} {f : Addr} {fd : FuncData} (F : Fun K "is_name" "is_name" s_is_name f fd) (T : Bi mg) (C_LETTERS : ∃ u, mg "LETTERS" = some u ∧ RelV (.str (mk lettersL)) u) (C_MOST_LETTERS : ∃ u, mg "MOST_LETTERS" = some u ∧ RelV (.int 12) u) :
    FnOk P w K mg base CX0 1 f fd ["thing"] (mkSp K (phi_is_name C)) := by
  refine fn_pure (k := 0) (t := t_is_name K C) F sc_is_name len_is_name w_is_name ?_
  intro cdv A outer s H E hr
  exact (pss_cons (ps_if (PW.pt (pw_or (pt_not (pt_truth (pe_callB call_isi (by rfl) T.isinstance (by decide +kernel) (pa_cons (pv 0) (pa_cons (pe_bltn (by rfl) T.str (by decide +kernel) rfl) pa_nil))) (by intro _; rfl))) (pw_or1 (pt_not (pt_chain op_lt op_le pe_int (pe_callB call_len (by rfl) T.len (by decide +kernel) (pa_cons (pv 0) pa_nil)) (pe_gl (by rfl) C_MOST_LETTERS)))))) (pss_one (ps_ret pe_bl)) pss_nil) (pss_one (ps_ret (pe_callB (cr_all rfl) (by rfl) T.all (by decide +kernel) (pa_cons (pe_lc (own := [("sign", 1)]) (g := gName 1) (by rfl) sc_is_name.nd (pi_str (pv 0)) (blkOk_by (own := [("sign", 1)]) (N := N_is_name) (sc := defScope s_is_name) (by decide +kernel)) (fun _ _ _ _ _ => pg_name (i := 1) sc_is_name.nd rfl (Or.inl rfl)) (fun _ _ _ _ _ => pts_nil) (fun _ _ _ _ _ => (pe_cmpR (op_uIn hr) (pv 1) (pe_gl (by rfl) C_LETTERS) (by rfl)))) pa_nil)))))
theorem ok_is_name {P : Program} {w : World} {K : PySem.W.Frag} {mg : Str → Option Value} {base : Heap} {C : ErA} {f : Addr} {fd : FuncData} (F : Fun K "is_name" "is_name" s_is_name f fd) (m : mg "is_name" = some (.ref f)) (T : Bi mg) (C_LETTERS : ∃ u, mg "LETTERS" = some u ∧ RelV (.str (mk lettersL)) u) (C_MOST_LETTERS : ∃ u, mg "MOST_LETTERS" = some u ∧ RelV (.int 12) u) :
    Cal P w K mg base CX0 1 "is_name" ["thing"] (phi_is_name C) :=
  ⟨f, fd, fo_is_name F T C_LETTERS C_MOST_LETTERS, m, F.kp, F.binds (ps := ["thing"]) fun _ _ _ _ _ _ us hl => match us, hl with | [_], _ => rfl⟩
abbrev s_is_rule : Stmt := topS 15
theorem sc_is_rule : FnScope N_is_rule ["thing"] (defScope s_is_rule) := ⟨rfl, rfl, rfl, by decide +kernel, rfl, by decide +kernel, by decide +kernel⟩
theorem fo_is_rule {P : Program} {w : World} {K : PySem.W.Frag} {mg : Str → Option Value} {base : Heap} {C : ErA} {f : Addr} {fd : FuncData} (F : Fun K "is_rule" "is_rule" s_is_rule f fd) (T : Bi mg) (G_is_name : Cal P w K mg base CX0 1 "is_name" ["thing"] (phi_is_name C)) (G_is_sign : Cal P w K mg base CX0 1 "is_sign" ["thing"] (phi_is_sign C)) :
    FnOk P w K mg base CX0 2 f fd ["thing"] (mkSp K (phi_is_rule C)) := by
  refine fn_pure (k := 1) (t := t_is_rule K C) F sc_is_rule len_is_rule w_is_rule ?_
  intro cdv A outer s H E hr
  exact (pss_cons (ps_if (PW.pt (pw_or (pt_not (pt_truth (pe_callB call_isi (by rfl) T.isinstance (by decide +kernel) (pa_cons (pv 0) (pa_cons (pe_bltn (by rfl) T.tuple (by decide +kernel) rfl) pa_nil))) (by intro _; rfl))) (pw_or (pt_cmpR (op_uNin hr) (pe_callB call_len (by rfl) T.len (by decide +kernel) (pa_cons (pv 0) pa_nil)) (pe_tup (pa_cons pe_int (pa_cons pe_int pa_nil))) (by rfl)) (pw_or1 (pt_not (pt_truth (pe_cal G_is_name (hr.mono (by decide)) (by rfl) pass0 (pa_cons (pe_ix ix_seq (pv 0) pe_int (fun _ _ => rfl)) pa_nil)) (by intro _; rfl))))))) (pss_one (ps_ret pe_bl)) pss_nil) (pss_cons (ps_if (pt_cmpR (op_uEq hr) (pe_callB call_len (by rfl) T.len (by decide +kernel) (pa_cons (pv 0) pa_nil)) pe_int (nomark _)) (pss_one (ps_ret (pe_cal G_is_sign (hr.mono (by decide)) (by rfl) pass0 (pa_cons (pe_ix ix_seq (pv 0) pe_int (fun _ _ => rfl)) pa_nil)))) pss_nil) (pss_one (ps_ret (pe_and (pe_cal G_is_name (hr.mono (by decide)) (by rfl) pass0 (pa_cons (pe_ix ix_seq (pv 0) pe_int (fun _ _ => rfl)) pa_nil)) (pe_one (pe_cal G_is_name (hr.mono (by decide)) (by rfl) pass0 (pa_cons (pe_ix ix_seq (pv 0) pe_int (fun _ _ => rfl)) pa_nil))))))))
theorem ok_is_rule {P : Program} {w : World} {K : PySem.W.Frag} {mg : Str → Option Value} {base : Heap} {C : ErA} {f : Addr} {fd : FuncData} (F : Fun K "is_rule" "is_rule" s_is_rule f fd) (m : mg "is_rule" = some (.ref f)) (T : Bi mg) (G_is_name : Cal P w K mg base CX0 1 "is_name" ["thing"] (phi_is_name C)) (G_is_sign : Cal P w K mg base CX0 1 "is_sign" ["thing"] (phi_is_sign C)) :
    Cal P w K mg base CX0 2 "is_rule" ["thing"] (phi_is_rule C) :=
  ⟨f, fd, fo_is_rule F T G_is_name G_is_sign, m, F.kp, F.binds (ps := ["thing"]) fun _ _ _ _ _ _ us hl => match us, hl with | [_], _ => rfl⟩
abbrev s_names_of : Stmt := topS 16
theorem sc_names_of : FnScope N_names_of ["rules"] (defScope s_names_of) := ⟨rfl, rfl, rfl, by decide +kernel, rfl, by decide +kernel, by decide +kernel⟩
theorem fo_names_of {P : Program} {w : World} {K : PySem.W.Frag} {mg : Str → Option Value} {base : Heap} {C : ErA} {f : Addr} {fd : FuncData} (F : Fun K "names_of" "names_of" s_names_of f fd) (T : Bi mg) :
    FnOk P w K mg base CX0 1 f fd ["rules"] (mkSp K (phi_names_of C)) := by
  refine fn_pure (k := 0) (t := t_names_of K C) F sc_names_of len_names_of w_names_of ?_
  intro cdv A outer s H E hr
  exact (pss_cons (ps_set (i := 1) sc_names_of.nd rfl (Or.inl rfl) (pe_lst pa_nil)) (pss_cons (ps_for PassesOwn.never rfl (pi_list (pv 0)) (pg_name (i := 2) sc_names_of.nd rfl (Or.inl rfl)) (pss_one (ps_if (pt_cmpR (op_uNin hr) (pe_ix ix_seq (pv 2) pe_int (fun _ _ => rfl)) (pv 1) (by rfl)) (pss_one (ps_expr (pe_bm PySem.F.plainAttrs_list PySem.F.slot_list_append PySem.F.type_list_append mt_append (pv 1) (pa_cons (pe_ix ix_seq (pv 2) pe_int (fun _ _ => rfl)) pa_nil)))) pss_nil))) (pss_one (ps_ret (pv 1)))))
theorem ok_names_of {P : Program} {w : World} {K : PySem.W.Frag} {mg : Str → Option Value} {base : Heap} {C : ErA} {f : Addr} {fd : FuncData} (F : Fun K "names_of" "names_of" s_names_of f fd) (m : mg "names_of" = some (.ref f)) (T : Bi mg) :
    Cal P w K mg base CX0 1 "names_of" ["rules"] (phi_names_of C) :=
  ⟨f, fd, fo_names_of F T, m, F.kp, F.binds (ps := ["rules"]) fun _ _ _ _ _ _ us hl => match us, hl with | [_], _ => rfl⟩
abbrev s_telling : Stmt := topS 17
theorem sc_telling : FnScope N_telling ["rules"] (defScope s_telling) := ⟨rfl, rfl, rfl, by decide +kernel, rfl, by decide +kernel, by decide +kernel⟩
theorem fo_telling {P : Program} {w : World} {K : PySem.W.Frag} {mg : Str → Option Value} {base : Heap} {C : ErA} {f : Addr} {fd : FuncData} (F : Fun K "telling" "telling" s_telling f fd) (T : Bi mg) :
    FnOk P w K mg base CX0 1 f fd ["rules"] (mkSp K (phi_telling C)) := by
  refine fn_pure (k := 0) (t := t_telling K C) F sc_telling len_telling w_telling ?_
  intro cdv A outer s H E hr
  exact (pss_cons (ps_set (i := 1) sc_telling.nd rfl (Or.inl rfl) (pe_lst pa_nil)) (pss_cons (ps_set (i := 2) sc_telling.nd rfl (Or.inl rfl) pe_bl) (pss_cons (ps_while PassesOwn.never (pt_truth (pv 2) (by intro _; rfl)) (pss_cons (ps_set (i := 2) sc_telling.nd rfl (Or.inl rfl) pe_bl) (pss_one (ps_for PassesOwn.never rfl (pi_list (pv 0)) (pg_name (i := 3) sc_telling.nd rfl (Or.inl rfl)) (pss_one (ps_if (PW.pt (pw_and (pt_cmpR (op_uNin hr) (pe_ix ix_seq (pv 3) pe_int (fun _ _ => rfl)) (pv 1) (by rfl)) (pw_and1 (PW.pt (pw_or (pt_cmpR (op_uEq hr) (pe_callB call_len (by rfl) T.len (by decide +kernel) (pa_cons (pv 3) pa_nil)) pe_int (nomark _)) (pw_or1 (PW.pt (pw_and (pt_cmpR (op_uIn hr) (pe_ix ix_seq (pv 3) pe_int (fun _ _ => rfl)) (pv 1) (by rfl)) (pw_and1 (pt_cmpR (op_uIn hr) (pe_ix ix_seq (pv 3) pe_int (fun _ _ => rfl)) (pv 1) (by rfl))))))))))) (pss_cons (ps_expr (pe_bm PySem.F.plainAttrs_list PySem.F.slot_list_append PySem.F.type_list_append mt_append (pv 1) (pa_cons (pe_ix ix_seq (pv 3) pe_int (fun _ _ => rfl)) pa_nil))) (pss_one (ps_set (i := 2) sc_telling.nd rfl (Or.inl rfl) pe_bl))) pss_nil)))))) (pss_one (ps_ret (pv 1))))))
theorem ok_telling {P : Program} {w : World} {K : PySem.W.Frag} {mg : Str → Option Value} {base : Heap} {C : ErA} {f : Addr} {fd : FuncData} (F : Fun K "telling" "telling" s_telling f fd) (m : mg "telling" = some (.ref f)) (T : Bi mg) :
    Cal P w K mg base CX0 1 "telling" ["rules"] (phi_telling C) :=
  ⟨f, fd, fo_telling F T, m, F.kp, F.binds (ps := ["rules"]) fun _ _ _ _ _ _ us hl => match us, hl with | [_], _ => rfl⟩
abbrev s_need_rules : Stmt := topS 18
theorem sc_need_rules : FnScope N_need_rules ["rules"] (defScope s_need_rules) := ⟨rfl, rfl, rfl, by decide +kernel, rfl, by decide +kernel, by decide +kernel⟩
theorem fo_need_rules {P : Program} {w : World} {K : PySem.W.Frag} {mg : Str → Option Value} {base : Heap} {C : ErA} {f : Addr} {fd : FuncData} (F : Fun K "need_rules" "need_rules" s_need_rules f fd) (T : Bi mg) (C_MOST_RULES : ∃ u, mg "MOST_RULES" = some u ∧ RelV (.int 40) u) (X_BadRule : ExF K mg "BadRule" C.rule) (X_Endless : ExF K mg "Endless" C.endless) (X_NoName : ExF K mg "NoName" C.name) (G_is_rule : Cal P w K mg base CX0 2 "is_rule" ["thing"] (phi_is_rule C)) (G_names_of : Cal P w K mg base CX0 1 "names_of" ["rules"] (phi_names_of C)) (G_telling : Cal P w K mg base CX0 1 "telling" ["rules"] (phi_telling C)) :
    FnOk P w K mg base (L2.CX P w) 3 f fd ["rules"] (mkSp K (phi_need_rules C)) := by
  refine fn_pureX (k := 2) (t := t_need_rules K C) F sc_need_rules len_need_rules w_need_rules ?_
  intro cdv A outer s H E hr
  exact (pss_cons (ps_if (pt_not (pt_truth (pv 0) (by intro _; rfl))) (pss_one (ps_rz rfl (takes_of rfl rfl rfl rfl) X_BadRule (by rfl))) pss_nil) (pss_cons (ps_set (i := 1) sc_need_rules.nd rfl (Or.inl rfl) (pe_lst pa_nil)) (pss_cons (ps_for (passes_of rfl) rfl (pi_list (pv 0)) (pg_name (i := 2) sc_need_rules.nd rfl (Or.inl rfl)) (pss_cons (ps_if (PW.pt (pw_or (pt_cmpR (op_uEq hr) (pe_callB call_len (by rfl) T.len (by decide +kernel) (pa_cons (pv 1) pa_nil)) (pe_gl (by rfl) C_MOST_RULES) (nomark _)) (pw_or1 (pt_not (pt_truth (pe_cal G_is_rule (hr.mono (by decide)) (by rfl) pass0 (pa_cons (pv 2) pa_nil)) (by intro _; rfl)))))) (pss_one (ps_rz rfl (takes_of rfl rfl rfl rfl) X_BadRule (by rfl))) pss_nil) (pss_one (ps_expr (pe_bm PySem.F.plainAttrs_list PySem.F.slot_list_append PySem.F.type_list_append mt_append (pv 1) (pa_cons (pv 2) pa_nil)))))) (pss_cons (ps_set (i := 3) sc_need_rules.nd rfl (Or.inl rfl) (pe_cal G_names_of (hr.mono (by decide)) (by rfl) pass0 (pa_cons (pv 1) pa_nil))) (pss_cons (ps_for (passes_of rfl) rfl (pi_list (pv 1)) (pg_name (i := 2) sc_need_rules.nd rfl (Or.inl rfl)) (pss_one (ps_for (passes_of rfl) rfl (pi_tup (pe_slice sl_u (pv 2) (po_some pe_int) po_none)) (pg_name (i := 5) sc_need_rules.nd rfl (Or.inl rfl)) (pss_one (ps_if (PW.pt (pw_and (pt_cmpR (op_uEq hr) (pe_callB call_len (by rfl) T.len (by decide +kernel) (pa_cons (pv 2) pa_nil)) pe_int (nomark _)) (pw_and1 (pt_cmpR (op_uNin hr) (pv 5) (pv 3) (by rfl))))) (pss_one (ps_rz rfl (takes_of rfl rfl rfl rfl) X_NoName (by rfl))) pss_nil))))) (pss_cons (ps_set (i := 4) sc_need_rules.nd rfl (Or.inl rfl) (pe_cal G_telling (hr.mono (by decide)) (by rfl) pass0 (pa_cons (pv 1) pa_nil))) (pss_cons (ps_for (passes_of rfl) rfl (pi_list (pv 3)) (pg_name (i := 5) sc_need_rules.nd rfl (Or.inl rfl)) (pss_one (ps_if (pt_cmpR (op_uNin hr) (pv 5) (pv 4) (by rfl)) (pss_one (ps_rz rfl (takes_of rfl rfl rfl rfl) X_Endless (by rfl))) pss_nil))) (pss_one (ps_ret (pv 1))))))))))
theorem ok_need_rules {P : Program} {w : World} {K : PySem.W.Frag} {mg : Str → Option Value} {base : Heap} {C : ErA} {f : Addr} {fd : FuncData} (F : Fun K "need_rules" "need_rules" s_need_rules f fd) (m : mg "need_rules" = some (.ref f)) (T : Bi mg) (C_MOST_RULES : ∃ u, mg "MOST_RULES" = some u ∧ RelV (.int 40) u) (X_BadRule : ExF K mg "BadRule" C.rule) (X_Endless : ExF K mg "Endless" C.endless) (X_NoName : ExF K mg "NoName" C.name) (G_is_rule : Cal P w K mg base CX0 2 "is_rule" ["thing"] (phi_is_rule C)) (G_names_of : Cal P w K mg base CX0 1 "names_of" ["rules"] (phi_names_of C)) (G_telling : Cal P w K mg base CX0 1 "telling" ["rules"] (phi_telling C)) :
    Cal P w K mg base (L2.CX P w) 3 "need_rules" ["rules"] (phi_need_rules C) :=
  ⟨f, fd, fo_need_rules F T C_MOST_RULES X_BadRule X_Endless X_NoName G_is_rule G_names_of G_telling, m, F.kp, F.binds (ps := ["rules"]) fun _ _ _ _ _ _ us hl => match us, hl with | [_], _ => rfl⟩
abbrev s_need_text : Stmt := topS 19
theorem sc_need_text : FnScope N_need_text ["text"] (defScope s_need_text) := ⟨rfl, rfl, rfl, by decide +kernel, rfl, by decide +kernel, by decide +kernel⟩
theorem fo_need_text {P : Program} {w : World} {K : PySem.W.Frag} {mg : Str → Option Value} {base : Heap} {C : ErA} {f : Addr} {fd : FuncData} (F : Fun K "need_text" "need_text" s_need_text f fd) (T : Bi mg) (C_MOST_SIGNS : ∃ u, mg "MOST_SIGNS" = some u ∧ RelV (.int 40) u) (X_BadText : ExF K mg "BadText" C.text) (G_is_sign : Cal P w K mg base CX0 1 "is_sign" ["thing"] (phi_is_sign C)) :
    FnOk P w K mg base (L2.CX P w) 2 f fd ["text"] (mkSp K (phi_need_text C)) := by
  refine fn_pureX (k := 1) (t := t_need_text K C) F sc_need_text len_need_text w_need_text ?_
  intro cdv A outer s H E hr
  exact (pss_cons (ps_if (PW.pt (pw_or (pt_not (pt_truth (pe_callB call_isi (by rfl) T.isinstance (by decide +kernel) (pa_cons (pv 0) (pa_cons (pe_bltn (by rfl) T.str (by decide +kernel) rfl) pa_nil))) (by intro _; rfl))) (pw_or (pt_cmpR op_gt (pe_callB call_len (by rfl) T.len (by decide +kernel) (pa_cons (pv 0) pa_nil)) (pe_gl (by rfl) C_MOST_SIGNS) (nomark _)) (pw_or1 (pt_not (pt_truth (pe_callB (cr_all rfl) (by rfl) T.all (by decide +kernel) (pa_cons (pe_lc (own := [("sign", 1)]) (g := gName 1) (by rfl) sc_need_text.nd (pi_str (pv 0)) (blkOk_by (own := [("sign", 1)]) (N := N_need_text) (sc := defScope s_need_text) (by decide +kernel)) (fun _ _ _ _ _ => pg_name (i := 1) sc_need_text.nd rfl (Or.inl rfl)) (fun _ _ _ _ _ => pts_nil) (fun _ _ _ _ _ => (pe_cal G_is_sign (hr.mono (by decide)) (by rfl) pass0 (pa_cons (pv 1) pa_nil)))) pa_nil)) (by intro _; rfl))))))) (pss_one (ps_rz rfl (takes_of rfl rfl rfl rfl) X_BadText (by rfl))) pss_nil) (pss_one (ps_ret (pv 0))))
theorem ok_need_text {P : Program} {w : World} {K : PySem.W.Frag} {mg : Str → Option Value} {base : Heap} {C : ErA} {f : Addr} {fd : FuncData} (F : Fun K "need_text" "need_text" s_need_text f fd) (m : mg "need_text" = some (.ref f)) (T : Bi mg) (C_MOST_SIGNS : ∃ u, mg "MOST_SIGNS" = some u ∧ RelV (.int 40) u) (X_BadText : ExF K mg "BadText" C.text) (G_is_sign : Cal P w K mg base CX0 1 "is_sign" ["thing"] (phi_is_sign C)) :
    Cal P w K mg base (L2.CX P w) 2 "need_text" ["text"] (phi_need_text C) :=
  ⟨f, fd, fo_need_text F T C_MOST_SIGNS X_BadText G_is_sign, m, F.kp, F.binds (ps := ["text"]) fun _ _ _ _ _ _ us hl => match us, hl with | [_], _ => rfl⟩
abbrev s_leaf_cost : Stmt := topS 21
theorem sc_leaf_cost : FnScope N_leaf_cost ["sign", "text", "begin", "end"] (defScope s_leaf_cost) := ⟨rfl, rfl, rfl, by decide +kernel, rfl, by decide +kernel, by decide +kernel⟩
theorem fo_leaf_cost {P : Program} {w : World} {K : PySem.W.Frag} {mg : Str → Option Value} {base : Heap} {C : ErA} {f : Addr} {fd : FuncData} (F : Fun K "leaf_cost" "leaf_cost" s_leaf_cost f fd) (T : Bi mg) :
    FnOk P w K mg base CX0 1 f fd ["sign", "text", "begin", "end"] (mkSp K (phi_leaf_cost C)) := by
  refine fn_pure (k := 0) (t := t_leaf_cost K C) F sc_leaf_cost len_leaf_cost w_leaf_cost ?_
  intro cdv A outer s H E hr
  exact (pss_cons (ps_if (pt_cmpR (op_uEq hr) (pv 2) (pv 3) (nomark _)) (pss_one (ps_ret pe_int)) pss_nil) (pss_one (ps_ret (pe_op op_sub (pe_op op_sub (pv 3) (pv 2)) (pe_callTy call_int1 (by rfl) T.int (by decide +kernel) (pa_cons (pe_cmpR (op_uIn hr) (pv 0) (pe_slice sl_u (pv 1) (po_some (pv 2)) (po_some (pv 3))) (by rfl)) pa_nil))))))
theorem ok_leaf_cost {P : Program} {w : World} {K : PySem.W.Frag} {mg : Str → Option Value} {base : Heap} {C : ErA} {f : Addr} {fd : FuncData} (F : Fun K "leaf_cost" "leaf_cost" s_leaf_cost f fd) (m : mg "leaf_cost" = some (.ref f)) (T : Bi mg) :
    Cal P w K mg base CX0 1 "leaf_cost" ["sign", "text", "begin", "end"] (phi_leaf_cost C) :=
  ⟨f, fd, fo_leaf_cost F T, m, F.kp, F.binds (ps := ["sign", "text", "begin", "end"]) fun _ _ _ _ _ _ us hl => match us, hl with | [_, _, _, _], _ => rfl⟩
abbrev s_rule_cost : Stmt := topS 22
theorem sc_rule_cost : FnScope N_rule_cost ["table", "rule", "text", "begin", "end"] (defScope s_rule_cost) := ⟨rfl, rfl, rfl, by decide +kernel, rfl, by decide +kernel, by decide +kernel⟩
theorem fo_rule_cost {P : Program} {w : World} {K : PySem.W.Frag} {mg : Str → Option Value} {base : Heap} {C : ErA} {f : Addr} {fd : FuncData} (F : Fun K "rule_cost" "rule_cost" s_rule_cost f fd) (T : Bi mg) (G_leaf_cost : Cal P w K mg base CX0 1 "leaf_cost" ["sign", "text", "begin", "end"] (phi_leaf_cost C)) :
    FnOk P w K mg base CX0 2 f fd ["table", "rule", "text", "begin", "end"] (mkSp K (phi_rule_cost C)) := by
  refine fn_pure (k := 1) (t := t_rule_cost K C) F sc_rule_cost len_rule_cost w_rule_cost ?_
  intro cdv A outer s H E hr
  exact (pss_cons (ps_if (pt_cmpR (op_uEq hr) (pe_callB call_len (by rfl) T.len (by decide +kernel) (pa_cons (pv 1) pa_nil)) pe_int (nomark _)) (pss_one (ps_ret (pe_cal G_leaf_cost (hr.mono (by decide)) (by rfl) pass0 (pa_cons (pe_ix ix_seq (pv 1) pe_int (fun _ _ => rfl)) (pa_cons (pv 2) (pa_cons (pv 3) (pa_cons (pv 4) pa_nil))))))) pss_nil) (pss_cons (ps_set (i := 5) sc_rule_cost.nd rfl (Or.inl rfl) pe_non) (pss_cons (ps_for PassesOwn.never rfl (pi_range2 (by rfl) T.range (pa_cons (pv 3) (pa_cons (pe_op op_uAdd (pv 4) pe_int) pa_nil))) (pg_name (i := 6) sc_rule_cost.nd rfl (Or.inl rfl)) (pss_cons (ps_set (i := 7) sc_rule_cost.nd rfl (Or.inl rfl) (pe_dget1 (room_u hr) (pv 0) (pe_tup (pa_cons (pe_ix ix_seq (pv 1) pe_int (fun _ _ => rfl)) (pa_cons (pv 3) (pa_cons (pv 6) pa_nil)))) ⟨rfl, rfl, rfl, rfl⟩)) (pss_cons (ps_set (i := 8) sc_rule_cost.nd rfl (Or.inl rfl) (pe_dget1 (room_u hr) (pv 0) (pe_tup (pa_cons (pe_ix ix_seq (pv 1) pe_int (fun _ _ => rfl)) (pa_cons (pv 6) (pa_cons (pv 4) pa_nil)))) ⟨rfl, rfl, rfl, rfl⟩)) (pss_one (ps_if (PW.pt (pw_and (pt_cmpR op_notN1 (pv 7) pe_non (nomark _)) (pw_and (pt_cmpR op_notN1 (pv 8) pe_non (nomark _)) (pw_and1 (PW.pt (pw_or (pt_cmpR op_isN1 (pv 5) pe_non (nomark _)) (pw_or1 (pt_cmpR op_lt (pe_op op_uAdd (pv 7) (pv 8)) (pv 5) (nomark _))))))))) (pss_one (ps_set (i := 5) sc_rule_cost.nd rfl (Or.inl rfl) (pe_op op_uAdd (pv 7) (pv 8)))) pss_nil))))) (pss_one (ps_ret (pv 5))))))
theorem ok_rule_cost {P : Program} {w : World} {K : PySem.W.Frag} {mg : Str → Option Value} {base : Heap} {C : ErA} {f : Addr} {fd : FuncData} (F : Fun K "rule_cost" "rule_cost" s_rule_cost f fd) (m : mg "rule_cost" = some (.ref f)) (T : Bi mg) (G_leaf_cost : Cal P w K mg base CX0 1 "leaf_cost" ["sign", "text", "begin", "end"] (phi_leaf_cost C)) :
    Cal P w K mg base CX0 2 "rule_cost" ["table", "rule", "text", "begin", "end"] (phi_rule_cost C) :=
  ⟨f, fd, fo_rule_cost F T G_leaf_cost, m, F.kp, F.binds (ps := ["table", "rule", "text", "begin", "end"]) fun _ _ _ _ _ _ us hl => match us, hl with | [_, _, _, _, _], _ => rfl⟩
abbrev s_fill : Stmt := topS 23
theorem sc_fill : FnScope N_fill ["table", "rules", "text", "begin", "end"] (defScope s_fill) := ⟨rfl, rfl, rfl, by decide +kernel, rfl, by decide +kernel, by decide +kernel⟩
theorem fo_fill {P : Program} {w : World} {K : PySem.W.Frag} {mg : Str → Option Value} {base : Heap} {C : ErA} {f : Addr} {fd : FuncData} (F : Fun K "fill" "fill" s_fill f fd) (T : Bi mg) (G_rule_cost : Cal P w K mg base CX0 2 "rule_cost" ["table", "rule", "text", "begin", "end"] (phi_rule_cost C)) :
    FnOk P w K mg base CX0 3 f fd ["table", "rules", "text", "begin", "end"] (mkSpM K false (phi_fill C)) := by
  refine fn_pureM (k := 2) (t := t_fill K C) F sc_fill len_fill w_fill ?_
  intro cdv A outer s H E hr
  exact (pss_cons (ps_set (i := 5) sc_fill.nd rfl (Or.inl rfl) pe_bl) (pss_one (ps_while PassesOwn.never (pt_truth (pv 5) (by intro _; rfl)) (pss_cons (ps_set (i := 5) sc_fill.nd rfl (Or.inl rfl) pe_bl) (pss_one (ps_for PassesOwn.never rfl (pi_list (pv 1)) (pg_name (i := 6) sc_fill.nd rfl (Or.inl rfl)) (pss_cons (ps_set (i := 7) sc_fill.nd rfl (Or.inl rfl) (pe_cal G_rule_cost (hr.mono (by decide)) (by rfl) pass0 (pa_cons (pv 0) (pa_cons (pv 6) (pa_cons (pv 2) (pa_cons (pv 3) (pa_cons (pv 4) pa_nil))))))) (pss_cons (ps_set (i := 8) sc_fill.nd rfl (Or.inl rfl) (pe_tup (pa_cons (pe_ix ix_seq (pv 6) pe_int (fun _ _ => rfl)) (pa_cons (pv 3) (pa_cons (pv 4) pa_nil))))) (pss_one (ps_if (PW.pt (pw_and (pt_cmpR op_notN1 (pv 7) pe_non (nomark _)) (pw_and1 (PW.pt (pw_or (pt_cmp (pc_dnotin (room_u hr) (pv 8) (pv 0))) (pw_or1 (pt_cmpR op_lt (pv 7) (pe_dget (room_u hr) (pv 0) (pv 8) (fun _ _ => rfl)) (nomark _)))))))) (pss_cons (ps_dput (room_u hr) (pv 0) (pv 8) (pv 7) rfl) (pss_one (ps_set (i := 5) sc_fill.nd rfl (Or.inl rfl) pe_bl))) pss_nil))))))))))
theorem ok_fill {P : Program} {w : World} {K : PySem.W.Frag} {mg : Str → Option Value} {base : Heap} {C : ErA} {f : Addr} {fd : FuncData} (F : Fun K "fill" "fill" s_fill f fd) (m : mg "fill" = some (.ref f)) (T : Bi mg) (G_rule_cost : Cal P w K mg base CX0 2 "rule_cost" ["table", "rule", "text", "begin", "end"] (phi_rule_cost C)) :
    CalM P w K mg base CX0 3 "fill" ["table", "rules", "text", "begin", "end"] false (phi_fill C) :=
  ⟨f, fd, fo_fill F T G_rule_cost, m, F.kp, F.binds (ps := ["table", "rules", "text", "begin", "end"]) fun _ _ _ _ _ _ us hl => match us, hl with | [_, _, _, _, _], _ => rfl⟩
abbrev s_table_of : Stmt := topS 24
theorem sc_table_of : FnScope N_table_of ["rules", "text"] (defScope s_table_of) := ⟨rfl, rfl, rfl, by decide +kernel, rfl, by decide +kernel, by decide +kernel⟩
theorem fo_table_of {P : Program} {w : World} {K : PySem.W.Frag} {mg : Str → Option Value} {base : Heap} {C : ErA} {f : Addr} {fd : FuncData} (F : Fun K "table_of" "table_of" s_table_of f fd) (T : Bi mg) (G_fill : CalM P w K mg base CX0 3 "fill" ["table", "rules", "text", "begin", "end"] false (phi_fill C)) :
    FnOk P w K mg base CX0 4 f fd ["rules", "text"] (mkSp K (phi_table_of C)) := by
  refine fn_pure (k := 3) (t := t_table_of K C) F sc_table_of len_table_of w_table_of ?_
  intro cdv A outer s H E hr
  exact (pss_cons (ps_set (i := 2) sc_table_of.nd rfl (Or.inl rfl) pe_dnewT) (pss_cons (ps_for PassesOwn.never rfl (pi_range1 (by rfl) T.range (pa_cons (pe_op op_uAdd (pe_callB call_len (by rfl) T.len (by decide +kernel) (pa_cons (pv 1) pa_nil)) pe_int) pa_nil)) (pg_name (i := 3) sc_table_of.nd rfl (Or.inl rfl)) (pss_one (ps_for PassesOwn.never rfl (pi_range1 (by rfl) T.range (pa_cons (pe_op op_uAdd (pe_op op_sub (pe_callB call_len (by rfl) T.len (by decide +kernel) (pa_cons (pv 1) pa_nil)) (pv 3)) pe_int) pa_nil)) (pg_name (i := 4) sc_table_of.nd rfl (Or.inl rfl)) (pss_one (ps_expr (pe_calM G_fill (hr.mono (by decide)) (by rfl) pass0 (pa_cons (pv 2) (pa_cons (pv 0) (pa_cons (pv 1) (pa_cons (pv 4) (pa_cons (pe_op op_uAdd (pv 4) (pv 3)) pa_nil))))))))))) (pss_one (ps_ret (pv 2)))))
theorem ok_table_of {P : Program} {w : World} {K : PySem.W.Frag} {mg : Str → Option Value} {base : Heap} {C : ErA} {f : Addr} {fd : FuncData} (F : Fun K "table_of" "table_of" s_table_of f fd) (m : mg "table_of" = some (.ref f)) (T : Bi mg) (G_fill : CalM P w K mg base CX0 3 "fill" ["table", "rules", "text", "begin", "end"] false (phi_fill C)) :
    Cal P w K mg base CX0 4 "table_of" ["rules", "text"] (phi_table_of C) :=
  ⟨f, fd, fo_table_of F T G_fill, m, F.kp, F.binds (ps := ["rules", "text"]) fun _ _ _ _ _ _ us hl => match us, hl with | [_, _], _ => rfl⟩
abbrev s_costs : Stmt := topS 25
theorem sc_costs : FnScope N_costs ["rules", "text"] (defScope s_costs) := ⟨rfl, rfl, rfl, by decide +kernel, rfl, by decide +kernel, by decide +kernel⟩
theorem fo_costs {P : Program} {w : World} {K : PySem.W.Frag} {mg : Str → Option Value} {base : Heap} {C : ErA} {f : Addr} {fd : FuncData} (F : Fun K "costs" "costs" s_costs f fd) (T : Bi mg) (G_need_rules : Cal P w K mg base (L2.CX P w) 3 "need_rules" ["rules"] (phi_need_rules C)) (G_need_text : Cal P w K mg base (L2.CX P w) 2 "need_text" ["text"] (phi_need_text C)) (G_table_of : Cal P w K mg base CX0 4 "table_of" ["rules", "text"] (phi_table_of C)) :
    FnOk P w K mg base (L2.CX P w) 5 f fd ["rules", "text"] (mkSp K (phi_costs C)) := by
  refine fn_pureX (k := 4) (t := t_costs K C) F sc_costs len_costs w_costs ?_
  intro cdv A outer s H E hr
  exact (pss_one (ps_ret (pe_cal G_table_of (hr.mono (by decide)) (by rfl) pass0 (pa_cons (pe_cal G_need_rules (hr.mono (by decide)) (by rfl) (passes_call (takes_of rfl rfl rfl rfl) (fun _ _ _ _ h => h)) (pa_cons (pv 0) pa_nil)) (pa_cons (pe_cal G_need_text (hr.mono (by decide)) (by rfl) (passes_call (takes_of rfl rfl rfl rfl) (fun _ _ _ _ h => h)) (pa_cons (pv 1) pa_nil)) pa_nil)))))
theorem ok_costs {P : Program} {w : World} {K : PySem.W.Frag} {mg : Str → Option Value} {base : Heap} {C : ErA} {f : Addr} {fd : FuncData} (F : Fun K "costs" "costs" s_costs f fd) (m : mg "costs" = some (.ref f)) (T : Bi mg) (G_need_rules : Cal P w K mg base (L2.CX P w) 3 "need_rules" ["rules"] (phi_need_rules C)) (G_need_text : Cal P w K mg base (L2.CX P w) 2 "need_text" ["text"] (phi_need_text C)) (G_table_of : Cal P w K mg base CX0 4 "table_of" ["rules", "text"] (phi_table_of C)) :
    Cal P w K mg base (L2.CX P w) 5 "costs" ["rules", "text"] (phi_costs C) :=
  ⟨f, fd, fo_costs F T G_need_rules G_need_text G_table_of, m, F.kp, F.binds (ps := ["rules", "text"]) fun _ _ _ _ _ _ us hl => match us, hl with | [_, _], _ => rfl⟩
abbrev s_shortest : Stmt := topS 26
theorem sc_shortest : FnScope N_shortest ["rules"] (defScope s_shortest) := ⟨rfl, rfl, rfl, by decide +kernel, rfl, by decide +kernel, by decide +kernel⟩
theorem fo_shortest {P : Program} {w : World} {K : PySem.W.Frag} {mg : Str → Option Value} {base : Heap} {C : ErA} {f : Addr} {fd : FuncData} (F : Fun K "shortest" "shortest" s_shortest f fd) (T : Bi mg) (G_names_of : Cal P w K mg base CX0 1 "names_of" ["rules"] (phi_names_of C)) (G_need_rules : Cal P w K mg base (L2.CX P w) 3 "need_rules" ["rules"] (phi_need_rules C)) (G_table_of : Cal P w K mg base CX0 4 "table_of" ["rules", "text"] (phi_table_of C)) :
    FnOk P w K mg base (L2.CX P w) 5 f fd ["rules"] (mkSp K (phi_shortest C)) := by
  refine fn_pureX (k := 4) (t := t_shortest K C) F sc_shortest len_shortest w_shortest ?_
  intro cdv A outer s H E hr
  exact (pss_cons (ps_set (i := 1) sc_shortest.nd rfl (Or.inl rfl) (pe_cal G_table_of (hr.mono (by decide)) (by rfl) pass0 (pa_cons (pe_cal G_need_rules (hr.mono (by decide)) (by rfl) (passes_call (takes_of rfl rfl rfl rfl) (fun _ _ _ _ h => h)) (pa_cons (pv 0) pa_nil)) (pa_cons (pe_strL (by decide +kernel)) pa_nil)))) (pss_cons (ps_set (i := 2) sc_shortest.nd rfl (Or.inl rfl) pe_dnewK) (pss_cons (ps_for (passes_of rfl) rfl (pi_list (pe_cal G_names_of (hr.mono (by decide)) (by rfl) pass0 (pa_cons (pv 0) pa_nil))) (pg_name (i := 3) sc_shortest.nd rfl (Or.inl rfl)) (pss_one (ps_dput (room_u hr) (pv 2) (pv 3) (pe_dget (room_u hr) (pv 1) (pe_tup (pa_cons (pv 3) (pa_cons pe_int (pa_cons pe_int pa_nil)))) (fun _ _ => rfl)) rfl))) (pss_one (ps_ret (pv 2))))))
theorem ok_shortest {P : Program} {w : World} {K : PySem.W.Frag} {mg : Str → Option Value} {base : Heap} {C : ErA} {f : Addr} {fd : FuncData} (F : Fun K "shortest" "shortest" s_shortest f fd) (m : mg "shortest" = some (.ref f)) (T : Bi mg) (G_names_of : Cal P w K mg base CX0 1 "names_of" ["rules"] (phi_names_of C)) (G_need_rules : Cal P w K mg base (L2.CX P w) 3 "need_rules" ["rules"] (phi_need_rules C)) (G_table_of : Cal P w K mg base CX0 4 "table_of" ["rules", "text"] (phi_table_of C)) :
    Cal P w K mg base (L2.CX P w) 5 "shortest" ["rules"] (phi_shortest C) :=
  ⟨f, fd, fo_shortest F T G_names_of G_need_rules G_table_of, m, F.kp, F.binds (ps := ["rules"]) fun _ _ _ _ _ _ us hl => match us, hl with | [_], _ => rfl⟩
abbrev s_kept_place : Stmt := topS 28
theorem sc_kept_place : FnScope N_kept_place ["sign", "text", "begin", "end"] (defScope s_kept_place) := ⟨rfl, rfl, rfl, by decide +kernel, rfl, by decide +kernel, by decide +kernel⟩
theorem fo_kept_place {P : Program} {w : World} {K : PySem.W.Frag} {mg : Str → Option Value} {base : Heap} {C : ErA} {f : Addr} {fd : FuncData} (F : Fun K "kept_place" "kept_place" s_kept_place f fd) (T : Bi mg) :
    FnOk P w K mg base CX0 1 f fd ["sign", "text", "begin", "end"] (mkSp K (phi_kept_place C)) := by
  refine fn_pure (k := 0) (t := t_kept_place K C) F sc_kept_place len_kept_place w_kept_place ?_
  intro cdv A outer s H E hr
  exact (pss_cons (ps_if (pt_cmpR (op_uEq hr) (pv 2) (pv 3) (nomark _)) (pss_one (ps_ret pe_non)) pss_nil) (pss_cons (ps_set (i := 4) sc_kept_place.nd rfl (Or.inl rfl) (pe_m1 PySem.F.slot_str_find PySem.F.type_str_find mt_find (pe_slice sl_u (pv 1) (po_some (pv 2)) (po_some (pv 3))) (pv 0))) (pss_one (ps_ret (pe_op op_uAdd (pv 2) (pe_callB (call_max2 rfl) (by rfl) T.max (by decide +kernel) (pa_cons pe_int (pa_cons (pv 4) pa_nil))))))))
theorem ok_kept_place {P : Program} {w : World} {K : PySem.W.Frag} {mg : Str → Option Value} {base : Heap} {C : ErA} {f : Addr} {fd : FuncData} (F : Fun K "kept_place" "kept_place" s_kept_place f fd) (m : mg "kept_place" = some (.ref f)) (T : Bi mg) :
    Cal P w K mg base CX0 1 "kept_place" ["sign", "text", "begin", "end"] (phi_kept_place C) :=
  ⟨f, fd, fo_kept_place F T, m, F.kp, F.binds (ps := ["sign", "text", "begin", "end"]) fun _ _ _ _ _ _ us hl => match us, hl with | [_, _, _, _], _ => rfl⟩
abbrev s_choice : Stmt := topS 29
theorem sc_choice : FnScope N_choice ["table", "rules", "text", "name", "begin", "end"] (defScope s_choice) := ⟨rfl, rfl, rfl, by decide +kernel, rfl, by decide +kernel, by decide +kernel⟩
theorem fo_choice {P : Program} {w : World} {K : PySem.W.Frag} {mg : Str → Option Value} {base : Heap} {C : ErA} {f : Addr} {fd : FuncData} (F : Fun K "choice" "choice" s_choice f fd) (T : Bi mg) (G_leaf_cost : Cal P w K mg base CX0 1 "leaf_cost" ["sign", "text", "begin", "end"] (phi_leaf_cost C)) :
    FnOk P w K mg base CX0 2 f fd ["table", "rules", "text", "name", "begin", "end"] (mkSp K (phi_choice C)) := by
  refine fn_pure (k := 1) (t := t_choice K C) F sc_choice len_choice w_choice ?_
  intro cdv A outer s H E hr
  exact (pss_cons (ps_set (i := 6) sc_choice.nd rfl (Or.inl rfl) (pe_dget (room_u hr) (pv 0) (pe_tup (pa_cons (pv 3) (pa_cons (pv 4) (pa_cons (pv 5) pa_nil)))) (fun _ _ => rfl))) (pss_cons (ps_for PassesOwn.never rfl (pi_list (pv 1)) (pg_name (i := 7) sc_choice.nd rfl (Or.inl rfl)) (pss_cons (ps_if (PW.pt (pw_and (pt_cmpR (op_uEq hr) (pe_ix ix_seq (pv 7) pe_int (fun _ _ => rfl)) (pv 3) (nomark _)) (pw_and (pt_cmpR (op_uEq hr) (pe_callB call_len (by rfl) T.len (by decide +kernel) (pa_cons (pv 7) pa_nil)) pe_int (nomark _)) (pw_and1 (pt_cmpR (op_uEq hr) (pe_cal G_leaf_cost (hr.mono (by decide)) (by rfl) pass0 (pa_cons (pe_ix ix_seq (pv 7) pe_int (fun _ _ => rfl)) (pa_cons (pv 2) (pa_cons (pv 4) (pa_cons (pv 5) pa_nil))))) (pv 6) (nomark _)))))) (pss_one (ps_ret (pe_tup (pa_cons (pv 7) (pa_cons pe_non pa_nil))))) pss_nil) (pss_one (ps_if (PW.pt (pw_and (pt_cmpR (op_uEq hr) (pe_ix ix_seq (pv 7) pe_int (fun _ _ => rfl)) (pv 3) (nomark _)) (pw_and1 (pt_cmpR (op_uEq hr) (pe_callB call_len (by rfl) T.len (by decide +kernel) (pa_cons (pv 7) pa_nil)) pe_int (nomark _))))) (pss_one (ps_for PassesOwn.never rfl (pi_range2 (by rfl) T.range (pa_cons (pv 4) (pa_cons (pe_op op_uAdd (pv 5) pe_int) pa_nil))) (pg_name (i := 8) sc_choice.nd rfl (Or.inl rfl)) (pss_one (ps_if (pt_cmpR (op_uEq hr) (pe_op op_uAdd (pe_dget (room_u hr) (pv 0) (pe_tup (pa_cons (pe_ix ix_seq (pv 7) pe_int (fun _ _ => rfl)) (pa_cons (pv 4) (pa_cons (pv 8) pa_nil)))) (fun _ _ => rfl)) (pe_dget (room_u hr) (pv 0) (pe_tup (pa_cons (pe_ix ix_seq (pv 7) pe_int (fun _ _ => rfl)) (pa_cons (pv 8) (pa_cons (pv 5) pa_nil)))) (fun _ _ => rfl))) (pv 6) (nomark _)) (pss_one (ps_ret (pe_tup (pa_cons (pv 7) (pa_cons (pv 8) pa_nil))))) pss_nil)))) pss_nil)))) (pss_one (ps_ret pe_non))))
theorem ok_choice {P : Program} {w : World} {K : PySem.W.Frag} {mg : Str → Option Value} {base : Heap} {C : ErA} {f : Addr} {fd : FuncData} (F : Fun K "choice" "choice" s_choice f fd) (m : mg "choice" = some (.ref f)) (T : Bi mg) (G_leaf_cost : Cal P w K mg base CX0 1 "leaf_cost" ["sign", "text", "begin", "end"] (phi_leaf_cost C)) :
    Cal P w K mg base CX0 2 "choice" ["table", "rules", "text", "name", "begin", "end"] (phi_choice C) :=
  ⟨f, fd, fo_choice F T G_leaf_cost, m, F.kp, F.binds (ps := ["table", "rules", "text", "name", "begin", "end"]) fun _ _ _ _ _ _ us hl => match us, hl with | [_, _, _, _, _, _], _ => rfl⟩
abbrev s_told_tree : Stmt := topS 30
theorem sc_told_tree : FnScope N_told_tree ["table", "rules", "text", "name", "size"] (defScope s_told_tree) := ⟨rfl, rfl, rfl, by decide +kernel, rfl, by decide +kernel, by decide +kernel⟩
theorem fo_told_tree {P : Program} {w : World} {K : PySem.W.Frag} {mg : Str → Option Value} {base : Heap} {C : ErA} {f : Addr} {fd : FuncData} (F : Fun K "told_tree" "told_tree" s_told_tree f fd) (T : Bi mg) (G_choice : Cal P w K mg base CX0 2 "choice" ["table", "rules", "text", "name", "begin", "end"] (phi_choice C)) (G_kept_place : Cal P w K mg base CX0 1 "kept_place" ["sign", "text", "begin", "end"] (phi_kept_place C)) :
    FnOk P w K mg base CX0 3 f fd ["table", "rules", "text", "name", "size"] (mkSp K (phi_told_tree C)) := by
  refine fn_pure (k := 2) (t := t_told_tree K C) F sc_told_tree len_told_tree w_told_tree ?_
  intro cdv A outer s H E hr
  exact (pss_cons (ps_set (i := 5) sc_told_tree.nd rfl (Or.inl rfl) (pe_lst (pa_cons (pe_tup (pa_cons (pv 3) (pa_cons pe_int (pa_cons (pv 4) pa_nil)))) pa_nil))) (pss_cons (ps_set (i := 6) sc_told_tree.nd rfl (Or.inl rfl) (pe_lst pa_nil)) (pss_cons (ps_while PassesOwn.never (pt_truth (pv 5) (by intro _; rfl)) (pss_cons (ps_set (i := 7) sc_told_tree.nd rfl (Or.inl rfl) (pe_bm0 PySem.F.plainAttrs_list PySem.F.slot_list_pop PySem.F.type_list_pop mt_pop (pv 5))) (pss_cons (ps_if (pt_cmpR (op_uEq hr) (pe_callB call_len (by rfl) T.len (by decide +kernel) (pa_cons (pv 7) pa_nil)) pe_int (nomark _)) (pss_cons (ps_set (i := 8) sc_told_tree.nd rfl (Or.inl rfl) (pe_bm0 PySem.F.plainAttrs_list PySem.F.slot_list_pop PySem.F.type_list_pop mt_pop (pv 6))) (pss_cons (ps_set (i := 9) sc_told_tree.nd rfl (Or.inl rfl) (pe_bm0 PySem.F.plainAttrs_list PySem.F.slot_list_pop PySem.F.type_list_pop mt_pop (pv 6))) (pss_cons (ps_expr (pe_bm PySem.F.plainAttrs_list PySem.F.slot_list_append PySem.F.type_list_append mt_append (pv 6) (pa_cons (pe_tup (pa_cons (pe_ix ix_seq (pv 7) pe_int (fun _ _ => rfl)) (pa_cons (pv 9) (pa_cons (pv 8) pa_nil)))) pa_nil))) (pss_one ps_continue)))) pss_nil) (pss_cons (ps_asg (pe_cal G_choice (hr.mono (by decide)) (by rfl) pass0 (pa_cons (pv 0) (pa_cons (pv 1) (pa_cons (pv 2) (pa_cons (pe_ix ix_seq (pv 7) pe_int (fun _ _ => rfl)) (pa_cons (pe_ix ix_seq (pv 7) pe_int (fun _ _ => rfl)) (pa_cons (pe_ix ix_seq (pv 7) pe_int (fun _ _ => rfl)) pa_nil))))))) (pg_tup (by rfl) (pgs_cons (pg_name (i := 10) sc_told_tree.nd rfl (Or.inl rfl)) (pgs_cons (pg_name (i := 11) sc_told_tree.nd rfl (Or.inl rfl)) pgs_nil)))) (pss_one (ps_if (pt_cmpR op_isN1 (pv 11) pe_non (nomark _)) (pss_one (ps_expr (pe_bm PySem.F.plainAttrs_list PySem.F.slot_list_append PySem.F.type_list_append mt_append (pv 6) (pa_cons (pe_tup (pa_cons (pe_ix ix_seq (pv 7) pe_int (fun _ _ => rfl)) (pa_cons (pe_ix ix_seq (pv 10) pe_int (fun _ _ => rfl)) (pa_cons (pe_ix ix_seq (pv 7) pe_int (fun _ _ => rfl)) (pa_cons (pe_ix ix_seq (pv 7) pe_int (fun _ _ => rfl)) (pa_cons (pe_cal G_kept_place (hr.mono (by decide)) (by rfl) pass0 (pa_cons (pe_ix ix_seq (pv 10) pe_int (fun _ _ => rfl)) (pa_cons (pv 2) (pa_cons (pe_ix ix_seq (pv 7) pe_int (fun _ _ => rfl)) (pa_cons (pe_ix ix_seq (pv 7) pe_int (fun _ _ => rfl)) pa_nil))))) pa_nil)))))) pa_nil)))) (pss_cons (ps_expr (pe_bm PySem.F.plainAttrs_list PySem.F.slot_list_append PySem.F.type_list_append mt_append (pv 5) (pa_cons (pe_tup (pa_cons (pe_ix ix_seq (pv 7) pe_int (fun _ _ => rfl)) pa_nil)) pa_nil))) (pss_cons (ps_expr (pe_bm PySem.F.plainAttrs_list PySem.F.slot_list_append PySem.F.type_list_append mt_append (pv 5) (pa_cons (pe_tup (pa_cons (pe_ix ix_seq (pv 10) pe_int (fun _ _ => rfl)) (pa_cons (pv 11) (pa_cons (pe_ix ix_seq (pv 7) pe_int (fun _ _ => rfl)) pa_nil)))) pa_nil))) (pss_one (ps_expr (pe_bm PySem.F.plainAttrs_list PySem.F.slot_list_append PySem.F.type_list_append mt_append (pv 5) (pa_cons (pe_tup (pa_cons (pe_ix ix_seq (pv 10) pe_int (fun _ _ => rfl)) (pa_cons (pe_ix ix_seq (pv 7) pe_int (fun _ _ => rfl)) (pa_cons (pv 11) pa_nil)))) pa_nil)))))))))))) (pss_one (ps_ret (pe_ix ix_seq (pv 6) pe_int (fun _ _ => rfl)))))))
theorem ok_told_tree {P : Program} {w : World} {K : PySem.W.Frag} {mg : Str → Option Value} {base : Heap} {C : ErA} {f : Addr} {fd : FuncData} (F : Fun K "told_tree" "told_tree" s_told_tree f fd) (m : mg "told_tree" = some (.ref f)) (T : Bi mg) (G_choice : Cal P w K mg base CX0 2 "choice" ["table", "rules", "text", "name", "begin", "end"] (phi_choice C)) (G_kept_place : Cal P w K mg base CX0 1 "kept_place" ["sign", "text", "begin", "end"] (phi_kept_place C)) :
    Cal P w K mg base CX0 3 "told_tree" ["table", "rules", "text", "name", "size"] (phi_told_tree C) :=
  ⟨f, fd, fo_told_tree F T G_choice G_kept_place, m, F.kp, F.binds (ps := ["table", "rules", "text", "name", "size"]) fun _ _ _ _ _ _ us hl => match us, hl with | [_, _, _, _, _], _ => rfl⟩
abbrev s_mend : Stmt := topS 31
theorem sc_mend : FnScope N_mend ["rules", "text"] (defScope s_mend) := ⟨rfl, rfl, rfl, by decide +kernel, rfl, by decide +kernel, by decide +kernel⟩
theorem fo_mend {P : Program} {w : World} {K : PySem.W.Frag} {mg : Str → Option Value} {base : Heap} {C : ErA} {f : Addr} {fd : FuncData} (F : Fun K "mend" "mend" s_mend f fd) (T : Bi mg) (G_need_rules : Cal P w K mg base (L2.CX P w) 3 "need_rules" ["rules"] (phi_need_rules C)) (G_need_text : Cal P w K mg base (L2.CX P w) 2 "need_text" ["text"] (phi_need_text C)) (G_table_of : Cal P w K mg base CX0 4 "table_of" ["rules", "text"] (phi_table_of C)) (G_told_tree : Cal P w K mg base CX0 3 "told_tree" ["table", "rules", "text", "name", "size"] (phi_told_tree C)) :
    FnOk P w K mg base (L2.CX P w) 5 f fd ["rules", "text"] (mkSp K (phi_mend C)) := by
  refine fn_pureX (k := 4) (t := t_mend K C) F sc_mend len_mend w_mend ?_
  intro cdv A outer s H E hr
  exact (pss_cons (ps_set (i := 2) sc_mend.nd rfl (Or.inl rfl) (pe_cal G_need_rules (hr.mono (by decide)) (by rfl) (passes_call (takes_of rfl rfl rfl rfl) (fun _ _ _ _ h => h)) (pa_cons (pv 0) pa_nil))) (pss_cons (ps_expr (pe_cal G_need_text (hr.mono (by decide)) (by rfl) (passes_call (takes_of rfl rfl rfl rfl) (fun _ _ _ _ h => h)) (pa_cons (pv 1) pa_nil))) (pss_cons (ps_set (i := 3) sc_mend.nd rfl (Or.inl rfl) (pe_cal G_table_of (hr.mono (by decide)) (by rfl) pass0 (pa_cons (pv 2) (pa_cons (pv 1) pa_nil)))) (pss_cons (ps_set (i := 4) sc_mend.nd rfl (Or.inl rfl) (pe_ix ix_seq (pe_ix ix_seq (pv 2) pe_int (fun _ _ => rfl)) pe_int (fun _ _ => rfl))) (pss_one (ps_ret (pe_tup (pa_cons (pe_cal G_told_tree (hr.mono (by decide)) (by rfl) pass0 (pa_cons (pv 3) (pa_cons (pv 2) (pa_cons (pv 1) (pa_cons (pv 4) (pa_cons (pe_callB call_len (by rfl) T.len (by decide +kernel) (pa_cons (pv 1) pa_nil)) pa_nil)))))) (pa_cons (pe_dget (room_u hr) (pv 3) (pe_tup (pa_cons (pv 4) (pa_cons pe_int (pa_cons (pe_callB call_len (by rfl) T.len (by decide +kernel) (pa_cons (pv 1) pa_nil)) pa_nil)))) (fun _ _ => rfl)) pa_nil)))))))))
theorem ok_mend {P : Program} {w : World} {K : PySem.W.Frag} {mg : Str → Option Value} {base : Heap} {C : ErA} {f : Addr} {fd : FuncData} (F : Fun K "mend" "mend" s_mend f fd) (m : mg "mend" = some (.ref f)) (T : Bi mg) (G_need_rules : Cal P w K mg base (L2.CX P w) 3 "need_rules" ["rules"] (phi_need_rules C)) (G_need_text : Cal P w K mg base (L2.CX P w) 2 "need_text" ["text"] (phi_need_text C)) (G_table_of : Cal P w K mg base CX0 4 "table_of" ["rules", "text"] (phi_table_of C)) (G_told_tree : Cal P w K mg base CX0 3 "told_tree" ["table", "rules", "text", "name", "size"] (phi_told_tree C)) :
    Cal P w K mg base (L2.CX P w) 5 "mend" ["rules", "text"] (phi_mend C) :=
  ⟨f, fd, fo_mend F T G_need_rules G_need_text G_table_of G_told_tree, m, F.kp, F.binds (ps := ["rules", "text"]) fun _ _ _ _ _ _ us hl => match us, hl with | [_, _], _ => rfl⟩
abbrev s_reads : Stmt := topS 32
theorem sc_reads : FnScope N_reads ["rules", "text"] (defScope s_reads) := ⟨rfl, rfl, rfl, by decide +kernel, rfl, by decide +kernel, by decide +kernel⟩
theorem fo_reads {P : Program} {w : World} {K : PySem.W.Frag} {mg : Str → Option Value} {base : Heap} {C : ErA} {f : Addr} {fd : FuncData} (F : Fun K "reads" "reads" s_reads f fd) (T : Bi mg) (G_need_rules : Cal P w K mg base (L2.CX P w) 3 "need_rules" ["rules"] (phi_need_rules C)) (G_need_text : Cal P w K mg base (L2.CX P w) 2 "need_text" ["text"] (phi_need_text C)) (G_table_of : Cal P w K mg base CX0 4 "table_of" ["rules", "text"] (phi_table_of C)) :
    FnOk P w K mg base (L2.CX P w) 5 f fd ["rules", "text"] (mkSp K (phi_reads C)) := by
  refine fn_pureX (k := 4) (t := t_reads K C) F sc_reads len_reads w_reads ?_
  intro cdv A outer s H E hr
  exact (pss_cons (ps_set (i := 2) sc_reads.nd rfl (Or.inl rfl) (pe_cal G_need_rules (hr.mono (by decide)) (by rfl) (passes_call (takes_of rfl rfl rfl rfl) (fun _ _ _ _ h => h)) (pa_cons (pv 0) pa_nil))) (pss_cons (ps_expr (pe_cal G_need_text (hr.mono (by decide)) (by rfl) (passes_call (takes_of rfl rfl rfl rfl) (fun _ _ _ _ h => h)) (pa_cons (pv 1) pa_nil))) (pss_one (ps_ret (pe_cmpR (op_uEq hr) (pe_dget (room_u hr) (pe_cal G_table_of (hr.mono (by decide)) (by rfl) pass0 (pa_cons (pv 2) (pa_cons (pv 1) pa_nil))) (pe_tup (pa_cons (pe_ix ix_seq (pe_ix ix_seq (pv 2) pe_int (fun _ _ => rfl)) pe_int (fun _ _ => rfl)) (pa_cons pe_int (pa_cons (pe_callB call_len (by rfl) T.len (by decide +kernel) (pa_cons (pv 1) pa_nil)) pa_nil)))) (fun _ _ => rfl)) pe_int (nomark _))))))
theorem ok_reads {P : Program} {w : World} {K : PySem.W.Frag} {mg : Str → Option Value} {base : Heap} {C : ErA} {f : Addr} {fd : FuncData} (F : Fun K "reads" "reads" s_reads f fd) (m : mg "reads" = some (.ref f)) (T : Bi mg) (G_need_rules : Cal P w K mg base (L2.CX P w) 3 "need_rules" ["rules"] (phi_need_rules C)) (G_need_text : Cal P w K mg base (L2.CX P w) 2 "need_text" ["text"] (phi_need_text C)) (G_table_of : Cal P w K mg base CX0 4 "table_of" ["rules", "text"] (phi_table_of C)) :
    Cal P w K mg base (L2.CX P w) 5 "reads" ["rules", "text"] (phi_reads C) :=
  ⟨f, fd, fo_reads F T G_need_rules G_need_text G_table_of, m, F.kp, F.binds (ps := ["rules", "text"]) fun _ _ _ _ _ _ us hl => match us, hl with | [_, _], _ => rfl⟩
abbrev s_l_at : Stmt := topS 34
theorem sc_l_at : FnScope N_l_at ["_law_script", "_law_place"] (defScope s_l_at) := ⟨rfl, rfl, rfl, by decide +kernel, rfl, by decide +kernel, by decide +kernel⟩
theorem fo_l_at {P : Program} {w : World} {K : PySem.W.Frag} {mg : Str → Option Value} {base : Heap} {C : ErA} {f : Addr} {fd : FuncData} (F : Fun K "_law_at" "_law_at" s_l_at f fd) (T : Bi mg) :
    FnOk P w K mg base CX0 1 f fd ["_law_script", "_law_place"] (mkSp K (phi_l_at C)) := by
  refine fn_pure (k := 0) (t := t_l_at K C) F sc_l_at len_l_at w_l_at ?_
  intro cdv A outer s H E hr
  exact (pss_cons (ps_if (pt_cmpR op_ge (pv 1) (pe_callB call_len (by rfl) T.len (by decide +kernel) (pa_cons (pv 0) pa_nil)) (nomark _)) (pss_one (ps_ret pe_int)) pss_nil) (pss_one (ps_ret (pe_ix ix_seq (pv 0) (pv 1) (fun _ _ => rfl)))))
theorem ok_l_at {P : Program} {w : World} {K : PySem.W.Frag} {mg : Str → Option Value} {base : Heap} {C : ErA} {f : Addr} {fd : FuncData} (F : Fun K "_law_at" "_law_at" s_l_at f fd) (m : mg "_law_at" = some (.ref f)) (T : Bi mg) :
    Cal P w K mg base CX0 1 "_law_at" ["_law_script", "_law_place"] (phi_l_at C) :=
  ⟨f, fd, fo_l_at F T, m, F.kp, F.binds (ps := ["_law_script", "_law_place"]) fun _ _ _ _ _ _ us hl => match us, hl with | [_, _], _ => rfl⟩
abbrev s_l_word : Stmt := topS 35
theorem sc_l_word : FnScope N_l_word ["_law_cell", "_law_k"] (defScope s_l_word) := ⟨rfl, rfl, rfl, by decide +kernel, rfl, by decide +kernel, by decide +kernel⟩
theorem fo_l_word {P : Program} {w : World} {K : PySem.W.Frag} {mg : Str → Option Value} {base : Heap} {C : ErA} {f : Addr} {fd : FuncData} (F : Fun K "_law_word" "_law_word" s_l_word f fd) (T : Bi mg) :
    FnOk P w K mg base CX0 1 f fd ["_law_cell", "_law_k"] (mkSp K (phi_l_word C)) := by
  refine fn_pure (k := 0) (t := t_l_word K C) F sc_l_word len_l_word w_l_word ?_
  intro cdv A outer s H E hr
  exact (pss_cons (ps_set (i := 2) sc_l_word.nd rfl (Or.inr rfl) (pe_strL (by decide +kernel))) (pss_cons (ps_set (i := 3) sc_l_word.nd rfl (Or.inl rfl) (pe_op op_uAdd pe_int (pe_op op_modN (pe_op op_fdivN (pv 0) pe_int) pe_int))) (pss_cons (ps_set (i := 4) sc_l_word.nd rfl (Or.inl rfl) (pe_op op_modN (pe_op op_fdivN (pv 0) pe_int) (pv 3))) (pss_cons (ps_set (i := 5) sc_l_word.nd rfl (Or.inl rfl) (pe_join (pe_strL (by decide +kernel)) (pe_lc (own := [("_law_j", 7)]) (g := gName 7) (by rfl) sc_l_word.nd (pi_range1 (by rfl) T.range (pa_cons (pv 3) pa_nil)) (blkOk_by (own := [("_law_j", 7)]) (N := N_l_word) (sc := defScope s_l_word) (by decide +kernel)) (fun _ _ _ _ _ => pg_name (i := 7) sc_l_word.nd rfl (Or.inl rfl)) (fun _ _ _ _ _ => pts_nil) (fun _ _ _ _ _ => (pe_ix ix_seq (pv 2) (pe_op op_modN (pe_op op_uAdd (pv 0) (pe_op op_uMul pe_int (pv 7))) pe_int) (fun _ _ => rfl)))))) (pss_cons (ps_set (i := 6) sc_l_word.nd rfl (Or.inl rfl) (pe_ix ix_seq (pv 2) (pe_op op_modN (pe_op op_uAdd (pv 0) (pe_op op_uMul pe_int (pv 1))) pe_int) (fun _ _ => rfl))) (pss_one (ps_ret (pe_op op_uAdd (pe_op op_uAdd (pe_slice sl_u (pv 5) po_none (po_some (pv 4))) (pv 6)) (pe_slice sl_u (pv 5) (po_some (pe_op op_uAdd (pv 4) pe_int)) po_none)))))))))
theorem ok_l_word {P : Program} {w : World} {K : PySem.W.Frag} {mg : Str → Option Value} {base : Heap} {C : ErA} {f : Addr} {fd : FuncData} (F : Fun K "_law_word" "_law_word" s_l_word f fd) (m : mg "_law_word" = some (.ref f)) (T : Bi mg) :
    Cal P w K mg base CX0 1 "_law_word" ["_law_cell", "_law_k"] (phi_l_word C) :=
  ⟨f, fd, fo_l_word F T, m, F.kp, F.binds (ps := ["_law_cell", "_law_k"]) fun _ _ _ _ _ _ us hl => match us, hl with | [_, _], _ => rfl⟩
abbrev s_l_rules : Stmt := topS 36
theorem sc_l_rules : FnScope N_l_rules ["_law_script", "_law_base"] (defScope s_l_rules) := ⟨rfl, rfl, rfl, by decide +kernel, rfl, by decide +kernel, by decide +kernel⟩
theorem fo_l_rules {P : Program} {w : World} {K : PySem.W.Frag} {mg : Str → Option Value} {base : Heap} {C : ErA} {f : Addr} {fd : FuncData} (F : Fun K "_law_rules" "_law_rules" s_l_rules f fd) (T : Bi mg) (G_l_at : Cal P w K mg base CX0 1 "_law_at" ["_law_script", "_law_place"] (phi_l_at C)) (G_l_word : Cal P w K mg base CX0 1 "_law_word" ["_law_cell", "_law_k"] (phi_l_word C)) :
    FnOk P w K mg base CX0 2 f fd ["_law_script", "_law_base"] (mkSp K (phi_l_rules C)) := by
  refine fn_pure (k := 1) (t := t_l_rules K C) F sc_l_rules len_l_rules w_l_rules ?_
  intro cdv A outer s H E hr
  exact (pss_cons (ps_set (i := 2) sc_l_rules.nd rfl (Or.inl rfl) (pe_op op_uAdd pe_int (pe_op op_modN (pv 1) pe_int))) (pss_cons (ps_setLc (i := 3) (own := [("_law_k", 5)]) (g := gName 5) rfl sc_l_rules.nd rfl rfl (sw_true rfl rfl rfl (by decide +kernel)) (pi_range1 (by rfl) T.range (pa_cons (pv 2) pa_nil)) (blkOk_by (own := [("_law_k", 5)]) (N := N_l_rules) (sc := defScope s_l_rules) (by decide +kernel)) (fun _ _ _ _ _ => pg_name (i := 5) sc_l_rules.nd rfl (Or.inl rfl)) (fun _ _ _ _ _ => pts_nil) (fun _ _ _ _ _ => (pe_cal G_l_word (hr.mono (by decide)) (by rfl) pass0 (pa_cons (pe_op op_fdivN (pv 1) pe_int) (pa_cons (pv 5) pa_nil))))) (pss_cons (ps_set (i := 4) sc_l_rules.nd rfl (Or.inl rfl) (pe_lst pa_nil)) (pss_cons (ps_for PassesOwn.never rfl (pi_range1 (by rfl) T.range (pa_cons (pv 2) pa_nil)) (pg_name (i := 5) sc_l_rules.nd rfl (Or.inl rfl)) (pss_cons (ps_set (i := 7) sc_l_rules.nd rfl (Or.inl rfl) (pe_cal G_l_at (hr.mono (by decide)) (by rfl) pass0 (pa_cons (pv 0) (pa_cons (pe_op op_uAdd pe_int (pv 5)) pa_nil)))) (pss_one (ps_if (PW.pt (pw_or (pt_cmpR (op_uEq hr) (pv 5) pe_int (nomark _)) (pw_or1 (pt_cmpR (op_uEq hr) (pe_op op_modN (pv 7) pe_int) pe_int (nomark _))))) (pss_one (ps_expr (pe_bm PySem.F.plainAttrs_list PySem.F.slot_list_append PySem.F.type_list_append mt_append (pv 4) (pa_cons (pe_tup (pa_cons (pe_ix ix_seq (pv 3) (pv 5) (fun _ _ => rfl)) (pa_cons (pe_ix ix_seq (pe_strL (by decide +kernel)) (pe_op op_modN (pe_op op_fdivN (pv 7) pe_int) pe_int) (fun _ _ => rfl)) pa_nil))) pa_nil)))) (pss_one (ps_expr (pe_bm PySem.F.plainAttrs_list PySem.F.slot_list_append PySem.F.type_list_append mt_append (pv 4) (pa_cons (pe_tup (pa_cons (pe_ix ix_seq (pv 3) (pv 5) (fun _ _ => rfl)) (pa_cons (pe_ix ix_seq (pv 3) (pe_op op_modN (pe_op op_fdivN (pv 7) pe_int) (pv 5)) (fun _ _ => rfl)) (pa_cons (pe_ix ix_seq (pv 3) (pe_op op_modN (pe_op op_fdivN (pv 7) pe_int) (pv 5)) (fun _ _ => rfl)) pa_nil)))) pa_nil)))))))) (pss_cons (ps_set (i := 6) sc_l_rules.nd rfl (Or.inl rfl) (pe_op op_uAdd (pe_callB call_len (by rfl) T.len (by decide +kernel) (pa_cons (pv 4) pa_nil)) (pe_op op_modN (pe_cal G_l_at (hr.mono (by decide)) (by rfl) pass0 (pa_cons (pv 0) (pa_cons pe_int pa_nil))) pe_int))) (pss_cons (ps_if (pt_cmpR (op_uEq hr) (pe_op op_modN (pe_op op_fdivN (pe_cal G_l_at (hr.mono (by decide)) (by rfl) pass0 (pa_cons (pv 0) (pa_cons pe_int pa_nil))) pe_int) pe_int) pe_int (nomark _)) (pss_one (ps_set (i := 6) sc_l_rules.nd rfl (Or.inl rfl) (pe_op op_uAdd pe_int (pe_op op_modN (pe_op op_fdivN (pe_cal G_l_at (hr.mono (by decide)) (by rfl) pass0 (pa_cons (pv 0) (pa_cons pe_int pa_nil))) pe_int) pe_int)))) pss_nil) (pss_cons (ps_while PassesOwn.never (pt_cmpR op_lt (pe_callB call_len (by rfl) T.len (by decide +kernel) (pa_cons (pv 4) pa_nil)) (pv 6) (nomark _)) (pss_cons (ps_set (i := 7) sc_l_rules.nd rfl (Or.inl rfl) (pe_op op_uAdd (pe_cal G_l_at (hr.mono (by decide)) (by rfl) pass0 (pa_cons (pv 0) (pa_cons (pe_op op_uAdd pe_int (pe_op op_modN (pe_callB call_len (by rfl) T.len (by decide +kernel) (pa_cons (pv 4) pa_nil)) pe_int)) pa_nil))) (pe_op op_uMul pe_int (pe_callB call_len (by rfl) T.len (by decide +kernel) (pa_cons (pv 4) pa_nil))))) (pss_cons (ps_par (by rfl) sc_l_rules.nd rfl rfl (by decide) rfl rfl (pa_cons (pe_ix ix_seq (pv 3) (pe_op op_modN (pe_op op_fdivN (pv 7) pe_int) (pv 2)) (fun _ _ => rfl)) (pa_cons (pe_ix ix_seq (pv 3) (pe_op op_modN (pe_op op_fdivN (pv 7) pe_int) (pv 2)) (fun _ _ => rfl)) pa_nil)) (by rfl)) (pss_one (ps_expr (pe_bm PySem.F.plainAttrs_list PySem.F.slot_list_append PySem.F.type_list_append mt_append (pv 4) (pa_cons (pe_tup (pa_cons (pe_ix ix_seq (pv 3) (pe_op op_modN (pv 7) (pv 2)) (fun _ _ => rfl)) (pa_cons (pv 8) (pa_cons (pv 9) pa_nil)))) pa_nil))))))) (pss_cons (ps_if (pt_cmpR (op_uEq hr) (pe_op op_modN (pe_op op_fdivN (pv 1) pe_int) pe_int) pe_int (nomark _)) (pss_one (ps_expr (pe_bm0 PySem.F.plainAttrs_list PySem.F.slot_list_reverse PySem.F.type_list_reverse mt_reverse (pv 4)))) pss_nil) (pss_one (ps_ret (pv 4)))))))))))
theorem ok_l_rules {P : Program} {w : World} {K : PySem.W.Frag} {mg : Str → Option Value} {base : Heap} {C : ErA} {f : Addr} {fd : FuncData} (F : Fun K "_law_rules" "_law_rules" s_l_rules f fd) (m : mg "_law_rules" = some (.ref f)) (T : Bi mg) (G_l_at : Cal P w K mg base CX0 1 "_law_at" ["_law_script", "_law_place"] (phi_l_at C)) (G_l_word : Cal P w K mg base CX0 1 "_law_word" ["_law_cell", "_law_k"] (phi_l_word C)) :
    Cal P w K mg base CX0 2 "_law_rules" ["_law_script", "_law_base"] (phi_l_rules C) :=
  ⟨f, fd, fo_l_rules F T G_l_at G_l_word, m, F.kp, F.binds (ps := ["_law_script", "_law_base"]) fun _ _ _ _ _ _ us hl => match us, hl with | [_, _], _ => rfl⟩
abbrev s_l_spoilt : Stmt := topS 37
theorem sc_l_spoilt : FnScope N_l_spoilt ["_law_rules_here", "_law_cell", "_law_names"] (defScope s_l_spoilt) := ⟨rfl, rfl, rfl, by decide +kernel, rfl, by decide +kernel, by decide +kernel⟩
theorem fo_l_spoilt {P : Program} {w : World} {K : PySem.W.Frag} {mg : Str → Option Value} {base : Heap} {C : ErA} {f : Addr} {fd : FuncData} (F : Fun K "_law_spoilt" "_law_spoilt" s_l_spoilt f fd) (T : Bi mg) (G_l_word : Cal P w K mg base CX0 1 "_law_word" ["_law_cell", "_law_k"] (phi_l_word C)) :
    FnOk P w K mg base CX0 2 f fd ["_law_rules_here", "_law_cell", "_law_names"] (mkSpM K true (phi_l_spoilt C)) := by
  refine fn_pureM (k := 1) (t := t_l_spoilt K C) F sc_l_spoilt len_l_spoilt w_l_spoilt ?_
  intro cdv A outer s H E hr
  exact (pss_cons (ps_set (i := 3) sc_l_spoilt.nd rfl (Or.inl rfl) (pe_op op_modN (pv 1) pe_int)) (pss_cons (ps_set (i := 4) sc_l_spoilt.nd rfl (Or.inl rfl) (pe_op op_modN (pe_op op_fdivN (pv 1) pe_int) (pe_op op_uAdd (pe_callB call_len (by rfl) T.len (by decide +kernel) (pa_cons (pv 0) pa_nil)) pe_int))) (pss_cons (ps_set (i := 5) sc_l_spoilt.nd rfl (Or.inl rfl) (pe_op op_fdivN (pe_op op_fdivN (pv 1) pe_int) (pe_op op_uAdd (pe_callB call_len (by rfl) T.len (by decide +kernel) (pa_cons (pv 0) pa_nil)) pe_int))) (pss_cons (ps_set (i := 6) sc_l_spoilt.nd rfl (Or.inl rfl) (pe_op op_uAdd (pe_cal G_l_word (hr.mono (by decide)) (by rfl) pass0 (pa_cons (pv 5) (pa_cons pe_int pa_nil))) (pe_strL (by decide +kernel)))) (pss_cons (ps_set (i := 7) sc_l_spoilt.nd rfl (Or.inl rfl) (pe_op op_uAdd (pv 2) (pe_lst (pa_cons (pe_slice sl_u (pv 6) po_none (po_some pe_int)) pa_nil)))) (pss_cons (ps_if (pt_cmpR (op_uEq hr) (pv 3) pe_int (nomark _)) (pss_cons (ps_set (i := 8) sc_l_spoilt.nd rfl (Or.inl rfl) (pe_lst (pa_cons (pe_tup (pa_cons (pe_strL (by decide +kernel)) pa_nil)) (pa_cons (pe_tup (pa_cons (pe_strL (by decide +kernel)) (pa_cons (pe_strL (by decide +kernel)) pa_nil))) (pa_cons (pe_lst (pa_cons (pe_strL (by decide +kernel)) (pa_cons (pe_strL (by decide +kernel)) pa_nil))) (pa_cons (pe_tup (pa_cons (pe_strL (by decide +kernel)) (pa_cons (pe_strL (by decide +kernel)) pa_nil))) (pa_cons pe_non (pa_cons (pe_tup (pa_cons (pe_strL (by decide +kernel)) (pa_cons (pe_strL (by decide +kernel)) (pa_cons (pe_strL (by decide +kernel)) (pa_cons (pe_strL (by decide +kernel)) pa_nil))))) (pa_cons (pe_tup (pa_cons (pe_strL (by decide +kernel)) (pa_cons (pe_strL (by decide +kernel)) pa_nil))) (pa_cons (pe_tup (pa_cons (pe_strL (by decide +kernel)) (pa_cons (pe_strL (by decide +kernel)) (pa_cons pe_int pa_nil)))) (pa_cons (pe_strL (by decide +kernel)) pa_nil))))))))))) (pss_cons (ps_set (i := 8) sc_l_spoilt.nd rfl (Or.inl rfl) (pe_op op_uAdd (pv 8) (pe_lst (pa_cons (pe_tup (pa_cons (pe_strL (by decide +kernel)) (pa_cons (pe_strL (by decide +kernel)) (pa_cons (pe_strL (by decide +kernel)) pa_nil)))) (pa_cons (pe_tup (pa_cons (pe_strL (by decide +kernel)) (pa_cons pe_int pa_nil))) (pa_cons (pe_tup (pa_cons (pe_strL (by decide +kernel)) (pa_cons (pe_strL (by decide +kernel)) (pa_cons (pe_strL (by decide +kernel)) pa_nil)))) (pa_cons (pe_tup (pa_cons (pe_strL (by decide +kernel)) (pa_cons (pe_strL (by decide +kernel)) (pa_cons (pe_strL (by decide +kernel)) pa_nil)))) pa_nil))))))) (pss_cons (ps_set (i := 8) sc_l_spoilt.nd rfl (Or.inl rfl) (pe_op op_uAdd (pv 8) (pe_lst (pa_cons (pe_tup (pa_cons (pe_ix ix_seq (pv 2) pe_int (fun _ _ => rfl)) (pa_cons (pe_ix ix_seq (pv 2) pe_int (fun _ _ => rfl)) (pa_cons (pe_strL (by decide +kernel)) pa_nil)))) pa_nil)))) (pss_one (ps_expr (pe_bm PySem.F.plainAttrs_list PySem.F.slot_list_insert PySem.F.type_list_insert mt_ins (pv 0) (pa_cons (pv 4) (pa_cons (pe_ix ix_seq (pv 8) (pe_op op_modN (pv 5) pe_int) (fun _ _ => rfl)) pa_nil)))))))) pss_nil) (pss_cons (ps_if (pt_cmpR (op_uEq hr) (pv 3) pe_int (nomark _)) (pss_one (ps_expr (pe_bm PySem.F.plainAttrs_list PySem.F.slot_list_insert PySem.F.type_list_insert mt_ins (pv 0) (pa_cons (pv 4) (pa_cons (pe_tup (pa_cons (pe_ix ix_seq (pv 2) pe_int (fun _ _ => rfl)) (pa_cons (pe_slice sl_u (pv 6) po_none (po_some pe_int)) (pa_cons (pe_ix ix_seq (pv 7) (pe_op op_modN (pv 5) (pe_callB call_len (by rfl) T.len (by decide +kernel) (pa_cons (pv 7) pa_nil))) (fun _ _ => rfl)) pa_nil)))) pa_nil))))) pss_nil) (pss_cons (ps_if (pt_cmpR (op_uEq hr) (pv 3) pe_int (nomark _)) (pss_one (ps_expr (pe_bm PySem.F.plainAttrs_list PySem.F.slot_list_insert PySem.F.type_list_insert mt_ins (pv 0) (pa_cons (pv 4) (pa_cons (pe_tup (pa_cons (pe_ix ix_seq (pv 2) pe_int (fun _ _ => rfl)) (pa_cons (pe_ix ix_seq (pv 7) (pe_op op_modN (pv 5) (pe_callB call_len (by rfl) T.len (by decide +kernel) (pa_cons (pv 7) pa_nil))) (fun _ _ => rfl)) (pa_cons (pe_slice sl_u (pv 6) po_none (po_some pe_int)) pa_nil)))) pa_nil))))) pss_nil) (pss_cons (ps_if (pt_cmpR (op_uEq hr) (pv 3) pe_int (nomark _)) (pss_one (ps_expr (pe_bm PySem.F.plainAttrs_list PySem.F.slot_list_insert PySem.F.type_list_insert mt_ins (pv 0) (pa_cons (pv 4) (pa_cons (pe_tup (pa_cons (pe_slice sl_u (pv 6) po_none (po_some pe_int)) (pa_cons (pe_slice sl_u (pv 6) po_none (po_some pe_int)) (pa_cons (pe_ix ix_seq (pv 7) (pe_op op_modN (pv 5) (pe_callB call_len (by rfl) T.len (by decide +kernel) (pa_cons (pv 7) pa_nil))) (fun _ _ => rfl)) pa_nil)))) pa_nil))))) pss_nil) (pss_cons (ps_if (pt_cmpR (op_uEq hr) (pv 3) pe_int (nomark _)) (pss_one (ps_expr (pe_bm0 PySem.F.plainAttrs_list PySem.F.slot_list_clear PySem.F.type_list_clear mt_clear (pv 0)))) pss_nil) (pss_one (ps_ret (pv 0)))))))))))))
theorem ok_l_spoilt {P : Program} {w : World} {K : PySem.W.Frag} {mg : Str → Option Value} {base : Heap} {C : ErA} {f : Addr} {fd : FuncData} (F : Fun K "_law_spoilt" "_law_spoilt" s_l_spoilt f fd) (m : mg "_law_spoilt" = some (.ref f)) (T : Bi mg) (G_l_word : Cal P w K mg base CX0 1 "_law_word" ["_law_cell", "_law_k"] (phi_l_word C)) :
    CalM P w K mg base CX0 2 "_law_spoilt" ["_law_rules_here", "_law_cell", "_law_names"] true (phi_l_spoilt C) :=
  ⟨f, fd, fo_l_spoilt F T G_l_word, m, F.kp, F.binds (ps := ["_law_rules_here", "_law_cell", "_law_names"]) fun _ _ _ _ _ _ us hl => match us, hl with | [_, _, _], _ => rfl⟩
abbrev s_l_good_rule : Stmt := topS 38
theorem sc_l_good_rule : FnScope N_l_good_rule ["_law_rule"] (defScope s_l_good_rule) := ⟨rfl, rfl, rfl, by decide +kernel, rfl, by decide +kernel, by decide +kernel⟩
theorem fo_l_good_rule {P : Program} {w : World} {K : PySem.W.Frag} {mg : Str → Option Value} {base : Heap} {C : ErA} {f : Addr} {fd : FuncData} (F : Fun K "_law_good_rule" "_law_good_rule" s_l_good_rule f fd) (T : Bi mg) :
    FnOk P w K mg base CX0 1 f fd ["_law_rule"] (mkSp K (phi_l_good_rule C)) := by
  refine fn_pure (k := 0) (t := t_l_good_rule K C) F sc_l_good_rule len_l_good_rule w_l_good_rule ?_
  intro cdv A outer s H E hr
  exact (pss_cons (ps_if (PW.pt (pw_or (pt_not (pt_truth (pe_callB call_isi (by rfl) T.isinstance (by decide +kernel) (pa_cons (pv 0) (pa_cons (pe_bltn (by rfl) T.tuple (by decide +kernel) rfl) pa_nil))) (by intro _; rfl))) (pw_or (pt_cmpR op_lt (pe_callB call_len (by rfl) T.len (by decide +kernel) (pa_cons (pv 0) pa_nil)) pe_int (nomark _)) (pw_or1 (pt_cmpR op_gt (pe_callB call_len (by rfl) T.len (by decide +kernel) (pa_cons (pv 0) pa_nil)) pe_int (nomark _)))))) (pss_one (ps_ret pe_bl)) pss_nil) (pss_cons (ps_for PassesOwn.never rfl (pi_tup (pe_op op_uAdd (pe_slice sl_u (pv 0) po_none (po_some pe_int)) (pe_op op_vMul (pe_slice sl_u (pv 0) (po_some pe_int) po_none) (pe_callTy call_int1 (by rfl) T.int (by decide +kernel) (pa_cons (pe_cmpR (op_uEq hr) (pe_callB call_len (by rfl) T.len (by decide +kernel) (pa_cons (pv 0) pa_nil)) pe_int (nomark _)) pa_nil))))) (pg_name (i := 1) sc_l_good_rule.nd rfl (Or.inl rfl)) (pss_cons (ps_if (PW.pt (pw_or (pt_not (pt_truth (pe_callB call_isi (by rfl) T.isinstance (by decide +kernel) (pa_cons (pv 1) (pa_cons (pe_bltn (by rfl) T.str (by decide +kernel) rfl) pa_nil))) (by intro _; rfl))) (pw_or1 (pt_not (pt_chain op_lt op_lt pe_int (pe_callB call_len (by rfl) T.len (by decide +kernel) (pa_cons (pv 1) pa_nil)) pe_int))))) (pss_one (ps_ret pe_bl)) pss_nil) (pss_one (ps_if (pt_cmpR (op_uNe hr) (pe_lc (own := [("_law_sign", 2)]) (g := gName 2) (by rfl) sc_l_good_rule.nd (pi_str (pv 1)) (blkOk_by (own := [("_law_sign", 2)]) (N := N_l_good_rule) (sc := defScope s_l_good_rule) (by decide +kernel)) (fun _ _ _ _ _ => pg_name (i := 2) sc_l_good_rule.nd rfl (Or.inl rfl)) (fun _ _ _ _ _ => (pts_one (pt_cmpR (op_uNin hr) (pv 2) (pe_strL (by decide +kernel)) (by rfl)))) (fun _ _ _ _ _ => (pv 2))) (pe_lst pa_nil) (nomark _)) (pss_one (ps_ret pe_bl)) pss_nil)))) (pss_one (ps_ret (pe_or (pe_cmpR (op_uEq hr) (pe_callB call_len (by rfl) T.len (by decide +kernel) (pa_cons (pv 0) pa_nil)) pe_int (nomark _)) (pe_one (pe_and (pe_callB call_isi (by rfl) T.isinstance (by decide +kernel) (pa_cons (pe_ix ix_seq (pv 0) pe_int (fun _ _ => rfl)) (pa_cons (pe_bltn (by rfl) T.str (by decide +kernel) rfl) pa_nil))) (pe_one (pe_cmpR (op_uEq hr) (pe_callB call_len (by rfl) T.len (by decide +kernel) (pa_cons (pe_ix ix_seq (pv 0) pe_int (fun _ _ => rfl)) pa_nil)) pe_int (nomark _))))))))))
theorem ok_l_good_rule {P : Program} {w : World} {K : PySem.W.Frag} {mg : Str → Option Value} {base : Heap} {C : ErA} {f : Addr} {fd : FuncData} (F : Fun K "_law_good_rule" "_law_good_rule" s_l_good_rule f fd) (m : mg "_law_good_rule" = some (.ref f)) (T : Bi mg) :
    Cal P w K mg base CX0 1 "_law_good_rule" ["_law_rule"] (phi_l_good_rule C) :=
  ⟨f, fd, fo_l_good_rule F T, m, F.kp, F.binds (ps := ["_law_rule"]) fun _ _ _ _ _ _ us hl => match us, hl with | [_], _ => rfl⟩
abbrev s_l_due : Stmt := topS 39
theorem sc_l_due : FnScope N_l_due ["_law_rules_here"] (defScope s_l_due) := ⟨rfl, rfl, rfl, by decide +kernel, rfl, by decide +kernel, by decide +kernel⟩
theorem fo_l_due {P : Program} {w : World} {K : PySem.W.Frag} {mg : Str → Option Value} {base : Heap} {C : ErA} {f : Addr} {fd : FuncData} (F : Fun K "_law_due" "_law_due" s_l_due f fd) (T : Bi mg) (G_l_good_rule : Cal P w K mg base CX0 1 "_law_good_rule" ["_law_rule"] (phi_l_good_rule C)) :
    FnOk P w K mg base CX0 2 f fd ["_law_rules_here"] (mkSp K (phi_l_due C)) := by
  refine fn_pure (k := 1) (t := t_l_due K C) F sc_l_due len_l_due w_l_due ?_
  intro cdv A outer s H E hr
  exact (pss_cons (ps_if (PW.pt (pw_or (pt_cmpR (op_uEq hr) (pv 0) (pe_lst pa_nil) (nomark _)) (pw_or (pt_cmpR op_gt (pe_callB call_len (by rfl) T.len (by decide +kernel) (pa_cons (pv 0) pa_nil)) pe_int (nomark _)) (pw_or1 (pt_not (pt_truth (pe_callB (cr_all rfl) (by rfl) T.all (by decide +kernel) (pa_cons (pe_lc (own := [("_law_rule", 2)]) (g := gName 2) (by rfl) sc_l_due.nd (pi_list (pv 0)) (blkOk_by (own := [("_law_rule", 2)]) (N := N_l_due) (sc := defScope s_l_due) (by decide +kernel)) (fun _ _ _ _ _ => pg_name (i := 2) sc_l_due.nd rfl (Or.inl rfl)) (fun _ _ _ _ _ => pts_nil) (fun _ _ _ _ _ => (pe_cal G_l_good_rule (hr.mono (by decide)) (by rfl) pass0 (pa_cons (pv 2) pa_nil)))) pa_nil)) (by intro _; rfl))))))) (pss_one (ps_ret (pe_strL (by decide +kernel)))) pss_nil) (pss_cons (ps_setLc (i := 1) (own := [("_law_rule", 2)]) (g := gName 2) rfl sc_l_due.nd rfl rfl (sw_true rfl rfl rfl (by decide +kernel)) (pi_list (pv 0)) (blkOk_by (own := [("_law_rule", 2)]) (N := N_l_due) (sc := defScope s_l_due) (by decide +kernel)) (fun _ _ _ _ _ => pg_name (i := 2) sc_l_due.nd rfl (Or.inl rfl)) (fun _ _ _ _ _ => pts_nil) (fun _ _ _ _ _ => (pe_ix ix_seq (pv 2) pe_int (fun _ _ => rfl)))) (pss_cons (ps_for PassesOwn.never rfl (pi_list (pv 0)) (pg_name (i := 2) sc_l_due.nd rfl (Or.inl rfl)) (pss_one (ps_if (PW.pt (pw_and (pt_cmpR (op_uEq hr) (pe_callB call_len (by rfl) T.len (by decide +kernel) (pa_cons (pv 2) pa_nil)) pe_int (nomark _)) (pw_and1 (PW.pt (pw_or (pt_cmpR (op_uNin hr) (pe_ix ix_seq (pv 2) pe_int (fun _ _ => rfl)) (pv 1) (by rfl)) (pw_or1 (pt_cmpR (op_uNin hr) (pe_ix ix_seq (pv 2) pe_int (fun _ _ => rfl)) (pv 1) (by rfl)))))))) (pss_one (ps_ret (pe_strL (by decide +kernel)))) pss_nil))) (pss_cons (ps_set (i := 3) sc_l_due.nd rfl (Or.inr rfl) pe_dnewK) (pss_cons (ps_for PassesOwn.never rfl (pi_range1 (by rfl) T.range (pa_cons (pe_callB call_len (by rfl) T.len (by decide +kernel) (pa_cons (pv 0) pa_nil)) pa_nil)) (pg_name (i := 4) sc_l_due.nd rfl (Or.inl rfl)) (pss_one (ps_for PassesOwn.never rfl (pi_list (pv 0)) (pg_name (i := 2) sc_l_due.nd rfl (Or.inl rfl)) (pss_one (ps_if (PW.pt (pw_or (pt_cmpR (op_uEq hr) (pe_callB call_len (by rfl) T.len (by decide +kernel) (pa_cons (pv 2) pa_nil)) pe_int (nomark _)) (pw_or1 (PW.pt (pw_and (pt_cmp (pc_din (room_u hr) (pe_ix ix_seq (pv 2) pe_int (fun _ _ => rfl)) (pv 3))) (pw_and1 (pt_cmp (pc_din (room_u hr) (pe_ix ix_seq (pv 2) pe_int (fun _ _ => rfl)) (pv 3))))))))) (pss_one (ps_dput (room_u hr) (pv 3) (pe_ix ix_seq (pv 2) pe_int (fun _ _ => rfl)) pe_bl rfl)) pss_nil))))) (pss_cons (ps_if (pt_cmpR (op_uNe hr) (pe_lc (own := [("_law_name", 5)]) (g := gName 5) (by rfl) sc_l_due.nd (pi_list (pv 1)) (blkOk_by (own := [("_law_name", 5)]) (N := N_l_due) (sc := defScope s_l_due) (by decide +kernel)) (fun _ _ _ _ _ => pg_name (i := 5) sc_l_due.nd rfl (Or.inl rfl)) (fun _ _ _ _ _ => (pts_one (pt_cmp (pc_dnotin (room_u hr) (pv 5) (pv 3))))) (fun _ _ _ _ _ => (pv 5))) (pe_lst pa_nil) (nomark _)) (pss_one (ps_ret (pe_strL (by decide +kernel)))) pss_nil) (pss_one (ps_ret (pe_strL (by decide +kernel))))))))))
theorem ok_l_due {P : Program} {w : World} {K : PySem.W.Frag} {mg : Str → Option Value} {base : Heap} {C : ErA} {f : Addr} {fd : FuncData} (F : Fun K "_law_due" "_law_due" s_l_due f fd) (m : mg "_law_due" = some (.ref f)) (T : Bi mg) (G_l_good_rule : Cal P w K mg base CX0 1 "_law_good_rule" ["_law_rule"] (phi_l_good_rule C)) :
    Cal P w K mg base CX0 2 "_law_due" ["_law_rules_here"] (phi_l_due C) :=
  ⟨f, fd, fo_l_due F T G_l_good_rule, m, F.kp, F.binds (ps := ["_law_rules_here"]) fun _ _ _ _ _ _ us hl => match us, hl with | [_], _ => rfl⟩
abbrev s_l_done : Stmt := topS 40
theorem sc_l_done : FnScope N_l_done ["_law_sort", "_law_rules_here", "_law_text_here"] (defScope s_l_done) := ⟨rfl, rfl, rfl, by decide +kernel, rfl, by decide +kernel, by decide +kernel⟩
theorem fo_l_done {P : Program} {w : World} {K : PySem.W.Frag} {mg : Str → Option Value} {base : Heap} {C : ErA} {f : Addr} {fd : FuncData} (F : Fun K "_law_done" "_law_done" s_l_done f fd) (T : Bi mg) (G_costs : Cal P w K mg base (L2.CX P w) 5 "costs" ["rules", "text"] (phi_costs C)) (G_mend : Cal P w K mg base (L2.CX P w) 5 "mend" ["rules", "text"] (phi_mend C)) (G_need_rules : Cal P w K mg base (L2.CX P w) 3 "need_rules" ["rules"] (phi_need_rules C)) (G_need_text : Cal P w K mg base (L2.CX P w) 2 "need_text" ["text"] (phi_need_text C)) (G_reads : Cal P w K mg base (L2.CX P w) 5 "reads" ["rules", "text"] (phi_reads C)) (G_shortest : Cal P w K mg base (L2.CX P w) 5 "shortest" ["rules"] (phi_shortest C)) :
    FnOk P w K mg base (L2.CX P w) 6 f fd ["_law_sort", "_law_rules_here", "_law_text_here"] (mkSp K (phi_l_done C)) := by
  refine fn_pureX (k := 5) (t := t_l_done K C) F sc_l_done len_l_done w_l_done ?_
  intro cdv A outer s H E hr
  exact (pss_one (ps_if (pt_cmpR (op_uEq hr) (pv 0) pe_int (nomark _)) (pss_one (ps_expr (pe_cal G_need_rules (hr.mono (by decide)) (by rfl) (passes_call (takes_of rfl rfl rfl rfl) (fun _ _ _ _ h => h)) (pa_cons (pv 1) pa_nil)))) (pss_one (ps_if (pt_cmpR (op_uEq hr) (pv 0) pe_int (nomark _)) (pss_one (ps_expr (pe_cal G_shortest (hr.mono (by decide)) (by rfl) (passes_call (takes_of rfl rfl rfl rfl) (fun _ _ _ _ h => h)) (pa_cons (pv 1) pa_nil)))) (pss_one (ps_if (pt_cmpR (op_uEq hr) (pv 0) pe_int (nomark _)) (pss_one (ps_expr (pe_cal G_costs (hr.mono (by decide)) (by rfl) (passes_call (takes_of rfl rfl rfl rfl) (fun _ _ _ _ h => h)) (pa_cons (pv 1) (pa_cons (pv 2) pa_nil))))) (pss_one (ps_if (pt_cmpR (op_uEq hr) (pv 0) pe_int (nomark _)) (pss_one (ps_expr (pe_cal G_mend (hr.mono (by decide)) (by rfl) (passes_call (takes_of rfl rfl rfl rfl) (fun _ _ _ _ h => h)) (pa_cons (pv 1) (pa_cons (pv 2) pa_nil))))) (pss_one (ps_if (pt_cmpR (op_uEq hr) (pv 0) pe_int (nomark _)) (pss_one (ps_expr (pe_cal G_reads (hr.mono (by decide)) (by rfl) (passes_call (takes_of rfl rfl rfl rfl) (fun _ _ _ _ h => h)) (pa_cons (pv 1) (pa_cons (pv 2) pa_nil))))) (pss_one (ps_expr (pe_cal G_need_text (hr.mono (by decide)) (by rfl) (passes_call (takes_of rfl rfl rfl rfl) (fun _ _ _ _ h => h)) (pa_cons (pv 2) pa_nil))))))))))))))
theorem ok_l_done {P : Program} {w : World} {K : PySem.W.Frag} {mg : Str → Option Value} {base : Heap} {C : ErA} {f : Addr} {fd : FuncData} (F : Fun K "_law_done" "_law_done" s_l_done f fd) (m : mg "_law_done" = some (.ref f)) (T : Bi mg) (G_costs : Cal P w K mg base (L2.CX P w) 5 "costs" ["rules", "text"] (phi_costs C)) (G_mend : Cal P w K mg base (L2.CX P w) 5 "mend" ["rules", "text"] (phi_mend C)) (G_need_rules : Cal P w K mg base (L2.CX P w) 3 "need_rules" ["rules"] (phi_need_rules C)) (G_need_text : Cal P w K mg base (L2.CX P w) 2 "need_text" ["text"] (phi_need_text C)) (G_reads : Cal P w K mg base (L2.CX P w) 5 "reads" ["rules", "text"] (phi_reads C)) (G_shortest : Cal P w K mg base (L2.CX P w) 5 "shortest" ["rules"] (phi_shortest C)) :
    Cal P w K mg base (L2.CX P w) 6 "_law_done" ["_law_sort", "_law_rules_here", "_law_text_here"] (phi_l_done C) :=
  ⟨f, fd, fo_l_done F T G_costs G_mend G_need_rules G_need_text G_reads G_shortest, m, F.kp, F.binds (ps := ["_law_sort", "_law_rules_here", "_law_text_here"]) fun _ _ _ _ _ _ us hl => match us, hl with | [_, _, _], _ => rfl⟩
abbrev s_l_refusal : Stmt := topS 41
theorem sc_l_refusal : FnScope N_l_refusal ["_law_sort", "_law_rules_here", "_law_text_here"] (defScope s_l_refusal) := ⟨rfl, rfl, rfl, by decide +kernel, rfl, by decide +kernel, by decide +kernel⟩
theorem fo_l_refusal {P : Program} {w : World} {K : PySem.W.Frag} {mg : Str → Option Value} {base : Heap} {C : ErA} {f : Addr} {fd : FuncData} (F : Fun K "_law_refusal" "_law_refusal" s_l_refusal f fd) (T : Bi mg) (X_BadDeeds : ExF K mg "BadDeeds" C.deeds) (X_BadRule : ExF K mg "BadRule" C.rule) (X_BadText : ExF K mg "BadText" C.text) (X_Endless : ExF K mg "Endless" C.endless) (X_NoName : ExF K mg "NoName" C.name) (X_MendError : mg "MendError" = some (.ref C.mend)) (XK : ErK K C) (z_VE : mg "ValueError" = none) (G_l_done : Cal P w K mg base (L2.CX P w) 6 "_law_done" ["_law_sort", "_law_rules_here", "_law_text_here"] (phi_l_done C)) :
    FnOk P w K mg base CX0 7 f fd ["_law_sort", "_law_rules_here", "_law_text_here"] (mkSp K (phi_l_refusal C)) := by
  refine fn_pure (k := 6) (t := t_l_refusal K C) F sc_l_refusal len_l_refusal (w_l_refusal XK) ?_
  intro cdv A outer s H E hr
  exact (pss_cons (ps_tryC (n := "e") (i := 3) (tk := tDrop) rfl rfl sc_l_refusal.nd rfl rfl ⟨by rfl, by decide, .inl X_MendError⟩ G_l_done (hr.mono (by decide)) (by rfl) (fun pn xe => (pa_cons (pv 0) (pa_cons (pv 1) (pa_cons (pv 2) pa_nil)))) (fun pn xe te hte => (pss_one (ps_expr hte))) (fun a oe cls d pn hz hf => pss_suite (C := C) hz fun n hn hz => (pss_cons (ps_set (i := 4) sc_l_refusal.nd rfl (Or.inl rfl) (pe_op op_uAdd (pe_op op_uMul (pe_strL (by decide +kernel)) (pe_callTy call_int1 (by rfl) T.int (by decide +kernel) (pa_cons (pe_callB (call_isX (XK.ex n hn) hz hf) (by rfl) T.isinstance (by decide +kernel) (pa_cons (pv 3) (pa_cons (pe_gl (by rfl) ⟨_, X_BadRule.gC, rfl⟩) pa_nil))) pa_nil))) (pe_op op_uMul (pe_strL (by decide +kernel)) (pe_callTy call_int1 (by rfl) T.int (by decide +kernel) (pa_cons (pe_callB (call_isX (XK.ex n hn) hz hf) (by rfl) T.isinstance (by decide +kernel) (pa_cons (pv 3) (pa_cons (pe_gl (by rfl) ⟨_, X_NoName.gC, rfl⟩) pa_nil))) pa_nil))))) (pss_cons (ps_set (i := 4) sc_l_refusal.nd rfl (Or.inl rfl) (pe_op op_uAdd (pe_op op_uAdd (pv 4) (pe_op op_uMul (pe_strL (by decide +kernel)) (pe_callTy call_int1 (by rfl) T.int (by decide +kernel) (pa_cons (pe_callB (call_isX (XK.ex n hn) hz hf) (by rfl) T.isinstance (by decide +kernel) (pa_cons (pv 3) (pa_cons (pe_gl (by rfl) ⟨_, X_Endless.gC, rfl⟩) pa_nil))) pa_nil)))) (pe_op op_uMul (pe_strL (by decide +kernel)) (pe_callTy call_int1 (by rfl) T.int (by decide +kernel) (pa_cons (pe_callB (call_isX (XK.ex n hn) hz hf) (by rfl) T.isinstance (by decide +kernel) (pa_cons (pv 3) (pa_cons (pe_gl (by rfl) ⟨_, X_BadText.gC, rfl⟩) pa_nil))) pa_nil))))) (pss_one (ps_ret (pe_op op_uAdd (pv 4) (pe_op op_uMul (pe_strL (by decide +kernel)) (pe_callTy call_int1 (by rfl) T.int (by decide +kernel) (pa_cons (pe_or (pe_not (pe_callB (call_isX (XK.ex n hn) hz hf) (by rfl) T.isinstance (by decide +kernel) (pa_cons (pv 3) (pa_cons (pe_bltn (by rfl) z_VE (by decide +kernel) rfl) pa_nil)))) (pe_one (pe_callB (call_isX (XK.ex n hn) hz hf) (by rfl) T.isinstance (by decide +kernel) (pa_cons (pv 3) (pa_cons (pe_gl (by rfl) ⟨_, X_BadDeeds.gC, rfl⟩) pa_nil))))) pa_nil)))))))))) (pss_one (ps_ret (pe_strL (by decide +kernel)))))
theorem ok_l_refusal {P : Program} {w : World} {K : PySem.W.Frag} {mg : Str → Option Value} {base : Heap} {C : ErA} {f : Addr} {fd : FuncData} (F : Fun K "_law_refusal" "_law_refusal" s_l_refusal f fd) (m : mg "_law_refusal" = some (.ref f)) (T : Bi mg) (X_BadDeeds : ExF K mg "BadDeeds" C.deeds) (X_BadRule : ExF K mg "BadRule" C.rule) (X_BadText : ExF K mg "BadText" C.text) (X_Endless : ExF K mg "Endless" C.endless) (X_NoName : ExF K mg "NoName" C.name) (X_MendError : mg "MendError" = some (.ref C.mend)) (XK : ErK K C) (z_VE : mg "ValueError" = none) (G_l_done : Cal P w K mg base (L2.CX P w) 6 "_law_done" ["_law_sort", "_law_rules_here", "_law_text_here"] (phi_l_done C)) :
    Cal P w K mg base CX0 7 "_law_refusal" ["_law_sort", "_law_rules_here", "_law_text_here"] (phi_l_refusal C) :=
  ⟨f, fd, fo_l_refusal F T X_BadDeeds X_BadRule X_BadText X_Endless X_NoName X_MendError XK z_VE G_l_done, m, F.kp, F.binds (ps := ["_law_sort", "_law_rules_here", "_law_text_here"]) fun _ _ _ _ _ _ us hl => match us, hl with | [_, _, _], _ => rfl⟩
abbrev s_l_text : Stmt := topS 42
theorem sc_l_text : FnScope N_l_text ["_law_cell"] (defScope s_l_text) := ⟨rfl, rfl, rfl, by decide +kernel, rfl, by decide +kernel, by decide +kernel⟩
theorem fo_l_text {P : Program} {w : World} {K : PySem.W.Frag} {mg : Str → Option Value} {base : Heap} {C : ErA} {f : Addr} {fd : FuncData} (F : Fun K "_law_text" "_law_text" s_l_text f fd) (T : Bi mg) :
    FnOk P w K mg base CX0 1 f fd ["_law_cell"] (mkSp K (phi_l_text C)) := by
  refine fn_pure (k := 0) (t := t_l_text K C) F sc_l_text len_l_text w_l_text ?_
  intro cdv A outer s H E hr
  exact (pss_cons (ps_set (i := 1) sc_l_text.nd rfl (Or.inl rfl) (pe_op op_modN (pv 0) pe_int)) (pss_cons (ps_if (pt_cmpR (op_uEq hr) (pe_op op_modN (pe_op op_fdivN (pv 0) pe_int) pe_int) pe_int (nomark _)) (pss_one (ps_set (i := 1) sc_l_text.nd rfl (Or.inl rfl) (pe_op op_uAdd pe_int (pe_op op_modN (pe_op op_fdivN (pv 0) pe_int) pe_int)))) pss_nil) (pss_cons (ps_set (i := 2) sc_l_text.nd rfl (Or.inl rfl) (pe_join (pe_strL (by decide +kernel)) (pe_lc (own := [("_law_k", 4)]) (g := gName 4) (by rfl) sc_l_text.nd (pi_range1 (by rfl) T.range (pa_cons (pv 1) pa_nil)) (blkOk_by (own := [("_law_k", 4)]) (N := N_l_text) (sc := defScope s_l_text) (by decide +kernel)) (fun _ _ _ _ _ => pg_name (i := 4) sc_l_text.nd rfl (Or.inl rfl)) (fun _ _ _ _ _ => pts_nil) (fun _ _ _ _ _ => (pe_ix ix_seq (pe_strL (by decide +kernel)) (pe_op op_modN (pe_op op_uAdd (pe_op op_fdivN (pv 0) pe_int) (pv 4)) pe_int) (fun _ _ => rfl)))))) (pss_cons (ps_set (i := 3) sc_l_text.nd rfl (Or.inl rfl) (pe_op op_modN (pe_op op_fdivN (pv 0) pe_int) (pe_op op_uAdd (pv 1) pe_int))) (pss_cons (ps_if (pt_cmpR (op_uEq hr) (pe_op op_modN (pe_op op_fdivN (pv 0) pe_int) pe_int) pe_int (nomark _)) (pss_one (ps_ret (pe_ix ix_seq (pe_lst (pa_cons (pe_op op_uAdd (pe_op op_uAdd (pe_slice sl_u (pv 2) po_none (po_some (pv 3))) (pe_ix ix_seq (pe_lst (pa_cons (pe_strL (by decide +kernel)) (pa_cons (pe_strL (by decide +kernel)) (pa_cons (pe_strL (by decide +kernel)) pa_nil)))) (pe_op op_modN (pe_op op_fdivN (pv 0) pe_int) pe_int) (fun _ _ => rfl))) (pe_slice sl_u (pv 2) (po_some (pv 3)) po_none)) (pa_cons pe_non (pa_cons pe_int (pa_cons (pe_lst (pa_cons (pe_strL (by decide +kernel)) pa_nil)) pa_nil))))) (pe_op op_modN (pe_op op_fdivN (pv 0) pe_int) pe_int) (fun _ _ => rfl)))) pss_nil) (pss_one (ps_ret (pv 2))))))))
theorem ok_l_text {P : Program} {w : World} {K : PySem.W.Frag} {mg : Str → Option Value} {base : Heap} {C : ErA} {f : Addr} {fd : FuncData} (F : Fun K "_law_text" "_law_text" s_l_text f fd) (m : mg "_law_text" = some (.ref f)) (T : Bi mg) :
    Cal P w K mg base CX0 1 "_law_text" ["_law_cell"] (phi_l_text C) :=
  ⟨f, fd, fo_l_text F T, m, F.kp, F.binds (ps := ["_law_cell"]) fun _ _ _ _ _ _ us hl => match us, hl with | [_], _ => rfl⟩
abbrev s_law : Stmt := topS 43
theorem sc_law : FnScope N_law ["_law_script"] (defScope s_law) := ⟨rfl, rfl, rfl, by decide +kernel, rfl, by decide +kernel, by decide +kernel⟩
theorem fo_law {P : Program} {w : World} {K : PySem.W.Frag} {mg : Str → Option Value} {base : Heap} {C : ErA} {f : Addr} {fd : FuncData} (F : Fun K "law" "law" s_law f fd) (T : Bi mg) (G_l_at : Cal P w K mg base CX0 1 "_law_at" ["_law_script", "_law_place"] (phi_l_at C)) (G_l_due : Cal P w K mg base CX0 2 "_law_due" ["_law_rules_here"] (phi_l_due C)) (G_l_refusal : Cal P w K mg base CX0 7 "_law_refusal" ["_law_sort", "_law_rules_here", "_law_text_here"] (phi_l_refusal C)) (G_l_rules : Cal P w K mg base CX0 2 "_law_rules" ["_law_script", "_law_base"] (phi_l_rules C)) (G_l_spoilt : CalM P w K mg base CX0 2 "_law_spoilt" ["_law_rules_here", "_law_cell", "_law_names"] true (phi_l_spoilt C)) (G_l_text : Cal P w K mg base CX0 1 "_law_text" ["_law_cell"] (phi_l_text C)) (G_need_rules : Cal P w K mg base (L2.CX P w) 3 "need_rules" ["rules"] (phi_need_rules C)) (G_need_text : Cal P w K mg base (L2.CX P w) 2 "need_text" ["text"] (phi_need_text C)) :
    FnOk P w K mg base CX0 8 f fd ["_law_script"] (mkSp K (phi_law C)) := by
  refine fn_pure (k := 7) (t := t_law K C) F sc_law len_law w_law ?_
  intro cdv A outer s H E hr
  exact (pss_cons (ps_set (i := 1) sc_law.nd rfl (Or.inl rfl) (pe_cal G_l_at (hr.mono (by decide)) (by rfl) pass0 (pa_cons (pv 0) (pa_cons pe_int pa_nil)))) (pss_cons (ps_set (i := 2) sc_law.nd rfl (Or.inl rfl) (pe_cal G_l_rules (hr.mono (by decide)) (by rfl) pass0 (pa_cons (pv 0) (pa_cons (pv 1) pa_nil)))) (pss_cons (ps_set (i := 3) sc_law.nd rfl (Or.inl rfl) (pe_callB (cr_uSorted rfl hr) (by rfl) T.sorted (by decide +kernel) (pa_cons (pe_lc (own := [("_law_rule", 11)]) (g := gName 11) (by rfl) sc_law.nd (pi_list (pv 2)) (blkOk_by (own := [("_law_rule", 11)]) (N := N_law) (sc := defScope s_law) (by decide +kernel)) (fun _ _ _ _ _ => pg_name (i := 11) sc_law.nd rfl (Or.inl rfl)) (fun _ _ _ _ _ => pts_nil) (fun _ _ _ _ _ => (pe_ix ix_seq (pv 11) pe_int (fun _ _ => rfl)))) pa_nil))) (pss_cons (ps_set (i := 2) sc_law.nd rfl (Or.inl rfl) (pe_calM G_l_spoilt (hr.mono (by decide)) (by rfl) pass0 (pa_cons (pv 2) (pa_cons (pe_cal G_l_at (hr.mono (by decide)) (by rfl) pass0 (pa_cons (pv 0) (pa_cons pe_int pa_nil))) (pa_cons (pv 3) pa_nil))))) (pss_cons (ps_if (pt_cmpR (op_uEq hr) (pe_op op_modN (pe_cal G_l_at (hr.mono (by decide)) (by rfl) pass0 (pa_cons (pv 0) (pa_cons pe_int pa_nil))) pe_int) pe_int (nomark _)) (pss_one (ps_set (i := 2) sc_law.nd rfl (Or.inl rfl) (pe_calM G_l_spoilt (hr.mono (by decide)) (by rfl) pass0 (pa_cons (pv 2) (pa_cons (pe_cal G_l_at (hr.mono (by decide)) (by rfl) pass0 (pa_cons (pv 0) (pa_cons pe_int pa_nil))) (pa_cons (pv 3) pa_nil)))))) pss_nil) (pss_cons (ps_set (i := 4) sc_law.nd rfl (Or.inl rfl) (pe_cal G_l_text (hr.mono (by decide)) (by rfl) pass0 (pa_cons (pe_cal G_l_at (hr.mono (by decide)) (by rfl) pass0 (pa_cons (pv 0) (pa_cons pe_int pa_nil))) pa_nil))) (pss_cons (ps_if (PW.pt (pw_and (pt_cmpR op_gt (pe_callB call_len (by rfl) T.len (by decide +kernel) (pa_cons (pv 2) pa_nil)) pe_int (nomark _)) (pw_and1 (pt_truth (pe_callB call_isi (by rfl) T.isinstance (by decide +kernel) (pa_cons (pv 4) (pa_cons (pe_bltn (by rfl) T.str (by decide +kernel) rfl) pa_nil))) (by intro _; rfl))))) (pss_one (ps_set (i := 4) sc_law.nd rfl (Or.inl rfl) (pe_slice sl_u (pv 4) po_none (po_some pe_int)))) pss_nil) (pss_cons (ps_set (i := 5) sc_law.nd rfl (Or.inl rfl) (pe_or (pe_not (pe_callB call_isi (by rfl) T.isinstance (by decide +kernel) (pa_cons (pv 4) (pa_cons (pe_bltn (by rfl) T.str (by decide +kernel) rfl) pa_nil)))) (pe_or (pe_cmpR op_gt (pe_callB call_len (by rfl) T.len (by decide +kernel) (pa_cons (pv 4) pa_nil)) pe_int (nomark _)) (pe_or (pe_cmpR (op_uIn hr) (pe_strL (by decide +kernel)) (pv 4) (by rfl)) (pe_one (pe_cmpR (op_uIn hr) (pe_strL (by decide +kernel)) (pv 4) (by rfl))))))) (pss_cons (ps_set (i := 6) sc_law.nd rfl (Or.inl rfl) (pe_cal G_l_due (hr.mono (by decide)) (by rfl) pass0 (pa_cons (pv 2) pa_nil))) (pss_cons (ps_set (i := 7) sc_law.nd rfl (Or.inl rfl) (pe_callTy call_list_of (by rfl) T.list (by decide +kernel) (pa_cons (pv 2) pa_nil))) (pss_cons (ps_for PassesOwn.never rfl (pi_range1 (by rfl) T.range (pa_cons pe_int pa_nil)) (pg_name (i := 8) sc_law.nd rfl (Or.inl rfl)) (pss_cons (ps_set (i := 9) sc_law.nd rfl (Or.inl rfl) (pv 6)) (pss_cons (ps_if (PW.pt (pw_and (pt_cmpR (op_uEq hr) (pv 6) (pe_strL (by decide +kernel)) (nomark _)) (pw_and (pt_not (pt_truth (pv 5) (by intro _; rfl))) (pw_and (pt_chain op_lt op_lt pe_int (pv 8) pe_int) (pw_and1 (pt_cmpR op_gt (pe_callB call_len (by rfl) T.len (by decide +kernel) (pa_cons (pv 4) pa_nil)) pe_int (nomark _))))))) (pss_one ps_continue) pss_nil) (pss_cons (ps_if (PW.pt (pw_or (pt_cmpR (op_uEq hr) (pv 8) pe_int (nomark _)) (pw_or1 (PW.pt (pw_and (pt_cmpR (op_uEq hr) (pv 6) (pe_strL (by decide +kernel)) (nomark _)) (pw_and1 (pt_cmpR op_gt (pv 8) pe_int (nomark _)))))))) (pss_one (ps_set (i := 9) sc_law.nd rfl (Or.inl rfl) (pe_ix ix_seq (pe_lst (pa_cons (pe_strL (by decide +kernel)) (pa_cons (pe_strL (by decide +kernel)) pa_nil))) (pe_callTy call_int1 (by rfl) T.int (by decide +kernel) (pa_cons (pv 5) pa_nil)) (fun _ _ => rfl)))) pss_nil) (pss_one (ps_if (PW.pt (pw_or (pt_cmpR (op_uNe hr) (pe_cal G_l_refusal (hr.mono (by decide)) (by rfl) pass0 (pa_cons (pv 8) (pa_cons (pv 7) (pa_cons (pv 4) pa_nil)))) (pv 9) (nomark _)) (pw_or1 (pt_cmpR (op_uNe hr) (pv 7) (pv 2) (nomark _))))) (pss_one (ps_ret pe_bl)) pss_nil)))))) (pss_cons (ps_if (pt_cmpR (op_uEq hr) (pv 6) (pe_strL (by decide +kernel)) (nomark _)) (pss_cons (ps_set (i := 10) sc_law.nd rfl (Or.inl rfl) (pe_cal G_need_rules (hr.mono (by decide)) (by rfl) passL (pa_cons (pv 7) pa_nil))) (pss_cons (ps_expr (pe_bm PySem.F.plainAttrs_list PySem.F.slot_list_append PySem.F.type_list_append mt_append (pv 10) (pa_cons (pe_strL (by decide +kernel)) pa_nil))) (pss_one (ps_if (PW.pt (pw_or (pt_cmpR (op_uNe hr) (pe_slice sl_u (pv 10) po_none (po_some (pe_un un_neg pe_int))) (pv 2) (nomark _)) (pw_or1 (pt_cmpR (op_uNe hr) (pv 7) (pv 2) (nomark _))))) (pss_one (ps_ret pe_bl)) pss_nil)))) pss_nil) (pss_one (ps_ret (pe_or (pv 5) (pe_one (pe_cmpR (op_uEq hr) (pe_cal G_need_text (hr.mono (by decide)) (by rfl) passL (pa_cons (pv 4) pa_nil)) (pv 4) (nomark _))))))))))))))))))
theorem all_mk {P : Program} {w : World} {K : PySem.W.Frag} {h : Heap} {mg : Str → Option Value} {fa : Addr} (X : K.In h) (G : h.Ns mainGlobals mg) (hfa : mg "law" = some (.ref fa))
    {f0 : Addr} {od0 an0 : Option Addr} {sl0 : Array (Option Value)} {oc0 kV0 dc0 pm0 cd0 ct0 : Value}
    {f1 : Addr} {od1 an1 : Option Addr} {sl1 : Array (Option Value)} {oc1 kV1 dc1 pm1 cd1 ct1 : Value}
    {f2 : Addr} {od2 an2 : Option Addr} {sl2 : Array (Option Value)} {oc2 kV2 dc2 pm2 cd2 ct2 : Value}
    {f3 : Addr} {od3 an3 : Option Addr} {sl3 : Array (Option Value)} {oc3 kV3 dc3 pm3 cd3 ct3 : Value}
    {f4 : Addr} {od4 an4 : Option Addr} {sl4 : Array (Option Value)} {oc4 kV4 dc4 pm4 cd4 ct4 : Value}
    {f5 : Addr} {od5 an5 : Option Addr} {sl5 : Array (Option Value)} {oc5 kV5 dc5 pm5 cd5 ct5 : Value}
    {f6 : Addr} {od6 an6 : Option Addr} {sl6 : Array (Option Value)} {oc6 kV6 dc6 pm6 cd6 ct6 : Value}
    {f7 : Addr} {od7 an7 : Option Addr} {sl7 : Array (Option Value)} {oc7 kV7 dc7 pm7 cd7 ct7 : Value}
    {f8 : Addr} {od8 an8 : Option Addr} {sl8 : Array (Option Value)} {oc8 kV8 dc8 pm8 cd8 ct8 : Value}
    {f9 : Addr} {od9 an9 : Option Addr} {sl9 : Array (Option Value)} {oc9 kV9 dc9 pm9 cd9 ct9 : Value}
    {f10 : Addr} {od10 an10 : Option Addr} {sl10 : Array (Option Value)} {oc10 kV10 dc10 pm10 cd10 ct10 : Value}
    {f11 : Addr} {od11 an11 : Option Addr} {sl11 : Array (Option Value)} {oc11 kV11 dc11 pm11 cd11 ct11 : Value}
    {f12 : Addr} {od12 an12 : Option Addr} {sl12 : Array (Option Value)} {oc12 kV12 dc12 pm12 cd12 ct12 : Value}
    {f13 : Addr} {od13 an13 : Option Addr} {sl13 : Array (Option Value)} {oc13 kV13 dc13 pm13 cd13 ct13 : Value}
    {f14 : Addr} {od14 an14 : Option Addr} {sl14 : Array (Option Value)} {oc14 kV14 dc14 pm14 cd14 ct14 : Value}
    {f15 : Addr} {od15 an15 : Option Addr} {sl15 : Array (Option Value)} {oc15 kV15 dc15 pm15 cd15 ct15 : Value}
    {f16 : Addr} {od16 an16 : Option Addr} {sl16 : Array (Option Value)} {oc16 kV16 dc16 pm16 cd16 ct16 : Value}
    {f17 : Addr} {od17 an17 : Option Addr} {sl17 : Array (Option Value)} {oc17 kV17 dc17 pm17 cd17 ct17 : Value}
    {f18 : Addr} {od18 an18 : Option Addr} {sl18 : Array (Option Value)} {oc18 kV18 dc18 pm18 cd18 ct18 : Value}
    {f19 : Addr} {od19 an19 : Option Addr} {sl19 : Array (Option Value)} {oc19 kV19 dc19 pm19 cd19 ct19 : Value}
    {f20 : Addr} {od20 an20 : Option Addr} {sl20 : Array (Option Value)} {oc20 kV20 dc20 pm20 cd20 ct20 : Value}
    {f21 : Addr} {od21 an21 : Option Addr} {sl21 : Array (Option Value)} {oc21 kV21 dc21 pm21 cd21 ct21 : Value}
    {f22 : Addr} {od22 an22 : Option Addr} {sl22 : Array (Option Value)} {oc22 kV22 dc22 pm22 cd22 ct22 : Value}
    {f23 : Addr} {od23 an23 : Option Addr} {sl23 : Array (Option Value)} {oc23 kV23 dc23 pm23 cd23 ct23 : Value}
    {f24 : Addr} {od24 an24 : Option Addr} {sl24 : Array (Option Value)} {oc24 kV24 dc24 pm24 cd24 ct24 : Value}
    {f25 : Addr} {od25 an25 : Option Addr} {sl25 : Array (Option Value)} {oc25 kV25 dc25 pm25 cd25 ct25 : Value}
    {f26 : Addr} {od26 an26 : Option Addr} {sl26 : Array (Option Value)} {oc26 kV26 dc26 pm26 cd26 ct26 : Value}
    {f27 : Addr} {od27 an27 : Option Addr} {sl27 : Array (Option Value)} {oc27 kV27 dc27 pm27 cd27 ct27 : Value}
    {tk_MOST_RULES : Tok}
    {tk_MOST_SIGNS : Tok}
    {tk_MOST_LETTERS : Tok}
    {tk_LETTERS : Tok}
    {tk_SIGNS : Tok}
    {C_BadRule : Addr}
    {C_NoName : Addr}
    {C_Endless : Addr}
    {C_BadText : Addr}
    {C_BadDeeds : Addr}
    {C_MendError : Addr}
    (a0 : PySem.W.nsIn K mainGlobals "is_sign" = some (some (.ref f0)))
    (l0 : K.lookup f0 = some ⟨oc0, od0, .func (PySem.W.fnOf "is_sign" "is_sign" (defArgs s_is_sign) (defBody s_is_sign) (defScope s_is_sign) .none kV0 dc0 pm0 an0 cd0 ct0), sl0⟩)
    (c0 : PySem.W.codeIn K cd0 "is_sign" = true)
    (k0 : PySem.W.keepIn K (.ref f0) = true)
    (a1 : PySem.W.nsIn K mainGlobals "is_name" = some (some (.ref f1)))
    (l1 : K.lookup f1 = some ⟨oc1, od1, .func (PySem.W.fnOf "is_name" "is_name" (defArgs s_is_name) (defBody s_is_name) (defScope s_is_name) .none kV1 dc1 pm1 an1 cd1 ct1), sl1⟩)
    (c1 : PySem.W.codeIn K cd1 "is_name" = true)
    (k1 : PySem.W.keepIn K (.ref f1) = true)
    (a2 : PySem.W.nsIn K mainGlobals "is_rule" = some (some (.ref f2)))
    (l2 : K.lookup f2 = some ⟨oc2, od2, .func (PySem.W.fnOf "is_rule" "is_rule" (defArgs s_is_rule) (defBody s_is_rule) (defScope s_is_rule) .none kV2 dc2 pm2 an2 cd2 ct2), sl2⟩)
    (c2 : PySem.W.codeIn K cd2 "is_rule" = true)
    (k2 : PySem.W.keepIn K (.ref f2) = true)
    (a3 : PySem.W.nsIn K mainGlobals "names_of" = some (some (.ref f3)))
    (l3 : K.lookup f3 = some ⟨oc3, od3, .func (PySem.W.fnOf "names_of" "names_of" (defArgs s_names_of) (defBody s_names_of) (defScope s_names_of) .none kV3 dc3 pm3 an3 cd3 ct3), sl3⟩)
    (c3 : PySem.W.codeIn K cd3 "names_of" = true)
    (k3 : PySem.W.keepIn K (.ref f3) = true)
    (a4 : PySem.W.nsIn K mainGlobals "telling" = some (some (.ref f4)))
    (l4 : K.lookup f4 = some ⟨oc4, od4, .func (PySem.W.fnOf "telling" "telling" (defArgs s_telling) (defBody s_telling) (defScope s_telling) .none kV4 dc4 pm4 an4 cd4 ct4), sl4⟩)
    (c4 : PySem.W.codeIn K cd4 "telling" = true)
    (k4 : PySem.W.keepIn K (.ref f4) = true)
    (a5 : PySem.W.nsIn K mainGlobals "need_rules" = some (some (.ref f5)))
    (l5 : K.lookup f5 = some ⟨oc5, od5, .func (PySem.W.fnOf "need_rules" "need_rules" (defArgs s_need_rules) (defBody s_need_rules) (defScope s_need_rules) .none kV5 dc5 pm5 an5 cd5 ct5), sl5⟩)
    (c5 : PySem.W.codeIn K cd5 "need_rules" = true)
    (k5 : PySem.W.keepIn K (.ref f5) = true)
    (a6 : PySem.W.nsIn K mainGlobals "need_text" = some (some (.ref f6)))
    (l6 : K.lookup f6 = some ⟨oc6, od6, .func (PySem.W.fnOf "need_text" "need_text" (defArgs s_need_text) (defBody s_need_text) (defScope s_need_text) .none kV6 dc6 pm6 an6 cd6 ct6), sl6⟩)
    (c6 : PySem.W.codeIn K cd6 "need_text" = true)
    (k6 : PySem.W.keepIn K (.ref f6) = true)
    (a7 : PySem.W.nsIn K mainGlobals "leaf_cost" = some (some (.ref f7)))
    (l7 : K.lookup f7 = some ⟨oc7, od7, .func (PySem.W.fnOf "leaf_cost" "leaf_cost" (defArgs s_leaf_cost) (defBody s_leaf_cost) (defScope s_leaf_cost) .none kV7 dc7 pm7 an7 cd7 ct7), sl7⟩)
    (c7 : PySem.W.codeIn K cd7 "leaf_cost" = true)
    (k7 : PySem.W.keepIn K (.ref f7) = true)
    (a8 : PySem.W.nsIn K mainGlobals "rule_cost" = some (some (.ref f8)))
    (l8 : K.lookup f8 = some ⟨oc8, od8, .func (PySem.W.fnOf "rule_cost" "rule_cost" (defArgs s_rule_cost) (defBody s_rule_cost) (defScope s_rule_cost) .none kV8 dc8 pm8 an8 cd8 ct8), sl8⟩)
    (c8 : PySem.W.codeIn K cd8 "rule_cost" = true)
    (k8 : PySem.W.keepIn K (.ref f8) = true)
    (a9 : PySem.W.nsIn K mainGlobals "fill" = some (some (.ref f9)))
    (l9 : K.lookup f9 = some ⟨oc9, od9, .func (PySem.W.fnOf "fill" "fill" (defArgs s_fill) (defBody s_fill) (defScope s_fill) .none kV9 dc9 pm9 an9 cd9 ct9), sl9⟩)
    (c9 : PySem.W.codeIn K cd9 "fill" = true)
    (k9 : PySem.W.keepIn K (.ref f9) = true)
    (a10 : PySem.W.nsIn K mainGlobals "table_of" = some (some (.ref f10)))
    (l10 : K.lookup f10 = some ⟨oc10, od10, .func (PySem.W.fnOf "table_of" "table_of" (defArgs s_table_of) (defBody s_table_of) (defScope s_table_of) .none kV10 dc10 pm10 an10 cd10 ct10), sl10⟩)
    (c10 : PySem.W.codeIn K cd10 "table_of" = true)
    (k10 : PySem.W.keepIn K (.ref f10) = true)
    (a11 : PySem.W.nsIn K mainGlobals "costs" = some (some (.ref f11)))
    (l11 : K.lookup f11 = some ⟨oc11, od11, .func (PySem.W.fnOf "costs" "costs" (defArgs s_costs) (defBody s_costs) (defScope s_costs) .none kV11 dc11 pm11 an11 cd11 ct11), sl11⟩)
    (c11 : PySem.W.codeIn K cd11 "costs" = true)
    (k11 : PySem.W.keepIn K (.ref f11) = true)
    (a12 : PySem.W.nsIn K mainGlobals "shortest" = some (some (.ref f12)))
    (l12 : K.lookup f12 = some ⟨oc12, od12, .func (PySem.W.fnOf "shortest" "shortest" (defArgs s_shortest) (defBody s_shortest) (defScope s_shortest) .none kV12 dc12 pm12 an12 cd12 ct12), sl12⟩)
    (c12 : PySem.W.codeIn K cd12 "shortest" = true)
    (k12 : PySem.W.keepIn K (.ref f12) = true)
    (a13 : PySem.W.nsIn K mainGlobals "kept_place" = some (some (.ref f13)))
    (l13 : K.lookup f13 = some ⟨oc13, od13, .func (PySem.W.fnOf "kept_place" "kept_place" (defArgs s_kept_place) (defBody s_kept_place) (defScope s_kept_place) .none kV13 dc13 pm13 an13 cd13 ct13), sl13⟩)
    (c13 : PySem.W.codeIn K cd13 "kept_place" = true)
    (k13 : PySem.W.keepIn K (.ref f13) = true)
    (a14 : PySem.W.nsIn K mainGlobals "choice" = some (some (.ref f14)))
    (l14 : K.lookup f14 = some ⟨oc14, od14, .func (PySem.W.fnOf "choice" "choice" (defArgs s_choice) (defBody s_choice) (defScope s_choice) .none kV14 dc14 pm14 an14 cd14 ct14), sl14⟩)
    (c14 : PySem.W.codeIn K cd14 "choice" = true)
    (k14 : PySem.W.keepIn K (.ref f14) = true)
    (a15 : PySem.W.nsIn K mainGlobals "told_tree" = some (some (.ref f15)))
    (l15 : K.lookup f15 = some ⟨oc15, od15, .func (PySem.W.fnOf "told_tree" "told_tree" (defArgs s_told_tree) (defBody s_told_tree) (defScope s_told_tree) .none kV15 dc15 pm15 an15 cd15 ct15), sl15⟩)
    (c15 : PySem.W.codeIn K cd15 "told_tree" = true)
    (k15 : PySem.W.keepIn K (.ref f15) = true)
    (a16 : PySem.W.nsIn K mainGlobals "mend" = some (some (.ref f16)))
    (l16 : K.lookup f16 = some ⟨oc16, od16, .func (PySem.W.fnOf "mend" "mend" (defArgs s_mend) (defBody s_mend) (defScope s_mend) .none kV16 dc16 pm16 an16 cd16 ct16), sl16⟩)
    (c16 : PySem.W.codeIn K cd16 "mend" = true)
    (k16 : PySem.W.keepIn K (.ref f16) = true)
    (a17 : PySem.W.nsIn K mainGlobals "reads" = some (some (.ref f17)))
    (l17 : K.lookup f17 = some ⟨oc17, od17, .func (PySem.W.fnOf "reads" "reads" (defArgs s_reads) (defBody s_reads) (defScope s_reads) .none kV17 dc17 pm17 an17 cd17 ct17), sl17⟩)
    (c17 : PySem.W.codeIn K cd17 "reads" = true)
    (k17 : PySem.W.keepIn K (.ref f17) = true)
    (a18 : PySem.W.nsIn K mainGlobals "_law_at" = some (some (.ref f18)))
    (l18 : K.lookup f18 = some ⟨oc18, od18, .func (PySem.W.fnOf "_law_at" "_law_at" (defArgs s_l_at) (defBody s_l_at) (defScope s_l_at) .none kV18 dc18 pm18 an18 cd18 ct18), sl18⟩)
    (c18 : PySem.W.codeIn K cd18 "_law_at" = true)
    (k18 : PySem.W.keepIn K (.ref f18) = true)
    (a19 : PySem.W.nsIn K mainGlobals "_law_word" = some (some (.ref f19)))
    (l19 : K.lookup f19 = some ⟨oc19, od19, .func (PySem.W.fnOf "_law_word" "_law_word" (defArgs s_l_word) (defBody s_l_word) (defScope s_l_word) .none kV19 dc19 pm19 an19 cd19 ct19), sl19⟩)
    (c19 : PySem.W.codeIn K cd19 "_law_word" = true)
    (k19 : PySem.W.keepIn K (.ref f19) = true)
    (a20 : PySem.W.nsIn K mainGlobals "_law_rules" = some (some (.ref f20)))
    (l20 : K.lookup f20 = some ⟨oc20, od20, .func (PySem.W.fnOf "_law_rules" "_law_rules" (defArgs s_l_rules) (defBody s_l_rules) (defScope s_l_rules) .none kV20 dc20 pm20 an20 cd20 ct20), sl20⟩)
    (c20 : PySem.W.codeIn K cd20 "_law_rules" = true)
    (k20 : PySem.W.keepIn K (.ref f20) = true)
    (a21 : PySem.W.nsIn K mainGlobals "_law_spoilt" = some (some (.ref f21)))
    (l21 : K.lookup f21 = some ⟨oc21, od21, .func (PySem.W.fnOf "_law_spoilt" "_law_spoilt" (defArgs s_l_spoilt) (defBody s_l_spoilt) (defScope s_l_spoilt) .none kV21 dc21 pm21 an21 cd21 ct21), sl21⟩)
    (c21 : PySem.W.codeIn K cd21 "_law_spoilt" = true)
    (k21 : PySem.W.keepIn K (.ref f21) = true)
    (a22 : PySem.W.nsIn K mainGlobals "_law_good_rule" = some (some (.ref f22)))
    (l22 : K.lookup f22 = some ⟨oc22, od22, .func (PySem.W.fnOf "_law_good_rule" "_law_good_rule" (defArgs s_l_good_rule) (defBody s_l_good_rule) (defScope s_l_good_rule) .none kV22 dc22 pm22 an22 cd22 ct22), sl22⟩)
    (c22 : PySem.W.codeIn K cd22 "_law_good_rule" = true)
    (k22 : PySem.W.keepIn K (.ref f22) = true)
    (a23 : PySem.W.nsIn K mainGlobals "_law_due" = some (some (.ref f23)))
    (l23 : K.lookup f23 = some ⟨oc23, od23, .func (PySem.W.fnOf "_law_due" "_law_due" (defArgs s_l_due) (defBody s_l_due) (defScope s_l_due) .none kV23 dc23 pm23 an23 cd23 ct23), sl23⟩)
    (c23 : PySem.W.codeIn K cd23 "_law_due" = true)
    (k23 : PySem.W.keepIn K (.ref f23) = true)
    (a24 : PySem.W.nsIn K mainGlobals "_law_done" = some (some (.ref f24)))
    (l24 : K.lookup f24 = some ⟨oc24, od24, .func (PySem.W.fnOf "_law_done" "_law_done" (defArgs s_l_done) (defBody s_l_done) (defScope s_l_done) .none kV24 dc24 pm24 an24 cd24 ct24), sl24⟩)
    (c24 : PySem.W.codeIn K cd24 "_law_done" = true)
    (k24 : PySem.W.keepIn K (.ref f24) = true)
    (a25 : PySem.W.nsIn K mainGlobals "_law_refusal" = some (some (.ref f25)))
    (l25 : K.lookup f25 = some ⟨oc25, od25, .func (PySem.W.fnOf "_law_refusal" "_law_refusal" (defArgs s_l_refusal) (defBody s_l_refusal) (defScope s_l_refusal) .none kV25 dc25 pm25 an25 cd25 ct25), sl25⟩)
    (c25 : PySem.W.codeIn K cd25 "_law_refusal" = true)
    (k25 : PySem.W.keepIn K (.ref f25) = true)
    (a26 : PySem.W.nsIn K mainGlobals "_law_text" = some (some (.ref f26)))
    (l26 : K.lookup f26 = some ⟨oc26, od26, .func (PySem.W.fnOf "_law_text" "_law_text" (defArgs s_l_text) (defBody s_l_text) (defScope s_l_text) .none kV26 dc26 pm26 an26 cd26 ct26), sl26⟩)
    (c26 : PySem.W.codeIn K cd26 "_law_text" = true)
    (k26 : PySem.W.keepIn K (.ref f26) = true)
    (a27 : PySem.W.nsIn K mainGlobals "law" = some (some (.ref f27)))
    (l27 : K.lookup f27 = some ⟨oc27, od27, .func (PySem.W.fnOf "law" "law" (defArgs s_law) (defBody s_law) (defScope s_law) .none kV27 dc27 pm27 an27 cd27 ct27), sl27⟩)
    (c27 : PySem.W.codeIn K cd27 "law" = true)
    (k27 : PySem.W.keepIn K (.ref f27) = true)
    (z_len : PySem.W.nsIn K mainGlobals "len" = some none)
    (z_range : PySem.W.nsIn K mainGlobals "range" = some none)
    (z_isinstance : PySem.W.nsIn K mainGlobals "isinstance" = some none)
    (z_int : PySem.W.nsIn K mainGlobals "int" = some none)
    (z_list : PySem.W.nsIn K mainGlobals "list" = some none)
    (z_tuple : PySem.W.nsIn K mainGlobals "tuple" = some none)
    (z_str : PySem.W.nsIn K mainGlobals "str" = some none)
    (z_dict : PySem.W.nsIn K mainGlobals "dict" = some none)
    (z_bool : PySem.W.nsIn K mainGlobals "bool" = some none)
    (z_all : PySem.W.nsIn K mainGlobals "all" = some none)
    (z_max : PySem.W.nsIn K mainGlobals "max" = some none)
    (z_min : PySem.W.nsIn K mainGlobals "min" = some none)
    (z_sorted : PySem.W.nsIn K mainGlobals "sorted" = some none)
    (z_reversed : PySem.W.nsIn K mainGlobals "reversed" = some none)
    (n_MOST_RULES : PySem.W.nsIn K mainGlobals "MOST_RULES" = some (some (.int 40 tk_MOST_RULES)))
    (n_MOST_SIGNS : PySem.W.nsIn K mainGlobals "MOST_SIGNS" = some (some (.int 40 tk_MOST_SIGNS)))
    (n_MOST_LETTERS : PySem.W.nsIn K mainGlobals "MOST_LETTERS" = some (some (.int 12 tk_MOST_LETTERS)))
    (n_LETTERS : PySem.W.nsIn K mainGlobals "LETTERS" = some (some (.str (PySem.Str.ofString "abcdefghijklmnopqrstuvwxyz") tk_LETTERS)))
    (n_SIGNS : PySem.W.nsIn K mainGlobals "SIGNS" = some (some (.str (PySem.Str.ofString " !\"#$&'()*+,-./0123456789:;<=>?@ABCDEFGHIJKLMNOPQRSTUVWXYZ[\\]^_`abcdefghijklmnopqrstuvwxyz{|}~") tk_SIGNS)))
    (e_BadRule : PySem.W.nsIn K mainGlobals "BadRule" = some (some (.ref C_BadRule)))
    (x_BadRule : PySem.W.excIn K C_BadRule [.type "ValueError", .type "Exception", .type "BaseException", .type "object"] "ValueError.__new__" = true)
    (y_BadRule : PySem.W.keepIn K (.ref C_BadRule) = true)
    (u_BadRule : PySem.W.subIn K (.ref C_BadRule) (.type "BaseException") = some true)
    (v_BadRule : PySem.W.typeIn K (.ref C_BadRule) = some (.type "type"))
    (e_NoName : PySem.W.nsIn K mainGlobals "NoName" = some (some (.ref C_NoName)))
    (x_NoName : PySem.W.excIn K C_NoName [.type "ValueError", .type "Exception", .type "BaseException", .type "object"] "ValueError.__new__" = true)
    (y_NoName : PySem.W.keepIn K (.ref C_NoName) = true)
    (u_NoName : PySem.W.subIn K (.ref C_NoName) (.type "BaseException") = some true)
    (v_NoName : PySem.W.typeIn K (.ref C_NoName) = some (.type "type"))
    (e_Endless : PySem.W.nsIn K mainGlobals "Endless" = some (some (.ref C_Endless)))
    (x_Endless : PySem.W.excIn K C_Endless [.type "ValueError", .type "Exception", .type "BaseException", .type "object"] "ValueError.__new__" = true)
    (y_Endless : PySem.W.keepIn K (.ref C_Endless) = true)
    (u_Endless : PySem.W.subIn K (.ref C_Endless) (.type "BaseException") = some true)
    (v_Endless : PySem.W.typeIn K (.ref C_Endless) = some (.type "type"))
    (e_BadText : PySem.W.nsIn K mainGlobals "BadText" = some (some (.ref C_BadText)))
    (x_BadText : PySem.W.excIn K C_BadText [.type "ValueError", .type "Exception", .type "BaseException", .type "object"] "ValueError.__new__" = true)
    (y_BadText : PySem.W.keepIn K (.ref C_BadText) = true)
    (u_BadText : PySem.W.subIn K (.ref C_BadText) (.type "BaseException") = some true)
    (v_BadText : PySem.W.typeIn K (.ref C_BadText) = some (.type "type"))
    (e_BadDeeds : PySem.W.nsIn K mainGlobals "BadDeeds" = some (some (.ref C_BadDeeds)))
    (x_BadDeeds : PySem.W.excIn K C_BadDeeds [.type "ValueError", .type "Exception", .type "BaseException", .type "object"] "ValueError.__new__" = true)
    (y_BadDeeds : PySem.W.keepIn K (.ref C_BadDeeds) = true)
    (u_BadDeeds : PySem.W.subIn K (.ref C_BadDeeds) (.type "BaseException") = some true)
    (v_BadDeeds : PySem.W.typeIn K (.ref C_BadDeeds) = some (.type "type"))
    (e_MendError : PySem.W.nsIn K mainGlobals "MendError" = some (some (.ref C_MendError)))
    (z_VE0 : PySem.W.nsIn K mainGlobals "ValueError" = some none)
    (hn0 : PySem.W.specialIn K (.builtin "object.__class__") "__get__" = some (some (.builtin "getset_descriptor.__get__")))
    (ht0 : PySem.W.takesIn K (.builtin "object.__class__") = some true)
    (hg_BadRule : PySem.W.findIn K (.ref C_BadRule) "__getattribute__" = some (some (.builtin "BaseException.__getattribute__")))
    (hk_BadRule : PySem.W.findIn K (.ref C_BadRule) "__getattr__" = some none)
    (hs_BadRule : PySem.W.subIn K (.ref C_BadRule) (.type "BaseException") = some true)
    (hd_BadRule : PySem.W.hasDictIn K C_BadRule = true)
    (ha_BadRule : PySem.W.findIn K (.ref C_BadRule) "__class__" = some (some (.builtin "object.__class__")))
    (hm_BadRule : PySem.W.mroIn K C_BadRule (.type "object") = some true)
    (q_BadRule : PySem.W.exmOne K (.ref C_BadRule) (.ref C_MendError) = some true)
    (w_BadRule : PySem.W.kitOne K (.ref C_BadRule) (.type "ValueError") = some true)
    (p_BadRule_BadRule : PySem.W.kitOne K (.ref C_BadRule) (.ref C_BadRule) = some true)
    (p_BadRule_NoName : PySem.W.kitOne K (.ref C_BadRule) (.ref C_NoName) = some false)
    (p_BadRule_Endless : PySem.W.kitOne K (.ref C_BadRule) (.ref C_Endless) = some false)
    (p_BadRule_BadText : PySem.W.kitOne K (.ref C_BadRule) (.ref C_BadText) = some false)
    (p_BadRule_BadDeeds : PySem.W.kitOne K (.ref C_BadRule) (.ref C_BadDeeds) = some false)
    (hg_NoName : PySem.W.findIn K (.ref C_NoName) "__getattribute__" = some (some (.builtin "BaseException.__getattribute__")))
    (hk_NoName : PySem.W.findIn K (.ref C_NoName) "__getattr__" = some none)
    (hs_NoName : PySem.W.subIn K (.ref C_NoName) (.type "BaseException") = some true)
    (hd_NoName : PySem.W.hasDictIn K C_NoName = true)
    (ha_NoName : PySem.W.findIn K (.ref C_NoName) "__class__" = some (some (.builtin "object.__class__")))
    (hm_NoName : PySem.W.mroIn K C_NoName (.type "object") = some true)
    (q_NoName : PySem.W.exmOne K (.ref C_NoName) (.ref C_MendError) = some true)
    (w_NoName : PySem.W.kitOne K (.ref C_NoName) (.type "ValueError") = some true)
    (p_NoName_BadRule : PySem.W.kitOne K (.ref C_NoName) (.ref C_BadRule) = some false)
    (p_NoName_NoName : PySem.W.kitOne K (.ref C_NoName) (.ref C_NoName) = some true)
    (p_NoName_Endless : PySem.W.kitOne K (.ref C_NoName) (.ref C_Endless) = some false)
    (p_NoName_BadText : PySem.W.kitOne K (.ref C_NoName) (.ref C_BadText) = some false)
    (p_NoName_BadDeeds : PySem.W.kitOne K (.ref C_NoName) (.ref C_BadDeeds) = some false)
    (hg_Endless : PySem.W.findIn K (.ref C_Endless) "__getattribute__" = some (some (.builtin "BaseException.__getattribute__")))
    (hk_Endless : PySem.W.findIn K (.ref C_Endless) "__getattr__" = some none)
    (hs_Endless : PySem.W.subIn K (.ref C_Endless) (.type "BaseException") = some true)
    (hd_Endless : PySem.W.hasDictIn K C_Endless = true)
    (ha_Endless : PySem.W.findIn K (.ref C_Endless) "__class__" = some (some (.builtin "object.__class__")))
    (hm_Endless : PySem.W.mroIn K C_Endless (.type "object") = some true)
    (q_Endless : PySem.W.exmOne K (.ref C_Endless) (.ref C_MendError) = some true)
    (w_Endless : PySem.W.kitOne K (.ref C_Endless) (.type "ValueError") = some true)
    (p_Endless_BadRule : PySem.W.kitOne K (.ref C_Endless) (.ref C_BadRule) = some false)
    (p_Endless_NoName : PySem.W.kitOne K (.ref C_Endless) (.ref C_NoName) = some false)
    (p_Endless_Endless : PySem.W.kitOne K (.ref C_Endless) (.ref C_Endless) = some true)
    (p_Endless_BadText : PySem.W.kitOne K (.ref C_Endless) (.ref C_BadText) = some false)
    (p_Endless_BadDeeds : PySem.W.kitOne K (.ref C_Endless) (.ref C_BadDeeds) = some false)
    (hg_BadText : PySem.W.findIn K (.ref C_BadText) "__getattribute__" = some (some (.builtin "BaseException.__getattribute__")))
    (hk_BadText : PySem.W.findIn K (.ref C_BadText) "__getattr__" = some none)
    (hs_BadText : PySem.W.subIn K (.ref C_BadText) (.type "BaseException") = some true)
    (hd_BadText : PySem.W.hasDictIn K C_BadText = true)
    (ha_BadText : PySem.W.findIn K (.ref C_BadText) "__class__" = some (some (.builtin "object.__class__")))
    (hm_BadText : PySem.W.mroIn K C_BadText (.type "object") = some true)
    (q_BadText : PySem.W.exmOne K (.ref C_BadText) (.ref C_MendError) = some true)
    (w_BadText : PySem.W.kitOne K (.ref C_BadText) (.type "ValueError") = some true)
    (p_BadText_BadRule : PySem.W.kitOne K (.ref C_BadText) (.ref C_BadRule) = some false)
    (p_BadText_NoName : PySem.W.kitOne K (.ref C_BadText) (.ref C_NoName) = some false)
    (p_BadText_Endless : PySem.W.kitOne K (.ref C_BadText) (.ref C_Endless) = some false)
    (p_BadText_BadText : PySem.W.kitOne K (.ref C_BadText) (.ref C_BadText) = some true)
    (p_BadText_BadDeeds : PySem.W.kitOne K (.ref C_BadText) (.ref C_BadDeeds) = some false)
    (hg_BadDeeds : PySem.W.findIn K (.ref C_BadDeeds) "__getattribute__" = some (some (.builtin "BaseException.__getattribute__")))
    (hk_BadDeeds : PySem.W.findIn K (.ref C_BadDeeds) "__getattr__" = some none)
    (hs_BadDeeds : PySem.W.subIn K (.ref C_BadDeeds) (.type "BaseException") = some true)
    (hd_BadDeeds : PySem.W.hasDictIn K C_BadDeeds = true)
    (ha_BadDeeds : PySem.W.findIn K (.ref C_BadDeeds) "__class__" = some (some (.builtin "object.__class__")))
    (hm_BadDeeds : PySem.W.mroIn K C_BadDeeds (.type "object") = some true)
    (q_BadDeeds : PySem.W.exmOne K (.ref C_BadDeeds) (.ref C_MendError) = some true)
    (w_BadDeeds : PySem.W.kitOne K (.ref C_BadDeeds) (.type "ValueError") = some true)
    (p_BadDeeds_BadRule : PySem.W.kitOne K (.ref C_BadDeeds) (.ref C_BadRule) = some false)
    (p_BadDeeds_NoName : PySem.W.kitOne K (.ref C_BadDeeds) (.ref C_NoName) = some false)
    (p_BadDeeds_Endless : PySem.W.kitOne K (.ref C_BadDeeds) (.ref C_Endless) = some false)
    (p_BadDeeds_BadText : PySem.W.kitOne K (.ref C_BadDeeds) (.ref C_BadText) = some false)
    (p_BadDeeds_BadDeeds : PySem.W.kitOne K (.ref C_BadDeeds) (.ref C_BadDeeds) = some true)
    : ∃ fd : FuncData, (∀ (s : Shared) (v : Value), BindsTo s fd ⟨[v], []⟩ [("_law_script", v)]) ∧ ∀ base : Heap, K.In base → base.Ns mainGlobals mg → FnOk P w K mg base CX0 8 fa fd ["_law_script"] (mkSp K (phi_law E00)) := by
  have e := hfa.symm.trans (PySem.W.mg_of X G a27)
  cases e
  have T : Bi mg := ⟨PySem.W.mg_none_of X G z_len, PySem.W.mg_none_of X G z_range, PySem.W.mg_none_of X G z_isinstance, PySem.W.mg_none_of X G z_int, PySem.W.mg_none_of X G z_list, PySem.W.mg_none_of X G z_tuple, PySem.W.mg_none_of X G z_str, PySem.W.mg_none_of X G z_dict, PySem.W.mg_none_of X G z_bool, PySem.W.mg_none_of X G z_all, PySem.W.mg_none_of X G z_max, PySem.W.mg_none_of X G z_min, PySem.W.mg_none_of X G z_sorted, PySem.W.mg_none_of X G z_reversed⟩
  have C_MOST_RULES : ∃ u, mg "MOST_RULES" = some u ∧ RelV (.int 40) u := ⟨_, PySem.W.mg_of X G n_MOST_RULES, ⟨_, rfl⟩⟩
  have C_MOST_SIGNS : ∃ u, mg "MOST_SIGNS" = some u ∧ RelV (.int 40) u := ⟨_, PySem.W.mg_of X G n_MOST_SIGNS, ⟨_, rfl⟩⟩
  have C_MOST_LETTERS : ∃ u, mg "MOST_LETTERS" = some u ∧ RelV (.int 12) u := ⟨_, PySem.W.mg_of X G n_MOST_LETTERS, ⟨_, rfl⟩⟩
  have C_LETTERS : ∃ u, mg "LETTERS" = some u ∧ RelV (.str (mk lettersL)) u := ⟨_, PySem.W.mg_of X G n_LETTERS, ⟨_, by rw [show PySem.Str.ofString "abcdefghijklmnopqrstuvwxyz" = mk lettersL by decide +kernel]⟩⟩
  have C_SIGNS : ∃ u, mg "SIGNS" = some u ∧ RelV (.str (mk signsL)) u := ⟨_, PySem.W.mg_of X G n_SIGNS, ⟨_, by rw [show PySem.Str.ofString " !\"#$&'()*+,-./0123456789:;<=>?@ABCDEFGHIJKLMNOPQRSTUVWXYZ[\\]^_`abcdefghijklmnopqrstuvwxyz{|}~" = mk signsL by decide +kernel]⟩⟩
  have X_BadRule : ExF K mg "BadRule" C_BadRule := ⟨PySem.W.mg_of X G e_BadRule, x_BadRule, y_BadRule, u_BadRule, v_BadRule⟩
  have X_NoName : ExF K mg "NoName" C_NoName := ⟨PySem.W.mg_of X G e_NoName, x_NoName, y_NoName, u_NoName, v_NoName⟩
  have X_Endless : ExF K mg "Endless" C_Endless := ⟨PySem.W.mg_of X G e_Endless, x_Endless, y_Endless, u_Endless, v_Endless⟩
  have X_BadText : ExF K mg "BadText" C_BadText := ⟨PySem.W.mg_of X G e_BadText, x_BadText, y_BadText, u_BadText, v_BadText⟩
  have X_BadDeeds : ExF K mg "BadDeeds" C_BadDeeds := ⟨PySem.W.mg_of X G e_BadDeeds, x_BadDeeds, y_BadDeeds, u_BadDeeds, v_BadDeeds⟩
  have X_MendError : mg "MendError" = some (.ref C_MendError) := PySem.W.mg_of X G e_MendError
  have z_VE : mg "ValueError" = none := PySem.W.mg_none_of X G z_VE0
  have XK : ErK K ⟨C_BadRule, C_NoName, C_Endless, C_BadText, C_BadDeeds, C_MendError⟩ := ⟨all5 ⟨hg_BadRule, hk_BadRule, hs_BadRule, hd_BadRule, ha_BadRule, hn0, ht0, hm_BadRule⟩ ⟨hg_NoName, hk_NoName, hs_NoName, hd_NoName, ha_NoName, hn0, ht0, hm_NoName⟩ ⟨hg_Endless, hk_Endless, hs_Endless, hd_Endless, ha_Endless, hn0, ht0, hm_Endless⟩ ⟨hg_BadText, hk_BadText, hs_BadText, hd_BadText, ha_BadText, hn0, ht0, hm_BadText⟩ ⟨hg_BadDeeds, hk_BadDeeds, hs_BadDeeds, hd_BadDeeds, ha_BadDeeds, hn0, ht0, hm_BadDeeds⟩, all5 q_BadRule q_NoName q_Endless q_BadText q_BadDeeds, all5 w_BadRule w_NoName w_Endless w_BadText w_BadDeeds, all5 (all5 p_BadRule_BadRule p_BadRule_NoName p_BadRule_Endless p_BadRule_BadText p_BadRule_BadDeeds) (all5 p_NoName_BadRule p_NoName_NoName p_NoName_Endless p_NoName_BadText p_NoName_BadDeeds) (all5 p_Endless_BadRule p_Endless_NoName p_Endless_Endless p_Endless_BadText p_Endless_BadDeeds) (all5 p_BadText_BadRule p_BadText_NoName p_BadText_Endless p_BadText_BadText p_BadText_BadDeeds) (all5 p_BadDeeds_BadRule p_BadDeeds_NoName p_BadDeeds_Endless p_BadDeeds_BadText p_BadDeeds_BadDeeds)⟩
  refine ⟨PySem.W.fnOf "law" "law" (defArgs s_law) (defBody s_law) (defScope s_law) .none kV27 dc27 pm27 an27 cd27 ct27, fun s v => .of_eq rfl, fun base _ _ => ?_⟩
  have F0 := fun_mk (st := s_is_sign) l0 c0 k0
  have F1 := fun_mk (st := s_is_name) l1 c1 k1
  have F2 := fun_mk (st := s_is_rule) l2 c2 k2
  have F3 := fun_mk (st := s_names_of) l3 c3 k3
  have F4 := fun_mk (st := s_telling) l4 c4 k4
  have F5 := fun_mk (st := s_need_rules) l5 c5 k5
  have F6 := fun_mk (st := s_need_text) l6 c6 k6
  have F7 := fun_mk (st := s_leaf_cost) l7 c7 k7
  have F8 := fun_mk (st := s_rule_cost) l8 c8 k8
  have F9 := fun_mk (st := s_fill) l9 c9 k9
  have F10 := fun_mk (st := s_table_of) l10 c10 k10
  have F11 := fun_mk (st := s_costs) l11 c11 k11
  have F12 := fun_mk (st := s_shortest) l12 c12 k12
  have F13 := fun_mk (st := s_kept_place) l13 c13 k13
  have F14 := fun_mk (st := s_choice) l14 c14 k14
  have F15 := fun_mk (st := s_told_tree) l15 c15 k15
  have F16 := fun_mk (st := s_mend) l16 c16 k16
  have F17 := fun_mk (st := s_reads) l17 c17 k17
  have F18 := fun_mk (st := s_l_at) l18 c18 k18
  have F19 := fun_mk (st := s_l_word) l19 c19 k19
  have F20 := fun_mk (st := s_l_rules) l20 c20 k20
  have F21 := fun_mk (st := s_l_spoilt) l21 c21 k21
  have F22 := fun_mk (st := s_l_good_rule) l22 c22 k22
  have F23 := fun_mk (st := s_l_due) l23 c23 k23
  have F24 := fun_mk (st := s_l_done) l24 c24 k24
  have F25 := fun_mk (st := s_l_refusal) l25 c25 k25
  have F26 := fun_mk (st := s_l_text) l26 c26 k26
  have F27 := fun_mk (st := s_law) l27 c27 k27
  have G_is_sign := ok_is_sign (P := P) (w := w) (base := base) (C := ⟨C_BadRule, C_NoName, C_Endless, C_BadText, C_BadDeeds, C_MendError⟩) F0 (PySem.W.mg_of X G a0) T C_SIGNS
  have G_is_name := ok_is_name (P := P) (w := w) (base := base) (C := ⟨C_BadRule, C_NoName, C_Endless, C_BadText, C_BadDeeds, C_MendError⟩) F1 (PySem.W.mg_of X G a1) T C_LETTERS C_MOST_LETTERS
  have G_names_of := ok_names_of (P := P) (w := w) (base := base) (C := ⟨C_BadRule, C_NoName, C_Endless, C_BadText, C_BadDeeds, C_MendError⟩) F3 (PySem.W.mg_of X G a3) T
  have G_telling := ok_telling (P := P) (w := w) (base := base) (C := ⟨C_BadRule, C_NoName, C_Endless, C_BadText, C_BadDeeds, C_MendError⟩) F4 (PySem.W.mg_of X G a4) T
  have G_leaf_cost := ok_leaf_cost (P := P) (w := w) (base := base) (C := ⟨C_BadRule, C_NoName, C_Endless, C_BadText, C_BadDeeds, C_MendError⟩) F7 (PySem.W.mg_of X G a7) T
  have G_kept_place := ok_kept_place (P := P) (w := w) (base := base) (C := ⟨C_BadRule, C_NoName, C_Endless, C_BadText, C_BadDeeds, C_MendError⟩) F13 (PySem.W.mg_of X G a13) T
  have G_l_at := ok_l_at (P := P) (w := w) (base := base) (C := ⟨C_BadRule, C_NoName, C_Endless, C_BadText, C_BadDeeds, C_MendError⟩) F18 (PySem.W.mg_of X G a18) T
  have G_l_word := ok_l_word (P := P) (w := w) (base := base) (C := ⟨C_BadRule, C_NoName, C_Endless, C_BadText, C_BadDeeds, C_MendError⟩) F19 (PySem.W.mg_of X G a19) T
  have G_l_good_rule := ok_l_good_rule (P := P) (w := w) (base := base) (C := ⟨C_BadRule, C_NoName, C_Endless, C_BadText, C_BadDeeds, C_MendError⟩) F22 (PySem.W.mg_of X G a22) T
  have G_l_text := ok_l_text (P := P) (w := w) (base := base) (C := ⟨C_BadRule, C_NoName, C_Endless, C_BadText, C_BadDeeds, C_MendError⟩) F26 (PySem.W.mg_of X G a26) T
  have G_is_rule := ok_is_rule (P := P) (w := w) (base := base) (C := ⟨C_BadRule, C_NoName, C_Endless, C_BadText, C_BadDeeds, C_MendError⟩) F2 (PySem.W.mg_of X G a2) T G_is_name G_is_sign
  have G_need_text := ok_need_text (P := P) (w := w) (base := base) (C := ⟨C_BadRule, C_NoName, C_Endless, C_BadText, C_BadDeeds, C_MendError⟩) F6 (PySem.W.mg_of X G a6) T C_MOST_SIGNS X_BadText G_is_sign
  have G_rule_cost := ok_rule_cost (P := P) (w := w) (base := base) (C := ⟨C_BadRule, C_NoName, C_Endless, C_BadText, C_BadDeeds, C_MendError⟩) F8 (PySem.W.mg_of X G a8) T G_leaf_cost
  have G_choice := ok_choice (P := P) (w := w) (base := base) (C := ⟨C_BadRule, C_NoName, C_Endless, C_BadText, C_BadDeeds, C_MendError⟩) F14 (PySem.W.mg_of X G a14) T G_leaf_cost
  have G_l_rules := ok_l_rules (P := P) (w := w) (base := base) (C := ⟨C_BadRule, C_NoName, C_Endless, C_BadText, C_BadDeeds, C_MendError⟩) F20 (PySem.W.mg_of X G a20) T G_l_at G_l_word
  have G_l_spoilt := ok_l_spoilt (P := P) (w := w) (base := base) (C := ⟨C_BadRule, C_NoName, C_Endless, C_BadText, C_BadDeeds, C_MendError⟩) F21 (PySem.W.mg_of X G a21) T G_l_word
  have G_l_due := ok_l_due (P := P) (w := w) (base := base) (C := ⟨C_BadRule, C_NoName, C_Endless, C_BadText, C_BadDeeds, C_MendError⟩) F23 (PySem.W.mg_of X G a23) T G_l_good_rule
  have G_need_rules := ok_need_rules (P := P) (w := w) (base := base) (C := ⟨C_BadRule, C_NoName, C_Endless, C_BadText, C_BadDeeds, C_MendError⟩) F5 (PySem.W.mg_of X G a5) T C_MOST_RULES X_BadRule X_Endless X_NoName G_is_rule G_names_of G_telling
  have G_fill := ok_fill (P := P) (w := w) (base := base) (C := ⟨C_BadRule, C_NoName, C_Endless, C_BadText, C_BadDeeds, C_MendError⟩) F9 (PySem.W.mg_of X G a9) T G_rule_cost
  have G_told_tree := ok_told_tree (P := P) (w := w) (base := base) (C := ⟨C_BadRule, C_NoName, C_Endless, C_BadText, C_BadDeeds, C_MendError⟩) F15 (PySem.W.mg_of X G a15) T G_choice G_kept_place
  have G_table_of := ok_table_of (P := P) (w := w) (base := base) (C := ⟨C_BadRule, C_NoName, C_Endless, C_BadText, C_BadDeeds, C_MendError⟩) F10 (PySem.W.mg_of X G a10) T G_fill
  have G_costs := ok_costs (P := P) (w := w) (base := base) (C := ⟨C_BadRule, C_NoName, C_Endless, C_BadText, C_BadDeeds, C_MendError⟩) F11 (PySem.W.mg_of X G a11) T G_need_rules G_need_text G_table_of
  have G_shortest := ok_shortest (P := P) (w := w) (base := base) (C := ⟨C_BadRule, C_NoName, C_Endless, C_BadText, C_BadDeeds, C_MendError⟩) F12 (PySem.W.mg_of X G a12) T G_names_of G_need_rules G_table_of
  have G_mend := ok_mend (P := P) (w := w) (base := base) (C := ⟨C_BadRule, C_NoName, C_Endless, C_BadText, C_BadDeeds, C_MendError⟩) F16 (PySem.W.mg_of X G a16) T G_need_rules G_need_text G_table_of G_told_tree
  have G_reads := ok_reads (P := P) (w := w) (base := base) (C := ⟨C_BadRule, C_NoName, C_Endless, C_BadText, C_BadDeeds, C_MendError⟩) F17 (PySem.W.mg_of X G a17) T G_need_rules G_need_text G_table_of
  have G_l_done := ok_l_done (P := P) (w := w) (base := base) (C := ⟨C_BadRule, C_NoName, C_Endless, C_BadText, C_BadDeeds, C_MendError⟩) F24 (PySem.W.mg_of X G a24) T G_costs G_mend G_need_rules G_need_text G_reads G_shortest
  have G_l_refusal := ok_l_refusal (P := P) (w := w) (base := base) (C := ⟨C_BadRule, C_NoName, C_Endless, C_BadText, C_BadDeeds, C_MendError⟩) F25 (PySem.W.mg_of X G a25) T X_BadDeeds X_BadRule X_BadText X_Endless X_NoName X_MendError XK z_VE G_l_done
  exact fo_law (C := ⟨C_BadRule, C_NoName, C_Endless, C_BadText, C_BadDeeds, C_MendError⟩) F27 T G_l_at G_l_due G_l_refusal G_l_rules G_l_spoilt G_l_text G_need_rules G_need_text
theorem law_sp (K : PySem.W.Frag) (H : Hp) (a : Addr) (ns : List Int) (hl : ns.length ≤ 63) (hO : Only H) (h : SqL K H a (ns.map V.int)) : mkSp K (phi_law E00) [.ref a] H (fun v _ => v = .bl true) fun _ _ _ => False := by
  refine ⟨[.scr ns], H, fun r => r = .sh (.bl true), fun _ => False, .cons (.scr h) .nil, Same.refl _, phi_law_of ns hl, fun r e v S' H' _ _ _ _ q => ?_, fun _ x => x.elim⟩
  subst e
  cases q
  rfl
end PL
open PySem PySem.W PyProof.Rows
set_option maxHeartbeats 0 in
theorem PySem.Challenge.cw_mendread_k02_grammars_refused_holds : PySem.Challenge.rw_mendread_k02_grammars_refused.Holds := by
  w_on; o_law; k_head; (case hw => w_witness2)
  k_fill
  refine L2.walk_ofK (l := PySem.Challenge.rw_mendread_k02_grammars_refused) (n := 63) (k := 8) (x := "_law_script") (CX := L2.CX0) (sp := fun K => PL.mkSp K (PL.phi_law PL.E00)) rfl (by decide) rfl ⟨rfl, by decide, by decide⟩ (fun w h Y => PySem.W.kIn_of Y) ?F PL.law_sp (fun _ _ _ _ h => h)
  case F =>
    intro w mg fa h KX G hmg
    refine' PL.all_mk KX G hmg ?a0 ?l0 ?c0 ?k0 ?a1 ?l1 ?c1 ?k1 ?a2 ?l2 ?c2 ?k2 ?a3 ?l3 ?c3 ?k3 ?a4 ?l4 ?c4 ?k4 ?a5 ?l5 ?c5 ?k5 ?a6 ?l6 ?c6 ?k6 ?a7 ?l7 ?c7 ?k7 ?a8 ?l8 ?c8 ?k8 ?a9 ?l9 ?c9 ?k9 ?a10 ?l10 ?c10 ?k10 ?a11 ?l11 ?c11 ?k11 ?a12 ?l12 ?c12 ?k12 ?a13 ?l13 ?c13 ?k13 ?a14 ?l14 ?c14 ?k14 ?a15 ?l15 ?c15 ?k15 ?a16 ?l16 ?c16 ?k16 ?a17 ?l17 ?c17 ?k17 ?a18 ?l18 ?c18 ?k18 ?a19 ?l19 ?c19 ?k19 ?a20 ?l20 ?c20 ?k20 ?a21 ?l21 ?c21 ?k21 ?a22 ?l22 ?c22 ?k22 ?a23 ?l23 ?c23 ?k23 ?a24 ?l24 ?c24 ?k24 ?a25 ?l25 ?c25 ?k25 ?a26 ?l26 ?c26 ?k26 ?a27 ?l27 ?c27 ?k27 ?z_len ?z_range ?z_isinstance ?z_int ?z_list ?z_tuple ?z_str ?z_dict ?z_bool ?z_all ?z_max ?z_min ?z_sorted ?z_reversed ?n_MOST_RULES ?n_MOST_SIGNS ?n_MOST_LETTERS ?n_LETTERS ?n_SIGNS ?e_BadRule ?x_BadRule ?y_BadRule ?u_BadRule ?v_BadRule ?e_NoName ?x_NoName ?y_NoName ?u_NoName ?v_NoName ?e_Endless ?x_Endless ?y_Endless ?u_Endless ?v_Endless ?e_BadText ?x_BadText ?y_BadText ?u_BadText ?v_BadText ?e_BadDeeds ?x_BadDeeds ?y_BadDeeds ?u_BadDeeds ?v_BadDeeds ?e_MendError ?z_VE0 ?hn0 ?ht0 ?hg_BadRule ?hk_BadRule ?hs_BadRule ?hd_BadRule ?ha_BadRule ?hm_BadRule ?q_BadRule ?w_BadRule ?p_BadRule_BadRule ?p_BadRule_NoName ?p_BadRule_Endless ?p_BadRule_BadText ?p_BadRule_BadDeeds ?hg_NoName ?hk_NoName ?hs_NoName ?hd_NoName ?ha_NoName ?hm_NoName ?q_NoName ?w_NoName ?p_NoName_BadRule ?p_NoName_NoName ?p_NoName_Endless ?p_NoName_BadText ?p_NoName_BadDeeds ?hg_Endless ?hk_Endless ?hs_Endless ?hd_Endless ?ha_Endless ?hm_Endless ?q_Endless ?w_Endless ?p_Endless_BadRule ?p_Endless_NoName ?p_Endless_Endless ?p_Endless_BadText ?p_Endless_BadDeeds ?hg_BadText ?hk_BadText ?hs_BadText ?hd_BadText ?ha_BadText ?hm_BadText ?q_BadText ?w_BadText ?p_BadText_BadRule ?p_BadText_NoName ?p_BadText_Endless ?p_BadText_BadText ?p_BadText_BadDeeds ?hg_BadDeeds ?hk_BadDeeds ?hs_BadDeeds ?hd_BadDeeds ?ha_BadDeeds ?hm_BadDeeds ?q_BadDeeds ?w_BadDeeds ?p_BadDeeds_BadRule ?p_BadDeeds_NoName ?p_BadDeeds_Endless ?p_BadDeeds_BadText ?p_BadDeeds_BadDeeds
    (case a0 => k_is)
    (case l0 => k_is)
    (case c0 => k_is)
    (case k0 => k_is)
    (case a1 => k_is)
    (case l1 => k_is)
    (case c1 => k_is)
    (case k1 => k_is)
    (case a2 => k_is)
    (case l2 => k_is)
    (case c2 => k_is)
    (case k2 => k_is)
    (case a3 => k_is)
    (case l3 => k_is)
    (case c3 => k_is)
    (case k3 => k_is)
    (case a4 => k_is)
    (case l4 => k_is)
    (case c4 => k_is)
    (case k4 => k_is)
    (case a5 => k_is)
    (case l5 => k_is)
    (case c5 => k_is)
    (case k5 => k_is)
    (case a6 => k_is)
    (case l6 => k_is)
    (case c6 => k_is)
    (case k6 => k_is)
    (case a7 => k_is)
    (case l7 => k_is)
    (case c7 => k_is)
    (case k7 => k_is)
    (case a8 => k_is)
    (case l8 => k_is)
    (case c8 => k_is)
    (case k8 => k_is)
    (case a9 => k_is)
    (case l9 => k_is)
    (case c9 => k_is)
    (case k9 => k_is)
    (case a10 => k_is)
    (case l10 => k_is)
    (case c10 => k_is)
    (case k10 => k_is)
    (case a11 => k_is)
    (case l11 => k_is)
    (case c11 => k_is)
    (case k11 => k_is)
    (case a12 => k_is)
    (case l12 => k_is)
    (case c12 => k_is)
    (case k12 => k_is)
    (case a13 => k_is)
    (case l13 => k_is)
    (case c13 => k_is)
    (case k13 => k_is)
    (case a14 => k_is)
    (case l14 => k_is)
    (case c14 => k_is)
    (case k14 => k_is)
    (case a15 => k_is)
    (case l15 => k_is)
    (case c15 => k_is)
    (case k15 => k_is)
    (case a16 => k_is)
    (case l16 => k_is)
    (case c16 => k_is)
    (case k16 => k_is)
    (case a17 => k_is)
    (case l17 => k_is)
    (case c17 => k_is)
    (case k17 => k_is)
    (case a18 => k_is)
    (case l18 => k_is)
    (case c18 => k_is)
    (case k18 => k_is)
    (case a19 => k_is)
    (case l19 => k_is)
    (case c19 => k_is)
    (case k19 => k_is)
    (case a20 => k_is)
    (case l20 => k_is)
    (case c20 => k_is)
    (case k20 => k_is)
    (case a21 => k_is)
    (case l21 => k_is)
    (case c21 => k_is)
    (case k21 => k_is)
    (case a22 => k_is)
    (case l22 => k_is)
    (case c22 => k_is)
    (case k22 => k_is)
    (case a23 => k_is)
    (case l23 => k_is)
    (case c23 => k_is)
    (case k23 => k_is)
    (case a24 => k_is)
    (case l24 => k_is)
    (case c24 => k_is)
    (case k24 => k_is)
    (case a25 => k_is)
    (case l25 => k_is)
    (case c25 => k_is)
    (case k25 => k_is)
    (case a26 => k_is)
    (case l26 => k_is)
    (case c26 => k_is)
    (case k26 => k_is)
    (case a27 => k_is)
    (case l27 => k_is)
    (case c27 => k_is)
    (case k27 => k_is)
    (case z_len => k_is)
    (case z_range => k_is)
    (case z_isinstance => k_is)
    (case z_int => k_is)
    (case z_list => k_is)
    (case z_tuple => k_is)
    (case z_str => k_is)
    (case z_dict => k_is)
    (case z_bool => k_is)
    (case z_all => k_is)
    (case z_max => k_is)
    (case z_min => k_is)
    (case z_sorted => k_is)
    (case z_reversed => k_is)
    (case n_MOST_RULES => k_is)
    (case n_MOST_SIGNS => k_is)
    (case n_MOST_LETTERS => k_is)
    (case n_LETTERS => k_is)
    (case n_SIGNS => k_is)
    (case e_BadRule => k_is)
    (case x_BadRule => k_exc)
    (case y_BadRule => k_is)
    (case u_BadRule => k_is)
    (case v_BadRule => k_is)
    (case e_NoName => k_is)
    (case x_NoName => k_exc)
    (case y_NoName => k_is)
    (case u_NoName => k_is)
    (case v_NoName => k_is)
    (case e_Endless => k_is)
    (case x_Endless => k_exc)
    (case y_Endless => k_is)
    (case u_Endless => k_is)
    (case v_Endless => k_is)
    (case e_BadText => k_is)
    (case x_BadText => k_exc)
    (case y_BadText => k_is)
    (case u_BadText => k_is)
    (case v_BadText => k_is)
    (case e_BadDeeds => k_is)
    (case x_BadDeeds => k_exc)
    (case y_BadDeeds => k_is)
    (case u_BadDeeds => k_is)
    (case v_BadDeeds => k_is)
    (case e_MendError => k_is)
    (case z_VE0 => k_is)
    (case hn0 => k_is)
    (case ht0 => k_is)
    (case hg_BadRule => k_is)
    (case hk_BadRule => k_is)
    (case hs_BadRule => k_is)
    (case hd_BadRule => k_is)
    (case ha_BadRule => k_is)
    (case hm_BadRule => k_is)
    (case q_BadRule => kts_exm)
    (case w_BadRule => kit_is)
    (case p_BadRule_BadRule => kit_is)
    (case p_BadRule_NoName => kit_is)
    (case p_BadRule_Endless => kit_is)
    (case p_BadRule_BadText => kit_is)
    (case p_BadRule_BadDeeds => kit_is)
    (case hg_NoName => k_is)
    (case hk_NoName => k_is)
    (case hs_NoName => k_is)
    (case hd_NoName => k_is)
    (case ha_NoName => k_is)
    (case hm_NoName => k_is)
    (case q_NoName => kts_exm)
    (case w_NoName => kit_is)
    (case p_NoName_BadRule => kit_is)
    (case p_NoName_NoName => kit_is)
    (case p_NoName_Endless => kit_is)
    (case p_NoName_BadText => kit_is)
    (case p_NoName_BadDeeds => kit_is)
    (case hg_Endless => k_is)
    (case hk_Endless => k_is)
    (case hs_Endless => k_is)
    (case hd_Endless => k_is)
    (case ha_Endless => k_is)
    (case hm_Endless => k_is)
    (case q_Endless => kts_exm)
    (case w_Endless => kit_is)
    (case p_Endless_BadRule => kit_is)
    (case p_Endless_NoName => kit_is)
    (case p_Endless_Endless => kit_is)
    (case p_Endless_BadText => kit_is)
    (case p_Endless_BadDeeds => kit_is)
    (case hg_BadText => k_is)
    (case hk_BadText => k_is)
    (case hs_BadText => k_is)
    (case hd_BadText => k_is)
    (case ha_BadText => k_is)
    (case hm_BadText => k_is)
    (case q_BadText => kts_exm)
    (case w_BadText => kit_is)
    (case p_BadText_BadRule => kit_is)
    (case p_BadText_NoName => kit_is)
    (case p_BadText_Endless => kit_is)
    (case p_BadText_BadText => kit_is)
    (case p_BadText_BadDeeds => kit_is)
    (case hg_BadDeeds => k_is)
    (case hk_BadDeeds => k_is)
    (case hs_BadDeeds => k_is)
    (case hd_BadDeeds => k_is)
    (case ha_BadDeeds => k_is)
    (case hm_BadDeeds => k_is)
    (case q_BadDeeds => kts_exm)
    (case w_BadDeeds => kit_is)
    (case p_BadDeeds_BadRule => kit_is)
    (case p_BadDeeds_NoName => kit_is)
    (case p_BadDeeds_Endless => kit_is)
    (case p_BadDeeds_BadText => kit_is)
    (case p_BadDeeds_BadDeeds => kit_is)

