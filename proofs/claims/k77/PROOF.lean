import PyProof.Rows.All
import Wide.All
import OpenK.AllK
import Wide.FinOn
import HandS.ForMost
import HandS.TupAny
import HandS.TupMul
import HandS.IsInst
import HandS.Walk
import HandS.Gcd
import HandS.RaiseMore
import HandS.NoneIn
import HandS.Zip
import HandS.ExcCtx
import HandS.ForExc
import HandS.CallSlots
import HandS.Defaults
import KE.KIntText
import KE.IntTextLaws
import PyProof.Rows.ReprOcc
import KE.KSuperObj
import KE.KSuper
import KE.KExcSuper
import HandS.ExcInit
import PySem.Challenge.RW_idealstold_k77_papers_refused
import HandS.Hot
import HandS.HotCalls
import HandS.Comp
import KE.KExcIs
import HandS.ExcField
import HandS.Words
import HandS.HeadHook1
import HandS.HeadHook2
import KE.KStateDown
import Lean
import HandS.Base
import HandS.Call
import HandS.Ends
import HandS.More
import HandS.WordsExc
import HandS.Head0
import HandS.Head1
import HandS.Head2
import HandS.HeadEnd
set_option Elab.async false
set_option linter.all false
set_option maxRecDepth 100000
set_option maxHeartbeats 4000000
/-! The data layer: values as plain data, slots that hold data or own a list, readings over these. -/
namespace DL
open PySem PySem.Spec PyProof.Rows L2

/-- plain data -/
inductive D where
  | non | bl (b : Bool) | int (i : Int) | str (s : List Nat) | tup (ds : List D) | lst (ds : List D) | scr (ds : List D)
  deriving Inhabited

mutual
def Rp (K : PySem.W.Frag) (F : Hp) : D → V → Prop
  | .non, v => v = .non
  | .bl b, v => v = .bl b
  | .int i, v => v = .int i
  | .str s, v => v = .str ⟨s.toArray⟩
  | .tup ds, v => ∃ a xs, v = .ref a ∧ SqT K F a xs ∧ RpL K F ds xs
  | .lst ds, v => ∃ a xs, v = .ref a ∧ F a = some (.lst xs) ∧ RpL K F ds xs
  | .scr ds, v => ∃ a xs, v = .ref a ∧ SqL K F a xs ∧ RpL K F ds xs
def RpL (K : PySem.W.Frag) (F : Hp) : List D → List V → Prop
  | [], vs => vs = []
  | d :: ds, vs => ∃ v r, vs = v :: r ∧ Rp K F d v ∧ RpL K F ds r
end

theorem Same.seqT {K : PySem.W.Frag} {H H' : Hp} {a : Addr} {xs : List V} (e : Same H H') (h : SqT K H a xs) : SqT K H' a xs := by
  rcases h with (h | ⟨o, h⟩) | h
  · exact .inl (.inl (e _ _ h))
  · exact .inl (.inr ⟨o, e _ _ h⟩)
  · exact .inr h

mutual
theorem Rp.mono {K : PySem.W.Frag} {F F' : Hp} (S : Same F F') : ∀ {d : D} {v : V}, Rp K F d v → Rp K F' d v
  | .non, _, h => h
  | .bl _, _, h => h
  | .int _, _, h => h
  | .str _, _, h => h
  | .tup ds, _, h => by
    obtain ⟨a, xs, e, q, r⟩ := h
    exact ⟨a, xs, e, Same.seqT S q, RpL.mono S r⟩
  | .lst ds, _, h => by
    obtain ⟨a, xs, e, q, r⟩ := h
    exact ⟨a, xs, e, S _ _ q, RpL.mono S r⟩
  | .scr ds, _, h => by
    obtain ⟨a, xs, e, q, r⟩ := h
    exact ⟨a, xs, e, S.seq q, RpL.mono S r⟩
theorem RpL.mono {K : PySem.W.Frag} {F F' : Hp} (S : Same F F') : ∀ {ds : List D} {vs : List V}, RpL K F ds vs → RpL K F' ds vs
  | [], _, h => h
  | d :: ds, _, h => by
    obtain ⟨v, r, e, q, t⟩ := h
    exact ⟨v, r, e, Rp.mono S q, RpL.mono S t⟩
end

section
variable {K : PySem.W.Frag} {F : Hp}
theorem RpL.length : ∀ {ds : List D} {vs : List V}, RpL K F ds vs → ds.length = vs.length
  | [], _, h => by cases h; rfl
  | d :: ds, _, h => by
    obtain ⟨v, r, rfl, _, t⟩ := h
    rw [List.length_cons, List.length_cons, RpL.length t]
theorem RpL.get : ∀ {ds : List D} {vs : List V} {i : Nat} {d : D}, RpL K F ds vs → ds[i]? = some d → ∃ v, vs[i]? = some v ∧ Rp K F d v
  | [], _, _, _, _, e => by simp at e
  | d :: ds, _, 0, x, h, e => by
    obtain ⟨v, r, rfl, q, t⟩ := h
    simp at e; subst e
    exact ⟨v, rfl, q⟩
  | d :: ds, _, i + 1, x, h, e => by
    obtain ⟨v, r, rfl, q, t⟩ := h
    obtain ⟨u, h1, h2⟩ := RpL.get (i := i) t (by simpa using e)
    exact ⟨u, by simpa using h1, h2⟩
theorem RpL.get' : ∀ {ds : List D} {vs : List V} {i : Nat} {v : V}, RpL K F ds vs → vs[i]? = some v → ∃ d, ds[i]? = some d ∧ Rp K F d v
  | [], _, _, _, h, e => by cases h; simp at e
  | d :: ds, _, 0, x, h, e => by
    obtain ⟨v, r, rfl, q, t⟩ := h
    simp at e; subst e
    exact ⟨d, rfl, q⟩
  | d :: ds, _, i + 1, x, h, e => by
    obtain ⟨v, r, rfl, q, t⟩ := h
    obtain ⟨u, h1, h2⟩ := RpL.get' (i := i) t (by simpa using e)
    exact ⟨u, by simpa using h1, h2⟩
theorem RpL.append : ∀ {ds es : List D} {vs us : List V}, RpL K F ds vs → RpL K F es us → RpL K F (ds ++ es) (vs ++ us)
  | [], _, _, _, h, g => by cases h; exact g
  | d :: ds, _, _, _, h, g => by
    obtain ⟨v, r, rfl, q, t⟩ := h
    exact ⟨v, _, rfl, q, RpL.append t g⟩
theorem RpL.one {d : D} {v : V} (h : Rp K F d v) : RpL K F [d] [v] := ⟨v, [], rfl, h, rfl⟩
theorem RpL.cons {d : D} {ds : List D} {v : V} {vs : List V} (h : Rp K F d v) (g : RpL K F ds vs) : RpL K F (d :: ds) (v :: vs) := ⟨v, vs, rfl, h, g⟩
theorem RpL.take : ∀ {ds : List D} {vs : List V} (n : Nat), RpL K F ds vs → RpL K F (ds.take n) (vs.take n)
  | [], _, n, h => by cases h; simp [RpL]
  | d :: ds, _, 0, h => by simp [RpL]
  | d :: ds, _, n + 1, h => by
    obtain ⟨v, r, rfl, q, t⟩ := h
    exact ⟨v, r.take n, rfl, q, RpL.take n t⟩
theorem RpL.drop : ∀ {ds : List D} {vs : List V} (n : Nat), RpL K F ds vs → RpL K F (ds.drop n) (vs.drop n)
  | [], _, n, h => by cases h; simp [RpL]
  | d :: ds, _, 0, h => h
  | d :: ds, _, n + 1, h => by
    obtain ⟨v, r, rfl, q, t⟩ := h
    exact RpL.drop n t
theorem RpL.dropLast : ∀ {ds : List D} {vs : List V}, RpL K F ds vs → RpL K F ds.dropLast vs.dropLast := fun {ds vs} h => by
  rw [List.dropLast_eq_take, List.dropLast_eq_take, RpL.length h]
  exact RpL.take _ h
theorem RpL.reverse : ∀ {ds : List D} {vs : List V}, RpL K F ds vs → RpL K F ds.reverse vs.reverse
  | [], _, h => by cases h; exact rfl
  | d :: ds, _, h => by
    obtain ⟨v, r, rfl, q, t⟩ := h
    rw [List.reverse_cons, List.reverse_cons]
    exact RpL.append (RpL.reverse t) (.one q)
theorem RpL.eraseIdx : ∀ {ds : List D} {vs : List V} (n : Nat), RpL K F ds vs → RpL K F (ds.eraseIdx n) (vs.eraseIdx n)
  | [], _, n, h => by cases h; exact rfl
  | d :: ds, _, 0, h => by
    obtain ⟨v, r, rfl, q, t⟩ := h
    exact t
  | d :: ds, _, n + 1, h => by
    obtain ⟨v, r, rfl, q, t⟩ := h
    exact ⟨v, r.eraseIdx n, rfl, q, RpL.eraseIdx n t⟩
theorem RpL.set : ∀ {ds : List D} {vs : List V} (n : Nat) {d : D} {v : V}, RpL K F ds vs → Rp K F d v → RpL K F (ds.set n d) (vs.set n v)
  | [], _, n, _, _, h, _ => by cases h; exact rfl
  | d :: ds, _, 0, _, _, h, g => by
    obtain ⟨v, r, rfl, q, t⟩ := h
    exact ⟨_, r, rfl, g, t⟩
  | d :: ds, _, n + 1, _, _, h, g => by
    obtain ⟨v, r, rfl, q, t⟩ := h
    exact ⟨v, _, rfl, q, RpL.set n t g⟩
theorem RpL.ints : ∀ {ns : List Int} {vs : List V}, RpL K F (ns.map .int) vs → vs = ns.map V.int
  | [], _, h => h
  | n :: ns, _, h => by
    obtain ⟨v, r, rfl, q, t⟩ := h
    cases q
    rw [RpL.ints t]; rfl
theorem RpL.of_ints : ∀ {ns : List Int}, RpL K F (ns.map .int) (ns.map V.int)
  | [] => rfl
  | n :: ns => ⟨_, _, rfl, rfl, RpL.of_ints⟩
theorem RpL.bls : ∀ {ns : List Bool} {vs : List V}, RpL K F (ns.map .bl) vs → vs = ns.map V.bl
  | [], _, h => h
  | n :: ns, _, h => by
    obtain ⟨v, r, rfl, q, t⟩ := h
    cases q
    rw [RpL.bls t]; rfl
theorem RpL.strs : ∀ {ns : List (List Nat)} {vs : List V}, RpL K F (ns.map .str) vs → vs = (ns.map fun s => (⟨s.toArray⟩ : Str)).map V.str
  | [], _, h => h
  | n :: ns, _, h => by
    obtain ⟨v, r, rfl, q, t⟩ := h
    cases q
    rw [RpL.strs t]; rfl
end

/-- a slot: nothing, data, a list of data that is its own (m: made here; else lent), an instance whose fields are data, a list of own lists -/
inductive Sl where
  | no
  | dat (d : D)
  | own (m : Bool) (ds : List D)
  | ob (m : Bool) (C : Addr) (fs : List (Str × D))
  | stk (m : Bool) (ls : List (List D))
def Sl.mn : Sl → Bool
  | .own m _ => m
  | .ob m _ _ => m
  | .stk m _ => m
  | _ => false
def Sl.res : Sl → Bool
  | .own _ _ => true
  | .ob _ _ _ => true
  | .stk _ _ => true
  | _ => false
def Sl.fl : Sl → Bool → Sl
  | .own _ ds, m => .own m ds
  | .ob _ C fs, m => .ob m C fs
  | .stk _ ls, m => .stk m ls
  | s, _ => s

/-- the fields of an instance -/
def RpF (K : PySem.W.Frag) (F : Hp) : List (Str × D) → List (Str × V) → Prop
  | [], vs => vs = []
  | (f, d) :: ds, vs => ∃ v r, vs = (f, v) :: r ∧ Rp K F d v ∧ RpF K F ds r
/-- lists at addresses -/
def RpS (K : PySem.W.Frag) (F H : Hp) : List (List D) → List Addr → Prop
  | [], as => as = []
  | ds :: ls, as => ∃ a r xs, as = a :: r ∧ H a = some (.lst xs) ∧ RpL K F ds xs ∧ RpS K F H ls r

theorem RpF.mono {K : PySem.W.Frag} {F F' : Hp} (S : Same F F') : ∀ {ds : List (Str × D)} {vs : List (Str × V)}, RpF K F ds vs → RpF K F' ds vs
  | [], _, h => h
  | (f, d) :: ds, _, h => by
    obtain ⟨v, r, e, q, t⟩ := h
    exact ⟨v, r, e, q.mono S, RpF.mono S t⟩
theorem RpF.lookup {K : PySem.W.Frag} {F : Hp} {f : Str} : ∀ {ds : List (Str × D)} {vs : List (Str × V)} {d : D}, RpF K F ds vs → ds.lookup f = some d → ∃ v, vs.lookup f = some v ∧ Rp K F d v
  | [], _, _, _, e => by cases e
  | (g, d) :: ds, _, x, h, e => by
    obtain ⟨v, r, rfl, q, t⟩ := h
    rw [List.lookup_cons] at e ⊢
    by_cases hf : (f == g) = true
    · rw [hf] at e ⊢
      cases e
      exact ⟨v, rfl, q⟩
    · rw [Bool.not_eq_true] at hf
      rw [hf] at e ⊢
      exact RpF.lookup t e
theorem RpF.lookup_none {K : PySem.W.Frag} {F : Hp} {f : Str} : ∀ {ds : List (Str × D)} {vs : List (Str × V)}, RpF K F ds vs → ds.lookup f = none → vs.lookup f = none
  | [], _, h, e => by cases h; rfl
  | (g, d) :: ds, _, h, e => by
    obtain ⟨v, r, rfl, q, t⟩ := h
    rw [List.lookup_cons] at e ⊢
    by_cases hf : (f == g) = true
    · rw [hf] at e; cases e
    · rw [Bool.not_eq_true] at hf
      rw [hf] at e ⊢
      exact RpF.lookup_none t e
theorem RpF.length {K : PySem.W.Frag} {F : Hp} : ∀ {ds : List (Str × D)} {vs : List (Str × V)}, RpF K F ds vs → ds.length = vs.length
  | [], _, h => by cases h; rfl
  | (g, d) :: ds, _, h => by
    obtain ⟨v, r, rfl, q, t⟩ := h
    rw [List.length_cons, List.length_cons, RpF.length t]
def putD (f : Str) (v : D) : List (Str × D) → List (Str × D)
  | [] => [(f, v)]
  | (g, u) :: r => if g = f then (g, v) :: r else (g, u) :: putD f v r
theorem RpS.mono {K : PySem.W.Frag} {F F' H H' : Hp} (S : Same F F') : ∀ {ls : List (List D)} {as : List Addr}, (∀ a ∈ as, H' a = H a) → RpS K F H ls as → RpS K F' H' ls as
  | [], _, _, h => h
  | ds :: ls, _, k, h => by
    obtain ⟨a, r, xs, rfl, q, g, t⟩ := h
    exact ⟨a, r, xs, rfl, by rw [k a List.mem_cons_self]; exact q, RpL.mono S g, RpS.mono S (fun b hb => k b (List.mem_cons_of_mem _ hb)) t⟩
theorem RpS.there {K : PySem.W.Frag} {F H : Hp} : ∀ {ls : List (List D)} {as : List Addr}, RpS K F H ls as → ∀ a ∈ as, H a ≠ none
  | [], _, h, a, ha => by cases h; simp at ha
  | ds :: ls, _, h, b, hb => by
    obtain ⟨a, r, xs, rfl, q, g, t⟩ := h
    rcases List.mem_cons.mp hb with e | hb
    · rw [e, q]; exact fun z => by cases z
    · exact RpS.there t b hb

/-- a slot's value and its own addresses -/
def SlOk (K : PySem.W.Frag) (F H : Hp) (ov : Option V) (fp : List Addr) : Sl → Prop
  | .no => fp = []
  | .dat d => fp = [] ∧ ∃ v, ov = some v ∧ Rp K F d v
  | .own _ ds => ∃ a xs, ov = some (.ref a) ∧ fp = [a] ∧ H a = some (.lst xs) ∧ RpL K F ds xs
  | .ob _ C fs => ∃ a dx vs, ov = some (.ref a) ∧ fp = [a] ∧ H a = some (.ins C dx vs) ∧ RpF K F fs vs
  | .stk _ ls => ∃ a as, ov = some (.ref a) ∧ fp = a :: as ∧ H a = some (.lst (as.map .ref)) ∧ RpS K F H ls as ∧ (a :: as).Nodup
theorem SlOk.mono {K : PySem.W.Frag} {F F' H H' : Hp} {ov : Option V} {fp : List Addr} (S : Same F F') (k : ∀ a ∈ fp, H' a = H a) : ∀ {s : Sl}, SlOk K F H ov fp s → SlOk K F' H' ov fp s
  | .no, h => h
  | .dat d, h => by
    obtain ⟨e, v, e2, q⟩ := h
    exact ⟨e, v, e2, q.mono S⟩
  | .own _ ds, h => by
    obtain ⟨a, xs, e, e2, q, r⟩ := h
    subst e2
    exact ⟨a, xs, e, rfl, by rw [k a List.mem_cons_self]; exact q, RpL.mono S r⟩
  | .ob _ C fs, h => by
    obtain ⟨a, dx, vs, e, e2, q, r⟩ := h
    subst e2
    exact ⟨a, dx, vs, e, rfl, by rw [k a List.mem_cons_self]; exact q, RpF.mono S r⟩
  | .stk _ ls, h => by
    obtain ⟨a, as, e, e2, q, r, n⟩ := h
    subst e2
    exact ⟨a, as, e, rfl, by rw [k a List.mem_cons_self]; exact q, RpS.mono S (fun b hb => k b (List.mem_cons_of_mem _ hb)) r, n⟩
theorem SlOk.there {K : PySem.W.Frag} {F H : Hp} {ov : Option V} {fp : List Addr} : ∀ {s : Sl}, SlOk K F H ov fp s → ∀ a ∈ fp, H a ≠ none
  | .no, h, a, ha => by
    have e : fp = [] := h
    rw [e] at ha; simp at ha
  | .dat d, h, a, ha => by
    obtain ⟨e, _⟩ := h
    rw [e] at ha; simp at ha
  | .own _ ds, h, a, ha => by
    obtain ⟨b, xs, e, e2, q, r⟩ := h
    rw [e2] at ha
    rw [List.mem_singleton.mp ha, q]; exact fun z => by cases z
  | .ob _ C fs, h, a, ha => by
    obtain ⟨b, dx, vs, e, e2, q, r⟩ := h
    rw [e2] at ha
    rw [List.mem_singleton.mp ha, q]; exact fun z => by cases z
  | .stk _ ls, h, a, ha => by
    obtain ⟨b, as, e, e2, q, r, n⟩ := h
    rw [e2] at ha
    rcases List.mem_cons.mp ha with z | z
    · rw [z, q]; exact fun z => by cases z
    · exact r.there a z
theorem SlOk.flag {K : PySem.W.Frag} {F H : Hp} {ov : Option V} {fp : List Addr} {m : Bool} : ∀ {s : Sl}, SlOk K F H ov fp s → SlOk K F H ov fp (s.fl m)
  | .no, h => h
  | .dat d, h => h
  | .own _ ds, h => h
  | .ob _ C fs, h => h
  | .stk _ ls, h => h

/-- a def's entry: what is lent to it stands at W; vs: its arguments -/
structure G where
  F : Hp
  H : Hp
  vs : List V
  φ : Nat → List Addr
def G.W (g : G) (a : Addr) : Prop := ∃ i, a ∈ g.φ i

/-- the state: F the data (never changed), φ the own addresses of each slot -/
structure SI (K : PySem.W.Frag) (g : G) (F H : Hp) (σ : L2.St) (ρ : List Sl) (φ : Nat → List Addr) : Prop where
  len : σ.length = ρ.length
  at_ : ∀ (i : Nat) (s : Sl), ρ[i]? = some s → SlOk K F H (σ[i]?.join) (φ i) s
  out : ∀ i, ρ[i]? = none → φ i = []
  dj : ∀ i j a, a ∈ φ i → a ∈ φ j → i = j
  fr : ∀ i a, a ∈ φ i → F a = none
  sub : Same F H
  f0 : Same g.F F
  keep : ∀ b o, g.H b = some o → ¬ g.W b → H b = some o
  fw : ∀ i a, a ∈ φ i → g.W a ∨ g.H a = none
  fn : ∀ b, F b ≠ none → g.F b ≠ none ∨ g.H b = none
  mine : ∀ (i : Nat) (s : Sl) (a : Addr), ρ[i]? = some s → s.mn = true → a ∈ φ i → g.H a = none
  bor : ∀ (i : Nat) (s : Sl), ρ[i]? = some s → s.res = true → s.mn = false → σ[i]?.join = g.vs[i]?
  gon : ∀ b, g.H b ≠ none → H b ≠ none
  bfp : ∀ (i : Nat) (s : Sl) (a : Addr), ρ[i]? = some s → s.res = true → s.mn = false → a ∈ φ i → a ∈ g.φ i ∨ g.H a = none

theorem SI.there {K g F H σ ρ φ} (I : SI K g F H σ ρ φ) {i : Nat} {a : Addr} (ha : a ∈ φ i) : H a ≠ none := by
  cases e : ρ[i]? with
  | none => rw [I.out i e] at ha; simp at ha
  | some s => exact (I.at_ i s e).there a ha

/-- between two states: what is beside the slots stays -/
structure Ext (F H : Hp) (φ : Nat → List Addr) (F' H' : Hp) (φ' : Nat → List Addr) : Prop where
  sub : Same F F'
  keep : ∀ b o, H b = some o → (∀ i, b ∉ φ i) → H' b = some o
  fp : ∀ i a, a ∈ φ' i → (∃ j, a ∈ φ j) ∨ H a = none
  fn : ∀ b, F' b ≠ none → F b ≠ none ∨ H b = none ∨ ∃ j, b ∈ φ j
  gon : ∀ b, H b ≠ none → H' b ≠ none
theorem Ext.refl (F H : Hp) (φ : Nat → List Addr) : Ext F H φ F H φ := ⟨.refl _, fun _ _ h _ => h, fun i _ h => .inl ⟨i, h⟩, fun _ h => .inl h, fun _ h => h⟩
theorem Ext.trans {F H φ F1 H1 φ1 F2 H2 φ2} (a : Ext F H φ F1 H1 φ1) (b : Ext F1 H1 φ1 F2 H2 φ2) : Ext F H φ F2 H2 φ2 where
  sub := a.sub.trans b.sub
  keep := fun c o h n => b.keep c o (a.keep c o h n) fun i z => by
    rcases a.fp i c z with ⟨j, q⟩ | q
    · exact n j q
    · rw [h] at q; cases q
  fp := fun i c z => by
    rcases b.fp i c z with ⟨j, q⟩ | q
    · exact a.fp j c q
    · right
      cases e : H c with
      | none => rfl
      | some o => exact absurd q (a.gon c (by rw [e]; exact fun z => by cases z))
  fn := fun c z => by
    rcases b.fn c z with q | q | ⟨j, q⟩
    · exact a.fn c q
    · right; left
      cases e : H c with
      | none => rfl
      | some o => exact absurd q (a.gon c (by rw [e]; exact fun z => by cases z))
    · rcases a.fp j c q with q | q
      · exact .inr (.inr q)
      · exact .inr (.inl q)
  gon := fun c z => b.gon c (a.gon c z)

/-- only new things came -/
structure Pur (F H F' H' : Hp) : Prop where
  sub : Same F F'
  inn : Same F' H'
  same : Same H H'
  fn : ∀ b, F' b ≠ none → F b ≠ none ∨ H b = none
theorem Pur.refl {F H : Hp} (S : Same F H) : Pur F H F H := ⟨.refl _, S, .refl _, fun _ h => .inl h⟩
theorem Pur.trans {F H F1 H1 F2 H2 : Hp} (a : Pur F H F1 H1) (b : Pur F1 H1 F2 H2) : Pur F H F2 H2 where
  sub := a.sub.trans b.sub
  inn := b.inn
  same := a.same.trans b.same
  fn := fun c z => by
    rcases b.fn c z with q | q
    · exact a.fn c q
    · exact .inr (a.same.free q)
theorem Same.some_ne {H H' : Hp} (S : Same H H') {b : Addr} (h : H b ≠ none) : H' b ≠ none := by
  cases e : H b with
  | none => exact absurd e h
  | some o => rw [S b o e]; exact fun z => by cases z
theorem SI.pure {K g F H σ ρ φ F' H'} (I : SI K g F H σ ρ φ) (p : Pur F H F' H') : SI K g F' H' σ ρ φ where
  len := I.len
  at_ := fun i s e => (I.at_ i s e).mono p.sub fun a ha => by
    cases q : H a with
    | none => exact absurd q (I.there ha)
    | some o => exact p.same a o q
  out := I.out
  dj := I.dj
  fr := fun i a ha => by
    cases q : F' a with
    | none => rfl
    | some o =>
      rcases p.fn a (by rw [q]; exact fun z => by cases z) with z | z
      · exact absurd (I.fr i a ha) z
      · exact absurd z (I.there ha)
  sub := p.inn
  f0 := I.f0.trans p.sub
  keep := fun b o h n => p.same b o (I.keep b o h n)
  fw := I.fw
  fn := fun b h => by
    rcases p.fn b h with z | z
    · exact I.fn b z
    · right
      cases q : g.H b with
      | none => rfl
      | some o => exact absurd z (I.gon b (by rw [q]; exact fun z => by cases z))
  mine := I.mine
  bor := I.bor
  gon := fun b h => Same.some_ne p.same (I.gon b h)
  bfp := I.bfp
theorem SI.ext {K g F H σ ρ φ F' H'} (I : SI K g F H σ ρ φ) (p : Pur F H F' H') : Ext F H φ F' H' φ where
  sub := p.sub
  keep := fun b o h _ => p.same b o h
  fp := fun i a h => .inl ⟨i, h⟩
  fn := fun b h => (p.fn b h).elim .inl fun z => .inr (.inl z)
  gon := fun b h => Same.some_ne p.same h
theorem same_upd {H : Hp} {p : Addr} {o : HO} (h : H p = none) : Same H (upd H p o) := fun b x e => by
  rw [upd_ne (ne_of_none e h)]
  exact e
/-- a new object that is data -/
theorem Pur.new {F H : Hp} {p : Addr} {o : HO} (S : Same F H) (h : H p = none) : Pur F H (upd F p o) (upd H p o) where
  sub := same_upd (S.free h)
  inn := fun b x e => by
    by_cases hb : b = p
    · subst hb; rw [upd_same] at e ⊢; exact e
    · rw [upd_ne hb] at e ⊢; exact S b x e
  same := same_upd h
  fn := fun b z => by
    by_cases hb : b = p
    · subst hb; exact .inr h
    · rw [upd_ne hb] at z; exact .inl z
/-- a new object beside the data -/
theorem Pur.add {F H : Hp} {p : Addr} {o : HO} (S : Same F H) (h : H p = none) : Pur F H F (upd H p o) where
  sub := .refl _
  inn := S.trans (same_upd h)
  same := same_upd h
  fn := fun b z => .inl z

/-- what an expression gives: data, the own thing of a slot, a new own thing -/
inductive RV where
  | d (d : D) | b (i : Nat) | o (s : Sl)
def ValOk (K : PySem.W.Frag) (g : G) (F H : Hp) (σ : L2.St) (φ : Nat → List Addr) (N : Addr → Prop) (v : V) : RV → Prop
  | .d x => Rp K F x v
  | .b i => σ[i]? = some (some v)
  | .o s => s.mn = true ∧ ∃ fp, SlOk K F H (some v) fp s ∧ (∀ a ∈ fp, N a) ∧ ∀ a ∈ fp, g.H a = none ∧ F a = none ∧ ∀ j, a ∉ φ j
/-- new since then (or out of a slot) -/
abbrev NW (H : Hp) (φ : Nat → List Addr) : Addr → Prop := fun a => H a = none ∨ ∃ j, a ∈ φ j
theorem Ext.back {F H φ F' H' φ'} (x : Ext F H φ F' H' φ') {a : Addr} (n : NW H' φ' a) : NW H φ a := by
  rcases n with n | ⟨j, n⟩
  · left
    cases e : H a with
    | none => rfl
    | some o => exact absurd n (x.gon a (by rw [e]; exact fun z => by cases z))
  · rcases x.fp j a n with z | z
    · exact .inr z
    · exact .inl z
theorem ValOk.imp {K g F H σ φ v N N'} (k : ∀ a, N a → N' a) : ∀ {r : RV}, ValOk K g F H σ φ N v r → ValOk K g F H σ φ N' v r
  | .d _, h => h
  | .b _, h => h
  | .o s, h => by
    obtain ⟨m, fp, q, n, z⟩ := h
    exact ⟨m, fp, q, fun a ha => k a (n a ha), z⟩
theorem ValOk.ext {K g F H σ φ v F' H' φ' N} (x : Ext F H φ F' H' φ') : ∀ {r : RV}, ValOk K g F H σ φ N v r → ValOk K g F' H' σ φ' N v r
  | .d _, h => Rp.mono x.sub h
  | .b _, h => h
  | .o s, h => by
    obtain ⟨m, fp, q, n, k⟩ := h
    have hs : ∀ a ∈ fp, H' a = H a := fun a ha => by
      cases e : H a with
      | none => exact absurd e (q.there a ha)
      | some o => exact x.keep a o e (k a ha).2.2
    refine ⟨m, fp, q.mono x.sub hs, n, fun a ha => ⟨(k a ha).1, ?_, fun j z => ?_⟩⟩
    · cases e : F' a with
      | none => rfl
      | some o =>
        rcases x.fn a (by rw [e]; exact fun z => by cases z) with z | z | ⟨j, z⟩
        · exact absurd (k a ha).2.1 z
        · exact absurd z (q.there a ha)
        · exact absurd z ((k a ha).2.2 j)
    · rcases x.fp j a z with ⟨i, w⟩ | w
      · exact (k a ha).2.2 i w
      · exact q.there a ha w

/-! ### readings over data -/
abbrev DQ := RV → List Sl → Prop
abbrev DE := List Sl → DQ → Prop
abbrev DT := List Sl → (Bool → List Sl → Prop) → Prop
abbrev DA := List Sl → (List RV → List Sl → Prop) → Prop
structure DEnds where
  nx : List Sl → Prop
  rt : RV → List Sl → Prop
  bk : List Sl → Prop := fun _ => False
  ct : List Sl → Prop := fun _ => False
abbrev DS := DEnds → List Sl → Prop
def ValsOk (K : PySem.W.Frag) (g : G) (F H : Hp) (σ : L2.St) (φ : Nat → List Addr) : List RV → List V → Prop
  | [], vs => vs = []
  | r :: rs, vs => ∃ v t, vs = v :: t ∧ ValOk K g F H σ φ (fun _ => True) v r ∧ ValsOk K g F H σ φ rs t
theorem ValsOk.ext {K g F H σ φ F' H' φ'} (x : Ext F H φ F' H' φ') : ∀ {rs : List RV} {vs : List V}, ValsOk K g F H σ φ rs vs → ValsOk K g F' H' σ φ' rs vs
  | [], _, h => h
  | r :: rs, _, h => by
    obtain ⟨v, t, e, q, z⟩ := h
    exact ⟨v, t, e, q.ext x, ValsOk.ext x z⟩
def lE (K : PySem.W.Frag) (g : G) (t : DE) : TE := fun σ H Q => ∃ F ρ φ ψ, SI K g F H σ ρ φ ∧ t ρ ψ ∧
  ∀ r ρ' F' φ' v H', ψ r ρ' → SI K g F' H' σ ρ' φ' → Ext F H φ F' H' φ' → ValOk K g F' H' σ φ' (NW H φ) v r → Q v H'
def lT (K : PySem.W.Frag) (g : G) (t : DT) : TT := fun σ H Q => ∃ F ρ φ ψ, SI K g F H σ ρ φ ∧ t ρ ψ ∧
  ∀ b ρ' F' φ' H', ψ b ρ' → SI K g F' H' σ ρ' φ' → Ext F H φ F' H' φ' → Q b H'
def lA (K : PySem.W.Frag) (g : G) (t : DA) : TA := fun σ H Q => ∃ F ρ φ ψ, SI K g F H σ ρ φ ∧ t ρ ψ ∧
  ∀ rs ρ' F' φ' vs H', ψ rs ρ' → SI K g F' H' σ ρ' φ' → Ext F H φ F' H' φ' → ValsOk K g F' H' σ φ' rs vs → Q vs H'
def lS (K : PySem.W.Frag) (g : G) (t : DS) : TS := fun D σ H => ∃ F ρ φ ψ, SI K g F H σ ρ φ ∧ t ψ ρ ∧
  (∀ ρ' F' φ' σ' H', ψ.nx ρ' → SI K g F' H' σ' ρ' φ' → Same F F' → D.nx σ' H') ∧
  (∀ r ρ' F' φ' σ' v H', ψ.rt r ρ' → SI K g F' H' σ' ρ' φ' → Same F F' → ValOk K g F' H' σ' φ' (fun _ => True) v r → D.rt v H') ∧
  (∀ ρ' F' φ' σ' H', ψ.bk ρ' → SI K g F' H' σ' ρ' φ' → Same F F' → D.bk σ' H') ∧
  (∀ ρ' F' φ' σ' H', ψ.ct ρ' → SI K g F' H' σ' ρ' φ' → Same F F' → D.ct σ' H')
abbrev PEd (X : Cx) (g : G) (e : Expr) (t : DE) : Prop := PE X e (lE X.K g t)
abbrev PTd (X : Cx) (g : G) (e : Expr) (t : DT) : Prop := PT X e (lT X.K g t)
abbrev PWd (X : Cx) (g : G) (e : Expr) (t : DT) : Prop := PW X e (lT X.K g t)
abbrev PAd (X : Cx) (g : G) (es : List Expr) (t : DA) : Prop := PA X es (lA X.K g t)
abbrev PSd (X : Cx) (g : G) (s : Stmt) (t : DS) : Prop := PS X s (lS X.K g t)
abbrev PSsd (X : Cx) (g : G) (s : List Stmt) (t : DS) : Prop := PSs X s (lS X.K g t)

/-! ### weakening -/
section
variable {X : Cx} {e : Expr} {es : List Expr} {st : Stmt} {sts : List Stmt}
theorem PE.imp {T T' : TE} (h : PE X e T) (k : ∀ σ H Q, T' σ H Q → T σ H Q) : PE X e T' := ⟨fun pins s σ H Q I q => h.run pins s σ H Q I (k σ H Q q)⟩
theorem PT.imp {T T' : TT} (h : PT X e T) (k : ∀ σ H Q, T' σ H Q → T σ H Q) : PT X e T' := ⟨fun pins s σ H Q I q => h.run pins s σ H Q I (k σ H Q q)⟩
theorem PW.imp {T T' : TT} (h : PW X e T) (k : ∀ σ H Q, T' σ H Q → T σ H Q) : PW X e T' := ⟨fun w pins s σ H Q I q => h.run w pins s σ H Q I (k σ H Q q)⟩
theorem PA.imp {T T' : TA} (h : PA X es T) (k : ∀ σ H Q, T' σ H Q → T σ H Q) : PA X es T' := ⟨fun p pins s σ H Q I q => h.run p pins s σ H Q I (k σ H Q q)⟩
theorem PS.imp {T T' : TS} (h : PS X st T) (k : ∀ D σ H, T' D σ H → T D σ H) : PS X st T' := ⟨fun pins s σ H D I q => h.run pins s σ H D I (k D σ H q)⟩
theorem PSs.imp {T T' : TS} (h : PSs X sts T) (k : ∀ D σ H, T' D σ H → T D σ H) : PSs X sts T' := ⟨fun pins s σ H D I q => h.run pins s σ H D I (k D σ H q)⟩
end
/-! ### what is read at once: data, or an own list as it stands -/
def RpR (K : PySem.W.Frag) (F H : Hp) : D → V → Prop
  | .lst ds, v => ∃ a xs, v = .ref a ∧ H a = some (.lst xs) ∧ RpL K F ds xs
  | d, v => Rp K F d v
theorem RpR.of {K : PySem.W.Frag} {F H : Hp} (S : Same F H) : ∀ {d : D} {v : V}, Rp K F d v → RpR K F H d v
  | .non, _, h => h
  | .bl _, _, h => h
  | .int _, _, h => h
  | .str _, _, h => h
  | .tup _, _, h => h
  | .scr _, _, h => h
  | .lst ds, _, h => by
    obtain ⟨a, xs, e, q, r⟩ := h
    exact ⟨a, xs, e, S _ _ q, r⟩
def seqv (ρ : List Sl) : RV → Option D
  | .d x => some x
  | .b i => match ρ[i]? with
    | some (.own _ ds) => some (.lst ds)
    | _ => none
  | .o _ => none
theorem join_some {σ : L2.St} {i : Nat} {v : V} (h : σ[i]?.join = some v) : σ[i]? = some (some v) := by
  cases e : σ[i]? with
  | none => rw [e] at h; cases h
  | some o => rw [e] at h; cases h; rfl
theorem seqv_ok {K : PySem.W.Frag} {g : G} {F H : Hp} {σ : L2.St} {ρ : List Sl} {φ : Nat → List Addr} {v : V} {r : RV} {d : D} {N : Addr → Prop} (I : SI K g F H σ ρ φ) (o : ValOk K g F H σ φ N v r) (h : seqv ρ r = some d) : RpR K F H d v := by
  cases r with
  | d x => cases h; exact .of I.sub o
  | o s => cases h
  | b i =>
    unfold seqv at h
    cases e : ρ[i]? with
    | none => simp only [e] at h; cases h
    | some s =>
      simp only [e] at h
      cases s with
      | own m ds =>
        cases h
        obtain ⟨a, xs, e1, e2, q, r⟩ := I.at_ i _ e
        have e3 : σ[i]? = some (some v) := o
        rw [e3] at e1
        cases e1
        exact ⟨a, xs, rfl, q, r⟩
      | _ => cases h
/-- what r holds, read at once -/
def rd1 (ρ : List Sl) (r : RV) (k : D → Prop) : Prop := match seqv ρ r with
  | some x => k x
  | none => False
theorem rd1_of {ρ : List Sl} {r : RV} {k : D → Prop} (h : rd1 ρ r k) : ∃ x, seqv ρ r = some x ∧ k x := by
  unfold rd1 at h
  split at h
  · rename_i x e
    exact ⟨x, e, h⟩
  · exact h.elim
end DL

set_option maxRecDepth 100000
set_option maxHeartbeats 4000000
namespace DL
open PySem PySem.Spec PyProof.Rows L2

theorem OpR.imp {X : Cx} {f : Value → Value → Sem Value} {r r' : R2} (h : OpR X f r) (k : ∀ x y H Q, r' x y H Q → r x y H Q) : OpR X f r' :=
  fun pins s σ H x y v u Q I rx ry q => h pins s σ H x y v u Q I rx ry (k x y H Q q)
theorem CallR.imp {X : Cx} {f : Value} {r r' : List V → Hp → VK → Prop} (h : CallR X f r) (k : ∀ xs H Q, r' xs H Q → r xs H Q) : CallR X f r' :=
  fun pins s σ H xs us Q I r q => h pins s σ H xs us Q I r (k xs H Q q)

/-! ### names and constants -/
def dVar (i : Nat) : DE := fun ρ Q => match ρ[i]? with
  | some .no => False
  | none => False
  | some (.dat d) => Q (.d d) ρ
  | some (.own _ _) => Q (.b i) ρ
  | some (.ob _ _ _) => Q (.b i) ρ
  | some (.stk _ _) => Q (.b i) ρ
def dC (d : D) : DE := fun ρ Q => Q (.d d) ρ
section
variable {X : Cx} {g : G} {e a b : Expr} {pos : Pos} {t ta tb : DE}
theorem res_val {K : PySem.W.Frag} {F H : Hp} {ov : Option V} {fp : List Addr} {s : Sl} (h : SlOk K F H ov fp s) (r : s.res = true) : ∃ a, ov = some (.ref a) := by
  cases s with
  | no => cases r
  | dat d => cases r
  | own m ds => obtain ⟨a, xs, e, _⟩ := h; exact ⟨a, e⟩
  | ob m C fs => obtain ⟨a, dx, xs, e, _⟩ := h; exact ⟨a, e⟩
  | stk m ls => obtain ⟨a, xs, e, _⟩ := h; exact ⟨a, e⟩
theorem lE_var {K : PySem.W.Frag} {i : Nat} : ∀ σ H Q, lE K g (dVar i) σ H Q → tVar i σ H Q := by
  rintro σ H Q ⟨F, ρ, φ, ψ, I, h, k⟩
  unfold dVar at h
  have own : ∀ s, ρ[i]? = some s → s.res = true → ψ (.b i) ρ → tVar i σ H Q := fun s e r z => by
    obtain ⟨a, q⟩ := res_val (I.at_ i s e) r
    exact ⟨_, join_some q, k _ _ _ _ _ _ z I (.refl _ _ _) (join_some q)⟩
  cases e : ρ[i]? with
  | none => rw [e] at h; exact h.elim
  | some s =>
    rw [e] at h
    cases s with
    | no => exact h.elim
    | dat d =>
      obtain ⟨_, v, q, r⟩ := I.at_ i _ e
      exact ⟨v, join_some q, k _ _ _ _ _ _ h I (.refl _ _ _) r⟩
    | own m ds => exact own _ e rfl h
    | ob m C fs => exact own _ e rfl h
    | stk m ls => exact own _ e rfl h
theorem de_var {i : Nat} {x : Str} (hN : X.N[i]? = some x) (hv : Vis X.env.scope x) (hd : (x == ("__debug__" : Str)) = false := by decide) (hcd : (x == ("__classdict__" : Str)) = false := by decide) : PEd X g (.Name x pos) (dVar i) :=
  PE.imp (pe_var hN hv hd hcd) lE_var
theorem dv (i : Nat) {x : Str} (hN : X.N[i]? = some x := by rfl) (hv : Vis X.env.scope x := by first | exact Or.inl rfl | exact Or.inr (Or.inl rfl) | exact Or.inr (Or.inr rfl)) (hd : (x == ("__debug__" : Str)) = false := by decide)
    (hcd : (x == ("__classdict__" : Str)) = false := by decide) : PEd X g (.Name x pos) (dVar i) := de_var hN hv hd hcd
theorem de_c {d : D} {v : V} (h : PE X e (tC v)) (r : ∀ F, Rp X.K F d v) : PEd X g e (dC d) := PE.imp h fun σ H Q ⟨F, ρ, φ, ψ, I, h, k⟩ => k _ _ _ _ _ _ h I (.refl _ _ _) (r F)
theorem de_int {i : Int} {j : Nat} : PEd X g (.Constant (.int i) j pos) (dC (.int i)) := de_c pe_int fun _ => rfl
theorem de_bl {i : Bool} {j : Nat} : PEd X g (.Constant (.bool i) j pos) (dC (.bl i)) := de_c pe_bl fun _ => rfl
theorem de_non {j : Nat} : PEd X g (.Constant .none j pos) (dC .non) := de_c pe_non fun _ => rfl
theorem de_str {x : Str} {j : Nat} : PEd X g (.Constant (.str x) j pos) (dC (.str x.cps.toList)) := de_c pe_str fun _ => by
  show V.str x = V.str ⟨x.cps.toList.toArray⟩
  rw [Array.toArray_toList]
/-- a constant of the module -/
theorem de_glob {x : Str} {d : D} {v : V} {u : Value} (hg : Gl X x) (hm : X.mg x = some u) (r : RelV v u) (rp : ∀ F, Rp X.K F d v) (hd : (x == ("__debug__" : Str)) = false := by decide) : PEd X g (.Name x pos) (dC d) :=
  de_c (pe_glob hg hm r hd) rp

/-! ### pure steps by values -/
/-- a pure step gives data -/
def Gives (F H : Hp) (P : D → Prop) (K : PySem.W.Frag) (Q : VK) : Prop := ∀ w H' d F', P d → Pur F H F' H' → Rp K F' d w → Q w H'
theorem Gives.now {F H : Hp} {P : D → Prop} {K : PySem.W.Frag} {Q : VK} (S : Same F H) (q : Gives F H P K Q) {d : D} {w : V} (p : P d) (r : Rp K F d w) : Q w H := q _ _ _ _ p (.refl S) r
/-- a binary step over data -/
abbrev DB := D → D → (D → Prop) → Prop
def rD (K : PySem.W.Frag) (h : DB) : R2 := fun u v H Q => ∃ F x y P, Same F H ∧ RpR K F H x u ∧ RpR K F H y v ∧ h x y P ∧ Gives F H P K Q
def dBin (f : DB) (ta tb : DE) : DE := fun ρ Q => ta ρ fun x ρ1 => tb ρ1 fun y ρ2 => rd1 ρ2 x fun x => rd1 ρ2 y fun y => f x y fun d => Q (.d d) ρ2
theorem lE_bin {K : PySem.W.Frag} {f : DB} : ∀ σ H Q, lE K g (dBin f ta tb) σ H Q → tOp (rD K f) (lE K g ta) (lE K g tb) σ H Q := by
  rintro σ H Q ⟨F, ρ, φ, ψ, I, h, k⟩
  refine ⟨F, ρ, φ, _, I, h, fun r1 ρ1 F1 φ1 v1 H1 h1 I1 x1 o1 => ?_⟩
  refine ⟨F1, ρ1, φ1, _, I1, h1, fun r2 ρ2 F2 φ2 v2 H2 h2 I2 x2 o2 => ?_⟩
  obtain ⟨x, ex, h2⟩ := rd1_of h2
  obtain ⟨y, ey, h2⟩ := rd1_of h2
  refine ⟨F2, x, y, _, I2.sub, seqv_ok I2 (o1.ext x2) ex, seqv_ok I2 o2 ey, h2, fun w H' d F' p pu r => ?_⟩
  exact k _ _ _ _ _ _ p (I2.pure pu) ((x1.trans x2).trans (I2.ext pu)) r
theorem de_op {op : Operator} {f : DB} (ho : OpR X (binaryOp op) (rD X.K f)) (ha : PEd X g a ta) (hb : PEd X g b tb) : PEd X g (.BinOp a op b pos) (dBin f ta tb) :=
  PE.imp (pe_op ho ha hb) lE_bin
theorem de_cmp {op : CmpOp} {f : DB} (ho : OpR X (compareOp op) (rD X.K f)) (ha : PEd X g a ta) (hb : PEd X g b tb) (hm : behindInMarks op b = false := by first | exact nomark _ | rfl) : PEd X g (.Compare a [op] [b] pos) (dBin f ta tb) :=
  PE.imp (pe_cmpR ho ha hb hm) lE_bin
/-- a value as a test -/
def dTest (t : DE) : DT := fun ρ Q => t ρ fun x ρ1 => match x with
  | .d (.bl b) => Q b ρ1
  | _ => False
theorem lT_test {K : PySem.W.Frag} {T : TE} (hT : ∀ σ H Q, lE K g t σ H Q → T σ H Q) : ∀ σ H Q, lT K g (dTest t) σ H Q → tTest T σ H Q := by
  rintro σ H Q ⟨F, ρ, φ, ψ, I, h, k⟩
  refine hT _ _ _ ⟨F, ρ, φ, _, I, h, fun r ρ1 F1 φ1 v H1 h1 I1 x1 o1 => ?_⟩
  cases r with
  | b i => exact h1.elim
  | o s => exact h1.elim
  | d x =>
    cases x with
    | bl b => exact ⟨b, o1, k _ _ _ _ _ h1 I1 x1⟩
    | _ => exact h1.elim
theorem dt_cmp {op : CmpOp} {f : DB} (ho : OpR X (compareOp op) (rD X.K f)) (ha : PEd X g a ta) (hb : PEd X g b tb) (hm : behindInMarks op b = false := by first | exact nomark _ | rfl) : PTd X g (.Compare a [op] [b] pos) (dTest (dBin f ta tb)) :=
  PT.imp (pt_cmpR ho ha hb hm) (lT_test lE_bin)
theorem dt_val (h : PEd X g e t) (he : ∀ whole, isTrue e X.env whole = (do let v ← whole; standAt e.pos; holding [v] (truthy v)) := by intro _; rfl) : PTd X g e (dTest t) :=
  PT.imp (pt_val h he) (lT_test fun _ _ _ z => z)
end
section
variable {X : Cx}
/-- numbers -/
def fI (C : Int → Int → Prop) (h : Int → Int → D) : DB := fun x y P => match x, y with
  | .int i, .int j => C i j ∧ P (h i j)
  | _, _ => False
theorem oI {f : Value → Value → Sem Value} {C : Int → Int → Prop} {h : Int → Int → D} {hv : Int → Int → V} (ho : OpR X f (rI C hv)) (e : ∀ F i j, Rp X.K F (h i j) (hv i j)) : OpR X f (rD X.K (fI C h)) :=
  OpR.imp ho fun u v H Q ⟨F, x, y, P, S, rx, ry, q, k⟩ => by
    unfold fI at q
    split at q
    · rename_i i j
      cases rx; cases ry
      exact ⟨i, j, rfl, rfl, q.1, k.now S q.2 (e F i j)⟩
    · exact q.elim
theorem oI0 {f : Value → Value → Sem Value} {h : Int → Int → D} {hv : Int → Int → V} (ho : OpR X f (rI0 hv)) (e : ∀ F i j, Rp X.K F (h i j) (hv i j)) : OpR X f (rD X.K (fI (fun _ _ => True) h)) :=
  OpR.imp ho fun u v H Q ⟨F, x, y, P, S, rx, ry, q, k⟩ => by
    unfold fI at q
    split at q
    · rename_i i j
      cases rx; cases ry
      exact ⟨i, j, rfl, rfl, k.now S q.2 (e F i j)⟩
    · exact q.elim
abbrev fSub : DB := fI (fun _ _ => True) fun i j => .int (i - j)
theorem o_sub : OpR X (binaryOp .Sub) (rD X.K fSub) := oI0 op_sub fun _ _ _ => rfl
abbrev fMod : DB := fI (fun _ j => 0 < j) fun i j => .int (i % j)
theorem o_mod : OpR X (binaryOp .Mod) (rD X.K fMod) := oI op_mod fun _ _ _ => rfl
abbrev fDiv : DB := fI CDiv fun i j => .int (i / j)
theorem o_div : OpR X (binaryOp .FloorDiv) (rD X.K fDiv) := oI op_fdiv fun _ _ _ => rfl
abbrev fPow : DB := fI CPow fun i j => .int (i ^ j.toNat)
theorem o_pow : OpR X (binaryOp .Pow) (rD X.K fPow) := oI op_pow fun _ _ _ => rfl
abbrev fShl : DB := fI CPow fun i j => .int (i * 2 ^ j.toNat)
theorem o_shl : OpR X (binaryOp .LShift) (rD X.K fShl) := oI op_shl fun _ _ _ => rfl
abbrev fLt : DB := fI (fun _ _ => True) fun i j => .bl (decide (i < j))
theorem o_lt : OpR X (compareOp .Lt) (rD X.K fLt) := oI0 op_lt fun _ _ _ => rfl
abbrev fLe : DB := fI (fun _ _ => True) fun i j => .bl (decide (i ≤ j))
theorem o_le : OpR X (compareOp .LtE) (rD X.K fLe) := oI0 op_le fun _ _ _ => rfl
abbrev fGt : DB := fI (fun _ _ => True) fun i j => .bl (decide (j < i))
theorem o_gt : OpR X (compareOp .Gt) (rD X.K fGt) := oI0 op_gt fun _ _ _ => rfl
abbrev fGe : DB := fI (fun _ _ => True) fun i j => .bl (decide (j ≤ i))
theorem o_ge : OpR X (compareOp .GtE) (rD X.K fGe) := oI0 op_ge fun _ _ _ => rfl

/-- x + y -/
def fAdd : DB := fun x y P => match x, y with
  | .int i, .int j => P (.int (i + j))
  | .str s, .str t => s.length + t.length ≤ sizeLine ∧ P (.str (s ++ t))
  | .tup a, .tup b => a.length + b.length ≤ sizeLine ∧ P (.tup (a ++ b))
  | .lst a, .lst b => a.length + b.length ≤ sizeLine ∧ P (.lst (a ++ b))
  | _, _ => False
theorem str_app (s t : List Nat) : (⟨s.toArray⟩ : Str) ++ (⟨t.toArray⟩ : Str) = ⟨(s ++ t).toArray⟩ := by
  show (⟨s.toArray ++ t.toArray⟩ : Str) = _
  rw [List.append_toArray]
theorem o_add : OpR X (binaryOp .Add) (rD X.K fAdd) := by
  intro pins s σ H u v uu vv Q I ru rv ⟨F, x, y, P, S, rx, ry, q, k⟩
  unfold fAdd at q
  split at q
  · rename_i i j
    cases rx; cases ry
    exact op_add pins s σ H _ _ _ _ Q I ru rv ⟨i, j, rfl, rfl, k.now S q rfl⟩
  · rename_i i j
    cases rx; cases ry
    refine op_add_str pins s σ H _ _ _ _ Q I ru rv ⟨_, _, rfl, rfl, by simpa [Str.length] using q.1, k.now S q.2 ?_⟩
    show V.str _ = V.str _
    rw [str_app]
  · rename_i a b
    obtain ⟨p1, xs, rfl, h1, r1⟩ := rx
    obtain ⟨p2, ys, rfl, h2, r2⟩ := ry
    have hl : xs.length + ys.length ≤ sizeLine := by rw [← r1.length, ← r2.length]; exact q.1
    refine op_catA pins s σ H _ _ _ _ Q I ru rv ⟨_, _, xs, ys, rfl, rfl, Same.seqT S h1, Same.seqT S h2, hl, fun e => ?_, fun e e2 => ?_, fun e e2 p hp => ?_⟩
    · refine k.now S q.2 ⟨_, ys, rfl, h2, ?_⟩
      have := RpL.append r1 r2
      rw [e] at this
      exact this
    · refine k.now S q.2 ⟨_, xs, rfl, h1, ?_⟩
      have := RpL.append r1 r2
      rw [e2, List.append_nil] at this
      exact this
    · exact k _ _ _ _ q.2 (.new S hp) ⟨_, _, rfl, .of upd_same, (RpL.append r1 r2).mono (Pur.new S hp).sub⟩
  · rename_i a b
    obtain ⟨p1, xs, rfl, h1, r1⟩ := rx
    obtain ⟨p2, ys, rfl, h2, r2⟩ := ry
    have hl : xs.length + ys.length ≤ sizeLine := by rw [← r1.length, ← r2.length]; exact q.1
    exact op_cat pins s σ H _ _ _ _ Q I ru rv ⟨_, _, xs, ys, rfl, rfl, h1, h2, hl, fun p hp =>
      k _ _ _ _ q.2 (.new S hp) ⟨_, _, rfl, upd_same, (RpL.append r1 r2).mono (Pur.new S hp).sub⟩⟩
  · exact q.elim

/-- flat data: what == takes as it is -/
def D.flat : D → Bool
  | .non => true
  | .bl _ => true
  | .int _ => true
  | .str _ => true
  | _ => false
def D.sc : D → D → Option Bool
  | .int i, .int j => some (decide (i = j))
  | .bl i, .bl j => some (decide (i = j))
  | .str i, .str j => some (decide (i = j))
  | _, _ => none
mutual
def D.py : D → PyData
  | .non => .none
  | .bl b => .bool b
  | .int i => .int i
  | .str s => .str ⟨s.toArray⟩
  | .tup ds => .tuple (D.pys ds)
  | .lst ds => .list (D.pys ds)
  | .scr ds => .list (D.pys ds)
def D.pys : List D → List PyData
  | [] => []
  | d :: ds => D.py d :: D.pys ds
end
end
end DL

set_option maxRecDepth 100000
set_option maxHeartbeats 4000000
namespace DL
open PySem PySem.Spec PyProof.Rows L2 TL SkE

/-! ### == -/
mutual
def D.eqv : D → D → Bool
  | .non, .non => true
  | .bl a, .bl b => decide (a = b)
  | .bl a, .int j => decide ((if a then (1 : Int) else 0) = j)
  | .int i, .bl b => decide (i = (if b then (1 : Int) else 0))
  | .int a, .int b => decide (a = b)
  | .str a, .str b => decide (a = b)
  | .tup a, .tup b => D.eqvL a b
  | .lst a, .lst b => D.eqvL a b
  | _, _ => false
def D.eqvL : List D → List D → Bool
  | [], [] => true
  | x :: xs, y :: ys => D.eqv x y && D.eqvL xs ys
  | _, _ => false
end
mutual
/-- deep data that == takes -/
def D.shp : Nat → D → Bool
  | _, .non => true
  | _, .bl _ => true
  | _, .int _ => true
  | _, .str s => s.all (· < 0x110000)
  | 0, .tup _ => false
  | 0, .lst _ => false
  | n + 1, .tup ds => D.shpL n ds
  | n + 1, .lst ds => D.shpL n ds
  | _, .scr _ => false
def D.shpL : Nat → List D → Bool
  | _, [] => true
  | n, d :: ds => D.shp n d && D.shpL n ds
end
theorem seq_str (a b : List Nat) : ((⟨a.toArray⟩ : Str) == ⟨b.toArray⟩) = decide (a = b) := by
  rw [Bool.eq_iff_iff]
  simp
mutual
theorem D.py_eqv : ∀ (n m : Nat) (a b : D), a.shp n = true → b.shp m = true → PyData.eqv a.py b.py = D.eqv a b
  | n, m, a, .scr ds, _, h => by cases m <;> simp [D.shp] at h
  | n, m, .scr ds, b, h, _ => by cases n <;> simp [D.shp] at h
  | _, _, .non, .non, _, _ => by simp [D.py, D.eqv, PyData.eqv]
  | _, _, .non, .bl _, _, _ => by simp [D.py, D.eqv, PyData.eqv]
  | _, _, .non, .int _, _, _ => by simp [D.py, D.eqv, PyData.eqv]
  | _, _, .non, .str _, _, _ => by simp [D.py, D.eqv, PyData.eqv]
  | _, _, .non, .tup _, _, _ => by simp [D.py, D.eqv, PyData.eqv]
  | _, _, .non, .lst _, _, _ => by simp [D.py, D.eqv, PyData.eqv]
  | _, _, .bl _, .non, _, _ => by simp [D.py, D.eqv, PyData.eqv]
  | _, _, .bl a, .bl b, _, _ => by simp only [D.py, D.eqv, PyData.eqv]; exact Bool.beq_eq_decide_eq _ _
  | _, _, .bl a, .int b, _, _ => by simp only [D.py, D.eqv, PyData.eqv]; exact Bool.beq_eq_decide_eq _ _
  | _, _, .bl _, .str _, _, _ => by simp [D.py, D.eqv, PyData.eqv]
  | _, _, .bl _, .tup _, _, _ => by simp [D.py, D.eqv, PyData.eqv]
  | _, _, .bl _, .lst _, _, _ => by simp [D.py, D.eqv, PyData.eqv]
  | _, _, .int _, .non, _, _ => by simp [D.py, D.eqv, PyData.eqv]
  | _, _, .int a, .bl b, _, _ => by simp only [D.py, D.eqv, PyData.eqv]; exact Bool.beq_eq_decide_eq _ _
  | _, _, .int _, .int _, _, _ => by simp only [D.py, D.eqv, PyData.eqv]; exact Bool.beq_eq_decide_eq _ _
  | _, _, .int _, .str _, _, _ => by simp [D.py, D.eqv, PyData.eqv]
  | _, _, .int _, .tup _, _, _ => by simp [D.py, D.eqv, PyData.eqv]
  | _, _, .int _, .lst _, _, _ => by simp [D.py, D.eqv, PyData.eqv]
  | _, _, .str _, .non, _, _ => by simp [D.py, D.eqv, PyData.eqv]
  | _, _, .str _, .bl _, _, _ => by simp [D.py, D.eqv, PyData.eqv]
  | _, _, .str _, .int _, _, _ => by simp [D.py, D.eqv, PyData.eqv]
  | _, _, .str a, .str b, _, _ => by simp only [D.py, D.eqv, PyData.eqv]; exact seq_str a b
  | _, _, .str _, .tup _, _, _ => by simp [D.py, D.eqv, PyData.eqv]
  | _, _, .str _, .lst _, _, _ => by simp [D.py, D.eqv, PyData.eqv]
  | _, _, .tup _, .non, _, _ => by simp [D.py, D.eqv, PyData.eqv]
  | _, _, .tup _, .bl _, _, _ => by simp [D.py, D.eqv, PyData.eqv]
  | _, _, .tup _, .int _, _, _ => by simp [D.py, D.eqv, PyData.eqv]
  | _, _, .tup _, .str _, _, _ => by simp [D.py, D.eqv, PyData.eqv]
  | 0, _, .tup a, .tup b, h, _ => by simp [D.shp] at h
  | _, 0, .tup a, .tup b, _, h => by simp [D.shp] at h
  | n + 1, m + 1, .tup a, .tup b, h, k => by
    simp only [D.py, D.eqv, PyData.eqv]
    exact D.pys_eqv n m a b (by simpa [D.shp] using h) (by simpa [D.shp] using k)
  | _, _, .tup _, .lst _, _, _ => by simp [D.py, D.eqv, PyData.eqv]
  | _, _, .lst _, .non, _, _ => by simp [D.py, D.eqv, PyData.eqv]
  | _, _, .lst _, .bl _, _, _ => by simp [D.py, D.eqv, PyData.eqv]
  | _, _, .lst _, .int _, _, _ => by simp [D.py, D.eqv, PyData.eqv]
  | _, _, .lst _, .str _, _, _ => by simp [D.py, D.eqv, PyData.eqv]
  | _, _, .lst _, .tup _, _, _ => by simp [D.py, D.eqv, PyData.eqv]
  | 0, _, .lst a, .lst b, h, _ => by simp [D.shp] at h
  | _, 0, .lst a, .lst b, _, h => by simp [D.shp] at h
  | n + 1, m + 1, .lst a, .lst b, h, k => by
    simp only [D.py, D.eqv, PyData.eqv]
    exact D.pys_eqv n m a b (by simpa [D.shp] using h) (by simpa [D.shp] using k)
theorem D.pys_eqv : ∀ (n m : Nat) (a b : List D), D.shpL n a = true → D.shpL m b = true → PyData.eqvAll (D.pys a) (D.pys b) = D.eqvL a b
  | _, _, [], [], _, _ => by simp [D.pys, D.eqvL, PyData.eqvAll]
  | _, _, [], _ :: _, _, _ => by simp [D.pys, D.eqvL, PyData.eqvAll]
  | _, _, _ :: _, [], _, _ => by simp [D.pys, D.eqvL, PyData.eqvAll]
  | n, m, x :: xs, y :: ys, h, k => by
    simp only [D.shpL, Bool.and_eq_true] at h k
    simp only [D.pys, D.eqvL, PyData.eqvAll]
    rw [D.py_eqv n m x y h.1 k.1, D.pys_eqv n m xs ys h.2 k.2]
end
mutual
theorem D.py_lay : ∀ (n : Nat) (a : D), a.shp n = true → PyData.canLay0 a.py = true ∧ PyData.depth a.py ≤ n
  | _, .non, _ => by simp [D.py, PyData.canLay0, PyData.depth]
  | _, .bl _, _ => by simp [D.py, PyData.canLay0, PyData.depth]
  | _, .int _, _ => by simp [D.py, PyData.canLay0, PyData.depth]
  | n, .str s, h => by
    have h : s.all (· < 0x110000) = true := by cases n <;> simpa only [D.shp] using h
    refine ⟨?_, by simp [D.py, PyData.depth]⟩
    simp only [D.py, PyData.canLay0]
    show (s.toArray.all (· < 0x110000)) = true
    rw [← h]
    simp
  | 0, .tup _, h => by simp [D.shp] at h
  | 0, .lst _, h => by simp [D.shp] at h
  | n + 1, .tup ds, h => by
    obtain ⟨a, b⟩ := D.pys_lay n ds (by simpa [D.shp] using h)
    simp only [D.py, PyData.canLay0, PyData.depth]
    exact ⟨a, by omega⟩
  | n + 1, .lst ds, h => by
    obtain ⟨a, b⟩ := D.pys_lay n ds (by simpa [D.shp] using h)
    simp only [D.py, PyData.canLay0, PyData.depth]
    exact ⟨a, by omega⟩
  | n, .scr ds, h => by cases n <;> simp [D.shp] at h
theorem D.pys_lay : ∀ (n : Nat) (a : List D), D.shpL n a = true → PyData.canLayAll0 (D.pys a) = true ∧ PyData.depthAll (D.pys a) ≤ n
  | _, [], _ => by simp [D.pys, PyData.canLayAll0, PyData.depthAll]
  | n, d :: ds, h => by
    simp only [D.shpL, Bool.and_eq_true] at h
    obtain ⟨a, b⟩ := D.py_lay n d h.1
    obtain ⟨c, e⟩ := D.pys_lay n ds h.2
    simp only [D.pys, PyData.canLayAll0, PyData.depthAll, Bool.and_eq_true]
    exact ⟨⟨a, c⟩, by omega⟩
end
theorem D.shaped {a : D} (h : a.shp 60 = true) : SeqAt.shaped a.py = true := by
  obtain ⟨x, y⟩ := D.py_lay 60 a h
  unfold SeqAt.shaped
  rw [x, decide_eq_true (by omega)]
  rfl
mutual
theorem Rp.dp {K : PySem.W.Frag} {F H : Hp} (S : Same F H) : ∀ {d : D} {v : V}, Rp K F d v → Dp K H v d.py
  | .non, _, h => by cases h; exact .non
  | .bl b, _, h => by cases h; exact .bl b
  | .int i, _, h => by cases h; exact .int i
  | .str s, _, h => by cases h; exact .str _
  | .tup ds, _, h => by
    obtain ⟨a, xs, rfl, q, r⟩ := h
    simp only [D.py]
    exact .tup (Same.seqT S q) (RpL.dp S r)
  | .lst ds, _, h => by
    obtain ⟨a, xs, rfl, q, r⟩ := h
    simp only [D.py]
    exact .lst (.of (S _ _ q)) (RpL.dp S r)
  | .scr ds, _, h => by
    obtain ⟨a, xs, rfl, q, r⟩ := h
    simp only [D.py]
    exact .lst (S.seq q) (RpL.dp S r)
theorem RpL.dp {K : PySem.W.Frag} {F H : Hp} (S : Same F H) : ∀ {ds : List D} {vs : List V}, RpL K F ds vs → DpAll K H vs (D.pys ds)
  | [], _, h => by cases h; exact .nil
  | d :: ds, _, h => by
    obtain ⟨v, r, rfl, q, t⟩ := h
    exact .cons (Rp.dp S q) (RpL.dp S t)
end
theorem RpR.dp {K : PySem.W.Frag} {F H : Hp} (S : Same F H) : ∀ {d : D} {v : V}, RpR K F H d v → Dp K H v d.py
  | .non, _, h => Rp.dp S h
  | .bl b, _, h => Rp.dp S h
  | .int i, _, h => Rp.dp S h
  | .str s, _, h => Rp.dp S h
  | .tup ds, _, h => Rp.dp S h
  | .scr ds, _, h => Rp.dp S h
  | .lst ds, _, h => by
    obtain ⟨a, xs, rfl, q, r⟩ := h
    simp only [D.py]
    exact .lst (.of q) (RpL.dp S r)
/-- x == y: n: not -/
def fEq (n : Bool) : DB := fun x y P => match x, y with
  | .int i, .int j => P (.bl (n ^^ decide (i = j)))
  | .str i, .str j => P (.bl (n ^^ decide (i = j)))
  | .bl i, .bl j => P (.bl (n ^^ decide (i = j)))
  | .int _, .str _ => P (.bl n)
  | .str _, .int _ => P (.bl n)
  | .non, .str _ => P (.bl n)
  | .str _, .non => P (.bl n)
  | x, y => x.shp 60 = true ∧ y.shp 60 = true ∧ P (.bl (n ^^ D.eqv x y))
theorem dec_strD {i j : List Nat} : decide (V.str ⟨i.toArray⟩ = V.str ⟨j.toArray⟩) = decide (i = j) := by
  rw [dec_str]; exact seq_str i j
theorem dec_intD {i j : Int} : decide (V.int i = V.int j) = decide (i = j) := by
  rw [dec_int]; exact Bool.beq_eq_decide_eq _ _
theorem dec_blD {i j : Bool} : decide (V.bl i = V.bl j) = decide (i = j) := by
  rw [dec_bl]; exact Bool.beq_eq_decide_eq _ _
theorem bl_inj {a b : Bool} (h : a = b) {K : PySem.W.Frag} {F : Hp} : Rp K F (.bl b) (.bl a) := by subst h; rfl
section
variable {X : Cx}
theorem o_eq (hu : X.A.units + 64 < cLine) : OpR X (compareOp .Eq) (rD X.K (fEq false)) := by
  intro pins s σ H u v uu vv Q I ru rv ⟨F, x, y, P, S, rx, ry, q, k⟩
  unfold fEq at q
  split at q
  · cases rx; cases ry
    exact op_eq pins s σ H _ _ _ _ Q I ru rv ⟨rfl, k.now S q (bl_inj (by rw [Bool.false_xor]; exact dec_intD))⟩
  · cases rx; cases ry
    exact op_eq pins s σ H _ _ _ _ Q I ru rv ⟨rfl, k.now S q (bl_inj (by rw [Bool.false_xor]; exact dec_strD))⟩
  · cases rx; cases ry
    exact op_eq pins s σ H _ _ _ _ Q I ru rv ⟨rfl, k.now S q (bl_inj (by rw [Bool.false_xor]; exact dec_blD))⟩
  · cases rx; cases ry
    exact op_eq pins s σ H _ _ _ _ Q I ru rv ⟨rfl, k.now S q rfl⟩
  · cases rx; cases ry
    exact op_eq pins s σ H _ _ _ _ Q I ru rv ⟨rfl, k.now S q rfl⟩
  · cases rx; cases ry
    exact op_eq pins s σ H _ _ _ _ Q I ru rv ⟨rfl, k.now S q rfl⟩
  · cases rx; cases ry
    exact op_eq pins s σ H _ _ _ _ Q I ru rv ⟨rfl, k.now S q rfl⟩
  · obtain ⟨h1, h2, q⟩ := q
    refine op_eqD hu pins s σ H _ _ _ _ Q I ru rv ⟨_, _, rx.dp S, ry.dp S, D.shaped h1, D.shaped h2, k.now S q (bl_inj ?_)⟩
    rw [Bool.false_xor]
    exact D.py_eqv 60 60 _ _ h1 h2
theorem o_ne (hu : X.A.units + 64 < cLine) : OpR X (compareOp .NotEq) (rD X.K (fEq true)) := by
  intro pins s σ H u v uu vv Q I ru rv ⟨F, x, y, P, S, rx, ry, q, k⟩
  unfold fEq at q
  split at q
  · cases rx; cases ry
    exact op_ne pins s σ H _ _ _ _ Q I ru rv ⟨rfl, k.now S q (bl_inj (by rw [Bool.true_xor]; exact congrArg Bool.not dec_intD))⟩
  · cases rx; cases ry
    exact op_ne pins s σ H _ _ _ _ Q I ru rv ⟨rfl, k.now S q (bl_inj (by rw [Bool.true_xor]; exact congrArg Bool.not dec_strD))⟩
  · cases rx; cases ry
    exact op_ne pins s σ H _ _ _ _ Q I ru rv ⟨rfl, k.now S q (bl_inj (by rw [Bool.true_xor]; exact congrArg Bool.not dec_blD))⟩
  · cases rx; cases ry
    exact op_ne pins s σ H _ _ _ _ Q I ru rv ⟨rfl, k.now S q rfl⟩
  · cases rx; cases ry
    exact op_ne pins s σ H _ _ _ _ Q I ru rv ⟨rfl, k.now S q rfl⟩
  · cases rx; cases ry
    exact op_ne pins s σ H _ _ _ _ Q I ru rv ⟨rfl, k.now S q rfl⟩
  · cases rx; cases ry
    exact op_ne pins s σ H _ _ _ _ Q I ru rv ⟨rfl, k.now S q rfl⟩
  · obtain ⟨h1, h2, q⟩ := q
    refine op_neD hu pins s σ H _ _ _ _ Q I ru rv ⟨_, _, rx.dp S, ry.dp S, D.shaped h1, D.shaped h2, k.now S q (bl_inj ?_)⟩
    rw [Bool.true_xor]
    exact congrArg Bool.not (D.py_eqv 60 60 _ _ h1 h2)
/-- is None -/
def D.isN : D → Bool
  | .non => true
  | _ => false
def fIsN (n : Bool) : DB := fun x y P => match y with
  | .non => P (.bl (n ^^ x.isN))
  | _ => False
theorem non_dec {K : PySem.W.Frag} {F H : Hp} {x : D} {u : V} (h : RpR K F H x u) : decide (u = .non) = x.isN := by
  cases x with
  | non => cases h; rfl
  | bl b => cases h; rfl
  | int b => cases h; rfl
  | str b => cases h; rfl
  | tup b => obtain ⟨a, xs, rfl, _⟩ := h; rfl
  | lst b => obtain ⟨a, xs, rfl, _⟩ := h; rfl
  | scr b => obtain ⟨a, xs, rfl, _⟩ := h; rfl
theorem o_isN : OpR X (compareOp .Is) (rD X.K (fIsN false)) := OpR.imp op_isN fun u v H Q ⟨F, x, y, P, S, rx, ry, q, k⟩ => by
  unfold fIsN at q
  split at q
  · cases ry
    exact ⟨rfl, k.now S q (bl_inj (by rw [Bool.false_xor]; exact non_dec rx))⟩
  · exact q.elim
theorem o_notN : OpR X (compareOp .IsNot) (rD X.K (fIsN true)) := OpR.imp op_notN fun u v H Q ⟨F, x, y, P, S, rx, ry, q, k⟩ => by
  unfold fIsN at q
  split at q
  · cases ry
    exact ⟨rfl, k.now S q (bl_inj (by rw [Bool.true_xor]; exact congrArg Bool.not (non_dec rx)))⟩
  · exact q.elim
/-- flat == -/
def D.eqf : D → D → Bool
  | .non, .non => true
  | .bl a, .bl b => decide (a = b)
  | .bl a, .int b => decide ((if a then (1 : Int) else 0) = b)
  | .int a, .bl b => decide (a = (if b then (1 : Int) else 0))
  | .int a, .int b => decide (a = b)
  | .str a, .str b => decide (a = b)
  | _, _ => false
theorem flat_ok {K : PySem.W.Frag} {F : Hp} {x : D} {u : V} (h : Rp K F x u) (f : x.flat = true) : flatV u = true := by
  cases x with
  | non => cases h; rfl
  | bl b => cases h; rfl
  | int b => cases h; rfl
  | str b => cases h; rfl
  | tup b => cases f
  | lst b => cases f
  | scr b => cases f
theorem flats_ok {K : PySem.W.Frag} {F : Hp} : ∀ {ds : List D} {vs : List V}, RpL K F ds vs → ds.all D.flat = true → vs.all flatV = true
  | [], _, h, _ => by cases h; rfl
  | d :: ds, _, h, f => by
    obtain ⟨v, r, rfl, q, t⟩ := h
    rw [List.all_cons, Bool.and_eq_true] at f ⊢
    exact ⟨flat_ok q f.1, flats_ok t f.2⟩
theorem eqf_ok {K : PySem.W.Frag} {F : Hp} {x y : D} {u v : V} (h : Rp K F x u) (k : Rp K F y v) (f : x.flat = true) (e : y.flat = true) : eqV u v = D.eqf x y := by
  cases x with
  | non => cases h; cases y with
    | non => cases k; rfl
    | bl b => cases k; rfl
    | int b => cases k; rfl
    | str b => cases k; rfl
    | _ => cases e
  | bl b => cases h; cases y with
    | non => cases k; rfl
    | bl b => cases k; exact Bool.beq_eq_decide_eq _ _
    | int b => cases k; exact Bool.beq_eq_decide_eq _ _
    | str b => cases k; rfl
    | _ => cases e
  | int b => cases h; cases y with
    | non => cases k; rfl
    | bl b => cases k; exact Bool.beq_eq_decide_eq _ _
    | int b => cases k; exact Bool.beq_eq_decide_eq _ _
    | str b => cases k; rfl
    | _ => cases e
  | str b => cases h; cases y with
    | non => cases k; rfl
    | bl b => cases k; rfl
    | int b => cases k; rfl
    | str b => cases k; exact seq_str _ _
    | _ => cases e
  | tup b => cases f
  | lst b => cases f
  | scr b => cases f
theorem inV_ok {K : PySem.W.Frag} {F : Hp} {x : D} {u : V} (h : Rp K F x u) (f : x.flat = true) : ∀ {ds : List D} {vs : List V}, RpL K F ds vs → ds.all D.flat = true → inV u vs = ds.any fun y => D.eqf y x
  | [], _, k, _ => by cases k; rfl
  | d :: ds, _, k, e => by
    obtain ⟨v, r, rfl, q, t⟩ := k
    rw [List.all_cons, Bool.and_eq_true] at e
    have ih := inV_ok h f t e.2
    unfold inV at ih ⊢
    rw [List.any_cons, List.any_cons, ih, eqf_ok q h e.1 f]
/-- x in y -/
def fIn (n : Bool) : DB := fun x y P => match x, y with
  | .str [c], .str z => P (.bl (n ^^ decide (c ∈ z)))
  | x, .lst ds => x.flat = true ∧ ds.all D.flat = true ∧ P (.bl (n ^^ ds.any fun y => D.eqf y x))
  | x, .tup ds => x.flat = true ∧ ds.all D.flat = true ∧ P (.bl (n ^^ ds.any fun y => D.eqf y x))
  | _, _ => False
theorem RpR.flat {K : PySem.W.Frag} {F H : Hp} {x : D} {u : V} (h : RpR K F H x u) (f : x.flat = true) : Rp K F x u := by
  cases x with
  | lst b => cases f
  | _ => exact h
theorem o_in : OpR X (compareOp .In) (rD X.K (fIn false)) := by
  intro pins s σ H u v uu vv Q I ru rv ⟨F, x, y, P, S, rx, ry, q, k⟩
  unfold fIn at q
  split at q
  · cases rx; cases ry
    exact op_in_sign pins s σ H _ _ _ _ Q I ru rv ⟨_, _, rfl, rfl, k.now S q (bl_inj (Bool.false_xor _).symm)⟩
  · rename_i c ds
    obtain ⟨a, xs, rfl, h1, r1⟩ := ry
    obtain ⟨f1, f2, q⟩ := q
    refine op_in_seq pins s σ H _ _ _ _ Q I ru rv ⟨_, xs, rfl, .inl (.of h1), flat_ok (rx.flat f1) f1, flats_ok r1 f2, k.now S q (bl_inj ?_)⟩
    rw [Bool.false_xor]
    exact inV_ok (rx.flat f1) f1 r1 f2
  · rename_i c ds
    obtain ⟨a, xs, rfl, h1, r1⟩ := ry
    obtain ⟨f1, f2, q⟩ := q
    refine op_in_seq pins s σ H _ _ _ _ Q I ru rv ⟨_, xs, rfl, .inr (Same.seqT S h1), flat_ok (rx.flat f1) f1, flats_ok r1 f2, k.now S q (bl_inj ?_)⟩
    rw [Bool.false_xor]
    exact inV_ok (rx.flat f1) f1 r1 f2
  · exact q.elim
theorem o_nin : OpR X (compareOp .NotIn) (rD X.K (fIn true)) := by
  intro pins s σ H u v uu vv Q I ru rv ⟨F, x, y, P, S, rx, ry, q, k⟩
  unfold fIn at q
  split at q
  · cases rx; cases ry
    exact op_notIn_sign pins s σ H _ _ _ _ Q I ru rv ⟨_, _, rfl, rfl, k.now S q (bl_inj (Bool.true_xor _).symm)⟩
  · rename_i c ds
    obtain ⟨a, xs, rfl, h1, r1⟩ := ry
    obtain ⟨f1, f2, q⟩ := q
    refine op_notIn_seq pins s σ H _ _ _ _ Q I ru rv ⟨_, xs, rfl, .inl (.of h1), flat_ok (rx.flat f1) f1, flats_ok r1 f2, k.now S q (bl_inj ?_)⟩
    rw [Bool.true_xor]
    exact congrArg Bool.not (inV_ok (rx.flat f1) f1 r1 f2)
  · rename_i c ds
    obtain ⟨a, xs, rfl, h1, r1⟩ := ry
    obtain ⟨f1, f2, q⟩ := q
    refine op_notIn_seq pins s σ H _ _ _ _ Q I ru rv ⟨_, xs, rfl, .inr (Same.seqT S h1), flat_ok (rx.flat f1) f1, flats_ok r1 f2, k.now S q (bl_inj ?_)⟩
    rw [Bool.true_xor]
    exact congrArg Bool.not (inV_ok (rx.flat f1) f1 r1 f2)
  · exact q.elim
end

/-! ### tests, and, or, not, if-expressions -/
section
variable {X : Cx} {g : G} {e a b c : Expr} {rest : List Expr} {pos : Pos} {t ta tb tc : DE} {u uA uB : DT}
def dAnd (t u : DT) : DT := fun ρ Q => t ρ fun c ρ1 => if c = true then u ρ1 Q else Q false ρ1
def dOr (t u : DT) : DT := fun ρ Q => t ρ fun c ρ1 => if c = true then Q true ρ1 else u ρ1 Q
def dNot (t : DT) : DT := fun ρ Q => t ρ fun c ρ1 => Q (!c) ρ1
theorem dw_and1 (ha : PTd X g a u) : PWd X g (.BoolOp .And [a] pos) u := pw_and1 ha
theorem dw_or1 (ha : PTd X g a u) : PWd X g (.BoolOp .Or [a] pos) u := pw_or1 ha
theorem dw_and (ha : PTd X g a uA) (hb : PWd X g (.BoolOp .And (b :: rest) pos) uB) : PWd X g (.BoolOp .And (a :: b :: rest) pos) (dAnd uA uB) :=
  PW.imp (pw_and ha hb) fun σ H Q ⟨F, ρ, φ, ψ, I, h, k⟩ => ⟨F, ρ, φ, _, I, h, fun c ρ1 F1 φ1 H1 h1 I1 x1 => by
    cases c with
    | true =>
      rw [if_pos rfl] at h1 ⊢
      exact ⟨F1, ρ1, φ1, ψ, I1, h1, fun b ρ' F' φ' H' h' I' x' => k b ρ' F' φ' H' h' I' (x1.trans x')⟩
    | false =>
      rw [if_neg Bool.false_ne_true] at h1 ⊢
      exact k _ _ _ _ _ h1 I1 x1⟩
theorem dw_or (ha : PTd X g a uA) (hb : PWd X g (.BoolOp .Or (b :: rest) pos) uB) : PWd X g (.BoolOp .Or (a :: b :: rest) pos) (dOr uA uB) :=
  PW.imp (pw_or ha hb) fun σ H Q ⟨F, ρ, φ, ψ, I, h, k⟩ => ⟨F, ρ, φ, _, I, h, fun c ρ1 F1 φ1 H1 h1 I1 x1 => by
    cases c with
    | true =>
      rw [if_pos rfl] at h1 ⊢
      exact k _ _ _ _ _ h1 I1 x1
    | false =>
      rw [if_neg Bool.false_ne_true] at h1 ⊢
      exact ⟨F1, ρ1, φ1, ψ, I1, h1, fun b ρ' F' φ' H' h' I' x' => k b ρ' F' φ' H' h' I' (x1.trans x')⟩⟩
theorem dt_w (h : PWd X g e u) : PTd X g e u := h.pt
theorem dt_not (ha : PTd X g a u) : PTd X g (.UnaryOp .Not a pos) (dNot u) :=
  PT.imp (pt_not ha) fun σ H Q ⟨F, ρ, φ, ψ, I, h, k⟩ => ⟨F, ρ, φ, _, I, h, fun c ρ1 F1 φ1 H1 h1 I1 x1 => k _ _ _ _ _ h1 I1 x1⟩
/-- as values -/
def dB (t : DE) (k : Bool → List Sl → Prop) (ρ : List Sl) : Prop := t ρ fun x ρ1 => match x with
  | .d (.bl b) => k b ρ1
  | _ => False
theorem dB_ok {K : PySem.W.Frag} {t : DE} {k : Bool → List Sl → Prop} {F H : Hp} {ρ : List Sl} {φ : Nat → List Addr} {σ : L2.St} (I : SI K g F H σ ρ φ) (h : dB t k ρ) {Q : VK}
    (q : ∀ b ρ' F' φ' H', k b ρ' → SI K g F' H' σ ρ' φ' → Ext F H φ F' H' φ' → Q (.bl b) H') : lE K g t σ H Q := ⟨F, ρ, φ, _, I, h, fun r ρ1 F1 φ1 v H1 h1 I1 x1 o1 => by
    cases r with
    | b i => exact h1.elim
    | o s => exact h1.elim
    | d x =>
      cases x with
      | bl b =>
        have e : v = .bl b := o1
        subst e
        exact q _ _ _ _ _ h1 I1 x1
      | _ => exact h1.elim⟩
def dAndV (ta tb : DE) : DE := fun ρ Q => dB ta (fun c ρ1 => if c = true then tb ρ1 Q else Q (.d (.bl false)) ρ1) ρ
def dOrV (ta tb : DE) : DE := fun ρ Q => dB ta (fun c ρ1 => if c = true then Q (.d (.bl true)) ρ1 else tb ρ1 Q) ρ
def dNotV (ta : DE) : DE := fun ρ Q => dB ta (fun c ρ1 => Q (.d (.bl (!c))) ρ1) ρ
theorem de_one {op} (h : PEd X g a t) : PEd X g (.BoolOp op [a] pos) t := pe_one h
theorem de_and (ha : PEd X g a ta) (hb : PEd X g (.BoolOp .And (b :: rest) pos) tb) : PEd X g (.BoolOp .And (a :: b :: rest) pos) (dAndV ta tb) :=
  PE.imp (pe_and ha hb) fun σ H Q ⟨F, ρ, φ, ψ, I, h, k⟩ => dB_ok I h fun c ρ1 F1 φ1 H1 h1 I1 x1 => ⟨c, rfl, by
    cases c with
    | true =>
      rw [if_pos rfl] at h1 ⊢
      exact ⟨F1, ρ1, φ1, ψ, I1, h1, fun r ρ' F' φ' v H' h' I' x' o' => k _ _ _ _ _ _ h' I' (x1.trans x') (o'.imp fun _ => x1.back)⟩
    | false =>
      rw [if_neg Bool.false_ne_true] at h1 ⊢
      exact k _ _ _ _ _ _ h1 I1 x1 rfl⟩
theorem de_or (ha : PEd X g a ta) (hb : PEd X g (.BoolOp .Or (b :: rest) pos) tb) : PEd X g (.BoolOp .Or (a :: b :: rest) pos) (dOrV ta tb) :=
  PE.imp (pe_or ha hb) fun σ H Q ⟨F, ρ, φ, ψ, I, h, k⟩ => dB_ok I h fun c ρ1 F1 φ1 H1 h1 I1 x1 => ⟨c, rfl, by
    cases c with
    | true =>
      rw [if_pos rfl] at h1 ⊢
      exact k _ _ _ _ _ _ h1 I1 x1 rfl
    | false =>
      rw [if_neg Bool.false_ne_true] at h1 ⊢
      exact ⟨F1, ρ1, φ1, ψ, I1, h1, fun r ρ' F' φ' v H' h' I' x' o' => k _ _ _ _ _ _ h' I' (x1.trans x') (o'.imp fun _ => x1.back)⟩⟩
theorem de_not (ha : PEd X g a ta) : PEd X g (.UnaryOp .Not a pos) (dNotV ta) :=
  PE.imp (pe_not ha) fun σ H Q ⟨F, ρ, φ, ψ, I, h, k⟩ => dB_ok I h fun c ρ1 F1 φ1 H1 h1 I1 x1 => ⟨c, rfl, k _ _ _ _ _ _ h1 I1 x1 rfl⟩
def dIf (t : DT) (ta tb : DE) : DE := fun ρ Q => t ρ fun c ρ1 => if c = true then ta ρ1 Q else tb ρ1 Q
theorem de_if (hc : PTd X g c u) (ha : PEd X g a ta) (hb : PEd X g b tb) : PEd X g (.IfExp c a b pos) (dIf u ta tb) :=
  PE.imp (pe_ifExp hc ha hb) fun σ H Q ⟨F, ρ, φ, ψ, I, h, k⟩ => ⟨F, ρ, φ, _, I, h, fun c ρ1 F1 φ1 H1 h1 I1 x1 => by
    cases c with
    | true =>
      rw [if_pos rfl] at h1 ⊢
      exact ⟨F1, ρ1, φ1, ψ, I1, h1, fun r ρ' F' φ' v H' h' I' x' o' => k _ _ _ _ _ _ h' I' (x1.trans x') (o'.imp fun _ => x1.back)⟩
    | false =>
      rw [if_neg Bool.false_ne_true] at h1 ⊢
      exact ⟨F1, ρ1, φ1, ψ, I1, h1, fun r ρ' F' φ' v H' h' I' x' o' => k _ _ _ _ _ _ h' I' (x1.trans x') (o'.imp fun _ => x1.back)⟩⟩
end

/-! ### arguments -/
section
variable {X : Cx} {g : G} {e : Expr} {es : List Expr} {pos : Pos} {t : DE} {ts : DA}
/-- what lasts while more is reckoned -/
def RV.hold : RV → Bool
  | .o _ => false
  | _ => true
def dNil : DA := fun ρ Q => Q [] ρ
def dCons (t : DE) (ts : DA) : DA := fun ρ Q => t ρ fun r ρ1 => r.hold = true ∧ ts ρ1 fun rs ρ2 => Q (r :: rs) ρ2
theorem da_nil : PAd X g [] dNil := PA.imp pa_nil fun σ H Q ⟨F, ρ, φ, ψ, I, h, k⟩ => k _ _ _ _ _ _ h I (.refl _ _ _) rfl
theorem da_cons (he : PEd X g e t) (hr : PAd X g es ts) (hs : starEach (e :: es) X.env = (false, eval e X.env) :: starEach es X.env := by rfl) : PAd X g (e :: es) (dCons t ts) :=
  PA.imp (pa_cons he hr hs) fun σ H Q ⟨F, ρ, φ, ψ, I, h, k⟩ => ⟨F, ρ, φ, _, I, h, fun r ρ1 F1 φ1 v H1 h1 I1 x1 o1 =>
    ⟨F1, ρ1, φ1, _, I1, h1.2, fun rs ρ2 F2 φ2 vs H2 h2 I2 x2 o2 => k _ _ _ _ _ _ h2 I2 (x1.trans x2) ⟨v, vs, rfl, (o1.imp fun _ _ => trivial).ext x2, o2⟩⟩⟩
/-- read at once -/
def seqvs (ρ : List Sl) : List RV → Option (List D)
  | [] => some []
  | r :: rs => match seqv ρ r, seqvs ρ rs with
    | some x, some xs => some (x :: xs)
    | _, _ => none
def RpRL (K : PySem.W.Frag) (F H : Hp) : List D → List V → Prop
  | [], vs => vs = []
  | d :: ds, vs => ∃ v r, vs = v :: r ∧ RpR K F H d v ∧ RpRL K F H ds r
theorem seqvs_ok {K : PySem.W.Frag} {F H : Hp} {σ : L2.St} {ρ : List Sl} {φ : Nat → List Addr} (I : SI K g F H σ ρ φ) : ∀ {rs : List RV} {vs : List V} {ds : List D}, ValsOk K g F H σ φ rs vs → seqvs ρ rs = some ds → RpRL K F H ds vs
  | [], _, _, h, e => by cases h; cases e; rfl
  | r :: rs, _, _, h, e => by
    obtain ⟨v, t, rfl, o, os⟩ := h
    unfold seqvs at e
    split at e
    · rename_i x xs e1 e2
      cases e
      exact ⟨v, t, rfl, seqv_ok I o e1, seqvs_ok I os e2⟩
    · cases e
def rdL (ρ : List Sl) (rs : List RV) (k : List D → Prop) : Prop := match seqvs ρ rs with
  | some x => k x
  | none => False
theorem rdL_of {ρ : List Sl} {r : List RV} {k : List D → Prop} (h : rdL ρ r k) : ∃ x, seqvs ρ r = some x ∧ k x := by
  unfold rdL at h
  split at h
  · rename_i x e
    exact ⟨x, e, h⟩
  · exact h.elim
/-- a built-in called: pure -/
abbrev DBF := List D → (D → Prop) → Prop
def rC (K : PySem.W.Frag) (f : DBF) : List V → Hp → VK → Prop := fun vs H Q => ∃ F xs P, Same F H ∧ RpRL K F H xs vs ∧ f xs P ∧ Gives F H P K Q
def dCall (f : DBF) (ts : DA) : DE := fun ρ Q => ts ρ fun rs ρ1 => rdL ρ1 rs fun xs => f xs fun d => Q (.d d) ρ1
theorem lE_call {K : PySem.W.Frag} {f : DBF} : ∀ σ H Q, lE K g (dCall f ts) σ H Q → tCB (rC K f) (lA K g ts) σ H Q := by
  rintro σ H Q ⟨F, ρ, φ, ψ, I, h, k⟩
  refine ⟨F, ρ, φ, _, I, h, fun rs ρ1 F1 φ1 vs H1 h1 I1 x1 o1 => ?_⟩
  obtain ⟨xs, e, h1⟩ := rdL_of h1
  exact ⟨F1, xs, _, I1.sub, seqvs_ok I1 o1 e, h1, fun w H' d F' p pu r => k _ _ _ _ _ _ p (I1.pure pu) (x1.trans (I1.ext pu)) r⟩
variable {x : Str} {p : Pos} {id T : String} {f : DBF}
theorem de_callB (hc : CallR X (.builtin id) (rC X.K f)) (hg : Gl X x) (hm : X.mg x = none) (hv : bootBuiltins x = some (.builtin id)) (ha : PAd X g (e :: es) ts) (hn : x ≠ "__name__" := by decide) (hdb : (x == ("__debug__" : Str)) = false := by decide)
    (he : starEach (e :: es) X.env = (false, eval e X.env) :: starEach es X.env := by rfl) (hpl : (backTo pos (starEach es X.env)).any (·.1) = false := by rfl) : PEd X g (.Call (.Name x p) (e :: es) [] pos) (dCall f ts) :=
  PE.imp (pe_callB hc hg hm hv ha hn hdb he hpl) lE_call
theorem de_callTy (hc : CallR X (.type T) (rC X.K f)) (hg : Gl X x) (hm : X.mg x = none) (hv : bootBuiltins x = some (.type T)) (ha : PAd X g (e :: es) ts) (hn : x ≠ "__name__" := by decide) (hdb : (x == ("__debug__" : Str)) = false := by decide)
    (he : starEach (e :: es) X.env = (false, eval e X.env) :: starEach es X.env := by rfl) (hpl : (backTo pos (starEach es X.env)).any (·.1) = false := by rfl) : PEd X g (.Call (.Name x p) (e :: es) [] pos) (dCall f ts) :=
  PE.imp (pe_callTy hc hg hm hv ha hn hdb he hpl) lE_call
end
theorem RpRL.one {K : PySem.W.Frag} {F H : Hp} {d : D} {vs : List V} (h : RpRL K F H [d] vs) : ∃ v, vs = [v] ∧ RpR K F H d v := by
  obtain ⟨v, r, rfl, q, t⟩ := h
  cases t
  exact ⟨v, rfl, q⟩
theorem RpRL.two {K : PySem.W.Frag} {F H : Hp} {d e : D} {vs : List V} (h : RpRL K F H [d, e] vs) : ∃ v u, vs = [v, u] ∧ RpR K F H d v ∧ RpR K F H e u := by
  obtain ⟨v, r, rfl, q, t⟩ := h
  obtain ⟨u, rfl, q2⟩ := RpRL.one t
  exact ⟨v, u, rfl, q, q2⟩
section
variable {X : Cx}
def fLen : DBF := fun xs P => match xs with
  | [.str s] => s.length ≤ sizeLine ∧ P (.int s.length)
  | [.lst ds] => P (.int ds.length)
  | [.tup ds] => P (.int ds.length)
  | _ => False
theorem c_len : CallR X (.builtin "len") (rC X.K fLen) := by
  refine CallR.imp (CallR.or call_len_str call_len_seq) fun vs H Q ⟨F, xs, P, S, rx, q, k⟩ => ?_
  unfold fLen at q
  split at q
  · obtain ⟨v, rfl, r⟩ := rx.one
    cases r
    exact .inl ⟨_, rfl, by simpa [Str.length] using q.1, by
      have z := k.now S (w := .int _) q.2 rfl
      simpa [Str.length] using z⟩
  · obtain ⟨v, rfl, a, xs, rfl, h, r⟩ := rx.one
    exact .inr ⟨_, xs, rfl, .inl (.of h), k.now S q (by rw [r.length]; rfl)⟩
  · obtain ⟨v, rfl, a, xs, rfl, h, r⟩ := rx.one
    exact .inr ⟨_, xs, rfl, .inr (Same.seqT S h), k.now S q (by rw [r.length]; rfl)⟩
  · exact q.elim
def fInt : DBF := fun xs P => match xs with
  | [.int i] => P (.int i)
  | [.bl b] => P (.int (if b then 1 else 0))
  | [.str s] => ∃ n, intText? ⟨s.toArray⟩ = some n ∧ s.length ≤ 640 ∧ P (.int n)
  | _ => False
theorem c_int : CallR X (.type "int") (rC X.K fInt) := by
  refine CallR.imp (CallR.or call_int1 call_int_str) fun vs H Q ⟨F, xs, P, S, rx, q, k⟩ => ?_
  unfold fInt at q
  split at q
  · obtain ⟨v, rfl, r⟩ := rx.one
    cases r
    exact .inl (.inl ⟨_, rfl, k.now S q rfl⟩)
  · obtain ⟨v, rfl, r⟩ := rx.one
    cases r
    exact .inl (.inr ⟨_, rfl, k.now S q rfl⟩)
  · obtain ⟨v, rfl, r⟩ := rx.one
    cases r
    obtain ⟨n, h1, h2, q⟩ := q
    exact .inr ⟨_, n, rfl, h1, by simpa [Str.length] using h2, k.now S q rfl⟩
  · exact q.elim
/-- the signs of an int -/
def intD (i : Int) : List Nat := tl (Str.ofString (toString i))
def fStr : DBF := fun xs P => match xs with
  | [.int i] => i.natAbs.log2 < 1920 ∧ P (.str (intD i))
  | [.str s] => P (.str s)
  | _ => False
theorem str_tl (x : Str) : V.str ⟨(tl x).toArray⟩ = V.str x := by rw [mk_tl]
theorem c_str : CallR X (.type "str") (rC X.K fStr) := by
  refine CallR.imp (CallR.or call_str_int call_str_str) fun vs H Q ⟨F, xs, P, S, rx, q, k⟩ => ?_
  unfold fStr at q
  split at q
  · obtain ⟨v, rfl, r⟩ := rx.one
    cases r
    exact .inl ⟨_, rfl, q.1, k.now S q.2 (str_tl _).symm⟩
  · obtain ⟨v, rfl, r⟩ := rx.one
    cases r
    exact .inr ⟨_, rfl, k.now S q rfl⟩
  · exact q.elim
/-- ints out of data -/
def asInts : List D → Option (List Int)
  | [] => some []
  | .int i :: r => match asInts r with
    | some l => some (i :: l)
    | none => none
  | _ => none
theorem asInts_ok : ∀ {ds : List D} {ns : List Int}, asInts ds = some ns → ds = ns.map .int
  | [], _, h => by cases h; rfl
  | .int i :: r, _, h => by
    unfold asInts at h
    split at h
    · rename_i l e
      cases h
      rw [asInts_ok e]
      rfl
    · cases h
def fMax : DBF := fun xs P => match xs with
  | [.lst ds] => ∃ ns, asInts ds = some ns ∧ 0 < ns.length ∧ ∀ m, m ∈ ns → (∀ y, y ∈ ns → y ≤ m) → P (.int m)
  | [.int i, .int j] => P (.int (if j > i then j else i))
  | _ => False
theorem c_max (hc : X.calm = true) : CallR X (.builtin "max") (rC X.K fMax) := by
  refine CallR.imp (CallR.or (cr_max hc) (call_max2 hc)) fun vs H Q ⟨F, xs, P, S, rx, q, k⟩ => ?_
  unfold fMax at q
  split at q
  · obtain ⟨v, rfl, a, xs, rfl, h, r⟩ := rx.one
    obtain ⟨ns, e, q1, q⟩ := q
    rw [asInts_ok e] at r
    rw [r.ints] at h
    exact .inl ⟨a, ns, rfl, .of h, q1, fun m h1 h2 => k.now S (q m h1 h2) rfl⟩
  · obtain ⟨v, u, rfl, r, t⟩ := rx.two
    cases r; cases t
    exact .inr ⟨_, _, rfl, k.now S q rfl⟩
  · exact q.elim
def fSum : DBF := fun xs P => match xs with
  | [.lst ds] => ∃ ns, asInts ds = some ns ∧ P (.int ns.sum)
  | _ => False
theorem c_sum (hc : X.calm = true) : CallR X (.builtin "sum") (rC X.K fSum) := by
  refine CallR.imp (cr_sum hc) fun vs H Q ⟨F, xs, P, S, rx, q, k⟩ => ?_
  unfold fSum at q
  split at q
  · obtain ⟨v, rfl, a, xs, rfl, h, r⟩ := rx.one
    obtain ⟨ns, e, q⟩ := q
    rw [asInts_ok e] at r
    rw [r.ints] at h
    exact ⟨a, ns, rfl, .of h, k.now S q rfl⟩
  · exact q.elim
def fAbs : DBF := fun xs P => match xs with
  | [.int i] => P (.int (if i < 0 then -i else i))
  | _ => False
theorem c_abs : CallR X (.builtin "abs") (rC X.K fAbs) := by
  refine CallR.imp call_abs fun vs H Q ⟨F, xs, P, S, rx, q, k⟩ => ?_
  unfold fAbs at q
  split at q
  · obtain ⟨v, rfl, r⟩ := rx.one
    cases r
    exact ⟨_, rfl, k.now S q rfl⟩
  · exact q.elim
def fTuple : DBF := fun xs P => match xs with
  | [.lst ds] => P (.tup ds)
  | [.tup ds] => P (.tup ds)
  | _ => False
theorem c_tuple : CallR X (.type "tuple") (rC X.K fTuple) := by
  refine CallR.imp call_tuple_of fun vs H Q ⟨F, xs, P, S, rx, q, k⟩ => ?_
  unfold fTuple at q
  split at q
  · obtain ⟨v, rfl, a, xs, rfl, h, r⟩ := rx.one
    exact ⟨a, xs, rfl, .inl ⟨.of h, fun l hl => k _ _ _ _ q (.new S hl) ⟨_, _, rfl, .of upd_same, r.mono (Pur.new S hl).sub⟩⟩⟩
  · obtain ⟨v, rfl, a, xs, rfl, h, r⟩ := rx.one
    exact ⟨a, xs, rfl, .inr ⟨Same.seqT S h, k.now S q ⟨a, xs, rfl, h, r⟩⟩⟩
  · exact q.elim
end
end DL

set_option maxRecDepth 100000
set_option maxHeartbeats 4000000
namespace DL
open PySem PySem.Spec PyProof.Rows L2 TL SkE

/-! ### x * y -/
section
variable {X : Cx}
theorem op_mulG : OpR X (binaryOp .Mult) (rI (fun i j => IntMulOk i j) fun i j => .int (i * j)) := opI fun _ _ _ _ _ _ _ hc q => mul_int q hc
theorem foldl_app : ∀ (k : Nat) (l : List Nat) (acc : List Nat), List.foldl (fun x1 x2 => x1 ++ x2) acc.toArray (List.replicate k l.toArray) = (acc ++ (List.replicate k l).flatten).toArray
  | 0, l, acc => by simp
  | k + 1, l, acc => by
    rw [List.replicate_succ, List.foldl_cons, List.append_toArray, foldl_app k l (acc ++ l), List.replicate_succ, List.flatten_cons, List.append_assoc]
theorem op_mulS : OpR X (binaryOp .Mult) (fun x y H Q => ∃ (s : List Nat) (k : Int), x = .str ⟨s.toArray⟩ ∧ y = .int k ∧ 0 ≤ k ∧ k < 2 ^ 62 ∧ s.length * k.toNat ≤ sizeLine ∧ Q (.str ⟨((List.replicate k.toNat s).flatten).toArray⟩) H) := by
  intro pins st σ H x y v u Q I rx ry h
  obtain ⟨s, k, rfl, rfl, h0, h1, hz, q⟩ := h
  obtain ⟨t, rfl⟩ := rx
  obtain ⟨t', rfl⟩ := ry
  refine PySem.P.mul_str ?_ ?_ ?_ ?_
  · rw [decide_eq_false (by omega), decide_eq_false (by omega)]; rfl
  · intro h2 h3
    have hs : (⟨s.toArray⟩ : Str).length = s.length := by simp [Str.length]
    rw [hs]
    have hk : 0 < k := by omega
    have hz' : s.length * k.toNat ≤ 16777216 := by rw [sizeLine_eq] at hz; exact hz
    rw [Int.not_lt]
    have e : ((s.length : Nat) : Int) * k ≤ 2 ^ 63 - 1 := by
      have : ((s.length * k.toNat : Nat) : Int) ≤ 16777216 := by omega
      rw [Int.natCast_mul] at this
      have ek : ((k.toNat : Nat) : Int) = k := by omega
      rw [ek] at this
      omega
    exact Int.le_ediv_of_mul_le hk e
  · intro h2 h3
    have hs : (⟨s.toArray⟩ : Str).length = s.length := by simp [Str.length]
    rw [hs]
    have hz' : s.length * k.toNat ≤ 16777216 := by rw [sizeLine_eq] at hz; exact hz
    unfold Builtin.Str.tooLong
    first
      | exact decide_eq_false (by omega)
      | (rw [decide_eq_false]; omega)
  · have fl : ∀ m, List.foldl (fun x1 x2 => x1 ++ x2) #[] (List.replicate m (⟨s.toArray⟩ : Str).cps) = ((List.replicate m s).flatten).toArray := fun m => by
      have := foldl_app m s []
      rw [List.nil_append] at this
      exact this
    by_cases hk : k < 1
    · rw [if_pos hk]
      have e : k = 0 := by omega
      subst e
      exact ⟨by decide, .str Str.empty, H, I.tok _, ⟨_, rfl⟩, q⟩
    · rw [if_neg hk]
      by_cases hc : (k == 1 || (⟨s.toArray⟩ : Str).length == 0) = true
      · rw [if_pos hc]
        refine ⟨.str ⟨s.toArray⟩, H, I, ⟨_, rfl⟩, ?_⟩
        have e : (List.replicate k.toNat s).flatten = s := by
          rcases Bool.or_eq_true_iff.mp hc with z | z
          · have e1 : k = 1 := by simpa using z
            subst e1
            simp
          · have e1 : s = [] := by simpa [Str.length] using z
            subst e1
            simp
        rw [e] at q
        exact q
      · rw [if_neg hc, fl]
        refine ⟨?_, .str _, H, I.tok _, ⟨_, rfl⟩, q⟩
        show ((List.replicate k.toNat s).flatten).toArray.size ≤ sizeLine
        rw [List.size_toArray, PyProof.Rows.lm_len_rep_flat, Nat.mul_comm]
        exact hz
theorem RpL.rep {K : PySem.W.Frag} {F : Hp} {ds : List D} {vs : List V} (h : RpL K F ds vs) : ∀ k : Nat, RpL K F (List.replicate k ds).flatten (List.replicate k vs).flatten
  | 0 => rfl
  | k + 1 => by
    rw [List.replicate_succ, List.replicate_succ, List.flatten_cons, List.flatten_cons]
    exact RpL.append h (RpL.rep h k)
def fMul : DB := fun x y P => match x, y with
  | .int i, .int j => IntMulOk i j ∧ P (.int (i * j))
  | .str s, .int k => (0 ≤ k ∧ k < 2 ^ 62 ∧ s.length * k.toNat ≤ sizeLine) ∧ P (.str (List.replicate k.toNat s).flatten)
  | .lst s, .int k => (0 ≤ k ∧ k < 2 ^ 62 ∧ s.length * k.toNat ≤ sizeLine) ∧ P (.lst (List.replicate k.toNat s).flatten)
  | .tup s, .int k => (s ≠ [] ∧ 2 ≤ k ∧ k ≤ 1000 ∧ s.length ≤ 1000) ∧ P (.tup (List.replicate k.toNat s).flatten)
  | _, _ => False
theorem o_mul : OpR X (binaryOp .Mult) (rD X.K fMul) := by
  intro pins s σ H u v uu vv Q I ru rv ⟨F, x, y, P, S, rx, ry, q, k⟩
  unfold fMul at q
  split at q
  · cases rx; cases ry
    exact op_mulG pins s σ H _ _ _ _ Q I ru rv ⟨_, _, rfl, rfl, q.1, k.now S q.2 rfl⟩
  · cases rx; cases ry
    obtain ⟨⟨h0, h1, h2⟩, q⟩ := q
    exact op_mulS pins s σ H _ _ _ _ Q I ru rv ⟨_, _, rfl, rfl, h0, h1, h2, k.now S q rfl⟩
  · cases ry
    obtain ⟨a, xs, rfl, h, r⟩ := rx
    obtain ⟨⟨h0, h1, h2⟩, q⟩ := q
    exact op_rep pins s σ H _ _ _ _ Q I ru rv ⟨_, _, xs, rfl, rfl, h, by omega, by omega, by rw [← r.length]; exact h2, fun p hp =>
      k _ _ _ _ q (.new S hp) ⟨_, _, rfl, upd_same, (r.rep _).mono (Pur.new S hp).sub⟩⟩
  · cases ry
    obtain ⟨a, xs, rfl, h, r⟩ := rx
    obtain ⟨⟨h0, h1, h2, h3⟩, q⟩ := q
    have hne : xs ≠ [] := fun e => h0 (by
      have := r.length
      rw [e] at this
      exact List.eq_nil_of_length_eq_zero this)
    exact op_repT pins s σ H _ _ _ _ Q I ru rv ⟨_, _, xs, rfl, rfl, Same.seqT S h, hne, h1, h2, by rw [← r.length]; exact h3, fun p hp =>
      k _ _ _ _ q (.new S hp) ⟨_, _, rfl, .of upd_same, (r.rep _).mono (Pur.new S hp).sub⟩⟩
  · exact q.elim
def fNeg : D → (D → Prop) → Prop := fun x P => match x with
  | .int i => P (.int (-i))
  | _ => False
end

/-! ### subscripts -/
theorem IxR.imp {X : Cx} {r r' : R2} (h : IxR X r) (k : ∀ x y H Q, r' x y H Q → r x y H Q) : IxR X r' :=
  fun value slice pins s σ H x y v u Q I rx ry q hs => h value slice pins s σ H x y v u Q I rx ry (k x y H Q q) hs
theorem atI_rp {K : PySem.W.Frag} {F : Hp} {ds : List D} {vs : List V} {i : Int} {d : D} (r : RpL K F ds vs) (h : atI ds i = some d) : ∃ v, atI vs i = some v ∧ Rp K F d v := by
  unfold atI at h ⊢
  rw [r.length] at h
  cases e : ixN vs.length i with
  | none => rw [e] at h; cases h
  | some j =>
    rw [e] at h
    obtain ⟨v, h1, h2⟩ := r.get h
    exact ⟨v, h1, h2⟩
section
variable {X : Cx} {g : G} {e a b : Expr} {lo hi : Option Expr} {pos p2 : Pos} {t ta tb : DE}
def fIx : DB := fun x y P => match x, y with
  | .lst ds, .int i => ∃ d, atI ds i = some d ∧ P d
  | .tup ds, .int i => ∃ d, atI ds i = some d ∧ P d
  | .str s, .int i => s.length ≤ sizeLine ∧ ∃ c, atI s i = some c ∧ P (.str [c])
  | _, _ => False
theorem i_ix : IxR X (rD X.K fIx) := IxR.imp ix_seq fun u v H Q ⟨F, x, y, P, S, rx, ry, q, k⟩ => by
  unfold fIx at q
  split at q
  · cases ry
    obtain ⟨a, xs, rfl, h, r⟩ := rx
    obtain ⟨d, h1, q⟩ := q
    obtain ⟨w, h2, r2⟩ := atI_rp r h1
    exact .inl ⟨a, xs, _, w, rfl, rfl, .of h, h2, k.now S q r2⟩
  · cases ry
    obtain ⟨a, xs, rfl, h, r⟩ := rx
    obtain ⟨d, h1, q⟩ := q
    obtain ⟨w, h2, r2⟩ := atI_rp r h1
    exact .inr (.inl ⟨a, xs, _, w, rfl, rfl, Same.seqT S h, h2, k.now S q r2⟩)
  · cases rx; cases ry
    obtain ⟨h0, c, h1, q⟩ := q
    exact .inr (.inr ⟨_, _, c, rfl, rfl, by simpa [Str.length] using h0, h1, k.now S q rfl⟩)
  · exact q.elim
theorem de_ix (ha : PEd X g a ta) (hb : PEd X g b tb) (hs : PlainIx b := by exact fun _ _ => rfl) : PEd X g (.Subscript a b pos) (dBin fIx ta tb) :=
  PE.imp (pe_ix i_ix ha hb hs) lE_bin
theorem de_un {op : UnaryOp} {f : D → (D → Prop) → Prop} (ho : UnR X (unaryOp op) (fun u H Q => ∃ F x P, Same F H ∧ RpR X.K F H x u ∧ f x P ∧ Gives F H P X.K Q)) (ha : PEd X g a ta) :
    PEd X g (.UnaryOp op a pos) (fun ρ Q => ta ρ fun x ρ1 => rd1 ρ1 x fun x => f x fun d => Q (.d d) ρ1) :=
  PE.imp (pe_un ho ha) fun σ H Q ⟨F, ρ, φ, ψ, I, h, k⟩ => ⟨F, ρ, φ, _, I, h, fun r ρ1 F1 φ1 v H1 h1 I1 x1 o1 => by
    obtain ⟨x, e, h1⟩ := rd1_of h1
    exact ⟨F1, x, _, I1.sub, seqv_ok I1 o1 e, h1, fun w H' d F' p pu r => k _ _ _ _ _ _ p (I1.pure pu) (x1.trans (I1.ext pu)) r⟩⟩
def dNeg (ta : DE) : DE := fun ρ Q => ta ρ fun x ρ1 => rd1 ρ1 x fun x => fNeg x fun d => Q (.d d) ρ1
theorem de_neg (ha : PEd X g a ta) : PEd X g (.UnaryOp .USub a pos) (dNeg ta) :=
  de_un (f := fNeg) (fun pins s σ H u uu Q I ru ⟨F, x, P, S, rx, q, k⟩ => by
    unfold fNeg at q
    split at q
    · cases rx
      exact un_neg pins s σ H _ _ Q I ru ⟨_, rfl, k.now S q rfl⟩
    · exact q.elim) ha
/-- slices -/
abbrev DO := List Sl → (Option Int → List Sl → Prop) → Prop
def lO (K : PySem.W.Frag) (g : G) (t : DO) : TO := fun σ H Q => ∃ F ρ φ ψ, SI K g F H σ ρ φ ∧ t ρ ψ ∧
  ∀ b ρ' F' φ' H', ψ b ρ' → SI K g F' H' σ ρ' φ' → Ext F H φ F' H' φ' → Q b H'
abbrev POd (X : Cx) (g : G) (e : Option Expr) (t : DO) : Prop := PO X e (lO X.K g t)
theorem PO.imp {e : Option Expr} {T T' : TO} (h : PO X e T) (k : ∀ σ H Q, T' σ H Q → T σ H Q) : PO X e T' := ⟨fun pins s σ H Q I q => h.run pins s σ H Q I (k σ H Q q)⟩
def dNoPart : DO := fun ρ Q => Q none ρ
def dPart (t : DE) : DO := fun ρ Q => t ρ fun x ρ1 => match x with
  | .d (.int i) => Q (some i) ρ1
  | _ => False
theorem do_none : POd X g none dNoPart := PO.imp po_none fun σ H Q ⟨F, ρ, φ, ψ, I, h, k⟩ => k _ _ _ _ _ h I (.refl _ _ _)
theorem do_some (h : PEd X g e t) : POd X g (some e) (dPart t) := PO.imp (po_some h) fun σ H Q ⟨F, ρ, φ, ψ, I, h, k⟩ => ⟨F, ρ, φ, _, I, h, fun r ρ1 F1 φ1 v H1 h1 I1 x1 o1 => by
  cases r with
  | b i => exact h1.elim
  | o s => exact h1.elim
  | d x =>
    cases x with
    | int i => exact ⟨i, o1, k _ _ _ _ _ h1 I1 x1⟩
    | _ => exact h1.elim⟩
def cutL {α : Type} (xs : List α) (lo hi : Option Int) : List α := (xs.drop (HT.sIx xs.length 0 lo)).take (HT.sIx xs.length xs.length hi - HT.sIx xs.length 0 lo)
def fSl (x : D) (lo hi : Option Int) (P : D → Prop) : Prop := match x with
  | .str s => s.length ≤ sizeLine ∧ P (.str (cutL s lo hi))
  | .lst ds => P (.lst (cutL ds lo hi))
  | .scr ds => P (.lst (cutL ds lo hi))
  | .tup ds => P (.tup (cutL ds lo hi))
  | _ => False
theorem RpL.cut {K : PySem.W.Frag} {F : Hp} {ds : List D} {vs : List V} {lo hi : Option Int} (r : RpL K F ds vs) : RpL K F (cutL ds lo hi) (cutV vs lo hi) := by
  unfold cutL cutV
  rw [r.length]
  exact (r.drop _).take _
theorem cut_whole {α : Type} {xs : List α} {lo hi : Option Int} (h : HT.sIx xs.length 0 lo = 0 ∧ HT.sIx xs.length xs.length hi = xs.length) : cutL xs lo hi = xs := by
  unfold cutL
  rw [h.1, h.2]
  simp
def rSl (K : PySem.W.Frag) : V → Option Int → Option Int → Hp → VK → Prop := fun u lo hi H Q => ∃ F x P, Same F H ∧ RpR K F H x u ∧ fSl x lo hi P ∧ Gives F H P K Q
theorem SlR.imp {r r' : V → Option Int → Option Int → Hp → VK → Prop} (h : SlR X r) (k : ∀ x lo hi H Q, r' x lo hi H Q → r x lo hi H Q) : SlR X r' :=
  fun pins s σ H x v vl vu lo hi sl Q I rx hs pl pu q => h pins s σ H x v vl vu lo hi sl Q I rx hs pl pu (k x lo hi H Q q)
theorem s_sl : SlR X (rSl X.K) := SlR.imp (SlR.or sl_str (SlR.or sl_list sl_tupA)) fun u lo hi H Q ⟨F, x, P, S, rx, q, k⟩ => by
  unfold fSl at q
  split at q
  · cases rx
    refine .inl ⟨_, rfl, by simpa [Str.length] using q.1, k.now S q.2 ?_⟩
    simp only [Rp, cutS, cutL, Str.length, List.size_toArray]
  · obtain ⟨a, xs, rfl, h, r⟩ := rx
    exact .inr (.inl ⟨a, xs, rfl, .of h, fun p hp => k _ _ _ _ q (.new S hp) ⟨_, _, rfl, upd_same, (r.cut).mono (Pur.new S hp).sub⟩⟩)
  · obtain ⟨a, xs, rfl, h, r⟩ := rx
    exact .inr (.inl ⟨a, xs, rfl, S.seq h, fun p hp => k _ _ _ _ q (.new S hp) ⟨_, _, rfl, upd_same, (r.cut).mono (Pur.new S hp).sub⟩⟩)
  · obtain ⟨a, xs, rfl, h, r⟩ := rx
    refine .inr (.inr ⟨a, xs, rfl, Same.seqT S h, fun e => ?_, fun e p hp => k _ _ _ _ q (.new S hp) ⟨_, _, rfl, .of upd_same, (r.cut).mono (Pur.new S hp).sub⟩⟩)
    rw [cut_whole (by rw [r.length]; exact e)] at q
    exact k.now S q ⟨a, xs, rfl, h, r⟩
  · exact q.elim
def dSl (t : DE) (lo hi : DO) : DE := fun ρ Q => t ρ fun r ρ1 => r.hold = true ∧ lo ρ1 fun l ρ2 => hi ρ2 fun u ρ3 => rd1 ρ3 r fun x => fSl x l u fun d => Q (.d d) ρ3
theorem de_sl {tl th : DO} (he : PEd X g e t) (hl : POd X g lo tl) (hu : POd X g hi th) : PEd X g (.Subscript e (.Slice lo hi none p2) pos) (dSl t tl th) :=
  PE.imp (pe_slice s_sl he hl hu) fun σ H Q ⟨F, ρ, φ, ψ, I, h, k⟩ => ⟨F, ρ, φ, _, I, h, fun r ρ1 F1 φ1 v H1 h1 I1 x1 o1 =>
    ⟨F1, ρ1, φ1, _, I1, h1.2, fun l ρ2 F2 φ2 H2 h2 I2 x2 => ⟨F2, ρ2, φ2, _, I2, h2, fun u ρ3 F3 φ3 H3 h3 I3 x3 => by
      obtain ⟨x, e, h3⟩ := rd1_of h3
      exact ⟨F3, x, _, I3.sub, seqv_ok I3 ((o1.ext x2).ext x3) e, h3, fun w H' d F' p pu r => k _ _ _ _ _ _ p (I3.pure pu) (((x1.trans x2).trans x3).trans (I3.ext pu)) r⟩⟩⟩⟩

/-! ### displays -/
def datas : List RV → Option (List D)
  | [] => some []
  | .d x :: rs => match datas rs with
    | some xs => some (x :: xs)
    | none => none
  | _ => none
theorem datas_ok {K : PySem.W.Frag} {F H : Hp} {σ : L2.St} {φ : Nat → List Addr} : ∀ {rs : List RV} {vs : List V} {ds : List D}, ValsOk K g F H σ φ rs vs → datas rs = some ds → RpL K F ds vs
  | [], _, _, h, e => by cases h; cases e; rfl
  | .d x :: rs, _, _, h, e => by
    obtain ⟨v, t, rfl, o, os⟩ := h
    unfold datas at e
    split at e
    · rename_i xs e1
      cases e
      exact ⟨v, t, rfl, o, datas_ok os e1⟩
    · cases e
def rdD (rs : List RV) (k : List D → Prop) : Prop := match datas rs with
  | some x => k x
  | none => False
theorem rdD_of {r : List RV} {k : List D → Prop} (h : rdD r k) : ∃ x, datas r = some x ∧ k x := by
  unfold rdD at h
  split at h
  · rename_i x e
    exact ⟨x, e, h⟩
  · exact h.elim
variable {es : List Expr} {ts : DA}
def dTup (ts : DA) : DE := fun ρ Q => ts ρ fun rs ρ1 => rdD rs fun ds => ds.length ≤ sizeLine ∧ Q (.d (.tup ds)) ρ1
def dLst (ts : DA) : DE := fun ρ Q => ts ρ fun rs ρ1 => rdD rs fun ds => ds.length ≤ sizeLine ∧ Q (.o (.own true ds)) ρ1
theorem de_tup {x1} (h : PAd X g es ts) : PEd X g (.Tuple es x1 pos) (dTup ts) :=
  PE.imp (pe_tup h) fun σ H Q ⟨F, ρ, φ, ψ, I, h, k⟩ => ⟨F, ρ, φ, _, I, h, fun rs ρ1 F1 φ1 vs H1 h1 I1 x1 o1 => by
    obtain ⟨ds, e, hz, h1⟩ := rdD_of h1
    have r := datas_ok o1 e
    refine ⟨by rw [← r.length]; exact hz, fun p hp => ?_⟩
    have pu := Pur.new (o := .tup vs) I1.sub hp
    exact k _ _ _ _ _ _ h1 (I1.pure pu) (x1.trans (I1.ext pu)) ⟨p, vs, rfl, .of upd_same, r.mono pu.sub⟩⟩
/-- a new own list -/
theorem own_new {K : PySem.W.Frag} {F H : Hp} {σ : L2.St} {ρ : List Sl} {φ : Nat → List Addr} {vs : List V} {ds : List D} {p : Addr} (I : SI K g F H σ ρ φ) (r : RpL K F ds vs) (hp : H p = none) :
    SI K g F (upd H p (.lst vs)) σ ρ φ ∧ Ext F H φ F (upd H p (.lst vs)) φ ∧ ValOk K g F (upd H p (.lst vs)) σ φ (NW H φ) (.ref p) (.o (.own true ds)) := by
  have pu := Pur.add (o := .lst vs) I.sub hp
  refine ⟨I.pure pu, I.ext pu, rfl, [p], ⟨p, vs, rfl, rfl, upd_same, r⟩, fun a ha => .inl (by rw [List.mem_singleton.mp ha]; exact hp), fun a ha => ?_⟩
  have e : a = p := List.mem_singleton.mp ha
  subst e
  refine ⟨?_, I.sub.free hp, fun j hj => I.there hj hp⟩
  cases q : g.H a with
  | none => rfl
  | some o => exact absurd hp (I.gon a (by rw [q]; exact fun z => by cases z))
theorem de_lst (h : PAd X g es ts) : PEd X g (.List es pos) (dLst ts) :=
  PE.imp (pe_lst h) fun σ H Q ⟨F, ρ, φ, ψ, I, h, k⟩ => ⟨F, ρ, φ, _, I, h, fun rs ρ1 F1 φ1 vs H1 h1 I1 x1 o1 => by
    obtain ⟨ds, e, hz, h1⟩ := rdD_of h1
    have r := datas_ok o1 e
    refine ⟨by rw [← r.length]; exact hz, fun p hp => ?_⟩
    obtain ⟨a, b, c⟩ := own_new I1 r hp
    exact k _ _ _ _ _ _ h1 a (x1.trans b) (c.imp fun _ => x1.back)⟩
/-- a new own list becomes data -/
def dFrz (t : DE) : DE := fun ρ Q => t ρ fun r ρ1 => match r with
  | .d x => Q (.d x) ρ1
  | .o (.own _ ds) => Q (.d (.lst ds)) ρ1
  | _ => False
theorem frz_own {K : PySem.W.Frag} {F H : Hp} {σ : L2.St} {ρ : List Sl} {φ : Nat → List Addr} {v : V} {m : Bool} {ds : List D} {N : Addr → Prop} (I : SI K g F H σ ρ φ) (o : ValOk K g F H σ φ N v (.o (.own m ds))) :
    ∃ F', SI K g F' H σ ρ φ ∧ Rp K F' (.lst ds) v ∧ Same F F' ∧ ∀ b, F' b ≠ none → F b ≠ none ∨ N b := by
  obtain ⟨_, fp, ⟨a, xs, e, e2, q, r⟩, n, w⟩ := o
  cases e
  subst e2
  obtain ⟨w1, w2, w3⟩ := w a List.mem_cons_self
  have na := n a List.mem_cons_self
  have S : Same F (upd F a (.lst xs)) := same_upd w2
  refine ⟨upd F a (.lst xs), ⟨I.len, fun i s e => (I.at_ i s e).mono S fun _ _ => rfl, I.out, I.dj, fun i b hb => ?_, fun b o h => ?_, I.f0.trans S, I.keep, I.fw, fun b h => ?_, I.mine, I.bor, I.gon, I.bfp⟩, ⟨a, xs, rfl, upd_same, r.mono S⟩, S, fun b h => ?_⟩
  · have hba : b ≠ a := fun z => by
      subst z
      exact w3 i hb
    rw [upd_ne hba]
    exact I.fr i b hb
  · by_cases hb : b = a
    · subst hb; rw [upd_same] at h; cases h; exact q
    · rw [upd_ne hb] at h; exact I.sub b o h
  · by_cases hb : b = a
    · subst hb; exact .inr w1
    · rw [upd_ne hb] at h; exact I.fn b h
  · by_cases hb : b = a
    · subst hb; exact .inr na
    · rw [upd_ne hb] at h; exact .inl h
theorem de_frz (h : PEd X g e t) : PEd X g e (dFrz t) :=
  PE.imp h fun σ H Q ⟨F, ρ, φ, ψ, I, h, k⟩ => ⟨F, ρ, φ, _, I, h, fun r ρ1 F1 φ1 v H1 h1 I1 x1 o1 => by
    cases r with
    | b i => exact h1.elim
    | d x => exact k _ _ _ _ _ _ h1 I1 x1 o1
    | o s =>
      cases s with
      | own m ds =>
        obtain ⟨F', I', r, S, n⟩ := frz_own I1 o1
        refine k _ _ _ _ _ _ h1 I' ⟨x1.sub.trans S, x1.keep, x1.fp, fun b hb => ?_, x1.gon⟩ r
        rcases n b hb with z | z | z
        · exact x1.fn b z
        · exact .inr (.inl z)
        · exact .inr (.inr z)
      | _ => exact h1.elim⟩
/-- list(x) -/
def dListOf (ta : DE) : DE := fun ρ Q => ta ρ fun r ρ1 => rd1 ρ1 r fun x => match x with
  | .lst ds => Q (.o (.own true ds)) ρ1
  | .tup ds => Q (.o (.own true ds)) ρ1
  | _ => False
theorem de_listOf {p : Pos} (hg : Gl X "list") (hm : X.mg "list" = none) (ha : PEd X g a ta) (na : starEach [a] X.env = (false, eval a X.env) :: starEach [] X.env := by rfl)
    (hpl : (backTo pos (starEach [] X.env)).any (·.1) = false := by rfl) : PEd X g (.Call (.Name "list" p) [a] [] pos) (dListOf ta) :=
  PE.imp (pe_callTy call_list_of hg hm boot_list (pa_cons ha pa_nil na) (he := na) (hpl := hpl)) fun σ H Q ⟨F, ρ, φ, ψ, I, h, k⟩ => ⟨F, ρ, φ, _, I, h, fun r ρ1 F1 φ1 v H1 h1 I1 x1 o1 => by
    obtain ⟨x, e, h1⟩ := rd1_of h1
    have q := seqv_ok I1 o1 e
    split at h1
    · obtain ⟨p, xs, rfl, h, r⟩ := q
      refine ⟨p, xs, rfl, .inl (.of h), fun l hl => ?_⟩
      obtain ⟨a, b, c⟩ := own_new I1 r hl
      exact k _ _ _ _ _ _ h1 a (x1.trans b) (c.imp fun _ => x1.back)
    · obtain ⟨p, xs, rfl, h, r⟩ := q
      refine ⟨p, xs, rfl, .inr (Same.seqT I1.sub h), fun l hl => ?_⟩
      obtain ⟨a, b, c⟩ := own_new I1 r hl
      exact k _ _ _ _ _ _ h1 a (x1.trans b) (c.imp fun _ => x1.back)
    · exact h1.elim⟩
/-- sep.join(xs) -/
def asStrs : List D → Option (List (List Nat))
  | [] => some []
  | .str i :: r => match asStrs r with
    | some l => some (i :: l)
    | none => none
  | _ => none
theorem asStrs_ok : ∀ {ds : List D} {ns : List (List Nat)}, asStrs ds = some ns → ds = ns.map .str
  | [], _, h => by cases h; rfl
  | .str i :: r, _, h => by
    unfold asStrs at h
    split at h
    · rename_i l e
      cases h
      rw [asStrs_ok e]
      rfl
    · cases h
def fJoin : DB := fun x y P => match x, y with
  | .str s, .lst ds => ∃ ps, asStrs ds = some ps ∧ (ps.map List.length).sum + ps.length * s.length ≤ 16777216 ∧ P (.str (joinL s ps))
  | _, _ => False
theorem join_ok (s : List Nat) (ps : List (List Nat)) : Txt.join ⟨s.toArray⟩ (ps.map fun l => (⟨l.toArray⟩ : Str)) = ⟨(joinL s ps).toArray⟩ := by
  apply ext_tl
  rw [join_eq, tl_join, List.map_map]
  show joinL s (ps.map (tl ∘ fun l => (⟨l.toArray⟩ : Str))) = joinL s ps
  congr 1
  conv => rhs; rw [← List.map_id ps]
  rfl
def dM1 (f : DB) (ta tb : DE) : DE := fun ρ Q => ta ρ fun x ρ1 => match x with
  | .d (.str s) => tb ρ1 fun y ρ2 => rd1 ρ2 y fun y => f (.str s) y fun d => Q (.d d) ρ2
  | _ => False
theorem lE_m1 {K : PySem.W.Frag} {f : DB} {r : V → List V → Hp → VK → Prop} (hr : ∀ F x y P u v H Q, Same F H → Rp K F x u → RpR K F H y v → f x y P → Gives F H P K Q → r u [v] H Q) :
    ∀ σ H Q, lE K g (dM1 f ta tb) σ H Q → tM1 r (lE K g ta) (lE K g tb) σ H Q := by
  rintro σ H Q ⟨F, ρ, φ, ψ, I, h, k⟩
  refine ⟨F, ρ, φ, _, I, h, fun r1 ρ1 F1 φ1 v1 H1 h1 I1 x1 o1 => ?_⟩
  cases r1 with
  | b i => exact h1.elim
  | o s => exact h1.elim
  | d x =>
    cases x with
    | str s =>
      have e : v1 = .str ⟨s.toArray⟩ := o1
      subst e
      refine ⟨⟨_, rfl⟩, F1, ρ1, φ1, _, I1, h1, fun r2 ρ2 F2 φ2 v2 H2 h2 I2 x2 o2 => ?_⟩
      obtain ⟨y, ey, h2⟩ := rd1_of h2
      exact hr F2 (.str s) y _ _ _ H2 Q I2.sub rfl (seqv_ok I2 o2 ey) h2 fun w H' d F' p pu r => k _ _ _ _ _ _ p (I2.pure pu) ((x1.trans x2).trans (I2.ext pu)) r
    | _ => exact h1.elim
theorem de_join {apos : Pos} (ha : PEd X g a ta) (hb : PEd X g b tb) (hs : starEach [b] X.env = [(false, eval b X.env)] := by rfl) (hbase : attributeBase a "join" X.env (eval a X.env) = eval a X.env := by rfl) (hline : (apos.endLine == pos.line) = true := by rfl) :
    PEd X g (.Call (.Attribute a "join" apos) [b] [] pos) (dM1 fJoin ta tb) :=
  PE.imp (pe_join ha hb hs hbase hline) (lE_m1 fun F x y P u v H Q S rx ry q k => by
    unfold fJoin at q
    split at q
    · cases rx
      obtain ⟨p, xs, rfl, h, r⟩ := ry
      obtain ⟨ps, e, hz, q⟩ := q
      rw [asStrs_ok e] at r
      rw [r.strs] at h
      refine ⟨_, p, _, rfl, rfl, .inl (.of h), ?_, k.now S q ?_⟩
      · rw [List.map_map, List.length_map]
        have e1 : (ps.map ((fun x : Str => x.length) ∘ fun l => (⟨l.toArray⟩ : Str))) = ps.map List.length := by
          apply List.map_congr_left
          intro l _
          simp [Str.length]
        rw [e1]
        simpa [Str.length] using hz
      · show V.str _ = V.str _
        rw [join_ok]
    · exact q.elim)

/-! ### isinstance -/
def D.ty : D → String
  | .non => "NoneType"
  | .bl _ => "bool"
  | .int _ => "int"
  | .str _ => "str"
  | .tup _ => "tuple"
  | .lst _ => "list"
  | .scr _ => "list"
theorem RpR.tyX {K : PySem.W.Frag} {F H : Hp} {x : D} {u : V} (S : Same F H) (h : RpR K F H x u) (hx : ∀ ds, x ≠ .scr ds) : TyX K H u (.type x.ty) := by
  cases x with
  | non => cases h; exact .base .non
  | bl b => cases h; exact .base (.bl b)
  | int b => cases h; exact .base (.int b)
  | str b => cases h; exact .base (.str _)
  | tup b =>
    obtain ⟨a, xs, rfl, q, r⟩ := h
    rcases q with (q | ⟨o, q⟩) | ⟨o, its, n, hk, hc, _⟩
    · exact .base (.tup (S _ _ q))
    · exact .fTuple (S _ _ q)
    · exact .kTuple hk hc
  | lst b =>
    obtain ⟨a, xs, rfl, q, r⟩ := h
    exact .base (.lst q)
  | scr b => exact absurd rfl (hx b)
/-- isinstance(x, T): T a built-in class -/
def D.isi (x : D) (T : String) : Option Bool := match x with
  | .scr _ => none
  | x => kitB x.ty T
def dIsi (T : String) (ta : DE) : DE := fun ρ Q => ta ρ fun r ρ1 => rd1 ρ1 r fun x => ∃ b, x.isi T = some b ∧ Q (.d (.bl b)) ρ1
theorem isi_ne {x : D} {T : String} {b : Bool} (h : x.isi T = some b) : (∀ ds, x ≠ .scr ds) ∧ kitB x.ty T = some b := by
  cases x with
  | scr ds => cases h
  | _ => exact ⟨(fun _ e => by cases e), h⟩
theorem de_isi {p p2 : Pos} {c : Str} {T : String} (hg : Gl X "isinstance") (hm : X.mg "isinstance" = none) (ha : PEd X g a ta) (gc : Gl X c) (mc : X.mg c = none) (vc : bootBuiltins c = some (.type T))
    (hn : c ≠ "__name__" := by decide) (hd : (c == ("__debug__" : Str)) = false := by decide)
    (he : starEach (a :: [.Name c p2]) X.env = (false, eval a X.env) :: starEach [.Name c p2] X.env := by rfl) (he2 : starEach [.Name c p2] X.env = (false, eval (.Name c p2) X.env) :: starEach [] X.env := by rfl)
    (hpl : (backTo pos (starEach [.Name c p2] X.env)).any (·.1) = false := by rfl) : PEd X g (.Call (.Name "isinstance" p) [a, .Name c p2] [] pos) (dIsi T ta) :=
  PE.imp (pe_callB call_isi hg hm (by exact boot_isinstance) (pa_cons ha (pa_cons (pe_bltn (v := .ty T) gc mc vc rfl hn hd) pa_nil he2) he) (he := he) (hpl := hpl)) fun σ H Q ⟨F, ρ, φ, ψ, I, h, k⟩ => ⟨F, ρ, φ, _, I, h, fun r ρ1 F1 φ1 v H1 h1 I1 x1 o1 => by
    obtain ⟨x, e, b, hb, h1⟩ := rd1_of h1
    obtain ⟨n1, n2⟩ := isi_ne hb
    exact ⟨v, .ty T, _, _, b, rfl, .ty T, (seqv_ok I1 o1 e).tyX I1.sub n1, kit_ty n2, k _ _ _ _ _ _ h1 I1 x1 rfl⟩⟩
/-- isinstance(x, (T, U)) -/
def dIsi2 (T U : String) (ta : DE) : DE := fun ρ Q => ta ρ fun r ρ1 => rd1 ρ1 r fun x => ∃ b c, x.isi T = some b ∧ x.isi U = some c ∧ Q (.d (.bl (b || c))) ρ1
theorem de_isi2 {p p2 p3 p4 : Pos} {x1} {c d : Str} {T U : String} (hg : Gl X "isinstance") (hm : X.mg "isinstance" = none) (ha : PEd X g a ta) (gc : Gl X c) (mc : X.mg c = none) (vc : bootBuiltins c = some (.type T)) (gd : Gl X d) (md : X.mg d = none) (vd : bootBuiltins d = some (.type U))
    (hn : c ≠ "__name__" := by decide) (hd : (c == ("__debug__" : Str)) = false := by decide) (hn2 : d ≠ "__name__" := by decide) (hd2 : (d == ("__debug__" : Str)) = false := by decide)
    (he : starEach (a :: [.Tuple [.Name c p2, .Name d p3] x1 p4]) X.env = (false, eval a X.env) :: starEach [.Tuple [.Name c p2, .Name d p3] x1 p4] X.env := by rfl) (he2 : starEach [.Tuple [.Name c p2, .Name d p3] x1 p4] X.env = (false, eval (.Tuple [.Name c p2, .Name d p3] x1 p4) X.env) :: starEach [] X.env := by rfl)
    (he3 : starEach (.Name c p2 :: [.Name d p3]) X.env = (false, eval (.Name c p2) X.env) :: starEach [.Name d p3] X.env := by rfl) (he4 : starEach [.Name d p3] X.env = (false, eval (.Name d p3) X.env) :: starEach [] X.env := by rfl)
    (hpl : (backTo pos (starEach [.Tuple [.Name c p2, .Name d p3] x1 p4] X.env)).any (·.1) = false := by rfl) : PEd X g (.Call (.Name "isinstance" p) [a, .Tuple [.Name c p2, .Name d p3] x1 p4] [] pos) (dIsi2 T U ta) :=
  PE.imp (pe_callB call_isiT hg hm (by exact boot_isinstance) (pa_cons ha (pa_cons (pe_tup (pa_cons (pe_bltn (v := .ty T) gc mc vc rfl hn hd) (pa_cons (pe_bltn (v := .ty U) gd md vd rfl hn2 hd2) pa_nil he4) he3)) pa_nil he2) he) (he := he) (hpl := hpl)) fun σ H Q ⟨F, ρ, φ, ψ, I, h, k⟩ => ⟨F, ρ, φ, _, I, h, fun r ρ1 F1 φ1 v H1 h1 I1 x1 o1 => by
    obtain ⟨x, e, b, c, hb, hc, h1⟩ := rd1_of h1
    obtain ⟨n1, n2⟩ := isi_ne hb
    obtain ⟨m1, m2⟩ := isi_ne hc
    refine ⟨by show 2 ≤ sizeLine; decide, fun tp htp => ?_⟩
    have pu := Pur.add (o := .tup [.ty T, .ty U]) I1.sub htp
    have I2 := I1.pure pu
    have o2 := o1.ext (I1.ext pu)
    refine ⟨v, tp, _, _, [.type T, .type U], b || c, rfl, upd_same, .cons (.ty T) (.cons (.ty U) .nil), (seqv_ok I2 o2 e).tyX I2.sub n1, ?_, k _ _ _ _ _ _ h1 I2 (x1.trans (I1.ext pu)) rfl⟩
    refine kitAny_cons (kit_ty n2) (fun hb0 => ?_) (fun hb1 => by rw [hb1]; rfl)
    refine kitAny_cons (kit_ty m2) (fun hc0 => ?_) (fun hc1 => by rw [hc1, Bool.or_true])
    rw [hb0, hc0]
    exact kitAny_nil⟩
end
end DL

set_option maxRecDepth 100000
set_option maxHeartbeats 4000000
namespace DL
open PySem PySem.Spec PyProof.Rows L2 TL SkE

/-! ### blocks, small statements -/
section
variable {X : Cx} {g : G} {st : Stmt} {rest : List Stmt} {t u : DS} {e a b : Expr} {te ta tb : DE} {pos : Pos}
def dNext : DS := fun ψ ρ => ψ.nx ρ
def dSeq (t u : DS) : DS := fun ψ ρ => t { ψ with nx := u ψ } ρ
theorem dss_nil : PSsd X g [] dNext := PSs.imp pss_nil fun D σ H ⟨F, ρ, φ, ψ, I, h, k, _⟩ => k _ _ _ _ _ h I (.refl _)
theorem dss_cons (h1 : PSd X g st t) (h2 : PSsd X g rest u) : PSsd X g (st :: rest) (dSeq t u) :=
  PSs.imp (pss_cons h1 h2) fun D σ H ⟨F, ρ, φ, ψ, I, h, k1, k2, k3, k4⟩ => ⟨F, ρ, φ, { ψ with nx := u ψ }, I, h, fun ρ' F' φ' σ' H' q I' S =>
    ⟨F', ρ', φ', ψ, I', q, fun _ _ _ _ _ q' I'' S' => k1 _ _ _ _ _ q' I'' (S.trans S'), fun _ _ _ _ _ _ _ q' I'' S' => k2 _ _ _ _ _ _ _ q' I'' (S.trans S'),
      fun _ _ _ _ _ q' I'' S' => k3 _ _ _ _ _ q' I'' (S.trans S'), fun _ _ _ _ _ q' I'' S' => k4 _ _ _ _ _ q' I'' (S.trans S')⟩, k2, k3, k4⟩
theorem dss_one (h1 : PSd X g st t) : PSsd X g [st] t := pss_one h1
def dBreak : DS := fun ψ ρ => ψ.bk ρ
def dCont : DS := fun ψ ρ => ψ.ct ρ
theorem ds_pass : PSd X g (.Pass pos) dNext := PS.imp ps_pass fun D σ H ⟨F, ρ, φ, ψ, I, h, k, _⟩ => k _ _ _ _ _ h I (.refl _)
theorem ds_break : PSd X g (.Break pos) dBreak := PS.imp ps_break fun D σ H ⟨F, ρ, φ, ψ, I, h, _, _, k, _⟩ => k _ _ _ _ _ h I (.refl _)
theorem ds_continue : PSd X g (.Continue pos) dCont := PS.imp ps_continue fun D σ H ⟨F, ρ, φ, ψ, I, h, _, _, _, k⟩ => k _ _ _ _ _ h I (.refl _)
def dNever : DS := fun _ _ => False
theorem ds_never : PSd X g st dNever := PS.imp ps_never fun D σ H ⟨F, ρ, φ, ψ, I, h, _⟩ => h.elim
def dDrop (te : DE) : DS := fun ψ ρ => te ρ fun _ ρ1 => ψ.nx ρ1
theorem ds_expr (he : PEd X g e te) (hs : swapsWith e none pos.line X.env = pure false := by rfl) : PSd X g (.Expr e pos) (dDrop te) :=
  PS.imp (ps_expr he hs) fun D σ H ⟨F, ρ, φ, ψ, I, h, k, _⟩ => ⟨F, ρ, φ, _, I, h, fun r ρ1 F1 φ1 v H1 h1 I1 x1 o1 => k _ _ _ _ _ h1 I1 x1.sub⟩
def dRet (te : DE) : DS := fun ψ ρ => te ρ ψ.rt
theorem ds_ret (he : PEd X g e te) : PSd X g (.Return (some e) pos) (dRet te) :=
  PS.imp (ps_ret he) fun D σ H ⟨F, ρ, φ, ψ, I, h, _, k, _⟩ => ⟨F, ρ, φ, _, I, h, fun r ρ1 F1 φ1 v H1 h1 I1 x1 o1 => k _ _ _ _ _ _ _ h1 I1 x1.sub (o1.imp fun _ _ => trivial)⟩
def dRetN : DS := fun ψ ρ => ψ.rt (.d .non) ρ
theorem ds_retN : PSd X g (.Return none pos) dRetN := PS.imp ps_retN fun D σ H ⟨F, ρ, φ, ψ, I, h, _, k, _⟩ => k _ _ _ _ _ _ _ h I (.refl _) rfl
def dIfS (c : DT) (t u : DS) : DS := fun ψ ρ => c ρ fun b ρ1 => if b = true then t ψ ρ1 else u ψ ρ1
theorem ds_if {c : Expr} {a b : List Stmt} {tc : DT} (hc : PTd X g c tc) (ha : PSsd X g a t) (hb : PSsd X g b u) : PSd X g (.If c a b pos) (dIfS tc t u) :=
  PS.imp (ps_if hc ha hb) fun D σ H ⟨F, ρ, φ, ψ, I, h, k1, k2, k3, k4⟩ => ⟨F, ρ, φ, _, I, h, fun b ρ1 F1 φ1 H1 h1 I1 x1 => by
    have S := x1.sub
    cases b with
    | true =>
      dsimp only at h1 ⊢
      rw [if_pos rfl] at h1 ⊢
      exact ⟨F1, ρ1, φ1, ψ, I1, h1, fun _ _ _ _ _ q' I'' S' => k1 _ _ _ _ _ q' I'' (S.trans S'), fun _ _ _ _ _ _ _ q' I'' S' => k2 _ _ _ _ _ _ _ q' I'' (S.trans S'),
        fun _ _ _ _ _ q' I'' S' => k3 _ _ _ _ _ q' I'' (S.trans S'), fun _ _ _ _ _ q' I'' S' => k4 _ _ _ _ _ q' I'' (S.trans S')⟩
    | false =>
      dsimp only at h1 ⊢
      rw [if_neg Bool.false_ne_true] at h1 ⊢
      exact ⟨F1, ρ1, φ1, ψ, I1, h1, fun _ _ _ _ _ q' I'' S' => k1 _ _ _ _ _ q' I'' (S.trans S'), fun _ _ _ _ _ _ _ q' I'' S' => k2 _ _ _ _ _ _ _ q' I'' (S.trans S'),
        fun _ _ _ _ _ q' I'' S' => k3 _ _ _ _ _ q' I'' (S.trans S'), fun _ _ _ _ _ q' I'' S' => k4 _ _ _ _ _ q' I'' (S.trans S')⟩⟩
end

/-! ### names stored -/
/-- addresses of a slot changed -/
def upφ (φ : Nat → List Addr) (i : Nat) (fp : List Addr) : Nat → List Addr := fun j => if j = i then fp else φ j
theorem upφ_same {φ : Nat → List Addr} {i : Nat} {fp : List Addr} : upφ φ i fp i = fp := if_pos rfl
theorem upφ_ne {φ : Nat → List Addr} {i j : Nat} {fp : List Addr} (h : j ≠ i) : upφ φ i fp j = φ j := if_neg h
section
variable {K : PySem.W.Frag} {g : G} {F H : Hp} {σ : L2.St} {ρ : List Sl} {φ : Nat → List Addr}
/-- what a name may be given -/
def rvSl : RV → Option Sl
  | .d x => some (.dat x)
  | .o s => some s
  | .b _ => none
theorem SI.store (I : SI K g F H σ ρ φ) {i : Nat} {v : V} {r : RV} {s : Sl} {N : Addr → Prop} (hi : i < ρ.length) (o : ValOk K g F H σ φ N v r) (e : rvSl r = some s) :
    ∃ φ', SI K g F H (σ.set i (some v)) (ρ.set i s) φ' := by
  have key : ∃ fp, SlOk K F H (some v) fp s ∧ (∀ a ∈ fp, g.H a = none ∧ F a = none ∧ ∀ j, a ∉ φ j) ∧ (s.res = true → s.mn = true) := by
    cases r with
    | b j => cases e
    | d x => cases e; exact ⟨[], ⟨rfl, v, rfl, o⟩, fun a ha => by simp at ha, fun h => by cases h⟩
    | o s' =>
      cases e
      obtain ⟨m, fp, q, n, w⟩ := o
      exact ⟨fp, q, w, fun _ => m⟩
  obtain ⟨fp, q, w, m⟩ := key
  refine ⟨upφ φ i fp, by simpa using I.len, fun j s' h => ?_, fun j h => ?_, fun j k a h1 h2 => ?_, fun j a h => ?_, I.sub, I.f0, I.keep, fun j a h => ?_, I.fn, fun j s' a h h1 h2 => ?_, fun j s' h h1 h2 => ?_, I.gon, fun j s' a h h1 h2 h3 => ?_⟩
  · by_cases hj : j = i
    · subst hj
      rw [List.getElem?_set_self hi] at h
      cases h
      rw [upφ_same, List.getElem?_set_self (by rw [I.len]; exact hi)]
      exact q
    · rw [List.getElem?_set_ne (Ne.symm hj)] at h
      rw [upφ_ne hj, List.getElem?_set_ne (Ne.symm hj)]
      exact I.at_ j s' h
  · by_cases hj : j = i
    · subst hj
      rw [List.getElem?_set_self hi] at h
      cases h
    · rw [List.getElem?_set_ne (Ne.symm hj)] at h
      rw [upφ_ne hj]
      exact I.out j h
  · by_cases hj : j = i
    · by_cases hk : k = i
      · rw [hj, hk]
      · subst hj
        rw [upφ_same] at h1
        rw [upφ_ne hk] at h2
        exact absurd h2 ((w a h1).2.2 k)
    · by_cases hk : k = i
      · subst hk
        rw [upφ_same] at h2
        rw [upφ_ne hj] at h1
        exact absurd h1 ((w a h2).2.2 j)
      · rw [upφ_ne hj] at h1
        rw [upφ_ne hk] at h2
        exact I.dj j k a h1 h2
  · by_cases hj : j = i
    · subst hj
      rw [upφ_same] at h
      exact (w a h).2.1
    · rw [upφ_ne hj] at h
      exact I.fr j a h
  · by_cases hj : j = i
    · subst hj
      rw [upφ_same] at h
      exact .inr (w a h).1
    · rw [upφ_ne hj] at h
      exact I.fw j a h
  · by_cases hj : j = i
    · subst hj
      rw [upφ_same] at h2
      exact (w a h2).1
    · rw [List.getElem?_set_ne (Ne.symm hj)] at h
      rw [upφ_ne hj] at h2
      exact I.mine j s' a h h1 h2
  · by_cases hj : j = i
    · subst hj
      rw [List.getElem?_set_self hi] at h
      cases h
      rw [m h1] at h2
      cases h2
    · rw [List.getElem?_set_ne (Ne.symm hj)] at h
      rw [List.getElem?_set_ne (Ne.symm hj)]
      exact I.bor j s' h h1 h2
  · by_cases hj : j = i
    · subst hj
      rw [List.getElem?_set_self hi] at h
      cases h
      rw [m h1] at h2
      cases h2
    · rw [List.getElem?_set_ne (Ne.symm hj)] at h
      rw [upφ_ne hj] at h3
      exact I.bfp j s' a h h1 h2 h3
theorem SI.storeD (I : SI K g F H σ ρ φ) {i : Nat} {v : V} {d : D} (hi : i < ρ.length) (r : Rp K F d v) :
    ∃ φ', SI K g F H (σ.set i (some v)) (ρ.set i (.dat d)) φ' ∧ ∀ j a, a ∈ φ' j → a ∈ φ j := by
  obtain ⟨φ', J⟩ := I.store (r := .d d) (N := fun _ => True) hi r rfl
  refine ⟨upφ φ i [], ⟨J.len, fun j s' h => ?_, fun j h => ?_, fun j k a h1 h2 => ?_, fun j a h => ?_, J.sub, J.f0, J.keep, fun j a h => ?_, J.fn, fun j s' a h h1 h2 => ?_, J.bor, J.gon, fun j s' a h h1 h2 h3 => ?_⟩, fun j a h => ?_⟩
  · by_cases hj : j = i
    · subst hj
      rw [List.getElem?_set_self hi] at h
      cases h
      rw [upφ_same, List.getElem?_set_self (by rw [I.len]; exact hi)]
      exact ⟨rfl, v, rfl, r⟩
    · rw [List.getElem?_set_ne (Ne.symm hj)] at h
      rw [upφ_ne hj, List.getElem?_set_ne (Ne.symm hj)]
      exact I.at_ j s' h
  · by_cases hj : j = i
    · rw [hj, upφ_same]
    · rw [List.getElem?_set_ne (Ne.symm hj)] at h
      rw [upφ_ne hj]
      exact I.out j h
  · by_cases hj : j = i
    · rw [hj, upφ_same] at h1; simp at h1
    · by_cases hk : k = i
      · rw [hk, upφ_same] at h2; simp at h2
      · rw [upφ_ne hj] at h1
        rw [upφ_ne hk] at h2
        exact I.dj j k a h1 h2
  · by_cases hj : j = i
    · rw [hj, upφ_same] at h; simp at h
    · rw [upφ_ne hj] at h
      exact I.fr j a h
  · by_cases hj : j = i
    · rw [hj, upφ_same] at h; simp at h
    · rw [upφ_ne hj] at h
      exact I.fw j a h
  · by_cases hj : j = i
    · rw [hj, upφ_same] at h2; simp at h2
    · rw [List.getElem?_set_ne (Ne.symm hj)] at h
      rw [upφ_ne hj] at h2
      exact I.mine j s' a h h1 h2
  · by_cases hj : j = i
    · rw [hj, upφ_same] at h3; simp at h3
    · rw [List.getElem?_set_ne (Ne.symm hj)] at h
      rw [upφ_ne hj] at h3
      exact I.bfp j s' a h h1 h2 h3
  · by_cases hj : j = i
    · rw [hj, upφ_same] at h; simp at h
    · rw [upφ_ne hj] at h
      exact h
/-- something beside the slots and the data changes -/
theorem SI.aside (I : SI K g F H σ ρ φ) {p : Addr} {o : HO} (hF : F p = none) (hφ : ∀ j, p ∉ φ j) (hg : g.H p = none) : SI K g F (upd H p o) σ ρ φ := by
  refine ⟨I.len, fun i s e => (I.at_ i s e).mono (.refl _) fun a ha => upd_ne (fun z => hφ i (by rw [← z]; exact ha)), I.out, I.dj, I.fr, fun b x h => ?_, I.f0, fun b x h n => ?_, I.fw, I.fn, I.mine, I.bor, fun b h => ?_, I.bfp⟩
  · rw [upd_ne (fun z => by rw [z, hF] at h; cases h)]
    exact I.sub b x h
  · rw [upd_ne (fun z => by rw [z, hg] at h; cases h)]
    exact I.keep b x h n
  · by_cases hb : b = p
    · rw [hb, upd_same]; exact fun z => by cases z
    · rw [upd_ne hb]; exact I.gon b h
theorem Ext.aside {F1 H1 φ1 F H φ} (x : Ext F1 H1 φ1 F H φ) {p : Addr} {o : HO} (hp : H1 p = none) : Ext F1 H1 φ1 F (upd H p o) φ := by
  refine ⟨x.sub, fun b y h n => ?_, x.fp, x.fn, fun b h => ?_⟩
  · rw [upd_ne (fun z => by rw [z, hp] at h; cases h)]
    exact x.keep b y h n
  · rw [upd_ne (fun z => h (by rw [z]; exact hp))]
    exact x.gon b h
theorem Ext.less {F H φ φ'} (h : ∀ j a, a ∈ φ' j → ∃ k, a ∈ φ k) : Ext F H φ F H φ' := ⟨.refl _, fun _ _ q _ => q, fun i a z => .inl (h i a z), fun _ z => .inl z, fun _ z => z⟩
theorem slot_lt {ρ : List Sl} {i : Nat} {s : Sl} (h : ρ[i]? = some s) : i < ρ.length := (List.getElem?_eq_some_iff.mp h).1
end
/-- ρ with s at i, i within -/
def stSl (i : Nat) (r : RV) (ρ : List Sl) (k : List Sl → Prop) : Prop := i < ρ.length ∧ match rvSl r with
  | some s => k (ρ.set i s)
  | none => False
theorem stSl_of {i : Nat} {r : RV} {ρ : List Sl} {k : List Sl → Prop} (h : stSl i r ρ k) : ∃ s, i < ρ.length ∧ rvSl r = some s ∧ k (ρ.set i s) := by
  obtain ⟨h1, h2⟩ := h
  split at h2
  · rename_i s e
    exact ⟨s, h1, e, h2⟩
  · exact h2.elim
section
variable {X : Cx} {g : G} {e : Expr} {te : DE} {pos pos' : Pos} {i : Nat} {x : Str}
def dSet (i : Nat) (te : DE) : DS := fun ψ ρ => te ρ fun r ρ1 => stSl i r ρ1 ψ.nx
theorem ds_set (hN : X.N.Nodup) (hi : X.N[i]? = some x) (hx : Loc X.env.scope x) (he : PEd X g e te) (hs : swapsWith e (some (.Name x pos')) pos.line X.env = pure false := by rfl) (hf : X.fn x = true ∨ X.env.scope.names.lookup x = some .local := by first | exact .inl rfl | exact .inr rfl | assumption) :
    PSd X g (.Assign [.Name x pos'] e pos) (dSet i te) :=
  PS.imp (ps_set hN hi hx he hs hf) fun D σ H ⟨F, ρ, φ, ψ, I, h, k, _⟩ => ⟨F, ρ, φ, _, I, h, fun r ρ1 F1 φ1 v H1 h1 I1 x1 o1 => by
    obtain ⟨s, h2, h3, h4⟩ := stSl_of h1
    obtain ⟨φ', J⟩ := I1.store h2 o1 h3
    exact k _ _ _ _ _ h4 J x1.sub⟩
/-- x += e -/
def dAug (i : Nat) (f : DB) (te : DE) : DS := fun ψ ρ => match ρ[i]? with
  | some (.dat x) => te ρ fun r ρ1 => rd1 ρ1 r fun y => f x y fun d => i < ρ1.length ∧ ψ.nx (ρ1.set i (.dat d))
  | _ => False
def fAddA : DB := fun x y P => match x, y with
  | .int i, .int j => P (.int (i + j))
  | _, _ => False
theorem ds_augAdd (hN : X.N.Nodup) (hi : X.N[i]? = some x) (hx : Loc X.env.scope x) (he : PEd X g e te) (hf : X.fn x = true ∨ X.env.scope.names.lookup x = some .local := by first | exact .inl rfl | exact .inr rfl | assumption) :
    PSd X g (.AugAssign (.Name x pos') .Add e pos) (dAug i fAddA te) :=
  PS.imp (ps_aug hN hi hx he ip_add hf) fun D σ H ⟨F, ρ, φ, ψ, I, h, k, _⟩ => by
    unfold dAug at h
    split at h
    · rename_i x0 e0
      obtain ⟨_, v, q, r⟩ := I.at_ i _ e0
      refine ⟨v, join_some q, F, ρ, φ, _, I, h, fun r2 ρ1 F1 φ1 v1 H1 h1 I1 x1 o1 => ?_⟩
      obtain ⟨y, ey, h1⟩ := rd1_of h1
      have ry := seqv_ok I1 o1 ey
      unfold fAddA at h1
      split at h1
      · cases r; cases ry
        obtain ⟨φ', J⟩ := I1.store (r := .d (.int _)) (N := fun _ => True) h1.1 rfl rfl
        exact ⟨_, _, rfl, rfl, k _ _ _ _ _ h1.2 J x1.sub⟩
      · exact h1.elim
    · exact h.elim
end

/-! ### an own list changed -/
section
variable {K : PySem.W.Frag} {g : G} {F H : Hp} {σ : L2.St} {ρ : List Sl} {φ : Nat → List Addr}
/-- one own object of slot i changed in place, its addresses as they were -/
theorem SI.change (I : SI K g F H σ ρ φ) {i : Nat} {s s' : Sl} {a : Addr} {o : HO} (e : ρ[i]? = some s) (ha : a ∈ φ i) (q : SlOk K F (upd H a o) (σ[i]?.join) (φ i) s') (hm : s'.mn = s.mn) (hr : s.res = true) (hr' : s'.res = true) :
    SI K g F (upd H a o) σ (ρ.set i s') φ ∧ Ext F H φ F (upd H a o) φ := by
  have hi := slot_lt e
  have Fa : F a = none := I.fr i a ha
  have Ha := I.there ha
  have other : ∀ j b, j ≠ i → b ∈ φ j → b ≠ a := fun j b hj hb z => hj (I.dj j i b hb (by rw [z]; exact ha))
  refine ⟨⟨by simpa using I.len, fun j s2 h => ?_, fun j h => ?_, I.dj, I.fr, fun b x h => ?_, I.f0, fun b x h n => ?_, I.fw, I.fn, fun j s2 b h h1 h2 => ?_, fun j s2 h h1 h2 => ?_, fun b h => ?_, fun j s2 b h h1 h2 h3 => ?_⟩,
    ⟨.refl _, fun b x h n => ?_, fun j b h => .inl ⟨j, h⟩, fun b h => .inl h, fun b h => ?_⟩⟩
  · by_cases hj : j = i
    · subst hj
      rw [List.getElem?_set_self hi] at h
      cases h
      exact q
    · rw [List.getElem?_set_ne (Ne.symm hj)] at h
      exact (I.at_ j s2 h).mono (.refl _) fun b hb => upd_ne (other j b hj hb)
  · rw [List.getElem?_eq_none_iff, List.length_set, ← List.getElem?_eq_none_iff] at h
    exact I.out j h
  · rw [upd_ne (fun z => by rw [z, Fa] at h; cases h)]
    exact I.sub b x h
  · have nb : b ≠ a := fun z => by
      subst z
      rcases I.fw i b ha with w | w
      · exact n w
      · rw [h] at w; cases w
    rw [upd_ne nb]
    exact I.keep b x h n
  · by_cases hj : j = i
    · subst hj
      rw [List.getElem?_set_self hi] at h
      cases h
      exact I.mine j s b e (by rw [← hm]; exact h1) h2
    · rw [List.getElem?_set_ne (Ne.symm hj)] at h
      exact I.mine j s2 b h h1 h2
  · by_cases hj : j = i
    · subst hj
      rw [List.getElem?_set_self hi] at h
      cases h
      exact I.bor j s e hr (by rw [← hm]; exact h2)
    · rw [List.getElem?_set_ne (Ne.symm hj)] at h
      exact I.bor j s2 h h1 h2
  · by_cases hb : b = a
    · rw [hb, upd_same]; exact fun z => by cases z
    · rw [upd_ne hb]; exact I.gon b h
  · by_cases hj : j = i
    · subst hj
      rw [List.getElem?_set_self hi] at h
      cases h
      exact I.bfp j s b e hr (by rw [← hm]; exact h2) h3
    · rw [List.getElem?_set_ne (Ne.symm hj)] at h
      exact I.bfp j s2 b h h1 h2 h3
  · have nb : b ≠ a := fun z => n i (by rw [z]; exact ha)
    rw [upd_ne nb]
    exact h
  · by_cases hb : b = a
    · rw [hb, upd_same]; exact fun z => by cases z
    · rw [upd_ne hb]; exact h
/-- the own list of slot i gets other items -/
theorem SI.relist (I : SI K g F H σ ρ φ) {i : Nat} {m : Bool} {ds ds' : List D} (e : ρ[i]? = some (.own m ds)) : ∃ a xs, σ[i]? = some (some (.ref a)) ∧ H a = some (.lst xs) ∧ RpL K F ds xs ∧
    ∀ xs', RpL K F ds' xs' → SI K g F (upd H a (.lst xs')) σ (ρ.set i (.own m ds')) φ ∧ Ext F H φ F (upd H a (.lst xs')) φ := by
  obtain ⟨a, xs, e1, e2, q, r⟩ := I.at_ i _ e
  refine ⟨a, xs, join_some e1, q, r, fun xs' r' => ?_⟩
  exact I.change e (by rw [e2]; exact List.mem_cons_self) ⟨a, xs', e1, e2, upd_same, r'⟩ rfl rfl rfl
end
/-- the own list at i -/
def ownAt (ρ : List Sl) (i : Nat) (k : Bool → List D → Prop) : Prop := match ρ[i]? with
  | some (.own m ds) => k m ds
  | _ => False
theorem ownAt_of {ρ : List Sl} {i : Nat} {k : Bool → List D → Prop} (h : ownAt ρ i k) : ∃ m ds, ρ[i]? = some (.own m ds) ∧ k m ds := by
  unfold ownAt at h
  split at h
  · rename_i m ds e
    exact ⟨m, ds, e, h⟩
  · exact h.elim
section
variable {X : Cx} {g : G} {e : Expr} {te ti : DE} {pos cpos apos ppos : Pos} {i : Nat} {x : Str}
/-- x.append(e) -/
def dAppend (i : Nat) (te : DE) : DE := fun ρ Q => ownAt ρ i fun _ _ => te ρ fun r ρ1 => match r with
  | .d d => ownAt ρ1 i fun m ds => ds.length < sizeLine ∧ Q (.d .non) (ρ1.set i (.own m (ds ++ [d])))
  | _ => False
theorem de_append (i : Nat) (he : PEd X g e te) (hN : X.N[i]? = some x := by rfl) (hv : Vis X.env.scope x := by first | exact Or.inl rfl | exact Or.inr (Or.inl rfl) | exact Or.inr (Or.inr rfl)) (hd : (x == ("__debug__" : Str)) = false := by decide)
    (hcd : (x == ("__classdict__" : Str)) = false := by decide) (hs : starEach [e] X.env = (false, eval e X.env) :: starEach [] X.env := by rfl)
    (hbase : attributeBase (.Name x ppos) "append" X.env (eval (.Name x ppos) X.env) = eval (.Name x ppos) X.env := by rfl)
    (hfew : ((backTo cpos (starEach (e :: []) X.env)).all (fun x => !x.1) && (backToKw cpos (keywordEach [] X.env)).all (fun x => x.1.isSome)
      && decide ((e :: ([] : List Expr)).length + ([] : List Keyword).length + (if ([] : List Keyword).isEmpty then 0 else 1) < 30)) = true := by rfl)
    (hline : (apos.endLine == cpos.line) = true := by rfl) (hplain : (backTo cpos (starEach [] X.env)).any (·.1) = false := by rfl) :
    PEd X g (.Call (.Attribute (.Name x ppos) "append" apos) [e] [] cpos) (dAppend i te) :=
  PE.imp (pe_bm PySem.F.plainAttrs_list PySem.F.slot_list_append PySem.F.type_list_append mt_append (pv i hN hv hd hcd) (pa_cons he pa_nil hs) hbase hfew hline hs hplain) fun σ H Q ⟨F, ρ, φ, ψ, I, h, k⟩ => by
    obtain ⟨m, ds, e0, h⟩ := ownAt_of h
    obtain ⟨a, xs, e1, q, r, _⟩ := I.relist (ds' := ds) e0
    refine ⟨_, e1, .inl ⟨rfl, xs, .of q⟩, F, ρ, φ, _, I, h, fun r1 ρ1 F1 φ1 v H1 h1 I1 x1 o1 => ?_⟩
    cases r1 with
    | b j => exact h1.elim
    | o s => exact h1.elim
    | d d =>
      obtain ⟨m1, ds1, e2, hz, h1⟩ := ownAt_of h1
      obtain ⟨a1, xs1, e3, q1, r1, ch⟩ := I1.relist (ds' := ds1 ++ [d]) e2
      rw [e1] at e3
      cases e3
      obtain ⟨J, y⟩ := ch (xs1 ++ [v]) (r1.append (.one o1))
      exact ⟨_, xs1, v, rfl, rfl, q1, by rw [← r1.length]; exact hz, k _ _ _ _ _ _ h1 J (x1.trans y) rfl⟩
/-- x.pop() -/
def dPop (i : Nat) : DE := fun ρ Q => ownAt ρ i fun m ds => ∃ d, ds[ds.length - 1]? = some d ∧ Q (.d d) (ρ.set i (.own m ds.dropLast))
theorem de_pop (i : Nat) (hN : X.N[i]? = some x := by rfl) (hv : Vis X.env.scope x := by first | exact Or.inl rfl | exact Or.inr (Or.inl rfl) | exact Or.inr (Or.inr rfl)) (hd : (x == ("__debug__" : Str)) = false := by decide)
    (hcd : (x == ("__classdict__" : Str)) = false := by decide)
    (hbase : attributeBase (.Name x ppos) "pop" X.env (eval (.Name x ppos) X.env) = eval (.Name x ppos) X.env := by rfl) (hline : (apos.endLine == cpos.line) = true := by rfl) :
    PEd X g (.Call (.Attribute (.Name x ppos) "pop" apos) [] [] cpos) (dPop i) :=
  PE.imp (pe_bm0 PySem.F.plainAttrs_list PySem.F.slot_list_pop PySem.F.type_list_pop mt_pop (pv i hN hv hd hcd) hbase hline) fun σ H Q ⟨F, ρ, φ, ψ, I, h, k⟩ => by
    obtain ⟨m, ds, e0, d, hd, h⟩ := ownAt_of h
    obtain ⟨a, xs, e1, q, r, ch⟩ := I.relist (ds' := ds.dropLast) e0
    obtain ⟨J, y⟩ := ch xs.dropLast r.dropLast
    obtain ⟨w, hw, rw'⟩ := r.get hd
    rw [r.length] at hw
    exact ⟨_, e1, .inl ⟨rfl, xs, .of q⟩, a, xs, w, rfl, rfl, q, hw, k _ _ _ _ _ _ h J y rw'⟩
/-- x.pop(e) -/
def dPopAt (i : Nat) (te : DE) : DE := fun ρ Q => ownAt ρ i fun _ _ => te ρ fun r ρ1 => match r with
  | .d (.int j) => ownAt ρ1 i fun m ds => ∃ d, 0 ≤ j ∧ j < 2 ^ 62 ∧ ds[j.toNat]? = some d ∧ Q (.d d) (ρ1.set i (.own m (ds.eraseIdx j.toNat)))
  | _ => False
theorem de_popAt (i : Nat) (he : PEd X g e te) (hN : X.N[i]? = some x := by rfl) (hv : Vis X.env.scope x := by first | exact Or.inl rfl | exact Or.inr (Or.inl rfl) | exact Or.inr (Or.inr rfl)) (hd : (x == ("__debug__" : Str)) = false := by decide)
    (hcd : (x == ("__classdict__" : Str)) = false := by decide) (hs : starEach [e] X.env = (false, eval e X.env) :: starEach [] X.env := by rfl)
    (hbase : attributeBase (.Name x ppos) "pop" X.env (eval (.Name x ppos) X.env) = eval (.Name x ppos) X.env := by rfl)
    (hfew : ((backTo cpos (starEach (e :: []) X.env)).all (fun x => !x.1) && (backToKw cpos (keywordEach [] X.env)).all (fun x => x.1.isSome)
      && decide ((e :: ([] : List Expr)).length + ([] : List Keyword).length + (if ([] : List Keyword).isEmpty then 0 else 1) < 30)) = true := by rfl)
    (hline : (apos.endLine == cpos.line) = true := by rfl) (hplain : (backTo cpos (starEach [] X.env)).any (·.1) = false := by rfl) :
    PEd X g (.Call (.Attribute (.Name x ppos) "pop" apos) [e] [] cpos) (dPopAt i te) :=
  PE.imp (pe_bm PySem.F.plainAttrs_list PySem.F.slot_list_pop PySem.F.type_list_pop mt_popAt (pv i hN hv hd hcd) (pa_cons he pa_nil hs) hbase hfew hline hs hplain) fun σ H Q ⟨F, ρ, φ, ψ, I, h, k⟩ => by
    obtain ⟨m, ds, e0, h⟩ := ownAt_of h
    obtain ⟨a, xs, e1, q, r, _⟩ := I.relist (ds' := ds) e0
    refine ⟨_, e1, .inl ⟨rfl, xs, .of q⟩, F, ρ, φ, _, I, h, fun r1 ρ1 F1 φ1 v H1 h1 I1 x1 o1 => ?_⟩
    split at h1
    · rename_i j
      obtain ⟨m1, ds1, e2, d, h0, h3, hd, h1⟩ := ownAt_of h1
      obtain ⟨a1, xs1, e3, q1, r1, ch⟩ := I1.relist (ds' := ds1.eraseIdx j.toNat) e2
      rw [e1] at e3
      cases e3
      obtain ⟨J, y⟩ := ch (xs1.eraseIdx j.toNat) (r1.eraseIdx _)
      obtain ⟨w, hw, rw'⟩ := r1.get hd
      have hlt : j.toNat < xs1.length := (List.getElem?_eq_some_iff.mp hw).1
      have ev : v = .int j := o1
      subst ev
      exact ⟨_, xs1, j, j.toNat, w, rfl, rfl, q1, by omega, by omega, by rw [seqIndex_of h0 (by omega)], hw, k _ _ _ _ _ _ h1 J (x1.trans y) rw'⟩
    · exact h1.elim
/-- x.reverse() -/
def dReverse (i : Nat) : DE := fun ρ Q => ownAt ρ i fun m ds => Q (.d .non) (ρ.set i (.own m ds.reverse))
theorem de_reverse (i : Nat) (hN : X.N[i]? = some x := by rfl) (hv : Vis X.env.scope x := by first | exact Or.inl rfl | exact Or.inr (Or.inl rfl) | exact Or.inr (Or.inr rfl)) (hd : (x == ("__debug__" : Str)) = false := by decide)
    (hcd : (x == ("__classdict__" : Str)) = false := by decide)
    (hbase : attributeBase (.Name x ppos) "reverse" X.env (eval (.Name x ppos) X.env) = eval (.Name x ppos) X.env := by rfl) (hline : (apos.endLine == cpos.line) = true := by rfl) :
    PEd X g (.Call (.Attribute (.Name x ppos) "reverse" apos) [] [] cpos) (dReverse i) :=
  PE.imp (pe_bm0 PySem.F.plainAttrs_list PySem.F.slot_list_reverse PySem.F.type_list_reverse mt_reverse (pv i hN hv hd hcd) hbase hline) fun σ H Q ⟨F, ρ, φ, ψ, I, h, k⟩ => by
    obtain ⟨m, ds, e0, h⟩ := ownAt_of h
    obtain ⟨a, xs, e1, q, r, ch⟩ := I.relist (ds' := ds.reverse) e0
    obtain ⟨J, y⟩ := ch xs.reverse r.reverse
    exact ⟨_, e1, .inl ⟨rfl, xs, .of q⟩, a, xs, rfl, rfl, q, k _ _ _ _ _ _ h J y rfl⟩
/-- x[e1] = e2 -/
def dSetAt (i : Nat) (ti te : DE) : DS := fun ψ ρ => te ρ fun r ρ1 => match r with
  | .d d => ownAt ρ1 i fun _ _ => ti ρ1 fun r2 ρ2 => match r2 with
    | .d (.int j) => ownAt ρ2 i fun m ds => ∃ n, ixN ds.length j = some n ∧ ψ.nx (ρ2.set i (.own m (ds.set n d)))
    | _ => False
  | _ => False
end
/-- the own list of slot i becomes data (it was made here) -/
def frzSl (i : Nat) (ρ : List Sl) (k : List Sl → Prop) : Prop := match ρ[i]? with
  | some (.own true ds) => k (ρ.set i (.dat (.lst ds)))
  | some (.dat _) => k ρ
  | _ => False
section
variable {X : Cx} {g : G} {st : Stmt} {rest : List Stmt} {t u : DS} {K : PySem.W.Frag} {F H : Hp} {σ : L2.St} {ρ : List Sl} {φ : Nat → List Addr}
theorem SI.frz (I : SI K g F H σ ρ φ) {i : Nat} {k : List Sl → Prop} (h : frzSl i ρ k) : ∃ ρ' F' φ', k ρ' ∧ SI K g F' H σ ρ' φ' ∧ Same F F' := by
  unfold frzSl at h
  split at h
  · rename_i ds e
    obtain ⟨a, xs, e1, e2, q, r⟩ := I.at_ i _ e
    have ha : a ∈ φ i := by rw [e2]; exact List.mem_cons_self
    have Fa := I.fr i a ha
    have hi := slot_lt e
    have S : Same F (upd F a (.lst xs)) := same_upd Fa
    refine ⟨_, upd F a (.lst xs), upφ φ i [], h, ⟨by simpa using I.len, fun j s2 h2 => ?_, fun j h2 => ?_, fun j l b h1 h2 => ?_, fun j b h2 => ?_, fun b o h2 => ?_, I.f0.trans S, I.keep, fun j b h2 => ?_, fun b h2 => ?_, fun j s2 b h2 h3 h4 => ?_, fun j s2 h2 h3 h4 => ?_, I.gon, fun j s2 b h2 h3 h4 h5 => ?_⟩, S⟩
    · by_cases hj : j = i
      · subst hj
        rw [List.getElem?_set_self hi] at h2
        cases h2
        rw [upφ_same]
        exact ⟨rfl, _, e1, a, xs, rfl, upd_same, r.mono S⟩
      · rw [List.getElem?_set_ne (Ne.symm hj)] at h2
        rw [upφ_ne hj]
        exact (I.at_ j s2 h2).mono S fun _ _ => rfl
    · by_cases hj : j = i
      · rw [hj, upφ_same]
      · rw [upφ_ne hj]
        rw [List.getElem?_set_ne (Ne.symm hj)] at h2
        exact I.out j h2
    · by_cases hj : j = i
      · rw [hj, upφ_same] at h1; simp at h1
      · by_cases hl : l = i
        · rw [hl, upφ_same] at h2; simp at h2
        · rw [upφ_ne hj] at h1
          rw [upφ_ne hl] at h2
          exact I.dj j l b h1 h2
    · by_cases hj : j = i
      · rw [hj, upφ_same] at h2; simp at h2
      · rw [upφ_ne hj] at h2
        have nb : b ≠ a := fun z => hj (I.dj j i b h2 (by rw [z]; exact ha))
        rw [upd_ne nb]
        exact I.fr j b h2
    · by_cases hb : b = a
      · subst hb; rw [upd_same] at h2; cases h2; exact q
      · rw [upd_ne hb] at h2; exact I.sub b o h2
    · by_cases hj : j = i
      · rw [hj, upφ_same] at h2; simp at h2
      · rw [upφ_ne hj] at h2
        exact I.fw j b h2
    · by_cases hb : b = a
      · subst hb; exact .inr (I.mine i _ b e rfl ha)
      · rw [upd_ne hb] at h2; exact I.fn b h2
    · by_cases hj : j = i
      · rw [hj, upφ_same] at h4; simp at h4
      · rw [upφ_ne hj] at h4
        rw [List.getElem?_set_ne (Ne.symm hj)] at h2
        exact I.mine j s2 b h2 h3 h4
    · by_cases hj : j = i
      · subst hj
        rw [List.getElem?_set_self hi] at h2
        cases h2
        cases h3
      · rw [List.getElem?_set_ne (Ne.symm hj)] at h2
        exact I.bor j s2 h2 h3 h4
    · by_cases hj : j = i
      · rw [hj, upφ_same] at h5; simp at h5
      · rw [List.getElem?_set_ne (Ne.symm hj)] at h2
        rw [upφ_ne hj] at h5
        exact I.bfp j s2 b h2 h3 h4 h5
  · exact ⟨ρ, F, φ, h, I, .refl _⟩
  · exact h.elim
/-- ahead of a block -/
def dFz (i : Nat) (u : DS) : DS := fun ψ ρ => frzSl i ρ (u ψ)
theorem dss_frz (i : Nat) (h : PSsd X g rest u) : PSsd X g rest (dFz i u) :=
  PSs.imp h fun D σ H ⟨F, ρ, φ, ψ, I, h, k1, k2, k3, k4⟩ => by
    obtain ⟨ρ', F', φ', h', I', S⟩ := I.frz h
    exact ⟨F', ρ', φ', ψ, I', h', fun _ _ _ _ _ q' I'' S' => k1 _ _ _ _ _ q' I'' (S.trans S'), fun _ _ _ _ _ _ _ q' I'' S' => k2 _ _ _ _ _ _ _ q' I'' (S.trans S'),
        fun _ _ _ _ _ q' I'' S' => k3 _ _ _ _ _ q' I'' (S.trans S'), fun _ _ _ _ _ q' I'' S' => k4 _ _ _ _ _ q' I'' (S.trans S')⟩
end
end DL

set_option maxRecDepth 100000
set_option maxHeartbeats 4000000
namespace DL
open PySem PySem.Spec PyProof.Rows L2 TL SkE

/-! ### while -/
section
variable {X : Cx} {g : G} {pos : Pos}
def dWhile (c : DT) (body : DS) : DS := fun ψ ρ => ∃ W : Nat → List Sl → Prop, (∃ m, W m ρ) ∧ ∀ m ρ, W m ρ →
  c ρ fun b ρ1 => if b = true then body { ψ with nx := fun ρ' => ∃ m', m' < m ∧ W m' ρ', ct := fun ρ' => ∃ m', m' < m ∧ W m' ρ', bk := ψ.nx } ρ1 else ψ.nx ρ1
theorem ds_while {c : Expr} {body : List Stmt} {tc : DT} {tb : DS} (hp : PassesOwn (model X.prog X.w) X.A X.env X.xe) (hc : PTd X g c tc) (hb : PSsd X g body tb) : PSd X g (.While c body [] pos) (dWhile tc tb) :=
  PS.imp (ps_while hp hc hb) fun D σ H ⟨F, ρ, φ, ψ, I, ⟨W, ⟨m0, w0⟩, turn⟩, k1, k2, k3, k4⟩ =>
    ⟨fun m σ H => ∃ F' ρ φ, SI X.K g F' H σ ρ φ ∧ Same F F' ∧ W m ρ, ⟨m0, F, ρ, φ, I, .refl _, w0⟩, fun m σ H ⟨F1, ρ1, φ1, I1, S1, w1⟩ =>
      ⟨F1, ρ1, φ1, _, I1, turn m ρ1 w1, fun b ρ2 F2 φ2 H2 h2 I2 x2 => by
        have S2 := S1.trans x2.sub
        cases b with
        | true =>
          dsimp only at h2 ⊢
          rw [if_pos rfl] at h2 ⊢
          refine ⟨fun σ' H' => ∃ m', m' < m ∧ ∃ F' ρ φ, SI X.K g F' H' σ' ρ φ ∧ Same F F' ∧ W m' ρ, fun _ _ q => q, F2, ρ2, φ2, _, I2, h2, fun ρ' F' φ' σ' H' ⟨m', hm, q⟩ I' S' => ⟨m', hm, F', ρ', φ', I', S2.trans S', q⟩,
            fun _ _ _ _ _ _ _ q' I'' S' => k2 _ _ _ _ _ _ _ q' I'' (S2.trans S'), fun _ _ _ _ _ q' I'' S' => k1 _ _ _ _ _ q' I'' (S2.trans S'), fun ρ' F' φ' σ' H' ⟨m', hm, q⟩ I' S' => ⟨m', hm, F', ρ', φ', I', S2.trans S', q⟩⟩
        | false =>
          dsimp only at h2 ⊢
          rw [if_neg Bool.false_ne_true] at h2 ⊢
          exact k1 _ _ _ _ _ h2 I2 S2⟩⟩
end

/-! ### targets -/
/-- t d ρ ψ: d stored leaves slots of which ψ holds -/
abbrev DG := D → List Sl → (List Sl → Prop) → Prop
def lG (K : PySem.W.Frag) (g : G) (vs : List Nat) (t : DG) : TG := fun v σ H Q => ∃ F ρ φ d ψ, SI K g F H σ ρ φ ∧ Rp K F d v ∧ t d ρ ψ ∧
  ∀ ρ' φ' σ', ψ ρ' → SI K g F H σ' ρ' φ' → (∀ j a, a ∈ φ' j → ∃ k, a ∈ φ k) → σ'.length = σ.length → (∀ j, j ∉ vs → σ'[j]? = σ[j]?) → Q σ' H
abbrev PGd (X : Cx) (g : G) (vs : List Nat) (tg : Expr) (t : DG) : Prop := PG X tg (lG X.K g vs t)
theorem PG.imp {X : Cx} {e : Expr} {T T' : TG} (h : PG X e T) (k : ∀ v σ H Q, T' v σ H Q → T v σ H Q) : PG X e T' := ⟨fun pins s σ H v u Q I r q => h.run pins s σ H v u Q I r (k v σ H Q q)⟩
section
variable {X : Cx} {g : G} {pos p1 p2 p3 : Pos}
def dgName (i : Nat) : DG := fun d ρ ψ => i < ρ.length ∧ ψ (ρ.set i (.dat d))
theorem dg_name {i : Nat} {x : Str} (hN : X.N.Nodup) (hi : X.N[i]? = some x) (hx : Loc X.env.scope x) (hf : X.fn x = true ∨ X.env.scope.names.lookup x = some .local := by first | exact .inl rfl | exact .inr rfl | assumption) : PGd X g [i] (.Name x pos) (dgName i) :=
  PG.imp (pg_name hN hi hx hf) fun v σ H Q ⟨F, ρ, φ, d, ψ, I, r, h, k⟩ => by
    obtain ⟨φ', J, sb⟩ := I.storeD h.1 r
    refine k _ φ' _ h.2 J (fun j a z => ⟨j, sb j a z⟩) (by simp) fun j hj => ?_
    rw [List.getElem?_set_ne (fun e => hj (by rw [e]; exact List.mem_cons_self))]
/-- a, b = a pair (tuple or list) -/
def dgTwo (i j : Nat) : DG := fun d ρ ψ => match d with
  | .tup [a, b] => (i < ρ.length ∧ j < ρ.length) ∧ ψ ((ρ.set i (.dat a)).set j (.dat b))
  | _ => False
theorem two_of {K : PySem.W.Frag} {F : Hp} {a b : D} {xs : List V} (r : RpL K F [a, b] xs) : ∃ u v, xs = [u, v] ∧ Rp K F a u ∧ Rp K F b v := by
  obtain ⟨u, r1, rfl, q1, r2⟩ := r
  obtain ⟨v, r3, rfl, q2, r4⟩ := r2
  cases r4
  exact ⟨u, v, rfl, q1, q2⟩
theorem store_two {K : PySem.W.Frag} {F H : Hp} {σ : L2.St} {ρ : List Sl} {φ : Nat → List Addr} {i j : Nat} {u v : V} {a b : D} (I : SI K g F H σ ρ φ) (hi : i < ρ.length) (hj : j < ρ.length) (qa : Rp K F a u) (qb : Rp K F b v) :
    ∃ φ', SI K g F H ((σ.set i (some u)).set j (some v)) ((ρ.set i (.dat a)).set j (.dat b)) φ' ∧ (∀ l c, c ∈ φ' l → ∃ k, c ∈ φ k) ∧ ((σ.set i (some u)).set j (some v)).length = σ.length ∧ ∀ l, l ∉ [i, j] → ((σ.set i (some u)).set j (some v))[l]? = σ[l]? := by
  obtain ⟨φ1, J, s1⟩ := I.storeD hi qa
  obtain ⟨φ2, J2, s2⟩ := J.storeD (i := j) (by simpa using hj) qb
  refine ⟨φ2, J2, fun l c h => ⟨l, s1 _ _ (s2 _ _ h)⟩, by simp, fun l hl => ?_⟩
  rw [List.getElem?_set_ne (fun e => hl (by rw [e]; simp)), List.getElem?_set_ne (fun e => hl (by rw [e]; simp))]
theorem dg_two {i j : Nat} {x y : Str} {k : Nat} (hc : X.calm = true) (hN : X.N.Nodup) (hi : X.N[i]? = some x) (hx : Loc X.env.scope x) (hj : X.N[j]? = some y) (hy : Loc X.env.scope y)
    (hf : X.fn x = true ∨ X.env.scope.names.lookup x = some .local := by first | exact .inl rfl | exact .inr rfl | assumption) (hf2 : X.fn y = true ∨ X.env.scope.names.lookup y = some .local := by first | exact .inl rfl | exact .inr rfl | assumption)
    (h1 : (assignEach (.Name x p1 :: [.Name y p2]) X.env).map (·.2) = assign (.Name x p1) X.env :: (assignEach [.Name y p2] X.env).map (·.2) := by rfl)
    (h2 : (assignEach (.Name y p2 :: []) X.env).map (·.2) = assign (.Name y p2) X.env :: (assignEach [] X.env).map (·.2) := by rfl)
    (hn : (assignEach [.Name x p1, .Name y p2] X.env).length = 2 := by rfl) (hst : (assignEach [.Name x p1, .Name y p2] X.env).findIdx? (·.1) = none := by rfl) : PGd X g [i, j] (.Tuple [.Name x p1, .Name y p2] k p3) (dgTwo i j) :=
  PG.imp (pg_tup (n := 2) hc (pgs_cons (pg_name hN hi hx hf) (pgs_cons (pg_name hN hj hy hf2) pgs_nil h2) h1) hn hst) fun v σ H Q ⟨F, ρ, φ, d, ψ, I, r, h, kk⟩ => by
    unfold dgTwo at h
    split at h
    · rename_i a b
      obtain ⟨p, xs, rfl, q, r1⟩ := r
      obtain ⟨u, v, rfl, q1, q2⟩ := two_of r1
      obtain ⟨φ', J, sb, e1, e2⟩ := store_two I h.1.1 h.1.2 q1 q2
      exact ⟨p, _, rfl, Same.seqT I.sub q, rfl, u, [v], rfl, v, [], rfl, rfl, kk _ φ' _ h.2 J sb e1 e2⟩
    · exact h.elim
def dgTwoL (i j : Nat) : DG := fun d ρ ψ => match d with
  | .lst [a, b] => (i < ρ.length ∧ j < ρ.length) ∧ ψ ((ρ.set i (.dat a)).set j (.dat b))
  | _ => False
theorem dg_twoL {i j : Nat} {x y : Str} {k : Nat} (hc : X.calm = true) (hN : X.N.Nodup) (hi : X.N[i]? = some x) (hx : Loc X.env.scope x) (hj : X.N[j]? = some y) (hy : Loc X.env.scope y)
    (hf : X.fn x = true ∨ X.env.scope.names.lookup x = some .local := by first | exact .inl rfl | exact .inr rfl | assumption) (hf2 : X.fn y = true ∨ X.env.scope.names.lookup y = some .local := by first | exact .inl rfl | exact .inr rfl | assumption)
    (h1 : (assignEach (.Name x p1 :: [.Name y p2]) X.env).map (·.2) = assign (.Name x p1) X.env :: (assignEach [.Name y p2] X.env).map (·.2) := by rfl)
    (h2 : (assignEach (.Name y p2 :: []) X.env).map (·.2) = assign (.Name y p2) X.env :: (assignEach [] X.env).map (·.2) := by rfl)
    (hn : (assignEach [.Name x p1, .Name y p2] X.env).length = 2 := by rfl) (hst : (assignEach [.Name x p1, .Name y p2] X.env).findIdx? (·.1) = none := by rfl) : PGd X g [i, j] (.Tuple [.Name x p1, .Name y p2] k p3) (dgTwoL i j) :=
  PG.imp (pg_unl (n := 2) hc (pgs_cons (pg_name hN hi hx hf) (pgs_cons (pg_name hN hj hy hf2) pgs_nil h2) h1) hn hst) fun v σ H Q ⟨F, ρ, φ, d, ψ, I, r, h, kk⟩ => by
    unfold dgTwoL at h
    split at h
    · rename_i a b
      obtain ⟨p, xs, rfl, q, r1⟩ := r
      obtain ⟨u, v, rfl, q1, q2⟩ := two_of r1
      obtain ⟨φ', J, sb, e1, e2⟩ := store_two I h.1.1 h.1.2 q1 q2
      exact ⟨p, _, rfl, .of (I.sub _ _ q), rfl, u, [v], rfl, v, [], rfl, rfl, kk _ φ' _ h.2 J sb e1 e2⟩
    · exact h.elim
end

/-! ### what is walked -/
/-- the own slot that is walked stays -/
def guard (own : Option (Nat × List D)) (ρ : List Sl) : Prop := match own with
  | none => True
  | some (j, ds) => ∃ m, ρ[j]? = some (.own m ds)
def held (own : Option (Nat × List D)) (σ σ' : L2.St) : Prop := match own with
  | none => True
  | some (j, _) => σ'[j]? = σ[j]?
structure JOk (K : PySem.W.Frag) (g : G) (F1 : Hp) (σ0 : L2.St) (ds : List D) (own : Option (Nat × List D)) (J : It) : Prop where
  go : ∀ i F H σ ρ φ, i < ds.length → SI K g F H σ ρ φ → Same F1 F → guard own ρ → held own σ0 σ → J.go i H
  stop : ∀ F H σ ρ φ, SI K g F H σ ρ φ → Same F1 F → guard own ρ → held own σ0 σ → J.stop ds.length H
  yld : ∀ i F H σ ρ φ x H', i < ds.length → SI K g F H σ ρ φ → Same F1 F → guard own ρ → held own σ0 σ → J.yld i H x H' → ∃ d F', ds[i]? = some d ∧ Pur F H F' H' ∧ Rp K F' d x
abbrev DI := List Sl → (List D → Option (Nat × List D) → List Sl → Prop) → Prop
def lI (K : PySem.W.Frag) (g : G) (t : DI) : TI := fun σ H R => ∃ F ρ φ ψ, SI K g F H σ ρ φ ∧ t ρ ψ ∧
  ∀ ds own ρ' F' φ' H' J, ψ ds own ρ' → SI K g F' H' σ ρ' φ' → Ext F H φ F' H' φ' → guard own ρ' → JOk K g F' σ ds own J → R J H'
abbrev PId (X : Cx) (g : G) (tg iter : Expr) (t : DI) : Prop := PI X tg iter (lI X.K g t)
theorem PI.imp {X : Cx} {tg e : Expr} {T T' : TI} (h : PI X tg e T) (k : ∀ σ H R, T' σ H R → T σ H R) : PI X tg e T' := ⟨fun pins s σ H R I q => h.run pins s σ H R I (k σ H R q)⟩
section
variable {X : Cx} {g : G} {tg l a b c : Expr} {ts : DA} {t ta tb tc : DE} {p pos : Pos}
/-- a list or a tuple -/
theorem pi_seq {tl : TE} (hl : PE X l tl) : PI X tg l (fun σ H R => tl σ H fun x H1 => ∃ a, x = .ref a ∧ (((∃ xs, SqL X.K H1 a xs) ∧ R (Itl X.K a) H1) ∨ ((∃ xs, SqT X.K H1 a xs) ∧ R (Itt X.K a) H1))) := by
  refine ⟨fun pins s σ H R I h => ?_⟩
  refine thn (hl.run pins s σ H _ I h) fun v s1 ⟨x, H1, I1, r1, q1⟩ => ?_
  obtain ⟨a, e, q⟩ := q1
  subst e
  cases r1
  rcases q with ⟨⟨xs, hq⟩, q⟩ | ⟨⟨xs, hq⟩, q⟩
  · obtain ⟨its, rv, p, hz⟩ := I1.list hq
    refine wpAny_pyIter_list p.isList ?_
    refine ⟨s1.heap.objs.size, [s1.heap.objs.size], _, _, H1, rfl, I1.kept (t' := s1.toks) fun b o e => Heap.get?_push_of_some _ e, turn_list a _, ⟨_, Heap.get?_push_size _ rfl, rfl, rfl⟩, fun b hb => ?_, q⟩
    have e : b = s1.heap.objs.size := by simpa using hb
    subst e
    exact I1.fpOk (Nat.le_refl _) (I1.hok.fresh (Nat.le_refl _))
  · obtain ⟨its, rv, p, hz⟩ := I1.tuple hq
    refine wpAny_pyIter_tuple (show s1.heap.IsTuple a its.toArray from p) ?_
    refine ⟨s1.heap.objs.size, [s1.heap.objs.size], _, _, H1, rfl, I1.kept (t' := s1.toks) fun b o e => Heap.get?_push_of_some _ e, turn_tuple a _, ⟨_, Heap.get?_push_size _ rfl, rfl, rfl⟩, fun b hb => ?_, q⟩
    have e : b = s1.heap.objs.size := by simpa using hb
    subst e
    exact I1.fpOk (Nat.le_refl _) (I1.hok.fresh (Nat.le_refl _))
def iSeq (t : DE) : DI := fun ρ Q => t ρ fun r ρ1 => match r with
  | .d (.lst ds) => Q ds none ρ1
  | .d (.tup ds) => Q ds none ρ1
  | .b i => ownAt ρ1 i fun _ ds => Q ds (some (i, ds)) ρ1
  | _ => False
theorem di_seq (hl : PEd X g l t) : PId X g tg l (iSeq t) :=
  PI.imp (pi_seq hl) fun σ H R ⟨F, ρ, φ, ψ, I, h, k⟩ => ⟨F, ρ, φ, _, I, h, fun r ρ1 F1 φ1 v H1 h1 I1 x1 o1 => by
    split at h1
    · rename_i ds
      obtain ⟨a, xs, rfl, q, r⟩ := o1
      refine ⟨a, rfl, .inl ⟨⟨xs, .of (I1.sub _ _ q)⟩, k _ _ _ _ _ _ _ h1 I1 x1 trivial ⟨fun i F H σ ρ φ hi I' S _ _ => ?_, fun F H σ ρ φ I' S _ _ => ?_, fun i F H σ ρ φ x H' hi I' S _ _ y => ?_⟩⟩⟩
      · have hi' : i < xs.length := by rw [← r.length]; exact hi
        exact ⟨xs, xs[i], .of (I'.sub _ _ (S _ _ q)), List.getElem?_eq_getElem hi'⟩
      · exact ⟨xs, .of (I'.sub _ _ (S _ _ q)), by rw [r.length]; exact Nat.le_refl _⟩
      · obtain ⟨e, y⟩ := y
        subst e
        obtain ⟨d, e1, e2⟩ := r.get' (y xs (.of (I'.sub _ _ (S _ _ q))))
        exact ⟨d, F, e1, .refl I'.sub, e2.mono S⟩
    · rename_i ds
      obtain ⟨a, xs, rfl, q, r⟩ := o1
      refine ⟨a, rfl, .inr ⟨⟨xs, Same.seqT I1.sub q⟩, k _ _ _ _ _ _ _ h1 I1 x1 trivial ⟨fun i F H σ ρ φ hi I' S _ _ => ?_, fun F H σ ρ φ I' S _ _ => ?_, fun i F H σ ρ φ x H' hi I' S _ _ y => ?_⟩⟩⟩
      · have hi' : i < xs.length := by rw [← r.length]; exact hi
        exact ⟨xs, xs[i], Same.seqT (S.trans I'.sub) q, List.getElem?_eq_getElem hi'⟩
      · exact ⟨xs, Same.seqT (S.trans I'.sub) q, by rw [r.length]; exact Nat.le_refl _⟩
      · obtain ⟨e, y⟩ := y
        subst e
        obtain ⟨d, e1, e2⟩ := r.get' (y xs (Same.seqT (S.trans I'.sub) q))
        exact ⟨d, F, e1, .refl I'.sub, e2.mono S⟩
    · rename_i j
      obtain ⟨m, ds, e0, h1⟩ := ownAt_of h1
      obtain ⟨a, xs, e1, e2, q, r⟩ := I1.at_ j _ e0
      have ev : σ[j]? = some (some v) := o1
      have ev2 := join_some e1
      rw [ev] at ev2
      cases ev2
      have key : ∀ F H σ' ρ φ, SI X.K g F H σ' ρ φ → guard (some (j, ds)) ρ → held (some (j, ds)) σ σ' → ∃ xs, H a = some (.lst xs) ∧ RpL X.K F ds xs := fun F H σ' ρ φ I' ⟨m', gd⟩ hd => by
        obtain ⟨a', xs', f1, f2, q', r'⟩ := I'.at_ j _ gd
        have hd' : σ'[j]? = σ[j]? := hd
        rw [hd', ev] at f1
        cases f1
        exact ⟨xs', q', r'⟩
      refine ⟨a, rfl, .inl ⟨⟨xs, .of q⟩, k _ _ _ _ _ _ _ h1 I1 x1 ⟨m, e0⟩ ⟨fun i F H σ ρ φ hi I' S gd hd => ?_, fun F H σ ρ φ I' S gd hd => ?_, fun i F H σ ρ φ x H' hi I' S gd hd y => ?_⟩⟩⟩
      · obtain ⟨xs, q, r⟩ := key _ _ _ _ _ I' gd hd
        have hi' : i < xs.length := by rw [← r.length]; exact hi
        exact ⟨xs, xs[i], .of q, List.getElem?_eq_getElem hi'⟩
      · obtain ⟨xs, q, r⟩ := key _ _ _ _ _ I' gd hd
        exact ⟨xs, .of q, by rw [r.length]; exact Nat.le_refl _⟩
      · obtain ⟨xs, q, r⟩ := key _ _ _ _ _ I' gd hd
        obtain ⟨e, y⟩ := y
        subst e
        obtain ⟨d, e1, e2⟩ := r.get' (y xs (.of q))
        exact ⟨d, F, e1, .refl I'.sub, e2⟩
    · exact h1.elim⟩
def rngD (lo : Int) (n : Nat) : List D := (List.range n).map fun i : Nat => D.int (lo + (i : Int))
theorem rng_ok {K : PySem.W.Frag} {F1 : Hp} {σ0 : L2.St} {lo : Int} {n : Nat} : JOk K g F1 σ0 (rngD lo n) none (Itr lo n) where
  go := fun i F H σ ρ φ hi _ _ _ _ => by
    show i < n
    simpa [rngD] using hi
  stop := fun F H σ ρ φ _ _ _ _ => by
    show n ≤ (rngD lo n).length
    simp [rngD]
  yld := fun i F H σ ρ φ x H' hi I _ _ _ y => by
    obtain ⟨e, y⟩ := y
    subst e
    subst y
    have hi' : i < n := by simpa [rngD] using hi
    exact ⟨.int (lo + i), F, by simp [rngD, hi'], .refl I.sub, rfl⟩
theorem rngC_ok {K : PySem.W.Frag} {F1 : Hp} {σ0 : L2.St} {lo c : Int} {n : Nat} : JOk K g F1 σ0 ((List.range n).map fun i : Nat => D.int (lo + (i : Int) * c)) none (Itc lo c n) where
  go := fun i F H σ ρ φ hi _ _ _ _ => by
    show i < n
    simpa using hi
  stop := fun F H σ ρ φ _ _ _ _ => by
    show n ≤ _
    simp
  yld := fun i F H σ ρ φ x H' hi I _ _ _ y => by
    obtain ⟨e, y⟩ := y
    subst e
    subst y
    have hi' : i < n := by simpa using hi
    exact ⟨.int (lo + i * c), F, by simp [hi'], .refl I.sub, rfl⟩
def iRange1 (ts : DA) : DI := fun ρ Q => ts ρ fun rs ρ1 => rdD rs fun ds => match ds with
  | [.int j] => (-(2 ^ 62) ≤ j ∧ j < 2 ^ 62) ∧ Q (rngD 0 j.toNat) none ρ1
  | _ => False
def iRange2 (ts : DA) : DI := fun ρ Q => ts ρ fun rs ρ1 => rdD rs fun ds => match ds with
  | [.int i, .int j] => (-(2 ^ 62) ≤ i ∧ i < 2 ^ 62 ∧ -(2 ^ 62) ≤ j ∧ j < 2 ^ 62) ∧ Q (rngD i (j - i).toNat) none ρ1
  | _ => False
/-- downward -/
def iRange3 (ts : DA) : DI := fun ρ Q => ts ρ fun rs ρ1 => rdD rs fun ds => match ds with
  | [.int i, .int j, .int (-1)] => (-(2 ^ 62) ≤ i ∧ i < 2 ^ 62 ∧ -(2 ^ 62) ≤ j ∧ j < 2 ^ 62) ∧ Q ((List.range (i - j).toNat).map fun k : Nat => D.int (i + (k : Int) * -1)) none ρ1
  | _ => False
theorem di_range1 (hg : Gl X "range") (hm : X.mg "range" = none) (ha : PAd X g [a] ts) (hs : starEach [a] X.env = [(false, eval a X.env)] := by rfl) : PId X g tg (.Call (.Name "range" p) [a] [] pos) (iRange1 ts) :=
  PI.imp (pi_range1 hg hm ha hs) fun σ H R ⟨F, ρ, φ, ψ, I, h, k⟩ => ⟨F, ρ, φ, _, I, h, fun rs ρ1 F1 φ1 vs H1 h1 I1 x1 o1 => by
    obtain ⟨ds, e, h1⟩ := rdD_of h1
    have r := datas_ok o1 e
    split at h1
    · obtain ⟨v, r1, rfl, q, t⟩ := r
      cases t
      cases q
      exact ⟨_, rfl, h1.1.1, h1.1.2, k _ _ _ _ _ _ _ h1.2 I1 x1 trivial rng_ok⟩
    · exact h1.elim⟩
theorem di_range2 (hg : Gl X "range") (hm : X.mg "range" = none) (ha : PAd X g [a, b] ts) (hs : starEach [a, b] X.env = [(false, eval a X.env), (false, eval b X.env)] := by rfl) (hs2 : starEach [b] X.env = [(false, eval b X.env)] := by rfl) :
    PId X g tg (.Call (.Name "range" p) [a, b] [] pos) (iRange2 ts) :=
  PI.imp (pi_range2 hg hm ha hs hs2) fun σ H R ⟨F, ρ, φ, ψ, I, h, k⟩ => ⟨F, ρ, φ, _, I, h, fun rs ρ1 F1 φ1 vs H1 h1 I1 x1 o1 => by
    obtain ⟨ds, e, h1⟩ := rdD_of h1
    have r := datas_ok o1 e
    split at h1
    · obtain ⟨v, u, rfl, q1, q2⟩ := two_of r
      cases q1; cases q2
      exact ⟨_, _, rfl, h1.1, k _ _ _ _ _ _ _ h1.2 I1 x1 trivial rng_ok⟩
    · exact h1.elim⟩
theorem di_range3 (hg : Gl X "range") (hm : X.mg "range" = none) (ha : PAd X g [a, b, c] ts) (hs : starEach [a, b, c] X.env = (false, eval a X.env) :: starEach [b, c] X.env := by rfl) (hpl : (backTo pos (starEach [b, c] X.env)).any (·.1) = false := by rfl) :
    PId X g tg (.Call (.Name "range" p) [a, b, c] [] pos) (iRange3 ts) :=
  PI.imp (pi_range3 hg hm ha hs hpl) fun σ H R ⟨F, ρ, φ, ψ, I, h, k⟩ => ⟨F, ρ, φ, _, I, h, fun rs ρ1 F1 φ1 vs H1 h1 I1 x1 o1 => by
    obtain ⟨ds, e, h1⟩ := rdD_of h1
    have r := datas_ok o1 e
    split at h1
    · obtain ⟨v, r1, rfl, q, r2⟩ := r
      obtain ⟨u, w, rfl, q1, q2⟩ := two_of r2
      cases q; cases q1; cases q2
      exact ⟨_, _, _, _, rfl, RgC.neg h1.1.1 h1.1.2.1 h1.1.2.2.1 h1.1.2.2.2, k _ _ _ _ _ _ _ h1.2 I1 x1 trivial rngC_ok⟩
    · exact h1.elim⟩
end

/-! ### for -/
def dForGo (t : DG) (body : DS) (ψ : DEnds) : List D → List Sl → Prop
  | [], ρ => ψ.nx ρ
  | d :: ds, ρ => t d ρ fun ρ1 => body { ψ with nx := dForGo t body ψ ds, ct := dForGo t body ψ ds, bk := ψ.nx } ρ1
def dFor (ti : DI) (t : DG) (body : DS) : DS := fun ψ ρ => ti ρ fun ds own ρ1 => own = none ∧ dForGo t body ψ ds ρ1
section
variable {X : Cx} {g : G} {tg iter : Expr} {body : List Stmt} {ti : DI} {t : DG} {tb : DS} {vs : List Nat} {pos : Pos}
theorem ds_for (hp : PassesOwn (model X.prog X.w) X.A X.env X.xe) (hc : X.calm = true) (hi : PId X g tg iter ti) (hg : PGd X g vs tg t) (hb : PSsd X g body tb)
    (hs : ∀ x, foldedSetIterable iter X.env x = pure x := by intro _; rfl) : PSd X g (.For tg iter body [] pos) (dFor ti t tb) :=
  PS.imp (ps_for hp hc hi hg hb hs) fun D σ0 H0 ⟨F, ρ, φ, ψ, I, h, k1, k2, k3, k4⟩ => ⟨F, ρ, φ, _, I, h, fun ds own ρ1 F1 φ1 H1 J ⟨ho, h1⟩ I1 x1 gd ok => by
    subst ho
    refine ⟨fun i m σ H => m = ds.length - i ∧ i ≤ ds.length ∧ ∃ F' ρ φ, SI X.K g F' H σ ρ φ ∧ Same F1 F' ∧ dForGo t tb ψ (ds.drop i) ρ, ⟨ds.length, by simp, Nat.zero_le _, F1, ρ1, φ1, I1, .refl _, h1⟩, ?_⟩
    rintro i m σ H ⟨rfl, hi, F2, ρ2, φ2, I2, S2, h2⟩
    by_cases hlt : i < ds.length
    · refine .inr ⟨ok.go i F2 H σ ρ2 φ2 hlt I2 S2 trivial trivial, fun σ' H' => ∃ F' ρ φ, SI X.K g F' H' σ' ρ φ ∧ Same F1 F' ∧ dForGo t tb ψ (ds.drop (i + 1)) ρ, fun σ' H' q => ⟨ds.length - (i + 1), by omega, rfl, hlt, q⟩, fun x H' y => ?_⟩
      obtain ⟨d, F3, e, pu, r⟩ := ok.yld i F2 H σ ρ2 φ2 x H' hlt I2 S2 trivial trivial y
      have hd : ds.drop i = d :: ds.drop (i + 1) := by
        rw [List.drop_eq_getElem_cons hlt]
        congr 1
        rw [List.getElem?_eq_getElem hlt] at e
        exact Option.some.inj e
      rw [hd] at h2
      refine ⟨F3, ρ2, φ2, d, _, I2.pure pu, r, h2, fun ρ3 φ3 σ3 h3 I3 _ _ _ => ?_⟩
      have S3 := S2.trans pu.sub
      have S0 := x1.sub.trans S3
      exact ⟨F3, ρ3, φ3, _, I3, h3, fun ρ' F' φ' σ' H' q I' S' => ⟨F', ρ', φ', I', S3.trans S', q⟩, fun _ _ _ _ _ _ _ q' I'' S' => k2 _ _ _ _ _ _ _ q' I'' (S0.trans S'),
        fun _ _ _ _ _ q' I'' S' => k1 _ _ _ _ _ q' I'' (S0.trans S'), fun ρ' F' φ' σ' H' q I' S' => ⟨F', ρ', φ', I', S3.trans S', q⟩⟩
    · have e : i = ds.length := by omega
      subst e
      rw [List.drop_length] at h2
      exact .inl ⟨ok.stop F2 H σ ρ2 φ2 I2 S2 trivial trivial, k1 _ _ _ _ _ h2 I2 (x1.sub.trans S2)⟩⟩
end

/-! ### comprehensions -/
/-- slots emptied -/
def wipeD (ρ : List Sl) : List Nat → List Sl
  | [] => ρ
  | v :: vs => (wipeD ρ vs).set v .no
/-- slots as they were -/
def backD (ρ0 ρ : List Sl) : List Nat → List Sl
  | [] => ρ
  | v :: vs => (backD ρ0 ρ vs).set v (ρ0.getD v .no)
theorem wipeD_length (ρ : List Sl) : ∀ vs, (wipeD ρ vs).length = ρ.length
  | [] => rfl
  | v :: vs => by unfold wipeD; rw [List.length_set, wipeD_length ρ vs]
theorem backD_length (ρ0 ρ : List Sl) : ∀ vs, (backD ρ0 ρ vs).length = ρ.length
  | [] => rfl
  | v :: vs => by unfold backD; rw [List.length_set, backD_length ρ0 ρ vs]
theorem wipeD_out {ρ : List Sl} {i : Nat} : ∀ {vs : List Nat}, i ∉ vs → (wipeD ρ vs)[i]? = ρ[i]?
  | [], _ => rfl
  | v :: vs, h => by
    unfold wipeD
    rw [List.getElem?_set_ne (fun e => h (by rw [e]; exact List.mem_cons_self))]
    exact wipeD_out fun m => h (List.mem_cons_of_mem _ m)
theorem wipeD_in {ρ : List Sl} {i : Nat} : ∀ {vs : List Nat}, i ∈ vs → i < ρ.length → (wipeD ρ vs)[i]? = some .no
  | v :: vs, h, hl => by
    unfold wipeD
    by_cases e : v = i
    · subst e
      rw [List.getElem?_set_self (by rw [wipeD_length]; exact hl)]
    · rw [List.getElem?_set_ne e]
      exact wipeD_in ((List.mem_cons.mp h).resolve_left (Ne.symm e)) hl
theorem backD_out {ρ0 ρ : List Sl} {i : Nat} : ∀ {vs : List Nat}, i ∉ vs → (backD ρ0 ρ vs)[i]? = ρ[i]?
  | [], _ => rfl
  | v :: vs, h => by
    unfold backD
    rw [List.getElem?_set_ne (fun e => h (by rw [e]; exact List.mem_cons_self))]
    exact backD_out fun m => h (List.mem_cons_of_mem _ m)
theorem backD_in {ρ0 ρ : List Sl} {i : Nat} : ∀ {vs : List Nat}, i ∈ vs → i < ρ.length → (backD ρ0 ρ vs)[i]? = some (ρ0.getD i .no)
  | v :: vs, h, hl => by
    unfold backD
    by_cases e : v = i
    · subst e
      rw [List.getElem?_set_self (by rw [backD_length]; exact hl)]
    · rw [List.getElem?_set_ne e]
      exact backD_in ((List.mem_cons.mp h).resolve_left (Ne.symm e)) hl
theorem wipe_in {σ : L2.St} {i : Nat} : ∀ {vs : List Nat}, i ∈ vs → i < σ.length → (wipe σ vs)[i]? = some none
  | v :: vs, h, hl => by
    unfold wipe
    by_cases e : v = i
    · subst e
      rw [List.getElem?_set_self (by rw [wipe_length]; exact hl)]
    · rw [List.getElem?_set_ne e]
      exact wipe_in ((List.mem_cons.mp h).resolve_left (Ne.symm e)) hl
theorem wipe_eq {σ σ' : L2.St} {vs : List Nat} (hl : σ'.length = σ.length) (h : ∀ j, j ∉ vs → σ'[j]? = σ[j]?) : wipe σ' vs = wipe σ vs := by
  apply List.ext_getElem?
  intro j
  by_cases hj : j ∈ vs
  · by_cases hlt : j < σ.length
    · rw [wipe_in hj hlt, wipe_in hj (by rw [hl]; exact hlt)]
    · rw [List.getElem?_eq_none (by rw [wipe_length]; omega), List.getElem?_eq_none (by rw [wipe_length]; omega)]
  · rw [wipe_out hj, wipe_out hj, h j hj]
/-- a slot that a comprehension may hide -/
def Sl.soft : Sl → Bool
  | .no => true
  | .dat _ => true
  | _ => false
def soft (ρ : List Sl) (vs : List Nat) : Prop := ∀ i ∈ vs, i < ρ.length ∧ (ρ.getD i .no).soft = true
theorem soft_at {ρ : List Sl} {vs : List Nat} (h : soft ρ vs) {i : Nat} (hi : i ∈ vs) : ∃ s, ρ[i]? = some s ∧ s.soft = true ∧ ρ.getD i .no = s := by
  obtain ⟨h1, h2⟩ := h i hi
  refine ⟨ρ[i], List.getElem?_eq_getElem h1, ?_, ?_⟩
  · rw [List.getD_eq_getElem?_getD, List.getElem?_eq_getElem h1] at h2
    exact h2
  · rw [List.getD_eq_getElem?_getD, List.getElem?_eq_getElem h1]
    rfl
theorem soft_fp {K : PySem.W.Frag} {F H : Hp} {ov : Option V} {fp : List Addr} {s : Sl} (h : SlOk K F H ov fp s) (e : s.soft = true) : fp = [] := by
  cases s with
  | no => exact h
  | dat d => exact h.1
  | _ => cases e
theorem soft_res {s : Sl} (e : s.soft = true) : s.res = false := by cases s <;> first | rfl | cases e
theorem soft_mn {s : Sl} (e : s.soft = true) : s.mn = false := by cases s <;> first | rfl | cases e
section
variable {K : PySem.W.Frag} {g : G} {F H : Hp} {σ : L2.St} {ρ : List Sl} {φ : Nat → List Addr}
theorem SI.wiped (I : SI K g F H σ ρ φ) {vs : List Nat} (h : soft ρ vs) : SI K g F H (wipe σ vs) (wipeD ρ vs) φ := by
  refine ⟨by rw [wipe_length, wipeD_length]; exact I.len, fun i s e => ?_, fun i e => ?_, I.dj, I.fr, I.sub, I.f0, I.keep, I.fw, I.fn, fun i s a e h1 h2 => ?_, fun i s e h1 h2 => ?_, I.gon, fun i s a e h1 h2 h3 => ?_⟩
  · by_cases hi : i ∈ vs
    · have hl := (h i hi).1
      rw [wipeD_in hi hl] at e
      cases e
      obtain ⟨s0, e0, f0, _⟩ := soft_at h hi
      exact soft_fp (I.at_ i s0 e0) f0
    · rw [wipeD_out hi] at e
      rw [wipe_out hi]
      exact I.at_ i s e
  · rw [List.getElem?_eq_none_iff, wipeD_length, ← List.getElem?_eq_none_iff] at e
    exact I.out i e
  · by_cases hi : i ∈ vs
    · rw [wipeD_in hi (h i hi).1] at e
      cases e
      cases h1
    · rw [wipeD_out hi] at e
      exact I.mine i s a e h1 h2
  · by_cases hi : i ∈ vs
    · rw [wipeD_in hi (h i hi).1] at e
      cases e
      cases h1
    · rw [wipeD_out hi] at e
      rw [wipe_out hi]
      exact I.bor i s e h1 h2
  · by_cases hi : i ∈ vs
    · rw [wipeD_in hi (h i hi).1] at e
      cases e
      cases h1
    · rw [wipeD_out hi] at e
      exact I.bfp i s a e h1 h2 h3
/-- from a block back: only the block's slots may differ -/
theorem SI.backed (I : SI K g F H σ ρ φ) {F' H' : Hp} {σ' : L2.St} {ρ' : List Sl} {φ' : Nat → List Addr} {vs : List Nat} (hv : soft ρ vs) (J : SI K g F' H' σ' ρ' φ') (S : Same F F') (hl : ρ'.length = ρ.length) (hs : soft ρ' vs) (e : ∀ j, j ∉ vs → σ'[j]? = σ[j]?) :
    SI K g F' H' σ (backD ρ ρ' vs) φ' := by
  refine ⟨by rw [backD_length, hl]; exact I.len, fun i s e1 => ?_, fun i e1 => ?_, J.dj, J.fr, J.sub, J.f0, J.keep, J.fw, J.fn, fun i s a e1 h1 h2 => ?_, fun i s e1 h1 h2 => ?_, J.gon, fun i s a e1 h1 h2 h3 => ?_⟩
  · by_cases hi : i ∈ vs
    · rw [backD_in hi (hs i hi).1] at e1
      cases e1
      obtain ⟨s0, e0, f0, g0⟩ := soft_at hv hi
      rw [g0]
      have q := I.at_ i s0 e0
      obtain ⟨s1, e2, f1, _⟩ := soft_at hs hi
      have fp := soft_fp (J.at_ i s1 e2) f1
      have fp0 := soft_fp q f0
      rw [fp]
      rw [fp0] at q
      exact q.mono S fun a ha => by simp at ha
    · rw [backD_out hi] at e1
      rw [← e i hi]
      exact J.at_ i s e1
  · rw [List.getElem?_eq_none_iff, backD_length, ← List.getElem?_eq_none_iff] at e1
    exact J.out i e1
  · by_cases hi : i ∈ vs
    · rw [backD_in hi (hs i hi).1] at e1
      cases e1
      obtain ⟨s0, e0, f0, g0⟩ := soft_at hv hi
      rw [g0, soft_mn f0] at h1
      cases h1
    · rw [backD_out hi] at e1
      exact J.mine i s a e1 h1 h2
  · by_cases hi : i ∈ vs
    · rw [backD_in hi (hs i hi).1] at e1
      cases e1
      obtain ⟨s0, e0, f0, g0⟩ := soft_at hv hi
      rw [g0, soft_res f0] at h1
      cases h1
    · rw [backD_out hi] at e1
      rw [← e i hi]
      exact J.bor i s e1 h1 h2
  · by_cases hi : i ∈ vs
    · rw [backD_in hi (hs i hi).1] at e1
      cases e1
      obtain ⟨s0, e0, f0, g0⟩ := soft_at hv hi
      rw [g0, soft_res f0] at h1
      cases h1
    · rw [backD_out hi] at e1
      exact J.bfp i s a e1 h1 h2 h3
end
/-- the turns: acc is what is made so far -/
def dLcGo (vs : List Nat) (t : DG) (tt : DT) (te : DE) (own : Option (Nat × List D)) (Q : List D → List Sl → Prop) : List D → List D → List Sl → Prop
  | [], acc, ρ => Q acc ρ
  | d :: ds, acc, ρ => guard own ρ ∧ t d ρ fun ρ1 => tt ρ1 fun b ρ2 => if b = true then te ρ2 fun r ρ3 => match r with
      | .d y => soft ρ3 vs ∧ acc.length < sizeLine ∧ dLcGo vs t tt te own Q ds (acc ++ [y]) (wipeD ρ3 vs)
      | _ => False
    else soft ρ2 vs ∧ dLcGo vs t tt te own Q ds acc (wipeD ρ2 vs)
def dLc (vs : List Nat) (ti : DI) (t : DG) (tt : DT) (te : DE) : DE := fun ρ Q => ti ρ fun ds own ρ1 => soft ρ1 vs ∧ (match own with | none => True | some (j, _) => j ∉ vs) ∧
  dLcGo vs t tt te own (fun acc ρ2 => guard own ρ2 ∧ ρ2.length = ρ1.length ∧ soft ρ2 vs ∧ Q (.o (.own true acc)) (backD ρ1 ρ2 vs)) ds [] (wipeD ρ1 vs)
def dYes : DT := fun ρ Q => Q true ρ
abbrev PTsd (X : Cx) (g : G) (es : List Expr) (t : DT) : Prop := PTs X es (lT X.K g t)
section
variable {X : Cx} {g : G} {e : Expr}
theorem dts_nil : PTsd X g [] dYes := ⟨fun pins s σ H Q I ⟨F, ρ, φ, ψ, J, h, k⟩ => pts_nil.run pins s σ H Q I (k _ _ _ _ _ h J (.refl _ _ _))⟩
theorem dts_one {t : DT} (h : PTd X g e t) : PTsd X g [e] t := pts_one h
theorem lE_lc {K : PySem.W.Frag} {vs : List Nat} {ti : DI} {t : DG} {tt : DT} {te : DE} : ∀ σ H Q, lE K g (dLc vs ti t tt te) σ H Q → tLc (lI K g ti) (lG K g vs t) (lT K g tt) (lE K g te) vs σ H Q := by
  rintro σ H Q ⟨F, ρ, φ, ψ, I, h, k⟩
  refine ⟨F, ρ, φ, _, I, h, fun ds own ρ1 F1 φ1 H1 J ⟨sf, hj, h1⟩ I1 x1 gd ok => fun p hp => ?_⟩
  have hsl : ∀ {σ' : L2.St}, (∀ j, j ∉ vs → σ'[j]? = σ[j]?) → held own σ σ' := fun {σ'} hh => by
    cases own with
    | none => exact trivial
    | some jd => exact hh _ hj
  -- the invariant
  refine ⟨fun i m H => m = ds.length - i ∧ i ≤ ds.length ∧ ∃ F' ρ' φ' acc xs, SI K g F' H (wipe σ vs) ρ' φ' ∧ Ext F1 H1 φ1 F' H φ' ∧ H p = some (.lst xs) ∧ RpL K F' acc xs ∧ F' p = none ∧ (∀ j, p ∉ φ' j) ∧ ρ'.length = ρ1.length ∧
      dLcGo vs t tt te own (fun acc ρ2 => guard own ρ2 ∧ ρ2.length = ρ1.length ∧ soft ρ2 vs ∧ ψ (.o (.own true acc)) (backD ρ1 ρ2 vs)) (ds.drop i) acc ρ', ?_, ?_⟩
  · have pu := Pur.add (o := .lst []) I1.sub hp
    have I2 := (I1.wiped sf).pure pu
    exact ⟨ds.length, by simp, Nat.zero_le _, F1, wipeD ρ1 vs, φ1, [], [], I2, I1.ext pu, upd_same, rfl, I1.sub.free hp, fun j z => I1.there z hp, wipeD_length _ _, h1⟩
  · rintro i m H2 ⟨rfl, hi, F2, ρ2, φ2, acc, xs, I2, x2, hpH, rx, Fp, pn, hl2, h2⟩
    have hw : ∀ j, j ∉ vs → (wipe σ vs)[j]? = σ[j]? := fun j hj => wipe_out hj
    by_cases hlt : i < ds.length
    · have ed : ds.drop i = ds[i] :: ds.drop (i + 1) := List.drop_eq_getElem_cons hlt
      rw [ed] at h2
      obtain ⟨gd2, h2⟩ := h2
      refine .inr ⟨ok.go i F2 H2 _ ρ2 φ2 hlt I2 x2.sub gd2 (hsl hw), fun H' => ∃ F' ρ' φ' acc xs, SI K g F' H' (wipe σ vs) ρ' φ' ∧ Ext F1 H1 φ1 F' H' φ' ∧ H' p = some (.lst xs) ∧ RpL K F' acc xs ∧ F' p = none ∧ (∀ j, p ∉ φ' j) ∧ ρ'.length = ρ1.length ∧
        dLcGo vs t tt te own (fun acc ρ2 => guard own ρ2 ∧ ρ2.length = ρ1.length ∧ soft ρ2 vs ∧ ψ (.o (.own true acc)) (backD ρ1 ρ2 vs)) (ds.drop (i + 1)) acc ρ', fun H' q => ⟨ds.length - (i + 1), by omega, rfl, hlt, q⟩, fun x H' y => ?_⟩
      obtain ⟨d, F3, e, pu, r⟩ := ok.yld i F2 H2 _ ρ2 φ2 x H' hlt I2 x2.sub gd2 (hsl hw) y
      have ed2 : ds[i] = d := by
        rw [List.getElem?_eq_getElem hlt] at e
        exact Option.some.inj e
      rw [ed2] at h2
      have x3 := x2.trans (I2.ext pu)
      have F3p : F3 p = none := by
        cases q : F3 p with
        | none => rfl
        | some o =>
          rcases pu.fn p (by rw [q]; exact fun z => by cases z) with z | z
          · exact absurd Fp z
          · rw [hpH] at z; cases z
      have I3 := I2.pure pu
      refine ⟨F3, ρ2, φ2, d, _, I3, r, h2, fun ρ4 φ4 σ4 h4 I4 sb4 hl4 hk4 => ?_⟩
      have ew : wipe σ4 vs = wipe σ vs := by
        have e1 := wipe_eq (vs := vs) hl4 hk4
        rw [e1]
        exact wipe_eq (by rw [wipe_length]) fun j hj => wipe_out hj
      have pn4 : ∀ j, p ∉ φ4 j := fun j z => by
        obtain ⟨k, q⟩ := sb4 j p z
        exact pn k q
      have pH' : H' p = some (.lst xs) := pu.same p _ hpH
      have x4 := x3.trans (Ext.less (F := F3) (H := H') sb4)
      have gp : g.H p = none := by
        cases q : g.H p with
        | none => rfl
        | some o => exact absurd hp (I1.gon p (by rw [q]; exact fun z => by cases z))
      have lens : ∀ {F5 H5 ρ5 φ5}, SI K g F5 H5 σ4 ρ5 φ5 → ρ5.length = ρ1.length := fun {F5 H5 ρ5 φ5} I5 => by
        rw [← I5.len, hl4, wipe_length, I1.len]
      -- what stays of p
      have stay : ∀ {F5 H5 φ5}, Ext F3 H' φ4 F5 H5 φ5 → H5 p = some (.lst xs) ∧ F5 p = none ∧ ∀ j, p ∉ φ5 j := fun {F5 H5 φ5} x5 => by
        refine ⟨x5.keep p _ pH' pn4, ?_, fun j z => ?_⟩
        · cases q : F5 p with
          | none => rfl
          | some o =>
            rcases x5.fn p (by rw [q]; exact fun z => by cases z) with z | z | ⟨j, z⟩
            · exact absurd F3p z
            · rw [pH'] at z; cases z
            · exact absurd z (pn4 j)
        · rcases x5.fp j p z with ⟨l, w⟩ | w
          · exact pn4 l w
          · rw [pH'] at w; cases w
      refine ⟨ew, F3, ρ4, φ4, _, I4, h4, fun b ρ5 F5 φ5 H5 h5 I5 x5 => ?_⟩
      cases b with
      | true =>
        dsimp only at h5 ⊢
        rw [if_pos rfl] at h5 ⊢
        refine ⟨F5, ρ5, φ5, _, I5, h5, fun rv ρ6 F6 φ6 v6 H6 h6 I6 x6 o6 => ?_⟩
        cases rv with
        | b j => exact h6.elim
        | o s => exact h6.elim
        | d y =>
          obtain ⟨sf6, hz, h6⟩ := h6
          have x56 := x5.trans x6
          obtain ⟨p6, f6, n6⟩ := stay x56
          have rx6 : RpL K F6 acc xs := (rx.mono pu.sub).mono x56.sub
          refine ⟨xs, p6, by rw [← rx.length]; exact hz, F6, wipeD ρ6 vs, φ6, acc ++ [y], xs ++ [v6], ?_, (x4.trans x56).aside hp, upd_same, rx6.append (.one o6), f6, n6, ?_, h6⟩
          · have := I6.wiped sf6
            rw [ew] at this
            exact this.aside f6 n6 gp
          · rw [wipeD_length]
            exact lens I6
      | false =>
        dsimp only at h5 ⊢
        rw [if_neg Bool.false_ne_true] at h5 ⊢
        obtain ⟨sf5, h5⟩ := h5
        obtain ⟨p5, f5, n5⟩ := stay x5
        refine ⟨F5, wipeD ρ5 vs, φ5, acc, xs, ?_, x4.trans x5, p5, (rx.mono pu.sub).mono x5.sub, f5, n5, ?_, h5⟩
        · have := I5.wiped sf5
          rw [ew] at this
          exact this
        · rw [wipeD_length]
          exact lens I5
    · have e : i = ds.length := by omega
      subst e
      rw [List.drop_length] at h2
      obtain ⟨gd2, hl2', sf2, h2⟩ := h2
      refine .inl ⟨ok.stop F2 H2 _ ρ2 φ2 I2 x2.sub gd2 (hsl hw), ?_⟩
      have J2 := I1.backed sf I2 x2.sub hl2' sf2 hw
      have np : H p = none := by
        cases q : H p with
        | none => rfl
        | some o => exact absurd hp (x1.gon p (by rw [q]; exact fun z => by cases z))
      have gp : g.H p = none := by
        cases q : g.H p with
        | none => rfl
        | some o => exact absurd hp (I1.gon p (by rw [q]; exact fun z => by cases z))
      refine k _ _ _ _ _ _ h2 J2 (x1.trans x2) ⟨rfl, [p], ⟨p, xs, rfl, rfl, hpH, rx⟩, fun a ha => ?_, fun a ha => ?_⟩
      · rw [List.mem_singleton.mp ha]; exact .inl np
      · rw [List.mem_singleton.mp ha]; exact ⟨gp, Fp, pn⟩
variable {elt tg iter : Expr} {ifs : List Expr} {scope : Scope} {own : List (Str × Nat)} {pos spos py : Pos} {ti : DI} {t : DG} {tt : DT} {te : DE}
theorem de_lc (hc : X.calm = true) (hN : X.N.Nodup) (hi : PId X g tg iter ti) (ok : BlkOk X.N X.env.scope scope own)
    (hg : ∀ (s : Shared) (H : Hp) (C : Addr) (cl : List (Str × Addr)) (fp : List Addr), PGd (X.blk s H scope (compEnvC scope cl C X.env) fp) g (own.map (·.2)) tg t) (ht : ∀ (s : Shared) (H : Hp) (C : Addr) (cl : List (Str × Addr)) (fp : List Addr), PTsd (X.blk s H scope (compEnvC scope cl C X.env) fp) g ifs tt)
    (he : ∀ (s : Shared) (H : Hp) (C : Addr) (cl : List (Str × Addr)) (fp : List Addr), PEd (X.blk s H scope (compEnvC scope cl C X.env) fp) g elt te) (hs : ∀ x, foldedSetIterable iter X.env x = pure x := by intro _; rfl) :
    PEd X g (.ListComp elt [⟨tg, iter, ifs, 0⟩] scope pos) (dLc (own.map (·.2)) ti t tt te) := PE.imp (pe_lc hc hN hi ok hg ht he hs) lE_lc
theorem ds_setLc {i : Nat} {y : Str} (hc : X.calm = true) (hN : X.N.Nodup) (hy : X.N[i]? = some y) (hyl : X.env.scope.names.lookup y = some .local)
    (hsw : swapsWith (.ListComp elt [⟨tg, iter, ifs, 0⟩] scope pos) (some (.Name y py)) spos.line X.env = pure true) (hi : PId X g tg iter ti) (ok : BlkOk X.N X.env.scope scope own)
    (hg : ∀ (s : Shared) (H : Hp) (C : Addr) (cl : List (Str × Addr)) (fp : List Addr), PGd (X.blk s H scope (compEnvC scope cl C X.env) fp) g (own.map (·.2)) tg t) (ht : ∀ (s : Shared) (H : Hp) (C : Addr) (cl : List (Str × Addr)) (fp : List Addr), PTsd (X.blk s H scope (compEnvC scope cl C X.env) fp) g ifs tt)
    (he : ∀ (s : Shared) (H : Hp) (C : Addr) (cl : List (Str × Addr)) (fp : List Addr), PEd (X.blk s H scope (compEnvC scope cl C X.env) fp) g elt te) (hs : ∀ x, foldedSetIterable iter X.env x = pure x := by intro _; rfl) :
    PSd X g (.Assign [.Name y py] (.ListComp elt [⟨tg, iter, ifs, 0⟩] scope pos) spos) (dSet i (dLc (own.map (·.2)) ti t tt te)) :=
  PS.imp (ps_setLc hc hN hy hyl hsw hi ok hg ht he hs) fun D σ H ⟨F, ρ, φ, ψ, I, h, k, _⟩ => by
    refine lE_lc _ _ _ ⟨F, ρ, φ, _, I, h, fun r ρ1 F1 φ1 v H1 h1 I1 x1 o1 => ?_⟩
    obtain ⟨s, h2, h3, h4⟩ := stSl_of h1
    obtain ⟨φ', J⟩ := I1.store h2 o1 h3
    exact k _ _ _ _ _ h4 J x1.sub
end
end DL

set_option maxRecDepth 100000
set_option maxHeartbeats 4000000
namespace DL
open PySem PySem.Spec PyProof.Rows L2 TL SkE

/-- what a def does: its arguments' slots; R of the result and the arguments' slots behind; B of line and place of BadText and the slots behind -/
abbrev Spec := List Sl → (RV → List Sl → Prop) → (Int → Int → List Sl → Prop) → Prop
def badFs (l p : Int) : List (Str × V) := [("line", .int l), ("place", .int p)]
/-- the promise -/
def spD (K : PySem.W.Frag) (C : Addr) (S : Spec) : Sp := fun vs H Q E => ∃ F args φ R B, SI K ⟨F, H, vs, φ⟩ F H (vs.map some) args φ ∧ S args R B ∧
  (∀ r ρ' F' φ' σ' v H', R r (ρ'.take vs.length) → SI K ⟨F, H, vs, φ⟩ F' H' σ' ρ' φ' → Same F F' → ValOk K ⟨F, H, vs, φ⟩ F' H' σ' φ' (fun _ => True) v r → Q v H') ∧
  (∀ l p ρ' F' φ' σ' H' dd, B l p (ρ'.take vs.length) → SI K ⟨F, H, vs, φ⟩ F' H' σ' ρ' φ' → Same F F' → H' dd = some (.xd (badFs l p)) → H dd = none → (F' dd = none ∧ ∀ j, dd ∉ φ' j) → E (.ref C) (some dd) H')

/-- a slot lent (or data handed on) -/
def argOf (ρ : List Sl) : RV → Option Sl
  | .d x => some (.dat x)
  | .b i => match ρ[i]? with
    | some s => if s.res = true then some (s.fl false) else none
    | none => none
  | .o _ => none
def argsOf (ρ : List Sl) : List RV → Option (List Sl)
  | [] => some []
  | r :: rs => match argOf ρ r, argsOf ρ rs with
    | some s, some ss => some (s :: ss)
    | _, _ => none
def lent : List RV → List Nat
  | [] => []
  | .b i :: rs => i :: lent rs
  | _ :: rs => lent rs
/-- lent slots written back -/
def wr : List Sl → List RV → List Sl → List Sl
  | ρ, .b i :: rs, s :: ss => wr (ρ.set i (s.fl ((ρ.getD i .no).mn))) rs ss
  | ρ, _ :: rs, _ :: ss => wr ρ rs ss
  | ρ, _, _ => ρ
/-- what comes back in a lent place is lent -/
def lentOk : List RV → List Sl → Prop
  | [], _ => True
  | .b _ :: rs, s :: ss => (s.res = true ∧ s.mn = false) ∧ lentOk rs ss
  | .b _ :: _, [] => False
  | _ :: rs, _ :: ss => lentOk rs ss
  | _ :: rs, [] => lentOk rs []
def RV.noB : RV → Bool
  | .b _ => false
  | _ => true
/-- the addresses handed -/
def φc (φ : Nat → List Addr) (rs : List RV) : Nat → List Addr := fun k => match rs[k]? with
  | some (.b i) => φ i
  | _ => []
/-- behind the call -/
def upφs (φ φ' : Nat → List Addr) : List RV → Nat → Nat → List Addr
  | [], _, i => φ i
  | .b j :: rs, k, i => if i = j then φ' k else upφs φ φ' rs (k + 1) i
  | _ :: rs, k, i => upφs φ φ' rs (k + 1) i
theorem fl_res (s : Sl) (m : Bool) : (s.fl m).res = s.res := by cases s <;> rfl
theorem fl_mn {s : Sl} (m : Bool) (h : s.res = true) : (s.fl m).mn = m := by cases s <;> first | rfl | cases h
theorem mem_lent {rs : List RV} {i : Nat} : i ∈ lent rs ↔ ∃ k : Nat, rs[k]? = some (RV.b i) := by
  induction rs with
  | nil => simp [lent]
  | cons r rs ih =>
    cases r with
    | b j =>
      simp only [lent, List.mem_cons]
      constructor
      · rintro (e | h)
        · exact ⟨0, by rw [e]; rfl⟩
        · obtain ⟨k, e⟩ := ih.mp h
          exact ⟨k + 1, by simpa using e⟩
      · rintro ⟨k, e⟩
        cases k with
        | zero => simp at e; exact .inl e.symm
        | succ k => exact .inr (ih.mpr ⟨k, by simpa using e⟩)
    | d x =>
      simp only [lent]
      rw [ih]
      constructor
      · rintro ⟨k, e⟩; exact ⟨k + 1, by simpa using e⟩
      · rintro ⟨k, e⟩
        cases k with
        | zero => simp at e
        | succ k => exact ⟨k, by simpa using e⟩
    | o x =>
      simp only [lent]
      rw [ih]
      constructor
      · rintro ⟨k, e⟩; exact ⟨k + 1, by simpa using e⟩
      · rintro ⟨k, e⟩
        cases k with
        | zero => simp at e
        | succ k => exact ⟨k, by simpa using e⟩
theorem lent_one : ∀ {rs : List RV} {i k l : Nat}, (lent rs).Nodup → rs[k]? = some (.b i) → rs[l]? = some (.b i) → k = l
  | [], _, _, _, _, h, _ => by simp at h
  | r :: rs, i, k, l, nd, h1, h2 => by
    have tl : (lent rs).Nodup := by
      cases r with
      | b j => exact (List.nodup_cons.mp nd).2
      | d x => exact nd
      | o x => exact nd
    cases k with
    | zero =>
      cases l with
      | zero => rfl
      | succ l =>
        simp at h1 h2
        subst h1
        exact absurd (mem_lent.mpr ⟨l, h2⟩) (List.nodup_cons.mp nd).1
    | succ k =>
      cases l with
      | zero =>
        simp at h1 h2
        subst h2
        exact absurd (mem_lent.mpr ⟨k, h1⟩) (List.nodup_cons.mp nd).1
      | succ l =>
        simp at h1 h2
        rw [lent_one tl h1 h2]
theorem wr_length : ∀ (rs : List RV) (ss ρ : List Sl), (wr ρ rs ss).length = ρ.length
  | [], _, _ => by simp [wr]
  | .b i :: rs, [], ρ => by simp [wr]
  | .d i :: rs, [], ρ => by simp [wr]
  | .o i :: rs, [], ρ => by simp [wr]
  | .b i :: rs, s :: ss, ρ => by simp only [wr]; rw [wr_length rs ss, List.length_set]
  | .d i :: rs, s :: ss, ρ => by simp only [wr]; exact wr_length rs ss ρ
  | .o i :: rs, s :: ss, ρ => by simp only [wr]; exact wr_length rs ss ρ
theorem wr_out {i : Nat} : ∀ (rs : List RV) (ss ρ : List Sl), i ∉ lent rs → (wr ρ rs ss)[i]? = ρ[i]?
  | [], _, _, _ => by simp [wr]
  | .b j :: rs, [], ρ, _ => by simp [wr]
  | .d j :: rs, [], ρ, _ => by simp [wr]
  | .o j :: rs, [], ρ, _ => by simp [wr]
  | .b j :: rs, s :: ss, ρ, h => by
    simp only [wr]
    have h1 : j ≠ i := fun e => h (by rw [e]; exact List.mem_cons_self)
    rw [wr_out rs ss _ fun m => h (List.mem_cons_of_mem _ m), List.getElem?_set_ne h1]
  | .d j :: rs, s :: ss, ρ, h => by simp only [wr]; exact wr_out rs ss ρ h
  | .o j :: rs, s :: ss, ρ, h => by simp only [wr]; exact wr_out rs ss ρ h
theorem wr_in {i : Nat} : ∀ (rs : List RV) (ss ρ : List Sl) (k : Nat) (s s0 : Sl), (lent rs).Nodup → rs[k]? = some (.b i) → ss[k]? = some s → ρ[i]? = some s0 → (wr ρ rs ss)[i]? = some (s.fl s0.mn)
  | [], _, _, _, _, _, _, h, _, _ => by simp at h
  | .b j :: rs, [], ρ, k, _, _, _, _, h, _ => by simp at h
  | .d j :: rs, [], ρ, k, _, _, _, _, h, _ => by simp at h
  | .o j :: rs, [], ρ, k, _, _, _, _, h, _ => by simp at h
  | .b j :: rs, t :: ss, ρ, 0, s, s0, nd, h1, h2, h3 => by
    simp at h1 h2
    subst h1
    subst h2
    have hi : j < ρ.length := (List.getElem?_eq_some_iff.mp h3).1
    simp only [wr]
    rw [wr_out rs ss _ (List.nodup_cons.mp nd).1, List.getElem?_set_self hi]
    rw [List.getD_eq_getElem?_getD, h3]
    rfl
  | .b j :: rs, t :: ss, ρ, k + 1, s, s0, nd, h1, h2, h3 => by
    simp only [List.getElem?_cons_succ] at h1 h2
    have hj : j ≠ i := fun e => (List.nodup_cons.mp nd).1 (by rw [e]; exact mem_lent.mpr ⟨k, h1⟩)
    simp only [wr]
    exact wr_in rs ss _ k s s0 (List.nodup_cons.mp nd).2 h1 h2 (by rw [List.getElem?_set_ne hj]; exact h3)
  | .d j :: rs, t :: ss, ρ, 0, s, s0, nd, h1, h2, h3 => by simp at h1
  | .o j :: rs, t :: ss, ρ, 0, s, s0, nd, h1, h2, h3 => by simp at h1
  | .d j :: rs, t :: ss, ρ, k + 1, s, s0, nd, h1, h2, h3 => by simp only [wr]; exact wr_in rs ss ρ k s s0 nd (by simpa using h1) (by simpa using h2) h3
  | .o j :: rs, t :: ss, ρ, k + 1, s, s0, nd, h1, h2, h3 => by simp only [wr]; exact wr_in rs ss ρ k s s0 nd (by simpa using h1) (by simpa using h2) h3
theorem upφs_out {φ φ' : Nat → List Addr} {i : Nat} : ∀ (rs : List RV) (o : Nat), i ∉ lent rs → upφs φ φ' rs o i = φ i
  | [], _, _ => rfl
  | .b j :: rs, o, h => by
    have h1 : i ≠ j := fun e => h (by rw [e]; exact List.mem_cons_self)
    simp only [upφs]
    rw [if_neg h1]
    exact upφs_out rs (o + 1) fun m => h (List.mem_cons_of_mem _ m)
  | .d j :: rs, o, h => by simp only [upφs]; exact upφs_out rs (o + 1) h
  | .o j :: rs, o, h => by simp only [upφs]; exact upφs_out rs (o + 1) h
theorem upφs_in {φ φ' : Nat → List Addr} {i : Nat} : ∀ (rs : List RV) (o k : Nat), (lent rs).Nodup → rs[k]? = some (.b i) → upφs φ φ' rs o i = φ' (o + k)
  | [], _, _, _, h => by simp at h
  | .b j :: rs, o, 0, nd, h => by
    simp at h
    subst h
    simp only [upφs, if_true]
    rfl
  | .b j :: rs, o, k + 1, nd, h => by
    simp only [List.getElem?_cons_succ] at h
    have hj : i ≠ j := fun e => (List.nodup_cons.mp nd).1 (by rw [← e]; exact mem_lent.mpr ⟨k, h⟩)
    simp only [upφs]
    rw [if_neg hj, upφs_in rs (o + 1) k (List.nodup_cons.mp nd).2 h]
    congr 1; omega
  | .d j :: rs, o, 0, nd, h => by simp at h
  | .o j :: rs, o, 0, nd, h => by simp at h
  | .d j :: rs, o, k + 1, nd, h => by
    simp only [upφs]
    rw [upφs_in rs (o + 1) k nd (by simpa using h)]
    congr 1; omega
  | .o j :: rs, o, k + 1, nd, h => by
    simp only [upφs]
    rw [upφs_in rs (o + 1) k nd (by simpa using h)]
    congr 1; omega
theorem lentOk_at : ∀ {rs : List RV} {ss : List Sl} {k i : Nat}, lentOk rs ss → rs[k]? = some (.b i) → ∃ s, ss[k]? = some s ∧ s.res = true ∧ s.mn = false
  | [], _, _, _, _, h => by simp at h
  | .b j :: rs, [], _, _, h, _ => h.elim
  | .d j :: rs, [], 0, _, _, h => by simp at h
  | .o j :: rs, [], 0, _, _, h => by simp at h
  | .d j :: rs, [], k + 1, i, h, e => by
    obtain ⟨s, h1, _⟩ := lentOk_at (rs := rs) (ss := []) (k := k) (i := i) h (by simpa using e)
    simp at h1
  | .o j :: rs, [], k + 1, i, h, e => by
    obtain ⟨s, h1, _⟩ := lentOk_at (rs := rs) (ss := []) (k := k) (i := i) h (by simpa using e)
    simp at h1
  | .b j :: rs, s :: ss, 0, i, h, e => ⟨s, rfl, h.1⟩
  | .b j :: rs, s :: ss, k + 1, i, h, e => by
    obtain ⟨s', h1, h2⟩ := lentOk_at (k := k) h.2 (by simpa using e)
    exact ⟨s', by simpa using h1, h2⟩
  | .d j :: rs, s :: ss, 0, i, h, e => by simp at e
  | .o j :: rs, s :: ss, 0, i, h, e => by simp at e
  | .d j :: rs, s :: ss, k + 1, i, h, e => by
    obtain ⟨s', h1, h2⟩ := lentOk_at (rs := rs) (k := k) h (by simpa using e)
    exact ⟨s', by simpa using h1, h2⟩
  | .o j :: rs, s :: ss, k + 1, i, h, e => by
    obtain ⟨s', h1, h2⟩ := lentOk_at (rs := rs) (k := k) h (by simpa using e)
    exact ⟨s', by simpa using h1, h2⟩
theorem argsOf_at : ∀ {ρ : List Sl} {rs : List RV} {args : List Sl} {k : Nat} {s : Sl}, argsOf ρ rs = some args → args[k]? = some s → ∃ r, rs[k]? = some r ∧ argOf ρ r = some s
  | _, [], _, _, _, h, e => by cases h; simp at e
  | ρ, r :: rs, _, k, s, h, e => by
    unfold argsOf at h
    split at h
    · rename_i s1 ss e1 e2
      cases h
      cases k with
      | zero => simp at e; subst e; exact ⟨r, rfl, e1⟩
      | succ k =>
        obtain ⟨r', h1, h2⟩ := argsOf_at (k := k) e2 (by simpa using e)
        exact ⟨r', by simpa using h1, h2⟩
    · cases h
theorem argsOf_length : ∀ {ρ : List Sl} {rs : List RV} {args : List Sl}, argsOf ρ rs = some args → args.length = rs.length
  | _, [], _, h => by cases h; rfl
  | ρ, r :: rs, _, h => by
    unfold argsOf at h
    split at h
    · rename_i s1 ss e1 e2
      cases h
      rw [List.length_cons, List.length_cons, argsOf_length e2]
    · cases h
theorem ValsOk.at_ {K g F H σ φ} : ∀ {rs : List RV} {vs : List V} {k : Nat} {r : RV}, ValsOk K g F H σ φ rs vs → rs[k]? = some r → ∃ v, vs[k]? = some v ∧ ValOk K g F H σ φ (fun _ => True) v r
  | [], _, _, _, _, e => by simp at e
  | r :: rs, _, 0, r', h, e => by
    obtain ⟨v, t, rfl, q, _⟩ := h
    simp at e; subst e
    exact ⟨v, rfl, q⟩
  | r :: rs, _, k + 1, r', h, e => by
    obtain ⟨v, t, rfl, _, q⟩ := h
    obtain ⟨v', h1, h2⟩ := ValsOk.at_ (k := k) q (by simpa using e)
    exact ⟨v', by simpa using h1, h2⟩
theorem ValsOk.length {K g F H σ φ} : ∀ {rs : List RV} {vs : List V}, ValsOk K g F H σ φ rs vs → rs.length = vs.length
  | [], _, h => by cases h; rfl
  | r :: rs, _, h => by
    obtain ⟨v, t, rfl, _, q⟩ := h
    rw [List.length_cons, List.length_cons, ValsOk.length q]

section
variable {K : PySem.W.Frag} {g : G} {F H : Hp} {σ : L2.St} {ρ : List Sl} {φ : Nat → List Addr} {rs : List RV} {vs : List V} {args : List Sl}
/-- the callee's entry -/
abbrev gC (F H : Hp) (vs : List V) (φ : Nat → List Addr) (rs : List RV) : G := ⟨F, H, vs, φc φ rs⟩
theorem map_some_join {vs : List V} {k : Nat} : (vs.map some)[k]?.join = vs[k]? := by
  rw [List.getElem?_map]
  cases vs[k]? <;> rfl
theorem SI.into (I : SI K g F H σ ρ φ) (o : ValsOk K g F H σ φ rs vs) (e : argsOf ρ rs = some args) (nd : (lent rs).Nodup) : SI K (gC F H vs φ rs) F H (vs.map some) args (φc φ rs) := by
  have hlen : args.length = vs.length := by rw [argsOf_length e, o.length]
  have cb : ∀ {k a}, a ∈ φc φ rs k → ∃ i, rs[k]? = some (RV.b i) ∧ a ∈ φ i := fun {k a} h => by
    unfold φc at h
    split at h
    · rename_i i e1
      exact ⟨i, e1, h⟩
    · simp at h
  refine ⟨by simp [hlen], fun k s h => ?_, fun k h => ?_, fun k l a h1 h2 => ?_, fun k a h => ?_, I.sub, .refl _, fun b x h n => h, fun k a h => .inl ⟨k, h⟩, fun b h => .inl h, fun k s a h1 h2 h3 => ?_, fun k s h1 h2 h3 => ?_, fun b h => h, fun k s a h1 h2 h3 h4 => .inl h4⟩
  · obtain ⟨r, h1, h2⟩ := argsOf_at e h
    obtain ⟨v, h3, h4⟩ := o.at_ h1
    rw [map_some_join, h3]
    cases r with
    | d x =>
      cases h2
      refine ⟨?_, v, rfl, h4⟩
      unfold φc
      rw [h1]
    | o s' => cases h2
    | b i =>
      unfold argOf at h2
      cases e1 : ρ[i]? with
      | none => simp only [e1] at h2; cases h2
      | some s0 =>
        simp only [e1] at h2
        split at h2
        · cases h2
          have q := I.at_ i s0 e1
          have ev : σ[i]? = some (some v) := h4
          rw [ev] at q
          have : φc φ rs k = φ i := by unfold φc; rw [h1]
          rw [this]
          exact q.flag
        · cases h2
  · unfold φc
    have : rs[k]? = none := by
      rw [List.getElem?_eq_none_iff] at h ⊢
      rw [← argsOf_length e]
      exact h
    rw [this]
  · obtain ⟨i, e1, q1⟩ := cb h1
    obtain ⟨j, e2, q2⟩ := cb h2
    have eij := I.dj i j a q1 q2
    subst eij
    exact lent_one nd e1 e2
  · obtain ⟨i, e1, q1⟩ := cb h
    exact I.fr i a q1
  · obtain ⟨r, h4, h5⟩ := argsOf_at e h1
    cases r with
    | d x => cases h5; cases h2
    | o s' => cases h5
    | b i =>
      unfold argOf at h5
      cases e1 : ρ[i]? with
      | none => simp only [e1] at h5; cases h5
      | some s0 =>
        simp only [e1] at h5
        split at h5
        · rename_i hr
          cases h5
          rw [fl_mn false hr] at h2
          cases h2
        · cases h5
  · rw [map_some_join]
/-- behind the call: the caller's state -/
theorem SI.outof (I : SI K g F H σ ρ φ) (o : ValsOk K g F H σ φ rs vs) (nd : (lent rs).Nodup) {F' H' : Hp} {σ' : L2.St} {ρ' : List Sl} {φ' : Nat → List Addr} (J : SI K (gC F H vs φ rs) F' H' σ' ρ' φ') (S : Same F F') (lo : lentOk rs (ρ'.take vs.length))
    (hs : ∀ i, i ∈ lent rs → ∃ s, ρ[i]? = some s ∧ s.res = true) :
    SI K g F' H' σ (wr ρ rs (ρ'.take vs.length)) (upφs φ φ' rs 0) ∧ Ext F H φ F' H' (upφs φ φ' rs 0) := by
  -- what stays of the slots that are not lent
  have cb : ∀ {a}, (∃ k, a ∈ φc φ rs k) → ∃ i, i ∈ lent rs ∧ a ∈ φ i := fun {a} ⟨k, h⟩ => by
    unfold φc at h
    split at h
    · rename_i i e1
      exact ⟨i, mem_lent.mpr ⟨k, e1⟩, h⟩
    · simp at h
  have stay : ∀ b x, H b = some x → (∀ i, i ∈ lent rs → b ∉ φ i) → H' b = some x := fun b x h n => J.keep b x h fun w => by
    obtain ⟨i, h1, h2⟩ := cb w
    exact n i h1 h2
  have atL : ∀ {k i : Nat}, rs[k]? = some (.b i) → ∃ s s0, (ρ'.take vs.length)[k]? = some s ∧ ρ'[k]? = some s ∧ s.res = true ∧ s.mn = false ∧ ρ[i]? = some s0 ∧ s0.res = true ∧ σ'[k]?.join = σ[i]?.join := fun {k i} h => by
    obtain ⟨s, h1, h2, h3⟩ := lentOk_at lo h
    have h4 : ρ'[k]? = some s := by
      rw [List.getElem?_take] at h1
      split at h1
      · exact h1
      · cases h1
    obtain ⟨s0, h5, h6⟩ := hs i (mem_lent.mpr ⟨k, h⟩)
    obtain ⟨v, h7, h8⟩ := o.at_ h
    have h9 : σ[i]? = some (some v) := h8
    refine ⟨s, s0, h1, h4, h2, h3, h5, h6, ?_⟩
    rw [J.bor k s h4 h2 h3, h9]
    exact h7
  have fpL : ∀ {k i a}, rs[k]? = some (.b i) → a ∈ φ' k → (∃ j, j ∈ lent rs ∧ a ∈ φ j) ∨ H a = none := fun {k i a} h ha => by
    rcases J.fw k a ha with w | w
    · exact .inl (cb w)
    · exact .inr w
  have fpO : ∀ {k i a}, rs[k]? = some (.b i) → a ∈ φ' k → a ∈ φ i ∨ H a = none := fun {k i a} h ha => by
    obtain ⟨s1, s0, q1, q2, q3, q4, q5, q6, q7⟩ := atL h
    rcases J.bfp k s1 a q2 q3 q4 ha with w | w
    · have w' : a ∈ φc φ rs k := w
      unfold φc at w'
      rw [h] at w'
      exact .inl w'
    · exact .inr w
  have cases_ : ∀ i, (∃ k : Nat, rs[k]? = some (RV.b i) ∧ upφs φ φ' rs 0 i = φ' k) ∨ (i ∉ lent rs ∧ upφs φ φ' rs 0 i = φ i) := fun i => by
    by_cases h : i ∈ lent rs
    · obtain ⟨k, e⟩ := mem_lent.mp h
      exact .inl ⟨k, e, by rw [upφs_in rs 0 k nd e, Nat.zero_add]⟩
    · exact .inr ⟨h, upφs_out rs 0 h⟩
  refine ⟨⟨by rw [wr_length]; exact I.len, fun i s h => ?_, fun i h => ?_, fun i j a h1 h2 => ?_, fun i a h => ?_, J.sub, I.f0.trans S, fun b x h n => ?_, fun i a h => ?_, fun b h => ?_, fun i s a h h1 h2 => ?_, fun i s h h1 h2 => ?_, fun b h => J.gon b (I.gon b h), fun i s a h h1 h2 h3 => ?_⟩,
    ⟨S, fun b x h n => stay b x h fun i _ => n i, fun i a h => ?_, fun b h => (J.fn b h).elim .inl fun z => .inr (.inl z), J.gon⟩⟩
  · rcases cases_ i with ⟨k, e, e2⟩ | ⟨h0, e2⟩
    · obtain ⟨s1, s0, q1, q2, q3, q4, q5, q6, q7⟩ := atL e
      rw [wr_in rs _ ρ k s1 s0 nd e q1 q5] at h
      cases h
      rw [e2, ← q7]
      exact (J.at_ k s1 q2).flag
    · rw [wr_out rs _ ρ h0] at h
      rw [e2]
      refine (I.at_ i s h).mono S fun a ha => ?_
      cases q : H a with
      | none => exact absurd q (I.there ha)
      | some x => exact stay a x q fun j hj z => h0 (by rw [I.dj i j a ha z]; exact hj)
  · have h' : ρ[i]? = none := by
      rw [List.getElem?_eq_none_iff] at h ⊢
      rw [wr_length] at h
      exact h
    rcases cases_ i with ⟨k, e, e2⟩ | ⟨h0, e2⟩
    · obtain ⟨s1, s0, q1, q2, q3, q4, q5, q6, q7⟩ := atL e
      rw [h'] at q5; cases q5
    · rw [e2]
      exact I.out i h'
  · rcases cases_ i with ⟨k, e, e2⟩ | ⟨h0, e2⟩
    · rw [e2] at h1
      rcases cases_ j with ⟨l, f, f2⟩ | ⟨g0, f2⟩
      · rw [f2] at h2
        have := J.dj k l a h1 h2
        subst this
        rw [e] at f
        cases f
        rfl
      · rw [f2] at h2
        rcases fpL e h1 with ⟨m, w1, w2⟩ | w
        · exact absurd (by rw [I.dj j m a h2 w2]; exact w1) g0
        · exact absurd w (I.there h2)
    · rw [e2] at h1
      rcases cases_ j with ⟨l, f, f2⟩ | ⟨g0, f2⟩
      · rw [f2] at h2
        rcases fpL f h2 with ⟨m, w1, w2⟩ | w
        · exact absurd (by rw [I.dj i m a h1 w2]; exact w1) h0
        · exact absurd w (I.there h1)
      · rw [f2] at h2
        exact I.dj i j a h1 h2
  · rcases cases_ i with ⟨k, e, e2⟩ | ⟨h0, e2⟩
    · rw [e2] at h
      exact J.fr k a h
    · rw [e2] at h
      cases q : F' a with
      | none => rfl
      | some x =>
        rcases J.fn a (by rw [q]; exact fun z => by cases z) with z | z
        · exact absurd (I.fr i a h) z
        · exact absurd z (I.there h)
  · refine stay b x (I.keep b x h n) fun i hi z => ?_
    rcases I.fw i b z with w | w
    · exact n w
    · rw [h] at w; cases w
  · rcases cases_ i with ⟨k, e, e2⟩ | ⟨h0, e2⟩
    · rw [e2] at h
      rcases fpL e h with ⟨m, w1, w2⟩ | w
      · exact I.fw m a w2
      · right
        cases q : g.H a with
        | none => rfl
        | some x => exact absurd w (I.gon a (by rw [q]; exact fun z => by cases z))
    · rw [e2] at h
      exact I.fw i a h
  · rcases J.fn b h with z | z
    · exact I.fn b z
    · right
      cases q : g.H b with
      | none => rfl
      | some x => exact absurd z (I.gon b (by rw [q]; exact fun z => by cases z))
  · rcases cases_ i with ⟨k, e, e2⟩ | ⟨h0, e2⟩
    · obtain ⟨s1, s0, q1, q2, q3, q4, q5, q6, q7⟩ := atL e
      rw [wr_in rs _ ρ k s1 s0 nd e q1 q5] at h
      cases h
      rw [fl_mn _ q3] at h1
      rw [e2] at h2
      rcases fpO e h2 with w | w
      · exact I.mine i s0 a q5 h1 w
      · cases q : g.H a with
        | none => rfl
        | some x => exact absurd w (I.gon a (by rw [q]; exact fun z => by cases z))
    · rw [wr_out rs _ ρ h0] at h
      rw [e2] at h2
      exact I.mine i s a h h1 h2
  · rcases cases_ i with ⟨k, e, e2⟩ | ⟨h0, e2⟩
    · obtain ⟨s1, s0, q1, q2, q3, q4, q5, q6, q7⟩ := atL e
      rw [wr_in rs _ ρ k s1 s0 nd e q1 q5] at h
      cases h
      rw [fl_mn _ q3] at h2
      exact I.bor i s0 q5 q6 h2
    · rw [wr_out rs _ ρ h0] at h
      exact I.bor i s h h1 h2
  · rcases cases_ i with ⟨k, e, e2⟩ | ⟨h0, e2⟩
    · obtain ⟨s1, s0, q1, q2, q3, q4, q5, q6, q7⟩ := atL e
      rw [wr_in rs _ ρ k s1 s0 nd e q1 q5] at h
      cases h
      rw [fl_mn _ q3] at h2
      rw [e2] at h3
      rcases fpO e h3 with w | w
      · exact I.bfp i s0 a q5 q6 h2 w
      · right
        cases q : g.H a with
        | none => rfl
        | some x => exact absurd w (I.gon a (by rw [q]; exact fun z => by cases z))
    · rw [wr_out rs _ ρ h0] at h
      rw [e2] at h3
      exact I.bfp i s a h h1 h2 h3
  · rcases cases_ i with ⟨k, e, e2⟩ | ⟨h0, e2⟩
    · rw [e2] at h
      rcases fpL e h with ⟨m, w1, w2⟩ | w
      · exact .inl ⟨m, w2⟩
      · exact .inr w
    · rw [e2] at h
      exact .inl ⟨i, h⟩
end
end DL

set_option maxRecDepth 100000
set_option maxHeartbeats 4000000
namespace DL
open PySem PySem.Spec PyProof.Rows L2 TL SkE

/-! ### calls of defs -/
/-- the call, by the slots -/
def goFn (S : Spec) (B : Int → Int → List Sl → Prop) (rs : List RV) (ρ : List Sl) (Q : DQ) : Prop := (lent rs).Nodup ∧ ∃ args, argsOf ρ rs = some args ∧
  S args (fun r args' => r.noB = true ∧ lentOk rs args' ∧ Q r (wr ρ rs args')) (fun l p args' => lentOk rs args' ∧ B l p (wr ρ rs args'))
def noBad : Int → Int → List Sl → Prop := fun _ _ _ => False
def dFn (S : Spec) (B : Int → Int → List Sl → Prop) (ts : DA) : DE := fun ρ Q => ts ρ fun rs ρ1 => goFn S B rs ρ1 Q
/-- what a body wishes of BadText -/
def WB (K : PySem.W.Frag) (g : G) (C : Addr) (B : Int → Int → List Sl → Prop) : WX := fun cls d σ H => ∃ l p ρ F φ dd, B l p ρ ∧ SI K g F H σ ρ φ ∧ cls = .ref C ∧ d = some dd ∧ H dd = some (.xd (badFs l p)) ∧ g.H dd = none ∧ F dd = none ∧ ∀ j, dd ∉ φ j
theorem argOf_lent : ∀ {ρ : List Sl} {rs : List RV} {args : List Sl}, argsOf ρ rs = some args → ∀ i, i ∈ lent rs → ∃ s, ρ[i]? = some s ∧ s.res = true
  | _, [], _, _, i, hi => by simp [lent] at hi
  | ρ, r :: rs, _, h, i, hi => by
    unfold argsOf at h
    split at h
    · rename_i s1 ss e1 e2
      cases r with
      | d x => exact argOf_lent e2 i hi
      | o x => exact argOf_lent e2 i hi
      | b j =>
        rcases List.mem_cons.mp hi with e | hi
        · subst e
          unfold argOf at e1
          cases e3 : ρ[i]? with
          | none => simp only [e3] at e1; cases e1
          | some s =>
            simp only [e3] at e1
            split at e1
            · rename_i hr
              exact ⟨s, rfl, hr⟩
            · cases e1
        · exact argOf_lent e2 i hi
    · cases h
theorem gH_of {K g F H σ ρ φ} (I : SI K g F H σ ρ φ) {a : Addr} (h : H a = none) : g.H a = none := by
  cases q : g.H a with
  | none => rfl
  | some o => exact absurd h (I.gon a (by rw [q]; exact fun z => by cases z))
theorem sp_call {K : PySem.W.Frag} {g : G} {C : Addr} {S : Spec} {B : Int → Int → List Sl → Prop} {F H : Hp} {σ : L2.St} {ρ : List Sl} {φ : Nat → List Addr} {rs : List RV} {vs : List V} {ψ : DQ} {Q : VK} {E : XK}
    (I : SI K g F H σ ρ φ) (o : ValsOk K g F H σ φ rs vs) (h : goFn S B rs ρ ψ)
    (k : ∀ r ρ' F' φ' v H', ψ r ρ' → SI K g F' H' σ ρ' φ' → Ext F H φ F' H' φ' → ValOk K g F' H' σ φ' (NW H φ) v r → Q v H')
    (kE : ∀ cls d H', WB K g C B cls d σ H' → E cls d H') : spD K C S vs H Q E := by
  obtain ⟨nd, args, e, hS⟩ := h
  have hl := argOf_lent e
  refine ⟨F, args, φc φ rs, _, _, I.into o e nd, hS, fun r ρ' F' φ' σ' v H' ⟨hr, lo, hq⟩ J S' vo => ?_, fun l p ρ' F' φ' σ' H' dd ⟨lo, hB⟩ J S' hx hd hf => ?_⟩
  · obtain ⟨I', x⟩ := I.outof o nd J S' lo hl
    refine k r _ _ _ v H' hq I' x ?_
    cases r with
    | b i => cases hr
    | d y => exact vo
    | o s =>
      obtain ⟨m, fp, q, n, w⟩ := vo
      refine ⟨m, fp, q, fun a ha => .inl (w a ha).1, fun a ha => ⟨gH_of I (w a ha).1, (w a ha).2.1, fun j z => ?_⟩⟩
      by_cases hj : j ∈ lent rs
      · obtain ⟨kk, ek⟩ := mem_lent.mp hj
        rw [upφs_in rs 0 kk nd ek, Nat.zero_add] at z
        exact (w a ha).2.2 kk z
      · rw [upφs_out rs 0 hj] at z
        exact I.there z (w a ha).1
  · obtain ⟨I', x⟩ := I.outof o nd J S' lo hl
    refine kE _ _ _ ⟨l, p, _, F', _, dd, hB, I', rfl, rfl, hx, gH_of I hd, hf.1, fun j z => ?_⟩
    by_cases hj : j ∈ lent rs
    · obtain ⟨kk, ek⟩ := mem_lent.mp hj
      rw [upφs_in rs 0 kk nd ek, Nat.zero_add] at z
      exact hf.2 kk z
    · rw [upφs_out rs 0 hj] at z
      exact I.there z hd
section
variable {X : Cx} {g : G} {CX : CXT} {k : Nat} {f C Cb : Addr} {fd : FuncData} {ps : List Str} {S : Spec} {B : Int → Int → List Sl → Prop} {x m : Str} {p pos apos : Pos} {e o : Expr} {es : List Expr} {ts : DA}
theorem de_fn (F : FnOk X.prog X.w X.K X.mg X.base CX0 k f fd ps (spD X.K Cb S)) (hr : Room k X.A) (hg : Gl X x) (hm : X.mg x = some (.ref f)) (hk : PySem.W.keepIn X.K (.ref f) = true) (hb : Binds X.K fd ps [])
    (ha : PAd X g (e :: es) ts) (hdb : (x == ("__debug__" : Str)) = false := by decide) (he : starEach (e :: es) X.env = (false, eval e X.env) :: starEach es X.env := by rfl) (hpl : (backTo pos (starEach es X.env)).any (·.1) = false := by rfl) :
    PEd X g (.Call (.Name x p) (e :: es) [] pos) (dFn S noBad ts) :=
  PE.imp (pe_call F hr hg hm hk hb .nil pass0 ha hdb he hpl) fun σ H Q ⟨F, ρ, φ, ψ, I, h, k⟩ => ⟨F, ρ, φ, _, I, h, fun rs ρ1 F1 φ1 vs H1 h1 I1 x1 o1 => by
    dsimp only
    rw [List.append_nil]
    exact sp_call I1 o1 h1 (fun r ρ' F' φ' v H' q I' x' vo => k _ _ _ _ _ _ q I' (x1.trans x') (vo.imp fun _ => x1.back)) fun _ _ _ ⟨_, _, _, _, _, _, z, _⟩ => z.elim⟩
/-- one that may raise BadText -/
theorem de_fnX (tk : L2N.Takes X (WB X.K g Cb B)) (F : FnOk X.prog X.w X.K X.mg X.base (L2N.CX X.prog X.w) k f fd ps (spD X.K Cb S)) (hr : Room k X.A) (hg : Gl X x) (hm : X.mg x = some (.ref f)) (hk : PySem.W.keepIn X.K (.ref f) = true) (hb : Binds X.K fd ps [])
    (ha : PAd X g (e :: es) ts) (hdb : (x == ("__debug__" : Str)) = false := by decide) (he : starEach (e :: es) X.env = (false, eval e X.env) :: starEach es X.env := by rfl) (hpl : (backTo pos (starEach es X.env)).any (·.1) = false := by rfl) :
    PEd X g (.Call (.Name x p) (e :: es) [] pos) (dFn S B ts) :=
  PE.imp (pe_callSD F hr hg hm hk hb .nil (fun σ => L2N.passAt tk σ) ha hdb he hpl) fun σ H Q ⟨F, ρ, φ, ψ, I, h, k⟩ => ⟨F, ρ, φ, _, I, h, fun rs ρ1 F1 φ1 vs H1 h1 I1 x1 o1 => by
    dsimp only
    rw [List.append_nil]
    exact sp_call I1 o1 h1 (fun r ρ' F' φ' v H' q I' x' vo => k _ _ _ _ _ _ q I' (x1.trans x') (vo.imp fun _ => x1.back)) fun _ _ _ h => h⟩
end

/-! ### own objects -/
/-- the own object of the class at C in slot i -/
def obAt (ρ : List Sl) (i : Nat) (C : Addr) (k : Bool → List (Str × D) → Prop) : Prop := match ρ[i]? with
  | some (.ob m C' fs) => C' = C ∧ k m fs
  | _ => False
theorem obAt_of {ρ : List Sl} {i : Nat} {C : Addr} {k : Bool → List (Str × D) → Prop} (h : obAt ρ i C k) : ∃ m fs, ρ[i]? = some (.ob m C fs) ∧ k m fs := by
  unfold obAt at h
  split at h
  · rename_i m C' fs e
    obtain ⟨e2, h⟩ := h
    subst e2
    exact ⟨m, fs, e, h⟩
  · exact h.elim
theorem RpF.put {K : PySem.W.Frag} {F : Hp} {f : Str} {d : D} {v : V} (q : Rp K F d v) : ∀ {ds : List (Str × D)} {vs : List (Str × V)}, RpF K F ds vs → RpF K F (putD f d ds) (putF f v vs)
  | [], _, h => by cases h; exact ⟨v, [], rfl, q, rfl⟩
  | (g, u) :: ds, _, h => by
    obtain ⟨w, r, rfl, q2, t⟩ := h
    unfold putD putF
    by_cases e : g = f
    · rw [if_pos e, if_pos e]
      exact ⟨v, r, rfl, q, t⟩
    · rw [if_neg e, if_neg e]
      exact ⟨w, _, rfl, q2, RpF.put q t⟩
section
variable {K : PySem.W.Frag} {g : G} {F H : Hp} {σ : L2.St} {ρ : List Sl} {φ : Nat → List Addr}
theorem SI.obj (I : SI K g F H σ ρ φ) {i : Nat} {m : Bool} {C : Addr} {fs : List (Str × D)} (e : ρ[i]? = some (.ob m C fs)) : ∃ a dx vs, σ[i]? = some (some (.ref a)) ∧ H a = some (.ins C dx vs) ∧ RpF K F fs vs ∧
    ∀ fs' vs', RpF K F fs' vs' → SI K g F (upd H a (.ins C dx vs')) σ (ρ.set i (.ob m C fs')) φ ∧ Ext F H φ F (upd H a (.ins C dx vs')) φ := by
  obtain ⟨a, dx, vs, e1, e2, q, r⟩ := I.at_ i _ e
  refine ⟨a, dx, vs, join_some e1, q, r, fun fs' vs' r' => ?_⟩
  exact I.change e (by rw [e2]; exact List.mem_cons_self) ⟨a, dx, vs', e1, e2, upd_same, r'⟩ rfl rfl rfl
end
section
variable {X : Cx} {g : G} {e value : Expr} {te : DE} {pos pos' apos ppos tpos : Pos} {i : Nat} {x f : Str} {C : Addr}
/-- x.f -/
def dFld (i : Nat) (C : Addr) (f : Str) : DE := fun ρ Q => obAt ρ i C fun _ fs => ∃ d, fs.lookup f = some d ∧ Q (.d d) ρ
theorem de_fld (i : Nat) (c : Cls X.K C) (n : NoAttr X.K C f) (hN : X.N[i]? = some x := by rfl) (hv : Vis X.env.scope x := by first | exact Or.inl rfl | exact Or.inr (Or.inl rfl) | exact Or.inr (Or.inr rfl)) (hd : (x == ("__debug__" : Str)) = false := by decide)
    (hcd : (x == ("__classdict__" : Str)) = false := by decide) (hb : attributeBase (.Name x ppos) f X.env (eval (.Name x ppos) X.env) = eval (.Name x ppos) X.env := by rfl) : PEd X g (.Attribute (.Name x ppos) f pos) (dFld i C f) :=
  PE.imp (pe_fld (pv i hN hv hd hcd) hb) fun σ H Q ⟨F, ρ, φ, ψ, I, h, k⟩ => by
    obtain ⟨m, fs, e, d, hl, h⟩ := obAt_of h
    obtain ⟨a, dx, vs, e1, q, r, _⟩ := I.obj e
    obtain ⟨v, hl2, rv⟩ := r.lookup hl
    exact ⟨_, e1, a, C, dx, vs, v, rfl, q, c, n, hl2, k _ _ _ _ _ _ h I (.refl _ _ _) rv⟩
/-- x.f = e -/
def dFldSet (i : Nat) (C : Addr) (f : Str) (te : DE) : DS := fun ψ ρ => te ρ fun r ρ1 => match r with
  | .d d => obAt ρ1 i C fun m fs => fs.length < 1000 ∧ ψ.nx (ρ1.set i (.ob m C (putD f d fs)))
  | _ => False
theorem ds_fld (i : Nat) (c : Cls X.K C) (n : NoAttr X.K C f) (hval : PEd X g value te) (hN : X.N[i]? = some x := by rfl) (hv : Vis X.env.scope x := by first | exact Or.inl rfl | exact Or.inr (Or.inl rfl) | exact Or.inr (Or.inr rfl)) (hd : (x == ("__debug__" : Str)) = false := by decide)
    (hcd : (x == ("__classdict__" : Str)) = false := by decide) (hs : swapsWith value (some (.Attribute (.Name x ppos) f pos')) pos.line X.env = pure false := by rfl) : PSd X g (.Assign [.Attribute (.Name x ppos) f pos'] value pos) (dFldSet i C f te) :=
  PS.imp (ps_fld (pv i hN hv hd hcd) hval hs) fun D σ H ⟨F, ρ, φ, ψ, I, h, k, _⟩ => ⟨F, ρ, φ, _, I, h, fun r ρ1 F1 φ1 v H1 h1 I1 x1 o1 => by
    cases r with
    | b j => exact h1.elim
    | o s => exact h1.elim
    | d d =>
      obtain ⟨m, fs, e, hz, h1⟩ := obAt_of h1
      obtain ⟨a, dx, vs, e1, q, r, ch⟩ := I1.obj e
      obtain ⟨J, y⟩ := ch _ _ (RpF.put (f := f) o1 r)
      exact ⟨_, e1, a, C, dx, vs, rfl, q, c, n, by rw [← r.length]; exact hz, k _ _ _ _ _ h1 J x1.sub⟩⟩
/-- x.f += e, ints -/
def dFldAdd (i : Nat) (C : Addr) (f : Str) (te : DE) : DS := fun ψ ρ => obAt ρ i C fun _ fs0 => ∃ j, fs0.lookup f = some (.int j) ∧ te ρ fun r ρ1 => match r with
  | .d (.int l) => obAt ρ1 i C fun m fs => fs.length < 1000 ∧ ψ.nx (ρ1.set i (.ob m C (putD f (.int (j + l)) fs)))
  | _ => False
theorem ds_fldAdd (i : Nat) (c : Cls X.K C) (n : NoAttr X.K C f) (hval : PEd X g value te) (hN : X.N[i]? = some x := by rfl) (hv : Vis X.env.scope x := by first | exact Or.inl rfl | exact Or.inr (Or.inl rfl) | exact Or.inr (Or.inr rfl)) (hd : (x == ("__debug__" : Str)) = false := by decide)
    (hcd : (x == ("__classdict__" : Str)) = false := by decide) : PSd X g (.AugAssign (.Attribute (.Name x ppos) f tpos) .Add value pos) (dFldAdd i C f te) :=
  PS.imp (ps_fldaug (pv i hN hv hd hcd) hval in_add) fun D σ H ⟨F, ρ, φ, ψ, I, h, k, _⟩ => by
    obtain ⟨m0, fs0, e0, j, hl, h⟩ := obAt_of h
    obtain ⟨a, dx, vs, e1, q, r, _⟩ := I.obj e0
    obtain ⟨v, hl2, rv⟩ := r.lookup hl
    cases rv
    refine ⟨_, e1, a, C, dx, vs, _, rfl, q, c, n, hl2, F, ρ, φ, _, I, h, fun r ρ1 F1 φ1 v H1 h1 I1 x1 o1 => ?_⟩
    split at h1
    · rename_i l
      obtain ⟨m, fs, e, hz, h1⟩ := obAt_of h1
      obtain ⟨a2, dx2, vs2, e2, q2, r2, ch⟩ := I1.obj e
      rw [e1] at e2
      cases e2
      cases o1
      obtain ⟨J, y⟩ := ch _ _ (RpF.put (f := f) (d := .int (j + l)) (v := .int (j + l)) rfl r2)
      exact ⟨j, l, rfl, rfl, dx2, vs2, q2, by rw [← r2.length]; exact hz, k _ _ _ _ _ h1 J x1.sub⟩
    · exact h1.elim
variable {CX : CXT} {k : Nat} {fa Cb : Addr} {fd : FuncData} {ps : List Str} {S : Spec} {B : Int → Int → List Sl → Prop} {m : Str} {es : List Expr} {ts : DA} {o : Expr}
/-- x.m(..) -/
def dMeth (i : Nat) (C : Addr) (m : Str) (S : Spec) (B : Int → Int → List Sl → Prop) (ts : DA) : DE := fun ρ Q => obAt ρ i C fun _ fs => fs.lookup m = none ∧ ts ρ fun rs ρ1 => goFn S B (.b i :: rs) ρ1 Q
theorem pe_methG {pl : Sem Bool} {E : L2.St → XK} {ta : TE} {t : TA} {sp : Sp} (he : PE X o ta) (c : Cls X.K C) (hm : Meth X.K C m fa) (F : FnOk X.prog X.w X.K X.mg X.base CX k fa fd ps sp) (hr : Room k X.A) (hb : Binds X.K fd ps []) (hx : ∀ σ, PassesAt CX X σ (E σ)) (ha : PA X (e :: es) t)
    (hst : starEach (e :: es) X.env = (false, eval e X.env) :: starEach es X.env := by rfl) (hpl : (backTo pos (starEach es X.env)).any (·.1) = false := by rfl)
    (ht : eval (.Call (.Attribute o m apos) (e :: es) [] pos) X.env = (do
      let ov ← eval o X.env
      standAt apos.atName
      let (f, first) ← holding [ov] (getMethod ov m pl)
      callWith pos f first (backTo pos (starEach (e :: es) X.env)) (backToKw pos (keywordEach [] X.env))) := by rfl) :
    PE X (.Call (.Attribute o m apos) (e :: es) [] pos) (fun σ H Q => ta σ H fun x H1 => ∃ a dx fs, x = .ref a ∧ H1 a = some (.ins C dx fs) ∧ fs.lookup m = none ∧ t σ H1 fun vs H2 => sp (x :: (vs ++ [])) H2 Q (E σ)) := by
  refine ⟨fun pins s σ H Q I h => ?_⟩
  refine PySem.W.methodCall_KW (pl := pl) (thn (he.run pins s σ H _ I h) fun u s1 ⟨x, H1, I1, rx, a, dx, fs, ex, ea, l, q⟩ => ?_) ht
  subst ex
  obtain rfl : u = Value.ref a := rx
  refine getmeth_ok I1 ea c hm l ?_
  refine PySem.W.callWith_K (first := [.ref a]) (h₀ := X.base) I.ok.mod.kin hm.kp (thn (ha.run pos pins s1 σ H1 _ I1 q) fun us s2 ⟨vs, H2, I2, r, q2⟩ => ⟨I2.kIn, ?_⟩) hst hpl
  exact run_fnSD (us := .ref a :: us) (vs := .ref a :: vs) F hr hb .nil (hx σ) I2 (.cons rfl r) q2
theorem pe_methG0 {pl : Sem Bool} {E : L2.St → XK} {ta : TE} {sp : Sp} (he : PE X o ta) (c : Cls X.K C) (hm : Meth X.K C m fa) (F : FnOk X.prog X.w X.K X.mg X.base CX k fa fd ps sp) (hr : Room k X.A) (hb : Binds X.K fd ps []) (hx : ∀ σ, PassesAt CX X σ (E σ))
    (ht : eval (.Call (.Attribute o m apos) [] [] pos) X.env = (do
      let ov ← eval o X.env
      standAt apos.atName
      let (f, first) ← holding [ov] (getMethod ov m pl)
      callWith pos f first (backTo pos (starEach [] X.env)) (backToKw pos (keywordEach [] X.env))) := by rfl) :
    PE X (.Call (.Attribute o m apos) [] [] pos) (fun σ H Q => ta σ H fun x H1 => ∃ a dx fs, x = .ref a ∧ H1 a = some (.ins C dx fs) ∧ fs.lookup m = none ∧ sp [x] H1 Q (E σ)) := by
  refine ⟨fun pins s σ H Q I h => ?_⟩
  refine PySem.W.methodCall_KW (pl := pl) (thn (he.run pins s σ H _ I h) fun u s1 ⟨x, H1, I1, rx, a, dx, fs, ex, ea, l, q⟩ => ?_) ht
  subst ex
  obtain rfl : u = Value.ref a := rx
  refine getmeth_ok I1 ea c hm l ?_
  exact PySem.W.callWith_K0 (first := [.ref a]) I1.kIn hm.kp (run_fnSD (us := [.ref a]) (vs := [.ref a]) F hr hb .nil (hx σ) I1 (.cons rfl .nil) q)
theorem pass0At {σ : L2.St} : PassesAt CX0 X σ E0 := fun _ _ _ _ _ _ h => h.elim
theorem lE_meth {K : PySem.W.Frag} {E : L2.St → XK} (hE : ∀ σ cls d H', WB K g Cb B cls d σ H' → E σ cls d H') : ∀ σ H Q, lE K g (dMeth i C m S B ts) σ H Q → tVar i σ H fun x H1 => ∃ a dx fs, x = .ref a ∧ H1 a = some (.ins C dx fs) ∧ fs.lookup m = none ∧ lA K g ts σ H1 fun vs H2 => spD K Cb S (x :: (vs ++ [])) H2 Q (E σ) := by
  rintro σ H Q ⟨F, ρ, φ, ψ, I, h, k⟩
  obtain ⟨m0, fs, e, hl, h⟩ := obAt_of h
  obtain ⟨a, dx, vs, e1, q, r, _⟩ := I.obj e
  refine ⟨_, e1, a, dx, vs, rfl, q, r.lookup_none hl, F, ρ, φ, _, I, h, fun rs ρ1 F1 φ1 ws H1 h1 I1 x1 o1 => ?_⟩
  dsimp only
  rw [List.append_nil]
  exact sp_call I1 (rs := .b i :: rs) (vs := .ref a :: ws) ⟨.ref a, ws, rfl, e1, o1⟩ h1 (fun r ρ' F' φ' v H' q I' x' vo => k _ _ _ _ _ _ q I' (x1.trans x') (vo.imp fun _ => x1.back)) (hE σ)
theorem lE_meth0 {K : PySem.W.Frag} {E : L2.St → XK} (hE : ∀ σ cls d H', WB K g Cb B cls d σ H' → E σ cls d H') : ∀ σ H Q, lE K g (dMeth i C m S B dNil) σ H Q → tVar i σ H fun x H1 => ∃ a dx fs, x = .ref a ∧ H1 a = some (.ins C dx fs) ∧ fs.lookup m = none ∧ spD K Cb S [x] H1 Q (E σ) := by
  rintro σ H Q ⟨F, ρ, φ, ψ, I, h, k⟩
  obtain ⟨m0, fs, e, hl, h⟩ := obAt_of h
  obtain ⟨a, dx, vs, e1, q, r, _⟩ := I.obj e
  exact ⟨_, e1, a, dx, vs, rfl, q, r.lookup_none hl, sp_call I (rs := [.b i]) (vs := [.ref a]) ⟨.ref a, [], rfl, e1, rfl⟩ h k (hE σ)⟩
theorem de_meth {pl : Sem Bool} (i : Nat) (c : Cls X.K C) (hm : Meth X.K C m fa) (F : FnOk X.prog X.w X.K X.mg X.base CX0 k fa fd ps (spD X.K Cb S)) (hr : Room k X.A) (hb : Binds X.K fd ps []) (ha : PAd X g (e :: es) ts)
    (hN : X.N[i]? = some x := by rfl) (hv : Vis X.env.scope x := by first | exact Or.inl rfl | exact Or.inr (Or.inl rfl) | exact Or.inr (Or.inr rfl)) (hd : (x == ("__debug__" : Str)) = false := by decide) (hcd : (x == ("__classdict__" : Str)) = false := by decide)
    (hst : starEach (e :: es) X.env = (false, eval e X.env) :: starEach es X.env := by rfl) (hpl : (backTo pos (starEach es X.env)).any (·.1) = false := by rfl)
    (ht : eval (.Call (.Attribute (.Name x ppos) m apos) (e :: es) [] pos) X.env = (do
      let ov ← eval (.Name x ppos) X.env
      standAt apos.atName
      let (f, first) ← holding [ov] (getMethod ov m pl)
      callWith pos f first (backTo pos (starEach (e :: es) X.env)) (backToKw pos (keywordEach [] X.env))) := by rfl) :
    PEd X g (.Call (.Attribute (.Name x ppos) m apos) (e :: es) [] pos) (dMeth i C m S noBad ts) :=
  PE.imp (pe_methG (E := fun _ => E0) (pv i hN hv hd hcd) c hm F hr hb (fun _ => pass0At) ha hst hpl ht) (lE_meth fun _ _ _ _ ⟨_, _, _, _, _, _, z, _⟩ => z.elim)
theorem de_meth0 {pl : Sem Bool} (i : Nat) (c : Cls X.K C) (hm : Meth X.K C m fa) (F : FnOk X.prog X.w X.K X.mg X.base CX0 k fa fd ps (spD X.K Cb S)) (hr : Room k X.A) (hb : Binds X.K fd ps [])
    (hN : X.N[i]? = some x := by rfl) (hv : Vis X.env.scope x := by first | exact Or.inl rfl | exact Or.inr (Or.inl rfl) | exact Or.inr (Or.inr rfl)) (hd : (x == ("__debug__" : Str)) = false := by decide) (hcd : (x == ("__classdict__" : Str)) = false := by decide)
    (ht : eval (.Call (.Attribute (.Name x ppos) m apos) [] [] pos) X.env = (do
      let ov ← eval (.Name x ppos) X.env
      standAt apos.atName
      let (f, first) ← holding [ov] (getMethod ov m pl)
      callWith pos f first (backTo pos (starEach [] X.env)) (backToKw pos (keywordEach [] X.env))) := by rfl) :
    PEd X g (.Call (.Attribute (.Name x ppos) m apos) [] [] pos) (dMeth i C m S noBad dNil) :=
  PE.imp (pe_methG0 (E := fun _ => E0) (pv i hN hv hd hcd) c hm F hr hb (fun _ => pass0At) ht) (lE_meth0 fun _ _ _ _ ⟨_, _, _, _, _, _, z, _⟩ => z.elim)
theorem de_methX {pl : Sem Bool} (i : Nat) (tk : L2N.Takes X (WB X.K g Cb B)) (c : Cls X.K C) (hm : Meth X.K C m fa) (F : FnOk X.prog X.w X.K X.mg X.base (L2N.CX X.prog X.w) k fa fd ps (spD X.K Cb S)) (hr : Room k X.A) (hb : Binds X.K fd ps []) (ha : PAd X g (e :: es) ts)
    (hN : X.N[i]? = some x := by rfl) (hv : Vis X.env.scope x := by first | exact Or.inl rfl | exact Or.inr (Or.inl rfl) | exact Or.inr (Or.inr rfl)) (hd : (x == ("__debug__" : Str)) = false := by decide) (hcd : (x == ("__classdict__" : Str)) = false := by decide)
    (hst : starEach (e :: es) X.env = (false, eval e X.env) :: starEach es X.env := by rfl) (hpl : (backTo pos (starEach es X.env)).any (·.1) = false := by rfl)
    (ht : eval (.Call (.Attribute (.Name x ppos) m apos) (e :: es) [] pos) X.env = (do
      let ov ← eval (.Name x ppos) X.env
      standAt apos.atName
      let (f, first) ← holding [ov] (getMethod ov m pl)
      callWith pos f first (backTo pos (starEach (e :: es) X.env)) (backToKw pos (keywordEach [] X.env))) := by rfl) :
    PEd X g (.Call (.Attribute (.Name x ppos) m apos) (e :: es) [] pos) (dMeth i C m S B ts) :=
  PE.imp (pe_methG (E := WE (WB X.K g Cb B)) (pv i hN hv hd hcd) c hm F hr hb (fun σ => L2N.passAt tk σ) ha hst hpl ht) (lE_meth fun _ _ _ _ h => h)
theorem de_methX0 {pl : Sem Bool} (i : Nat) (tk : L2N.Takes X (WB X.K g Cb B)) (c : Cls X.K C) (hm : Meth X.K C m fa) (F : FnOk X.prog X.w X.K X.mg X.base (L2N.CX X.prog X.w) k fa fd ps (spD X.K Cb S)) (hr : Room k X.A) (hb : Binds X.K fd ps [])
    (hN : X.N[i]? = some x := by rfl) (hv : Vis X.env.scope x := by first | exact Or.inl rfl | exact Or.inr (Or.inl rfl) | exact Or.inr (Or.inr rfl)) (hd : (x == ("__debug__" : Str)) = false := by decide) (hcd : (x == ("__classdict__" : Str)) = false := by decide)
    (ht : eval (.Call (.Attribute (.Name x ppos) m apos) [] [] pos) X.env = (do
      let ov ← eval (.Name x ppos) X.env
      standAt apos.atName
      let (f, first) ← holding [ov] (getMethod ov m pl)
      callWith pos f first (backTo pos (starEach [] X.env)) (backToKw pos (keywordEach [] X.env))) := by rfl) :
    PEd X g (.Call (.Attribute (.Name x ppos) m apos) [] [] pos) (dMeth i C m S B dNil) :=
  PE.imp (pe_methG0 (E := WE (WB X.K g Cb B)) (pv i hN hv hd hcd) c hm F hr hb (fun σ => L2N.passAt tk σ) ht) (lE_meth0 fun _ _ _ _ h => h)
end
end DL

set_option maxRecDepth 100000
set_option maxHeartbeats 4000000
namespace DL
open PySem PySem.Spec PyProof.Rows L2 TL SkE

/-! ### a new own object -/
section
variable {X : Cx} {g : G} {k : Nat} {fI C Cb : Addr} {fd : FuncData} {ps : List Str} {S : Spec} {x : Str} {p pos : Pos} {e : Expr} {es : List Expr} {ts : DA}
/-- C(..), the arguments data -/
def dMake (C : Addr) (S : Spec) (ts : DA) : DE := fun ρ Q => ts ρ fun rs ρ1 => rdD rs fun ds => S (.ob false C [] :: ds.map .dat) (fun r args' => match r, args' with
  | .d .non, .ob false C' fs :: _ => C' = C ∧ Q (.o (.ob true C fs)) ρ1
  | _, _ => False) noBad
theorem de_make (M : Mk X.K C fI) (F : FnOk X.prog X.w X.K X.mg X.base CX0 k fI fd ps (spD X.K Cb S)) (hr : Room (k + 1) X.A) (hg : Gl X x) (hm : X.mg x = some (.ref C)) (hb : Binds X.K fd ps [])
    (ha : PAd X g (e :: es) ts) (hdb : (x == ("__debug__" : Str)) = false := by decide) (he : starEach (e :: es) X.env = (false, eval e X.env) :: starEach es X.env := by rfl) (hpl : (backTo pos (starEach es X.env)).any (·.1) = false := by rfl) :
    PEd X g (.Call (.Name x p) (e :: es) [] pos) (dMake C S ts) :=
  PE.imp (pe_make M F hr hg hm hb .nil pass0 ha hdb he hpl) fun σ H Q ⟨F, ρ, φ, ψ, I, h, kk⟩ => ⟨F, ρ, φ, _, I, h, fun rs ρ1 F1 φ1 vs H1 h1 I1 x1 o1 => by
    obtain ⟨ds, ed, h1⟩ := rdD_of h1
    have rv := datas_ok o1 ed
    intro a dx ha hdx hne
    rw [List.append_nil]
    have na : ∀ b o, H1 b = some o → b ≠ a := fun b o q z => by rw [z, ha] at q; cases q
    have nd : ∀ b o, H1 b = some o → b ≠ dx := fun b o q z => by rw [z, hdx] at q; cases q
    have S2 : Same H1 (upd (upd H1 dx (.own a)) a (.ins C dx [])) := fun b o q => by
      rw [upd_ne (na b o q), upd_ne (nd b o q)]
      exact q
    have fa : ∀ b, b ≠ a → b ≠ dx → (upd (upd H1 dx (.own a)) a (.ins C dx [])) b = H1 b := fun b h1 h2 => by rw [upd_ne h1, upd_ne h2]
    have hA : (upd (upd H1 dx (.own a)) a (.ins C dx [])) a = some (.ins C dx []) := upd_same
    have Fa : F1 a = none := I1.sub.free ha
    have φn : ∀ i b, b ∈ (fun i : Nat => if i = 0 then [a] else []) i → i = 0 ∧ b = a := fun i b hb => by
      dsimp only at hb
      by_cases e0 : i = 0
      · rw [if_pos e0] at hb
        exact ⟨e0, List.mem_singleton.mp hb⟩
      · rw [if_neg e0] at hb
        simp at hb
    refine ⟨F1, .ob false C [] :: ds.map .dat, fun i => if i = 0 then [a] else [], _, noBad, ?_, h1, fun r ρ' F' φ' σ' v H' hR J S' vo => ?_, fun _ _ _ _ _ _ _ _ z => z.elim⟩
    · refine ⟨by simp [rv.length], fun i s hs => ?_, fun i hi => ?_, fun i j b h1 h2 => by rw [(φn i b h1).1, (φn j b h2).1], fun i b hb => by rw [(φn i b hb).2]; exact Fa, I1.sub.trans S2, .refl _, fun b o q _ => q, fun i b hb => .inl ⟨i, hb⟩, fun b q => .inl q,
        fun i s b h1 h2 h3 => ?_, fun i s h1 h2 h3 => by rw [map_some_join], fun b q => q, fun i s b h1 h2 h3 h4 => .inl h4⟩
      · cases i with
        | zero =>
          simp at hs
          subst hs
          exact ⟨a, dx, [], rfl, rfl, hA, rfl⟩
        | succ i =>
          simp only [List.getElem?_cons_succ, List.getElem?_map] at hs
          cases ei : ds[i]? with
          | none => rw [ei] at hs; cases hs
          | some d =>
            rw [ei] at hs
            cases hs
            obtain ⟨v, h1, h2⟩ := rv.get ei
            refine ⟨by simp, v, ?_, h2⟩
            simp [h1]
      · cases i with
        | zero => simp at hi
        | succ i => simp
      · cases i with
        | zero =>
          simp at h1
          subst h1
          cases h2
        | succ i => simp at h3
    · -- back
      have hl : (V.ref a :: vs).length ≠ 0 := by simp
      revert hR
      cases hρ : List.take (V.ref a :: vs).length ρ' with
      | nil =>
        intro hR
        try dsimp only at hR
        split at hR
        · rename_i e2
          cases e2
        · exact hR.elim
      | cons s0 rest =>
        intro hR
        try dsimp only at hR
        split at hR
        · rename_i C' fs tl e2
          cases e2
          obtain ⟨eC, hq⟩ := hR
          subst eC
          have e0 : ρ'[0]? = some (.ob false C' fs) := by
            have := congrArg (fun l => l[0]?) hρ
            try dsimp only at this
            rw [List.getElem?_take_of_lt (by simp)] at this
            exact this
          have es : σ'[0]?.join = some (.ref a) := J.bor 0 _ e0 rfl rfl
          have q0 := J.at_ 0 _ e0
          rw [es] at q0
          obtain ⟨a2, dx2, vs2, f1, f2, f3, f4⟩ := q0
          cases f1
          have pu : Pur F1 H1 F' H' := ⟨S', J.sub, fun b o q => J.keep b o (S2 b o q) fun ⟨i, hb⟩ => na b o q (φn i b hb).2, fun b q => ?_⟩
          · refine ⟨by rw [show v = V.non from vo], kk _ _ _ _ _ _ hq (I1.pure pu) (x1.trans (I1.ext pu)) ⟨rfl, [a], ⟨a, dx2, vs2, rfl, rfl, f3, f4⟩, fun b hb => ?_, fun b hb => ?_⟩⟩
            · rw [List.mem_singleton.mp hb]
              exact x1.back (.inl ha)
            · rw [List.mem_singleton.mp hb]
              exact ⟨gH_of I1 ha, J.fr 0 a (by rw [f2]; exact List.mem_cons_self), fun j z => I1.there z ha⟩
          · rcases J.fn b q with z | z
            · exact .inl z
            · right
              cases q1 : H1 b with
              | none => rfl
              | some o => exact absurd z (by
                  have := S2 b o q1
                  intro z2
                  rw [show (upd (upd H1 dx (.own a)) a (.ins C' dx [])) b = none from z2] at this
                  cases this)
        · exact hR.elim⟩
end

/-! ### a def by its body -/
section
variable {P : Program} {w : World} {K : PySem.W.Frag} {mg : Str → Option Value} {base : Heap}
def endsOf (n : Nat) (R : RV → List Sl → Prop) : DEnds := { nx := fun ρ => R (.d .non) (ρ.take n), rt := fun r ρ => R r (ρ.take n) }
def body0 (N ps : List Str) (args : List Sl) : List Sl := args ++ List.replicate (N.length - ps.length) .no
theorem SI.begin {g : G} {F H : Hp} {vs : List V} {args : List Sl} {φ : Nat → List Addr} {N ps : List Str} (I : SI K g F H (vs.map some) args φ) (hl : vs.length = ps.length) : SI K g F H (L2.start N vs) (body0 N ps args) φ := by
  have ha : args.length = vs.length := by rw [← I.len]; simp
  unfold L2.start body0
  rw [hl]
  have out : ∀ i, vs.length ≤ i → φ i = [] := fun i hi => I.out i (List.getElem?_eq_none (by omega))
  refine ⟨by simp [ha, hl], fun i s h => ?_, fun i h => ?_, I.dj, I.fr, I.sub, I.f0, I.keep, I.fw, I.fn, fun i s a h h1 h2 => ?_, fun i s h h1 h2 => ?_, I.gon, fun i s a h h1 h2 h3 => ?_⟩
  · by_cases hi : i < vs.length
    · rw [List.getElem?_append_left (by omega)] at h
      rw [List.getElem?_append_left (by simpa using hi)]
      exact I.at_ i s h
    · rw [List.getElem?_append_right (by omega), List.getElem?_replicate] at h
      split at h
      · cases h
        exact out i (by omega)
      · cases h
  · have : args[i]? = none := by
      rw [List.getElem?_eq_none_iff] at h ⊢
      simp at h
      omega
    exact I.out i this
  · by_cases hi : i < vs.length
    · rw [List.getElem?_append_left (by omega)] at h
      exact I.mine i s a h h1 h2
    · rw [out i (by omega)] at h2
      simp at h2
  · by_cases hi : i < vs.length
    · rw [List.getElem?_append_left (by omega)] at h
      rw [List.getElem?_append_left (by simpa using hi)]
      exact I.bor i s h h1 h2
    · rw [List.getElem?_append_right (by omega), List.getElem?_replicate] at h
      split at h
      · cases h; cases h1
      · cases h
  · by_cases hi : i < vs.length
    · rw [List.getElem?_append_left (by omega)] at h
      exact I.bfp i s a h h1 h2 h3
    · rw [out i (by omega)] at h3
      simp at h3
/-- the body's run -/
theorem body_run {g : G} {F H : Hp} {vs : List V} {args : List Sl} {φ : Nat → List Addr} {N ps : List Str} {R : RV → List Sl → Prop} {td : DS} {Q : VK} (I : SI K g F H (vs.map some) args φ) (hl : vs.length = ps.length)
    (h : td (endsOf ps.length R) (body0 N ps args))
    (k : ∀ r ρ' F' φ' σ' v H', R r (ρ'.take vs.length) → SI K g F' H' σ' ρ' φ' → Same F F' → ValOk K g F' H' σ' φ' (fun _ => True) v r → Q v H') :
    lS K g td { nx := fun _ H' => Q .non H', rt := Q } (L2.start N vs) H :=
  ⟨F, _, φ, _, I.begin hl, h, fun ρ' F' φ' σ' H' q J S => k (.d .non) ρ' F' φ' σ' .non H' (by rw [hl]; exact q) J S rfl, fun r ρ' F' φ' σ' v H' q J S vo => k r ρ' F' φ' σ' v H' (by rw [hl]; exact q) J S vo, fun _ _ _ _ _ z => z.elim, fun _ _ _ _ _ z => z.elim⟩
/-- a def that raises nothing -/
theorem fn_d {x qual : Str} {st : Stmt} {f Cb : Addr} {fd : FuncData} {N ps : List Str} {k : Nat} {S : Spec} (F : Fun K x qual st f fd) (Sc : FnScope N ps (defScope st)) (hlen : ∀ args R B, S args R B → args.length = ps.length)
    (hbody : ∀ (cdv : Value) (A : Around) (outer : List Env) (s : Shared) (H : Hp) (E : XK) (g : G), Room k (A.deeper (envOfC qual (defScope st) s.heap.objs.size f cdv)) →
      ∃ td, PSsd (cxOf CX0 P w K mg base N qual (defScope st) f cdv A outer s H E).nox g (defBody st) td ∧ ∀ args R, S args R noBad → td (endsOf ps.length R) (body0 N ps args))
    (hB : ∀ args R B, S args R B → S args R noBad) : FnOk P w K mg base CX0 (k + 1) f fd ps (spD K Cb S) := by
  refine F.ok Sc (fun vs H Q E ⟨F, args, φ, R, B, I, hS, _⟩ => ?_) (fun cdv A outer s H vs Q E hr ⟨F, args, φ, R, B, I, hS, kR, kB⟩ => ?_)
  · have := I.len
    simp at this
    rw [this]
    exact hlen _ _ _ hS
  · obtain ⟨td, hd, ht⟩ := hbody cdv A outer s H E ⟨F, H, vs, φ⟩ hr
    have hl : vs.length = ps.length := by
      have := I.len
      simp at this
      rw [this]
      exact hlen _ _ _ hS
    exact ⟨_, hd, body_run I hl (ht args R (hB _ _ _ hS)) kR⟩
/-- a def that may let errors out, whose context is none -/
theorem okXN {x qual : Str} {st : Stmt} {f : Addr} {fd : FuncData} {N ps : List Str} {k : Nat} {sp : Sp} (F : Fun K x qual st f fd) (Sc : FnScope N ps (defScope st)) (hl : ∀ vs H Q E, sp vs H Q E → vs.length = ps.length)
    (hb : ∀ (cdv : Value) (A : Around) (outer : List Env) (s : Shared) (H : Hp) (vs : List V) (Q : VK) (E : XK), Room k (A.deeper (envOfC qual (defScope st) s.heap.objs.size f cdv)) → sp vs H Q E →
      ∃ td, PSs (cxOf (L2N.CX P w) P w K mg base N qual (defScope st) f cdv A outer s H E) (defBody st) td ∧ td { nx := fun _ H' => Q .non H', rt := Q } (L2.start N vs) H) :
    FnOk P w K mg base (L2N.CX P w) (k + 1) f fd ps sp := by
  obtain ⟨a1, a2, a3, a4, a5, a6, cdv, a8, a9, e, lk, hcd⟩ := F.ex
  subst e
  exact fn_of lk hcd Sc hl fun A outer s H vs Q E hr hs => hb cdv A outer s H vs Q E hr hs
/-- a def that may raise BadText -/
theorem fn_dX {x qual : Str} {st : Stmt} {f Cb : Addr} {fd : FuncData} {N ps : List Str} {k : Nat} {S : Spec} (F : Fun K x qual st f fd) (Sc : FnScope N ps (defScope st)) (hlen : ∀ args R B, S args R B → args.length = ps.length)
    (hbody : ∀ (cdv : Value) (A : Around) (outer : List Env) (s : Shared) (H : Hp) (E : XK) (g : G) (B : Int → Int → List Sl → Prop), Room k (A.deeper (envOfC qual (defScope st) s.heap.objs.size f cdv)) →
      L2N.Takes (cxOf (L2N.CX P w) P w K mg base N qual (defScope st) f cdv A outer s H E) (WB K g Cb (fun l p ρ => B l p (ρ.take ps.length))) →
      ∃ td, PSsd (cxOf (L2N.CX P w) P w K mg base N qual (defScope st) f cdv A outer s H E) g (defBody st) td ∧ ∀ args R, S args R B → td (endsOf ps.length R) (body0 N ps args)) :
    FnOk P w K mg base (L2N.CX P w) (k + 1) f fd ps (spD K Cb S) := by
  refine okXN F Sc (fun vs H Q E ⟨F, args, φ, R, B, I, hS, _⟩ => ?_) (fun cdv A outer s H vs Q E hr ⟨F, args, φ, R, B, I, hS, kR, kB⟩ => ?_)
  · have := I.len
    simp at this
    rw [this]
    exact hlen _ _ _ hS
  · have hl : vs.length = ps.length := by
      have := I.len
      simp at this
      rw [this]
      exact hlen _ _ _ hS
    have tk0 : L2N.Takes (cxOf (L2N.CX P w) P w K mg base N qual (defScope st) f cdv A outer s H E) (fun cls d _ H => E cls d H) := L2N.takes_of rfl rfl rfl rfl
    obtain ⟨td, hd, ht⟩ := hbody cdv A outer s H E ⟨F, H, vs, φ⟩ B hr (tk0.imp fun c d σ H' ⟨l, p, ρ, F', φ', dd, hB, J, e1, e2, h1, h2, h3, h4⟩ => by
      subst e1
      subst e2
      exact kB l p ρ F' φ' σ H' dd (by rw [hl]; exact hB) J J.f0 h1 h2 ⟨h3, h4⟩)
    exact ⟨_, hd, body_run I hl (ht args R hS) kR⟩
end
end DL

set_option maxRecDepth 100000
set_option maxHeartbeats 4000000
namespace DL
open PySem PySem.Spec PyProof.Rows L2 TL SkE

/-! ### targets -/
section
variable {X : Cx} {g : G} {e : Expr} {te ti : DE} {tg : Expr} {t : DG} {vs : List Nat} {pos p1 p2 p3 p4 p5 ppos : Pos} {i : Nat} {x : Str}
/-- a, b = e -/
def dAsg (te : DE) (t : DG) : DS := fun ψ ρ => te ρ fun r ρ1 => match r with
  | .d d => t d ρ1 ψ.nx
  | _ => False
theorem ds_asg (he : PEd X g e te) (hg : PGd X g vs tg t) (hs : swapsWithSole [tg] e pos.line X.env = pure false := by rfl) (hw : swappedStores [tg] e X.env = pure none := by rfl)
    (h1 : (assignEach [tg] X.env).map (·.2) = [assign tg X.env] := by rfl) : PSd X g (.Assign [tg] e pos) (dAsg te t) :=
  PS.imp (ps_asg he hg hs hw h1) fun D σ H ⟨F, ρ, φ, ψ, I, h, k, _⟩ => ⟨F, ρ, φ, _, I, h, fun r ρ1 F1 φ1 v H1 h1 I1 x1 o1 => by
    cases r with
    | b j => exact h1.elim
    | o s => exact h1.elim
    | d d => exact ⟨F1, ρ1, φ1, d, _, I1, o1, h1, fun ρ' φ' σ' q J _ _ _ => k ρ' F1 φ' σ' H1 q J x1.sub⟩⟩
/-- three names -/
def dgThree (i j l : Nat) : DG := fun d ρ ψ => match d with
  | .tup [a, b, c] => (i < ρ.length ∧ j < ρ.length ∧ l < ρ.length) ∧ ψ (((ρ.set i (.dat a)).set j (.dat b)).set l (.dat c))
  | _ => False
theorem dg_three {i j l : Nat} {x y z : Str} {k : Nat} (hc : X.calm = true) (hN : X.N.Nodup) (hi : X.N[i]? = some x) (hx : Loc X.env.scope x) (hj : X.N[j]? = some y) (hy : Loc X.env.scope y) (hl : X.N[l]? = some z) (hz : Loc X.env.scope z)
    (hf : X.fn x = true ∨ X.env.scope.names.lookup x = some .local := by first | exact .inl rfl | exact .inr rfl | assumption) (hf2 : X.fn y = true ∨ X.env.scope.names.lookup y = some .local := by first | exact .inl rfl | exact .inr rfl | assumption)
    (hf3 : X.fn z = true ∨ X.env.scope.names.lookup z = some .local := by first | exact .inl rfl | exact .inr rfl | assumption)
    (h1 : (assignEach (.Name x p1 :: [.Name y p2, .Name z p4]) X.env).map (·.2) = assign (.Name x p1) X.env :: (assignEach [.Name y p2, .Name z p4] X.env).map (·.2) := by rfl)
    (h2 : (assignEach (.Name y p2 :: [.Name z p4]) X.env).map (·.2) = assign (.Name y p2) X.env :: (assignEach [.Name z p4] X.env).map (·.2) := by rfl)
    (h3 : (assignEach (.Name z p4 :: []) X.env).map (·.2) = assign (.Name z p4) X.env :: (assignEach [] X.env).map (·.2) := by rfl)
    (hn : (assignEach [.Name x p1, .Name y p2, .Name z p4] X.env).length = 3 := by rfl) (hst : (assignEach [.Name x p1, .Name y p2, .Name z p4] X.env).findIdx? (·.1) = none := by rfl) : PGd X g [i, j, l] (.Tuple [.Name x p1, .Name y p2, .Name z p4] k p3) (dgThree i j l) :=
  PG.imp (pg_tup (n := 3) hc (pgs_cons (pg_name hN hi hx hf) (pgs_cons (pg_name hN hj hy hf2) (pgs_cons (pg_name hN hl hz hf3) pgs_nil h3) h2) h1) hn hst) fun v σ H Q ⟨F, ρ, φ, d, ψ, I, r, h, kk⟩ => by
    unfold dgThree at h
    split at h
    · rename_i a b c
      obtain ⟨p, xs, rfl, q, r1⟩ := r
      obtain ⟨u, r2, rfl, q1, r3⟩ := r1
      obtain ⟨v, w, rfl, q2, q3⟩ := two_of r3
      obtain ⟨⟨hi, hj, hl⟩, h⟩ := h
      obtain ⟨φ', J, sb, e1, e2⟩ := store_two I hi hj q1 q2
      obtain ⟨φ2, J2, s2⟩ := J.storeD (i := l) (by simpa using hl) q3
      refine ⟨p, _, rfl, Same.seqT I.sub q, rfl, u, [v, w], rfl, v, [w], rfl, w, [], rfl, rfl, kk _ φ2 _ h J2 (fun l c hh => sb l c (s2 _ _ hh)) (by simp) fun j hj => ?_⟩
      simp only [List.mem_cons, List.not_mem_nil, not_or, or_false] at hj
      rw [List.getElem?_set_ne (fun e => hj.2.2 e.symm), e2 j (by simp only [List.mem_cons, List.not_mem_nil, not_or, or_false]; exact ⟨hj.1, hj.2.1⟩)]
    · exact h.elim
/-- x[e1] = e2, x an own list -/
theorem ds_setAt (i : Nat) (he : PEd X g e te) {a : Expr} (ha : PEd X g a ti) (hN : X.N[i]? = some x := by rfl) (hv : Vis X.env.scope x := by first | exact Or.inl rfl | exact Or.inr (Or.inl rfl) | exact Or.inr (Or.inr rfl)) (hd : (x == ("__debug__" : Str)) = false := by decide)
    (hcd : (x == ("__classdict__" : Str)) = false := by decide)
    (ha' : ∀ v, assign (.Subscript (.Name x ppos) a p2) X.env v = (do
      let ov ← holding [v] (eval (.Name x ppos) X.env)
      let iv ← holding [v, ov] (eval a X.env)
      standAt p2
      holding [v, ov, iv] (setItem ov iv v)
      release [v, ov, iv] []) := by intro _; rfl)
    (hs : swapsWithSole [.Subscript (.Name x ppos) a p2] e pos.line X.env = pure false := by rfl) (hw : swappedStores [.Subscript (.Name x ppos) a p2] e X.env = pure none := by rfl)
    (h1 : (assignEach [.Subscript (.Name x ppos) a p2] X.env).map (·.2) = [assign (.Subscript (.Name x ppos) a p2) X.env] := by rfl) :
    PSd X g (.Assign [.Subscript (.Name x ppos) a p2] e pos) (dSetAt i ti te) :=
  PS.imp (ps_asg he (pg_sub (pv i hN hv hd hcd) ha set_list ha') hs hw h1) fun D σ H ⟨F, ρ, φ, ψ, I, h, k, _⟩ => ⟨F, ρ, φ, _, I, h, fun r ρ1 F1 φ1 v H1 h1 I1 x1 o1 => by
    cases r with
    | b j => exact h1.elim
    | o s => exact h1.elim
    | d d =>
      obtain ⟨m, ds, e0, h1⟩ := ownAt_of h1
      obtain ⟨a0, xs, e1, q, r, _⟩ := I1.relist (ds' := ds) e0
      refine ⟨_, e1, F1, ρ1, φ1, _, I1, h1, fun r2 ρ2 F2 φ2 v2 H2 h2 I2 x2 o2 => ?_⟩
      split at h2
      · rename_i j
        obtain ⟨m2, ds2, e2, n, hn, h2⟩ := ownAt_of h2
        obtain ⟨a1, xs1, e3, q1, r1, ch⟩ := I2.relist (ds' := ds2.set n d) e2
        rw [e1] at e3
        cases e3
        cases o2
        have o1' := Rp.mono x2.sub (show Rp X.K F1 d v from o1)
        obtain ⟨J, y⟩ := ch (xs1.set n v) (r1.set n o1')
        exact ⟨a0, xs1, j, n, rfl, rfl, q1, by rw [← r1.length]; exact hn, k _ _ _ _ _ h2 J (x1.trans x2).sub⟩
      · exact h2.elim⟩
end

/-! ### own lists of own lists -/
section
variable {K : PySem.W.Frag} {g : G} {F H : Hp} {σ : L2.St} {ρ : List Sl} {φ : Nat → List Addr}
theorem SI.regrow (I : SI K g F H σ ρ φ) {i : Nat} {s s' : Sl} {fp : List Addr} {H' : Hp} (e : ρ[i]? = some s) (hr : s.res = true) (hr' : s'.res = true) (hm : s'.mn = s.mn) (q : SlOk K F H' (σ[i]?.join) fp s')
    (new : ∀ a ∈ fp, a ∈ φ i ∨ H a = none) (sm : ∀ b, b ∉ φ i → H b ≠ none → H' b = H b) (gon : ∀ b, H b ≠ none → H' b ≠ none) :
    SI K g F H' σ (ρ.set i s') (upφ φ i fp) ∧ Ext F H φ F H' (upφ φ i fp) := by
  have hi := slot_lt e
  have other : ∀ j b, j ≠ i → b ∈ φ j → b ∉ φ i := fun j b hj hb z => hj (I.dj j i b hb z)
  have gn : ∀ a ∈ fp, a ∉ φ i → g.H a = none := fun a ha n => gH_of I ((new a ha).resolve_left n)
  refine ⟨⟨by simpa using I.len, fun j s2 h => ?_, fun j h => ?_, fun j k b h1 h2 => ?_, fun j b h => ?_, fun b x h => ?_, I.f0, fun b x h n => ?_, fun j b h => ?_, I.fn, fun j s2 b h h1 h2 => ?_, fun j s2 h h1 h2 => ?_, fun b h => gon b (I.gon b h), fun j s2 b h h1 h2 h3 => ?_⟩,
    ⟨.refl _, fun b x h n => ?_, fun j b h => ?_, fun b h => .inl h, gon⟩⟩
  · by_cases hj : j = i
    · subst hj
      rw [List.getElem?_set_self hi] at h
      cases h
      rw [upφ_same]
      exact q
    · rw [List.getElem?_set_ne (Ne.symm hj)] at h
      rw [upφ_ne hj]
      exact (I.at_ j s2 h).mono (.refl _) fun b hb => sm b (other j b hj hb) (I.there hb)
  · by_cases hj : j = i
    · subst hj
      rw [List.getElem?_set_self hi] at h
      cases h
    · rw [List.getElem?_set_ne (Ne.symm hj)] at h
      rw [upφ_ne hj]
      exact I.out j h
  · by_cases hj : j = i
    · by_cases hk : k = i
      · rw [hj, hk]
      · subst hj
        rw [upφ_same] at h1
        rw [upφ_ne hk] at h2
        rcases new b h1 with z | z
        · exact I.dj _ _ b z h2
        · exact absurd z (I.there h2)
    · by_cases hk : k = i
      · subst hk
        rw [upφ_same] at h2
        rw [upφ_ne hj] at h1
        rcases new b h2 with z | z
        · exact I.dj _ _ b h1 z
        · exact absurd z (I.there h1)
      · rw [upφ_ne hj] at h1
        rw [upφ_ne hk] at h2
        exact I.dj j k b h1 h2
  · by_cases hj : j = i
    · subst hj
      rw [upφ_same] at h
      rcases new b h with z | z
      · exact I.fr _ b z
      · exact I.sub.free z
    · rw [upφ_ne hj] at h
      exact I.fr j b h
  · have nb : b ∉ φ i := fun z => by rw [I.fr i b z] at h; cases h
    have hb := I.sub b x h
    rw [sm b nb (by rw [hb]; exact fun z => by cases z)]
    exact hb
  · have hb := I.keep b x h n
    have nb : b ∉ φ i := fun z => by
      rcases I.fw i b z with w | w
      · exact n w
      · rw [h] at w; cases w
    rw [sm b nb (by rw [hb]; exact fun z => by cases z)]
    exact hb
  · by_cases hj : j = i
    · subst hj
      rw [upφ_same] at h
      rcases new b h with z | z
      · exact I.fw _ b z
      · exact .inr (gH_of I z)
    · rw [upφ_ne hj] at h
      exact I.fw j b h
  · by_cases hj : j = i
    · subst hj
      rw [List.getElem?_set_self hi] at h
      cases h
      rw [upφ_same] at h2
      rcases new b h2 with z | z
      · exact I.mine j s b e (by rw [← hm]; exact h1) z
      · exact gH_of I z
    · rw [List.getElem?_set_ne (Ne.symm hj)] at h
      rw [upφ_ne hj] at h2
      exact I.mine j s2 b h h1 h2
  · by_cases hj : j = i
    · subst hj
      rw [List.getElem?_set_self hi] at h
      cases h
      exact I.bor j s e hr (by rw [← hm]; exact h2)
    · rw [List.getElem?_set_ne (Ne.symm hj)] at h
      exact I.bor j s2 h h1 h2
  · by_cases hj : j = i
    · subst hj
      rw [List.getElem?_set_self hi] at h
      cases h
      rw [upφ_same] at h3
      rcases new b h3 with z | z
      · exact I.bfp j s b e hr (by rw [← hm]; exact h2) z
      · exact .inr (gH_of I z)
    · rw [List.getElem?_set_ne (Ne.symm hj)] at h
      rw [upφ_ne hj] at h3
      exact I.bfp j s2 b h h1 h2 h3
  · rw [sm b (n i) (by rw [h]; exact fun z => by cases z)]
    exact h
  · by_cases hj : j = i
    · subst hj
      rw [upφ_same] at h
      rcases new b h with z | z
      · exact .inl ⟨_, z⟩
      · exact .inr z
    · rw [upφ_ne hj] at h
      exact .inl ⟨j, h⟩
end
/-- the lists at slot i -/
def stkAt (ρ : List Sl) (i : Nat) (k : List (List D) → Prop) : Prop := match ρ[i]? with
  | some (.stk true ls) => k ls
  | _ => False
theorem stkAt_of {ρ : List Sl} {i : Nat} {k : List (List D) → Prop} (h : stkAt ρ i k) : ∃ ls, ρ[i]? = some (.stk true ls) ∧ k ls := by
  unfold stkAt at h
  split at h
  · rename_i ls e
    exact ⟨ls, e, h⟩
  · exact h.elim
theorem RpS.length {K : PySem.W.Frag} {F H : Hp} : ∀ {ls : List (List D)} {as : List Addr}, RpS K F H ls as → ls.length = as.length
  | [], _, h => by cases h; rfl
  | ds :: ls, _, h => by
    obtain ⟨a, r, xs, rfl, _, _, t⟩ := h
    rw [List.length_cons, List.length_cons, RpS.length t]
theorem RpS.append {K : PySem.W.Frag} {F H : Hp} : ∀ {ls ls' : List (List D)} {as as' : List Addr}, RpS K F H ls as → RpS K F H ls' as' → RpS K F H (ls ++ ls') (as ++ as')
  | [], _, _, _, h, q => by cases h; exact q
  | ds :: ls, _, _, _, h, q => by
    obtain ⟨a, r, xs, rfl, h1, h2, t⟩ := h
    exact ⟨a, _, xs, rfl, h1, h2, RpS.append t q⟩
theorem RpS.split {K : PySem.W.Frag} {F H : Hp} : ∀ {ls : List (List D)} {ds : List D} {as : List Addr}, RpS K F H (ls ++ [ds]) as → ∃ as' b xs, as = as' ++ [b] ∧ RpS K F H ls as' ∧ H b = some (.lst xs) ∧ RpL K F ds xs
  | [], ds, as, h => by
    obtain ⟨a, r, xs, rfl, h1, h2, t⟩ := h
    cases t
    exact ⟨[], a, xs, rfl, rfl, h1, h2⟩
  | l :: ls, ds, as, h => by
    obtain ⟨a, r, xs, rfl, h1, h2, t⟩ := h
    obtain ⟨as', b, ys, rfl, t1, t2, t3⟩ := RpS.split t
    exact ⟨a :: as', b, ys, rfl, ⟨a, as', xs, rfl, h1, h2, t1⟩, t2, t3⟩
section
variable {X : Cx} {g : G} {e : Expr} {te : DE} {i : Nat} {x : Str} {pos pos2 cpos apos ppos spos npos p : Pos} {rest : List Stmt} {u : DS}
/-- an empty own list becomes a list of lists -/
def dKs (i : Nat) (u : DS) : DS := fun ψ ρ => match ρ[i]? with
  | some (.own true []) => u ψ (ρ.set i (.stk true []))
  | _ => False
theorem dss_ks (i : Nat) (h : PSsd X g rest u) : PSsd X g rest (dKs i u) :=
  PSs.imp h fun D σ H ⟨F, ρ, φ, ψ, I, h, k⟩ => by
    unfold dKs at h
    split at h
    · rename_i e
      obtain ⟨a, xs, e1, e2, q, r⟩ := I.at_ i _ e
      cases r
      obtain ⟨J, y⟩ := I.regrow (s' := .stk true []) (H' := H) (fp := φ i) e rfl rfl rfl ⟨a, [], e1, e2, q, rfl, by simp⟩ (fun _ h => .inl h) (fun _ _ _ => rfl) (fun _ h => h)
      exact ⟨F, _, _, ψ, J, h, k⟩
    · exact h.elim
/-- x.append([]) -/
def dKPush (i : Nat) : DE := fun ρ Q => stkAt ρ i fun ls => ls.length < sizeLine ∧ Q (.d .non) (ρ.set i (.stk true (ls ++ [[]])))
theorem de_kpush (i : Nat) (hN : X.N[i]? = some x := by rfl) (hv : Vis X.env.scope x := by first | exact Or.inl rfl | exact Or.inr (Or.inl rfl) | exact Or.inr (Or.inr rfl)) (hd : (x == ("__debug__" : Str)) = false := by decide)
    (hcd : (x == ("__classdict__" : Str)) = false := by decide) (hs : starEach [.List [] p] X.env = (false, eval (.List [] p) X.env) :: starEach [] X.env := by rfl)
    (hbase : attributeBase (.Name x ppos) "append" X.env (eval (.Name x ppos) X.env) = eval (.Name x ppos) X.env := by rfl)
    (hfew : ((backTo cpos (starEach (.List [] p :: []) X.env)).all (fun x => !x.1) && (backToKw cpos (keywordEach [] X.env)).all (fun x => x.1.isSome)
      && decide ((Expr.List [] p :: ([] : List Expr)).length + ([] : List Keyword).length + (if ([] : List Keyword).isEmpty then 0 else 1) < 30)) = true := by rfl)
    (hline : (apos.endLine == cpos.line) = true := by rfl) (hplain : (backTo cpos (starEach [] X.env)).any (·.1) = false := by rfl) :
    PEd X g (.Call (.Attribute (.Name x ppos) "append" apos) [.List [] p] [] cpos) (dKPush i) :=
  PE.imp (pe_bm PySem.F.plainAttrs_list PySem.F.slot_list_append PySem.F.type_list_append mt_append (pv i hN hv hd hcd) (pa_cons (pe_lst pa_nil) pa_nil hs) hbase hfew hline hs hplain) fun σ H Q ⟨F, ρ, φ, ψ, I, h, k⟩ => by
    obtain ⟨ls, e0, hz, h⟩ := stkAt_of h
    obtain ⟨a, as, e1, e2, q, r, nd⟩ := I.at_ i _ e0
    have ha : a ∈ φ i := by rw [e2]; exact List.mem_cons_self
    refine ⟨_, join_some e1, .inl ⟨rfl, _, .of q⟩, Nat.zero_le _, fun b hb => ?_⟩
    have nb : ∀ c o, H c = some o → c ≠ b := fun c o q z => by rw [z, hb] at q; cases q
    have nba : a ≠ b := nb _ _ q
    refine ⟨a, as.map .ref, .ref b, rfl, rfl, by rw [upd_ne nba]; exact q, by rw [List.length_map, ← r.length]; exact hz, ?_⟩
    have hba : (upd (upd H b (.lst [])) a (.lst (as.map .ref ++ [.ref b]))) b = some (.lst []) := by rw [upd_ne nba.symm, upd_same]
    have hold : ∀ c, c ≠ a → H c ≠ none → (upd (upd H b (.lst [])) a (.lst (as.map .ref ++ [.ref b]))) c = H c := fun c hc hn => by
      cases hq : H c with
      | none => exact absurd hq hn
      | some o => rw [upd_ne hc, upd_ne (nb c o hq), hq]
    have asn : ∀ c ∈ as, c ≠ a := fun c hc z => (List.nodup_cons.mp nd).1 (by rw [← z]; exact hc)
    have bas : b ∉ a :: as := fun z => I.there (i := i) (a := b) (by rw [e2]; exact z) hb
    obtain ⟨J, y⟩ := I.regrow (s' := .stk true (ls ++ [[]])) (fp := φ i ++ [b]) e0 rfl rfl rfl
      (H' := upd (upd H b (.lst [])) a (.lst (as.map .ref ++ [.ref b])))
      ⟨a, as ++ [b], e1, by rw [e2]; rfl, by rw [upd_same, List.map_append]; rfl, (r.mono (.refl _) fun c hc => hold c (asn c hc) (r.there c hc)).append (ls' := [[]]) (as' := [b]) ⟨b, [], [], rfl, hba, rfl, rfl⟩, by
        have : (a :: as) ++ [b] = a :: (as ++ [b]) := rfl
        rw [← this, List.nodup_append]
        exact ⟨nd, by simp, fun c hc d hd z => bas (by rw [← List.mem_singleton.mp hd, ← z]; exact hc)⟩⟩
      (fun c hc => by
        rcases List.mem_append.mp hc with z | z
        · exact .inl z
        · rw [List.mem_singleton.mp z]; exact .inr hb)
      (fun c hc hn => hold c (fun z => hc (by rw [z]; exact ha)) hn)
      (fun c hc => by
        by_cases z : c = a
        · rw [z, upd_same]; exact fun z => by cases z
        · rw [hold c z hc]; exact hc)
    exact k _ _ _ _ _ _ h J y rfl
/-- x[-1].append(y) -/
def dKTop (i j : Nat) : DE := fun ρ Q => stkAt ρ i fun ls0 => match ρ[j]? with
  | some (.dat d) => ∃ ls ds, ls0 = ls ++ [ds] ∧ ds.length < sizeLine ∧ Q (.d .non) (ρ.set i (.stk true (ls ++ [ds ++ [d]])))
  | _ => False
theorem atI_last {α : Type} {xs : List α} {x : α} : atI (xs ++ [x]) (-1) = some x := by
  unfold atI
  have e : ixN (xs ++ [x]).length (-1) = some xs.length := by
    unfold ixN
    rw [if_neg (by decide), if_pos (by simp; omega)]
    simp
    omega
  rw [e]
  simp
/-- the last list changed -/
theorem SI.ktop {K : PySem.W.Frag} {F H : Hp} {σ : L2.St} {ρ : List Sl} {φ : Nat → List Addr} (I : SI K g F H σ ρ φ) {ls : List (List D)} {ds ds' : List D} (e0 : ρ[i]? = some (.stk true (ls ++ [ds]))) :
    ∃ a as b xs, σ[i]? = some (some (.ref a)) ∧ H a = some (.lst ((as ++ [b]).map .ref)) ∧ H b = some (.lst xs) ∧ RpL K F ds xs ∧
      ∀ xs', RpL K F ds' xs' → SI K g F (upd H b (.lst xs')) σ (ρ.set i (.stk true (ls ++ [ds']))) φ ∧ Ext F H φ F (upd H b (.lst xs')) φ := by
  obtain ⟨a, as0, e1, e2, q, r, nd⟩ := I.at_ i _ e0
  obtain ⟨as, b, xs, rfl, r1, r2, r3⟩ := r.split
  have hb : b ∈ φ i := by rw [e2]; simp
  have nab : a ≠ b := fun z => (List.nodup_cons.mp nd).1 (by rw [z]; simp)
  have nas : ∀ c ∈ as, c ≠ b := fun c hc z => by
    have h2 := (List.nodup_append.mp (List.nodup_cons.mp nd).2).2.2
    exact h2 c hc b (by simp) z
  refine ⟨a, as, b, xs, join_some e1, q, r2, r3, fun xs' r' => ?_⟩
  exact I.change e0 hb ⟨a, as ++ [b], e1, e2, by rw [upd_ne nab]; exact q, (r1.mono (.refl _) fun c hc => upd_ne (nas c hc)).append (ls' := [ds']) (as' := [b]) ⟨b, [], xs', rfl, upd_same, r', rfl⟩, nd⟩ rfl rfl rfl
theorem de_ktop (i j : Nat) {y : Str} {p2 p3 p4 : Pos} (hN : X.N[i]? = some x := by rfl) (hv : Vis X.env.scope x := by first | exact Or.inl rfl | exact Or.inr (Or.inl rfl) | exact Or.inr (Or.inr rfl)) (hd : (x == ("__debug__" : Str)) = false := by decide)
    (hcd : (x == ("__classdict__" : Str)) = false := by decide) (hN2 : X.N[j]? = some y := by rfl) (hv2 : Vis X.env.scope y := by first | exact Or.inl rfl | exact Or.inr (Or.inl rfl) | exact Or.inr (Or.inr rfl)) (hd2 : (y == ("__debug__" : Str)) = false := by decide)
    (hcd2 : (y == ("__classdict__" : Str)) = false := by decide) {n1 : Nat} (hs : starEach [.Name y p] X.env = (false, eval (.Name y p) X.env) :: starEach [] X.env := by rfl)
    (hix : PlainIx (.UnaryOp .USub (.Constant (.int 1) n1 p2) p3) := by exact fun _ _ => rfl)
    (hbase : attributeBase (.Subscript (.Name x ppos) (.UnaryOp .USub (.Constant (.int 1) n1 p2) p3) p4) "append" X.env (eval (.Subscript (.Name x ppos) (.UnaryOp .USub (.Constant (.int 1) n1 p2) p3) p4) X.env) = eval (.Subscript (.Name x ppos) (.UnaryOp .USub (.Constant (.int 1) n1 p2) p3) p4) X.env := by rfl)
    (hfew : ((backTo cpos (starEach (.Name y p :: []) X.env)).all (fun x => !x.1) && (backToKw cpos (keywordEach [] X.env)).all (fun x => x.1.isSome)
      && decide ((Expr.Name y p :: ([] : List Expr)).length + ([] : List Keyword).length + (if ([] : List Keyword).isEmpty then 0 else 1) < 30)) = true := by rfl)
    (hline : (apos.endLine == cpos.line) = true := by rfl) (hplain : (backTo cpos (starEach [] X.env)).any (·.1) = false := by rfl) :
    PEd X g (.Call (.Attribute (.Subscript (.Name x ppos) (.UnaryOp .USub (.Constant (.int 1) n1 p2) p3) p4) "append" apos) [.Name y p] [] cpos) (dKTop i j) :=
  PE.imp (pe_bm PySem.F.plainAttrs_list PySem.F.slot_list_append PySem.F.type_list_append mt_append (pe_ix ix_seq (pv i hN hv hd hcd) (pe_un un_neg pe_int) hix) (pa_cons (pv j hN2 hv2 hd2 hcd2) pa_nil hs) hbase hfew hline hs hplain) fun σ H Q ⟨F, ρ, φ, ψ, I, h, k⟩ => by
    obtain ⟨ls0, e0, h⟩ := stkAt_of h
    split at h
    · rename_i d ej
      obtain ⟨ls, ds, rfl, hz, h⟩ := h
      obtain ⟨a, as, b, xs, e1, q1, q2, r, ch⟩ := I.ktop (ds' := ds ++ [d]) e0
      obtain ⟨_, v, qv, rv⟩ := I.at_ j _ ej
      obtain ⟨J, y⟩ := ch (xs ++ [v]) (r.append (.one rv))
      refine ⟨.ref a, e1, _, rfl, .inl ⟨a, (as ++ [b]).map .ref, -1, .ref b, rfl, rfl, .of q1, by rw [List.map_append]; exact atI_last, .inl ⟨rfl, xs, .of q2⟩, v, join_some qv, b, xs, v, rfl, rfl, q2, by rw [← r.length]; exact hz, k _ _ _ _ _ _ h J y rfl⟩⟩
    · exact h.elim
/-- x.pop() -/
def dKPop (i : Nat) : DE := fun ρ Q => stkAt ρ i fun ls0 => ∃ ls ds, ls0 = ls ++ [ds] ∧ Q (.o (.own true ds)) (ρ.set i (.stk true ls))
theorem de_kpop (i : Nat) (hN : X.N[i]? = some x := by rfl) (hv : Vis X.env.scope x := by first | exact Or.inl rfl | exact Or.inr (Or.inl rfl) | exact Or.inr (Or.inr rfl)) (hd : (x == ("__debug__" : Str)) = false := by decide)
    (hcd : (x == ("__classdict__" : Str)) = false := by decide)
    (hbase : attributeBase (.Name x ppos) "pop" X.env (eval (.Name x ppos) X.env) = eval (.Name x ppos) X.env := by rfl) (hline : (apos.endLine == cpos.line) = true := by rfl) :
    PEd X g (.Call (.Attribute (.Name x ppos) "pop" apos) [] [] cpos) (dKPop i) :=
  PE.imp (pe_bm0 PySem.F.plainAttrs_list PySem.F.slot_list_pop PySem.F.type_list_pop mt_pop (pv i hN hv hd hcd) hbase hline) fun σ H Q ⟨F, ρ, φ, ψ, I, h, k⟩ => by
    obtain ⟨ls0, e0, ls, ds, rfl, h⟩ := stkAt_of h
    obtain ⟨a, as0, e1, e2, q, r, nd⟩ := I.at_ i _ e0
    obtain ⟨as, b, xs, rfl, r1, r2, r3⟩ := r.split
    have hb : b ∈ φ i := by rw [e2]; simp
    have ha : a ∈ φ i := by rw [e2]; simp
    have nab : a ≠ b := fun z => (List.nodup_cons.mp nd).1 (by rw [z]; simp)
    have nas : ∀ c ∈ as, c ≠ a := fun c hc z => (List.nodup_cons.mp nd).1 (by rw [← z]; simp [hc])
    have nd2 := List.nodup_append.mp (List.nodup_cons.mp nd).2
    have bas : b ∉ a :: as := fun z => by
      rcases List.mem_cons.mp z with z | z
      · exact nab z.symm
      · exact nd2.2.2 b z b (by simp) rfl
    have hdl : ((as ++ [b]).map V.ref).dropLast = as.map V.ref := by rw [List.map_append]; simp
    obtain ⟨J, y⟩ := I.regrow (s' := .stk true ls) (fp := a :: as) e0 rfl rfl rfl (H' := upd H a (.lst (as.map .ref)))
      ⟨a, as, e1, rfl, upd_same, r1.mono (.refl _) fun c hc => upd_ne (nas c hc), List.nodup_cons.mpr ⟨fun z => (List.nodup_cons.mp nd).1 (by simp [z]), nd2.1⟩⟩
      (fun c hc => .inl (by rw [e2]; rcases List.mem_cons.mp hc with z | z <;> simp [z]))
      (fun c hc _ => upd_ne fun z => hc (by rw [z]; exact ha))
      (fun c hc => by
        by_cases z : c = a
        · rw [z, upd_same]; exact fun z => by cases z
        · rw [upd_ne z]; exact hc)
    refine ⟨_, join_some e1, .inl ⟨rfl, _, .of q⟩, a, _, .ref b, rfl, rfl, q, ?_, ?_⟩
    · rw [List.map_append]
      simp
    · rw [hdl]
      refine k _ _ _ _ _ _ h J y ⟨rfl, [b], ⟨b, xs, rfl, rfl, by rw [upd_ne nab.symm]; exact r2, r3⟩, fun c hc => ?_, fun c hc => ?_⟩
      · rw [List.mem_singleton.mp hc]; exact .inr ⟨i, hb⟩
      · rw [List.mem_singleton.mp hc]
        refine ⟨I.mine i _ b e0 rfl hb, I.fr i b hb, fun j hj => ?_⟩
        by_cases z : j = i
        · subst z; rw [upφ_same] at hj; exact bas hj
        · rw [upφ_ne z] at hj; exact z (I.dj j i b hj hb)
/-- len(x) -/
def dKLen (i : Nat) : DE := fun ρ Q => stkAt ρ i fun ls => Q (.d (.int ls.length)) ρ
theorem de_klen (i : Nat) {p0 : Pos} (hg : Gl X "len") (hm : X.mg "len" = none) (hN : X.N[i]? = some x := by rfl) (hv : Vis X.env.scope x := by first | exact Or.inl rfl | exact Or.inr (Or.inl rfl) | exact Or.inr (Or.inr rfl)) (hd : (x == ("__debug__" : Str)) = false := by decide)
    (hcd : (x == ("__classdict__" : Str)) = false := by decide) (he : starEach (.Name x p :: []) X.env = (false, eval (.Name x p) X.env) :: starEach [] X.env := by rfl) (hpl : (backTo pos (starEach [] X.env)).any (·.1) = false := by rfl) :
    PEd X g (.Call (.Name "len" p0) [.Name x p] [] pos) (dKLen i) :=
  PE.imp (pe_callB call_len_seq hg hm boot_len (pa_cons (pv i hN hv hd hcd) pa_nil he) (he := he) (hpl := hpl)) fun σ H Q ⟨F, ρ, φ, ψ, I, h, k⟩ => by
    obtain ⟨ls, e0, h⟩ := stkAt_of h
    obtain ⟨a, as, e1, e2, q, r, nd⟩ := I.at_ i _ e0
    refine ⟨_, join_some e1, a, as.map .ref, rfl, .inl (.of q), ?_⟩
    rw [List.length_map, ← r.length]
    exact k _ _ _ _ _ _ h I (.refl _ _ _) rfl
end

/-! ### a def or a method as others see it -/
structure FnG (P : Program) (w : World) (K : PySem.W.Frag) (mg : Str → Option Value) (base : Heap) (x : Str) (k : Nat) (ps : List Str) (S : Spec) : Prop where
  ex : ∃ f fd Cb, FnOk P w K mg base CX0 k f fd ps (spD K Cb S) ∧ mg x = some (.ref f) ∧ PySem.W.keepIn K (.ref f) = true ∧ Binds K fd ps []
structure MeG (P : Program) (w : World) (K : PySem.W.Frag) (mg : Str → Option Value) (base : Heap) (C : Addr) (m : Str) (k : Nat) (ps : List Str) (S : Spec) : Prop where
  ex : ∃ f fd Cb, FnOk P w K mg base CX0 k f fd ps (spD K Cb S) ∧ Meth K C m f ∧ Binds K fd ps [] ∧ Cls K C
structure MkG (P : Program) (w : World) (K : PySem.W.Frag) (mg : Str → Option Value) (base : Heap) (x : Str) (C : Addr) (k : Nat) (ps : List Str) (S : Spec) : Prop where
  ex : ∃ f fd Cb, FnOk P w K mg base CX0 k f fd ps (spD K Cb S) ∧ Mk K C f ∧ Binds K fd ps [] ∧ mg x = some (.ref C)
section
variable {X : Cx} {g : G} {k : Nat} {C : Addr} {ps : List Str} {S : Spec} {x m f : Str} {p pos apos ppos : Pos} {e o : Expr} {es : List Expr} {ts : DA}
theorem dq_fn (Gf : FnG X.prog X.w X.K X.mg X.base x k ps S) (hr : Room k X.A) (ha : PAd X g (e :: es) ts) (hg : Gl X x := by rfl)
    (hdb : (x == ("__debug__" : Str)) = false := by decide) (he : starEach (e :: es) X.env = (false, eval e X.env) :: starEach es X.env := by rfl) (hpl : (backTo pos (starEach es X.env)).any (·.1) = false := by rfl) :
    PEd X g (.Call (.Name x p) (e :: es) [] pos) (dFn S noBad ts) := by
  obtain ⟨f, fd, Cb, F, h1, h2, h3⟩ := Gf.ex
  exact de_fn F hr hg h1 h2 h3 ha hdb he hpl
theorem dq_meth {pl : Sem Bool} (i : Nat) (M : MeG X.prog X.w X.K X.mg X.base C m k ps S) (hr : Room k X.A) (ha : PAd X g (e :: es) ts)
    (hN : X.N[i]? = some x := by rfl) (hv : Vis X.env.scope x := by first | exact Or.inl rfl | exact Or.inr (Or.inl rfl) | exact Or.inr (Or.inr rfl)) (hd : (x == ("__debug__" : Str)) = false := by decide) (hcd : (x == ("__classdict__" : Str)) = false := by decide)
    (hst : starEach (e :: es) X.env = (false, eval e X.env) :: starEach es X.env := by rfl) (hpl : (backTo pos (starEach es X.env)).any (·.1) = false := by rfl)
    (ht : eval (.Call (.Attribute (.Name x ppos) m apos) (e :: es) [] pos) X.env = (do
      let ov ← eval (.Name x ppos) X.env
      standAt apos.atName
      let (f, first) ← holding [ov] (getMethod ov m pl)
      callWith pos f first (backTo pos (starEach (e :: es) X.env)) (backToKw pos (keywordEach [] X.env))) := by rfl) :
    PEd X g (.Call (.Attribute (.Name x ppos) m apos) (e :: es) [] pos) (dMeth i C m S noBad ts) := by
  obtain ⟨f, fd, Cb, F, h1, h2, h3⟩ := M.ex
  exact de_meth i h3 h1 F hr h2 ha hN hv hd hcd hst hpl ht
theorem dq_meth0 {pl : Sem Bool} (i : Nat) (M : MeG X.prog X.w X.K X.mg X.base C m k ps S) (hr : Room k X.A)
    (hN : X.N[i]? = some x := by rfl) (hv : Vis X.env.scope x := by first | exact Or.inl rfl | exact Or.inr (Or.inl rfl) | exact Or.inr (Or.inr rfl)) (hd : (x == ("__debug__" : Str)) = false := by decide) (hcd : (x == ("__classdict__" : Str)) = false := by decide)
    (ht : eval (.Call (.Attribute (.Name x ppos) m apos) [] [] pos) X.env = (do
      let ov ← eval (.Name x ppos) X.env
      standAt apos.atName
      let (f, first) ← holding [ov] (getMethod ov m pl)
      callWith pos f first (backTo pos (starEach [] X.env)) (backToKw pos (keywordEach [] X.env))) := by rfl) :
    PEd X g (.Call (.Attribute (.Name x ppos) m apos) [] [] pos) (dMeth i C m S noBad dNil) := by
  obtain ⟨f, fd, Cb, F, h1, h2, h3⟩ := M.ex
  exact de_meth0 i h3 h1 F hr h2 hN hv hd hcd ht
theorem dq_make (M : MkG X.prog X.w X.K X.mg X.base x C k ps S) (hr : Room (k + 1) X.A) (ha : PAd X g (e :: es) ts) (hg : Gl X x := by rfl)
    (hdb : (x == ("__debug__" : Str)) = false := by decide) (he : starEach (e :: es) X.env = (false, eval e X.env) :: starEach es X.env := by rfl) (hpl : (backTo pos (starEach es X.env)).any (·.1) = false := by rfl) :
    PEd X g (.Call (.Name x p) (e :: es) [] pos) (dMake C S ts) := by
  obtain ⟨f, fd, Cb, F, h1, h2, h3⟩ := M.ex
  exact de_make h1 F hr hg h3 h2 ha hdb he hpl
end
/-- of a def without defaults -/
theorem fun_of {K : PySem.W.Frag} {x qual : Str} {st : Stmt} {f : Addr} {fd : FuncData} (F : FunD K x qual (defArgs st) (defBody st) (defScope st) [] [] f fd) : Fun K x qual st f fd := by
  obtain ⟨oc, od, dV, kV, doc, pm, an, cdv, ct, osl, e, lk, hcd, hD, hK⟩ := F.ex
  rcases hD with ⟨_, rfl⟩ | ⟨z, _⟩
  · exact ⟨⟨oc, od, kV, doc, pm, an, cdv, ct, osl, e, lk, hcd⟩, F.kp⟩
  · exact absurd rfl z
end DL

set_option maxRecDepth 100000
set_option maxHeartbeats 4000000
namespace DL
open PySem PySem.Spec PyProof.Rows L2 TL SkE
section
variable {K : PySem.W.Frag} {g : G} {F H : Hp} {σ : L2.St} {ρ : List Sl} {φ : Nat → List Addr}
/-- a slot that is told no more -/
theorem SI.lose (I : SI K g F H σ ρ φ) {i : Nat} (hi : i < ρ.length) : SI K g F H σ (ρ.set i .no) (upφ φ i []) := by
  have sub : ∀ {j b}, b ∈ upφ φ i [] j → j ≠ i ∧ b ∈ φ j := fun {j b} h => by
    by_cases hj : j = i
    · subst hj; rw [upφ_same] at h; simp at h
    · rw [upφ_ne hj] at h; exact ⟨hj, h⟩
  refine ⟨by simpa using I.len, fun j s2 h => ?_, fun j h => ?_, fun j k b h1 h2 => I.dj j k b (sub h1).2 (sub h2).2, fun j b h => I.fr j b (sub h).2, I.sub, I.f0, I.keep, fun j b h => I.fw j b (sub h).2, I.fn, fun j s2 b h h1 h2 => ?_, fun j s2 h h1 h2 => ?_, I.gon, fun j s2 b h h1 h2 h3 => ?_⟩
  · by_cases hj : j = i
    · subst hj
      rw [List.getElem?_set_self hi] at h
      cases h
      exact upφ_same
    · rw [List.getElem?_set_ne (Ne.symm hj)] at h
      rw [upφ_ne hj]
      exact I.at_ j s2 h
  · by_cases hj : j = i
    · subst hj; exact upφ_same
    · rw [List.getElem?_set_ne (Ne.symm hj)] at h
      rw [upφ_ne hj]
      exact I.out j h
  · obtain ⟨hj, h2⟩ := sub h2
    rw [List.getElem?_set_ne (Ne.symm hj)] at h
    exact I.mine j s2 b h h1 h2
  · by_cases hj : j = i
    · subst hj
      rw [List.getElem?_set_self hi] at h
      cases h
      cases h1
    · rw [List.getElem?_set_ne (Ne.symm hj)] at h
      exact I.bor j s2 h h1 h2
  · obtain ⟨hj, h3⟩ := sub h3
    rw [List.getElem?_set_ne (Ne.symm hj)] at h
    exact I.bfp j s2 b h h1 h2 h3
end
section
variable {X : Cx} {g : G} {x : Str} {pos : Pos} {i : Nat}
/-- a name, its own list (made here) handed out -/
def dOut (i : Nat) : DE := fun ρ Q => match ρ[i]? with
  | some (.own true ds) => Q (.o (.own true ds)) (ρ.set i .no)
  | _ => False
theorem de_out (i : Nat) (hN : X.N[i]? = some x := by rfl) (hv : Vis X.env.scope x := by first | exact Or.inl rfl | exact Or.inr (Or.inl rfl) | exact Or.inr (Or.inr rfl)) (hd : (x == ("__debug__" : Str)) = false := by decide)
    (hcd : (x == ("__classdict__" : Str)) = false := by decide) : PEd X g (.Name x pos) (dOut i) :=
  PE.imp (pe_var hN hv hd hcd) fun σ H Q ⟨F, ρ, φ, ψ, I, h, k⟩ => by
    unfold dOut at h
    split at h
    · rename_i ds e
      obtain ⟨a, xs, e1, e2, q, r⟩ := I.at_ i _ e
      have ha : a ∈ φ i := by rw [e2]; exact List.mem_cons_self
      refine ⟨_, join_some e1, k _ _ F (upφ φ i []) _ H h (I.lose (slot_lt e)) (Ext.less fun j b hb => ?_) ⟨rfl, [a], ⟨a, xs, rfl, rfl, q, r⟩, fun b hb => ?_, fun b hb => ?_⟩⟩
      · by_cases hj : j = i
        · subst hj; rw [upφ_same] at hb; simp at hb
        · rw [upφ_ne hj] at hb; exact ⟨j, hb⟩
      · rw [List.mem_singleton.mp hb]; exact .inr ⟨i, ha⟩
      · rw [List.mem_singleton.mp hb]
        refine ⟨I.mine i _ a e rfl ha, I.fr i a ha, fun j hj => ?_⟩
        by_cases z : j = i
        · subst z; rw [upφ_same] at hj; simp at hj
        · rw [upφ_ne z] at hj; exact z (I.dj j i a hj ha)
    · exact h.elim
/-- a text of the module -/
theorem dq_str {z : Str} (hm : ∃ t, X.mg x = some (.str z t)) (hg : Gl X x := by rfl) (hd : (x == ("__debug__" : Str)) = false := by decide) : PEd X g (.Name x pos) (dC (.str z.cps.toList)) := by
  obtain ⟨t, hm⟩ := hm
  refine de_glob hg hm (v := .str z) ⟨t, rfl⟩ (fun F => ?_) hd
  show V.str z = V.str ⟨z.cps.toList.toArray⟩
  rw [Array.toArray_toList]
end
section
variable {P : Program} {w : World} {K : PySem.W.Frag} {mg : Str → Option Value} {base : Heap}
theorem fnG_of {x : Str} {st : Stmt} {f : Addr} {fd : FuncData} {N ps : List Str} {k : Nat} {S : Spec} (F : Fun K x x st f fd) (hm : mg x = some (.ref f)) (bn : Binds K fd ps []) (Sc : FnScope N ps (defScope st)) (hlen : ∀ args R B, S args R B → args.length = ps.length)
    (hbody : ∀ (cdv : Value) (A : Around) (outer : List Env) (s : Shared) (H : Hp) (E : XK) (g : G), Room k (A.deeper (envOfC x (defScope st) s.heap.objs.size f cdv)) →
      ∃ td, PSsd (cxOf CX0 P w K mg base N x (defScope st) f cdv A outer s H E).nox g (defBody st) td ∧ ∀ args R, S args R noBad → td (endsOf ps.length R) (body0 N ps args))
    (hB : ∀ args R B, S args R B → S args R noBad) : FnG P w K mg base x (k + 1) ps S := ⟨f, fd, 0, fn_d F Sc hlen hbody hB, hm, F.kp, bn⟩
theorem meG_of {x q : Str} {C : Addr} {st : Stmt} {f : Addr} {fd : FuncData} {N ps : List Str} {k : Nat} {S : Spec} (F : Fun K x q st f fd) (hc : Cls K C) (hm : Meth K C x f) (bn : Binds K fd ps []) (Sc : FnScope N ps (defScope st)) (hlen : ∀ args R B, S args R B → args.length = ps.length)
    (hbody : ∀ (cdv : Value) (A : Around) (outer : List Env) (s : Shared) (H : Hp) (E : XK) (g : G), Room k (A.deeper (envOfC q (defScope st) s.heap.objs.size f cdv)) →
      ∃ td, PSsd (cxOf CX0 P w K mg base N q (defScope st) f cdv A outer s H E).nox g (defBody st) td ∧ ∀ args R, S args R noBad → td (endsOf ps.length R) (body0 N ps args))
    (hB : ∀ args R B, S args R B → S args R noBad) : MeG P w K mg base C x (k + 1) ps S := ⟨f, fd, 0, fn_d F Sc hlen hbody hB, hm, bn, hc⟩
theorem mkG_of {x q : Str} {C : Addr} {st : Stmt} {f : Addr} {fd : FuncData} {N ps : List Str} {k : Nat} {S : Spec} (F : Fun K "__init__" q st f fd) (hm : Mk K C f) (hg : mg x = some (.ref C)) (bn : Binds K fd ps []) (Sc : FnScope N ps (defScope st)) (hlen : ∀ args R B, S args R B → args.length = ps.length)
    (hbody : ∀ (cdv : Value) (A : Around) (outer : List Env) (s : Shared) (H : Hp) (E : XK) (g : G), Room k (A.deeper (envOfC q (defScope st) s.heap.objs.size f cdv)) →
      ∃ td, PSsd (cxOf CX0 P w K mg base N q (defScope st) f cdv A outer s H E).nox g (defBody st) td ∧ ∀ args R, S args R noBad → td (endsOf ps.length R) (body0 N ps args))
    (hB : ∀ args R B, S args R B → S args R noBad) : MkG P w K mg base x C (k + 1) ps S := ⟨f, fd, 0, fn_d F Sc hlen hbody hB, hm, bn, hg⟩
end
end DL

set_option maxRecDepth 100000
set_option maxHeartbeats 4000000
/-! Plain facts of signs, tokens, texts. -/
namespace K76
open PySem PySem.Spec PyProof.Rows L2 TL SkE DL
abbrev cd (s : String) : List Nat := (Str.ofString s).cps.toList
abbrev LET := cd "abcdefghijklmnopqrstuvwxyz"
abbrev DIG := cd "0123456789"
abbrev SGN := cd "+-*/^();,:"
theorem mem_let {c : Nat} : c ∈ LET ↔ 97 ≤ c ∧ c ≤ 122 := by
  rw [show LET = List.range' 97 26 by decide +kernel, List.mem_range'_1]; omega
theorem mem_dig {c : Nat} : c ∈ DIG ↔ 48 ≤ c ∧ c ≤ 57 := by
  rw [show DIG = List.range' 48 10 by decide +kernel, List.mem_range'_1]; omega
theorem mem_sgn {c : Nat} : c ∈ SGN ↔ c = 43 ∨ c = 45 ∨ c = 42 ∨ c = 47 ∨ c = 94 ∨ c = 40 ∨ c = 41 ∨ c = 59 ∨ c = 44 ∨ c = 58 := by
  rw [show SGN = [43, 45, 42, 47, 94, 40, 41, 59, 44, 58] by decide +kernel]; simp
theorem c_sp : cd " " = [32] := by decide +kernel
theorem c_0 : cd "0" = [48] := by decide +kernel
theorem c_e : cd "" = [] := by decide +kernel
theorem c_word : cd "word" = [119, 111, 114, 100] := by decide +kernel
theorem c_number : cd "number" = [110, 117, 109, 98, 101, 114] := by decide +kernel
theorem c_none : cd "none" = [110, 111, 110, 101] := by decide +kernel
theorem c_end : cd "end" = [101, 110, 100] := by decide +kernel
theorem c_op : cd "(" = [40] := by decide +kernel
theorem c_cl : cd ")" = [41] := by decide +kernel
theorem c_cm : cd "," = [44] := by decide +kernel
theorem c_mi : cd "-" = [45] := by decide +kernel
theorem c_cs : cd ", " = [44, 32] := by decide +kernel
/-! ### numbers -/
def natD (n : Nat) : List Nat := DL.intD (n : Int)
theorem natD_eq (n : Nat) : natD n = (Nat.toDigits 10 n).map Char.toNat := PySem.W.KIN.signs_num n
theorem natD_dig {n c : Nat} (h : c ∈ natD n) : c ∈ DIG := by
  rw [natD_eq] at h
  obtain ⟨ch, hch, e⟩ := List.mem_map.mp h
  have r := digit_range (Nat.isDigit_of_mem_toDigits (by decide) (by decide) hch)
  rw [mem_dig, ← e]
  exact r
theorem natD_ne (n : Nat) : natD n ≠ [] := by
  rw [natD_eq]
  intro e
  exact Nat.toDigits_ne_nil (List.map_eq_nil_iff.mp e)
theorem natD_back {n : Nat} (h : (natD n).length ≤ 640) : PySem.intText? ⟨(natD n).toArray⟩ = some (n : Int) := by
  have hd : NumText.AllDigits (⟨(natD n).toArray⟩ : Str).cps.toList := fun c hc => mem_dig.mp (natD_dig (by simpa using hc))
  have e := PySem.intText_digits (x := ⟨(natD n).toArray⟩) hd (by simpa using natD_ne n) (by
    show (natD n).toArray.size ≤ 4300
    simp; omega)
  rw [e]
  have : (⟨(natD n).toArray⟩ : Str).cps.toList = (Nat.toDigits 10 n).map Char.toNat := by simpa using natD_eq n
  rw [this, PySem.W.KIN.val_back]
theorem natD_len {n k : Nat} (hk : 0 < k) (h : n < 10 ^ k) : (natD n).length ≤ k := by
  rw [natD_eq, List.length_map]
  exact (Nat.length_toDigits_le_iff (by decide) hk).mpr h
theorem natD_small {n : Nat} (h : n < 10) : natD n = [48 + n] := by
  rw [natD_eq, Nat.toDigits_of_lt_base h]
  have : ∀ d : Nat, d < 10 → [(Nat.digitChar d).toNat] = [48 + d] := by decide
  exact this n h
theorem natD_zero {n : Nat} {c : List Nat} (h : natD n = 48 :: c) : c = [] := by
  induction n using Nat.strongRecOn generalizing c with
  | _ n ih =>
    by_cases hn : n < 10
    · rw [natD_small hn] at h
      simp at h
      first | exact h.2 | exact h.2.symm
    · have hm : n % 10 < 10 := Nat.mod_lt n (by decide)
      have t : Nat.toDigits 10 (n / 10) ++ Nat.toDigits 10 (n % 10) = Nat.toDigits 10 (10 * (n / 10) + n % 10) := Nat.toDigits_append_toDigits (by decide) (by omega) hm
      rw [Nat.div_add_mod] at t
      have e : natD n = natD (n / 10) ++ natD (n % 10) := by rw [natD_eq, natD_eq, natD_eq, ← List.map_append, t]
      rw [e] at h
      cases q : natD (n / 10) with
      | nil => exact absurd q (natD_ne _)
      | cons a r =>
        rw [q] at h
        simp at h
        obtain ⟨h1, h2⟩ := h
        subst h1
        have := ih (n / 10) (by omega) q
        subst this
        -- n / 10 = 0: but 10 ≤ n
        exfalso
        have z : n / 10 < 10 := by
          by_cases z : n / 10 < 10
          · exact z
          · exfalso
            have t2 : Nat.toDigits 10 (n / 10 / 10) ++ Nat.toDigits 10 (n / 10 % 10) = Nat.toDigits 10 (10 * (n / 10 / 10) + n / 10 % 10) := Nat.toDigits_append_toDigits (by decide) (by omega) (Nat.mod_lt _ (by decide))
            rw [Nat.div_add_mod] at t2
            have e2 : natD (n / 10) = natD (n / 10 / 10) ++ natD (n / 10 % 10) := by rw [natD_eq, natD_eq, natD_eq, ← List.map_append, t2]
            have l := congrArg List.length e2
            rw [q, List.length_append] at l
            have l1 := List.length_pos_iff.mpr (natD_ne (n / 10 / 10))
            have l2 := List.length_pos_iff.mpr (natD_ne (n / 10 % 10))
            simp at l
            omega
        rw [natD_small z] at q
        simp at q
        omega
theorem intD_nat (n : Nat) : DL.intD (n : Int) = natD n := rfl
theorem intD_neg {i : Int} (h : i < 0) : DL.intD i = 45 :: natD i.natAbs := by
  obtain ⟨m, rfl⟩ : ∃ m : Nat, i = Int.negSucc m := by
    cases i with
    | ofNat n => exact absurd h (by simp)
    | negSucc m => exact ⟨m, rfl⟩
  rw [natD_eq]
  unfold DL.intD
  show (Str.ofString (toString (Int.negSucc m))).cps.toList = _
  rw [signs_ofString]
  show ("-" ++ Nat.repr (m + 1)).toList.map Char.toNat = _
  rw [String.toList_append, Nat.toList_repr]
  rfl
/-! ### tokens -/
inductive Tok where
  | sg (c : Nat) | wd (w : List Nat) | nm (n : Nat)
def Tok.tt : Tok → List Nat
  | .sg c => [c]
  | .wd w => w
  | .nm n => natD n
def Tok.kd : Tok → List Nat
  | .sg c => [c]
  | .wd _ => cd "word"
  | .nm _ => cd "number"
def Tok.vl : Tok → D
  | .sg c => .str [c]
  | .wd w => .str w
  | .nm n => .int n
def Tok.ok : Tok → Prop
  | .sg c => c ∈ SGN
  | .wd w => w ≠ [] ∧ w.length ≤ 1000 ∧ ∀ c ∈ w, c ∈ LET
  | .nm n => (natD n).length ≤ 640
def Tok.cls : Tok → List Nat
  | .sg _ => []
  | .wd _ => LET
  | .nm _ => DIG
def Tok.stop (t : Tok) (post : List Nat) : Prop := ∀ c r, post = c :: r → c ∉ t.cls
def gp (n : Nat) : List Nat := List.replicate n 32
def lay : List (Nat × Tok) → Nat → List Nat
  | [], e => gp e
  | (g, t) :: r, e => gp g ++ (t.tt ++ lay r e)
def okL : List (Nat × Tok) → Nat → Prop
  | [], _ => True
  | (_, t) :: r, e => t.ok ∧ t.stop (lay r e) ∧ okL r e
theorem tt_ne {t : Tok} (h : t.ok) : t.tt ≠ [] := by
  cases t with
  | sg c => simp [Tok.tt]
  | wd w => exact h.1
  | nm n => exact natD_ne n
theorem tt_pos {t : Tok} (h : t.ok) : 0 < t.tt.length := List.length_pos_iff.mpr (tt_ne h)
theorem gp_succ (n : Nat) : gp (n + 1) = 32 :: gp n := List.replicate_succ
theorem gp_len (n : Nat) : (gp n).length = n := List.length_replicate
/-- the first sign that is none of cs -/
def run (l : List Nat) (cs : List Nat) : Nat := (l.takeWhile fun c => decide (c ∈ cs)).length
theorem run_app {a b cs : List Nat} (h : ∀ c ∈ a, c ∈ cs) (h2 : ∀ c r, b = c :: r → c ∉ cs) : run (a ++ b) cs = a.length := by
  unfold run
  induction a with
  | nil =>
    cases b with
    | nil => rfl
    | cons c r =>
      have := h2 c r rfl
      simp [this]
  | cons x a ih =>
    have hx := h x List.mem_cons_self
    simp only [List.cons_append, List.takeWhile_cons, hx, decide_true, if_true, List.length_cons]
    rw [ih fun c hc => h c (List.mem_cons_of_mem _ hc)]
theorem drop_pre {α : Type} (p q : List α) : (p ++ q).drop p.length = q := by simp
theorem get_pre {α : Type} (p q : List α) (x : α) : (p ++ x :: q)[p.length]? = some x := by simp
end K76
namespace K76
open PySem PySem.Spec PyProof.Rows L2 TL SkE DL
theorem atI_nat {α : Type} {l : List α} {j : Nat} {x : α} (h : l[j]? = some x) : atI l (j : Int) = some x := by
  have hj := (List.getElem?_eq_some_iff.mp h).1
  unfold atI ixN
  rw [if_pos (by omega), if_pos (by omega)]
  simpa using h
theorem run_drop {s cs : List Nat} {j c : Nat} (h : s[j]? = some c) : run (s.drop j) cs = if c ∈ cs then run (s.drop (j + 1)) cs + 1 else 0 := by
  obtain ⟨hj, e⟩ := List.getElem?_eq_some_iff.mp h
  rw [List.drop_eq_getElem_cons hj, e]
  unfold run
  by_cases hc : c ∈ cs
  · simp [hc]
  · simp [hc]
theorem run_end0 {s cs : List Nat} {j : Nat} (h : s.length ≤ j) : run (s.drop j) cs = 0 := by
  rw [List.drop_eq_nil_of_le h]
  rfl
theorem sIx_nat {n d i : Nat} (h : i ≤ n) : HT.sIx n d (some (i : Int)) = i := by
  rw [HT.sIx_nat]
  exact Nat.min_eq_left h
theorem cut_mid {α : Type} {p m q : List α} {i j : Nat} (hi : i = p.length) (hj : j = p.length + m.length) : cutL (p ++ (m ++ q)) (some (i : Int)) (some (j : Int)) = m := by
  subst hi hj
  unfold cutL
  rw [sIx_nat (by simp), sIx_nat (by simp)]
  simp
end K76

set_option maxRecDepth 100000
set_option maxHeartbeats 4000000
/-! An own error with two fields whose __init__ says super().__init__(text) first: made. -/
namespace EXA
open PySem PySem.W PySem.Calls PyProof.Rows PySem.HandSPX
/-- what the written part says of the class and of its __init__ (at st) -/
structure TwoErr (prog : Program) (K : Frag) (mg : Str → Option Value) (x f1 f2 : Str) (st : Stmt) (C fI cc cda : Addr) : Prop where
  gC : mg x = some (.ref C)
  oex : L2.OexC K C
  iC : findIn K (.ref C) "__init__" = some (some (.ref fI))
  tI : typeIn K (.ref fI) = some (.type "function")
  n1 : findIn K (.ref C) f1 = some none
  n2 : findIn K (.ref C) f2 = some none
  fn : ∃ (oc : Value) (od an : Option Addr) (osl : Array (Option Value)) (nm qual : Str) (kV doc pm ct : Value), K.lookup fI = some ⟨oc, od, .func (ksFn nm qual (L2.defArgs st) (L2.defBody st) (L2.defScope st) .none kV doc pm an (.ref cda) ct cc), osl⟩ ∧ codeIn K (.ref cda) qual = true
  code : ∃ (ccl : Value) (cdd : Option Addr) (vs : Array Value) (ccs : Array (Option Value)) (file : Str) (tf : Tok), K.lookup cda = some ⟨ccl, cdd, .fields vs, ccs⟩ ∧ vs[2]? = some (.str file tf) ∧ ((prog.main.file : Str) == file) = true
  cell : ∃ (cl : Value) (cld : Option Addr) (csl : Array (Option Value)), K.lookup cc = some ⟨cl, cld, .cell (some (.ref C)), csl⟩
  su : mroIn K C (.ref C) = some true
  opq : nsIn K cStatics "thirdparty.any" = some none
  mi : ks_superIn K C C "__init__" = some (some (.builtin "ValueError.__init__"))
  ve : subIn K (.ref C) (.type "ValueError") = some true
  sup : mg "super" = none
  top : (prog.main.scope.names.lookup ("super" : Str)).isSome = false
theorem notIn {K : Frag} {h : Heap} (X : K.In h) {x : Addr} (e : h.get? x = none) : K.lookup x = none := by
  cases q : K.lookup x with
  | none => rfl
  | some o => exact absurd ((X _ _ q).symm.trans e) (fun z => by cases z)
theorem keptBut {K : Frag} {h h' : Heap} {x : Addr} (X : K.In h) (hx : K.lookup x = none) (k : ∀ b o, b ≠ x → h.get? b = some o → h'.get? b = some o) : K.In h' := fun a o e =>
  k a o (fun z => by rw [z, hx] at e; cases e) (X a o e)
section
variable {prog : Program} {w : World} {A : Around} {E : Value → Shared → Prop} {h : Heap} {g : Array GenState} {d : Drawn} {t : Nat} {os : OsState} {K : Frag} {C : Addr}
/-- ValueError's __init__, bound, called -/
theorem call_bound (T : L2.OexC K C) (X : K.In h) {u e t0 : Addr} {rest : List Value} {Q : Value → Shared → Prop} (hu : h.get? u = some (kxs_mw "ValueError.__init__" e)) (he : h.get? e = some (excO C t0)) (hrest : rest.length ≤ sizeLine)
    (hq : ∀ h' t1, (∀ b o, b ≠ e → h.get? b = some o → h'.get? b = some o) → h'.get? e = some (excO C t1) → Q .none ⟨h', g, d, t, os⟩) : wpAny (model prog w) A (call (.ref u) rest) Q E ⟨h, g, d, t, os⟩ := by
  obtain ⟨nm, q, N, bs, bm, sn, sub, ab, col, dd, k0, k1, k2, k3, k5, hC, hbm⟩ := T.cls
  refine wpAny_call (codeAny_of_tree ?_)
  show wpAny _ A.in1 (callAny (.ref u) ⟨rest, []⟩) _ _ _
  simp only [callAny]
  refine wpAny_bind (wpAny_load hu ?_)
  simp only [kxs_mw, show (Value.type "method-wrapper" == Value.type "method" || Value.type "method-wrapper" == Value.type "builtin_function_or_method" || Value.type "method-wrapper" == Value.type "method-wrapper") = true by decide, if_true]
  refine KFB.if_so (by decide) ?_
  refine wpAny_bind (check_bound_init F.excBase_ValueError.toExcCallFacts (X _ _ hC) he rfl ?_)
  refine wpAny_bind (wpAny_pure (wpAny_pure ?_))
  refine ⟨plainId_quiet F.excBase_ValueError.init.plain _, codeAny_builtin F.excBase_ValueError.initEntry ?_⟩
  exact exc_init_tree (cls := .ref C) (t0 := t0) (dv := none) (c2 := .none) (c3 := .none) (b4 := .bool false) he hrest fun h' k he' _ => hq h' _ k he'
end
end EXA

set_option maxRecDepth 100000
set_option maxHeartbeats 4000000
namespace EXA
open PySem PySem.W PySem.Calls PyProof.Rows PySem.HandSPX
/-- the text of such an __init__ -/
structure TwoTxt (st : Stmt) (f1 f2 y1 y2 : Str) : Prop where
  body : ∃ (msg : Str) (j : Nat) (p0 p1 pa pc p2 p3 q1 q2 q3 q4 r1 r2 r3 r4 : Pos) (pl : Str → Addr → Addr → Value → Addr → Sem Bool), L2.defBody st = [.Expr (.Call (.Attribute (.Call (.Name "super" p0) [] [] p1) "__init__" pa) [.Constant (.str msg) j pc] [] p2) p3,
    .Assign [.Attribute (.Name "self" q1) f1 q2] (.Name y1 q3) q4, .Assign [.Attribute (.Name "self" r1) f2 r2] (.Name y2 r3) r4] ∧
    ∀ (q : Str) (L f : Addr) (cd : Value) (cc : Addr), (eval (.Call (.Attribute (.Call (.Name "super" p0) [] [] p1) "__init__" pa) [.Constant (.str msg) j pc] [] p2) (ksEnv q (L2.defScope st) L f cd cc) = (do
        let ov ← attributeBase (.Call (.Name "super" p0) [] [] p1) "__init__" (ksEnv q (L2.defScope st) L f cd cc) (eval (.Call (.Name "super" p0) [] [] p1) (ksEnv q (L2.defScope st) L f cd cc))
        standAt pa.atName
        let (fu, first) ← holding [ov] (getMethod ov "__init__" (pl q L f cd cc))
        callWith p2 fu first (backTo p2 (starEach [.Constant (.str msg) j pc] (ksEnv q (L2.defScope st) L f cd cc))) [])) ∧
      swapsWith (.Call (.Attribute (.Call (.Name "super" p0) [] [] p1) "__init__" pa) [.Constant (.str msg) j pc] [] p2) none p3.line (ksEnv q (L2.defScope st) L f cd cc) = pure false ∧
      swapsWith (.Name y1 q3) (some (.Attribute (.Name "self" q1) f1 q2)) q4.line (ksEnv q (L2.defScope st) L f cd cc) = pure false ∧
      swapsWith (.Name y2 r3) (some (.Attribute (.Name "self" r1) f2 r2)) r4.line (ksEnv q (L2.defScope st) L f cd cc) = pure false
  par : ∃ a : Arg, ((L2.defArgs st).posonlyargs ++ (L2.defArgs st).args).head? = some a ∧ a.arg = ("self" : Str)
  kind : (L2.defScope st).kind = .function
  co : (L2.defScope st).isCoroutine = false
  gen : (L2.defScope st).isGenerator = false
  nocell : ∀ x ∈ (L2.defScope st).names, x.2 ≠ .cell
  kS : (L2.defScope st).names.lookup ("super" : Str) = some .globalImplicit
  kC : (L2.defScope st).names.lookup ("__class__" : Str) = some .free
  kself : (L2.defScope st).names.lookup ("self" : Str) = some .local
  k1 : (L2.defScope st).names.lookup y1 = some .local
  k2 : (L2.defScope st).names.lookup y2 = some .local
  d1 : (y1 == ("__debug__" : Str)) = false
  d2 : (y2 == ("__debug__" : Str)) = false
  ne : ([("self" : Str), y1, y2]).Nodup
  nf : ¬ f2 = f1
  bind : ∀ (s : Shared) (nm qual : Str) (kV doc pm : Value) (an : Option Addr) (cdv ct : Value) (cc : Addr) (u l p : Value), BindsTo s (ksFn nm qual (L2.defArgs st) (L2.defBody st) (L2.defScope st) .none kV doc pm an cdv ct cc) ⟨[u, l, p], []⟩ [("self", u), (y1, l), (y2, p)]
section
variable {prog : Program} {w : World} {A : Around} {R : Result → Shared → Prop} {s : Shared} {K : Frag} {mg : Str → Option Value} {base : Heap} {x f1 f2 y1 y2 : Str} {st : Stmt} {C fI cc cda : Addr}
theorem ldLoc {M : Model} {A : Around} {E : Value → Shared → Prop} {s : Shared} {env : Env} {m : Str → Option Value} {x : Str} {pos : Pos} {v : Value} {Q : Value → Shared → Prop} (hk : env.scope.kind = .function) (hl : env.kindOf x = some .local) (hn : s.heap.Ns env.locals m) (hv : m x = some v) (h : Q v s) (hd : (x == ("__debug__" : Str)) = false) :
    wpAny M A (eval (.Name x pos) env) Q E s := wpAny_Name (wpAny_loadName_local hk hl hn hv h) hd
theorem init_two (T : TwoErr prog K mg x f1 f2 st C fI cc cda) (Z : TwoTxt st f1 f2 y1 y2) (M : L2.Mod K mg base) (kb : ∀ b o, base.get? b = some o → s.heap.get? b = some o) {e t0 : Addr} {l p : Value} (hx : s.heap.get? e = some (excO C t0)) (hnx : base.get? e = none) (hroom : A.depth < recursionLimit)
    (hq : ∀ h' tk dx t1, (∀ b o, b ≠ e → s.heap.get? b = some o → h'.get? b = some o) → h'.get? e = some { cls := .ref C, dict := some dx, data := .fields #[.ref t1, .none, .none, .none, .bool false, .none] } → s.heap.objs.size ≤ dx → dx ≠ e →
      h'.Ns1 dx (fun y => if y = f2 then some p else if y = f1 then some l else none) → R (.ok (.ret .none)) { s with heap := h', toks := tk }) :
    codeAny (model prog w) A (.call (.ref fI) ⟨[.ref e, l, p], []⟩) R s := by
  obtain ⟨oc, od, an, osl, nm, qual, kV, doc, pm, ct, ho, hcd⟩ := T.fn
  obtain ⟨ccl, cdd, vs, ccs, file, tf, hco, hvs, hfile⟩ := T.code
  obtain ⟨cl, cld, csl, hcell⟩ := T.cell
  obtain ⟨msg, j, p0, p1, pa, pc, p2, p3, q1, q2, q3, q4, r1, r2, r3, r4, pl, hbody, hev⟩ := Z.body
  obtain ⟨hev, hsw0, hsw1, hsw2⟩ := hev qual s.heap.objs.size fI (.ref cda) cc
  obtain ⟨ar, har, hself⟩ := Z.par
  obtain ⟨cnm, cq, cN, cbs, cbm, csn, csub, cab, ccol, cdd0, k0, k1, k2, k3, k5, hC, hbm⟩ := T.oex.cls
  have X : K.In s.heap := M.kin.keeps kb
  have hcl : clsIn K C = some { name := cnm, bases := cbs, mro := .ref C :: cbm, ns := cN, qualname := cq, hasDict := true, slotNames := csn, subclasses := csub, abstract := cab, collection := ccol, hasDel := false } := by unfold clsIn; rw [hC] <;> rfl
  have knx : K.lookup e = none := notIn M.kin hnx
  have n1 : ¬ y1 = ("self" : Str) := fun z => by have := Z.ne; rw [z] at this; simp at this
  have n2 : ¬ y2 = ("self" : Str) := fun z => by have := Z.ne; rw [z] at this; simp at this
  have n3 : ¬ y2 = y1 := fun z => by have := Z.ne; rw [z] at this; simp at this
  refine ks_codeAny_call_defAt (fd := ksFn nm qual (L2.defArgs st) (L2.defBody st) (L2.defScope st) .none kV doc pm an (.ref cda) ct cc) (body := L2.defBody st) (binds := [("self", .ref e), (y1, l), (y2, p)]) hroom (X _ _ ho) rfl (M.nolimit.keeps kb) (codeRec_of X hcd) rfl (Z.bind _ _ _ _ _ _ _ _ _ _ _ _ _) Z.nocell
    (fun y hy => ?_) (fun h₀ hns kk => ?_) Z.co Z.gen Z.kind
  · simp only [List.mem_cons, List.not_mem_nil, or_false] at hy
    rcases hy with rfl | rfl | rfl
    · exact Z.kself
    · exact Z.k1
    · exact Z.k2
  have lkS : ([("self", Value.ref e), (y1, l), (y2, p)] : List (Str × Value)).reverse.lookup ("self" : Str) = some (.ref e) := by
    have a1 : (("self" : Str) == y2) = false := beq_eq_false_iff_ne.mpr fun z => n2 z.symm
    have a2 : (("self" : Str) == y1) = false := beq_eq_false_iff_ne.mpr fun z => n1 z.symm
    simp [List.lookup, a1, a2]
  have lk1 : ([("self", Value.ref e), (y1, l), (y2, p)] : List (Str × Value)).reverse.lookup y1 = some l := by
    have a1 : (y1 == y2) = false := beq_eq_false_iff_ne.mpr fun z => n3 z.symm
    simp [List.lookup, a1]
  have lk2 : ([("self", Value.ref e), (y1, l), (y2, p)] : List (Str × Value)).reverse.lookup y2 = some p := by simp [List.lookup]
  obtain ⟨hp, gg, dd, tk, os⟩ := s
  have kb0 : ∀ b o, base.get? b = some o → h₀.get? b = some o := fun b o q => kk b o (kb b o q)
  have X0 : K.In h₀ := M.kin.keeps kb0
  have hx0 := kk _ _ hx
  have hk := Z.kind
  have key : ∀ (env : Env), env = ksEnv qual (L2.defScope st) hp.objs.size fI (.ref cda) cc → PySem.wpAt (model prog w) (A.deeper env) (.func (L2.defBody st) env) (execs (L2.defBody st) env) (fun f s' => R (.ok (.ret (match f with | .ret v => v | _ => .none))) s')
      (fun e s' => wpAny (model prog w) (A.deeper env) (leaving env e) (fun _ s'' => R (.error e) s'') (fun e' s'' => R (.error e') s'') s') { heap := h₀, gens := gg, drawn := dd, toks := tk + 3, os := os } := fun env henv => ?_
  · exact key _ rfl
  have ek : env.scope.kind = .function := by rw [henv]; exact Z.kind
  have hns' : h₀.Ns env.locals (fun x => ([("self", Value.ref e), (y1, l), (y2, p)] : List (Str × Value)).reverse.lookup x) := by rw [henv]; exact hns
  have eS : env.kindOf "super" = some .globalImplicit := by rw [henv]; exact Z.kS
  have eC : env.kindOf "__class__" = some .free := by rw [henv]; exact Z.kC
  have eself : env.kindOf "self" = some .local := by rw [henv]; exact Z.kself
  have e1 : env.kindOf y1 = some .local := by rw [henv]; exact Z.k1
  have e2 : env.kindOf y2 = some .local := by rw [henv]; exact Z.k2
  have ef : env.func = some fI := by rw [henv]
  have ec : env.code = .ref cda := by rw [henv]
  have ecc : List.lookup ("__class__" : Str) env.cells = some cc := by rw [henv]; rfl
  have eg : env.globals = mainGlobals := by rw [henv]
  have eb : env.builtins = builtinsNs := by rw [henv]
  have ei : interactive env = false := by simp [interactive, ek]
  rw [hbody]
  refine ks_wpAt_execs_cons (ks_wpAt_Expr_any (ks_wpAt_MethodCall ?_ (by rw [henv]; exact hev)) ei (by rw [henv]; exact hsw0))
  obtain ⟨mb, hb1, hb2⟩ := M.blt
  refine ks_wpAt_super_base eS eC rfl ef (X0 _ _ ho) rfl har ec (X0 _ _ hco) rfl hvs hfile T.top ?_
  refine ks_loadName_global ek eS (Calls.loadGlobal_builtin (env := env) (by rw [eg]; exact M.glob.keeps kb0) T.sup (by rw [eb]; exact hb1.keeps kb0) ((hb2 _ (by decide)).trans (by decide +kernel : bootBuiltins "super" = some (.type "super"))) ⟨rfl, ?_⟩)
  refine wpAny_loadName_free ek eC ecc ⟨_, X0 _ _ hcell, rfl⟩ ?_
  rw [hself]
  refine wpAny_loadName_local ek eself hns' lkS ?_
  obtain ⟨oD, hD1, hD2⟩ : ∃ oD, h₀.get? C = some oD ∧ oD.data = .cls { name := cnm, bases := cbs, mro := .ref C :: cbm, ns := cN, qualname := cq, hasDict := true, slotNames := csn, subclasses := csub, abstract := cab, collection := ccol, hasDel := false } := ⟨_, X0 _ _ hC, rfl⟩
  refine ks_wpAny_isType_cls hD1 hD2 ⟨rfl, ?_⟩
  refine ks_wpAny_call_super hD1 hD2 hx0 rfl (fun c z => by cases z) (looks_mroIn X0 T.su) (fun h1 es k1 => ?_)
  have X1 : K.In h1 := X0.keeps k1
  have I0 : InstAt h1 e (excO C t0) C none := ⟨k1 _ _ hx0, rfl, rfl, trivial⟩
  have hmr : Looks (model prog w) h1 (mroOf (.ref C)) (.ref C :: cbm) := (looks_clsIn X1 hcl).andThen .now
  refine kxs_getMethod kxs_ValueError (D := C) (C := C) (x := e) es (looks_opaque X1 T.opq) hmr rfl X1 ?_ (I0.type.andThen (looks_subIn X1 T.ve)) (ks_ne X1 I0 hcl) rfl ?_
  · have := T.mi
    unfold ks_superIn at this
    rw [hcl] at this
    exact this
  -- the bound __init__ is called with the text
  have hu : (h1.push (kxs_mw "ValueError.__init__" e)).get? h1.objs.size = some (kxs_mw "ValueError.__init__" e) := Heap.get?_push_size _ rfl
  refine kxs_callWith (i := "ValueError.__init__") (x := e) (by rw [henv]; rfl) ?_
  have hst : starEach [.Constant (.str msg) j pc] env = (false, eval (.Constant (.str msg) j pc) env) :: starEach [] env := by rw [henv]; rfl
  rw [hst]
  refine evalArgs_plain ?_
  refine Calls.spliced_cons (wpAny_Constant_str (pos := pc) (k := j) ?_)
  rw [show starEach [] env = [] by rw [henv]; rfl]
  refine wpAny_pure ⟨hu, ?_⟩
  have k2 : ∀ b o, h1.get? b = some o → (h1.push (kxs_mw "ValueError.__init__" e)).get? b = some o := fun b o q => Heap.get?_push_of_some _ q
  refine call_bound T.oex (X1.keeps k2) hu (k2 _ _ (k1 _ _ hx0)) ?_ fun h2 t1 k3 hx2 => ?_
  · rw [sizeLine_eq]; simp
  -- the fields
  have keep2 : ∀ b o, b ≠ e → hp.get? b = some o → h2.get? b = some o := fun b o hb q => k3 b o hb (k2 _ _ (k1 _ _ (kk b o q)))
  have hL : hp.objs.size ≠ e := fun z => by
    have y := Heap.lt_size (show hp.get? e = some _ from hx)
    rw [z] at y
    exact absurd y (Nat.lt_irrefl _)
  have hns2 : h2.Ns env.locals (fun x => ([("self", Value.ref e), (y1, l), (y2, p)] : List (Str × Value)).reverse.lookup x) := by
    obtain ⟨oL, es', ep, hL1, r⟩ := hns'
    refine ⟨oL, es', ep, k3 _ _ ?_ (k2 _ _ (k1 _ _ hL1)), r⟩
    rw [henv]
    exact hL
  have X2 : K.In h2 := keptBut X knx keep2
  refine wpAt_of_wpAny ?_
  -- self.f1 = y1
  refine wpAny_execs_cons (plainObj_wpAny_Assign_Attribute ?_ (by rw [henv]; exact hsw1))
  refine ldLoc ek e1 hns2 lk1 (ldLoc ek eself hns2 lkS ?_ (by decide)) Z.d1
  refine set_plain X2 (ox := excO C t1) (od := none) ⟨hx2, rfl, rfl, trivial⟩ T.oex.sa ?_
  refine exc_osa X2 hx2 hcl (show refsVE (.ref C :: cbm) = true from hbm) rfl T.n1 (fun h3 tk3 dx k4 dn dne hx3 hn3 => ?_)
  have keep3 : ∀ b o, b ≠ e → hp.get? b = some o → h3.get? b = some o := fun b o hb q => k4 b o hb (keep2 b o hb q)
  have X3 : K.In h3 := keptBut X knx keep3
  have hns3 : h3.Ns env.locals (fun x => ([("self", Value.ref e), (y1, l), (y2, p)] : List (Str × Value)).reverse.lookup x) := by
    obtain ⟨oL, es', ep, hL1, r⟩ := hns2
    refine ⟨oL, es', ep, k4 _ _ ?_ hL1, r⟩
    rw [henv]
    exact hL
  have sz : hp.objs.size ≤ h2.objs.size := by
    have y := hns2.lt
    rw [henv] at y
    exact Nat.le_of_lt y
  -- self.f2 = y2
  show wpAny _ _ (execs _ _) _ _ _
  refine wpAny_execs_cons (plainObj_wpAny_Assign_Attribute ?_ (by rw [henv]; exact hsw2))
  refine ldLoc ek e2 hns3 lk2 (ldLoc ek eself hns3 lkS ?_ (by decide)) Z.d2
  have hw : Within (fun y => if y = f1 then some l else none) [f1] := fun y hy => by
    by_cases z : y = f1
    · rw [z]; exact List.mem_singleton.mpr rfl
    · exact absurd (if_neg z) hy
  obtain ⟨oD, _, _, hoD, _, _⟩ := hn3.count hw
  refine set_plain X3 (ox := { cls := .ref C, dict := some dx, data := .fields #[.ref t1, .none, .none, .none, .bool false, .none] }) (od := some oD) ⟨hx3, rfl, rfl, hoD⟩ T.oex.sa ?_
  refine PySem.OEX.osa_old X3 hx3 hn3 hw (by simp) hcl (show refsVE (.ref C :: cbm) = true from hbm) rfl T.n2 (fun h4 tk4 k5 hn4 => ?_)
  show wpAny _ _ (execs _ _) _ _ _
  have dsz : hp.objs.size ≤ dx := Nat.le_trans sz dn
  have old : ∀ b o, hp.get? b = some o → b ≠ dx := fun b o q => Nat.ne_of_lt (Nat.lt_of_lt_of_le (Heap.lt_size q) dsz)
  exact wpAny_execs_nil (hq h4 tk4 dx t1 (fun b o hb q => k5 b o (old b o q) (keep3 b o hb q)) (k5 _ _ (Ne.symm dne) hx3) dsz dne hn4)
end
end EXA

set_option maxRecDepth 100000
set_option maxHeartbeats 4000000
namespace EXA
open PySem PySem.W PySem.Calls PyProof.Rows PySem.HandSPX
/-- made: at e, its dict at d -/
structure TwoMade (h h' : Heap) (e C d : Addr) (f1 f2 : Str) (l p : Value) : Prop where
  old : ∀ b o, h.get? b = some o → h'.get? b = some o
  fresh : h.objs.size ≤ e
  rec_ : ∃ oe vs, h'.get? e = some oe ∧ oe.cls = .ref C ∧ oe.dict = some d ∧ oe.data = .fields vs ∧ vs[1]? = some .none ∧ vs[2]? = some .none
  dnew : h.objs.size ≤ d
  apart : d ≠ e
  dict : h'.Ns1 d (fun y => if y = f2 then some p else if y = f1 then some l else none)
section
variable {prog : Program} {w : World} {A : Around} {R : Result → Shared → Prop} {s : Shared} {K : Frag} {mg : Str → Option Value} {base : Heap} {x f1 f2 y1 y2 : Str} {st : Stmt} {C fI cc cda : Addr}
theorem two_made (T : TwoErr prog K mg x f1 f2 st C fI cc cda) (Z : TwoTxt st f1 f2 y1 y2) (M : L2.Mod K mg base) (kb : ∀ b o, base.get? b = some o → s.heap.get? b = some o) {l p : Value} (hroom : A.depth + 1 < recursionLimit)
    (hq : ∀ h' tk e d, TwoMade s.heap h' e C d f1 f2 l p → R (.ok (.ret (.ref e))) { s with heap := h', toks := tk }) : codeAny (model prog w) A (.call (.ref C) ⟨[l, p], []⟩) R s := by
  obtain ⟨nm, q, N, bs, bm, sn, sub, ab, col, dd, k0, k1, k2, k3, k5, hC, hbm⟩ := T.oex.cls
  have X : K.In s.heap := M.kin.keeps kb
  obtain ⟨hp, g, dr, tk, os⟩ := s
  have kk : ∀ b o, hp.get? b = some o → ((hp.push (kdv_tup [l, p])).push (excO C hp.objs.size)).get? b = some o := fun b o z => Heap.get?_push_of_some _ (Heap.get?_push_of_some _ z)
  have hat : ((hp.push (kdv_tup [l, p])).push (excO C hp.objs.size)).get? (hp.objs.size + 1) = some (excO C hp.objs.size) := by heap_get
  have two : [l, p].length ≤ sizeLine := by rw [sizeLine_eq]; exact (by decide : 2 ≤ 16777216)
  refine call_own F.excBase_ValueError (fun Y => refsVE_contains Y bm hbm) (X _ _ hC) (looks_findIn X T.iC) (fun self => bind_fn X self T.tI) two ?_
  have nb : base.get? (hp.objs.size + 1) = none := by
    cases z : base.get? (hp.objs.size + 1) with
    | none => rfl
    | some o => exact absurd (Nat.lt_of_succ_lt (Heap.lt_size (kb _ _ z))) (Nat.lt_irrefl _)
  refine init_two (s := ⟨(hp.push (kdv_tup [l, p])).push (excO C hp.objs.size), g, dr, tk, os⟩) T Z M (fun b o z => kk b o (kb b o z)) hat nb hroom fun h' tk' dx t1 keep hx dn dne hns => ?_
  have old : ∀ b o, hp.get? b = some o → h'.get? b = some o := fun b o z => keep b o (Nat.ne_of_lt (Nat.lt_succ_of_lt (Heap.lt_size z))) (kk b o z)
  have dz : hp.objs.size + 1 + 1 ≤ dx := by
    have z := dn
    simp only [Heap.size_push] at z
    exact z
  exact ⟨rfl, hq h' tk' (hp.objs.size + 1) dx ⟨old, Nat.le_succ _, ⟨_, _, hx, rfl, rfl, rfl, rfl, rfl⟩, Nat.le_trans (Nat.le_trans (Nat.le_succ _) (Nat.le_succ _)) dz, dne, hns⟩⟩
end
end EXA
namespace DL
open PySem PySem.Spec PyProof.Rows L2 TL SkE
theorem lookup2 {f1 f2 g : Str} {u v : V} (h : ¬ f2 = f1) : List.lookup g [(f1, u), (f2, v)] = if g = f2 then some v else if g = f1 then some u else none := by
  by_cases a : g = f2
  · rw [if_pos a, a]
    have : (f2 == f1) = false := beq_eq_false_iff_ne.mpr h
    simp [List.lookup, this]
  · rw [if_neg a]
    have a' : (g == f2) = false := beq_eq_false_iff_ne.mpr a
    by_cases b : g = f1
    · rw [if_pos b, b]
      simp [List.lookup]
    · rw [if_neg b]
      have b' : (g == f1) = false := beq_eq_false_iff_ne.mpr b
      simp [List.lookup, a', b']
section
variable {X : Cx} {x f1 f2 y1 y2 : Str} {st : Stmt} {C fI cc cda : Addr}
/-- C(e1, e2), an own error of two fields -/
def tMkTwo (C : Addr) (f1 f2 : Str) (ta : TA) : L2.St → Hp → XK → Prop := fun σ H Q => ta σ H fun vs H1 => ∃ u v, vs = [u, v] ∧ ∀ d, H1 d = none → Q (.ref C) (some d) (upd H1 d (.xd [(f1, u), (f2, v)]))
theorem pmk_two {a b : Expr} {ta : TA} {p pos : Pos} {k : Nat} (T : EXA.TwoErr X.prog X.K X.mg x f1 f2 st C fI cc cda) (Z : EXA.TwoTxt st f1 f2 y1 y2) (hr : Room k X.A) (ha : PA X [a, b] ta) (hg : Gl X x)
    (hdb : (x == ("__debug__" : Str)) = false := by decide) (he : starEach (a :: [b]) X.env = (false, eval a X.env) :: starEach [b] X.env := by rfl) (hpl : (backTo pos (starEach [b] X.env)).any (·.1) = false := by rfl) :
    L2N.PMk X (.Call (.Name x p) [a, b] [] pos) (tMkTwo C f1 f2 ta) := by
  intro pins s σ H Q I h
  refine wpAny_Call_Name_kw (ld_glob I hg T.gC ?_ hdb)
  refine PySem.W.callWith_K (h₀ := X.base) I.ok.mod.kin T.oex.kC (thn (ha.run pos pins s σ H _ I h) fun us s1 hh => ?_) he hpl
  obtain ⟨vs, H1, I1, r1, v1, v2, ev, q1⟩ := hh
  subst ev
  refine ⟨I1.kIn, ?_⟩
  cases r1 with
  | cons rv1 rr =>
    rename_i u1 us'
    cases rr with
    | cons rv2 rn =>
      rename_i u2 us''
      cases rn
      show wpAny _ _ (call (.ref C) [u1, u2]) _ _ _
      have I1' := I1
      obtain ⟨hp, g, dr, tk, os⟩ := s1
      refine wpAny_call (EXA.two_made T Z I1.mod I1.bk (by have := hr.dp; omega) fun h' tk' e d M => ?_)
      show L2N.MkP X pins σ Q (.ref e) ⟨h', g, dr, tk', os⟩
      obtain ⟨oe, fv, hoe, hc, hd, hdat, hf1, hf2⟩ := M.rec_
      obtain ⟨G', g1, g2⟩ := restrict h' fun b => decide (b ≠ e)
      have gk : ∀ b, b ≠ e → G'.get? b = h'.get? b := fun b hb => g1 b (decide_eq_true hb)
      have ge : G'.get? e = none := g2 e (by simp)
      have ne_ : ∀ b o, hp.get? b = some o → b ≠ e := fun b o z => Nat.ne_of_lt (Nat.lt_of_lt_of_le (Heap.lt_size z) M.fresh)
      have old : ∀ b o, hp.get? b = some o → G'.get? b = some o := fun b o z => (gk b (ne_ b o z)).trans (M.old b o z)
      have hdict := M.dict
      have ob : ObjOk X.prog X.w (upd H1 d (.xd [(f1, v1), (f2, v2)])) G' d (.xd [(f1, v1), (f2, v2)]) :=
        ⟨_, hdict.at (fun o z => (gk d M.apart).trans z), fun f => by
          rw [lookup2 Z.nf]
          by_cases a1 : f = f2
          · rw [if_pos a1, if_pos a1]; exact rv2
          · rw [if_neg a1, if_neg a1]
            by_cases a2 : f = f1
            · rw [if_pos a2, if_pos a2]; exact rv1
            · rw [if_neg a2, if_neg a2]; trivial⟩
      have J : Inv X pins σ (upd H1 d (.xd [(f1, v1), (f2, v2)])) ⟨G', g, dr, tk', os⟩ := I1.laid (t' := tk') old M.dnew ob
      refine ⟨e, oe, fv, ⟨G', g, dr, tk', os⟩, _, .ref C, some d, rfl, J, fun b o z => ?_, ge, hoe, ⟨hc, hd, fun vs e => (by rw [hdat] at e; cases e; exact hf2)⟩, hdat, hf1, ?_, rfl, I1.bare, raises_own T.oex.exC T.oex.tyC, q1 d (I1.hok.fresh M.dnew)⟩
      · by_cases hb : b = e
        · have z' : G'.get? b = some o := z
          rw [hb, ge] at z'
          cases z'
        · exact (gk b hb).symm.trans z
      · rw [upd_ne (Ne.symm M.apart)]
        exact I1.hok.fresh M.fresh
end
end DL

set_option maxRecDepth 100000
set_option maxHeartbeats 4000000
namespace DL
open PySem PySem.Spec PyProof.Rows L2 TL SkE
/-! ### raising: an own error of line and place -/
section
variable {X : Cx} {g : G} {x y1 y2 : Str} {st : Stmt} {C fI cc cda : Addr} {B : Int → Int → List Sl → Prop} {ts : DA} {a b : Expr} {p pos pos2 : Pos} {k : Nat}
def dRaise (B : Int → Int → List Sl → Prop) (ts : DA) : DS := fun _ ρ => ts ρ fun rs ρ1 => rdD rs fun ds => match ds with
  | [.int l, .int p] => B l p ρ1
  | _ => False
theorem ds_raise (tk : L2N.Takes X (WB X.K g C B)) (T : EXA.TwoErr X.prog X.K X.mg x "line" "place" st C fI cc cda) (Z : EXA.TwoTxt st "line" "place" y1 y2) (hr : Room k X.A) (ha : PAd X g [a, b] ts) (hc : X.calm = true := by rfl) (hg : Gl X x := by rfl)
    (hdb : (x == ("__debug__" : Str)) = false := by decide) (he : starEach (a :: [b]) X.env = (false, eval a X.env) :: starEach [b] X.env := by rfl) (hpl : (backTo pos (starEach [b] X.env)).any (·.1) = false := by rfl) :
    PSd X g (.Raise (some (.Call (.Name x p) [a, b] [] pos)) none pos2) (dRaise B ts) :=
  PS.imp (L2N.ps_raise hc tk (pmk_two T Z hr ha hg hdb he hpl)) fun D σ H ⟨F, ρ, φ, ψ, I, h, _⟩ => ⟨F, ρ, φ, _, I, h, fun rs ρ1 F1 φ1 vs H1 h1 I1 x1 o1 => by
    obtain ⟨ds, ed, h1⟩ := rdD_of h1
    have rv := datas_ok o1 ed
    split at h1
    · rename_i l p
      obtain ⟨u, v, rfl, q1, q2⟩ := two_of rv
      cases q1
      cases q2
      refine ⟨_, _, rfl, fun d hd => ⟨l, p, ρ1, F1, φ1, d, h1, I1.aside (I1.sub.free hd) (fun j z => I1.there z hd) (gH_of I1 hd), rfl, rfl, upd_same, gH_of I1 hd, I1.sub.free hd, fun j z => I1.there z hd⟩⟩
    · exact h1.elim⟩
end
/-! ### defs and methods that may raise it, as others see them -/
structure FnX (P : Program) (w : World) (K : PySem.W.Frag) (mg : Str → Option Value) (base : Heap) (Cb : Addr) (x : Str) (k : Nat) (ps : List Str) (S : Spec) : Prop where
  ex : ∃ f fd, FnOk P w K mg base (L2N.CX P w) k f fd ps (spD K Cb S) ∧ mg x = some (.ref f) ∧ PySem.W.keepIn K (.ref f) = true ∧ L2.Binds K fd ps []
structure MeX (P : Program) (w : World) (K : PySem.W.Frag) (mg : Str → Option Value) (base : Heap) (Cb C : Addr) (m : Str) (k : Nat) (ps : List Str) (S : Spec) : Prop where
  ex : ∃ f fd, FnOk P w K mg base (L2N.CX P w) k f fd ps (spD K Cb S) ∧ Meth K C m f ∧ L2.Binds K fd ps [] ∧ Cls K C
section
variable {X : Cx} {g : G} {k : Nat} {C Cb : Addr} {ps : List Str} {S : Spec} {B : Int → Int → List Sl → Prop} {x m f : Str} {p pos apos ppos : Pos} {e o : Expr} {es : List Expr} {ts : DA}
theorem dqx_fn (tk : L2N.Takes X (WB X.K g Cb B)) (Gf : FnX X.prog X.w X.K X.mg X.base Cb x k ps S) (hr : Room k X.A) (ha : PAd X g (e :: es) ts) (hg : Gl X x := by rfl)
    (hdb : (x == ("__debug__" : Str)) = false := by decide) (he : starEach (e :: es) X.env = (false, eval e X.env) :: starEach es X.env := by rfl) (hpl : (backTo pos (starEach es X.env)).any (·.1) = false := by rfl) :
    PEd X g (.Call (.Name x p) (e :: es) [] pos) (dFn S B ts) := by
  obtain ⟨f, fd, F, h1, h2, h3⟩ := Gf.ex
  exact de_fnX tk F hr hg h1 h2 h3 ha hdb he hpl
theorem dqx_meth {pl : Sem Bool} (i : Nat) (tk : L2N.Takes X (WB X.K g Cb B)) (M : MeX X.prog X.w X.K X.mg X.base Cb C m k ps S) (hr : Room k X.A) (ha : PAd X g (e :: es) ts)
    (hN : X.N[i]? = some x := by rfl) (hv : Vis X.env.scope x := by first | exact Or.inl rfl | exact Or.inr (Or.inl rfl) | exact Or.inr (Or.inr rfl)) (hd : (x == ("__debug__" : Str)) = false := by decide) (hcd : (x == ("__classdict__" : Str)) = false := by decide)
    (hst : starEach (e :: es) X.env = (false, eval e X.env) :: starEach es X.env := by rfl) (hpl : (backTo pos (starEach es X.env)).any (·.1) = false := by rfl)
    (ht : eval (.Call (.Attribute (.Name x ppos) m apos) (e :: es) [] pos) X.env = (do
      let ov ← eval (.Name x ppos) X.env
      standAt apos.atName
      let (f, first) ← holding [ov] (getMethod ov m pl)
      callWith pos f first (backTo pos (starEach (e :: es) X.env)) (backToKw pos (keywordEach [] X.env))) := by rfl) :
    PEd X g (.Call (.Attribute (.Name x ppos) m apos) (e :: es) [] pos) (dMeth i C m S B ts) := by
  obtain ⟨f, fd, F, h1, h2, h3⟩ := M.ex
  exact de_methX i tk h3 h1 F hr h2 ha hN hv hd hcd hst hpl ht
theorem dqx_meth0 {pl : Sem Bool} (i : Nat) (tk : L2N.Takes X (WB X.K g Cb B)) (M : MeX X.prog X.w X.K X.mg X.base Cb C m k ps S) (hr : Room k X.A)
    (hN : X.N[i]? = some x := by rfl) (hv : Vis X.env.scope x := by first | exact Or.inl rfl | exact Or.inr (Or.inl rfl) | exact Or.inr (Or.inr rfl)) (hd : (x == ("__debug__" : Str)) = false := by decide) (hcd : (x == ("__classdict__" : Str)) = false := by decide)
    (ht : eval (.Call (.Attribute (.Name x ppos) m apos) [] [] pos) X.env = (do
      let ov ← eval (.Name x ppos) X.env
      standAt apos.atName
      let (f, first) ← holding [ov] (getMethod ov m pl)
      callWith pos f first (backTo pos (starEach [] X.env)) (backToKw pos (keywordEach [] X.env))) := by rfl) :
    PEd X g (.Call (.Attribute (.Name x ppos) m apos) [] [] pos) (dMeth i C m S B dNil) := by
  obtain ⟨f, fd, F, h1, h2, h3⟩ := M.ex
  exact de_methX0 i tk h3 h1 F hr h2 hN hv hd hcd ht
end
section
variable {P : Program} {w : World} {K : PySem.W.Frag} {mg : Str → Option Value} {base : Heap} {Cb : Addr}
theorem fnX_of {x : Str} {st : Stmt} {f : Addr} {fd : FuncData} {N ps : List Str} {k : Nat} {S : Spec} (F : Fun K x x st f fd) (hm : mg x = some (.ref f)) (bn : L2.Binds K fd ps []) (Sc : FnScope N ps (defScope st)) (hlen : ∀ args R B, S args R B → args.length = ps.length)
    (hbody : ∀ (cdv : Value) (A : Around) (outer : List Env) (s : Shared) (H : Hp) (E : XK) (g : G) (B : Int → Int → List Sl → Prop), Room k (A.deeper (envOfC x (defScope st) s.heap.objs.size f cdv)) →
      L2N.Takes (cxOf (L2N.CX P w) P w K mg base N x (defScope st) f cdv A outer s H E) (WB K g Cb (fun l p ρ => B l p (ρ.take ps.length))) →
      ∃ td, PSsd (cxOf (L2N.CX P w) P w K mg base N x (defScope st) f cdv A outer s H E) g (defBody st) td ∧ ∀ args R, S args R B → td (endsOf ps.length R) (body0 N ps args)) : FnX P w K mg base Cb x (k + 1) ps S := ⟨f, fd, fn_dX F Sc hlen hbody, hm, F.kp, bn⟩
theorem meX_of {x q : Str} {C : Addr} {st : Stmt} {f : Addr} {fd : FuncData} {N ps : List Str} {k : Nat} {S : Spec} (F : Fun K x q st f fd) (hc : Cls K C) (hm : Meth K C x f) (bn : L2.Binds K fd ps []) (Sc : FnScope N ps (defScope st)) (hlen : ∀ args R B, S args R B → args.length = ps.length)
    (hbody : ∀ (cdv : Value) (A : Around) (outer : List Env) (s : Shared) (H : Hp) (E : XK) (g : G) (B : Int → Int → List Sl → Prop), Room k (A.deeper (envOfC q (defScope st) s.heap.objs.size f cdv)) →
      L2N.Takes (cxOf (L2N.CX P w) P w K mg base N q (defScope st) f cdv A outer s H E) (WB K g Cb (fun l p ρ => B l p (ρ.take ps.length))) →
      ∃ td, PSsd (cxOf (L2N.CX P w) P w K mg base N q (defScope st) f cdv A outer s H E) g (defBody st) td ∧ ∀ args R, S args R B → td (endsOf ps.length R) (body0 N ps args)) : MeX P w K mg base Cb C x (k + 1) ps S := ⟨f, fd, fn_dX F Sc hlen hbody, hm, bn, hc⟩
end
end DL

set_option maxRecDepth 100000
set_option maxHeartbeats 4000000
/-! The tokens of any text, plain. -/
namespace K76
open PySem PySem.Spec PyProof.Rows L2 TL SkE DL
/-- tokens with their places; where the text cannot be told further -/
def lexR : List Nat → Nat → List (List Nat × Nat) × Option Nat
  | [], _ => ([], none)
  | c :: r, i =>
    if c = 32 then lexR r (i + 1)
    else if c ∈ SGN then (([c], i) :: (lexR r (i + 1)).1, (lexR r (i + 1)).2)
    else if c ∈ LET then ((c :: r.take (run r LET), i) :: (lexR (r.drop (run r LET)) (i + 1 + run r LET)).1, (lexR (r.drop (run r LET)) (i + 1 + run r LET)).2)
    else if c ∈ DIG then
      if c = 48 ∧ 0 < run r DIG then ([], some i)
      else ((c :: r.take (run r DIG), i) :: (lexR (r.drop (run r DIG)) (i + 1 + run r DIG)).1, (lexR (r.drop (run r DIG)) (i + 1 + run r DIG)).2)
    else ([], some i)
termination_by s => s.length
decreasing_by all_goals simp <;> omega
theorem run_cons {c : Nat} {r cs : List Nat} (h : c ∈ cs) : run (c :: r) cs = run r cs + 1 := by unfold run; simp [h]
theorem run_cons0 {c : Nat} {r cs : List Nat} (h : c ∉ cs) : run (c :: r) cs = 0 := by unfold run; simp [h]
theorem run_le (r cs : List Nat) : run r cs ≤ r.length := by
  unfold run
  induction r with
  | nil => simp
  | cons c r ih =>
    by_cases h : c ∈ cs
    · simp only [List.takeWhile_cons, h, decide_true, if_true, List.length_cons]; omega
    · simp [List.takeWhile_cons, h]
theorem run_mem : ∀ {r cs : List Nat} {x : Nat}, x ∈ r.take (run r cs) → x ∈ cs
  | [], cs, x, h => by simp at h
  | c :: r, cs, x, h => by
    by_cases hc : c ∈ cs
    · rw [run_cons hc, List.take_succ_cons] at h
      rcases List.mem_cons.mp h with rfl | h
      · exact hc
      · exact run_mem h
    · rw [run_cons0 hc] at h
      simp at h
theorem lex_sp (r : List Nat) (i : Nat) : lexR (32 :: r) i = lexR r (i + 1) := by rw [lexR]; simp
theorem lex_skip : ∀ (s : List Nat) (i : Nat), lexR s i = lexR (s.drop (run s [32])) (i + run s [32])
  | [], i => by simp [run]
  | c :: r, i => by
    by_cases hc : c = 32
    · subst hc
      rw [lex_sp, run_cons (by simp), lex_skip r (i + 1), List.drop_succ_cons]
      congr 1
      omega
    · rw [run_cons0 (by simpa using hc)]
      simp
/-- every run of digits is short -/
def MR (s : List Nat) : Prop := ∀ p m q, s = p ++ (m ++ q) → (∀ c ∈ m, c ∈ DIG) → m.length ≤ 640
theorem MR.app {a b : List Nat} (ha : MR a) (hb : MR b) (h : ∀ x y, a.getLast? = some x → b.head? = some y → x ∉ DIG ∨ y ∉ DIG) : MR (a ++ b) := by
  intro p m q e hm
  rcases List.append_eq_append_iff.mp e with ⟨l, e1, e2⟩ | ⟨l, e1, e2⟩
  · -- p = a ++ l, b = l ++ (m ++ q)
    exact hb l m q e2 hm
  · -- a = p ++ l, m ++ q = l ++ b
    rcases List.append_eq_append_iff.mp e2 with ⟨l2, f1, f2⟩ | ⟨l2, f1, f2⟩
    · -- l = m ++ l2
      exact ha p m l2 (by rw [e1, f1]) hm
    · -- m = l ++ l2, b = l2 ++ q
      cases l2 with
      | nil => exact ha p m [] (by rw [e1, f1]; simp) hm
      | cons y l2 =>
        rcases List.eq_nil_or_concat l with rfl | ⟨l', x, rfl⟩
        · exact hb [] m q (by rw [f2, f1]; simp) hm
        · have h1 : a.getLast? = some x := by rw [e1, List.concat_eq_append]; simp
          have h2 : b.head? = some y := by rw [f2]; simp
          rcases h x y h1 h2 with z | z
          · exact absurd (hm x (by rw [f1, List.concat_eq_append]; simp)) z
          · exact absurd (hm y (by rw [f1]; simp)) z
theorem MR.short {s : List Nat} (h : s.length ≤ 640) : MR s := fun p m q e _ => by
  have := congrArg List.length e
  simp at this
  omega
/-! ### what the program makes of them -/
def kdR (t : List Nat) : List Nat := match t with
  | c :: _ => if c ∈ SGN then t else if c ∈ LET then cd "word" else cd "number"
  | [] => []
def vlR (t : List Nat) : D := match t with
  | c :: _ => if c ∈ SGN then .str t else if c ∈ LET then .str t else .int ((PySem.NumText.digitsVal t : Nat) : Int)
  | [] => .int 0
def rowD (p : List Nat × Nat) : D := .tup [.int (p.2 : Int), .str (kdR p.1), vlR p.1]
def endD (len : Nat) : Option Nat → D
  | some b => .tup [.int (b : Int), .str (cd ""), .int 0]
  | none => .tup [.int (len : Int), .str (cd "end"), .int 0]
def progT (len : Nat) (q : List (List Nat × Nat) × Option Nat) : List D := q.1.map rowD ++ [endD len q.2]
end K76

set_option maxRecDepth 100000
set_option maxHeartbeats 4000000
namespace K76
open PySem PySem.Spec PyProof.Rows L2 TL SkE DL
def topS (i : Nat) : Stmt := PySem.Challenge.pw_idealstold_k77_papers_refused.main.body.getD i (.Pass ⟨0, 0, 0, 0⟩)
abbrev s_run_end : Stmt := topS 10
abbrev s_token_from : Stmt := topS 11
abbrev s_tokens_of : Stmt := topS 12
abbrev s_Line_init : Stmt := inClass (topS 13) 0
abbrev s_Line_kind_here : Stmt := inClass (topS 13) 1
abbrev s_Line_value_here : Stmt := inClass (topS 13) 2
abbrev s_Line_refuse : Stmt := inClass (topS 13) 3
abbrev s_Line_take : Stmt := inClass (topS 13) 5
abbrev s_Line_take_signed : Stmt := inClass (topS 13) 7
abbrev s_Line_close : Stmt := inClass (topS 13) 8
abbrev s_take_leaf : Stmt := topS 16
abbrev s_read_paper : Stmt := topS 17
abbrev s__law_draws : Stmt := topS 19
abbrev s__law_take : Stmt := topS 20
abbrev s__law_pick : Stmt := topS 21
abbrev s__law_same : Stmt := topS 22
abbrev s__law_words : Stmt := topS 23
abbrev s__law_paper_text : Stmt := topS 24
abbrev s__law_are_apart : Stmt := topS 26
abbrev s__law_spread : Stmt := topS 27
abbrev s__law_run : Stmt := topS 28
abbrev s__law_tokens_of : Stmt := topS 29
abbrev s__law_tokens_spoilt : Stmt := topS 30
abbrev s__law_paper_fault : Stmt := topS 33
abbrev s__law_error_of : Stmt := topS 25
abbrev s__law_read : Stmt := topS 34
abbrev s__law_thing : Stmt := topS 31
abbrev s_law : Stmt := topS 35
abbrev s__law_paper_tokens : Stmt := topS 32
theorem sc_run_end : FnScope ["line", "index", "chars", "end"] ["line", "index", "chars"] (defScope s_run_end) := ⟨rfl, rfl, rfl, by decide +kernel, rfl, by decide +kernel, by decide +kernel⟩
theorem sc_token_from : FnScope ["line", "index", "char", "end"] ["line", "index"] (defScope s_token_from) := ⟨rfl, rfl, rfl, by decide +kernel, rfl, by decide +kernel, by decide +kernel⟩
theorem sc_tokens_of : FnScope ["line", "tokens", "index", "kind", "value", "end"] ["line"] (defScope s_tokens_of) := ⟨rfl, rfl, rfl, by decide +kernel, rfl, by decide +kernel, by decide +kernel⟩
theorem sc_Line_init : FnScope ["self", "text", "row_number"] ["self", "text", "row_number"] (defScope s_Line_init) := ⟨rfl, rfl, rfl, by decide +kernel, rfl, by decide +kernel, by decide +kernel⟩
theorem sc_Line_kind_here : FnScope ["self"] ["self"] (defScope s_Line_kind_here) := ⟨rfl, rfl, rfl, by decide +kernel, rfl, by decide +kernel, by decide +kernel⟩
theorem sc_Line_value_here : FnScope ["self"] ["self"] (defScope s_Line_value_here) := ⟨rfl, rfl, rfl, by decide +kernel, rfl, by decide +kernel, by decide +kernel⟩
theorem sc_Line_refuse : FnScope ["self"] ["self"] (defScope s_Line_refuse) := ⟨rfl, rfl, rfl, by decide +kernel, rfl, by decide +kernel, by decide +kernel⟩
theorem sc_Line_take : FnScope ["self", "kind", "value"] ["self", "kind"] (defScope s_Line_take) := ⟨rfl, rfl, rfl, by decide +kernel, rfl, by decide +kernel, by decide +kernel⟩
theorem sc_Line_take_signed : FnScope ["self"] ["self"] (defScope s_Line_take_signed) := ⟨rfl, rfl, rfl, by decide +kernel, rfl, by decide +kernel, by decide +kernel⟩
theorem sc_Line_close : FnScope ["self"] ["self"] (defScope s_Line_close) := ⟨rfl, rfl, rfl, by decide +kernel, rfl, by decide +kernel, by decide +kernel⟩
theorem sc_take_leaf : FnScope ["line", "word"] ["line"] (defScope s_take_leaf) := ⟨rfl, rfl, rfl, by decide +kernel, rfl, by decide +kernel, by decide +kernel⟩
theorem sc_read_paper : FnScope ["text", "line", "levels", "found"] ["text"] (defScope s_read_paper) := ⟨rfl, rfl, rfl, by decide +kernel, rfl, by decide +kernel, by decide +kernel⟩
theorem sc__law_draws : FnScope ["script", "many", "cells", "left", "draws", "k", "place", "mixed", "cell"] ["script", "many"] (defScope s__law_draws) := ⟨rfl, rfl, rfl, by decide +kernel, rfl, by decide +kernel, by decide +kernel⟩
theorem sc__law_take : FnScope ["draws", "many"] ["draws", "many"] (defScope s__law_take) := ⟨rfl, rfl, rfl, by decide +kernel, rfl, by decide +kernel, by decide +kernel⟩
theorem sc__law_pick : FnScope ["draws", "row"] ["draws", "row"] (defScope s__law_pick) := ⟨rfl, rfl, rfl, by decide +kernel, rfl, by decide +kernel, by decide +kernel⟩
theorem sc__law_same : FnScope ["actual", "due", "k"] ["actual", "due"] (defScope s__law_same) := ⟨rfl, rfl, rfl, by decide +kernel, rfl, by decide +kernel, by decide +kernel⟩
theorem sc__law_words : FnScope ["draws", "many", "words", "k", "size", "word", "j", "other"] ["draws", "many"] (defScope s__law_words) := ⟨rfl, rfl, rfl, by decide +kernel, rfl, by decide +kernel, by decide +kernel⟩
theorem sc__law_paper_text : FnScope ["thing", "one"] ["thing"] (defScope s__law_paper_text) := ⟨rfl, rfl, rfl, by decide +kernel, rfl, by decide +kernel, by decide +kernel⟩
theorem sc__law_are_apart : FnScope ["token", "other", "letters", "figures"] ["token", "other"] (defScope s__law_are_apart) := ⟨rfl, rfl, rfl, by decide +kernel, rfl, by decide +kernel, by decide +kernel⟩
theorem sc__law_spread : FnScope ["draws", "tokens", "text", "k"] ["draws", "tokens"] (defScope s__law_spread) := ⟨rfl, rfl, rfl, by decide +kernel, rfl, by decide +kernel, by decide +kernel⟩
theorem sc__law_run : FnScope ["text", "place", "signs", "end", "k"] ["text", "place", "signs"] (defScope s__law_run) := ⟨rfl, rfl, rfl, by decide +kernel, rfl, by decide +kernel, by decide +kernel⟩
theorem sc__law_tokens_of : FnScope ["text", "rows", "place", "step", "sign", "end"] ["text"] (defScope s__law_tokens_of) := ⟨rfl, rfl, rfl, by decide +kernel, rfl, by decide +kernel, by decide +kernel⟩
theorem sc__law_tokens_spoilt : FnScope ["draws", "tokens", "more", "k", "kind"] ["draws", "tokens", "more"] (defScope s__law_tokens_spoilt) := ⟨rfl, rfl, rfl, by decide +kernel, rfl, by decide +kernel, by decide +kernel⟩
theorem sc__law_paper_fault : FnScope ["text", "stage", "depth", "rows", "bad", "token", "place"] ["text"] (defScope s__law_paper_fault) := ⟨rfl, rfl, rfl, by decide +kernel, rfl, by decide +kernel, by decide +kernel⟩
theorem sc__law_error_of : FnScope ["e", "kinds", "one"] ["e"] (defScope s__law_error_of) := ⟨rfl, rfl, rfl, by decide +kernel, rfl, by decide +kernel, by decide +kernel⟩
theorem sc__law_read : FnScope ["text", "e"] ["text"] (defScope s__law_read) := ⟨rfl, rfl, rfl, by decide +kernel, rfl, by decide +kernel, by decide +kernel⟩
theorem sc__law_thing : FnScope ["draws", "words", "depth", "kind", "k"] ["draws", "words", "depth"] (defScope s__law_thing) := ⟨rfl, rfl, rfl, by decide +kernel, rfl, by decide +kernel, by decide +kernel⟩
theorem sc_law : FnScope ["script", "draws", "words", "asked", "turn", "text", "place", "tokens", "more", "told"] ["script"] (defScope s_law) := ⟨rfl, rfl, rfl, by decide +kernel, rfl, by decide +kernel, by decide +kernel⟩
theorem sc__law_paper_tokens : FnScope ["thing", "row"] ["thing"] (defScope s__law_paper_tokens) := ⟨rfl, rfl, rfl, by decide +kernel, rfl, by decide +kernel, by decide +kernel⟩
/-- what the top holds -/
structure TX (K : PySem.W.Frag) (mg : Str → Option Value) (C_Line : Addr) : Prop where
  c_Line : Cls K C_Line
  na_Line_row_number : NoAttr K C_Line "row_number"
  na_Line_tokens : NoAttr K C_Line "tokens"
  na_Line_taken : NoAttr K C_Line "taken"
  n_bool : mg "bool" = none
  n_int : mg "int" = none
  n_isinstance : mg "isinstance" = none
  n_len : mg "len" = none
  n_list : mg "list" = none
  n_max : mg "max" = none
  n_range : mg "range" = none
  n_str : mg "str" = none
  n_tuple : mg "tuple" = none
  s_DIGITS : ∃ t, mg "DIGITS" = some (.str "0123456789" t)
  s_LETTERS : ∃ t, mg "LETTERS" = some (.str "abcdefghijklmnopqrstuvwxyz" t)
  s_NONE_WORD : ∃ t, mg "NONE_WORD" = some (.str "none" t)
  s_SIGNS : ∃ t, mg "SIGNS" = some (.str "+-*/^();,:" t)
  f_run_end : ∃ f fd, Fun K "run_end" "run_end" s_run_end f fd ∧ mg "run_end" = some (.ref f) ∧ Binds K fd ["line", "index", "chars"] []
  f_token_from : ∃ f fd, Fun K "token_from" "token_from" s_token_from f fd ∧ mg "token_from" = some (.ref f) ∧ Binds K fd ["line", "index"] []
  f_tokens_of : ∃ f fd, Fun K "tokens_of" "tokens_of" s_tokens_of f fd ∧ mg "tokens_of" = some (.ref f) ∧ Binds K fd ["line"] []
  f_Line_init : ∃ f fd, Fun K "__init__" "Line.__init__" s_Line_init f fd ∧ Mk K C_Line f ∧ mg "Line" = some (.ref C_Line) ∧ Binds K fd ["self", "text", "row_number"] []
  f_Line_kind_here : ∃ f fd, Fun K "kind_here" "Line.kind_here" s_Line_kind_here f fd ∧ Meth K C_Line "kind_here" f ∧ Binds K fd ["self"] []
  f_Line_value_here : ∃ f fd, Fun K "value_here" "Line.value_here" s_Line_value_here f fd ∧ Meth K C_Line "value_here" f ∧ Binds K fd ["self"] []
  f_Line_refuse : ∃ f fd, Fun K "refuse" "Line.refuse" s_Line_refuse f fd ∧ Meth K C_Line "refuse" f ∧ Binds K fd ["self"] []
  f_Line_take : ∃ f fd, Fun K "take" "Line.take" s_Line_take f fd ∧ Meth K C_Line "take" f ∧ Binds K fd ["self", "kind"] []
  f_Line_take_signed : ∃ f fd, Fun K "take_signed" "Line.take_signed" s_Line_take_signed f fd ∧ Meth K C_Line "take_signed" f ∧ Binds K fd ["self"] []
  f_Line_close : ∃ f fd, Fun K "close" "Line.close" s_Line_close f fd ∧ Meth K C_Line "close" f ∧ Binds K fd ["self"] []
  f_take_leaf : ∃ f fd, Fun K "take_leaf" "take_leaf" s_take_leaf f fd ∧ mg "take_leaf" = some (.ref f) ∧ Binds K fd ["line"] []
  f_read_paper : ∃ f fd, Fun K "read_paper" "read_paper" s_read_paper f fd ∧ mg "read_paper" = some (.ref f) ∧ Binds K fd ["text"] []
  f__law_draws : ∃ f fd, Fun K "_law_draws" "_law_draws" s__law_draws f fd ∧ mg "_law_draws" = some (.ref f) ∧ Binds K fd ["script", "many"] []
  f__law_take : ∃ f fd, Fun K "_law_take" "_law_take" s__law_take f fd ∧ mg "_law_take" = some (.ref f) ∧ Binds K fd ["draws", "many"] []
  f__law_pick : ∃ f fd, Fun K "_law_pick" "_law_pick" s__law_pick f fd ∧ mg "_law_pick" = some (.ref f) ∧ Binds K fd ["draws", "row"] []
  f__law_same : ∃ f fd, Fun K "_law_same" "_law_same" s__law_same f fd ∧ mg "_law_same" = some (.ref f) ∧ Binds K fd ["actual", "due"] []
  f__law_words : ∃ f fd, Fun K "_law_words" "_law_words" s__law_words f fd ∧ mg "_law_words" = some (.ref f) ∧ Binds K fd ["draws", "many"] []
  f__law_paper_text : ∃ f fd, Fun K "_law_paper_text" "_law_paper_text" s__law_paper_text f fd ∧ mg "_law_paper_text" = some (.ref f) ∧ Binds K fd ["thing"] []
  f__law_are_apart : ∃ f fd, Fun K "_law_are_apart" "_law_are_apart" s__law_are_apart f fd ∧ mg "_law_are_apart" = some (.ref f) ∧ Binds K fd ["token", "other"] []
  f__law_spread : ∃ f fd, Fun K "_law_spread" "_law_spread" s__law_spread f fd ∧ mg "_law_spread" = some (.ref f) ∧ Binds K fd ["draws", "tokens"] []
  f__law_run : ∃ f fd, Fun K "_law_run" "_law_run" s__law_run f fd ∧ mg "_law_run" = some (.ref f) ∧ Binds K fd ["text", "place", "signs"] []
  f__law_tokens_of : ∃ f fd, Fun K "_law_tokens_of" "_law_tokens_of" s__law_tokens_of f fd ∧ mg "_law_tokens_of" = some (.ref f) ∧ Binds K fd ["text"] []
  f__law_tokens_spoilt : ∃ f fd, Fun K "_law_tokens_spoilt" "_law_tokens_spoilt" s__law_tokens_spoilt f fd ∧ mg "_law_tokens_spoilt" = some (.ref f) ∧ Binds K fd ["draws", "tokens", "more"] []
  f__law_paper_fault : ∃ f fd, Fun K "_law_paper_fault" "_law_paper_fault" s__law_paper_fault f fd ∧ mg "_law_paper_fault" = some (.ref f) ∧ Binds K fd ["text"] []
  f__law_error_of : ∃ f fd, Fun K "_law_error_of" "_law_error_of" s__law_error_of f fd ∧ mg "_law_error_of" = some (.ref f) ∧ Binds K fd ["e"] []
  f__law_read : ∃ f fd, Fun K "_law_read" "_law_read" s__law_read f fd ∧ mg "_law_read" = some (.ref f) ∧ Binds K fd ["text"] []
  f__law_thing : ∃ f fd, Fun K "_law_thing" "_law_thing" s__law_thing f fd ∧ mg "_law_thing" = some (.ref f) ∧ Binds K fd ["draws", "words", "depth"] []
  f_law : ∃ f fd, Fun K "law" "law" s_law f fd ∧ mg "law" = some (.ref f) ∧ Binds K fd ["script"] []
  f__law_paper_tokens : ∃ f fd, Fun K "_law_paper_tokens" "_law_paper_tokens" s__law_paper_tokens f fd ∧ mg "_law_paper_tokens" = some (.ref f) ∧ Binds K fd ["thing"] []
end K76

set_option maxRecDepth 100000
set_option maxHeartbeats 4000000
namespace K76
open PySem PySem.Spec PyProof.Rows L2 TL SkE DL
mutual
/-- a thing that a paper tells -/
def wf : D → Prop
  | .non => True
  | .int i => (natD i.natAbs).length ≤ 500
  | .str w => w ≠ [] ∧ w.length ≤ 1000 ∧ ∀ c ∈ w, c ∈ LET
  | .tup ds => wfL ds
  | _ => False
def wfL : List D → Prop
  | [] => True
  | d :: ds => wf d ∧ wfL ds
end
mutual
def tks : D → List K76.Tok
  | .non => [.wd (cd "none")]
  | .int i => if i < 0 then [.sg 45, .nm i.natAbs] else [.nm i.natAbs]
  | .str w => [.wd w]
  | .tup [] => [.sg 40, .sg 41]
  | .tup (d :: ds) => .sg 40 :: (tks d ++ (tksM ds ++ [.sg 41]))
  | _ => []
def tksM : List D → List K76.Tok
  | [] => []
  | d :: ds => .sg 44 :: (tks d ++ tksM ds)
end
def isLeaf : D → Bool
  | .non => true
  | .int _ => true
  | .str _ => true
  | _ => false
theorem tks_pos {x : D} (hw : wf x) : 0 < (tks x).length := by
  cases x with
  | int i => by_cases hi : i < 0 <;> simp [tks, hi]
  | tup ds => cases ds <;> simp [tks]
  | lst ds => exact hw.elim
  | scr ds => exact hw.elim
  | bl b => exact hw.elim
  | _ => simp [tks]
theorem bt {c : Bool} {A B : Prop} (hc : c = true) (h : A) : if c = true then A else B := by rw [if_pos hc]; exact h
theorem bf {c : Bool} {A B : Prop} (hc : c = false) (h : B) : if c = true then A else B := by rw [if_neg (by rw [hc]; exact Bool.false_ne_true)]; exact h
theorem seq_key {t u : DS} {ψ : DEnds} {ρ : List Sl} (Inv : List Sl → Prop) (h1 : ∀ nx : List Sl → Prop, (∀ ρ', Inv ρ' → nx ρ') → t { ψ with nx := nx } ρ) (h2 : ∀ ρ', Inv ρ' → u ψ ρ') : dSeq t u ψ ρ := h1 _ h2
mutual
/-- the text of a thing -/
def PT : D → List Nat
  | .non => cd "none"
  | .int i => DL.intD i
  | .str w => w
  | .tup ds => cd "(" ++ (joinL (cd ", ") (PTs ds) ++ cd ")")
  | _ => []
def PTs : List D → List (List Nat)
  | [] => []
  | d :: ds => PT d :: PTs ds
end
mutual
/-- its nodes -/
def nd : D → Nat
  | .tup ds => 2 + nds ds
  | _ => 1
def nds : List D → Nat
  | [] => 0
  | d :: ds => nd d + nds ds
end
theorem PTs_map : ∀ ds : List D, PTs ds = ds.map PT
  | [] => rfl
  | d :: ds => by rw [List.map_cons, ← PTs_map ds]; rfl
theorem wfL_mem : ∀ {ds : List D}, wfL ds → ∀ d ∈ ds, wf d
  | d :: ds, h, x, hx => by
    rcases List.mem_cons.mp hx with rfl | hx
    · exact h.1
    · exact wfL_mem h.2 x hx
theorem nd_pos (x : D) : 0 < nd x := by cases x <;> simp [nd] <;> omega
theorem nds_sum : ∀ ds : List D, nds ds = (ds.map nd).sum
  | [] => rfl
  | d :: ds => by rw [List.map_cons, List.sum_cons, ← nds_sum ds]; rfl
def isT : D → Bool
  | .tup _ => true
  | _ => false
theorem isi_t {x : D} (h : wf x) : x.isi "tuple" = some (isT x) := by
  cases x with
  | bl b => exact h.elim
  | lst b => exact h.elim
  | scr b => exact h.elim
  | non => exact (by decide +kernel : kitB "NoneType" "tuple" = some false)
  | int i => exact (by decide +kernel : kitB "int" "tuple" = some false)
  | str s => exact (by decide +kernel : kitB "str" "tuple" = some false)
  | tup ds => exact (by decide +kernel : kitB "tuple" "tuple" = some true)
theorem log_ok {n : Nat} (h : (natD n).length ≤ 500) : n.log2 < 1920 := by
  rw [natD_eq, List.length_map] at h
  have h2 := (Nat.length_toDigits_le_iff (by decide) (by decide)).mp h
  by_cases h0 : n = 0
  · subst h0; decide
  · rw [Nat.log2_lt h0]
    exact Nat.lt_of_lt_of_le h2 (by decide +kernel)
theorem asStrs_map : ∀ l : List (List Nat), asStrs (l.map .str) = some l
  | [] => rfl
  | a :: l => by simp only [List.map_cons, asStrs, asStrs_map l]
theorem joinL_nil : ∀ ps : List (List Nat), joinL [] ps = ps.flatten
  | [] => rfl
  | [p] => by simp [joinL]
  | p :: q :: r => by
    show p ++ ([] ++ joinL [] (q :: r)) = _
    rw [joinL_nil (q :: r)]
    simp
theorem joinL_len (S : List Nat) : ∀ ps : List (List Nat), (ps.map List.length).sum ≤ (joinL S ps).length
  | [] => Nat.zero_le _
  | [p] => by simp [joinL]
  | p :: q :: r => by
    have := joinL_len S (q :: r)
    show _ ≤ (p ++ (S ++ joinL S (q :: r))).length
    simp at this ⊢
    omega
theorem mem_sum {l : List Nat} {x : Nat} (h : x ∈ l) : x ≤ l.sum := by
  induction l with
  | nil => simp at h
  | cons a l ih =>
    rw [List.sum_cons]
    rcases List.mem_cons.mp h with rfl | h
    · omega
    · have := ih h; omega
theorem PT_child {ds : List D} {d : D} (h : d ∈ ds) : (PT d).length ≤ (PT (.tup ds)).length := by
  show _ ≤ (cd "(" ++ (joinL (cd ", ") (PTs ds) ++ cd ")")).length
  have := joinL_len (cd ", ") (PTs ds)
  rw [PTs_map, List.map_map] at this
  have h2 : (PT d).length ≤ (ds.map (List.length ∘ PT)).sum := mem_sum (List.mem_map.mpr ⟨d, h, rfl⟩)
  rw [PTs_map]
  simp only [List.length_append]
  omega
section
variable {c : DT} {t u u2 : DS} {ψ : DEnds} {ρ : List Sl}
theorem ifT (h : ∀ Q : Bool → List Sl → Prop, Q true ρ → c ρ Q) (k : t ψ ρ) : dIfS c t u ψ ρ := h _ (by rw [if_pos rfl]; exact k)
theorem ifF (h : ∀ Q : Bool → List Sl → Prop, Q false ρ → c ρ Q) (k : u ψ ρ) : dIfS c t u ψ ρ := h _ (by rw [if_neg Bool.false_ne_true]; exact k)
theorem whT {A B : List Sl → Prop} (h : ∀ Q : Bool → List Sl → Prop, Q true ρ → c ρ Q) (k : A ρ) : c ρ (fun b ρ1 => if b = true then A ρ1 else B ρ1) := h _ (by rw [if_pos rfl]; exact k)
theorem whF {A B : List Sl → Prop} (h : ∀ Q : Bool → List Sl → Prop, Q false ρ → c ρ Q) (k : B ρ) : c ρ (fun b ρ1 => if b = true then A ρ1 else B ρ1) := h _ (by rw [if_neg Bool.false_ne_true]; exact k)
end
theorem d41 : (Str.ofString ")").cps.toList = [41] := c_cl
theorem d40 : (Str.ofString "(").cps.toList = [40] := c_op
theorem d4432 : (Str.ofString ", ").cps.toList = [44, 32] := c_cs
theorem d0 : (Str.ofString "").cps.toList = [] := c_e
theorem cut1 (b : List Nat) : cutL b none (some 1) = b.take 1 := by
  unfold cutL
  rw [HT.sIx_none, show (some (1 : Int)) = some ((1 : Nat) : Int) from rfl, HT.sIx_nat]
  simp
theorem lay_cons (g : Nat) (t : K76.Tok) (r : List (Nat × K76.Tok)) (e : Nat) : (lay ((g, t) :: r) e).length = g + t.tt.length + (lay r e).length := by
  show (gp g ++ (t.tt ++ lay r e)).length = _
  simp [gp_len]
  omega
theorem lay_count : ∀ {l : List (Nat × K76.Tok)} {e : Nat}, okL l e → l.length ≤ (lay l e).length
  | [], e, _ => Nat.zero_le _
  | (g, t) :: r, e, h => by
    rw [lay_cons, List.length_cons]
    have := tt_pos h.1
    have := lay_count h.2.2
    omega
end K76

set_option maxRecDepth 100000
set_option maxHeartbeats 4000000
namespace K76
open PySem PySem.Spec PyProof.Rows L2 TL SkE DL
def iD (ns : List Int) : List D := ns.map .int
theorem iD_get {ns : List Int} {i : Nat} {d : D} (h : (iD ns)[i]? = some d) : ∃ n, d = .int n ∧ ns[i]? = some n := by
  unfold iD at h
  rw [List.getElem?_map] at h
  cases e : ns[i]? with
  | none => rw [e] at h; cases h
  | some n => rw [e] at h; cases h; exact ⟨n, rfl, rfl⟩
theorem iD_drop (ns : List Int) : (iD ns).dropLast = iD ns.dropLast := by unfold iD; rw [List.map_dropLast]
section
variable {P : Program} {w : World} {K : PySem.W.Frag} {mg : Str → Option Value} {base : Heap} {C_Line : Addr}
def S_ltake : DL.Spec := fun args R _ => ∃ (m : Bool) (ns : List Int) (many : Int), args = [.own m (iD ns), .dat (.int many)] ∧ 0 < many ∧ ∀ (v : Int) (ns' : List Int), 0 ≤ v → v < many → R (.d (.int v)) [.own m (iD ns'), .dat (.int many)]
theorem ok_ltake (T : TX K mg C_Line) : FnG P w K mg base "_law_take" 1 ["draws", "many"] S_ltake := by
  obtain ⟨f, fd, F, hm, bn⟩ := T.f__law_take
  refine fnG_of F hm bn sc__law_take (by rintro _ _ _ ⟨_, _, _, rfl, _⟩; rfl) (fun cdv A outer s H E g hr => ⟨_, (dss_cons (ds_if (dt_cmp (o_eq (by exact hr.units)) (de_callB (c_len) rfl T.n_len boot_len (da_cons (dv 0) da_nil)) de_int)
 (dss_one (ds_ret de_int))
 dss_nil)
 (dss_one (ds_ret (de_op o_mod (de_callTy (c_int) rfl T.n_int boot_int (da_cons (de_pop 0) da_nil)) (dv 1))))), ?_⟩) (fun _ _ _ h => h)
  rintro args R ⟨m, ns, many, rfl, hp, q⟩
  simp only [body0, List.length_cons, List.length_nil, List.replicate, Nat.reduceAdd, Nat.reduceSub, List.cons_append, List.nil_append]
  rcases List.eq_nil_or_concat ns with rfl | ⟨ns, n, rfl⟩
  · refine ifT (fun Q hQ => ?_) ?_
    · try simp only [dSeq, dNext, dSet, dVar, dC, dBin, dTest, dCall, dCons, dNil, dAnd, dOr, dNot, dIf, dIfS, dRet, dRetN, dDrop, dBreak, dCont, dAug, fAddA, dTup, dLst, dFrz, dListOf, dNeg, fNeg, dSl, dNoPart, dPart, fSl, dM1, dIsi, dIsi2, dAppend, dPop, dReverse, dSetAt, dAndV, dOrV, dNotV, dB, dFld, dFldSet, dFldAdd, dMeth, dFn, dMake, dAsg, dgName, dgTwo, dgTwoL, dgThree, iSeq, iRange1, iRange2, iRange3, dFor, dLc, dYes, dKs, dKPush, dKTop, dKPop, dKLen, dOut, dFz, frzSl, stkAt, ownAt, obAt, rd1, rdL, rdD, datas, seqv, seqvs, stSl, rvSl, RV.hold, fI, fLen, fInt, fStr, fTuple, fAdd, fMul, fEq, fIn, fIsN, fIx, fJoin, List.getElem?_cons_zero, List.getElem?_cons_succ, List.getElem?_nil, List.set_cons_zero, List.set_cons_succ, List.length_cons, List.length_nil, eq_self_iff_true, true_and, and_true, Option.some.injEq, exists_eq_left']
      exact hQ
    · exact q 0 [] (Int.le_refl _) hp
  · refine ifF (fun Q hQ => ?_) ?_
    · try simp only [dSeq, dNext, dSet, dVar, dC, dBin, dTest, dCall, dCons, dNil, dAnd, dOr, dNot, dIf, dIfS, dRet, dRetN, dDrop, dBreak, dCont, dAug, fAddA, dTup, dLst, dFrz, dListOf, dNeg, fNeg, dSl, dNoPart, dPart, fSl, dM1, dIsi, dIsi2, dAppend, dPop, dReverse, dSetAt, dAndV, dOrV, dNotV, dB, dFld, dFldSet, dFldAdd, dMeth, dFn, dMake, dAsg, dgName, dgTwo, dgTwoL, dgThree, iSeq, iRange1, iRange2, iRange3, dFor, dLc, dYes, dKs, dKPush, dKTop, dKPop, dKLen, dOut, dFz, frzSl, stkAt, ownAt, obAt, rd1, rdL, rdD, datas, seqv, seqvs, stSl, rvSl, RV.hold, fI, fLen, fInt, fStr, fTuple, fAdd, fMul, fEq, fIn, fIsN, fIx, fJoin, List.getElem?_cons_zero, List.getElem?_cons_succ, List.getElem?_nil, List.set_cons_zero, List.set_cons_succ, List.length_cons, List.length_nil, eq_self_iff_true, true_and, and_true, Option.some.injEq, exists_eq_left']
      rw [List.concat_eq_append] at hQ ⊢
      have : decide (((iD (ns ++ [n])).length : Int) = 0) = false := decide_eq_false (by simp [iD]; omega)
      rw [this, Bool.false_xor]
      exact hQ
    · try simp only [dSeq, dNext, dSet, dVar, dC, dBin, dTest, dCall, dCons, dNil, dAnd, dOr, dNot, dIf, dIfS, dRet, dRetN, dDrop, dBreak, dCont, dAug, fAddA, dTup, dLst, dFrz, dListOf, dNeg, fNeg, dSl, dNoPart, dPart, fSl, dM1, dIsi, dIsi2, dAppend, dPop, dReverse, dSetAt, dAndV, dOrV, dNotV, dB, dFld, dFldSet, dFldAdd, dMeth, dFn, dMake, dAsg, dgName, dgTwo, dgTwoL, dgThree, iSeq, iRange1, iRange2, iRange3, dFor, dLc, dYes, dKs, dKPush, dKTop, dKPop, dKLen, dOut, dFz, frzSl, stkAt, ownAt, obAt, rd1, rdL, rdD, datas, seqv, seqvs, stSl, rvSl, RV.hold, fI, fLen, fInt, fStr, fTuple, fAdd, fMul, fEq, fIn, fIsN, fIx, fJoin, List.getElem?_cons_zero, List.getElem?_cons_succ, List.getElem?_nil, List.set_cons_zero, List.set_cons_succ, List.length_cons, List.length_nil, eq_self_iff_true, true_and, and_true, Option.some.injEq, exists_eq_left']
      rw [List.concat_eq_append]
      refine ⟨.int n, by simp [iD], hp, ?_⟩
      rw [iD_drop]
      exact q _ _ (Int.emod_nonneg _ (by omega)) (Int.emod_lt_of_pos _ hp)
def S_lpick : DL.Spec := fun args R _ => ∃ (m : Bool) (ns : List Int) (row : List D), args = [.own m (iD ns), .dat (.lst row)] ∧ row ≠ [] ∧ ∀ d ∈ row, ∀ ns', R (.d d) [.own m (iD ns'), .dat (.lst row)]
theorem ok_lpick (T : TX K mg C_Line) : FnG P w K mg base "_law_pick" 2 ["draws", "row"] S_lpick := by
  obtain ⟨f, fd, F, hm, bn⟩ := T.f__law_pick
  have g__law_take := ok_ltake (P := P) (w := w) (base := base) T
  refine fnG_of F hm bn sc__law_pick (by rintro _ _ _ ⟨_, _, _, rfl, _⟩; rfl) (fun cdv A outer s H E g hr => ⟨_, (dss_one (ds_ret (de_ix (dv 1) (dq_fn g__law_take (hr.mono (by omega)) (da_cons (dv 0) (da_cons (de_callB (c_len) rfl T.n_len boot_len (da_cons (dv 1) da_nil)) da_nil)))))), ?_⟩) (fun _ _ _ h => h)
  rintro args R ⟨m, ns, row, rfl, hp, q⟩
  simp only [body0, List.length_cons, List.length_nil, List.replicate, Nat.reduceAdd, Nat.reduceSub, List.cons_append, List.nil_append]
  try simp only [dSeq, dNext, dSet, dVar, dC, dBin, dTest, dCall, dCons, dNil, dAnd, dOr, dNot, dIf, dIfS, dRet, dRetN, dDrop, dBreak, dCont, dAug, fAddA, dTup, dLst, dFrz, dListOf, dNeg, fNeg, dSl, dNoPart, dPart, fSl, dM1, dIsi, dIsi2, dAppend, dPop, dReverse, dSetAt, dAndV, dOrV, dNotV, dB, dFld, dFldSet, dFldAdd, dMeth, dFn, dMake, dAsg, dgName, dgTwo, dgTwoL, dgThree, iSeq, iRange1, iRange2, iRange3, dFor, dLc, dYes, dKs, dKPush, dKTop, dKPop, dKLen, dOut, dFz, frzSl, stkAt, ownAt, obAt, rd1, rdL, rdD, datas, seqv, seqvs, stSl, rvSl, RV.hold, fI, fLen, fInt, fStr, fTuple, fAdd, fMul, fEq, fIn, fIsN, fIx, fJoin, List.getElem?_cons_zero, List.getElem?_cons_succ, List.getElem?_nil, List.set_cons_zero, List.set_cons_succ, List.length_cons, List.length_nil, eq_self_iff_true, true_and, and_true, Option.some.injEq, exists_eq_left']
  refine ⟨by simp [lent], _, rfl, false, ns, _, rfl, by have := List.length_pos_iff.mpr hp; omega, fun v ns' h0 h1 => ⟨rfl, ⟨⟨rfl, rfl⟩, trivial⟩, ?_⟩⟩
  simp only [wr, Sl.fl, Sl.mn, List.getD_cons_zero, List.getD_cons_succ, List.set_cons_zero, List.set_cons_succ]
  try simp only [dSeq, dNext, dSet, dVar, dC, dBin, dTest, dCall, dCons, dNil, dAnd, dOr, dNot, dIf, dIfS, dRet, dRetN, dDrop, dBreak, dCont, dAug, fAddA, dTup, dLst, dFrz, dListOf, dNeg, fNeg, dSl, dNoPart, dPart, fSl, dM1, dIsi, dIsi2, dAppend, dPop, dReverse, dSetAt, dAndV, dOrV, dNotV, dB, dFld, dFldSet, dFldAdd, dMeth, dFn, dMake, dAsg, dgName, dgTwo, dgTwoL, dgThree, iSeq, iRange1, iRange2, iRange3, dFor, dLc, dYes, dKs, dKPush, dKTop, dKPop, dKLen, dOut, dFz, frzSl, stkAt, ownAt, obAt, rd1, rdL, rdD, datas, seqv, seqvs, stSl, rvSl, RV.hold, fI, fLen, fInt, fStr, fTuple, fAdd, fMul, fEq, fIn, fIsN, fIx, fJoin, List.getElem?_cons_zero, List.getElem?_cons_succ, List.getElem?_nil, List.set_cons_zero, List.set_cons_succ, List.length_cons, List.length_nil, eq_self_iff_true, true_and, and_true, Option.some.injEq, exists_eq_left']
  obtain ⟨k, rfl⟩ := Int.eq_ofNat_of_zero_le h0
  have hk : k < row.length := by omega
  exact ⟨row[k], atI_nat (List.getElem?_eq_getElem hk), q _ (List.getElem_mem hk) ns'⟩
def S_lrun : DL.Spec := fun args R _ => ∃ (s : List Nat) (i : Nat) (cs : List Nat), args = [.dat (.str s), .dat (.int i), .dat (.str cs)] ∧ i ≤ s.length ∧ s.length ≤ 2 ^ 24 ∧ R (.d (.int ((i + run (s.drop i) cs : Nat) : Int))) args
theorem rng_cons (lo : Int) (n : Nat) : rngD lo (n + 1) = .int lo :: rngD (lo + 1) n := by
  unfold rngD
  rw [List.range_succ_eq_map, List.map_cons, List.map_map]
  congr 1
  · simp
  · apply List.map_congr_left
    intro k _
    show D.int _ = D.int _
    congr 1
    simp
    omega
theorem sz24 : (2 : Nat) ^ 24 ≤ sizeLine := by rw [sizeLine_eq]; decide
theorem ok_lrun (T : TX K mg C_Line) : FnG P w K mg base "_law_run" 1 ["text", "place", "signs"] S_lrun := by
  obtain ⟨f, fd, F, hm, bn⟩ := T.f__law_run
  refine fnG_of F hm bn sc__law_run (by rintro _ _ _ ⟨_, _, _, rfl, _⟩; rfl) (fun cdv A outer s H E g hr => ⟨_, (dss_cons (ds_set (i := 3) sc__law_run.nd rfl (by first | exact Or.inl rfl | exact Or.inr rfl) (dv 1))
 (dss_cons (ds_for PassesOwn.never rfl (di_range2 rfl T.n_range (da_cons (dv 1) (da_cons (de_callB (c_len) rfl T.n_len boot_len (da_cons (dv 0) da_nil)) da_nil))) (dg_name (i := 4) sc__law_run.nd rfl (by first | exact Or.inl rfl | exact Or.inr rfl))
 (dss_cons (ds_if (dt_cmp (o_nin) (de_ix (dv 0) (dv 4)) (dv 2))
 (dss_one ds_break)
 dss_nil)
 (dss_one (ds_set (i := 3) sc__law_run.nd rfl (by first | exact Or.inl rfl | exact Or.inr rfl) (de_op o_add (dv 4) de_int)))))
 (dss_one (ds_ret (dv 3))))), ?_⟩) (fun _ _ _ h => h)
  rintro args R ⟨s, i, cs, rfl, hi, hz, q⟩
  have hz2 := Nat.le_trans hz sz24
  simp only [body0, List.length_cons, List.length_nil, List.replicate, Nat.reduceAdd, Nat.reduceSub, List.cons_append, List.nil_append]
  refine seq_key (fun ρ' => ρ' = [.dat (.str s), .dat (.int i), .dat (.str cs), .dat (.int i), .no]) (fun nx hnx => ⟨by simp, hnx _ rfl⟩) ?_
  rintro _ rfl
  refine seq_key (fun ρ' => ∃ x, ρ' = [.dat (.str s), .dat (.int i), .dat (.str cs), .dat (.int ((i + run (s.drop i) cs : Nat) : Int)), x]) (fun nx hnx => ?_) ?_
  · try simp only [dSeq, dNext, dSet, dVar, dC, dBin, dTest, dCall, dCons, dNil, dAnd, dOr, dNot, dIf, dIfS, dRet, dRetN, dDrop, dBreak, dCont, dAug, fAddA, dTup, dLst, dFrz, dListOf, dNeg, fNeg, dSl, dNoPart, dPart, fSl, dM1, dIsi, dIsi2, dAppend, dPop, dReverse, dSetAt, dAndV, dOrV, dNotV, dB, dFld, dFldSet, dFldAdd, dMeth, dFn, dMake, dAsg, dgName, dgTwo, dgTwoL, dgThree, iSeq, iRange1, iRange2, iRange3, dFor, dLc, dYes, dKs, dKPush, dKTop, dKPop, dKLen, dOut, dFz, frzSl, stkAt, ownAt, obAt, rd1, rdL, rdD, datas, seqv, seqvs, stSl, rvSl, RV.hold, fI, fLen, fInt, fStr, fTuple, fAdd, fMul, fEq, fIn, fIsN, fIx, fJoin, List.getElem?_cons_zero, List.getElem?_cons_succ, List.getElem?_nil, List.set_cons_zero, List.set_cons_succ, List.length_cons, List.length_nil, eq_self_iff_true, true_and, and_true, Option.some.injEq, exists_eq_left']
    refine ⟨hz2, ⟨by omega, by omega, by omega, by omega⟩, ?_⟩
    rw [show ((s.length : Int) - (i : Int)).toNat = s.length - i by omega]
    have key : ∀ (n j : Nat) (x : Sl), n = s.length - j → j ≤ s.length → j + run (s.drop j) cs = i + run (s.drop i) cs →
        dForGo (dgName 4) (dSeq (dIfS (dTest (dBin (fIn true) (dBin fIx (dVar 0) (dVar 4)) (dVar 2))) dBreak dNext) (dSet 3 (dBin fAdd (dVar 4) (dC (D.int 1)))))
          { nx := nx, rt := (endsOf 3 R).rt, bk := (endsOf 3 R).bk, ct := (endsOf 3 R).ct } (rngD j n) [.dat (.str s), .dat (.int i), .dat (.str cs), .dat (.int j), x] := by
      intro n
      induction n with
      | zero =>
        intro j x hn hj hr
        have h0 := run_end0 (s := s) (cs := cs) (j := j) (by omega)
        show nx _
        exact hnx _ ⟨x, by rw [← hr, h0, Nat.add_zero]⟩
      | succ n ih =>
        intro j x hn hj hr
        rw [rng_cons]
        have hjl : j < s.length := by omega
        have hg := List.getElem?_eq_getElem hjl
        have hs := run_drop (cs := cs) hg
        refine ⟨by simp, ?_⟩
        try simp only [dSeq, dNext, dSet, dVar, dC, dBin, dTest, dCall, dCons, dNil, dAnd, dOr, dNot, dIf, dIfS, dRet, dRetN, dDrop, dBreak, dCont, dAug, fAddA, dTup, dLst, dFrz, dListOf, dNeg, fNeg, dSl, dNoPart, dPart, fSl, dM1, dIsi, dIsi2, dAppend, dPop, dReverse, dSetAt, dAndV, dOrV, dNotV, dB, dFld, dFldSet, dFldAdd, dMeth, dFn, dMake, dAsg, dgName, dgTwo, dgTwoL, dgThree, iSeq, iRange1, iRange2, iRange3, dFor, dLc, dYes, dKs, dKPush, dKTop, dKPop, dKLen, dOut, dFz, frzSl, stkAt, ownAt, obAt, rd1, rdL, rdD, datas, seqv, seqvs, stSl, rvSl, RV.hold, fI, fLen, fInt, fStr, fTuple, fAdd, fMul, fEq, fIn, fIsN, fIx, fJoin, List.getElem?_cons_zero, List.getElem?_cons_succ, List.getElem?_nil, List.set_cons_zero, List.set_cons_succ, List.length_cons, List.length_nil, eq_self_iff_true, true_and, and_true, Option.some.injEq, exists_eq_left']
        refine ⟨hz2, _, atI_nat hg, ?_⟩
        by_cases hc : s[j] ∈ cs
        · rw [if_pos hc] at hs
          simp only [hc, decide_true, Bool.true_xor, Bool.not_true, Bool.false_eq_true, if_false]
          refine ⟨by decide, ?_⟩
          exact ih (j + 1) _ (by omega) (by omega) (by omega)
        · rw [if_neg hc] at hs
          simp only [hc, decide_false, Bool.true_xor, Bool.not_false, if_true]
          exact hnx _ ⟨_, by rw [← hr, hs, Nat.add_zero]⟩
    exact key _ i _ rfl hi rfl
  · rintro _ ⟨x, rfl⟩
    exact q
end
end K76

set_option maxRecDepth 100000
set_option maxHeartbeats 4000000
namespace K76
open PySem PySem.Spec PyProof.Rows L2 TL SkE DL
mutual
def dep : D → Nat
  | .tup ds => 1 + deps ds
  | _ => 0
def deps : List D → Nat
  | [] => 0
  | d :: ds => Nat.max (dep d) (deps ds)
end
theorem deps_mem : ∀ {ds : List D} {d : D}, d ∈ ds → dep d ≤ deps ds
  | a :: ds, d, h => by
    rcases List.mem_cons.mp h with rfl | h
    · exact Nat.le_max_left _ _
    · exact Nat.le_trans (deps_mem h) (Nat.le_max_right _ _)
/-! ### loops by invariants -/
theorem forGo {t : DG} {body : DS} {ψ : DEnds} (ds : List D) (Inv : Nat → List Sl → Prop)
    (step : ∀ (j : Nat) (d : D) (ρ : List Sl) (K : List Sl → Prop), ds[j]? = some d → Inv j ρ → (∀ ρ', Inv (j + 1) ρ' → K ρ') → t d ρ (fun ρ1 => body { ψ with nx := K, ct := K, bk := ψ.nx } ρ1))
    (hn : ∀ ρ, Inv ds.length ρ → ψ.nx ρ) {ρ : List Sl} (h : Inv 0 ρ) : dForGo t body ψ ds ρ := by
  have key : ∀ (n j : Nat) (ρ : List Sl), n = ds.length - j → j ≤ ds.length → Inv j ρ → dForGo t body ψ (ds.drop j) ρ := by
    intro n
    induction n with
    | zero =>
      intro j ρ e hj hi
      rw [List.drop_eq_nil_of_le (by omega)]
      rw [show j = ds.length by omega] at hi
      exact hn ρ hi
    | succ n ih =>
      intro j ρ e hj hi
      have hjl : j < ds.length := by omega
      rw [List.drop_eq_getElem_cons hjl]
      exact step j _ ρ _ (List.getElem?_eq_getElem hjl) hi fun ρ' hi' => ih (j + 1) ρ' (by omega) (by omega) hi'
  exact key _ 0 ρ rfl (Nat.zero_le _) h
theorem lcGo {vs : List Nat} {t : DG} {te : DE} {own : Option (Nat × List D)} {Q : List D → List Sl → Prop} (ds : List D) (Inv : Nat → List D → List Sl → Prop)
    (step : ∀ (j : Nat) (d : D) (acc : List D) (ρ : List Sl) (K : DQ), ds[j]? = some d → Inv j acc ρ → (∀ y ρ3, soft ρ3 vs → acc.length < sizeLine → Inv (j + 1) (acc ++ [y]) (wipeD ρ3 vs) → K (.d y) ρ3) → guard own ρ ∧ t d ρ fun ρ1 => te ρ1 K)
    (hn : ∀ acc ρ, Inv ds.length acc ρ → Q acc ρ) {ρ : List Sl} (h : Inv 0 [] ρ) : dLcGo vs t dYes te own Q ds [] ρ := by
  have key : ∀ (n j : Nat) (acc : List D) (ρ : List Sl), n = ds.length - j → j ≤ ds.length → Inv j acc ρ → dLcGo vs t dYes te own Q (ds.drop j) acc ρ := by
    intro n
    induction n with
    | zero =>
      intro j acc ρ e hj hi
      rw [List.drop_eq_nil_of_le (by omega)]
      rw [show j = ds.length by omega] at hi
      exact hn acc ρ hi
    | succ n ih =>
      intro j acc ρ e hj hi
      have hjl : j < ds.length := by omega
      rw [List.drop_eq_getElem_cons hjl]
      unfold dLcGo
      refine step j _ acc ρ _ (List.getElem?_eq_getElem hjl) hi fun y ρ3 h1 h2 hi' => ?_
      exact ⟨h1, h2, ih (j + 1) _ _ (by omega) (by omega) hi'⟩
  exact key _ 0 [] ρ rfl (Nat.zero_le _) h
theorem rng_get {lo : Int} {n j : Nat} {d : D} (h : (rngD lo n)[j]? = some d) : d = .int (lo + (j : Int)) ∧ j < n := by
  unfold rngD at h
  rw [List.getElem?_map] at h
  by_cases hj : j < n
  · rw [List.getElem?_range hj] at h
    cases h
    exact ⟨rfl, hj⟩
  · rw [List.getElem?_eq_none (by simpa using hj)] at h
    cases h
theorem rng_len {lo : Int} {n : Nat} : (rngD lo n).length = n := by simp [rngD]
section
variable {P : Program} {w : World} {K : PySem.W.Frag} {mg : Str → Option Value} {base : Heap} {C_Line : Addr}
def S_apart : DL.Spec := fun args R _ => ∃ a b : List Nat, args = [.dat (.str a), .dat (.str b)] ∧ a.length ≤ sizeLine ∧ b.length ≤ sizeLine ∧ ∀ v, R (.d (.bl v)) args
theorem cut_last (a : List Nat) (h : a ≠ []) : cutL a (some (-1)) none ≠ [] ∧ ∃ c, atI a (-1) = some c := by
  rcases List.eq_nil_or_concat a with rfl | ⟨l, x, rfl⟩
  · exact absurd rfl h
  · rw [List.concat_eq_append]
    refine ⟨?_, x, atI_last⟩
    unfold cutL HT.sIx
    simp
    omega
theorem ok_apart (T : TX K mg C_Line) : FnG P w K mg base "_law_are_apart" 1 ["token", "other"] S_apart := by
  obtain ⟨f, fd, F, hm, bn⟩ := T.f__law_are_apart
  refine fnG_of F hm bn sc__law_are_apart (by rintro _ _ _ ⟨_, _, rfl, _⟩; rfl) (fun cdv A outer s H E g hr => ⟨_, (dss_cons (ds_set (i := 2) sc__law_are_apart.nd rfl (by first | exact Or.inl rfl | exact Or.inr rfl) de_str)
 (dss_cons (ds_set (i := 3) sc__law_are_apart.nd rfl (by first | exact Or.inl rfl | exact Or.inr rfl) de_str)
 (dss_cons (ds_if (dt_w (dw_or (dt_cmp (o_eq (by exact hr.units)) (de_sl (dv 0) (do_some (de_neg de_int)) do_none) de_str) (dw_or1 (dt_cmp (o_eq (by exact hr.units)) (de_sl (dv 1) do_none (do_some de_int)) de_str))))
 (dss_one (ds_ret de_bl))
 dss_nil)
 (dss_one (ds_ret (de_or (de_and (de_cmp (o_in) (de_ix (dv 0) (de_neg de_int)) (dv 2)) (de_one (de_cmp (o_in) (de_ix (dv 1) de_int) (dv 2)))) (de_one (de_and (de_cmp (o_in) (de_ix (dv 0) (de_neg de_int)) (dv 3)) (de_one (de_cmp (o_in) (de_ix (dv 1) de_int) (dv 3))))))))))), ?_⟩) (fun _ _ _ h => h)
  rintro args R ⟨a, b, rfl, ha, hb, q⟩
  simp only [body0, List.length_cons, List.length_nil, List.replicate, Nat.reduceAdd, Nat.reduceSub, List.cons_append, List.nil_append]
  refine seq_key (fun ρ' => ρ' = [.dat (.str a), .dat (.str b), .dat (.str LET), .no]) (fun nx hnx => ⟨by simp, hnx _ rfl⟩) ?_
  rintro _ rfl
  refine seq_key (fun ρ' => ρ' = [.dat (.str a), .dat (.str b), .dat (.str LET), .dat (.str DIG)]) (fun nx hnx => ⟨by simp, hnx _ rfl⟩) ?_
  rintro _ rfl
  cases a with
  | nil =>
    refine ifT (fun Q hQ => ?_) ?_
    · try simp only [dSeq, dNext, dSet, dVar, dC, dBin, dTest, dCall, dCons, dNil, dAnd, dOr, dNot, dIf, dIfS, dRet, dRetN, dDrop, dBreak, dCont, dAug, fAddA, dTup, dLst, dFrz, dListOf, dNeg, fNeg, dSl, dNoPart, dPart, fSl, dM1, dIsi, dIsi2, dAppend, dPop, dReverse, dSetAt, dAndV, dOrV, dNotV, dB, dFld, dFldSet, dFldAdd, dMeth, dFn, dMake, dAsg, dgName, dgTwo, dgTwoL, dgThree, iSeq, iRange1, iRange2, iRange3, dFor, dLc, dYes, dKs, dKPush, dKTop, dKPop, dKLen, dOut, dFz, frzSl, stkAt, ownAt, obAt, rd1, rdL, rdD, datas, seqv, seqvs, stSl, rvSl, RV.hold, fI, fLen, fInt, fStr, fTuple, fAdd, fMul, fEq, fIn, fIsN, fIx, fJoin, List.getElem?_cons_zero, List.getElem?_cons_succ, List.getElem?_nil, List.set_cons_zero, List.set_cons_succ, List.length_cons, List.length_nil, eq_self_iff_true, true_and, and_true, Option.some.injEq, exists_eq_left']
      refine ⟨ha, ?_⟩
      rw [d0]
      exact hQ
    · exact q false
  | cons a0 as =>
    obtain ⟨h1, c, h2⟩ := cut_last (a0 :: as) (by simp)
    cases b with
    | nil =>
      refine ifT (fun Q hQ => ?_) ?_
      · try simp only [dSeq, dNext, dSet, dVar, dC, dBin, dTest, dCall, dCons, dNil, dAnd, dOr, dNot, dIf, dIfS, dRet, dRetN, dDrop, dBreak, dCont, dAug, fAddA, dTup, dLst, dFrz, dListOf, dNeg, fNeg, dSl, dNoPart, dPart, fSl, dM1, dIsi, dIsi2, dAppend, dPop, dReverse, dSetAt, dAndV, dOrV, dNotV, dB, dFld, dFldSet, dFldAdd, dMeth, dFn, dMake, dAsg, dgName, dgTwo, dgTwoL, dgThree, iSeq, iRange1, iRange2, iRange3, dFor, dLc, dYes, dKs, dKPush, dKTop, dKPop, dKLen, dOut, dFz, frzSl, stkAt, ownAt, obAt, rd1, rdL, rdD, datas, seqv, seqvs, stSl, rvSl, RV.hold, fI, fLen, fInt, fStr, fTuple, fAdd, fMul, fEq, fIn, fIsN, fIx, fJoin, List.getElem?_cons_zero, List.getElem?_cons_succ, List.getElem?_nil, List.set_cons_zero, List.set_cons_succ, List.length_cons, List.length_nil, eq_self_iff_true, true_and, and_true, Option.some.injEq, exists_eq_left']
        refine ⟨ha, ?_⟩
        rw [d0]
        have : decide (cutL (a0 :: as) (some (-1)) none = []) = false := decide_eq_false h1
        rw [this]
        exact ⟨hb, hQ⟩
      · exact q false
    | cons b0 bs =>
      refine ifF (fun Q hQ => ?_) ?_
      · try simp only [dSeq, dNext, dSet, dVar, dC, dBin, dTest, dCall, dCons, dNil, dAnd, dOr, dNot, dIf, dIfS, dRet, dRetN, dDrop, dBreak, dCont, dAug, fAddA, dTup, dLst, dFrz, dListOf, dNeg, fNeg, dSl, dNoPart, dPart, fSl, dM1, dIsi, dIsi2, dAppend, dPop, dReverse, dSetAt, dAndV, dOrV, dNotV, dB, dFld, dFldSet, dFldAdd, dMeth, dFn, dMake, dAsg, dgName, dgTwo, dgTwoL, dgThree, iSeq, iRange1, iRange2, iRange3, dFor, dLc, dYes, dKs, dKPush, dKTop, dKPop, dKLen, dOut, dFz, frzSl, stkAt, ownAt, obAt, rd1, rdL, rdD, datas, seqv, seqvs, stSl, rvSl, RV.hold, fI, fLen, fInt, fStr, fTuple, fAdd, fMul, fEq, fIn, fIsN, fIx, fJoin, List.getElem?_cons_zero, List.getElem?_cons_succ, List.getElem?_nil, List.set_cons_zero, List.set_cons_succ, List.length_cons, List.length_nil, eq_self_iff_true, true_and, and_true, Option.some.injEq, exists_eq_left']
        refine ⟨ha, ?_⟩
        rw [d0]
        have : decide (cutL (a0 :: as) (some (-1)) none = []) = false := decide_eq_false h1
        rw [this]
        refine ⟨hb, ?_⟩
        rw [cut1]
        exact hQ
      · have hb0 : atI (b0 :: bs) 0 = some b0 := atI_nat (j := 0) rfl
        have ha' : as.length + 1 ≤ sizeLine := ha
        have hb' : bs.length + 1 ≤ sizeLine := hb
        try simp only [dSeq, dNext, dSet, dVar, dC, dBin, dTest, dCall, dCons, dNil, dAnd, dOr, dNot, dIf, dIfS, dRet, dRetN, dDrop, dBreak, dCont, dAug, fAddA, dTup, dLst, dFrz, dListOf, dNeg, fNeg, dSl, dNoPart, dPart, fSl, dM1, dIsi, dIsi2, dAppend, dPop, dReverse, dSetAt, dAndV, dOrV, dNotV, dB, dFld, dFldSet, dFldAdd, dMeth, dFn, dMake, dAsg, dgName, dgTwo, dgTwoL, dgThree, iSeq, iRange1, iRange2, iRange3, dFor, dLc, dYes, dKs, dKPush, dKTop, dKPop, dKLen, dOut, dFz, frzSl, stkAt, ownAt, obAt, rd1, rdL, rdD, datas, seqv, seqvs, stSl, rvSl, RV.hold, fI, fLen, fInt, fStr, fTuple, fAdd, fMul, fEq, fIn, fIsN, fIx, fJoin, List.getElem?_cons_zero, List.getElem?_cons_succ, List.getElem?_nil, List.set_cons_zero, List.set_cons_succ, List.length_cons, List.length_nil, eq_self_iff_true, true_and, and_true, Option.some.injEq, exists_eq_left']
        simp only [ha', hb', h2, hb0, true_and, Option.some.injEq, exists_eq_left', exists_eq_left]
        repeat' split
        all_goals first | exact q _ | skip
theorem gp_add (a b : Nat) : gp a ++ gp b = gp (a + b) := by unfold gp; rw [List.replicate_append_replicate]
/-- gaps and tokens so far -/
def layP : List (Nat × K76.Tok) → List Nat
  | [] => []
  | (g, t) :: r => gp g ++ (t.tt ++ layP r)
theorem lay_P : ∀ (l : List (Nat × K76.Tok)) (e : Nat), lay l e = layP l ++ gp e
  | [], e => rfl
  | (g, t) :: r, e => by
    show gp g ++ (t.tt ++ lay r e) = (gp g ++ (t.tt ++ layP r)) ++ gp e
    rw [lay_P r e]
    simp
theorem layP_app : ∀ (a b : List (Nat × K76.Tok)), layP (a ++ b) = layP a ++ layP b
  | [], b => rfl
  | (g, t) :: r, b => by
    show gp g ++ (t.tt ++ layP (r ++ b)) = (gp g ++ (t.tt ++ layP r)) ++ layP b
    rw [layP_app r b]
    simp
def tsz (ts : List K76.Tok) : Nat := (ts.map fun t => t.tt.length + 6).sum
theorem tsz_len (ts : List K76.Tok) : ts.length ≤ tsz ts := by
  unfold tsz
  induction ts with
  | nil => simp
  | cons t ts ih => simp only [List.length_cons, List.map_cons, List.sum_cons]; omega
theorem tsz_mem {ts : List K76.Tok} {t : K76.Tok} (h : t ∈ ts) : t.tt.length + 6 ≤ tsz ts := mem_sum (List.mem_map.mpr ⟨t, h, rfl⟩)
theorem tsz_app (a : List K76.Tok) (t : K76.Tok) (c : List K76.Tok) : tsz (a ++ t :: c) = tsz a + (t.tt.length + 6 + tsz c) := by simp [tsz]
theorem tsz_take {ts : List K76.Tok} {j : Nat} (h : j < ts.length) : tsz (ts.take j) + (ts[j].tt.length + 6) ≤ tsz ts := by
  have e : ts = ts.take j ++ ts[j] :: ts.drop (j + 1) := by rw [← List.drop_eq_getElem_cons h, List.take_append_drop]
  have : tsz ts = tsz (ts.take j) + (ts[j].tt.length + 6 + tsz (ts.drop (j + 1))) := by
    have h2 := tsz_app (ts.take j) ts[j] (ts.drop (j + 1))
    rw [← e] at h2
    exact h2
  omega
theorem layP_len {l : List (Nat × K76.Tok)} (h : ∀ p ∈ l, p.1 ≤ 4) : (layP l).length + 2 * l.length ≤ tsz (l.map (·.2)) := by
  induction l with
  | nil => exact Nat.le_refl _
  | cons p l ih =>
    obtain ⟨g, t⟩ := p
    have h1 := h (g, t) List.mem_cons_self
    have := ih fun p hp => h p (List.mem_cons_of_mem _ hp)
    show (gp g ++ (t.tt ++ layP l)).length + _ ≤ _
    simp only [List.length_append, gp_len, tsz, List.map_cons, List.sum_cons, List.length_cons] at this h1 ⊢
    omega
theorem spc3 {d : D} (h : d ∈ [D.str (Str.ofString "").cps.toList, D.str (Str.ofString "").cps.toList, D.str (Str.ofString "  ").cps.toList]) : ∃ g, d = .str (gp g) ∧ g ≤ 2 := by
  rw [show (Str.ofString "").cps.toList = gp 0 from c_e, show (Str.ofString "  ").cps.toList = gp 2 by decide +kernel] at h
  simp only [List.mem_cons, List.not_mem_nil, or_false] at h
  rcases h with rfl | rfl | rfl
  · exact ⟨0, rfl, by omega⟩
  · exact ⟨0, rfl, by omega⟩
  · exact ⟨2, rfl, by omega⟩
theorem spc4 {d : D} (h : d ∈ [D.str (Str.ofString "").cps.toList, D.str (Str.ofString " ").cps.toList, D.str (Str.ofString " ").cps.toList, D.str (Str.ofString "   ").cps.toList]) : ∃ g, d = .str (gp g) ∧ g ≤ 3 := by
  rw [show (Str.ofString "").cps.toList = gp 0 from c_e, show (Str.ofString " ").cps.toList = gp 1 from c_sp, show (Str.ofString "   ").cps.toList = gp 3 by decide +kernel] at h
  simp only [List.mem_cons, List.not_mem_nil, or_false] at h
  rcases h with rfl | rfl | rfl | rfl
  · exact ⟨0, rfl, by omega⟩
  · exact ⟨1, rfl, by omega⟩
  · exact ⟨1, rfl, by omega⟩
  · exact ⟨3, rfl, by omega⟩
theorem spc1 {d : D} (h : d ∈ [D.str (Str.ofString "").cps.toList, D.str (Str.ofString "").cps.toList, D.str (Str.ofString " ").cps.toList]) : ∃ g, d = .str (gp g) ∧ g ≤ 1 := by
  rw [show (Str.ofString "").cps.toList = gp 0 from c_e, show (Str.ofString " ").cps.toList = gp 1 from c_sp] at h
  simp only [List.mem_cons, List.not_mem_nil, or_false] at h
  rcases h with rfl | rfl | rfl
  · exact ⟨0, rfl, by omega⟩
  · exact ⟨0, rfl, by omega⟩
  · exact ⟨1, rfl, by omega⟩
def S_spread : DL.Spec := fun args R _ => ∃ (m : Bool) (ns : List Int) (ts : List K76.Tok), args = [.own m (iD ns), .dat (.lst (ts.map fun t => .str t.tt))] ∧ tsz ts ≤ 2 ^ 23 ∧ ts ≠ [] ∧
  ∀ (l : List (Nat × K76.Tok)) (e : Nat) (ns' : List Int), l.map (·.2) = ts → (lay l e).length ≤ tsz ts + 2 → R (.d (.str (lay l e))) [.own m (iD ns'), .dat (.lst (ts.map fun t => .str t.tt))]
theorem ok_spread (T : TX K mg C_Line) : FnG P w K mg base "_law_spread" 3 ["draws", "tokens"] S_spread := by
  obtain ⟨f, fd, F, hm, bn⟩ := T.f__law_spread
  have g__law_pick := ok_lpick (P := P) (w := w) (base := base) T
  have g__law_are_apart := ok_apart (P := P) (w := w) (base := base) T
  refine fnG_of F hm bn sc__law_spread (by rintro _ _ _ ⟨_, _, _, rfl, _⟩; rfl) (fun cdv A outer s H E g hr => ⟨_, (dss_cons (ds_set (i := 2) sc__law_spread.nd rfl (by first | exact Or.inl rfl | exact Or.inr rfl) (dq_fn g__law_pick (hr.mono (by omega)) (da_cons (dv 0) (da_cons (de_frz (de_lst (da_cons de_str (da_cons de_str (da_cons de_str da_nil))))) da_nil))))
 (dss_cons (ds_for PassesOwn.never rfl (di_range1 rfl T.n_range (da_cons (de_callB (c_len) rfl T.n_len boot_len (da_cons (dv 1) da_nil)) da_nil)) (dg_name (i := 3) sc__law_spread.nd rfl (by first | exact Or.inl rfl | exact Or.inr rfl))
 (dss_cons (ds_if (dt_cmp (o_gt) (dv 3) de_int)
 (dss_one (ds_set (i := 2) sc__law_spread.nd rfl (by first | exact Or.inl rfl | exact Or.inr rfl) (de_op o_add (de_op o_add (dv 2) (dq_fn g__law_pick (hr.mono (by omega)) (da_cons (dv 0) (da_cons (de_frz (de_lst (da_cons de_str (da_cons de_str (da_cons de_str (da_cons de_str da_nil)))))) da_nil)))) (de_op o_mul de_str (de_callTy (c_int) rfl T.n_int boot_int (da_cons (dq_fn g__law_are_apart (hr.mono (by omega)) (da_cons (de_ix (dv 1) (de_op o_sub (dv 3) de_int)) (da_cons (de_ix (dv 1) (dv 3)) da_nil))) da_nil))))))
 dss_nil)
 (dss_one (ds_set (i := 2) sc__law_spread.nd rfl (by first | exact Or.inl rfl | exact Or.inr rfl) (de_op o_add (dv 2) (de_ix (dv 1) (dv 3)))))))
 (dss_one (ds_ret (de_op o_add (dv 2) (dq_fn g__law_pick (hr.mono (by omega)) (da_cons (dv 0) (da_cons (de_frz (de_lst (da_cons de_str (da_cons de_str (da_cons de_str da_nil))))) da_nil)))))))), ?_⟩) (fun _ _ _ h => h)
  rintro args R ⟨m, ns, ts, rfl, hz, hne, q⟩
  have h24 := sz24
  simp only [body0, List.length_cons, List.length_nil, List.replicate, Nat.reduceAdd, Nat.reduceSub, List.cons_append, List.nil_append]
  refine seq_key (fun ρ' => ∃ g ns', ρ' = [.own m (iD ns'), .dat (.lst (ts.map fun t => .str t.tt)), .dat (.str (gp g)), .no] ∧ g ≤ 2) (fun nx hnx => ?_) ?_
  · try simp only [dSeq, dNext, dSet, dVar, dC, dBin, dTest, dCall, dCons, dNil, dAnd, dOr, dNot, dIf, dIfS, dRet, dRetN, dDrop, dBreak, dCont, dAug, fAddA, dTup, dLst, dFrz, dListOf, dNeg, fNeg, dSl, dNoPart, dPart, fSl, dM1, dIsi, dIsi2, dAppend, dPop, dReverse, dSetAt, dAndV, dOrV, dNotV, dB, dFld, dFldSet, dFldAdd, dMeth, dFn, dMake, dAsg, dgName, dgTwo, dgTwoL, dgThree, iSeq, iRange1, iRange2, iRange3, dFor, dLc, dYes, dKs, dKPush, dKTop, dKPop, dKLen, dOut, dFz, frzSl, stkAt, ownAt, obAt, rd1, rdL, rdD, datas, seqv, seqvs, stSl, rvSl, RV.hold, fI, fLen, fInt, fStr, fTuple, fAdd, fMul, fEq, fIn, fIsN, fIx, fJoin, List.getElem?_cons_zero, List.getElem?_cons_succ, List.getElem?_nil, List.set_cons_zero, List.set_cons_succ, List.length_cons, List.length_nil, eq_self_iff_true, true_and, and_true, Option.some.injEq, exists_eq_left']
    refine ⟨by omega, by simp [lent], _, rfl, false, ns, _, rfl, by simp, fun d hd ns' => ⟨rfl, ⟨⟨rfl, rfl⟩, trivial⟩, ?_⟩⟩
    obtain ⟨g, rfl, hg⟩ := spc3 hd
    simp only [wr, Sl.fl, Sl.mn, List.getD_cons_zero, List.getD_cons_succ, List.set_cons_zero, List.set_cons_succ]
    try simp only [dSeq, dNext, dSet, dVar, dC, dBin, dTest, dCall, dCons, dNil, dAnd, dOr, dNot, dIf, dIfS, dRet, dRetN, dDrop, dBreak, dCont, dAug, fAddA, dTup, dLst, dFrz, dListOf, dNeg, fNeg, dSl, dNoPart, dPart, fSl, dM1, dIsi, dIsi2, dAppend, dPop, dReverse, dSetAt, dAndV, dOrV, dNotV, dB, dFld, dFldSet, dFldAdd, dMeth, dFn, dMake, dAsg, dgName, dgTwo, dgTwoL, dgThree, iSeq, iRange1, iRange2, iRange3, dFor, dLc, dYes, dKs, dKPush, dKTop, dKPop, dKLen, dOut, dFz, frzSl, stkAt, ownAt, obAt, rd1, rdL, rdD, datas, seqv, seqvs, stSl, rvSl, RV.hold, fI, fLen, fInt, fStr, fTuple, fAdd, fMul, fEq, fIn, fIsN, fIx, fJoin, List.getElem?_cons_zero, List.getElem?_cons_succ, List.getElem?_nil, List.set_cons_zero, List.set_cons_succ, List.length_cons, List.length_nil, eq_self_iff_true, true_and, and_true, Option.some.injEq, exists_eq_left']
    exact ⟨by decide, hnx _ ⟨g, ns', rfl, hg⟩⟩
  rintro _ ⟨g0, ns1, rfl, hg0⟩
  have hlen : ts.length ≤ tsz ts := tsz_len ts
  refine seq_key (fun ρ' => ∃ l ns' x, ρ' = [.own m (iD ns'), .dat (.lst (ts.map fun t => .str t.tt)), .dat (.str (layP l)), x] ∧ l.map (·.2) = ts ∧ (∀ p ∈ l, p.1 ≤ 4)) (fun nx hnx => ?_) ?_
  · refine ⟨rfl, rfl, ⟨by omega, by simp; omega⟩, rfl, ?_⟩
    rw [show (((ts.map fun t => D.str t.tt).length : Nat) : Int).toNat = ts.length by simp]
    refine forGo (rngD 0 ts.length) (fun j ρ => ∃ (l : List (Nat × K76.Tok)) (ns' : List Int) (tx : List Nat) (x : Sl), ρ = [.own m (iD ns'), .dat (.lst (ts.map fun t => .str t.tt)), .dat (.str tx), x] ∧ l.map (·.2) = ts.take j ∧ (∀ p ∈ l, p.1 ≤ 4) ∧ ((j = 0 ∧ tx = gp g0) ∨ (0 < j ∧ tx = layP l)))
      (fun j d ρ Kk hd ⟨l, ns', tx, x, e, hl, hg, ht⟩ hK => ?step) (fun ρ ⟨l, ns', tx, x, e, hl, hg, ht⟩ => ?fin) ⟨[], ns1, _, _, rfl, rfl, by simp, .inl ⟨rfl, rfl⟩⟩
    case step =>
      obtain ⟨rfl, hj⟩ := rng_get hd
      subst e
      rw [Int.zero_add]
      have hgt := List.getElem?_eq_getElem hj
      have hgs : (ts.map fun t => D.str t.tt)[j]? = some (.str ts[j].tt) := by rw [List.getElem?_map, hgt]; rfl
      have hL := layP_len hg
      rw [hl] at hL
      have htk : tsz (ts.take j) + (ts[j].tt.length + 6) ≤ tsz ts := tsz_take hj
      have fin : ∀ (ns2 : List Int) (tx2 : List Nat) (l2 : List (Nat × K76.Tok)), tx2 ++ ts[j].tt = layP l2 → l2.map (·.2) = ts.take (j + 1) → (∀ p ∈ l2, p.1 ≤ 4) → tx2.length ≤ 2 ^ 23 →
          dSet 2 (dBin fAdd (dVar 2) (dBin fIx (dVar 1) (dVar 3))) { nx := Kk, rt := (endsOf 2 R).rt, bk := nx, ct := Kk } [.own m (iD ns2), .dat (.lst (ts.map fun t => .str t.tt)), .dat (.str tx2), .dat (.int (j : Nat))] := fun ns2 tx2 l2 h1 h2 h3 h4 => by
        try simp only [dSeq, dNext, dSet, dVar, dC, dBin, dTest, dCall, dCons, dNil, dAnd, dOr, dNot, dIf, dIfS, dRet, dRetN, dDrop, dBreak, dCont, dAug, fAddA, dTup, dLst, dFrz, dListOf, dNeg, fNeg, dSl, dNoPart, dPart, fSl, dM1, dIsi, dIsi2, dAppend, dPop, dReverse, dSetAt, dAndV, dOrV, dNotV, dB, dFld, dFldSet, dFldAdd, dMeth, dFn, dMake, dAsg, dgName, dgTwo, dgTwoL, dgThree, iSeq, iRange1, iRange2, iRange3, dFor, dLc, dYes, dKs, dKPush, dKTop, dKPop, dKLen, dOut, dFz, frzSl, stkAt, ownAt, obAt, rd1, rdL, rdD, datas, seqv, seqvs, stSl, rvSl, RV.hold, fI, fLen, fInt, fStr, fTuple, fAdd, fMul, fEq, fIn, fIsN, fIx, fJoin, List.getElem?_cons_zero, List.getElem?_cons_succ, List.getElem?_nil, List.set_cons_zero, List.set_cons_succ, List.length_cons, List.length_nil, eq_self_iff_true, true_and, and_true, Option.some.injEq, exists_eq_left']
        refine ⟨_, atI_nat hgs, ?_⟩
        refine ⟨by omega, by decide, ?_⟩
        exact hK _ ⟨l2, ns2, _, _, rfl, h2, h3, .inr ⟨by omega, h1⟩⟩
      refine ⟨by simp, ?_⟩
      rcases ht with ⟨rfl, rfl⟩ | ⟨hj0, rfl⟩
      · refine seq_key (fun ρ' => ρ' = [.own m (iD ns'), .dat (.lst (ts.map fun t => .str t.tt)), .dat (.str (gp g0)), .dat (.int ((0 : Nat) : Int))]) (fun nx hnx => ?_) ?_
        · refine ifF (fun Q hQ => ?_) (hnx _ rfl)
          try simp only [dSeq, dNext, dSet, dVar, dC, dBin, dTest, dCall, dCons, dNil, dAnd, dOr, dNot, dIf, dIfS, dRet, dRetN, dDrop, dBreak, dCont, dAug, fAddA, dTup, dLst, dFrz, dListOf, dNeg, fNeg, dSl, dNoPart, dPart, fSl, dM1, dIsi, dIsi2, dAppend, dPop, dReverse, dSetAt, dAndV, dOrV, dNotV, dB, dFld, dFldSet, dFldAdd, dMeth, dFn, dMake, dAsg, dgName, dgTwo, dgTwoL, dgThree, iSeq, iRange1, iRange2, iRange3, dFor, dLc, dYes, dKs, dKPush, dKTop, dKPop, dKLen, dOut, dFz, frzSl, stkAt, ownAt, obAt, rd1, rdL, rdD, datas, seqv, seqvs, stSl, rvSl, RV.hold, fI, fLen, fInt, fStr, fTuple, fAdd, fMul, fEq, fIn, fIsN, fIx, fJoin, List.getElem?_cons_zero, List.getElem?_cons_succ, List.getElem?_nil, List.set_cons_zero, List.set_cons_succ, List.length_cons, List.length_nil, eq_self_iff_true, true_and, and_true, Option.some.injEq, exists_eq_left']
          exact hQ
        · rintro _ rfl
          refine fin ns' _ [(g0, ts[0])] (by simp [layP]) ?_ (by simp; omega) (by rw [gp_len]; omega)
          rw [List.take_add_one, hgt]
          rfl
      · refine seq_key (fun ρ' => ∃ g ns2, ρ' = [.own m (iD ns2), .dat (.lst (ts.map fun t => .str t.tt)), .dat (.str (layP l ++ gp g)), .dat (.int (j : Nat))] ∧ g ≤ 4) (fun nx hnx => ?_) ?_
        · refine ifT (fun Q hQ => ?_) ?_
          · try simp only [dSeq, dNext, dSet, dVar, dC, dBin, dTest, dCall, dCons, dNil, dAnd, dOr, dNot, dIf, dIfS, dRet, dRetN, dDrop, dBreak, dCont, dAug, fAddA, dTup, dLst, dFrz, dListOf, dNeg, fNeg, dSl, dNoPart, dPart, fSl, dM1, dIsi, dIsi2, dAppend, dPop, dReverse, dSetAt, dAndV, dOrV, dNotV, dB, dFld, dFldSet, dFldAdd, dMeth, dFn, dMake, dAsg, dgName, dgTwo, dgTwoL, dgThree, iSeq, iRange1, iRange2, iRange3, dFor, dLc, dYes, dKs, dKPush, dKTop, dKPop, dKLen, dOut, dFz, frzSl, stkAt, ownAt, obAt, rd1, rdL, rdD, datas, seqv, seqvs, stSl, rvSl, RV.hold, fI, fLen, fInt, fStr, fTuple, fAdd, fMul, fEq, fIn, fIsN, fIx, fJoin, List.getElem?_cons_zero, List.getElem?_cons_succ, List.getElem?_nil, List.set_cons_zero, List.set_cons_succ, List.length_cons, List.length_nil, eq_self_iff_true, true_and, and_true, Option.some.injEq, exists_eq_left']
            rw [decide_eq_true (by omega)]
            exact hQ
          · have hj1 : j - 1 < ts.length := by omega
            have hgs1 : (ts.map fun t => D.str t.tt)[j - 1]? = some (.str ts[j - 1].tt) := by rw [List.getElem?_map, List.getElem?_eq_getElem hj1]; rfl
            have b1 := tsz_mem (List.getElem_mem hj1)
            have b2 := tsz_mem (List.getElem_mem hj)
            try simp only [dSeq, dNext, dSet, dVar, dC, dBin, dTest, dCall, dCons, dNil, dAnd, dOr, dNot, dIf, dIfS, dRet, dRetN, dDrop, dBreak, dCont, dAug, fAddA, dTup, dLst, dFrz, dListOf, dNeg, fNeg, dSl, dNoPart, dPart, fSl, dM1, dIsi, dIsi2, dAppend, dPop, dReverse, dSetAt, dAndV, dOrV, dNotV, dB, dFld, dFldSet, dFldAdd, dMeth, dFn, dMake, dAsg, dgName, dgTwo, dgTwoL, dgThree, iSeq, iRange1, iRange2, iRange3, dFor, dLc, dYes, dKs, dKPush, dKTop, dKPop, dKLen, dOut, dFz, frzSl, stkAt, ownAt, obAt, rd1, rdL, rdD, datas, seqv, seqvs, stSl, rvSl, RV.hold, fI, fLen, fInt, fStr, fTuple, fAdd, fMul, fEq, fIn, fIsN, fIx, fJoin, List.getElem?_cons_zero, List.getElem?_cons_succ, List.getElem?_nil, List.set_cons_zero, List.set_cons_succ, List.length_cons, List.length_nil, eq_self_iff_true, true_and, and_true, Option.some.injEq, exists_eq_left']
            refine ⟨by omega, by simp [lent], _, rfl, false, ns', _, rfl, by simp, fun d hd ns2 => ⟨rfl, ⟨⟨rfl, rfl⟩, trivial⟩, ?_⟩⟩
            obtain ⟨g, rfl, hg2⟩ := spc4 hd
            simp only [wr, Sl.fl, Sl.mn, List.getD_cons_zero, List.getD_cons_succ, List.set_cons_zero, List.set_cons_succ]
            try simp only [dSeq, dNext, dSet, dVar, dC, dBin, dTest, dCall, dCons, dNil, dAnd, dOr, dNot, dIf, dIfS, dRet, dRetN, dDrop, dBreak, dCont, dAug, fAddA, dTup, dLst, dFrz, dListOf, dNeg, fNeg, dSl, dNoPart, dPart, fSl, dM1, dIsi, dIsi2, dAppend, dPop, dReverse, dSetAt, dAndV, dOrV, dNotV, dB, dFld, dFldSet, dFldAdd, dMeth, dFn, dMake, dAsg, dgName, dgTwo, dgTwoL, dgThree, iSeq, iRange1, iRange2, iRange3, dFor, dLc, dYes, dKs, dKPush, dKTop, dKPop, dKLen, dOut, dFz, frzSl, stkAt, ownAt, obAt, rd1, rdL, rdD, datas, seqv, seqvs, stSl, rvSl, RV.hold, fI, fLen, fInt, fStr, fTuple, fAdd, fMul, fEq, fIn, fIsN, fIx, fJoin, List.getElem?_cons_zero, List.getElem?_cons_succ, List.getElem?_nil, List.set_cons_zero, List.set_cons_succ, List.length_cons, List.length_nil, eq_self_iff_true, true_and, and_true, Option.some.injEq, exists_eq_left']
            refine ⟨by rw [gp_len]; omega, .str ts[j - 1].tt, ?_, ?_⟩
            · rw [show (j : Int) - 1 = ((j - 1 : Nat) : Int) by omega]
              exact atI_nat hgs1
            refine ⟨.str ts[j].tt, atI_nat hgs, by simp [lent], _, rfl, _, _, rfl, by omega, by omega, fun v => ⟨rfl, trivial, ?_⟩⟩
            simp only [wr, Sl.fl, Sl.mn, List.getD_cons_zero, List.getD_cons_succ, List.set_cons_zero, List.set_cons_succ]
            try simp only [dSeq, dNext, dSet, dVar, dC, dBin, dTest, dCall, dCons, dNil, dAnd, dOr, dNot, dIf, dIfS, dRet, dRetN, dDrop, dBreak, dCont, dAug, fAddA, dTup, dLst, dFrz, dListOf, dNeg, fNeg, dSl, dNoPart, dPart, fSl, dM1, dIsi, dIsi2, dAppend, dPop, dReverse, dSetAt, dAndV, dOrV, dNotV, dB, dFld, dFldSet, dFldAdd, dMeth, dFn, dMake, dAsg, dgName, dgTwo, dgTwoL, dgThree, iSeq, iRange1, iRange2, iRange3, dFor, dLc, dYes, dKs, dKPush, dKTop, dKPop, dKLen, dOut, dFz, frzSl, stkAt, ownAt, obAt, rd1, rdL, rdD, datas, seqv, seqvs, stSl, rvSl, RV.hold, fI, fLen, fInt, fStr, fTuple, fAdd, fMul, fEq, fIn, fIsN, fIx, fJoin, List.getElem?_cons_zero, List.getElem?_cons_succ, List.getElem?_nil, List.set_cons_zero, List.set_cons_succ, List.length_cons, List.length_nil, eq_self_iff_true, true_and, and_true, Option.some.injEq, exists_eq_left']
            rw [show (Str.ofString " ").cps.toList = gp 1 from c_sp]
            cases v with
            | true =>
              refine ⟨⟨by decide, by decide, by decide⟩, ?_⟩
              try simp only [dSeq, dNext, dSet, dVar, dC, dBin, dTest, dCall, dCons, dNil, dAnd, dOr, dNot, dIf, dIfS, dRet, dRetN, dDrop, dBreak, dCont, dAug, fAddA, dTup, dLst, dFrz, dListOf, dNeg, fNeg, dSl, dNoPart, dPart, fSl, dM1, dIsi, dIsi2, dAppend, dPop, dReverse, dSetAt, dAndV, dOrV, dNotV, dB, dFld, dFldSet, dFldAdd, dMeth, dFn, dMake, dAsg, dgName, dgTwo, dgTwoL, dgThree, iSeq, iRange1, iRange2, iRange3, dFor, dLc, dYes, dKs, dKPush, dKTop, dKPop, dKLen, dOut, dFz, frzSl, stkAt, ownAt, obAt, rd1, rdL, rdD, datas, seqv, seqvs, stSl, rvSl, RV.hold, fI, fLen, fInt, fStr, fTuple, fAdd, fMul, fEq, fIn, fIsN, fIx, fJoin, List.getElem?_cons_zero, List.getElem?_cons_succ, List.getElem?_nil, List.set_cons_zero, List.set_cons_succ, List.length_cons, List.length_nil, eq_self_iff_true, true_and, and_true, Option.some.injEq, exists_eq_left']
              refine ⟨by simp [gp_len]; omega, by decide, hnx _ ⟨g + 1, ns2, ?_, by omega⟩⟩
              show [_, _, Sl.dat (.str ((layP l ++ gp g) ++ gp 1)), _] = _
              rw [List.append_assoc, gp_add]
            | false =>
              refine ⟨⟨by decide, by decide, by decide⟩, ?_⟩
              try simp only [dSeq, dNext, dSet, dVar, dC, dBin, dTest, dCall, dCons, dNil, dAnd, dOr, dNot, dIf, dIfS, dRet, dRetN, dDrop, dBreak, dCont, dAug, fAddA, dTup, dLst, dFrz, dListOf, dNeg, fNeg, dSl, dNoPart, dPart, fSl, dM1, dIsi, dIsi2, dAppend, dPop, dReverse, dSetAt, dAndV, dOrV, dNotV, dB, dFld, dFldSet, dFldAdd, dMeth, dFn, dMake, dAsg, dgName, dgTwo, dgTwoL, dgThree, iSeq, iRange1, iRange2, iRange3, dFor, dLc, dYes, dKs, dKPush, dKTop, dKPop, dKLen, dOut, dFz, frzSl, stkAt, ownAt, obAt, rd1, rdL, rdD, datas, seqv, seqvs, stSl, rvSl, RV.hold, fI, fLen, fInt, fStr, fTuple, fAdd, fMul, fEq, fIn, fIsN, fIx, fJoin, List.getElem?_cons_zero, List.getElem?_cons_succ, List.getElem?_nil, List.set_cons_zero, List.set_cons_succ, List.length_cons, List.length_nil, eq_self_iff_true, true_and, and_true, Option.some.injEq, exists_eq_left']
              refine ⟨by simp [gp_len]; omega, by decide, hnx _ ⟨g, ns2, ?_, by omega⟩⟩
              show [_, _, Sl.dat (.str ((layP l ++ gp g) ++ [])), _] = _
              rw [List.append_nil]
        · rintro _ ⟨g, ns2, rfl, hg2⟩
          refine fin ns2 _ (l ++ [(g, ts[j])]) ?_ ?_ ?_ (by simp [gp_len]; omega)
          · rw [layP_app]
            simp [layP]
          · rw [List.map_append, hl, List.take_add_one, hgt]
            rfl
          · intro p hp
            rcases List.mem_append.mp hp with hp | hp
            · exact hg p hp
            · rw [List.mem_singleton.mp hp]; exact hg2
    case fin =>
      rw [rng_len] at hl ht
      rw [List.take_length] at hl
      rcases ht with ⟨h0, _⟩ | ⟨_, rfl⟩
      · exact absurd (List.length_eq_zero_iff.mp h0) hne
      · exact hnx _ ⟨l, ns', x, e, hl, hg⟩
  · rintro _ ⟨l, ns', x, rfl, hl, hg⟩
    have hL := layP_len hg
    rw [hl] at hL
    try simp only [dSeq, dNext, dSet, dVar, dC, dBin, dTest, dCall, dCons, dNil, dAnd, dOr, dNot, dIf, dIfS, dRet, dRetN, dDrop, dBreak, dCont, dAug, fAddA, dTup, dLst, dFrz, dListOf, dNeg, fNeg, dSl, dNoPart, dPart, fSl, dM1, dIsi, dIsi2, dAppend, dPop, dReverse, dSetAt, dAndV, dOrV, dNotV, dB, dFld, dFldSet, dFldAdd, dMeth, dFn, dMake, dAsg, dgName, dgTwo, dgTwoL, dgThree, iSeq, iRange1, iRange2, iRange3, dFor, dLc, dYes, dKs, dKPush, dKTop, dKPop, dKLen, dOut, dFz, frzSl, stkAt, ownAt, obAt, rd1, rdL, rdD, datas, seqv, seqvs, stSl, rvSl, RV.hold, fI, fLen, fInt, fStr, fTuple, fAdd, fMul, fEq, fIn, fIsN, fIx, fJoin, List.getElem?_cons_zero, List.getElem?_cons_succ, List.getElem?_nil, List.set_cons_zero, List.set_cons_succ, List.length_cons, List.length_nil, eq_self_iff_true, true_and, and_true, Option.some.injEq, exists_eq_left']
    refine ⟨by omega, by simp [lent], _, rfl, false, ns', _, rfl, by simp, fun d hd ns' => ⟨rfl, ⟨⟨rfl, rfl⟩, trivial⟩, ?_⟩⟩
    obtain ⟨g, rfl, hg⟩ := spc1 hd
    simp only [wr, Sl.fl, Sl.mn, List.getD_cons_zero, List.getD_cons_succ, List.set_cons_zero, List.set_cons_succ]
    try simp only [dSeq, dNext, dSet, dVar, dC, dBin, dTest, dCall, dCons, dNil, dAnd, dOr, dNot, dIf, dIfS, dRet, dRetN, dDrop, dBreak, dCont, dAug, fAddA, dTup, dLst, dFrz, dListOf, dNeg, fNeg, dSl, dNoPart, dPart, fSl, dM1, dIsi, dIsi2, dAppend, dPop, dReverse, dSetAt, dAndV, dOrV, dNotV, dB, dFld, dFldSet, dFldAdd, dMeth, dFn, dMake, dAsg, dgName, dgTwo, dgTwoL, dgThree, iSeq, iRange1, iRange2, iRange3, dFor, dLc, dYes, dKs, dKPush, dKTop, dKPop, dKLen, dOut, dFz, frzSl, stkAt, ownAt, obAt, rd1, rdL, rdD, datas, seqv, seqvs, stSl, rvSl, RV.hold, fI, fLen, fInt, fStr, fTuple, fAdd, fMul, fEq, fIn, fIsN, fIx, fJoin, List.getElem?_cons_zero, List.getElem?_cons_succ, List.getElem?_nil, List.set_cons_zero, List.set_cons_succ, List.length_cons, List.length_nil, eq_self_iff_true, true_and, and_true, Option.some.injEq, exists_eq_left']
    refine ⟨by simp [gp_len]; omega, ?_⟩
    rw [← lay_P]
    exact q l g ns' hl (by rw [lay_P, List.length_append, gp_len]; omega)
end
end K76

set_option maxRecDepth 100000
set_option maxHeartbeats 4000000
namespace K76
open PySem PySem.Spec PyProof.Rows L2 TL SkE DL
def rowsR : Nat → List (Nat × K76.Tok) → List D
  | _, [] => []
  | i, (g, t) :: r => .lst [.str t.tt, .int ((i + g : Nat) : Int)] :: rowsR (i + g + t.tt.length) r
abbrev SGS := cd "+-*/^();,: "
theorem mem_sgs {c : Nat} : c ∈ SGS ↔ c ∈ SGN ∨ c = 32 := by
  rw [mem_sgn, show SGS = [43, 45, 42, 47, 94, 40, 41, 59, 44, 58, 32] by decide +kernel]
  simp only [List.mem_cons, List.not_mem_nil, or_false, or_assoc]
/-- the next sign: a space, or a token -/
theorem lay_next {l : List (Nat × K76.Tok)} {e : Nat} (h : okL l e) (hp : 0 < (lay l e).length) : (∃ l' e', lay l e = 32 :: lay l' e' ∧ okL l' e' ∧ (∀ i, rowsR (i + 1) l' = rowsR i l)) ∨ (∃ t r, l = (0, t) :: r) := by
  cases l with
  | nil =>
    cases e with
    | zero => simp [lay, gp] at hp
    | succ e => exact .inl ⟨[], e, gp_succ e, trivial, fun _ => rfl⟩
  | cons x r =>
    obtain ⟨g, t⟩ := x
    cases g with
    | zero => exact .inr ⟨t, r, rfl⟩
    | succ g =>
      refine .inl ⟨(g, t) :: r, e, ?_, ⟨h.1, h.2.1, h.2.2⟩, fun i => ?_⟩
      · show gp (g + 1) ++ _ = 32 :: (gp g ++ _)
        rw [gp_succ]
        rfl
      · show D.lst [_, .int ((i + 1 + g : Nat) : Int)] :: rowsR (i + 1 + g + t.tt.length) r = D.lst [_, .int ((i + (g + 1) : Nat) : Int)] :: rowsR (i + (g + 1) + t.tt.length) r
        rw [show i + 1 + g = i + (g + 1) by omega]
section
variable {P : Program} {w : World} {K : PySem.W.Frag} {mg : Str → Option Value} {base : Heap} {C_Line : Addr}
def S_ltoks : DL.Spec := fun args R _ => ∃ (l : List (Nat × K76.Tok)) (e : Nat), args = [.dat (.str (lay l e))] ∧ okL l e ∧ (lay l e).length ≤ 2 ^ 23 ∧ R (.d (.lst [.lst (rowsR 0 l), .non])) args
theorem ok_ltoks (T : TX K mg C_Line) : FnG P w K mg base "_law_tokens_of" 2 ["text"] S_ltoks := by
  obtain ⟨f, fd, F, hm, bn⟩ := T.f__law_tokens_of
  have g__law_run := ok_lrun (P := P) (w := w) (base := base) T
  refine fnG_of F hm bn sc__law_tokens_of (by rintro _ _ _ ⟨_, _, rfl, _⟩; rfl) (fun cdv A outer s H E g hr => ⟨_, (dss_cons (ds_set (i := 1) sc__law_tokens_of.nd rfl (by first | exact Or.inl rfl | exact Or.inr rfl) (de_lst da_nil))
 (dss_cons (ds_set (i := 2) sc__law_tokens_of.nd rfl (by first | exact Or.inl rfl | exact Or.inr rfl) de_int)
 (dss_cons (ds_for PassesOwn.never rfl (di_range1 rfl T.n_range (da_cons (de_callB (c_len) rfl T.n_len boot_len (da_cons (dv 0) da_nil)) da_nil)) (dg_name (i := 3) sc__law_tokens_of.nd rfl (by first | exact Or.inl rfl | exact Or.inr rfl))
 (dss_cons (ds_if (dt_cmp (o_ge) (dv 2) (de_callB (c_len) rfl T.n_len boot_len (da_cons (dv 0) da_nil)))
 (dss_one ds_break)
 dss_nil)
 (dss_cons (ds_set (i := 4) sc__law_tokens_of.nd rfl (by first | exact Or.inl rfl | exact Or.inr rfl) (de_ix (dv 0) (dv 2)))
 (dss_cons (ds_set (i := 5) sc__law_tokens_of.nd rfl (by first | exact Or.inl rfl | exact Or.inr rfl) (de_op o_add (dv 2) de_int))
 (dss_cons (ds_if (dt_cmp (o_in) (dv 4) de_str)
 (dss_cons (ds_set (i := 5) sc__law_tokens_of.nd rfl (by first | exact Or.inl rfl | exact Or.inr rfl) (dq_fn g__law_run (hr.mono (by omega)) (da_cons (dv 0) (da_cons (dv 2) (da_cons de_str da_nil)))))
 (dss_one (ds_if (dt_w (dw_and (dt_cmp (o_eq (by exact hr.units)) (dv 4) de_str) (dw_and1 (dt_cmp (o_gt) (dv 5) (de_op o_add (dv 2) de_int)))))
 (dss_frz 1 (dss_one (ds_ret (de_frz (de_lst (da_cons (dv 1) (da_cons (dv 2) da_nil)))))))
 dss_nil)))
 (dss_one (ds_if (dt_cmp (o_in) (dv 4) de_str)
 (dss_one (ds_set (i := 5) sc__law_tokens_of.nd rfl (by first | exact Or.inl rfl | exact Or.inr rfl) (dq_fn g__law_run (hr.mono (by omega)) (da_cons (dv 0) (da_cons (dv 2) (da_cons de_str da_nil))))))
 (dss_one (ds_if (dt_cmp (o_nin) (dv 4) de_str)
 (dss_frz 1 (dss_one (ds_ret (de_frz (de_lst (da_cons (dv 1) (da_cons (dv 2) da_nil)))))))
 dss_nil)))))
 (dss_cons (ds_if (dt_cmp (o_ne (by exact hr.units)) (dv 4) de_str)
 (dss_one (ds_expr (de_append 1 (de_frz (de_lst (da_cons (de_sl (dv 0) (do_some (dv 2)) (do_some (dv 5))) (da_cons (dv 2) da_nil)))))))
 dss_nil)
 (dss_one (ds_set (i := 2) sc__law_tokens_of.nd rfl (by first | exact Or.inl rfl | exact Or.inr rfl) (dv 5)))))))))
 (dss_frz 1 (dss_one (ds_ret (de_frz (de_lst (da_cons (dv 1) (da_cons de_non da_nil)))))))))), ?_⟩) (fun _ _ _ h => h)
  rintro args R ⟨l, e, rfl, ok, hz, q⟩
  have h24 := sz24
  simp only [body0, List.length_cons, List.length_nil, List.replicate, Nat.reduceAdd, Nat.reduceSub, List.cons_append, List.nil_append]
  generalize htx : lay l e = text at hz q ⊢
  refine seq_key (fun ρ' => ρ' = [.dat (.str text), .own true [], .no, .no, .no, .no]) (fun nx hnx => ⟨Nat.zero_le _, by simp, hnx _ rfl⟩) ?_
  rintro _ rfl
  refine seq_key (fun ρ' => ρ' = [.dat (.str text), .own true [], .dat (.int ((0 : Nat) : Int)), .no, .no, .no]) (fun nx hnx => ⟨by simp, hnx _ rfl⟩) ?_
  rintro _ rfl
  have done : ∀ (p : List Nat) (l' : List (Nat × K76.Tok)) (e' : Nat) (acc : List D), text = p ++ lay l' e' → okL l' e' → acc ++ rowsR p.length l' = rowsR 0 l → text.length ≤ p.length → acc = rowsR 0 l := fun p l' e' acc h1 h2 h3 h4 => by
    have hl := congrArg List.length h1
    rw [List.length_append] at hl
    cases l' with
    | nil => simpa [rowsR] using h3
    | cons x r =>
      have := lay_count h2
      simp at this
      omega
  refine seq_key (fun ρ' => ∃ x2 x3 x4 x5, ρ' = [.dat (.str text), .own true (rowsR 0 l), x2, x3, x4, x5]) (fun nx hnx => ?_) ?_
  · refine ⟨rfl, ⟨by omega, rfl, ⟨by omega, by omega⟩, rfl, ?_⟩⟩
    rw [show ((text.length : Nat) : Int).toNat = text.length by simp]
    refine forGo (rngD 0 text.length) (fun j ρ => ∃ (p : List Nat) (l' : List (Nat × K76.Tok)) (e' : Nat) (acc : List D) (x3 x4 x5 : Sl), ρ = [.dat (.str text), .own true acc, .dat (.int (p.length : Nat)), x3, x4, x5] ∧ text = p ++ lay l' e' ∧ okL l' e' ∧ acc ++ rowsR p.length l' = rowsR 0 l ∧ j ≤ p.length ∧ acc.length ≤ p.length)
      (fun j d ρ Kk hd ⟨p, l', e', acc, x3, x4, x5, hρ, h1, h2, h3, h4, h5⟩ hK => ?step) (fun ρ ⟨p, l', e', acc, x3, x4, x5, hρ, h1, h2, h3, h4, h5⟩ => ?fin) ⟨[], l, e, [], _, _, _, rfl, htx.symm, ok, rfl, Nat.le_refl _, Nat.le_refl _⟩
    case fin =>
      rw [rng_len] at h4
      subst hρ
      have := done p l' e' acc h1 h2 h3 h4
      subst this
      exact hnx _ ⟨_, _, _, _, rfl⟩
    case step =>
      obtain ⟨rfl, hj⟩ := rng_get hd
      subst hρ
      have hl := congrArg List.length h1
      rw [List.length_append] at hl
      refine ⟨by simp, ?_⟩
      by_cases hpl : text.length ≤ p.length
      · refine ifT (fun Q hQ => ?_) ?_
        · try simp only [dSeq, dNext, dSet, dVar, dC, dBin, dTest, dCall, dCons, dNil, dAnd, dOr, dNot, dIf, dIfS, dRet, dRetN, dDrop, dBreak, dCont, dAug, fAddA, dTup, dLst, dFrz, dListOf, dNeg, fNeg, dSl, dNoPart, dPart, fSl, dM1, dIsi, dIsi2, dAppend, dPop, dReverse, dSetAt, dAndV, dOrV, dNotV, dB, dFld, dFldSet, dFldAdd, dMeth, dFn, dMake, dAsg, dgName, dgTwo, dgTwoL, dgThree, iSeq, iRange1, iRange2, iRange3, dFor, dLc, dYes, dKs, dKPush, dKTop, dKPop, dKLen, dOut, dFz, frzSl, stkAt, ownAt, obAt, rd1, rdL, rdD, datas, seqv, seqvs, stSl, rvSl, RV.hold, fI, fLen, fInt, fStr, fTuple, fAdd, fMul, fEq, fIn, fIsN, fIx, fJoin, List.getElem?_cons_zero, List.getElem?_cons_succ, List.getElem?_nil, List.set_cons_zero, List.set_cons_succ, List.length_cons, List.length_nil, eq_self_iff_true, true_and, and_true, Option.some.injEq, exists_eq_left']
          rw [decide_eq_true (by omega)]
          exact ⟨by omega, hQ⟩
        · have := done p l' e' acc h1 h2 h3 hpl
          subst this
          exact hnx _ ⟨_, _, _, _, rfl⟩
      refine seq_key (fun ρ' => ρ' = [.dat (.str text), .own true acc, .dat (.int (p.length : Nat)), .dat (.int (0 + (j : Int))), x4, x5]) (fun nx hnx => ?_) ?_
      · refine ifF (fun Q hQ => ?_) (hnx _ rfl)
        try simp only [dSeq, dNext, dSet, dVar, dC, dBin, dTest, dCall, dCons, dNil, dAnd, dOr, dNot, dIf, dIfS, dRet, dRetN, dDrop, dBreak, dCont, dAug, fAddA, dTup, dLst, dFrz, dListOf, dNeg, fNeg, dSl, dNoPart, dPart, fSl, dM1, dIsi, dIsi2, dAppend, dPop, dReverse, dSetAt, dAndV, dOrV, dNotV, dB, dFld, dFldSet, dFldAdd, dMeth, dFn, dMake, dAsg, dgName, dgTwo, dgTwoL, dgThree, iSeq, iRange1, iRange2, iRange3, dFor, dLc, dYes, dKs, dKPush, dKTop, dKPop, dKLen, dOut, dFz, frzSl, stkAt, ownAt, obAt, rd1, rdL, rdD, datas, seqv, seqvs, stSl, rvSl, RV.hold, fI, fLen, fInt, fStr, fTuple, fAdd, fMul, fEq, fIn, fIsN, fIx, fJoin, List.getElem?_cons_zero, List.getElem?_cons_succ, List.getElem?_nil, List.set_cons_zero, List.set_cons_succ, List.length_cons, List.length_nil, eq_self_iff_true, true_and, and_true, Option.some.injEq, exists_eq_left']
        rw [decide_eq_false (by omega)]
        exact ⟨by omega, hQ⟩
      rintro _ rfl
      -- the sign
      obtain ⟨c, rest, hc⟩ : ∃ c rest, lay l' e' = c :: rest := by
        cases hq : lay l' e' with
        | nil => rw [hq] at hl; simp at hl; omega
        | cons c rest => exact ⟨c, rest, rfl⟩
      have hget : text[p.length]? = some c := by rw [h1, hc]; simp
      refine seq_key (fun ρ' => ρ' = [.dat (.str text), .own true acc, .dat (.int (p.length : Nat)), .dat (.int (0 + (j : Int))), .dat (.str [c]), x5]) (fun nx hnx => ⟨by omega, c, atI_nat hget, by simp, hnx _ rfl⟩) ?_
      rintro _ rfl
      refine seq_key (fun ρ' => ρ' = [.dat (.str text), .own true acc, .dat (.int (p.length : Nat)), .dat (.int (0 + (j : Int))), .dat (.str [c]), .dat (.int ((p.length + 1 : Nat) : Int))]) (fun nx hnx => ⟨by simp, hnx _ rfl⟩) ?_
      rintro _ rfl
      -- what comes: its end
      rcases lay_next h2 (by omega) with ⟨l2, e2, n1, n2, n3⟩ | ⟨t, r, rfl⟩
      · rw [n1] at hc
        obtain ⟨rfl, rfl⟩ : (32 : Nat) = c ∧ lay l2 e2 = rest := by simpa using hc
        have k1 : ¬ (32 : Nat) ∈ DIG := by rw [mem_dig]; omega
        have k2 : ¬ (32 : Nat) ∈ LET := by rw [mem_let]; omega
        have k3 : (32 : Nat) ∈ SGS := by rw [mem_sgs]; exact .inr rfl
        refine seq_key (fun ρ' => ρ' = [.dat (.str text), .own true acc, .dat (.int (p.length : Nat)), .dat (.int (0 + (j : Int))), .dat (.str [32]), .dat (.int ((p.length + 1 : Nat) : Int))]) (fun nx hnx => ?_) ?_
        · refine ifF (fun Q hQ => ?_) (ifF (fun Q hQ => ?_) (ifF (fun Q hQ => ?_) (hnx _ rfl)))
          · try simp only [dSeq, dNext, dSet, dVar, dC, dBin, dTest, dCall, dCons, dNil, dAnd, dOr, dNot, dIf, dIfS, dRet, dRetN, dDrop, dBreak, dCont, dAug, fAddA, dTup, dLst, dFrz, dListOf, dNeg, fNeg, dSl, dNoPart, dPart, fSl, dM1, dIsi, dIsi2, dAppend, dPop, dReverse, dSetAt, dAndV, dOrV, dNotV, dB, dFld, dFldSet, dFldAdd, dMeth, dFn, dMake, dAsg, dgName, dgTwo, dgTwoL, dgThree, iSeq, iRange1, iRange2, iRange3, dFor, dLc, dYes, dKs, dKPush, dKTop, dKPop, dKLen, dOut, dFz, frzSl, stkAt, ownAt, obAt, rd1, rdL, rdD, datas, seqv, seqvs, stSl, rvSl, RV.hold, fI, fLen, fInt, fStr, fTuple, fAdd, fMul, fEq, fIn, fIsN, fIx, fJoin, List.getElem?_cons_zero, List.getElem?_cons_succ, List.getElem?_nil, List.set_cons_zero, List.set_cons_succ, List.length_cons, List.length_nil, eq_self_iff_true, true_and, and_true, Option.some.injEq, exists_eq_left']
            simp only [k1, decide_false, Bool.false_xor]
            exact hQ
          · try simp only [dSeq, dNext, dSet, dVar, dC, dBin, dTest, dCall, dCons, dNil, dAnd, dOr, dNot, dIf, dIfS, dRet, dRetN, dDrop, dBreak, dCont, dAug, fAddA, dTup, dLst, dFrz, dListOf, dNeg, fNeg, dSl, dNoPart, dPart, fSl, dM1, dIsi, dIsi2, dAppend, dPop, dReverse, dSetAt, dAndV, dOrV, dNotV, dB, dFld, dFldSet, dFldAdd, dMeth, dFn, dMake, dAsg, dgName, dgTwo, dgTwoL, dgThree, iSeq, iRange1, iRange2, iRange3, dFor, dLc, dYes, dKs, dKPush, dKTop, dKPop, dKLen, dOut, dFz, frzSl, stkAt, ownAt, obAt, rd1, rdL, rdD, datas, seqv, seqvs, stSl, rvSl, RV.hold, fI, fLen, fInt, fStr, fTuple, fAdd, fMul, fEq, fIn, fIsN, fIx, fJoin, List.getElem?_cons_zero, List.getElem?_cons_succ, List.getElem?_nil, List.set_cons_zero, List.set_cons_succ, List.length_cons, List.length_nil, eq_self_iff_true, true_and, and_true, Option.some.injEq, exists_eq_left']
            simp only [k2, decide_false, Bool.false_xor]
            exact hQ
          · try simp only [dSeq, dNext, dSet, dVar, dC, dBin, dTest, dCall, dCons, dNil, dAnd, dOr, dNot, dIf, dIfS, dRet, dRetN, dDrop, dBreak, dCont, dAug, fAddA, dTup, dLst, dFrz, dListOf, dNeg, fNeg, dSl, dNoPart, dPart, fSl, dM1, dIsi, dIsi2, dAppend, dPop, dReverse, dSetAt, dAndV, dOrV, dNotV, dB, dFld, dFldSet, dFldAdd, dMeth, dFn, dMake, dAsg, dgName, dgTwo, dgTwoL, dgThree, iSeq, iRange1, iRange2, iRange3, dFor, dLc, dYes, dKs, dKPush, dKTop, dKPop, dKLen, dOut, dFz, frzSl, stkAt, ownAt, obAt, rd1, rdL, rdD, datas, seqv, seqvs, stSl, rvSl, RV.hold, fI, fLen, fInt, fStr, fTuple, fAdd, fMul, fEq, fIn, fIsN, fIx, fJoin, List.getElem?_cons_zero, List.getElem?_cons_succ, List.getElem?_nil, List.set_cons_zero, List.set_cons_succ, List.length_cons, List.length_nil, eq_self_iff_true, true_and, and_true, Option.some.injEq, exists_eq_left']
            simp only [k3, decide_true, Bool.true_xor]
            exact hQ
        rintro _ rfl
        refine seq_key (fun ρ' => ρ' = [.dat (.str text), .own true acc, .dat (.int (p.length : Nat)), .dat (.int (0 + (j : Int))), .dat (.str [32]), .dat (.int ((p.length + 1 : Nat) : Int))]) (fun nx hnx => ?_) ?_
        · refine ifF (fun Q hQ => ?_) (hnx _ rfl)
          try simp only [dSeq, dNext, dSet, dVar, dC, dBin, dTest, dCall, dCons, dNil, dAnd, dOr, dNot, dIf, dIfS, dRet, dRetN, dDrop, dBreak, dCont, dAug, fAddA, dTup, dLst, dFrz, dListOf, dNeg, fNeg, dSl, dNoPart, dPart, fSl, dM1, dIsi, dIsi2, dAppend, dPop, dReverse, dSetAt, dAndV, dOrV, dNotV, dB, dFld, dFldSet, dFldAdd, dMeth, dFn, dMake, dAsg, dgName, dgTwo, dgTwoL, dgThree, iSeq, iRange1, iRange2, iRange3, dFor, dLc, dYes, dKs, dKPush, dKTop, dKPop, dKLen, dOut, dFz, frzSl, stkAt, ownAt, obAt, rd1, rdL, rdD, datas, seqv, seqvs, stSl, rvSl, RV.hold, fI, fLen, fInt, fStr, fTuple, fAdd, fMul, fEq, fIn, fIsN, fIx, fJoin, List.getElem?_cons_zero, List.getElem?_cons_succ, List.getElem?_nil, List.set_cons_zero, List.set_cons_succ, List.length_cons, List.length_nil, eq_self_iff_true, true_and, and_true, Option.some.injEq, exists_eq_left']
          rw [show (Str.ofString " ").cps.toList = [32] from c_sp]
          exact hQ
        rintro _ rfl
        refine ⟨by simp, hK _ ⟨p ++ [32], l2, e2, acc, .dat (.int (0 + (j : Int))), .dat (.str [32]), .dat (.int ((p.length + 1 : Nat) : Int)), by simp, by rw [h1, n1]; simp, n2, ?_, by simp; omega, by simp; omega⟩⟩
        rw [List.length_append, List.length_singleton, n3]
        exact h3
      · obtain ⟨ok1, st, ok2⟩ := h2
        have e0 : lay ((0, t) :: r) e' = t.tt ++ lay r e' := rfl
        rw [e0] at h1 hc
        have hlt := tt_pos ok1
        have hhead : ∃ ds, t.tt = c :: ds := by
          cases ht : t.tt with
          | nil => exact absurd ht (tt_ne ok1)
          | cons a b => rw [ht] at hc; simp at hc; exact ⟨b, by rw [hc.1]⟩
        obtain ⟨ds, hds⟩ := hhead
        have hcls : ∀ x ∈ t.tt, x ∈ t.cls ∨ ∃ c, t = .sg c := fun x hx => by
          cases t with
          | sg c => exact .inr ⟨c, rfl⟩
          | wd w => exact .inl (ok1.2.2 x hx)
          | nm n => exact .inl (natD_dig hx)
        have hrun : (∀ c, t ≠ .sg c) → run (text.drop p.length) t.cls = t.tt.length := fun hn => by
          rw [h1, drop_pre]
          exact run_app (fun x hx => (hcls x hx).resolve_right fun ⟨c, h⟩ => hn c h) st
        have c32 : c ≠ 32 := by
          have hx : c ∈ t.tt := by rw [hds]; exact List.mem_cons_self
          cases t with
          | sg c' =>
            have : c = c' := by simpa [Tok.tt] using hx
            subst this
            have := mem_sgn.mp ok1
            omega
          | wd w => have := mem_let.mp (ok1.2.2 c hx); omega
          | nm n => have := mem_dig.mp (natD_dig hx); omega
        refine seq_key (fun ρ' => ρ' = [.dat (.str text), .own true acc, .dat (.int (p.length : Nat)), .dat (.int (0 + (j : Int))), .dat (.str [c]), .dat (.int ((p.length + t.tt.length : Nat) : Int))]) (fun nx hnx => ?_) ?_
        · cases t with
          | sg c' =>
            have : c' = c ∧ ds = [] := by simpa [Tok.tt] using hds
            obtain ⟨rfl, rfl⟩ := this
            have hm := mem_sgn.mp ok1
            have k1 : ¬ c' ∈ DIG := by rw [mem_dig]; omega
            have k2 : ¬ c' ∈ LET := by rw [mem_let]; omega
            have k3 : c' ∈ SGS := by rw [mem_sgs]; exact .inl ok1
            refine ifF (fun Q hQ => ?_) (ifF (fun Q hQ => ?_) (ifF (fun Q hQ => ?_) (hnx _ rfl)))
            · try simp only [dSeq, dNext, dSet, dVar, dC, dBin, dTest, dCall, dCons, dNil, dAnd, dOr, dNot, dIf, dIfS, dRet, dRetN, dDrop, dBreak, dCont, dAug, fAddA, dTup, dLst, dFrz, dListOf, dNeg, fNeg, dSl, dNoPart, dPart, fSl, dM1, dIsi, dIsi2, dAppend, dPop, dReverse, dSetAt, dAndV, dOrV, dNotV, dB, dFld, dFldSet, dFldAdd, dMeth, dFn, dMake, dAsg, dgName, dgTwo, dgTwoL, dgThree, iSeq, iRange1, iRange2, iRange3, dFor, dLc, dYes, dKs, dKPush, dKTop, dKPop, dKLen, dOut, dFz, frzSl, stkAt, ownAt, obAt, rd1, rdL, rdD, datas, seqv, seqvs, stSl, rvSl, RV.hold, fI, fLen, fInt, fStr, fTuple, fAdd, fMul, fEq, fIn, fIsN, fIx, fJoin, List.getElem?_cons_zero, List.getElem?_cons_succ, List.getElem?_nil, List.set_cons_zero, List.set_cons_succ, List.length_cons, List.length_nil, eq_self_iff_true, true_and, and_true, Option.some.injEq, exists_eq_left']
              simp only [k1, decide_false, Bool.false_xor]
              exact hQ
            · try simp only [dSeq, dNext, dSet, dVar, dC, dBin, dTest, dCall, dCons, dNil, dAnd, dOr, dNot, dIf, dIfS, dRet, dRetN, dDrop, dBreak, dCont, dAug, fAddA, dTup, dLst, dFrz, dListOf, dNeg, fNeg, dSl, dNoPart, dPart, fSl, dM1, dIsi, dIsi2, dAppend, dPop, dReverse, dSetAt, dAndV, dOrV, dNotV, dB, dFld, dFldSet, dFldAdd, dMeth, dFn, dMake, dAsg, dgName, dgTwo, dgTwoL, dgThree, iSeq, iRange1, iRange2, iRange3, dFor, dLc, dYes, dKs, dKPush, dKTop, dKPop, dKLen, dOut, dFz, frzSl, stkAt, ownAt, obAt, rd1, rdL, rdD, datas, seqv, seqvs, stSl, rvSl, RV.hold, fI, fLen, fInt, fStr, fTuple, fAdd, fMul, fEq, fIn, fIsN, fIx, fJoin, List.getElem?_cons_zero, List.getElem?_cons_succ, List.getElem?_nil, List.set_cons_zero, List.set_cons_succ, List.length_cons, List.length_nil, eq_self_iff_true, true_and, and_true, Option.some.injEq, exists_eq_left']
              simp only [k2, decide_false, Bool.false_xor]
              exact hQ
            · try simp only [dSeq, dNext, dSet, dVar, dC, dBin, dTest, dCall, dCons, dNil, dAnd, dOr, dNot, dIf, dIfS, dRet, dRetN, dDrop, dBreak, dCont, dAug, fAddA, dTup, dLst, dFrz, dListOf, dNeg, fNeg, dSl, dNoPart, dPart, fSl, dM1, dIsi, dIsi2, dAppend, dPop, dReverse, dSetAt, dAndV, dOrV, dNotV, dB, dFld, dFldSet, dFldAdd, dMeth, dFn, dMake, dAsg, dgName, dgTwo, dgTwoL, dgThree, iSeq, iRange1, iRange2, iRange3, dFor, dLc, dYes, dKs, dKPush, dKTop, dKPop, dKLen, dOut, dFz, frzSl, stkAt, ownAt, obAt, rd1, rdL, rdD, datas, seqv, seqvs, stSl, rvSl, RV.hold, fI, fLen, fInt, fStr, fTuple, fAdd, fMul, fEq, fIn, fIsN, fIx, fJoin, List.getElem?_cons_zero, List.getElem?_cons_succ, List.getElem?_nil, List.set_cons_zero, List.set_cons_succ, List.length_cons, List.length_nil, eq_self_iff_true, true_and, and_true, Option.some.injEq, exists_eq_left']
              simp only [k3, decide_true, Bool.true_xor]
              exact hQ
          | wd w =>
            have hc2 : c ∈ LET := ok1.2.2 c (by have e : w = c :: ds := hds; rw [e]; exact List.mem_cons_self)
            have hm := mem_let.mp hc2
            have k1 : ¬ c ∈ DIG := by rw [mem_dig]; omega
            have hr2 := hrun (fun _ => by simp)
            refine ifF (fun Q hQ => ?_) (ifT (fun Q hQ => ?_) ?_)
            · try simp only [dSeq, dNext, dSet, dVar, dC, dBin, dTest, dCall, dCons, dNil, dAnd, dOr, dNot, dIf, dIfS, dRet, dRetN, dDrop, dBreak, dCont, dAug, fAddA, dTup, dLst, dFrz, dListOf, dNeg, fNeg, dSl, dNoPart, dPart, fSl, dM1, dIsi, dIsi2, dAppend, dPop, dReverse, dSetAt, dAndV, dOrV, dNotV, dB, dFld, dFldSet, dFldAdd, dMeth, dFn, dMake, dAsg, dgName, dgTwo, dgTwoL, dgThree, iSeq, iRange1, iRange2, iRange3, dFor, dLc, dYes, dKs, dKPush, dKTop, dKPop, dKLen, dOut, dFz, frzSl, stkAt, ownAt, obAt, rd1, rdL, rdD, datas, seqv, seqvs, stSl, rvSl, RV.hold, fI, fLen, fInt, fStr, fTuple, fAdd, fMul, fEq, fIn, fIsN, fIx, fJoin, List.getElem?_cons_zero, List.getElem?_cons_succ, List.getElem?_nil, List.set_cons_zero, List.set_cons_succ, List.length_cons, List.length_nil, eq_self_iff_true, true_and, and_true, Option.some.injEq, exists_eq_left']
              simp only [k1, decide_false, Bool.false_xor]
              exact hQ
            · try simp only [dSeq, dNext, dSet, dVar, dC, dBin, dTest, dCall, dCons, dNil, dAnd, dOr, dNot, dIf, dIfS, dRet, dRetN, dDrop, dBreak, dCont, dAug, fAddA, dTup, dLst, dFrz, dListOf, dNeg, fNeg, dSl, dNoPart, dPart, fSl, dM1, dIsi, dIsi2, dAppend, dPop, dReverse, dSetAt, dAndV, dOrV, dNotV, dB, dFld, dFldSet, dFldAdd, dMeth, dFn, dMake, dAsg, dgName, dgTwo, dgTwoL, dgThree, iSeq, iRange1, iRange2, iRange3, dFor, dLc, dYes, dKs, dKPush, dKTop, dKPop, dKLen, dOut, dFz, frzSl, stkAt, ownAt, obAt, rd1, rdL, rdD, datas, seqv, seqvs, stSl, rvSl, RV.hold, fI, fLen, fInt, fStr, fTuple, fAdd, fMul, fEq, fIn, fIsN, fIx, fJoin, List.getElem?_cons_zero, List.getElem?_cons_succ, List.getElem?_nil, List.set_cons_zero, List.set_cons_succ, List.length_cons, List.length_nil, eq_self_iff_true, true_and, and_true, Option.some.injEq, exists_eq_left']
              simp only [hc2, decide_true, Bool.false_xor]
              exact hQ
            · try simp only [dSeq, dNext, dSet, dVar, dC, dBin, dTest, dCall, dCons, dNil, dAnd, dOr, dNot, dIf, dIfS, dRet, dRetN, dDrop, dBreak, dCont, dAug, fAddA, dTup, dLst, dFrz, dListOf, dNeg, fNeg, dSl, dNoPart, dPart, fSl, dM1, dIsi, dIsi2, dAppend, dPop, dReverse, dSetAt, dAndV, dOrV, dNotV, dB, dFld, dFldSet, dFldAdd, dMeth, dFn, dMake, dAsg, dgName, dgTwo, dgTwoL, dgThree, iSeq, iRange1, iRange2, iRange3, dFor, dLc, dYes, dKs, dKPush, dKTop, dKPop, dKLen, dOut, dFz, frzSl, stkAt, ownAt, obAt, rd1, rdL, rdD, datas, seqv, seqvs, stSl, rvSl, RV.hold, fI, fLen, fInt, fStr, fTuple, fAdd, fMul, fEq, fIn, fIsN, fIx, fJoin, List.getElem?_cons_zero, List.getElem?_cons_succ, List.getElem?_nil, List.set_cons_zero, List.set_cons_succ, List.length_cons, List.length_nil, eq_self_iff_true, true_and, and_true, Option.some.injEq, exists_eq_left']
              refine ⟨List.nodup_nil, _, rfl, text, p.length, LET, rfl, by omega, by omega, rfl, trivial, ?_⟩
              simp only [wr, Sl.fl, Sl.mn, List.getD_cons_zero, List.getD_cons_succ, List.set_cons_zero, List.set_cons_succ]
              rw [show run (text.drop p.length) LET = (Tok.wd w).tt.length from hr2]
              exact ⟨by simp, hnx _ rfl⟩
          | nm n =>
            have hc2 : c ∈ DIG := natD_dig (n := n) (by have e : natD n = c :: ds := hds; rw [e]; exact List.mem_cons_self)
            have hr2 := hrun (fun _ => by simp)
            refine ifT (fun Q hQ => ?_) ?_
            · try simp only [dSeq, dNext, dSet, dVar, dC, dBin, dTest, dCall, dCons, dNil, dAnd, dOr, dNot, dIf, dIfS, dRet, dRetN, dDrop, dBreak, dCont, dAug, fAddA, dTup, dLst, dFrz, dListOf, dNeg, fNeg, dSl, dNoPart, dPart, fSl, dM1, dIsi, dIsi2, dAppend, dPop, dReverse, dSetAt, dAndV, dOrV, dNotV, dB, dFld, dFldSet, dFldAdd, dMeth, dFn, dMake, dAsg, dgName, dgTwo, dgTwoL, dgThree, iSeq, iRange1, iRange2, iRange3, dFor, dLc, dYes, dKs, dKPush, dKTop, dKPop, dKLen, dOut, dFz, frzSl, stkAt, ownAt, obAt, rd1, rdL, rdD, datas, seqv, seqvs, stSl, rvSl, RV.hold, fI, fLen, fInt, fStr, fTuple, fAdd, fMul, fEq, fIn, fIsN, fIx, fJoin, List.getElem?_cons_zero, List.getElem?_cons_succ, List.getElem?_nil, List.set_cons_zero, List.set_cons_succ, List.length_cons, List.length_nil, eq_self_iff_true, true_and, and_true, Option.some.injEq, exists_eq_left']
              simp only [hc2, decide_true, Bool.false_xor]
              exact hQ
            · refine seq_key (fun ρ' => ρ' = [.dat (.str text), .own true acc, .dat (.int (p.length : Nat)), .dat (.int (0 + (j : Int))), .dat (.str [c]), .dat (.int ((p.length + (Tok.nm n).tt.length : Nat) : Int))]) (fun nx hnx => ?_) ?_
              · try simp only [dSeq, dNext, dSet, dVar, dC, dBin, dTest, dCall, dCons, dNil, dAnd, dOr, dNot, dIf, dIfS, dRet, dRetN, dDrop, dBreak, dCont, dAug, fAddA, dTup, dLst, dFrz, dListOf, dNeg, fNeg, dSl, dNoPart, dPart, fSl, dM1, dIsi, dIsi2, dAppend, dPop, dReverse, dSetAt, dAndV, dOrV, dNotV, dB, dFld, dFldSet, dFldAdd, dMeth, dFn, dMake, dAsg, dgName, dgTwo, dgTwoL, dgThree, iSeq, iRange1, iRange2, iRange3, dFor, dLc, dYes, dKs, dKPush, dKTop, dKPop, dKLen, dOut, dFz, frzSl, stkAt, ownAt, obAt, rd1, rdL, rdD, datas, seqv, seqvs, stSl, rvSl, RV.hold, fI, fLen, fInt, fStr, fTuple, fAdd, fMul, fEq, fIn, fIsN, fIx, fJoin, List.getElem?_cons_zero, List.getElem?_cons_succ, List.getElem?_nil, List.set_cons_zero, List.set_cons_succ, List.length_cons, List.length_nil, eq_self_iff_true, true_and, and_true, Option.some.injEq, exists_eq_left']
                refine ⟨List.nodup_nil, _, rfl, text, p.length, DIG, rfl, by omega, by omega, rfl, trivial, ?_⟩
                simp only [wr, Sl.fl, Sl.mn, List.getD_cons_zero, List.getD_cons_succ, List.set_cons_zero, List.set_cons_succ]
                rw [show run (text.drop p.length) DIG = (Tok.nm n).tt.length from hr2]
                exact ⟨by simp, hnx _ rfl⟩
              · rintro _ rfl
                refine ifF (fun Q hQ => ?_) (hnx _ rfl)
                try simp only [dSeq, dNext, dSet, dVar, dC, dBin, dTest, dCall, dCons, dNil, dAnd, dOr, dNot, dIf, dIfS, dRet, dRetN, dDrop, dBreak, dCont, dAug, fAddA, dTup, dLst, dFrz, dListOf, dNeg, fNeg, dSl, dNoPart, dPart, fSl, dM1, dIsi, dIsi2, dAppend, dPop, dReverse, dSetAt, dAndV, dOrV, dNotV, dB, dFld, dFldSet, dFldAdd, dMeth, dFn, dMake, dAsg, dgName, dgTwo, dgTwoL, dgThree, iSeq, iRange1, iRange2, iRange3, dFor, dLc, dYes, dKs, dKPush, dKTop, dKPop, dKLen, dOut, dFz, frzSl, stkAt, ownAt, obAt, rd1, rdL, rdD, datas, seqv, seqvs, stSl, rvSl, RV.hold, fI, fLen, fInt, fStr, fTuple, fAdd, fMul, fEq, fIn, fIsN, fIx, fJoin, List.getElem?_cons_zero, List.getElem?_cons_succ, List.getElem?_nil, List.set_cons_zero, List.set_cons_succ, List.length_cons, List.length_nil, eq_self_iff_true, true_and, and_true, Option.some.injEq, exists_eq_left']
                rw [show (Str.ofString "0").cps.toList = [48] from c_0]
                by_cases hc0 : c = 48
                · subst hc0
                  have hd0 := natD_zero (n := n) hds
                  have : (Tok.nm n).tt.length = 1 := by rw [hds, hd0]; rfl
                  rw [this] at hQ ⊢
                  simp only [decide_true, Bool.false_xor, if_true]
                  rw [decide_eq_false (by omega)]
                  exact hQ
                · rw [show decide ([c] = [48]) = false by simp [hc0]]
                  simp only [Bool.false_xor, Bool.false_eq_true, if_false]
                  exact hQ
        rintro _ rfl
        refine seq_key (fun ρ' => ρ' = [.dat (.str text), .own true (acc ++ [.lst [.str t.tt, .int (p.length : Nat)]]), .dat (.int (p.length : Nat)), .dat (.int (0 + (j : Int))), .dat (.str [c]), .dat (.int ((p.length + t.tt.length : Nat) : Int))]) (fun nx hnx => ?_) ?_
        · refine ifT (fun Q hQ => ?_) ?_
          · try simp only [dSeq, dNext, dSet, dVar, dC, dBin, dTest, dCall, dCons, dNil, dAnd, dOr, dNot, dIf, dIfS, dRet, dRetN, dDrop, dBreak, dCont, dAug, fAddA, dTup, dLst, dFrz, dListOf, dNeg, fNeg, dSl, dNoPart, dPart, fSl, dM1, dIsi, dIsi2, dAppend, dPop, dReverse, dSetAt, dAndV, dOrV, dNotV, dB, dFld, dFldSet, dFldAdd, dMeth, dFn, dMake, dAsg, dgName, dgTwo, dgTwoL, dgThree, iSeq, iRange1, iRange2, iRange3, dFor, dLc, dYes, dKs, dKPush, dKTop, dKPop, dKLen, dOut, dFz, frzSl, stkAt, ownAt, obAt, rd1, rdL, rdD, datas, seqv, seqvs, stSl, rvSl, RV.hold, fI, fLen, fInt, fStr, fTuple, fAdd, fMul, fEq, fIn, fIsN, fIx, fJoin, List.getElem?_cons_zero, List.getElem?_cons_succ, List.getElem?_nil, List.set_cons_zero, List.set_cons_succ, List.length_cons, List.length_nil, eq_self_iff_true, true_and, and_true, Option.some.injEq, exists_eq_left']
            rw [show (Str.ofString " ").cps.toList = [32] from c_sp, show decide ([c] = [32]) = false by simp [c32]]
            exact hQ
          · try simp only [dSeq, dNext, dSet, dVar, dC, dBin, dTest, dCall, dCons, dNil, dAnd, dOr, dNot, dIf, dIfS, dRet, dRetN, dDrop, dBreak, dCont, dAug, fAddA, dTup, dLst, dFrz, dListOf, dNeg, fNeg, dSl, dNoPart, dPart, fSl, dM1, dIsi, dIsi2, dAppend, dPop, dReverse, dSetAt, dAndV, dOrV, dNotV, dB, dFld, dFldSet, dFldAdd, dMeth, dFn, dMake, dAsg, dgName, dgTwo, dgTwoL, dgThree, iSeq, iRange1, iRange2, iRange3, dFor, dLc, dYes, dKs, dKPush, dKTop, dKPop, dKLen, dOut, dFz, frzSl, stkAt, ownAt, obAt, rd1, rdL, rdD, datas, seqv, seqvs, stSl, rvSl, RV.hold, fI, fLen, fInt, fStr, fTuple, fAdd, fMul, fEq, fIn, fIsN, fIx, fJoin, List.getElem?_cons_zero, List.getElem?_cons_succ, List.getElem?_nil, List.set_cons_zero, List.set_cons_succ, List.length_cons, List.length_nil, eq_self_iff_true, true_and, and_true, Option.some.injEq, exists_eq_left']
            refine ⟨by omega, by omega, by omega, ?_⟩
            have hcut : cutL text (some (p.length : Int)) (some ((p.length + t.tt.length : Nat) : Int)) = t.tt := by rw [h1]; exact cut_mid rfl rfl
            rw [hcut]
            exact hnx _ rfl
        rintro _ rfl
        have hle : p.length + t.tt.length + (lay r e').length = text.length := by rw [h1]; simp; omega
        refine ⟨by simp, hK _ ⟨p ++ t.tt, r, e', (acc ++ [.lst [.str t.tt, .int (p.length : Nat)]]), .dat (.int (0 + (j : Int))), .dat (.str [c]), .dat (.int ((p.length + t.tt.length : Nat) : Int)), by simp, by rw [h1]; simp, ok2, ?_, by simp; omega, by simp; omega⟩⟩
        rw [← h3, List.length_append, List.append_assoc]
        rfl
  · rintro _ ⟨x2, x3, x4, x5, rfl⟩
    try simp only [dSeq, dNext, dSet, dVar, dC, dBin, dTest, dCall, dCons, dNil, dAnd, dOr, dNot, dIf, dIfS, dRet, dRetN, dDrop, dBreak, dCont, dAug, fAddA, dTup, dLst, dFrz, dListOf, dNeg, fNeg, dSl, dNoPart, dPart, fSl, dM1, dIsi, dIsi2, dAppend, dPop, dReverse, dSetAt, dAndV, dOrV, dNotV, dB, dFld, dFldSet, dFldAdd, dMeth, dFn, dMake, dAsg, dgName, dgTwo, dgTwoL, dgThree, iSeq, iRange1, iRange2, iRange3, dFor, dLc, dYes, dKs, dKPush, dKTop, dKPop, dKLen, dOut, dFz, frzSl, stkAt, ownAt, obAt, rd1, rdL, rdD, datas, seqv, seqvs, stSl, rvSl, RV.hold, fI, fLen, fInt, fStr, fTuple, fAdd, fMul, fEq, fIn, fIsN, fIx, fJoin, List.getElem?_cons_zero, List.getElem?_cons_succ, List.getElem?_nil, List.set_cons_zero, List.set_cons_succ, List.length_cons, List.length_nil, eq_self_iff_true, true_and, and_true, Option.some.injEq, exists_eq_left']
    exact ⟨by omega, q⟩
end
end K76

set_option maxRecDepth 100000
set_option maxHeartbeats 4000000
namespace K76
open PySem PySem.Spec PyProof.Rows L2 TL SkE DL
section
variable {P : Program} {w : World} {K : PySem.W.Frag} {mg : Str → Option Value} {base : Heap} {C_Line : Addr}
theorem fnG_none {x : Str} {st : Stmt} {f : Addr} {fd : FuncData} {ps : List Str} {S : DL.Spec} (F : Fun K x x st f fd) (hm : mg x = some (.ref f)) (bn : L2.Binds K fd ps []) (h : ∀ args R B, ¬ S args R B) : FnG P w K mg base x 0 ps S :=
  ⟨f, fd, 0, ⟨fun vs H Q E ⟨_, _, _, _, _, _, z, _⟩ => absurd z (h _ _ _), fun _ _ _ _ _ _ vs Q E _ _ _ _ ⟨_, _, _, _, _, _, z, _⟩ => absurd z (h _ _ _)⟩, hm, F.kp, bn⟩
def S_ptext (n : Nat) : DL.Spec := fun args R _ => ∃ x : D, args = [.dat x] ∧ wf x ∧ dep x < n ∧ (PT x).length ≤ 2 ^ 22 ∧ R (.d (.str (PT x))) args
theorem asStrs_PT (ds : List D) : asStrs (ds.map fun d => .str (PT d)) = some (PTs ds) := by
  rw [PTs_map]
  have := asStrs_map (ds.map PT)
  rw [List.map_map] at this
  exact this
theorem joinL_ge (S : List Nat) : ∀ ps : List (List Nat), (ps.map List.length).sum + ps.length * S.length ≤ (joinL S ps).length + S.length
  | [] => by simp
  | [p] => by simp [joinL]
  | p :: q :: r => by
    have := joinL_ge S (q :: r)
    show _ ≤ (p ++ (S ++ joinL S (q :: r))).length + _
    simp only [List.map_cons, List.sum_cons, List.length_cons, List.length_append, Nat.add_mul, Nat.one_mul] at this ⊢
    omega
theorem ok_ptext (T : TX K mg C_Line) : ∀ n : Nat, FnG P w K mg base "_law_paper_text" n ["thing"] (S_ptext n) := by
  obtain ⟨f, fd, F, hm, bn⟩ := T.f__law_paper_text
  intro n
  induction n with
  | zero => exact fnG_none F hm bn fun _ _ _ ⟨_, _, _, h, _⟩ => absurd h (Nat.not_lt_zero _)
  | succ n g__law_paper_text =>
    refine fnG_of F hm bn sc__law_paper_text (by rintro _ _ _ ⟨_, rfl, _⟩; rfl) (fun cdv A outer s H E g hr => ⟨_, (dss_cons (ds_if (dt_val (de_isi rfl T.n_isinstance (dv 0) rfl T.n_tuple boot_tuple))
 (dss_one (ds_ret (de_op o_add (de_op o_add de_str (de_join de_str (de_frz (de_lc rfl sc__law_paper_text.nd (di_seq (dv 0)) (blkOk_by (by kernel_rfl)) (own := [("one", 1)]) (fun _ _ _ _ _ => (dg_name (i := 1) sc__law_paper_text.nd rfl (by first | exact Or.inl rfl | exact Or.inr rfl))) (fun _ _ _ _ _ => dts_nil) (fun _ _ _ _ _ => (dq_fn g__law_paper_text (hr.mono (by omega)) (da_cons (dv 1) da_nil))))))) de_str)))
 dss_nil)
 (dss_one (ds_ret (de_if (dt_cmp (o_isN) (dv 0) de_non) de_str (de_callTy (c_str) rfl T.n_str boot_str (da_cons (dv 0) da_nil)))))), ?_⟩) (fun _ _ _ h => h)
    rintro args R ⟨x, rfl, hw, hd, hz, q⟩
    have h24 := sz24
    simp only [body0, List.length_cons, List.length_nil, List.replicate, Nat.reduceAdd, Nat.reduceSub, List.cons_append, List.nil_append]
    cases hl : isLeaf x with
    | true =>
      refine ifF (fun Q hQ => ?_) ?_
      · try simp only [dSeq, dNext, dSet, dVar, dC, dBin, dTest, dCall, dCons, dNil, dAnd, dOr, dNot, dIf, dIfS, dRet, dRetN, dDrop, dBreak, dCont, dAug, fAddA, dTup, dLst, dFrz, dListOf, dNeg, fNeg, dSl, dNoPart, dPart, fSl, dM1, dIsi, dIsi2, dAppend, dPop, dReverse, dSetAt, dAndV, dOrV, dNotV, dB, dFld, dFldSet, dFldAdd, dMeth, dFn, dMake, dAsg, dgName, dgTwo, dgTwoL, dgThree, iSeq, iRange1, iRange2, iRange3, dFor, dLc, dYes, dKs, dKPush, dKTop, dKPop, dKLen, dOut, dFz, frzSl, stkAt, ownAt, obAt, rd1, rdL, rdD, datas, seqv, seqvs, stSl, rvSl, RV.hold, fI, fLen, fInt, fStr, fTuple, fAdd, fMul, fEq, fIn, fIsN, fIx, fJoin, List.getElem?_cons_zero, List.getElem?_cons_succ, List.getElem?_nil, List.set_cons_zero, List.set_cons_succ, List.length_cons, List.length_nil, eq_self_iff_true, true_and, and_true, Option.some.injEq, exists_eq_left']
        refine ⟨_, isi_t hw, ?_⟩
        rw [show isT x = false by cases x <;> first | rfl | cases hl]
        exact hQ
      · try simp only [dSeq, dNext, dSet, dVar, dC, dBin, dTest, dCall, dCons, dNil, dAnd, dOr, dNot, dIf, dIfS, dRet, dRetN, dDrop, dBreak, dCont, dAug, fAddA, dTup, dLst, dFrz, dListOf, dNeg, fNeg, dSl, dNoPart, dPart, fSl, dM1, dIsi, dIsi2, dAppend, dPop, dReverse, dSetAt, dAndV, dOrV, dNotV, dB, dFld, dFldSet, dFldAdd, dMeth, dFn, dMake, dAsg, dgName, dgTwo, dgTwoL, dgThree, iSeq, iRange1, iRange2, iRange3, dFor, dLc, dYes, dKs, dKPush, dKTop, dKPop, dKLen, dOut, dFz, frzSl, stkAt, ownAt, obAt, rd1, rdL, rdD, datas, seqv, seqvs, stSl, rvSl, RV.hold, fI, fLen, fInt, fStr, fTuple, fAdd, fMul, fEq, fIn, fIsN, fIx, fJoin, List.getElem?_cons_zero, List.getElem?_cons_succ, List.getElem?_nil, List.set_cons_zero, List.set_cons_succ, List.length_cons, List.length_nil, eq_self_iff_true, true_and, and_true, Option.some.injEq, exists_eq_left']
        cases x with
        | non => exact q
        | int i => exact ⟨log_ok hw, q⟩
        | str s => exact q
        | _ => cases hl
    | false =>
      cases x with
      | tup ds =>
        have hdd : deps ds < n := by have : dep (.tup ds) = 1 + deps ds := rfl; omega
        have hlen : (PT (.tup ds)).length = (joinL (Str.ofString ", ").cps.toList (PTs ds)).length + 2 := by
          show (cd "(" ++ (joinL (cd ", ") (PTs ds) ++ cd ")")).length = _
          rw [c_op, c_cl]; simp
        have hj := joinL_ge (Str.ofString ", ").cps.toList (PTs ds)
        rw [show (Str.ofString ", ").cps.toList.length = 2 by rw [d4432]; rfl] at hj
        refine ifT (fun Q hQ => ?_) ?_
        · try simp only [dSeq, dNext, dSet, dVar, dC, dBin, dTest, dCall, dCons, dNil, dAnd, dOr, dNot, dIf, dIfS, dRet, dRetN, dDrop, dBreak, dCont, dAug, fAddA, dTup, dLst, dFrz, dListOf, dNeg, fNeg, dSl, dNoPart, dPart, fSl, dM1, dIsi, dIsi2, dAppend, dPop, dReverse, dSetAt, dAndV, dOrV, dNotV, dB, dFld, dFldSet, dFldAdd, dMeth, dFn, dMake, dAsg, dgName, dgTwo, dgTwoL, dgThree, iSeq, iRange1, iRange2, iRange3, dFor, dLc, dYes, dKs, dKPush, dKTop, dKPop, dKLen, dOut, dFz, frzSl, stkAt, ownAt, obAt, rd1, rdL, rdD, datas, seqv, seqvs, stSl, rvSl, RV.hold, fI, fLen, fInt, fStr, fTuple, fAdd, fMul, fEq, fIn, fIsN, fIx, fJoin, List.getElem?_cons_zero, List.getElem?_cons_succ, List.getElem?_nil, List.set_cons_zero, List.set_cons_succ, List.length_cons, List.length_nil, eq_self_iff_true, true_and, and_true, Option.some.injEq, exists_eq_left']
          exact ⟨_, isi_t hw, hQ⟩
        · try simp only [dSeq, dNext, dSet, dVar, dC, dBin, dTest, dCall, dCons, dNil, dAnd, dOr, dNot, dIf, dIfS, dRet, dRetN, dDrop, dBreak, dCont, dAug, fAddA, dTup, dLst, dFrz, dListOf, dNeg, fNeg, dSl, dNoPart, dPart, fSl, dM1, dIsi, dIsi2, dAppend, dPop, dReverse, dSetAt, dAndV, dOrV, dNotV, dB, dFld, dFldSet, dFldAdd, dMeth, dFn, dMake, dAsg, dgName, dgTwo, dgTwoL, dgThree, iSeq, iRange1, iRange2, iRange3, dFor, dLc, dYes, dKs, dKPush, dKTop, dKPop, dKLen, dOut, dFz, frzSl, stkAt, ownAt, obAt, rd1, rdL, rdD, datas, seqv, seqvs, stSl, rvSl, RV.hold, fI, fLen, fInt, fStr, fTuple, fAdd, fMul, fEq, fIn, fIsN, fIx, fJoin, List.getElem?_cons_zero, List.getElem?_cons_succ, List.getElem?_nil, List.set_cons_zero, List.set_cons_succ, List.length_cons, List.length_nil, eq_self_iff_true, true_and, and_true, Option.some.injEq, exists_eq_left']
          refine ⟨by simp [soft, Sl.soft], ?_⟩
          refine lcGo ds (fun j acc ρ => ρ = [.dat (.tup ds), .no] ∧ acc = (ds.take j).map fun d => .str (PT d)) (fun j d acc ρ Kk hd ⟨h1, h2⟩ hK => ?step) (fun acc ρ ⟨h1, h2⟩ => ?fin) ⟨rfl, rfl⟩
          case step =>
            subst h1
            have hm := List.mem_of_getElem? hd
            refine ⟨trivial, by simp, rfl, List.nodup_nil, _, rfl, d, rfl, wfL_mem hw d hm, by have := deps_mem hm; omega, by have := PT_child hm; omega, rfl, trivial, ?_⟩
            simp only [wr, Sl.fl, Sl.mn, List.getD_cons_zero, List.getD_cons_succ, List.set_cons_zero, List.set_cons_succ]
            have hjl := (List.getElem?_eq_some_iff.mp hd).1
            refine hK _ _ (by simp [soft, Sl.soft]) ?_ ⟨rfl, ?_⟩
            · rw [h2]
              have : (PTs ds).length = ds.length := by rw [PTs_map, List.length_map]
              simp
              omega
            · rw [h2, List.take_add_one, hd]
              simp
          case fin =>
            subst h1
            rw [List.take_length] at h2
            subst h2
            refine ⟨trivial, rfl, by simp [soft, Sl.soft], PTs ds, asStrs_PT ds, ?_, ?_, ?_, ?_⟩
            · rw [show (Str.ofString ", ").cps.toList.length = 2 by rw [d4432]; rfl]
              omega
            · rw [d40]; simp only [List.length_cons, List.length_nil]; omega
            · rw [d40, d41]; simp only [List.length_append, List.length_cons, List.length_nil]; omega
            · have e : PT (.tup ds) = (Str.ofString "(").cps.toList ++ joinL (Str.ofString ", ").cps.toList (PTs ds) ++ (Str.ofString ")").cps.toList := by
                show cd "(" ++ (joinL (cd ", ") (PTs ds) ++ cd ")") = _
                rw [List.append_assoc]
              rw [e] at q
              exact q
      | non => cases hl
      | int i => cases hl
      | str s => cases hl
      | bl s => exact hw.elim
      | lst s => exact hw.elim
      | scr s => exact hw.elim
end
end K76

set_option maxRecDepth 100000
set_option maxHeartbeats 4000000
namespace K76
open PySem PySem.Spec PyProof.Rows L2 TL SkE DL
def okS (x : D) : Prop := wf x ∨ ∃ s, x = .str s
theorem isi_ex {x : D} (h : okS x) {T : String} (hT : T = "tuple" ∨ T = "list" ∨ T = "bool" ∨ T = "int" ∨ T = "str") : ∃ b, x.isi T = some b := by
  have key : ∀ y : String, (y = "NoneType" ∨ y = "int" ∨ y = "str" ∨ y = "tuple") → ∃ b, kitB y T = some b := by
    intro y hy
    rcases hy with rfl | rfl | rfl | rfl <;> rcases hT with rfl | rfl | rfl | rfl | rfl <;> first | exact ⟨true, by decide +kernel⟩ | exact ⟨false, by decide +kernel⟩
  rcases h with h | ⟨s, rfl⟩
  · cases x with
    | bl b => exact h.elim
    | lst b => exact h.elim
    | scr b => exact h.elim
    | non => exact key "NoneType" (.inl rfl)
    | int i => exact key "int" (.inr (.inl rfl))
    | str s => exact key "str" (.inr (.inr (.inl rfl)))
    | tup ds => exact key "tuple" (.inr (.inr (.inr rfl)))
  · exact key "str" (.inr (.inr (.inl rfl)))
theorem isi_l {x : D} (h : okS x) : x.isi "list" = some false := by
  have key : ∀ y : String, (y = "NoneType" ∨ y = "int" ∨ y = "str" ∨ y = "tuple") → kitB y "list" = some false := by
    intro y hy
    rcases hy with rfl | rfl | rfl | rfl <;> decide +kernel
  rcases h with h | ⟨s, rfl⟩
  · cases x with
    | bl b => exact h.elim
    | lst b => exact h.elim
    | scr b => exact h.elim
    | non => exact key "NoneType" (.inl rfl)
    | int i => exact key "int" (.inr (.inl rfl))
    | str s => exact key "str" (.inr (.inr (.inl rfl)))
    | tup ds => exact key "tuple" (.inr (.inr (.inr rfl)))
  · exact key "str" (.inr (.inr (.inl rfl)))
theorem isi_tS {x : D} (h : okS x) : x.isi "tuple" = some (isT x) := by
  rcases h with h | ⟨s, rfl⟩
  · exact isi_t h
  · exact (by decide +kernel : kitB "str" "tuple" = some false)
section
variable {P : Program} {w : World} {K : PySem.W.Frag} {mg : Str → Option Value} {base : Heap} {C_Line : Addr}
def S_same (n : Nat) : DL.Spec := fun args R _ => ∃ x : D, args = [.dat x, .dat x] ∧ okS x ∧ dep x < n ∧ nd x ≤ 2 ^ 22 ∧ R (.d (.bl true)) args
theorem nd_child : ∀ {ds : List D} {d : D}, d ∈ ds → nd d ≤ nds ds
  | a :: ds, d, h => by
    rcases List.mem_cons.mp h with rfl | h
    · simp only [nds]; omega
    · have := nd_child h; simp only [nds]; omega
theorem nds_len (ds : List D) : ds.length ≤ nds ds := by
  induction ds with
  | nil => simp
  | cons d ds ih => simp only [List.length_cons, nds]; have := nd_pos d; omega
theorem any_true (n : Nat) : ((List.replicate n (D.bl true)).any fun y => D.eqf y (.bl false)) = false := by
  induction n with
  | zero => rfl
  | succ n ih => rw [List.replicate_succ, List.any_cons, ih]; rfl
theorem ok_same (T : TX K mg C_Line) : ∀ n : Nat, FnG P w K mg base "_law_same" n ["actual", "due"] (S_same n) := by
  obtain ⟨f, fd, F, hm, bn⟩ := T.f__law_same
  intro n
  induction n with
  | zero => exact fnG_none F hm bn fun _ _ _ ⟨_, _, _, h, _⟩ => absurd h (Nat.not_lt_zero _)
  | succ n g__law_same =>
    refine fnG_of F hm bn sc__law_same (by rintro _ _ _ ⟨_, rfl, _⟩; rfl) (fun cdv A outer s H E g hr => ⟨_, (dss_cons (ds_if (dt_val (de_isi2 rfl T.n_isinstance (dv 1) rfl T.n_tuple boot_tuple rfl T.n_list boot_list))
 (dss_cons (ds_if (dt_w (dw_or (dt_cmp (o_ne (by exact hr.units)) (de_isi rfl T.n_isinstance (dv 0) rfl T.n_tuple boot_tuple) (de_isi rfl T.n_isinstance (dv 1) rfl T.n_tuple boot_tuple)) (dw_or1 (dt_cmp (o_ne (by exact hr.units)) (de_isi rfl T.n_isinstance (dv 0) rfl T.n_list boot_list) (de_isi rfl T.n_isinstance (dv 1) rfl T.n_list boot_list)))))
 (dss_one (ds_ret de_bl))
 dss_nil)
 (dss_cons (ds_if (dt_cmp (o_ne (by exact hr.units)) (de_callB (c_len) rfl T.n_len boot_len (da_cons (dv 0) da_nil)) (de_callB (c_len) rfl T.n_len boot_len (da_cons (dv 1) da_nil)))
 (dss_one (ds_ret de_bl))
 dss_nil)
 (dss_one (ds_ret (de_cmp (o_nin) de_bl (de_frz (de_lc rfl sc__law_same.nd (di_range1 rfl T.n_range (da_cons (de_callB (c_len) rfl T.n_len boot_len (da_cons (dv 1) da_nil)) da_nil)) (blkOk_by (by kernel_rfl)) (own := [("k", 2)]) (fun _ _ _ _ _ => (dg_name (i := 2) sc__law_same.nd rfl (by first | exact Or.inl rfl | exact Or.inr rfl))) (fun _ _ _ _ _ => dts_nil) (fun _ _ _ _ _ => (dq_fn g__law_same (hr.mono (by omega)) (da_cons (de_ix (dv 0) (dv 2)) (da_cons (de_ix (dv 1) (dv 2)) da_nil)))))))))))
 dss_nil)
 (dss_cons (ds_if (dt_w (dw_or (dt_cmp (o_ne (by exact hr.units)) (de_isi rfl T.n_isinstance (dv 0) rfl T.n_bool boot_bool) (de_isi rfl T.n_isinstance (dv 1) rfl T.n_bool boot_bool)) (dw_or1 (dt_cmp (o_ne (by exact hr.units)) (de_isi rfl T.n_isinstance (dv 0) rfl T.n_int boot_int) (de_isi rfl T.n_isinstance (dv 1) rfl T.n_int boot_int)))))
 (dss_one (ds_ret de_bl))
 dss_nil)
 (dss_cons (ds_if (dt_w (dw_or (dt_cmp (o_ne (by exact hr.units)) (de_isi rfl T.n_isinstance (dv 0) rfl T.n_str boot_str) (de_isi rfl T.n_isinstance (dv 1) rfl T.n_str boot_str)) (dw_or1 (dt_cmp (o_ne (by exact hr.units)) (de_cmp (o_isN) (dv 0) de_non) (de_cmp (o_isN) (dv 1) de_non)))))
 (dss_one (ds_ret de_bl))
 dss_nil)
 (dss_one (ds_ret (de_cmp (o_eq (by exact hr.units)) (dv 0) (dv 1))))))), ?_⟩) (fun _ _ _ h => h)
    rintro args R ⟨x, rfl, hw, hd, hz, q⟩
    have h24 := sz24
    simp only [body0, List.length_cons, List.length_nil, List.replicate, Nat.reduceAdd, Nat.reduceSub, List.cons_append, List.nil_append]
    obtain ⟨bB, hB⟩ := isi_ex hw (T := "bool") (.inr (.inr (.inl rfl)))
    obtain ⟨bI, hI⟩ := isi_ex hw (T := "int") (.inr (.inr (.inr (.inl rfl))))
    obtain ⟨bS, hS⟩ := isi_ex hw (T := "str") (.inr (.inr (.inr (.inr rfl))))
    have hT := isi_tS hw
    have hL := isi_l hw
    cases hl : isT x with
    | false =>
      rw [hl] at hT
      refine seq_key (fun ρ' => ρ' = [.dat x, .dat x, .no]) (fun nx hnx => ?_) ?_
      · refine ifF (fun Q hQ => ?_) (hnx _ rfl)
        try simp only [dSeq, dNext, dSet, dVar, dC, dBin, dTest, dCall, dCons, dNil, dAnd, dOr, dNot, dIf, dIfS, dRet, dRetN, dDrop, dBreak, dCont, dAug, fAddA, dTup, dLst, dFrz, dListOf, dNeg, fNeg, dSl, dNoPart, dPart, fSl, dM1, dIsi, dIsi2, dAppend, dPop, dReverse, dSetAt, dAndV, dOrV, dNotV, dB, dFld, dFldSet, dFldAdd, dMeth, dFn, dMake, dAsg, dgName, dgTwo, dgTwoL, dgThree, iSeq, iRange1, iRange2, iRange3, dFor, dLc, dYes, dKs, dKPush, dKTop, dKPop, dKLen, dOut, dFz, frzSl, stkAt, ownAt, obAt, rd1, rdL, rdD, datas, seqv, seqvs, stSl, rvSl, RV.hold, fI, fLen, fInt, fStr, fTuple, fAdd, fMul, fEq, fIn, fIsN, fIx, fJoin, List.getElem?_cons_zero, List.getElem?_cons_succ, List.getElem?_nil, List.set_cons_zero, List.set_cons_succ, List.length_cons, List.length_nil, eq_self_iff_true, true_and, and_true, Option.some.injEq, exists_eq_left']
        exact ⟨_, _, hT, hL, hQ⟩
      rintro _ rfl
      refine seq_key (fun ρ' => ρ' = [.dat x, .dat x, .no]) (fun nx hnx => ?_) ?_
      · refine ifF (fun Q hQ => ?_) (hnx _ rfl)
        try simp only [dSeq, dNext, dSet, dVar, dC, dBin, dTest, dCall, dCons, dNil, dAnd, dOr, dNot, dIf, dIfS, dRet, dRetN, dDrop, dBreak, dCont, dAug, fAddA, dTup, dLst, dFrz, dListOf, dNeg, fNeg, dSl, dNoPart, dPart, fSl, dM1, dIsi, dIsi2, dAppend, dPop, dReverse, dSetAt, dAndV, dOrV, dNotV, dB, dFld, dFldSet, dFldAdd, dMeth, dFn, dMake, dAsg, dgName, dgTwo, dgTwoL, dgThree, iSeq, iRange1, iRange2, iRange3, dFor, dLc, dYes, dKs, dKPush, dKTop, dKPop, dKLen, dOut, dFz, frzSl, stkAt, ownAt, obAt, rd1, rdL, rdD, datas, seqv, seqvs, stSl, rvSl, RV.hold, fI, fLen, fInt, fStr, fTuple, fAdd, fMul, fEq, fIn, fIsN, fIx, fJoin, List.getElem?_cons_zero, List.getElem?_cons_succ, List.getElem?_nil, List.set_cons_zero, List.set_cons_succ, List.length_cons, List.length_nil, eq_self_iff_true, true_and, and_true, Option.some.injEq, exists_eq_left']
        refine ⟨_, hB, _, hB, ?_⟩
        try simp only [dSeq, dNext, dSet, dVar, dC, dBin, dTest, dCall, dCons, dNil, dAnd, dOr, dNot, dIf, dIfS, dRet, dRetN, dDrop, dBreak, dCont, dAug, fAddA, dTup, dLst, dFrz, dListOf, dNeg, fNeg, dSl, dNoPart, dPart, fSl, dM1, dIsi, dIsi2, dAppend, dPop, dReverse, dSetAt, dAndV, dOrV, dNotV, dB, dFld, dFldSet, dFldAdd, dMeth, dFn, dMake, dAsg, dgName, dgTwo, dgTwoL, dgThree, iSeq, iRange1, iRange2, iRange3, dFor, dLc, dYes, dKs, dKPush, dKTop, dKPop, dKLen, dOut, dFz, frzSl, stkAt, ownAt, obAt, rd1, rdL, rdD, datas, seqv, seqvs, stSl, rvSl, RV.hold, fI, fLen, fInt, fStr, fTuple, fAdd, fMul, fEq, fIn, fIsN, fIx, fJoin, List.getElem?_cons_zero, List.getElem?_cons_succ, List.getElem?_nil, List.set_cons_zero, List.set_cons_succ, List.length_cons, List.length_nil, eq_self_iff_true, true_and, and_true, Option.some.injEq, exists_eq_left']
        simp only [decide_true, Bool.true_xor, Bool.not_true, Bool.false_eq_true, if_false]
        refine ⟨_, hI, _, hI, ?_⟩
        try simp only [dSeq, dNext, dSet, dVar, dC, dBin, dTest, dCall, dCons, dNil, dAnd, dOr, dNot, dIf, dIfS, dRet, dRetN, dDrop, dBreak, dCont, dAug, fAddA, dTup, dLst, dFrz, dListOf, dNeg, fNeg, dSl, dNoPart, dPart, fSl, dM1, dIsi, dIsi2, dAppend, dPop, dReverse, dSetAt, dAndV, dOrV, dNotV, dB, dFld, dFldSet, dFldAdd, dMeth, dFn, dMake, dAsg, dgName, dgTwo, dgTwoL, dgThree, iSeq, iRange1, iRange2, iRange3, dFor, dLc, dYes, dKs, dKPush, dKTop, dKPop, dKLen, dOut, dFz, frzSl, stkAt, ownAt, obAt, rd1, rdL, rdD, datas, seqv, seqvs, stSl, rvSl, RV.hold, fI, fLen, fInt, fStr, fTuple, fAdd, fMul, fEq, fIn, fIsN, fIx, fJoin, List.getElem?_cons_zero, List.getElem?_cons_succ, List.getElem?_nil, List.set_cons_zero, List.set_cons_succ, List.length_cons, List.length_nil, eq_self_iff_true, true_and, and_true, Option.some.injEq, exists_eq_left']
        simp only [decide_true, Bool.true_xor, Bool.not_true]
        exact hQ
      rintro _ rfl
      refine seq_key (fun ρ' => ρ' = [.dat x, .dat x, .no]) (fun nx hnx => ?_) ?_
      · refine ifF (fun Q hQ => ?_) (hnx _ rfl)
        try simp only [dSeq, dNext, dSet, dVar, dC, dBin, dTest, dCall, dCons, dNil, dAnd, dOr, dNot, dIf, dIfS, dRet, dRetN, dDrop, dBreak, dCont, dAug, fAddA, dTup, dLst, dFrz, dListOf, dNeg, fNeg, dSl, dNoPart, dPart, fSl, dM1, dIsi, dIsi2, dAppend, dPop, dReverse, dSetAt, dAndV, dOrV, dNotV, dB, dFld, dFldSet, dFldAdd, dMeth, dFn, dMake, dAsg, dgName, dgTwo, dgTwoL, dgThree, iSeq, iRange1, iRange2, iRange3, dFor, dLc, dYes, dKs, dKPush, dKTop, dKPop, dKLen, dOut, dFz, frzSl, stkAt, ownAt, obAt, rd1, rdL, rdD, datas, seqv, seqvs, stSl, rvSl, RV.hold, fI, fLen, fInt, fStr, fTuple, fAdd, fMul, fEq, fIn, fIsN, fIx, fJoin, List.getElem?_cons_zero, List.getElem?_cons_succ, List.getElem?_nil, List.set_cons_zero, List.set_cons_succ, List.length_cons, List.length_nil, eq_self_iff_true, true_and, and_true, Option.some.injEq, exists_eq_left']
        refine ⟨_, hS, _, hS, ?_⟩
        try simp only [dSeq, dNext, dSet, dVar, dC, dBin, dTest, dCall, dCons, dNil, dAnd, dOr, dNot, dIf, dIfS, dRet, dRetN, dDrop, dBreak, dCont, dAug, fAddA, dTup, dLst, dFrz, dListOf, dNeg, fNeg, dSl, dNoPart, dPart, fSl, dM1, dIsi, dIsi2, dAppend, dPop, dReverse, dSetAt, dAndV, dOrV, dNotV, dB, dFld, dFldSet, dFldAdd, dMeth, dFn, dMake, dAsg, dgName, dgTwo, dgTwoL, dgThree, iSeq, iRange1, iRange2, iRange3, dFor, dLc, dYes, dKs, dKPush, dKTop, dKPop, dKLen, dOut, dFz, frzSl, stkAt, ownAt, obAt, rd1, rdL, rdD, datas, seqv, seqvs, stSl, rvSl, RV.hold, fI, fLen, fInt, fStr, fTuple, fAdd, fMul, fEq, fIn, fIsN, fIx, fJoin, List.getElem?_cons_zero, List.getElem?_cons_succ, List.getElem?_nil, List.set_cons_zero, List.set_cons_succ, List.length_cons, List.length_nil, eq_self_iff_true, true_and, and_true, Option.some.injEq, exists_eq_left']
        simp only [decide_true, Bool.true_xor, Bool.not_true, Bool.false_eq_true, if_false]
        exact hQ
      rintro _ rfl
      try simp only [dSeq, dNext, dSet, dVar, dC, dBin, dTest, dCall, dCons, dNil, dAnd, dOr, dNot, dIf, dIfS, dRet, dRetN, dDrop, dBreak, dCont, dAug, fAddA, dTup, dLst, dFrz, dListOf, dNeg, fNeg, dSl, dNoPart, dPart, fSl, dM1, dIsi, dIsi2, dAppend, dPop, dReverse, dSetAt, dAndV, dOrV, dNotV, dB, dFld, dFldSet, dFldAdd, dMeth, dFn, dMake, dAsg, dgName, dgTwo, dgTwoL, dgThree, iSeq, iRange1, iRange2, iRange3, dFor, dLc, dYes, dKs, dKPush, dKTop, dKPop, dKLen, dOut, dFz, frzSl, stkAt, ownAt, obAt, rd1, rdL, rdD, datas, seqv, seqvs, stSl, rvSl, RV.hold, fI, fLen, fInt, fStr, fTuple, fAdd, fMul, fEq, fIn, fIsN, fIx, fJoin, List.getElem?_cons_zero, List.getElem?_cons_succ, List.getElem?_nil, List.set_cons_zero, List.set_cons_succ, List.length_cons, List.length_nil, eq_self_iff_true, true_and, and_true, Option.some.injEq, exists_eq_left']
      rcases hw with hw | ⟨s, rfl⟩
      · cases x with
        | non => exact ⟨rfl, rfl, q⟩
        | int i => simp only [decide_true, Bool.false_xor]; exact q
        | str s => simp only [decide_true, Bool.false_xor]; exact q
        | tup ds => cases hl
        | bl s => exact hw.elim
        | lst s => exact hw.elim
        | scr s => exact hw.elim
      · simp only [decide_true, Bool.false_xor]; exact q
    | true =>
      rw [hl] at hT
      cases x with
      | tup ds =>
        have hwf : wfL ds := by rcases hw with h | ⟨s, h⟩; exact h; cases h
        have hdd : deps ds < n := by have : dep (.tup ds) = 1 + deps ds := rfl; omega
        have hnl := nds_len ds
        have hnd : nd (.tup ds) = 2 + nds ds := rfl
        refine seq_key (fun ρ' => False) (fun nx hnx => ?_) (fun _ h => h.elim)
        refine ifT (fun Q hQ => ?_) ?_
        · try simp only [dSeq, dNext, dSet, dVar, dC, dBin, dTest, dCall, dCons, dNil, dAnd, dOr, dNot, dIf, dIfS, dRet, dRetN, dDrop, dBreak, dCont, dAug, fAddA, dTup, dLst, dFrz, dListOf, dNeg, fNeg, dSl, dNoPart, dPart, fSl, dM1, dIsi, dIsi2, dAppend, dPop, dReverse, dSetAt, dAndV, dOrV, dNotV, dB, dFld, dFldSet, dFldAdd, dMeth, dFn, dMake, dAsg, dgName, dgTwo, dgTwoL, dgThree, iSeq, iRange1, iRange2, iRange3, dFor, dLc, dYes, dKs, dKPush, dKTop, dKPop, dKLen, dOut, dFz, frzSl, stkAt, ownAt, obAt, rd1, rdL, rdD, datas, seqv, seqvs, stSl, rvSl, RV.hold, fI, fLen, fInt, fStr, fTuple, fAdd, fMul, fEq, fIn, fIsN, fIx, fJoin, List.getElem?_cons_zero, List.getElem?_cons_succ, List.getElem?_nil, List.set_cons_zero, List.set_cons_succ, List.length_cons, List.length_nil, eq_self_iff_true, true_and, and_true, Option.some.injEq, exists_eq_left']
          exact ⟨_, _, hT, hL, hQ⟩
        refine seq_key (fun ρ' => ρ' = [.dat (.tup ds), .dat (.tup ds), .no]) (fun nx hnx => ?_) ?_
        · refine ifF (fun Q hQ => ?_) (hnx _ rfl)
          try simp only [dSeq, dNext, dSet, dVar, dC, dBin, dTest, dCall, dCons, dNil, dAnd, dOr, dNot, dIf, dIfS, dRet, dRetN, dDrop, dBreak, dCont, dAug, fAddA, dTup, dLst, dFrz, dListOf, dNeg, fNeg, dSl, dNoPart, dPart, fSl, dM1, dIsi, dIsi2, dAppend, dPop, dReverse, dSetAt, dAndV, dOrV, dNotV, dB, dFld, dFldSet, dFldAdd, dMeth, dFn, dMake, dAsg, dgName, dgTwo, dgTwoL, dgThree, iSeq, iRange1, iRange2, iRange3, dFor, dLc, dYes, dKs, dKPush, dKTop, dKPop, dKLen, dOut, dFz, frzSl, stkAt, ownAt, obAt, rd1, rdL, rdD, datas, seqv, seqvs, stSl, rvSl, RV.hold, fI, fLen, fInt, fStr, fTuple, fAdd, fMul, fEq, fIn, fIsN, fIx, fJoin, List.getElem?_cons_zero, List.getElem?_cons_succ, List.getElem?_nil, List.set_cons_zero, List.set_cons_succ, List.length_cons, List.length_nil, eq_self_iff_true, true_and, and_true, Option.some.injEq, exists_eq_left']
          refine ⟨_, hT, _, hT, ?_⟩
          try simp only [dSeq, dNext, dSet, dVar, dC, dBin, dTest, dCall, dCons, dNil, dAnd, dOr, dNot, dIf, dIfS, dRet, dRetN, dDrop, dBreak, dCont, dAug, fAddA, dTup, dLst, dFrz, dListOf, dNeg, fNeg, dSl, dNoPart, dPart, fSl, dM1, dIsi, dIsi2, dAppend, dPop, dReverse, dSetAt, dAndV, dOrV, dNotV, dB, dFld, dFldSet, dFldAdd, dMeth, dFn, dMake, dAsg, dgName, dgTwo, dgTwoL, dgThree, iSeq, iRange1, iRange2, iRange3, dFor, dLc, dYes, dKs, dKPush, dKTop, dKPop, dKLen, dOut, dFz, frzSl, stkAt, ownAt, obAt, rd1, rdL, rdD, datas, seqv, seqvs, stSl, rvSl, RV.hold, fI, fLen, fInt, fStr, fTuple, fAdd, fMul, fEq, fIn, fIsN, fIx, fJoin, List.getElem?_cons_zero, List.getElem?_cons_succ, List.getElem?_nil, List.set_cons_zero, List.set_cons_succ, List.length_cons, List.length_nil, eq_self_iff_true, true_and, and_true, Option.some.injEq, exists_eq_left']
          simp only [decide_true, Bool.true_xor, Bool.not_true, Bool.false_eq_true, if_false]
          refine ⟨_, hL, _, hL, ?_⟩
          try simp only [dSeq, dNext, dSet, dVar, dC, dBin, dTest, dCall, dCons, dNil, dAnd, dOr, dNot, dIf, dIfS, dRet, dRetN, dDrop, dBreak, dCont, dAug, fAddA, dTup, dLst, dFrz, dListOf, dNeg, fNeg, dSl, dNoPart, dPart, fSl, dM1, dIsi, dIsi2, dAppend, dPop, dReverse, dSetAt, dAndV, dOrV, dNotV, dB, dFld, dFldSet, dFldAdd, dMeth, dFn, dMake, dAsg, dgName, dgTwo, dgTwoL, dgThree, iSeq, iRange1, iRange2, iRange3, dFor, dLc, dYes, dKs, dKPush, dKTop, dKPop, dKLen, dOut, dFz, frzSl, stkAt, ownAt, obAt, rd1, rdL, rdD, datas, seqv, seqvs, stSl, rvSl, RV.hold, fI, fLen, fInt, fStr, fTuple, fAdd, fMul, fEq, fIn, fIsN, fIx, fJoin, List.getElem?_cons_zero, List.getElem?_cons_succ, List.getElem?_nil, List.set_cons_zero, List.set_cons_succ, List.length_cons, List.length_nil, eq_self_iff_true, true_and, and_true, Option.some.injEq, exists_eq_left']
          simp only [decide_true, Bool.true_xor, Bool.not_true]
          exact hQ
        rintro _ rfl
        refine seq_key (fun ρ' => ρ' = [.dat (.tup ds), .dat (.tup ds), .no]) (fun nx hnx => ?_) ?_
        · refine ifF (fun Q hQ => ?_) (hnx _ rfl)
          try simp only [dSeq, dNext, dSet, dVar, dC, dBin, dTest, dCall, dCons, dNil, dAnd, dOr, dNot, dIf, dIfS, dRet, dRetN, dDrop, dBreak, dCont, dAug, fAddA, dTup, dLst, dFrz, dListOf, dNeg, fNeg, dSl, dNoPart, dPart, fSl, dM1, dIsi, dIsi2, dAppend, dPop, dReverse, dSetAt, dAndV, dOrV, dNotV, dB, dFld, dFldSet, dFldAdd, dMeth, dFn, dMake, dAsg, dgName, dgTwo, dgTwoL, dgThree, iSeq, iRange1, iRange2, iRange3, dFor, dLc, dYes, dKs, dKPush, dKTop, dKPop, dKLen, dOut, dFz, frzSl, stkAt, ownAt, obAt, rd1, rdL, rdD, datas, seqv, seqvs, stSl, rvSl, RV.hold, fI, fLen, fInt, fStr, fTuple, fAdd, fMul, fEq, fIn, fIsN, fIx, fJoin, List.getElem?_cons_zero, List.getElem?_cons_succ, List.getElem?_nil, List.set_cons_zero, List.set_cons_succ, List.length_cons, List.length_nil, eq_self_iff_true, true_and, and_true, Option.some.injEq, exists_eq_left']
          simp only [decide_true, Bool.true_xor, Bool.not_true]
          exact hQ
        rintro _ rfl
        try simp only [dSeq, dNext, dSet, dVar, dC, dBin, dTest, dCall, dCons, dNil, dAnd, dOr, dNot, dIf, dIfS, dRet, dRetN, dDrop, dBreak, dCont, dAug, fAddA, dTup, dLst, dFrz, dListOf, dNeg, fNeg, dSl, dNoPart, dPart, fSl, dM1, dIsi, dIsi2, dAppend, dPop, dReverse, dSetAt, dAndV, dOrV, dNotV, dB, dFld, dFldSet, dFldAdd, dMeth, dFn, dMake, dAsg, dgName, dgTwo, dgTwoL, dgThree, iSeq, iRange1, iRange2, iRange3, dFor, dLc, dYes, dKs, dKPush, dKTop, dKPop, dKLen, dOut, dFz, frzSl, stkAt, ownAt, obAt, rd1, rdL, rdD, datas, seqv, seqvs, stSl, rvSl, RV.hold, fI, fLen, fInt, fStr, fTuple, fAdd, fMul, fEq, fIn, fIsN, fIx, fJoin, List.getElem?_cons_zero, List.getElem?_cons_succ, List.getElem?_nil, List.set_cons_zero, List.set_cons_succ, List.length_cons, List.length_nil, eq_self_iff_true, true_and, and_true, Option.some.injEq, exists_eq_left']
        refine ⟨⟨by omega, by omega⟩, by simp [soft, Sl.soft], ?_⟩
        rw [show ((ds.length : Nat) : Int).toNat = ds.length by simp]
        refine lcGo (rngD 0 ds.length) (fun j acc ρ => ρ = [.dat (.tup ds), .dat (.tup ds), .no] ∧ acc = List.replicate j (.bl true)) (fun j d acc ρ Kk hd ⟨h1, h2⟩ hK => ?step) (fun acc ρ ⟨h1, h2⟩ => ?fin) ⟨rfl, rfl⟩
        case step =>
          subst h1
          obtain ⟨rfl, hj⟩ := rng_get hd
          rw [Int.zero_add]
          have hg := List.getElem?_eq_getElem hj
          have hmem : ds[j] ∈ ds := List.getElem_mem hj
          refine ⟨trivial, by simp, ?_⟩
          try simp only [dSeq, dNext, dSet, dVar, dC, dBin, dTest, dCall, dCons, dNil, dAnd, dOr, dNot, dIf, dIfS, dRet, dRetN, dDrop, dBreak, dCont, dAug, fAddA, dTup, dLst, dFrz, dListOf, dNeg, fNeg, dSl, dNoPart, dPart, fSl, dM1, dIsi, dIsi2, dAppend, dPop, dReverse, dSetAt, dAndV, dOrV, dNotV, dB, dFld, dFldSet, dFldAdd, dMeth, dFn, dMake, dAsg, dgName, dgTwo, dgTwoL, dgThree, iSeq, iRange1, iRange2, iRange3, dFor, dLc, dYes, dKs, dKPush, dKTop, dKPop, dKLen, dOut, dFz, frzSl, stkAt, ownAt, obAt, rd1, rdL, rdD, datas, seqv, seqvs, stSl, rvSl, RV.hold, fI, fLen, fInt, fStr, fTuple, fAdd, fMul, fEq, fIn, fIsN, fIx, fJoin, List.getElem?_cons_zero, List.getElem?_cons_succ, List.getElem?_nil, List.set_cons_zero, List.set_cons_succ, List.length_cons, List.length_nil, eq_self_iff_true, true_and, and_true, Option.some.injEq, exists_eq_left']
          refine ⟨_, atI_nat hg, _, atI_nat hg, List.nodup_nil, _, rfl, ds[j], rfl, .inl (wfL_mem hwf _ hmem), by have := deps_mem hmem; omega, by have := nd_child hmem; omega, rfl, trivial, ?_⟩
          simp only [wr, Sl.fl, Sl.mn, List.getD_cons_zero, List.getD_cons_succ, List.set_cons_zero, List.set_cons_succ]
          refine hK _ _ (by simp [soft, Sl.soft]) ?_ ⟨rfl, ?_⟩
          · rw [h2]; simp; omega
          · rw [h2, ← List.replicate_succ']
        case fin =>
          subst h1
          subst h2
          rw [rng_len]
          refine ⟨trivial, rfl, by simp [soft, Sl.soft], rfl, ?_, ?_⟩
          · rw [List.all_eq_true]
            intro y hy
            rw [(List.mem_replicate.mp hy).2]
            rfl
          · rw [any_true]
            exact q
      | _ => cases hl
end
end K76

set_option maxRecDepth 100000
set_option maxHeartbeats 4000000
namespace K76
open PySem PySem.Spec PyProof.Rows L2 TL SkE DL
theorem ixN_nat {n j : Nat} (h : j < n) : ixN n (j : Int) = some j := by
  unfold ixN
  rw [if_pos (by omega), if_pos (by omega)]
  simp
theorem iD_len (ns : List Int) : (iD ns).length = ns.length := by simp [iD]
theorem iD_at {ns : List Int} {j : Nat} (h : j < ns.length) : atI (iD ns) (j : Int) = some (.int ns[j]) := by
  refine atI_nat ?_
  unfold iD
  rw [List.getElem?_map, List.getElem?_eq_getElem h]
  rfl
theorem iD_set (ns : List Int) (n : Nat) (v : Int) : (iD ns).set n (.int v) = iD (ns.set n v) := by unfold iD; rw [List.map_set]
theorem iD_app (ns : List Int) (v : Int) : iD ns ++ [.int v] = iD (ns ++ [v]) := by simp [iD]
theorem iD_rev (ns : List Int) : (iD ns).reverse = iD ns.reverse := by simp [iD]
theorem p7200 : (0 : Int) < 1 * 2 ^ (7200 : Int).toNat := by rw [Int.one_mul]; exact Int.pow_pos (by decide)
theorem cut63 {α : Type} (ds : List α) : (cutL ds none (some 63)).length ≤ 63 := by
  unfold cutL
  rw [HT.sIx_none, show (some (63 : Int)) = some ((63 : Nat) : Int) from rfl, HT.sIx_nat]
  simp
  omega
theorem cut_mem {α : Type} {ds : List α} {lo hi : Option Int} {x : α} (h : x ∈ cutL ds lo hi) : x ∈ ds := List.mem_of_mem_drop (List.mem_of_mem_take h)
section
variable {P : Program} {w : World} {K : PySem.W.Frag} {mg : Str → Option Value} {base : Heap} {C_Line : Addr}
def S_draws : DL.Spec := fun args R _ => ∃ (ns : List Int) (many : Nat), args = [.dat (.scr (iD ns)), .dat (.int (many : Int))] ∧ many ≤ 1000000 ∧ ∀ ns', R (.o (.own true (iD ns'))) args
theorem ok_draws (T : TX K mg C_Line) : FnG P w K mg base "_law_draws" 1 ["script", "many"] S_draws := by
  obtain ⟨f, fd, F, hm, bn⟩ := T.f__law_draws
  refine fnG_of F hm bn sc__law_draws (by rintro _ _ _ ⟨_, _, rfl, _⟩; rfl) (fun cdv A outer s H E g hr => ⟨_, (dss_cons (ds_setLc rfl sc__law_draws.nd (i := 2) rfl rfl (sw_true rfl rfl rfl (by decide +kernel)) (di_seq (de_sl (dv 0) do_none (do_some de_int))) (blkOk_by (by kernel_rfl)) (own := [("cell", 8)]) (fun _ _ _ _ _ => (dg_name (i := 8) sc__law_draws.nd rfl (by first | exact Or.inl rfl | exact Or.inr rfl))) (fun _ _ _ _ _ => dts_nil) (fun _ _ _ _ _ => (de_op o_mod (de_callTy (c_int) rfl T.n_int boot_int (da_cons (dv 8) da_nil)) (de_op o_shl de_int de_int))))
 (dss_cons (ds_if (dt_cmp (o_eq (by exact hr.units)) (de_callB (c_len) rfl T.n_len boot_len (da_cons (dv 2) da_nil)) de_int)
 (dss_one (ds_expr (de_append 2 de_int)))
 dss_nil)
 (dss_cons (ds_set (i := 3) sc__law_draws.nd rfl (by first | exact Or.inl rfl | exact Or.inr rfl) (de_listOf rfl T.n_list (dv 2)))
 (dss_cons (ds_set (i := 4) sc__law_draws.nd rfl (by first | exact Or.inl rfl | exact Or.inr rfl) (de_lst da_nil))
 (dss_cons (ds_for PassesOwn.never rfl (di_range1 rfl T.n_range (da_cons (dv 1) da_nil)) (dg_name (i := 5) sc__law_draws.nd rfl (by first | exact Or.inl rfl | exact Or.inr rfl))
 (dss_cons (ds_set (i := 6) sc__law_draws.nd rfl (by first | exact Or.inl rfl | exact Or.inr rfl) (de_op o_mod (de_callTy (c_int) rfl T.n_int boot_int (da_cons (dv 5) da_nil)) (de_callB (c_len) rfl T.n_len boot_len (da_cons (dv 2) da_nil))))
 (dss_one (ds_if (dt_w (dw_and (dt_cmp (o_ge) (de_ix (dv 2) (dv 6)) (de_op o_pow de_int de_int)) (dw_and1 (dt_cmp (o_gt) (de_ix (dv 3) (dv 6)) de_int))))
 (dss_cons (ds_expr (de_append 4 (de_op o_mod (de_callTy (c_int) rfl T.n_int boot_int (da_cons (de_ix (dv 3) (dv 6)) da_nil)) de_int)))
 (dss_one (ds_setAt 3 (de_op o_div (de_ix (dv 3) (dv 6)) de_int) (dv 6))))
 (dss_cons (ds_set (i := 7) sc__law_draws.nd rfl (by first | exact Or.inl rfl | exact Or.inr rfl) (de_op o_mod (de_callTy (c_int) rfl T.n_int boot_int (da_cons (de_op o_add (de_op o_add (de_op o_mul (de_ix (dv 2) (dv 6)) de_int) (de_op o_mul (dv 5) de_int)) de_int) da_nil)) de_int))
 (dss_one (ds_expr (de_append 4 (de_op o_mod (de_callTy (c_int) rfl T.n_int boot_int (da_cons (de_op o_add (de_op o_add (de_op o_mul (dv 7) (dv 7)) (de_op o_mul de_int (dv 7))) (dv 5)) da_nil)) de_int)))))))))
 (dss_cons (ds_expr (de_reverse 4))
 (dss_one (ds_ret (de_out 4))))))))), ?_⟩) (fun _ _ _ h => h)
  rintro args R ⟨ns, many, rfl, hmany, q⟩
  have h24 := sz24
  simp only [body0, List.length_cons, List.length_nil, List.replicate, Nat.reduceAdd, Nat.reduceSub, List.cons_append, List.nil_append]
  refine seq_key (fun ρ' => ∃ cs : List Int, ρ' = [.dat (.scr (iD ns)), .dat (.int (many : Int)), .own true (iD cs), .no, .no, .no, .no, .no, .no] ∧ cs.length ≤ 63) (fun nx hnx => ?_) ?_
  · try simp only [dSeq, dNext, dSet, dVar, dC, dBin, dTest, dCall, dCons, dNil, dAnd, dOr, dNot, dIf, dIfS, dRet, dRetN, dDrop, dBreak, dCont, dAug, fAddA, dTup, dLst, dFrz, dListOf, dNeg, fNeg, dSl, dNoPart, dPart, fSl, dM1, dIsi, dIsi2, dAppend, dPop, dReverse, dSetAt, dAndV, dOrV, dNotV, dB, dFld, dFldSet, dFldAdd, dMeth, dFn, dMake, dAsg, dgName, dgTwo, dgTwoL, dgThree, iSeq, iRange1, iRange2, iRange3, dFor, dLc, dYes, dKs, dKPush, dKTop, dKPop, dKLen, dOut, dFz, frzSl, stkAt, ownAt, obAt, rd1, rdL, rdD, datas, seqv, seqvs, stSl, rvSl, RV.hold, fI, fLen, fInt, fStr, fTuple, fAdd, fMul, fEq, fIn, fIsN, fIx, fJoin, List.getElem?_cons_zero, List.getElem?_cons_succ, List.getElem?_nil, List.set_cons_zero, List.set_cons_succ, List.length_cons, List.length_nil, eq_self_iff_true, true_and, and_true, Option.some.injEq, exists_eq_left']
    have h63 := cut63 (iD ns)
    refine ⟨by simp [soft, Sl.soft], ?_⟩
    refine lcGo (cutL (iD ns) none (some 63)) (fun j acc ρ => ρ = [.dat (.scr (iD ns)), .dat (.int (many : Int)), .no, .no, .no, .no, .no, .no, .no] ∧ ∃ cs : List Int, acc = iD cs ∧ cs.length = j) (fun j d acc ρ Kk hd ⟨h1, cs, h2, h3⟩ hK => ?step) (fun acc ρ ⟨h1, cs, h2, h3⟩ => ?fin) ⟨rfl, [], rfl, rfl⟩
    case step =>
      subst h1
      subst h2
      have hj := (List.getElem?_eq_some_iff.mp hd).1
      have hmem := cut_mem (List.mem_of_getElem? hd)
      obtain ⟨i, _, rfl⟩ := List.mem_map.mp hmem
      refine ⟨trivial, by simp, ?_⟩
      try simp only [dSeq, dNext, dSet, dVar, dC, dBin, dTest, dCall, dCons, dNil, dAnd, dOr, dNot, dIf, dIfS, dRet, dRetN, dDrop, dBreak, dCont, dAug, fAddA, dTup, dLst, dFrz, dListOf, dNeg, fNeg, dSl, dNoPart, dPart, fSl, dM1, dIsi, dIsi2, dAppend, dPop, dReverse, dSetAt, dAndV, dOrV, dNotV, dB, dFld, dFldSet, dFldAdd, dMeth, dFn, dMake, dAsg, dgName, dgTwo, dgTwoL, dgThree, iSeq, iRange1, iRange2, iRange3, dFor, dLc, dYes, dKs, dKPush, dKTop, dKPop, dKLen, dOut, dFz, frzSl, stkAt, ownAt, obAt, rd1, rdL, rdD, datas, seqv, seqvs, stSl, rvSl, RV.hold, fI, fLen, fInt, fStr, fTuple, fAdd, fMul, fEq, fIn, fIsN, fIx, fJoin, List.getElem?_cons_zero, List.getElem?_cons_succ, List.getElem?_nil, List.set_cons_zero, List.set_cons_succ, List.length_cons, List.length_nil, eq_self_iff_true, true_and, and_true, Option.some.injEq, exists_eq_left']
      refine ⟨⟨by decide, by decide, by decide⟩, p7200, ?_⟩
      exact hK _ _ (by simp [soft, Sl.soft]) (by rw [iD_len]; omega) ⟨rfl, cs ++ [_], iD_app _ _, by simp [h3]⟩
    case fin =>
      subst h1
      subst h2
      exact ⟨trivial, rfl, by simp [soft, Sl.soft], by rw [backD_length]; simp, hnx _ ⟨cs, rfl, by rw [h3]; exact h63⟩⟩
  rintro _ ⟨cs, rfl, hcs⟩
  refine seq_key (fun ρ' => ∃ cs : List Int, ρ' = [.dat (.scr (iD ns)), .dat (.int (many : Int)), .own true (iD cs), .no, .no, .no, .no, .no, .no] ∧ 0 < cs.length ∧ cs.length ≤ 63) (fun nx hnx => ?_) ?_
  · cases cs with
    | nil =>
      refine ifT (fun Q hQ => ?_) ?_
      · try simp only [dSeq, dNext, dSet, dVar, dC, dBin, dTest, dCall, dCons, dNil, dAnd, dOr, dNot, dIf, dIfS, dRet, dRetN, dDrop, dBreak, dCont, dAug, fAddA, dTup, dLst, dFrz, dListOf, dNeg, fNeg, dSl, dNoPart, dPart, fSl, dM1, dIsi, dIsi2, dAppend, dPop, dReverse, dSetAt, dAndV, dOrV, dNotV, dB, dFld, dFldSet, dFldAdd, dMeth, dFn, dMake, dAsg, dgName, dgTwo, dgTwoL, dgThree, iSeq, iRange1, iRange2, iRange3, dFor, dLc, dYes, dKs, dKPush, dKTop, dKPop, dKLen, dOut, dFz, frzSl, stkAt, ownAt, obAt, rd1, rdL, rdD, datas, seqv, seqvs, stSl, rvSl, RV.hold, fI, fLen, fInt, fStr, fTuple, fAdd, fMul, fEq, fIn, fIsN, fIx, fJoin, List.getElem?_cons_zero, List.getElem?_cons_succ, List.getElem?_nil, List.set_cons_zero, List.set_cons_succ, List.length_cons, List.length_nil, eq_self_iff_true, true_and, and_true, Option.some.injEq, exists_eq_left']
        exact hQ
      · try simp only [dSeq, dNext, dSet, dVar, dC, dBin, dTest, dCall, dCons, dNil, dAnd, dOr, dNot, dIf, dIfS, dRet, dRetN, dDrop, dBreak, dCont, dAug, fAddA, dTup, dLst, dFrz, dListOf, dNeg, fNeg, dSl, dNoPart, dPart, fSl, dM1, dIsi, dIsi2, dAppend, dPop, dReverse, dSetAt, dAndV, dOrV, dNotV, dB, dFld, dFldSet, dFldAdd, dMeth, dFn, dMake, dAsg, dgName, dgTwo, dgTwoL, dgThree, iSeq, iRange1, iRange2, iRange3, dFor, dLc, dYes, dKs, dKPush, dKTop, dKPop, dKLen, dOut, dFz, frzSl, stkAt, ownAt, obAt, rd1, rdL, rdD, datas, seqv, seqvs, stSl, rvSl, RV.hold, fI, fLen, fInt, fStr, fTuple, fAdd, fMul, fEq, fIn, fIsN, fIx, fJoin, List.getElem?_cons_zero, List.getElem?_cons_succ, List.getElem?_nil, List.set_cons_zero, List.set_cons_succ, List.length_cons, List.length_nil, eq_self_iff_true, true_and, and_true, Option.some.injEq, exists_eq_left']
        exact ⟨by simp [iD]; omega, hnx _ ⟨[0], rfl, by simp, by simp⟩⟩
    | cons c cs =>
      refine ifF (fun Q hQ => ?_) (hnx _ ⟨c :: cs, rfl, by simp, hcs⟩)
      try simp only [dSeq, dNext, dSet, dVar, dC, dBin, dTest, dCall, dCons, dNil, dAnd, dOr, dNot, dIf, dIfS, dRet, dRetN, dDrop, dBreak, dCont, dAug, fAddA, dTup, dLst, dFrz, dListOf, dNeg, fNeg, dSl, dNoPart, dPart, fSl, dM1, dIsi, dIsi2, dAppend, dPop, dReverse, dSetAt, dAndV, dOrV, dNotV, dB, dFld, dFldSet, dFldAdd, dMeth, dFn, dMake, dAsg, dgName, dgTwo, dgTwoL, dgThree, iSeq, iRange1, iRange2, iRange3, dFor, dLc, dYes, dKs, dKPush, dKTop, dKPop, dKLen, dOut, dFz, frzSl, stkAt, ownAt, obAt, rd1, rdL, rdD, datas, seqv, seqvs, stSl, rvSl, RV.hold, fI, fLen, fInt, fStr, fTuple, fAdd, fMul, fEq, fIn, fIsN, fIx, fJoin, List.getElem?_cons_zero, List.getElem?_cons_succ, List.getElem?_nil, List.set_cons_zero, List.set_cons_succ, List.length_cons, List.length_nil, eq_self_iff_true, true_and, and_true, Option.some.injEq, exists_eq_left']
      rw [decide_eq_false (by simp [iD]; omega)]
      exact hQ
  rintro _ ⟨cs, rfl, h0, hcs⟩
  refine seq_key (fun ρ' => ρ' = [.dat (.scr (iD ns)), .dat (.int (many : Int)), .own true (iD cs), .own true (iD cs), .no, .no, .no, .no, .no]) (fun nx hnx => ⟨by simp, hnx _ rfl⟩) ?_
  rintro _ rfl
  refine seq_key (fun ρ' => ρ' = [.dat (.scr (iD ns)), .dat (.int (many : Int)), .own true (iD cs), .own true (iD cs), .own true (iD []), .no, .no, .no, .no]) (fun nx hnx => ⟨Nat.zero_le _, by simp, hnx _ rfl⟩) ?_
  rintro _ rfl
  refine seq_key (fun ρ' => ∃ (lf dr : List Int) (x5 x6 x7 x8 : Sl), ρ' = [.dat (.scr (iD ns)), .dat (.int (many : Int)), .own true (iD cs), .own true (iD lf), .own true (iD dr), x5, x6, x7, x8]) (fun nx hnx => ?_) ?_
  · refine ⟨rfl, ⟨by omega, by omega⟩, rfl, ?_⟩
    rw [show ((many : Nat) : Int).toNat = many by simp]
    refine forGo (rngD 0 many) (fun j ρ => ∃ (lf dr : List Int) (x5 x6 x7 x8 : Sl), ρ = [.dat (.scr (iD ns)), .dat (.int (many : Int)), .own true (iD cs), .own true (iD lf), .own true (iD dr), x5, x6, x7, x8] ∧ lf.length = cs.length ∧ dr.length = j)
      (fun j d ρ Kk hd ⟨lf, dr, x5, x6, x7, x8, h1, h2, h3⟩ hK => ?step) (fun ρ ⟨lf, dr, x5, x6, x7, x8, h1, h2, h3⟩ => ?fin) ⟨cs, [], _, _, _, _, rfl, rfl, rfl⟩
    case fin =>
      subst h1
      exact hnx _ ⟨_, _, _, _, _, _, rfl⟩
    case step =>
      obtain ⟨rfl, hj⟩ := rng_get hd
      subst h1
      rw [Int.zero_add]
      refine ⟨by simp, ?_⟩
      have hp : (j : Int) % (cs.length : Int) = ((j % cs.length : Nat) : Int) := by simp
      have hpl : j % cs.length < cs.length := Nat.mod_lt _ h0
      refine seq_key (fun ρ' => ρ' = [.dat (.scr (iD ns)), .dat (.int (many : Int)), .own true (iD cs), .own true (iD lf), .own true (iD dr), .dat (.int (j : Int)), .dat (.int ((j % cs.length : Nat) : Int)), x7, x8]) (fun nx hnx => ?_) ?_
      · try simp only [dSeq, dNext, dSet, dVar, dC, dBin, dTest, dCall, dCons, dNil, dAnd, dOr, dNot, dIf, dIfS, dRet, dRetN, dDrop, dBreak, dCont, dAug, fAddA, dTup, dLst, dFrz, dListOf, dNeg, fNeg, dSl, dNoPart, dPart, fSl, dM1, dIsi, dIsi2, dAppend, dPop, dReverse, dSetAt, dAndV, dOrV, dNotV, dB, dFld, dFldSet, dFldAdd, dMeth, dFn, dMake, dAsg, dgName, dgTwo, dgTwoL, dgThree, iSeq, iRange1, iRange2, iRange3, dFor, dLc, dYes, dKs, dKPush, dKTop, dKPop, dKLen, dOut, dFz, frzSl, stkAt, ownAt, obAt, rd1, rdL, rdD, datas, seqv, seqvs, stSl, rvSl, RV.hold, fI, fLen, fInt, fStr, fTuple, fAdd, fMul, fEq, fIn, fIsN, fIx, fJoin, List.getElem?_cons_zero, List.getElem?_cons_succ, List.getElem?_nil, List.set_cons_zero, List.set_cons_succ, List.length_cons, List.length_nil, eq_self_iff_true, true_and, and_true, Option.some.injEq, exists_eq_left']
        rw [iD_len, hp]
        exact ⟨by omega, by decide, hnx _ rfl⟩
      rintro _ rfl
      have done : ∀ (lf' : List Int) (v : Int) (x7 : Sl), lf'.length = cs.length → Kk [.dat (.scr (iD ns)), .dat (.int (many : Int)), .own true (iD cs), .own true (iD lf'), .own true (iD dr ++ [.int v]), .dat (.int (j : Int)), .dat (.int ((j % cs.length : Nat) : Int)), x7, x8] := fun lf' v x7 hl =>
        hK _ ⟨lf', dr ++ [v], _, _, _, _, by rw [iD_app], hl, by simp [h3]⟩
      have hdl : (iD dr).length < sizeLine := by rw [iD_len]; omega
      have big : dSeq (dDrop (dAppend 4 (dBin fMod (dCall fInt (dCons (dBin fIx (dVar 3) (dVar 6)) dNil)) (dC (D.int 1000))))) (dSetAt 3 (dVar 6) (dBin fDiv (dBin fIx (dVar 3) (dVar 6)) (dC (D.int 1000))))
          { nx := Kk, rt := (endsOf 2 R).rt, bk := nx, ct := Kk } [.dat (.scr (iD ns)), .dat (.int (many : Int)), .own true (iD cs), .own true (iD lf), .own true (iD dr), .dat (.int (j : Int)), .dat (.int ((j % cs.length : Nat) : Int)), x7, x8] := by
        have hl3 : j % cs.length < lf.length := by omega
        try simp only [dSeq, dNext, dSet, dVar, dC, dBin, dTest, dCall, dCons, dNil, dAnd, dOr, dNot, dIf, dIfS, dRet, dRetN, dDrop, dBreak, dCont, dAug, fAddA, dTup, dLst, dFrz, dListOf, dNeg, fNeg, dSl, dNoPart, dPart, fSl, dM1, dIsi, dIsi2, dAppend, dPop, dReverse, dSetAt, dAndV, dOrV, dNotV, dB, dFld, dFldSet, dFldAdd, dMeth, dFn, dMake, dAsg, dgName, dgTwo, dgTwoL, dgThree, iSeq, iRange1, iRange2, iRange3, dFor, dLc, dYes, dKs, dKPush, dKTop, dKPop, dKLen, dOut, dFz, frzSl, stkAt, ownAt, obAt, rd1, rdL, rdD, datas, seqv, seqvs, stSl, rvSl, RV.hold, fI, fLen, fInt, fStr, fTuple, fAdd, fMul, fEq, fIn, fIsN, fIx, fJoin, List.getElem?_cons_zero, List.getElem?_cons_succ, List.getElem?_nil, List.set_cons_zero, List.set_cons_succ, List.length_cons, List.length_nil, eq_self_iff_true, true_and, and_true, Option.some.injEq, exists_eq_left']
        refine ⟨_, iD_at hl3, ?_⟩
        try simp only [dSeq, dNext, dSet, dVar, dC, dBin, dTest, dCall, dCons, dNil, dAnd, dOr, dNot, dIf, dIfS, dRet, dRetN, dDrop, dBreak, dCont, dAug, fAddA, dTup, dLst, dFrz, dListOf, dNeg, fNeg, dSl, dNoPart, dPart, fSl, dM1, dIsi, dIsi2, dAppend, dPop, dReverse, dSetAt, dAndV, dOrV, dNotV, dB, dFld, dFldSet, dFldAdd, dMeth, dFn, dMake, dAsg, dgName, dgTwo, dgTwoL, dgThree, iSeq, iRange1, iRange2, iRange3, dFor, dLc, dYes, dKs, dKPush, dKTop, dKPop, dKLen, dOut, dFz, frzSl, stkAt, ownAt, obAt, rd1, rdL, rdD, datas, seqv, seqvs, stSl, rvSl, RV.hold, fI, fLen, fInt, fStr, fTuple, fAdd, fMul, fEq, fIn, fIsN, fIx, fJoin, List.getElem?_cons_zero, List.getElem?_cons_succ, List.getElem?_nil, List.set_cons_zero, List.set_cons_succ, List.length_cons, List.length_nil, eq_self_iff_true, true_and, and_true, Option.some.injEq, exists_eq_left']
        refine ⟨by decide, hdl, _, iD_at hl3, ?_⟩
        try simp only [dSeq, dNext, dSet, dVar, dC, dBin, dTest, dCall, dCons, dNil, dAnd, dOr, dNot, dIf, dIfS, dRet, dRetN, dDrop, dBreak, dCont, dAug, fAddA, dTup, dLst, dFrz, dListOf, dNeg, fNeg, dSl, dNoPart, dPart, fSl, dM1, dIsi, dIsi2, dAppend, dPop, dReverse, dSetAt, dAndV, dOrV, dNotV, dB, dFld, dFldSet, dFldAdd, dMeth, dFn, dMake, dAsg, dgName, dgTwo, dgTwoL, dgThree, iSeq, iRange1, iRange2, iRange3, dFor, dLc, dYes, dKs, dKPush, dKTop, dKPop, dKLen, dOut, dFz, frzSl, stkAt, ownAt, obAt, rd1, rdL, rdD, datas, seqv, seqvs, stSl, rvSl, RV.hold, fI, fLen, fInt, fStr, fTuple, fAdd, fMul, fEq, fIn, fIsN, fIx, fJoin, List.getElem?_cons_zero, List.getElem?_cons_succ, List.getElem?_nil, List.set_cons_zero, List.set_cons_succ, List.length_cons, List.length_nil, eq_self_iff_true, true_and, and_true, Option.some.injEq, exists_eq_left']
        refine ⟨⟨by decide, by decide⟩, j % cs.length, by rw [iD_len]; exact ixN_nat hl3, ?_⟩
        rw [iD_set]
        exact done _ _ _ (by simpa using h2)
      have small : dSeq (dSet 7 (dBin fMod (dCall fInt (dCons (dBin fAdd (dBin fAdd (dBin fMul (dBin fIx (dVar 2) (dVar 6)) (dC (D.int 48271))) (dBin fMul (dVar 5) (dC (D.int 69621)))) (dC (D.int 11))) dNil)) (dC (D.int 2147483647))))
          (dDrop (dAppend 4 (dBin fMod (dCall fInt (dCons (dBin fAdd (dBin fAdd (dBin fMul (dVar 7) (dVar 7)) (dBin fMul (dC (D.int 3)) (dVar 7))) (dVar 5)) dNil)) (dC (D.int 1000003)))))
          { nx := Kk, rt := (endsOf 2 R).rt, bk := nx, ct := Kk } [.dat (.scr (iD ns)), .dat (.int (many : Int)), .own true (iD cs), .own true (iD lf), .own true (iD dr), .dat (.int (j : Int)), .dat (.int ((j % cs.length : Nat) : Int)), x7, x8] := by
        refine seq_key (fun ρ' => ∃ v : Int, 0 ≤ v ∧ v < 2147483647 ∧ ρ' = [.dat (.scr (iD ns)), .dat (.int (many : Int)), .own true (iD cs), .own true (iD lf), .own true (iD dr), .dat (.int (j : Int)), .dat (.int ((j % cs.length : Nat) : Int)), .dat (.int v), x8]) (fun nx hnx => ?_) ?_
        · try simp only [dSeq, dNext, dSet, dVar, dC, dBin, dTest, dCall, dCons, dNil, dAnd, dOr, dNot, dIf, dIfS, dRet, dRetN, dDrop, dBreak, dCont, dAug, fAddA, dTup, dLst, dFrz, dListOf, dNeg, fNeg, dSl, dNoPart, dPart, fSl, dM1, dIsi, dIsi2, dAppend, dPop, dReverse, dSetAt, dAndV, dOrV, dNotV, dB, dFld, dFldSet, dFldAdd, dMeth, dFn, dMake, dAsg, dgName, dgTwo, dgTwoL, dgThree, iSeq, iRange1, iRange2, iRange3, dFor, dLc, dYes, dKs, dKPush, dKTop, dKPop, dKLen, dOut, dFz, frzSl, stkAt, ownAt, obAt, rd1, rdL, rdD, datas, seqv, seqvs, stSl, rvSl, RV.hold, fI, fLen, fInt, fStr, fTuple, fAdd, fMul, fEq, fIn, fIsN, fIx, fJoin, List.getElem?_cons_zero, List.getElem?_cons_succ, List.getElem?_nil, List.set_cons_zero, List.set_cons_succ, List.length_cons, List.length_nil, eq_self_iff_true, true_and, and_true, Option.some.injEq, exists_eq_left']
          refine ⟨_, iD_at hpl, ?_⟩
          try simp only [dSeq, dNext, dSet, dVar, dC, dBin, dTest, dCall, dCons, dNil, dAnd, dOr, dNot, dIf, dIfS, dRet, dRetN, dDrop, dBreak, dCont, dAug, fAddA, dTup, dLst, dFrz, dListOf, dNeg, fNeg, dSl, dNoPart, dPart, fSl, dM1, dIsi, dIsi2, dAppend, dPop, dReverse, dSetAt, dAndV, dOrV, dNotV, dB, dFld, dFldSet, dFldAdd, dMeth, dFn, dMake, dAsg, dgName, dgTwo, dgTwoL, dgThree, iSeq, iRange1, iRange2, iRange3, dFor, dLc, dYes, dKs, dKPush, dKTop, dKPop, dKLen, dOut, dFz, frzSl, stkAt, ownAt, obAt, rd1, rdL, rdD, datas, seqv, seqvs, stSl, rvSl, RV.hold, fI, fLen, fInt, fStr, fTuple, fAdd, fMul, fEq, fIn, fIsN, fIx, fJoin, List.getElem?_cons_zero, List.getElem?_cons_succ, List.getElem?_nil, List.set_cons_zero, List.set_cons_succ, List.length_cons, List.length_nil, eq_self_iff_true, true_and, and_true, Option.some.injEq, exists_eq_left']
          refine ⟨CMul.ok (.inr ⟨by decide, by decide⟩), CMul.ok (.inr ⟨by decide, by decide⟩), by decide, by decide, ?_⟩
          exact hnx _ ⟨_, Int.emod_nonneg _ (by decide), Int.emod_lt_of_pos _ (by decide), rfl⟩
        · rintro _ ⟨v, hv0, hv1, rfl⟩
          try simp only [dSeq, dNext, dSet, dVar, dC, dBin, dTest, dCall, dCons, dNil, dAnd, dOr, dNot, dIf, dIfS, dRet, dRetN, dDrop, dBreak, dCont, dAug, fAddA, dTup, dLst, dFrz, dListOf, dNeg, fNeg, dSl, dNoPart, dPart, fSl, dM1, dIsi, dIsi2, dAppend, dPop, dReverse, dSetAt, dAndV, dOrV, dNotV, dB, dFld, dFldSet, dFldAdd, dMeth, dFn, dMake, dAsg, dgName, dgTwo, dgTwoL, dgThree, iSeq, iRange1, iRange2, iRange3, dFor, dLc, dYes, dKs, dKPush, dKTop, dKPop, dKLen, dOut, dFz, frzSl, stkAt, ownAt, obAt, rd1, rdL, rdD, datas, seqv, seqvs, stSl, rvSl, RV.hold, fI, fLen, fInt, fStr, fTuple, fAdd, fMul, fEq, fIn, fIsN, fIx, fJoin, List.getElem?_cons_zero, List.getElem?_cons_succ, List.getElem?_nil, List.set_cons_zero, List.set_cons_succ, List.length_cons, List.length_nil, eq_self_iff_true, true_and, and_true, Option.some.injEq, exists_eq_left']
          refine ⟨CMul.ok (.inr ⟨by omega, by omega⟩), CMul.ok (.inl ⟨by decide, by decide⟩), by decide, hdl, done _ _ _ h2⟩
      by_cases c1 : (10 : Int) ^ (18 : Int).toNat ≤ cs[j % cs.length]
      · by_cases c2 : (0 : Int) < lf[j % cs.length]'(by omega)
        · refine ifT (fun Q hQ => ?_) big
          try simp only [dSeq, dNext, dSet, dVar, dC, dBin, dTest, dCall, dCons, dNil, dAnd, dOr, dNot, dIf, dIfS, dRet, dRetN, dDrop, dBreak, dCont, dAug, fAddA, dTup, dLst, dFrz, dListOf, dNeg, fNeg, dSl, dNoPart, dPart, fSl, dM1, dIsi, dIsi2, dAppend, dPop, dReverse, dSetAt, dAndV, dOrV, dNotV, dB, dFld, dFldSet, dFldAdd, dMeth, dFn, dMake, dAsg, dgName, dgTwo, dgTwoL, dgThree, iSeq, iRange1, iRange2, iRange3, dFor, dLc, dYes, dKs, dKPush, dKTop, dKPop, dKLen, dOut, dFz, frzSl, stkAt, ownAt, obAt, rd1, rdL, rdD, datas, seqv, seqvs, stSl, rvSl, RV.hold, fI, fLen, fInt, fStr, fTuple, fAdd, fMul, fEq, fIn, fIsN, fIx, fJoin, List.getElem?_cons_zero, List.getElem?_cons_succ, List.getElem?_nil, List.set_cons_zero, List.set_cons_succ, List.length_cons, List.length_nil, eq_self_iff_true, true_and, and_true, Option.some.injEq, exists_eq_left']
          refine ⟨_, iD_at hpl, ?_⟩
          try simp only [dSeq, dNext, dSet, dVar, dC, dBin, dTest, dCall, dCons, dNil, dAnd, dOr, dNot, dIf, dIfS, dRet, dRetN, dDrop, dBreak, dCont, dAug, fAddA, dTup, dLst, dFrz, dListOf, dNeg, fNeg, dSl, dNoPart, dPart, fSl, dM1, dIsi, dIsi2, dAppend, dPop, dReverse, dSetAt, dAndV, dOrV, dNotV, dB, dFld, dFldSet, dFldAdd, dMeth, dFn, dMake, dAsg, dgName, dgTwo, dgTwoL, dgThree, iSeq, iRange1, iRange2, iRange3, dFor, dLc, dYes, dKs, dKPush, dKTop, dKPop, dKLen, dOut, dFz, frzSl, stkAt, ownAt, obAt, rd1, rdL, rdD, datas, seqv, seqvs, stSl, rvSl, RV.hold, fI, fLen, fInt, fStr, fTuple, fAdd, fMul, fEq, fIn, fIsN, fIx, fJoin, List.getElem?_cons_zero, List.getElem?_cons_succ, List.getElem?_nil, List.set_cons_zero, List.set_cons_succ, List.length_cons, List.length_nil, eq_self_iff_true, true_and, and_true, Option.some.injEq, exists_eq_left']
          refine ⟨⟨by decide, by decide, by decide⟩, ?_⟩
          rw [decide_eq_true c1]
          refine ⟨_, iD_at (by omega), ?_⟩
          try simp only [dSeq, dNext, dSet, dVar, dC, dBin, dTest, dCall, dCons, dNil, dAnd, dOr, dNot, dIf, dIfS, dRet, dRetN, dDrop, dBreak, dCont, dAug, fAddA, dTup, dLst, dFrz, dListOf, dNeg, fNeg, dSl, dNoPart, dPart, fSl, dM1, dIsi, dIsi2, dAppend, dPop, dReverse, dSetAt, dAndV, dOrV, dNotV, dB, dFld, dFldSet, dFldAdd, dMeth, dFn, dMake, dAsg, dgName, dgTwo, dgTwoL, dgThree, iSeq, iRange1, iRange2, iRange3, dFor, dLc, dYes, dKs, dKPush, dKTop, dKPop, dKLen, dOut, dFz, frzSl, stkAt, ownAt, obAt, rd1, rdL, rdD, datas, seqv, seqvs, stSl, rvSl, RV.hold, fI, fLen, fInt, fStr, fTuple, fAdd, fMul, fEq, fIn, fIsN, fIx, fJoin, List.getElem?_cons_zero, List.getElem?_cons_succ, List.getElem?_nil, List.set_cons_zero, List.set_cons_succ, List.length_cons, List.length_nil, eq_self_iff_true, true_and, and_true, Option.some.injEq, exists_eq_left']
          rw [decide_eq_true c2]
          exact hQ
        · refine ifF (fun Q hQ => ?_) small
          try simp only [dSeq, dNext, dSet, dVar, dC, dBin, dTest, dCall, dCons, dNil, dAnd, dOr, dNot, dIf, dIfS, dRet, dRetN, dDrop, dBreak, dCont, dAug, fAddA, dTup, dLst, dFrz, dListOf, dNeg, fNeg, dSl, dNoPart, dPart, fSl, dM1, dIsi, dIsi2, dAppend, dPop, dReverse, dSetAt, dAndV, dOrV, dNotV, dB, dFld, dFldSet, dFldAdd, dMeth, dFn, dMake, dAsg, dgName, dgTwo, dgTwoL, dgThree, iSeq, iRange1, iRange2, iRange3, dFor, dLc, dYes, dKs, dKPush, dKTop, dKPop, dKLen, dOut, dFz, frzSl, stkAt, ownAt, obAt, rd1, rdL, rdD, datas, seqv, seqvs, stSl, rvSl, RV.hold, fI, fLen, fInt, fStr, fTuple, fAdd, fMul, fEq, fIn, fIsN, fIx, fJoin, List.getElem?_cons_zero, List.getElem?_cons_succ, List.getElem?_nil, List.set_cons_zero, List.set_cons_succ, List.length_cons, List.length_nil, eq_self_iff_true, true_and, and_true, Option.some.injEq, exists_eq_left']
          refine ⟨_, iD_at hpl, ?_⟩
          try simp only [dSeq, dNext, dSet, dVar, dC, dBin, dTest, dCall, dCons, dNil, dAnd, dOr, dNot, dIf, dIfS, dRet, dRetN, dDrop, dBreak, dCont, dAug, fAddA, dTup, dLst, dFrz, dListOf, dNeg, fNeg, dSl, dNoPart, dPart, fSl, dM1, dIsi, dIsi2, dAppend, dPop, dReverse, dSetAt, dAndV, dOrV, dNotV, dB, dFld, dFldSet, dFldAdd, dMeth, dFn, dMake, dAsg, dgName, dgTwo, dgTwoL, dgThree, iSeq, iRange1, iRange2, iRange3, dFor, dLc, dYes, dKs, dKPush, dKTop, dKPop, dKLen, dOut, dFz, frzSl, stkAt, ownAt, obAt, rd1, rdL, rdD, datas, seqv, seqvs, stSl, rvSl, RV.hold, fI, fLen, fInt, fStr, fTuple, fAdd, fMul, fEq, fIn, fIsN, fIx, fJoin, List.getElem?_cons_zero, List.getElem?_cons_succ, List.getElem?_nil, List.set_cons_zero, List.set_cons_succ, List.length_cons, List.length_nil, eq_self_iff_true, true_and, and_true, Option.some.injEq, exists_eq_left']
          refine ⟨⟨by decide, by decide, by decide⟩, ?_⟩
          rw [decide_eq_true c1]
          refine ⟨_, iD_at (by omega), ?_⟩
          try simp only [dSeq, dNext, dSet, dVar, dC, dBin, dTest, dCall, dCons, dNil, dAnd, dOr, dNot, dIf, dIfS, dRet, dRetN, dDrop, dBreak, dCont, dAug, fAddA, dTup, dLst, dFrz, dListOf, dNeg, fNeg, dSl, dNoPart, dPart, fSl, dM1, dIsi, dIsi2, dAppend, dPop, dReverse, dSetAt, dAndV, dOrV, dNotV, dB, dFld, dFldSet, dFldAdd, dMeth, dFn, dMake, dAsg, dgName, dgTwo, dgTwoL, dgThree, iSeq, iRange1, iRange2, iRange3, dFor, dLc, dYes, dKs, dKPush, dKTop, dKPop, dKLen, dOut, dFz, frzSl, stkAt, ownAt, obAt, rd1, rdL, rdD, datas, seqv, seqvs, stSl, rvSl, RV.hold, fI, fLen, fInt, fStr, fTuple, fAdd, fMul, fEq, fIn, fIsN, fIx, fJoin, List.getElem?_cons_zero, List.getElem?_cons_succ, List.getElem?_nil, List.set_cons_zero, List.set_cons_succ, List.length_cons, List.length_nil, eq_self_iff_true, true_and, and_true, Option.some.injEq, exists_eq_left']
          rw [decide_eq_false c2]
          exact hQ
      · refine ifF (fun Q hQ => ?_) small
        try simp only [dSeq, dNext, dSet, dVar, dC, dBin, dTest, dCall, dCons, dNil, dAnd, dOr, dNot, dIf, dIfS, dRet, dRetN, dDrop, dBreak, dCont, dAug, fAddA, dTup, dLst, dFrz, dListOf, dNeg, fNeg, dSl, dNoPart, dPart, fSl, dM1, dIsi, dIsi2, dAppend, dPop, dReverse, dSetAt, dAndV, dOrV, dNotV, dB, dFld, dFldSet, dFldAdd, dMeth, dFn, dMake, dAsg, dgName, dgTwo, dgTwoL, dgThree, iSeq, iRange1, iRange2, iRange3, dFor, dLc, dYes, dKs, dKPush, dKTop, dKPop, dKLen, dOut, dFz, frzSl, stkAt, ownAt, obAt, rd1, rdL, rdD, datas, seqv, seqvs, stSl, rvSl, RV.hold, fI, fLen, fInt, fStr, fTuple, fAdd, fMul, fEq, fIn, fIsN, fIx, fJoin, List.getElem?_cons_zero, List.getElem?_cons_succ, List.getElem?_nil, List.set_cons_zero, List.set_cons_succ, List.length_cons, List.length_nil, eq_self_iff_true, true_and, and_true, Option.some.injEq, exists_eq_left']
        refine ⟨_, iD_at hpl, ?_⟩
        try simp only [dSeq, dNext, dSet, dVar, dC, dBin, dTest, dCall, dCons, dNil, dAnd, dOr, dNot, dIf, dIfS, dRet, dRetN, dDrop, dBreak, dCont, dAug, fAddA, dTup, dLst, dFrz, dListOf, dNeg, fNeg, dSl, dNoPart, dPart, fSl, dM1, dIsi, dIsi2, dAppend, dPop, dReverse, dSetAt, dAndV, dOrV, dNotV, dB, dFld, dFldSet, dFldAdd, dMeth, dFn, dMake, dAsg, dgName, dgTwo, dgTwoL, dgThree, iSeq, iRange1, iRange2, iRange3, dFor, dLc, dYes, dKs, dKPush, dKTop, dKPop, dKLen, dOut, dFz, frzSl, stkAt, ownAt, obAt, rd1, rdL, rdD, datas, seqv, seqvs, stSl, rvSl, RV.hold, fI, fLen, fInt, fStr, fTuple, fAdd, fMul, fEq, fIn, fIsN, fIx, fJoin, List.getElem?_cons_zero, List.getElem?_cons_succ, List.getElem?_nil, List.set_cons_zero, List.set_cons_succ, List.length_cons, List.length_nil, eq_self_iff_true, true_and, and_true, Option.some.injEq, exists_eq_left']
        refine ⟨⟨by decide, by decide, by decide⟩, ?_⟩
        rw [decide_eq_false c1]
        exact hQ
  rintro _ ⟨lf, dr, x5, x6, x7, x8, rfl⟩
  try simp only [dSeq, dNext, dSet, dVar, dC, dBin, dTest, dCall, dCons, dNil, dAnd, dOr, dNot, dIf, dIfS, dRet, dRetN, dDrop, dBreak, dCont, dAug, fAddA, dTup, dLst, dFrz, dListOf, dNeg, fNeg, dSl, dNoPart, dPart, fSl, dM1, dIsi, dIsi2, dAppend, dPop, dReverse, dSetAt, dAndV, dOrV, dNotV, dB, dFld, dFldSet, dFldAdd, dMeth, dFn, dMake, dAsg, dgName, dgTwo, dgTwoL, dgThree, iSeq, iRange1, iRange2, iRange3, dFor, dLc, dYes, dKs, dKPush, dKTop, dKPop, dKLen, dOut, dFz, frzSl, stkAt, ownAt, obAt, rd1, rdL, rdD, datas, seqv, seqvs, stSl, rvSl, RV.hold, fI, fLen, fInt, fStr, fTuple, fAdd, fMul, fEq, fIn, fIsN, fIx, fJoin, List.getElem?_cons_zero, List.getElem?_cons_succ, List.getElem?_nil, List.set_cons_zero, List.set_cons_succ, List.length_cons, List.length_nil, eq_self_iff_true, true_and, and_true, Option.some.injEq, exists_eq_left']
  rw [iD_rev]
  exact q _
end
end K76

set_option maxRecDepth 100000
set_option maxHeartbeats 4000000
namespace K76
open PySem PySem.Spec PyProof.Rows L2 TL SkE DL
/-- letters -/
def lett (n : Nat) (w : List Nat) : Prop := w ≠ [] ∧ w.length ≤ n ∧ ∀ c ∈ w, c ∈ LET
mutual
def wt : D → Nat
  | .tup ds => 4 + wts ds
  | _ => 1001
def wts : List D → Nat
  | [] => 0
  | d :: ds => wt d + 2 + wts ds
end
mutual
theorem nd_wt : ∀ x : D, nd x ≤ wt x
  | .tup ds => by have := nds_wt ds; simp only [nd, wt]; omega
  | .non => by simp [nd, wt]
  | .bl _ => by simp [nd, wt]
  | .int _ => by simp [nd, wt]
  | .str _ => by simp [nd, wt]
  | .lst _ => by simp [nd, wt]
  | .scr _ => by simp [nd, wt]
theorem nds_wt : ∀ ds : List D, nds ds ≤ wts ds
  | [] => Nat.le_refl _
  | d :: ds => by have := nd_wt d; have := nds_wt ds; simp only [nds, wts]; omega
end
theorem joinL_le (S : List Nat) : ∀ ps : List (List Nat), (joinL S ps).length ≤ (ps.map List.length).sum + ps.length * S.length
  | [] => Nat.zero_le _
  | [p] => by simp [joinL]
  | p :: q :: r => by
    have := joinL_le S (q :: r)
    show (p ++ (S ++ joinL S (q :: r))).length ≤ _
    simp only [List.map_cons, List.sum_cons, List.length_cons, List.length_append, Nat.add_mul, Nat.one_mul] at this ⊢
    omega
theorem leaf_len {x : D} (hw : wf x) (hl : isLeaf x = true) : (PT x).length ≤ 1001 := by
  cases x with
  | non => show (cd "none").length ≤ _; rw [c_none]; decide
  | int i =>
    have h : (natD i.natAbs).length ≤ 500 := hw
    show (DL.intD i).length ≤ _
    by_cases hi : i < 0
    · rw [intD_neg hi]; simp; omega
    · obtain ⟨n, rfl⟩ := Int.eq_ofNat_of_zero_le (show 0 ≤ i by omega)
      rw [intD_nat]
      simp at h
      omega
  | str s => exact Nat.le_trans hw.2.1 (by decide)
  | _ => cases hl
mutual
theorem PT_wt : ∀ x : D, wf x → (PT x).length ≤ wt x
  | .tup ds, h => by
    have h1 := PTs_wt ds h
    have h2 := joinL_le (cd ", ") (PTs ds)
    rw [show (cd ", ").length = 2 by rw [c_cs]; rfl] at h2
    show (cd "(" ++ (joinL (cd ", ") (PTs ds) ++ cd ")")).length ≤ 4 + wts ds
    rw [c_op, c_cl]
    simp only [List.length_append, List.length_cons, List.length_nil]
    omega
  | .non, h => leaf_len h rfl
  | .int _, h => leaf_len h rfl
  | .str _, h => leaf_len h rfl
  | .bl _, h => h.elim
  | .lst _, h => h.elim
  | .scr _, h => h.elim
theorem PTs_wt : ∀ ds : List D, wfL ds → ((PTs ds).map List.length).sum + (PTs ds).length * 2 ≤ wts ds
  | [], _ => Nat.le_refl _
  | d :: ds, h => by
    have h1 := PT_wt d h.1
    have h2 := PTs_wt ds h.2
    simp only [PTs, List.map_cons, List.sum_cons, List.length_cons, wts]
    omega
end
theorem tsz_a (a b : List K76.Tok) : tsz (a ++ b) = tsz a + tsz b := by simp [tsz]
theorem tsz_c (t : K76.Tok) (b : List K76.Tok) : tsz (t :: b) = t.tt.length + 6 + tsz b := by simp [tsz]
theorem leaf_tsz {x : D} (hw : wf x) (hl : isLeaf x = true) : tsz (tks x) ≤ 4 * 1001 := by
  cases x with
  | non => show tsz [.wd (cd "none")] ≤ _; rw [tsz_c]; show (cd "none").length + 6 + 0 ≤ _; rw [c_none]; decide
  | int i =>
    have h : (natD i.natAbs).length ≤ 500 := hw
    by_cases hi : i < 0
    · have e : tks (.int i) = [.sg 45, .nm i.natAbs] := by simp [tks, hi]
      rw [e, tsz_c, tsz_c]
      show 1 + 6 + ((natD i.natAbs).length + 6 + 0) ≤ _
      omega
    · have e : tks (.int i) = [.nm i.natAbs] := by simp [tks, hi]
      rw [e, tsz_c]
      show (natD i.natAbs).length + 6 + 0 ≤ _
      omega
  | str s =>
    have h := hw.2.1
    show tsz [.wd s] ≤ _
    rw [tsz_c]
    show s.length + 6 + 0 ≤ _
    omega
  | _ => cases hl
mutual
theorem tsz_wt : ∀ x : D, wf x → tsz (tks x) ≤ 4 * wt x
  | .tup [], h => by
    show tsz [.sg 40, .sg 41] ≤ 4 * (4 + 0)
    rw [tsz_c, tsz_c]
    show 1 + 6 + (1 + 6 + 0) ≤ _
    omega
  | .tup (d :: ds), h => by
    have h1 := tsz_wt d h.1
    have h2 := tszM_wt ds h.2
    show tsz (.sg 40 :: (tks d ++ (tksM ds ++ [.sg 41]))) ≤ 4 * (4 + (wt d + 2 + wts ds))
    rw [tsz_c, tsz_a, tsz_a, tsz_c]
    show 1 + 6 + (tsz (tks d) + (tsz (tksM ds) + (1 + 6 + 0))) ≤ _
    omega
  | .non, h => leaf_tsz h rfl
  | .int _, h => leaf_tsz h rfl
  | .str _, h => leaf_tsz h rfl
  | .bl _, h => h.elim
  | .lst _, h => h.elim
  | .scr _, h => h.elim
theorem tszM_wt : ∀ ds : List D, wfL ds → tsz (tksM ds) ≤ 4 * wts ds
  | [], _ => Nat.le_refl _
  | d :: ds, h => by
    have h1 := tsz_wt d h.1
    have h2 := tszM_wt ds h.2
    show tsz (.sg 44 :: (tks d ++ tksM ds)) ≤ 4 * (wt d + 2 + wts ds)
    rw [tsz_c, tsz_a]
    show 1 + 6 + (tsz (tks d) + tsz (tksM ds)) ≤ _
    omega
end
/-! ### the gaps of the text -/
mutual
def gtk : Nat → D → List (Nat × K76.Tok)
  | g, .non => [(g, .wd (cd "none"))]
  | g, .int i => if i < 0 then [(g, .sg 45), (0, .nm i.natAbs)] else [(g, .nm i.natAbs)]
  | g, .str w => [(g, .wd w)]
  | g, .tup [] => [(g, .sg 40), (0, .sg 41)]
  | g, .tup (d :: ds) => (g, .sg 40) :: (gtk 0 d ++ (gtkM ds ++ [(0, .sg 41)]))
  | _, _ => []
def gtkM : List D → List (Nat × K76.Tok)
  | [] => []
  | d :: ds => (0, .sg 44) :: (gtk 1 d ++ gtkM ds)
end
mutual
theorem gtk_tks : ∀ (g : Nat) (x : D), (gtk g x).map (·.2) = tks x
  | g, .tup [] => rfl
  | g, .tup (d :: ds) => by
    show Tok.sg 40 :: ((gtk 0 d ++ (gtkM ds ++ [((0 : Nat), Tok.sg 41)])).map fun p => p.2) = Tok.sg 40 :: (tks d ++ (tksM ds ++ [.sg 41]))
    rw [List.map_append, List.map_append, gtk_tks 0 d, gtkM_tks ds]
    rfl
  | g, .non => rfl
  | g, .int i => by by_cases hi : i < 0 <;> simp [gtk, tks, hi]
  | g, .str _ => rfl
  | g, .bl _ => rfl
  | g, .lst _ => rfl
  | g, .scr _ => rfl
theorem gtkM_tks : ∀ (ds : List D), (gtkM ds).map (·.2) = tksM ds
  | [] => rfl
  | d :: ds => by
    show Tok.sg 44 :: ((gtk 1 d ++ gtkM ds).map fun p => p.2) = Tok.sg 44 :: (tks d ++ tksM ds)
    rw [List.map_append, gtk_tks 1 d, gtkM_tks ds]
end
mutual
theorem gtk_PT : ∀ (g : Nat) (x : D), wf x → layP (gtk g x) = gp g ++ PT x
  | g, .tup [], h => by
    show gp g ++ ([40] ++ (gp 0 ++ ([41] ++ []))) = gp g ++ (cd "(" ++ (joinL (cd ", ") [] ++ cd ")"))
    rw [c_op, c_cl]
    rfl
  | g, .tup (d :: ds), h => by
    show gp g ++ ([40] ++ layP (gtk 0 d ++ (gtkM ds ++ [(0, .sg 41)]))) = gp g ++ (cd "(" ++ (joinL (cd ", ") (PT d :: PTs ds) ++ cd ")"))
    rw [layP_app, layP_app, gtk_PT 0 d h.1, gtkM_PT ds h.2 (PT d), c_op, c_cl]
    simp [gp, layP, Tok.tt]
  | g, .non, h => by show gp g ++ (cd "none" ++ []) = _; rw [List.append_nil]; rfl
  | g, .int i, h => by
    by_cases hi : i < 0
    · have e : gtk g (.int i) = [(g, .sg 45), (0, .nm i.natAbs)] := by simp [gtk, hi]
      rw [e]
      show gp g ++ ([45] ++ (gp 0 ++ (natD i.natAbs ++ []))) = gp g ++ DL.intD i
      rw [intD_neg hi]
      simp [gp]
    · have e : gtk g (.int i) = [(g, .nm i.natAbs)] := by simp [gtk, hi]
      rw [e]
      show gp g ++ (natD i.natAbs ++ []) = gp g ++ DL.intD i
      obtain ⟨n, rfl⟩ := Int.eq_ofNat_of_zero_le (show 0 ≤ i by omega)
      rw [List.append_nil, intD_nat]
      rfl
  | g, .str w, h => by show gp g ++ (w ++ []) = _; rw [List.append_nil]; rfl
  | g, .bl _, h => h.elim
  | g, .lst _, h => h.elim
  | g, .scr _, h => h.elim
theorem gtkM_PT : ∀ (ds : List D), wfL ds → ∀ p : List Nat, joinL (cd ", ") (p :: PTs ds) = p ++ layP (gtkM ds)
  | [], _, p => by show p = p ++ []; simp
  | d :: ds, h, p => by
    show p ++ (cd ", " ++ joinL (cd ", ") (PT d :: PTs ds)) = p ++ (gp 0 ++ ([44] ++ layP (gtk 1 d ++ gtkM ds)))
    rw [gtkM_PT ds h.2 (PT d), layP_app, gtk_PT 1 d h.1, c_cs]
    simp [gp, List.replicate]
end
/-- tokens that no token of their own kind follows -/
def sep : List K76.Tok → Prop
  | [] => True
  | [t] => t.ok
  | t :: u :: r => t.ok ∧ (t.cls = [] ∨ u.cls = []) ∧ sep (u :: r)
def opn (t : K76.Tok) : Prop := t.cls = []
theorem sep_app : ∀ {a b : List K76.Tok}, sep a → sep b → (∀ x y, a.getLast? = some x → b.head? = some y → x.cls = [] ∨ y.cls = []) → sep (a ++ b)
  | [], b, _, h, _ => h
  | [t], [], h, _, _ => h
  | [t], u :: b, h, h2, k => ⟨h, k t u rfl rfl, h2⟩
  | t :: u :: a, b, h, h2, k => ⟨h.1, h.2.1, sep_app (a := u :: a) h.2.2 h2 fun x y hx hy => k x y (by rw [List.getLast?_cons_cons]; exact hx) hy⟩
theorem sgok40 : (Tok.sg 40).ok := by show (40 : Nat) ∈ SGN; rw [mem_sgn]; omega
theorem sgok41 : (Tok.sg 41).ok := by show (41 : Nat) ∈ SGN; rw [mem_sgn]; omega
theorem sgok44 : (Tok.sg 44).ok := by show (44 : Nat) ∈ SGN; rw [mem_sgn]; omega
theorem sgok45 : (Tok.sg 45).ok := by show (45 : Nat) ∈ SGN; rw [mem_sgn]; omega
theorem wdnone : (Tok.wd (cd "none")).ok := by
  refine ⟨by rw [c_none]; simp, by rw [c_none]; decide, fun c hc => ?_⟩
  rw [c_none] at hc
  rw [mem_let]
  simp only [List.mem_cons, List.not_mem_nil, or_false] at hc
  omega
mutual
theorem sep_tks : ∀ x : D, wf x → sep (tks x)
  | .tup [], _ => ⟨sgok40, .inl rfl, sgok41⟩
  | .tup (d :: ds), h => by
    have h1 := sep_tks d h.1
    have h2 := sep_tksM ds h.2
    show sep (.sg 40 :: (tks d ++ (tksM ds ++ [.sg 41])))
    refine sep_app (a := [.sg 40]) sgok40 (sep_app h1 (sep_app h2.1 sgok41 fun x y _ hy => ?_) fun x y _ hy => ?_) fun x y hx _ => ?_
    · cases hy; exact .inr rfl
    · rcases h2.2 with e | ⟨r, e⟩
      · rw [e] at hy; cases hy; exact .inr rfl
      · rw [e] at hy; cases hy; exact .inr rfl
    · cases hx; exact .inl rfl
  | .non, _ => wdnone
  | .int i, h => by
    have hk : (Tok.nm i.natAbs).ok := Nat.le_trans h (by decide)
    by_cases hi : i < 0
    · have e : tks (.int i) = [.sg 45, .nm i.natAbs] := by simp [tks, hi]
      rw [e]
      exact ⟨sgok45, .inl rfl, hk⟩
    · have e : tks (.int i) = [.nm i.natAbs] := by simp [tks, hi]
      rw [e]
      exact hk
  | .str w, h => ⟨h.1, h.2.1, h.2.2⟩
  | .bl _, h => h.elim
  | .lst _, h => h.elim
  | .scr _, h => h.elim
theorem sep_tksM : ∀ ds : List D, wfL ds → sep (tksM ds) ∧ (tksM ds = [] ∨ ∃ r, tksM ds = .sg 44 :: r)
  | [], _ => ⟨trivial, .inl rfl⟩
  | d :: ds, h => by
    have h1 := sep_tks d h.1
    have h2 := sep_tksM ds h.2
    refine ⟨?_, .inr ⟨_, rfl⟩⟩
    show sep (.sg 44 :: (tks d ++ tksM ds))
    refine sep_app (a := [.sg 44]) sgok44 (sep_app h1 h2.1 fun x y _ hy => ?_) fun x y hx _ => ?_
    · rcases h2.2 with e | ⟨r, e⟩
      · rw [e] at hy; cases hy
      · rw [e] at hy; cases hy; exact .inr rfl
    · cases hx; exact .inl rfl
end
theorem cls_disj {t u : K76.Tok} (hu : u.ok) (h : t.cls = [] ∨ u.cls = []) : ∀ c r, u.tt = c :: r → c ∉ t.cls := fun c r e hc => by
  rcases h with h | h
  · rw [h] at hc; cases hc
  · cases u with
    | sg x =>
      have : x = c := by simpa [Tok.tt] using congrArg List.head? e
      subst this
      have h1 := mem_sgn.mp hu
      cases t with
      | sg y => cases hc
      | wd w => have := mem_let.mp hc; omega
      | nm n => have := mem_dig.mp hc; omega
    | wd w =>
      have : LET = [] := h
      have h2 : (97 : Nat) ∈ LET := mem_let.mpr (by omega)
      rw [this] at h2
      cases h2
    | nm n =>
      have : DIG = [] := h
      have h2 : (48 : Nat) ∈ DIG := mem_dig.mpr (by omega)
      rw [this] at h2
      cases h2
theorem sp_cls {t : K76.Tok} : (32 : Nat) ∉ t.cls := by
  cases t with
  | sg c => simp [Tok.cls]
  | wd w => show 32 ∉ LET; rw [mem_let]; omega
  | nm n => show 32 ∉ DIG; rw [mem_dig]; omega
theorem ok_sep : ∀ {l : List (Nat × K76.Tok)} {e : Nat}, sep (l.map (·.2)) → okL l e
  | [], _, _ => trivial
  | [(g, t)], e, h => by
    refine ⟨h, fun c r he => ?_, trivial⟩
    have : c = 32 := by
      have hm : c ∈ gp e := by show c ∈ lay [] e; rw [he]; exact List.mem_cons_self
      exact (List.mem_replicate.mp hm).2
    rw [this]
    exact sp_cls
  | (g, t) :: (g2, u) :: r, e, h => by
    have ih : okL ((g2, u) :: r) e := ok_sep h.2.2
    refine ⟨h.1, fun c rr he => ?_, ih⟩
    cases g2 with
    | zero =>
      have he' : u.tt ++ lay r e = c :: rr := he
      cases hu : u.tt with
      | nil => exact absurd hu (tt_ne ih.1)
      | cons a b =>
        rw [hu] at he'
        simp at he'
        rw [← he'.1]
        exact cls_disj ih.1 h.2.1 a b hu
    | succ g2 =>
      have he' : gp (g2 + 1) ++ (u.tt ++ lay r e) = c :: rr := he
      rw [gp_succ] at he'
      simp at he'
      rw [← he'.1]
      exact sp_cls
theorem okL_gtk {x : D} (h : wf x) : okL (gtk 0 x) 0 := ok_sep (by rw [gtk_tks]; exact sep_tks x h)
theorem lay_PT {x : D} (h : wf x) : lay (gtk 0 x) 0 = PT x := by
  rw [lay_P, gtk_PT 0 x h]
  simp [gp]
theorem rowsR_fst : ∀ (l : List (Nat × K76.Tok)) (i : Nat) (k : Nat) (d : D), (rowsR i l)[k]? = some d → ∃ t n, (l.map (·.2))[k]? = some t ∧ d = .lst [.str t.tt, n]
  | (g, t) :: r, i, 0, d, h => by
    simp [rowsR] at h
    subst h
    exact ⟨t, _, rfl, rfl⟩
  | (g, t) :: r, i, k + 1, d, h => by
    have := rowsR_fst r (i + g + t.tt.length) k d (by simpa [rowsR] using h)
    simpa using this
theorem rowsR_len : ∀ (l : List (Nat × K76.Tok)) (i : Nat), (rowsR i l).length = l.length
  | [], _ => rfl
  | (g, t) :: r, i => by simp [rowsR, rowsR_len r]
section
variable {P : Program} {w : World} {K : PySem.W.Frag} {mg : Str → Option Value} {base : Heap} {C_Line : Addr}
def S_ptoks (n : Nat) : DL.Spec := fun args R _ => ∃ x : D, args = [.dat x] ∧ wf x ∧ dep x < n ∧ wt x ≤ 2 ^ 20 ∧ R (.d (.lst ((tks x).map fun t => .str t.tt))) args
theorem ok_ptoks (T : TX K mg C_Line) (n : Nat) : FnG P w K mg base "_law_paper_tokens" (n + 3) ["thing"] (S_ptoks n) := by
  obtain ⟨f, fd, F, hm, bn⟩ := T.f__law_paper_tokens
  have g__law_paper_text := ok_ptext (P := P) (w := w) (base := base) T n
  have g__law_tokens_of := ok_ltoks (P := P) (w := w) (base := base) T
  refine fnG_of F hm bn sc__law_paper_tokens (by rintro _ _ _ ⟨_, rfl, _⟩; rfl) (fun cdv A outer s H E g hr => ⟨_, (dss_one (ds_ret (de_frz (de_lc rfl sc__law_paper_tokens.nd (di_seq (de_ix (dq_fn g__law_tokens_of (hr.mono (by omega)) (da_cons (dq_fn g__law_paper_text (hr.mono (by omega)) (da_cons (dv 0) da_nil)) da_nil)) de_int)) (blkOk_by (by kernel_rfl)) (own := [("row", 1)]) (fun _ _ _ _ _ => (dg_name (i := 1) sc__law_paper_tokens.nd rfl (by first | exact Or.inl rfl | exact Or.inr rfl))) (fun _ _ _ _ _ => dts_nil) (fun _ _ _ _ _ => (de_ix (dv 1) de_int)))))), ?_⟩) (fun _ _ _ h => h)
  rintro args R ⟨x, rfl, hw, hd, hz, q⟩
  have h24 := sz24
  have hP := PT_wt x hw
  simp only [body0, List.length_cons, List.length_nil, List.replicate, Nat.reduceAdd, Nat.reduceSub, List.cons_append, List.nil_append]
  refine ⟨rfl, List.nodup_nil, _, rfl, x, rfl, hw, hd, by omega, rfl, trivial, rfl, List.nodup_nil, _, rfl, gtk 0 x, 0, by rw [lay_PT hw], okL_gtk hw, by rw [lay_PT hw]; omega, rfl, trivial, ?_⟩
  simp only [wr, Sl.fl, Sl.mn, List.getD_cons_zero, List.getD_cons_succ, List.set_cons_zero, List.set_cons_succ]
  refine ⟨.lst (rowsR 0 (gtk 0 x)), atI_nat (j := 0) rfl, ?_⟩
  refine ⟨by simp [soft, Sl.soft], trivial, ?_⟩
  have hll : (gtk 0 x).length ≤ (PT x).length := by rw [← lay_PT hw]; exact lay_count (okL_gtk hw)
  refine lcGo (rowsR 0 (gtk 0 x)) (fun j acc ρ => ρ = [.dat x, .no] ∧ acc = ((tks x).take j).map fun t => .str t.tt) (fun j d acc ρ Kk hd ⟨h1, h2⟩ hK => ?step) (fun acc ρ ⟨h1, h2⟩ => ?fin) ⟨rfl, rfl⟩
  case step =>
    subst h1
    have hjl := (List.getElem?_eq_some_iff.mp hd).1
    rw [rowsR_len] at hjl
    obtain ⟨t, n, ht, rfl⟩ := rowsR_fst _ _ _ _ hd
    rw [gtk_tks] at ht
    refine ⟨trivial, by simp, .str t.tt, atI_nat (j := 0) rfl, ?_⟩
    refine hK _ _ (by simp [soft, Sl.soft]) ?_ ⟨rfl, ?_⟩
    · rw [h2]; simp; omega
    · rw [h2, List.take_add_one, ht]
      simp
  case fin =>
    subst h1
    rw [rowsR_len] at h2
    have e : (tks x).take (gtk 0 x).length = tks x := by
      rw [← gtk_tks 0 x, List.take_of_length_le (by simp)]
    rw [e] at h2
    subst h2
    exact ⟨trivial, rfl, by simp [soft, Sl.soft], q⟩
end
end K76

set_option maxRecDepth 100000
set_option maxHeartbeats 4000000
namespace K76
open PySem PySem.Spec PyProof.Rows L2 TL SkE DL
def sD (ws : List (List Nat)) : List D := ws.map .str
theorem atI_str {l : List Nat} {v : Int} (h0 : 0 ≤ v) (h1 : v < l.length) : ∃ c, atI l v = some c ∧ c ∈ l := by
  obtain ⟨k, rfl⟩ := Int.eq_ofNat_of_zero_le h0
  have hk : k < l.length := by omega
  exact ⟨l[k], atI_nat (List.getElem?_eq_getElem hk), List.getElem_mem hk⟩
theorem asInts_iD : ∀ ns : List Int, asInts (iD ns) = some ns
  | [] => rfl
  | n :: ns => by
    have := asInts_iD ns
    unfold iD at this ⊢
    simp only [List.map_cons, asInts, this]
theorem sum_ones (cs : List Nat) : (cs.map (List.length ∘ fun c => [c])).sum = cs.length := by
  induction cs with
  | nil => rfl
  | cons a cs ih => rw [List.map_cons, List.sum_cons, ih, List.length_cons]; simp; omega
theorem join1 {acc : List Nat} : joinL [] (acc.map fun c => [c]) = acc := by
  rw [joinL_nil]
  induction acc with
  | nil => rfl
  | cons a acc ih => rw [List.map_cons, List.flatten_cons, ih]; rfl
section
variable {P : Program} {w : World} {K : PySem.W.Frag} {mg : Str → Option Value} {base : Heap} {C_Line : Addr}
def S_words : DL.Spec := fun args R _ => ∃ (m : Bool) (ns : List Int), args = [.own m (iD ns), .dat (.int 3)] ∧ ∀ (ws : List (List Nat)) (ns' : List Int), (∀ w ∈ ws, lett 100 w) → ws.length = 3 → R (.d (.lst (sD ws))) [.own m (iD ns'), .dat (.int 3)]
theorem ok_words (T : TX K mg C_Line) : FnG P w K mg base "_law_words" 2 ["draws", "many"] S_words := by
  obtain ⟨f, fd, F, hm, bn⟩ := T.f__law_words
  have g__law_take := ok_ltake (P := P) (w := w) (base := base) T
  refine fnG_of F hm bn sc__law_words (by rintro _ _ _ ⟨_, _, rfl, _⟩; rfl) (fun cdv A outer s H E g hr => ⟨_, (dss_cons (ds_set (i := 2) sc__law_words.nd rfl (by first | exact Or.inl rfl | exact Or.inr rfl) (de_lst da_nil))
 (dss_cons (ds_for PassesOwn.never rfl (di_range1 rfl T.n_range (da_cons (dv 1) da_nil)) (dg_name (i := 3) sc__law_words.nd rfl (by first | exact Or.inl rfl | exact Or.inr rfl))
 (dss_cons (ds_set (i := 4) sc__law_words.nd rfl (by first | exact Or.inl rfl | exact Or.inr rfl) (de_op o_add de_int (dq_fn g__law_take (hr.mono (by omega)) (da_cons (dv 0) (da_cons de_int da_nil)))))
 (dss_cons (ds_if (dt_cmp (o_eq (by exact hr.units)) (dq_fn g__law_take (hr.mono (by omega)) (da_cons (dv 0) (da_cons de_int da_nil))) de_int)
 (dss_one (ds_set (i := 4) sc__law_words.nd rfl (by first | exact Or.inl rfl | exact Or.inr rfl) (de_op o_add (de_op o_add (dv 4) de_int) (dq_fn g__law_take (hr.mono (by omega)) (da_cons (dv 0) (da_cons de_int da_nil))))))
 dss_nil)
 (dss_cons (ds_set (i := 5) sc__law_words.nd rfl (by first | exact Or.inl rfl | exact Or.inr rfl) (de_join de_str (de_frz (de_lc rfl sc__law_words.nd (di_range1 rfl T.n_range (da_cons (dv 4) da_nil)) (blkOk_by (by kernel_rfl)) (own := [("j", 6)]) (fun _ _ _ _ _ => (dg_name (i := 6) sc__law_words.nd rfl (by first | exact Or.inl rfl | exact Or.inr rfl))) (fun _ _ _ _ _ => dts_nil) (fun _ _ _ _ _ => (de_ix de_str (dq_fn g__law_take (hr.mono (by omega)) (da_cons (dv 0) (da_cons de_int da_nil)))))))))
 (dss_cons (ds_if (dt_cmp (o_in) (dv 5) (dv 2))
 (dss_one (ds_set (i := 5) sc__law_words.nd rfl (by first | exact Or.inl rfl | exact Or.inr rfl) (de_op o_mul de_str (de_op o_add de_int (de_callB (c_max rfl) rfl T.n_max boot_max (da_cons (de_op o_add (de_frz (de_lst (da_cons de_int da_nil))) (de_frz (de_lc rfl sc__law_words.nd (di_seq (dv 2)) (blkOk_by (by kernel_rfl)) (own := [("other", 7)]) (fun _ _ _ _ _ => (dg_name (i := 7) sc__law_words.nd rfl (by first | exact Or.inl rfl | exact Or.inr rfl))) (fun _ _ _ _ _ => dts_nil) (fun _ _ _ _ _ => (de_callB (c_len) rfl T.n_len boot_len (da_cons (dv 7) da_nil)))))) da_nil))))))
 dss_nil)
 (dss_one (ds_expr (de_append 2 (dv 5)))))))))
 (dss_frz 2 (dss_one (ds_ret (dv 2)))))), ?_⟩) (fun _ _ _ h => h)
  rintro args R ⟨m, ns, rfl, q⟩
  have h24 := sz24
  simp only [body0, List.length_cons, List.length_nil, List.replicate, Nat.reduceAdd, Nat.reduceSub, List.cons_append, List.nil_append]
  refine seq_key (fun ρ' => ρ' = [.own m (iD ns), .dat (.int 3), .own true (sD []), .no, .no, .no, .no, .no]) (fun nx hnx => ⟨Nat.zero_le _, by simp, hnx _ rfl⟩) ?_
  rintro _ rfl
  refine seq_key (fun ρ' => ∃ (ns' : List Int) (ws : List (List Nat)) (x3 x4 x5 : Sl), ρ' = [.own m (iD ns'), .dat (.int 3), .own true (sD ws), x3, x4, x5, .no, .no] ∧ (∀ w ∈ ws, lett 100 w) ∧ ws.length = 3) (fun nx hnx => ?_) ?_
  · refine ⟨rfl, ⟨by decide, by decide⟩, rfl, ?_⟩
    refine forGo (rngD 0 3) (fun j ρ => ∃ (ns' : List Int) (ws : List (List Nat)) (x3 x4 x5 : Sl), ρ = [.own m (iD ns'), .dat (.int 3), .own true (sD ws), x3, x4, x5, .no, .no] ∧ (∀ w ∈ ws, lett (40 + j) w) ∧ ws.length = j ∧ x3.soft = true ∧ x4.soft = true ∧ x5.soft = true)
      (fun j d ρ Kk hd ⟨ns', ws, x3, x4, x5, h1, h2, h3, s3, s4, s5⟩ hK => ?step) (fun ρ ⟨ns', ws, x3, x4, x5, h1, h2, h3, _⟩ => ?fin) ⟨ns, [], _, _, _, rfl, by simp, rfl, rfl, rfl, rfl⟩
    case fin =>
      subst h1
      rw [rng_len] at h2 h3
      exact hnx _ ⟨ns', ws, _, _, _, rfl, fun w hw => ⟨(h2 w hw).1, by have := (h2 w hw).2.1; omega, (h2 w hw).2.2⟩, h3⟩
    case step =>
      obtain ⟨rfl, hj⟩ := rng_get hd
      subst h1
      rw [Int.zero_add]
      refine ⟨by simp, ?_⟩
      refine seq_key (fun ρ' => ∃ (ns2 : List Int) (z : Nat), ρ' = [.own m (iD ns2), .dat (.int 3), .own true (sD ws), .dat (.int (j : Int)), .dat (.int (z : Int)), x5, .no, .no] ∧ 1 ≤ z ∧ z ≤ 3) (fun nx hnx => ?_) ?_
      · try simp only [dSeq, dNext, dSet, dVar, dC, dBin, dTest, dCall, dCons, dNil, dAnd, dOr, dNot, dIf, dIfS, dRet, dRetN, dDrop, dBreak, dCont, dAug, fAddA, dTup, dLst, dFrz, dListOf, dNeg, fNeg, dSl, dNoPart, dPart, fSl, dM1, dIsi, dIsi2, dAppend, dPop, dReverse, dSetAt, dAndV, dOrV, dNotV, dB, dFld, dFldSet, dFldAdd, dMeth, dFn, dMake, dAsg, dgName, dgTwo, dgTwoL, dgThree, iSeq, iRange1, iRange2, iRange3, dFor, dLc, dYes, dKs, dKPush, dKTop, dKPop, dKLen, dOut, dFz, frzSl, stkAt, ownAt, obAt, rd1, rdL, rdD, datas, seqv, seqvs, stSl, rvSl, RV.hold, fI, fLen, fInt, fStr, fTuple, fAdd, fMul, fEq, fIn, fIsN, fIx, fJoin, List.getElem?_cons_zero, List.getElem?_cons_succ, List.getElem?_nil, List.set_cons_zero, List.set_cons_succ, List.length_cons, List.length_nil, eq_self_iff_true, true_and, and_true, Option.some.injEq, exists_eq_left']
        refine ⟨by simp [lent], _, rfl, false, ns', 3, rfl, by decide, fun v ns2 h0 h1 => ⟨rfl, ⟨⟨rfl, rfl⟩, trivial⟩, ?_⟩⟩
        simp only [wr, Sl.fl, Sl.mn, List.getD_cons_zero, List.getD_cons_succ, List.set_cons_zero, List.set_cons_succ]
        try simp only [dSeq, dNext, dSet, dVar, dC, dBin, dTest, dCall, dCons, dNil, dAnd, dOr, dNot, dIf, dIfS, dRet, dRetN, dDrop, dBreak, dCont, dAug, fAddA, dTup, dLst, dFrz, dListOf, dNeg, fNeg, dSl, dNoPart, dPart, fSl, dM1, dIsi, dIsi2, dAppend, dPop, dReverse, dSetAt, dAndV, dOrV, dNotV, dB, dFld, dFldSet, dFldAdd, dMeth, dFn, dMake, dAsg, dgName, dgTwo, dgTwoL, dgThree, iSeq, iRange1, iRange2, iRange3, dFor, dLc, dYes, dKs, dKPush, dKTop, dKPop, dKLen, dOut, dFz, frzSl, stkAt, ownAt, obAt, rd1, rdL, rdD, datas, seqv, seqvs, stSl, rvSl, RV.hold, fI, fLen, fInt, fStr, fTuple, fAdd, fMul, fEq, fIn, fIsN, fIx, fJoin, List.getElem?_cons_zero, List.getElem?_cons_succ, List.getElem?_nil, List.set_cons_zero, List.set_cons_succ, List.length_cons, List.length_nil, eq_self_iff_true, true_and, and_true, Option.some.injEq, exists_eq_left']
        obtain ⟨z, rfl⟩ := Int.eq_ofNat_of_zero_le h0
        exact ⟨by decide, hnx _ ⟨ns2, 1 + z, by simp, by omega, by omega⟩⟩
      rintro _ ⟨ns2, z, rfl, hz1, hz3⟩
      refine seq_key (fun ρ' => ∃ (ns2 : List Int) (z : Nat), ρ' = [.own m (iD ns2), .dat (.int 3), .own true (sD ws), .dat (.int (j : Int)), .dat (.int (z : Int)), x5, .no, .no] ∧ 1 ≤ z ∧ z ≤ 30) (fun nx hnx => ?_) ?_
      · show dTest _ _ _
        try simp only [dSeq, dNext, dSet, dVar, dC, dBin, dTest, dCall, dCons, dNil, dAnd, dOr, dNot, dIf, dIfS, dRet, dRetN, dDrop, dBreak, dCont, dAug, fAddA, dTup, dLst, dFrz, dListOf, dNeg, fNeg, dSl, dNoPart, dPart, fSl, dM1, dIsi, dIsi2, dAppend, dPop, dReverse, dSetAt, dAndV, dOrV, dNotV, dB, dFld, dFldSet, dFldAdd, dMeth, dFn, dMake, dAsg, dgName, dgTwo, dgTwoL, dgThree, iSeq, iRange1, iRange2, iRange3, dFor, dLc, dYes, dKs, dKPush, dKTop, dKPop, dKLen, dOut, dFz, frzSl, stkAt, ownAt, obAt, rd1, rdL, rdD, datas, seqv, seqvs, stSl, rvSl, RV.hold, fI, fLen, fInt, fStr, fTuple, fAdd, fMul, fEq, fIn, fIsN, fIx, fJoin, List.getElem?_cons_zero, List.getElem?_cons_succ, List.getElem?_nil, List.set_cons_zero, List.set_cons_succ, List.length_cons, List.length_nil, eq_self_iff_true, true_and, and_true, Option.some.injEq, exists_eq_left']
        refine ⟨by simp [lent], _, rfl, false, ns2, 9, rfl, by decide, fun v ns3 h0 h1 => ⟨rfl, ⟨⟨rfl, rfl⟩, trivial⟩, ?_⟩⟩
        simp only [wr, Sl.fl, Sl.mn, List.getD_cons_zero, List.getD_cons_succ, List.set_cons_zero, List.set_cons_succ]
        try simp only [dSeq, dNext, dSet, dVar, dC, dBin, dTest, dCall, dCons, dNil, dAnd, dOr, dNot, dIf, dIfS, dRet, dRetN, dDrop, dBreak, dCont, dAug, fAddA, dTup, dLst, dFrz, dListOf, dNeg, fNeg, dSl, dNoPart, dPart, fSl, dM1, dIsi, dIsi2, dAppend, dPop, dReverse, dSetAt, dAndV, dOrV, dNotV, dB, dFld, dFldSet, dFldAdd, dMeth, dFn, dMake, dAsg, dgName, dgTwo, dgTwoL, dgThree, iSeq, iRange1, iRange2, iRange3, dFor, dLc, dYes, dKs, dKPush, dKTop, dKPop, dKLen, dOut, dFz, frzSl, stkAt, ownAt, obAt, rd1, rdL, rdD, datas, seqv, seqvs, stSl, rvSl, RV.hold, fI, fLen, fInt, fStr, fTuple, fAdd, fMul, fEq, fIn, fIsN, fIx, fJoin, List.getElem?_cons_zero, List.getElem?_cons_succ, List.getElem?_nil, List.set_cons_zero, List.set_cons_succ, List.length_cons, List.length_nil, eq_self_iff_true, true_and, and_true, Option.some.injEq, exists_eq_left']
        split
        · refine ⟨by simp [lent], _, rfl, false, ns3, 20, rfl, by decide, fun v2 ns4 h0 h1 => ⟨rfl, ⟨⟨rfl, rfl⟩, trivial⟩, ?_⟩⟩
          simp only [wr, Sl.fl, Sl.mn, List.getD_cons_zero, List.getD_cons_succ, List.set_cons_zero, List.set_cons_succ]
          try simp only [dSeq, dNext, dSet, dVar, dC, dBin, dTest, dCall, dCons, dNil, dAnd, dOr, dNot, dIf, dIfS, dRet, dRetN, dDrop, dBreak, dCont, dAug, fAddA, dTup, dLst, dFrz, dListOf, dNeg, fNeg, dSl, dNoPart, dPart, fSl, dM1, dIsi, dIsi2, dAppend, dPop, dReverse, dSetAt, dAndV, dOrV, dNotV, dB, dFld, dFldSet, dFldAdd, dMeth, dFn, dMake, dAsg, dgName, dgTwo, dgTwoL, dgThree, iSeq, iRange1, iRange2, iRange3, dFor, dLc, dYes, dKs, dKPush, dKTop, dKPop, dKLen, dOut, dFz, frzSl, stkAt, ownAt, obAt, rd1, rdL, rdD, datas, seqv, seqvs, stSl, rvSl, RV.hold, fI, fLen, fInt, fStr, fTuple, fAdd, fMul, fEq, fIn, fIsN, fIx, fJoin, List.getElem?_cons_zero, List.getElem?_cons_succ, List.getElem?_nil, List.set_cons_zero, List.set_cons_succ, List.length_cons, List.length_nil, eq_self_iff_true, true_and, and_true, Option.some.injEq, exists_eq_left']
          obtain ⟨z2, rfl⟩ := Int.eq_ofNat_of_zero_le h0
          exact ⟨by decide, hnx _ ⟨ns4, z + 3 + z2, by simp, by omega, by omega⟩⟩
        · exact hnx _ ⟨ns3, z, rfl, hz1, by omega⟩
      rintro _ ⟨ns3, z, rfl, hz1, hz3⟩
      refine seq_key (fun ρ' => ∃ (ns2 : List Int) (w : List Nat), ρ' = [.own m (iD ns2), .dat (.int 3), .own true (sD ws), .dat (.int (j : Int)), .dat (.int (z : Int)), .dat (.str w), .no, .no] ∧ lett (40 + j) w) (fun nx hnx => ?_) ?_
      · try simp only [dSeq, dNext, dSet, dVar, dC, dBin, dTest, dCall, dCons, dNil, dAnd, dOr, dNot, dIf, dIfS, dRet, dRetN, dDrop, dBreak, dCont, dAug, fAddA, dTup, dLst, dFrz, dListOf, dNeg, fNeg, dSl, dNoPart, dPart, fSl, dM1, dIsi, dIsi2, dAppend, dPop, dReverse, dSetAt, dAndV, dOrV, dNotV, dB, dFld, dFldSet, dFldAdd, dMeth, dFn, dMake, dAsg, dgName, dgTwo, dgTwoL, dgThree, iSeq, iRange1, iRange2, iRange3, dFor, dLc, dYes, dKs, dKPush, dKTop, dKPop, dKLen, dOut, dFz, frzSl, stkAt, ownAt, obAt, rd1, rdL, rdD, datas, seqv, seqvs, stSl, rvSl, RV.hold, fI, fLen, fInt, fStr, fTuple, fAdd, fMul, fEq, fIn, fIsN, fIx, fJoin, List.getElem?_cons_zero, List.getElem?_cons_succ, List.getElem?_nil, List.set_cons_zero, List.set_cons_succ, List.length_cons, List.length_nil, eq_self_iff_true, true_and, and_true, Option.some.injEq, exists_eq_left']
        refine ⟨⟨by omega, by omega⟩, by simp [soft, Sl.soft], ?_⟩
        rw [show ((z : Nat) : Int).toNat = z by simp]
        refine lcGo (rngD 0 z) (fun i acc ρ => ∃ (ns2 : List Int) (cs : List Nat), ρ = [.own m (iD ns2), .dat (.int 3), .own true (sD ws), .dat (.int (j : Int)), .dat (.int (z : Int)), x5, .no, .no] ∧ acc = cs.map (fun c => .str [c]) ∧ cs.length = i ∧ ∀ c ∈ cs, c ∈ LET) (fun i d acc ρ Kk hd ⟨ns2, cs, h1, h2, h3, h4⟩ hK => ?step2) (fun acc ρ ⟨ns2, cs, h1, h2, h3, h4⟩ => ?fin2) ⟨ns3, [], rfl, rfl, rfl, by simp⟩
        case step2 =>
          subst h1
          obtain ⟨rfl, hi⟩ := rng_get hd
          refine ⟨trivial, by simp, ?_⟩
          try simp only [dSeq, dNext, dSet, dVar, dC, dBin, dTest, dCall, dCons, dNil, dAnd, dOr, dNot, dIf, dIfS, dRet, dRetN, dDrop, dBreak, dCont, dAug, fAddA, dTup, dLst, dFrz, dListOf, dNeg, fNeg, dSl, dNoPart, dPart, fSl, dM1, dIsi, dIsi2, dAppend, dPop, dReverse, dSetAt, dAndV, dOrV, dNotV, dB, dFld, dFldSet, dFldAdd, dMeth, dFn, dMake, dAsg, dgName, dgTwo, dgTwoL, dgThree, iSeq, iRange1, iRange2, iRange3, dFor, dLc, dYes, dKs, dKPush, dKTop, dKPop, dKLen, dOut, dFz, frzSl, stkAt, ownAt, obAt, rd1, rdL, rdD, datas, seqv, seqvs, stSl, rvSl, RV.hold, fI, fLen, fInt, fStr, fTuple, fAdd, fMul, fEq, fIn, fIsN, fIx, fJoin, List.getElem?_cons_zero, List.getElem?_cons_succ, List.getElem?_nil, List.set_cons_zero, List.set_cons_succ, List.length_cons, List.length_nil, eq_self_iff_true, true_and, and_true, Option.some.injEq, exists_eq_left']
          refine ⟨by simp [lent], _, rfl, false, ns2, 26, rfl, by decide, fun v ns4 h0 h1 => ⟨rfl, ⟨⟨rfl, rfl⟩, trivial⟩, ?_⟩⟩
          simp only [wr, Sl.fl, Sl.mn, List.getD_cons_zero, List.getD_cons_succ, List.set_cons_zero, List.set_cons_succ]
          try simp only [dSeq, dNext, dSet, dVar, dC, dBin, dTest, dCall, dCons, dNil, dAnd, dOr, dNot, dIf, dIfS, dRet, dRetN, dDrop, dBreak, dCont, dAug, fAddA, dTup, dLst, dFrz, dListOf, dNeg, fNeg, dSl, dNoPart, dPart, fSl, dM1, dIsi, dIsi2, dAppend, dPop, dReverse, dSetAt, dAndV, dOrV, dNotV, dB, dFld, dFldSet, dFldAdd, dMeth, dFn, dMake, dAsg, dgName, dgTwo, dgTwoL, dgThree, iSeq, iRange1, iRange2, iRange3, dFor, dLc, dYes, dKs, dKPush, dKTop, dKPop, dKLen, dOut, dFz, frzSl, stkAt, ownAt, obAt, rd1, rdL, rdD, datas, seqv, seqvs, stSl, rvSl, RV.hold, fI, fLen, fInt, fStr, fTuple, fAdd, fMul, fEq, fIn, fIsN, fIx, fJoin, List.getElem?_cons_zero, List.getElem?_cons_succ, List.getElem?_nil, List.set_cons_zero, List.set_cons_succ, List.length_cons, List.length_nil, eq_self_iff_true, true_and, and_true, Option.some.injEq, exists_eq_left']
          have hL : LET.length = 26 := by decide +kernel
          obtain ⟨c, hc, hcm⟩ := atI_str (l := LET) h0 (by rw [hL]; exact h1)
          refine ⟨by rw [show (Str.ofString "abcdefghijklmnopqrstuvwxyz").cps.toList.length = 26 from hL]; omega, c, hc, ?_⟩
          refine hK _ _ (by simp [soft, Sl.soft]) (by rw [h2]; simp; omega) ⟨ns4, cs ++ [c], rfl, by rw [h2]; simp, by simp [h3], fun x hx => ?_⟩
          rcases List.mem_append.mp hx with hx | hx
          · exact h4 x hx
          · rw [List.mem_singleton.mp hx]; exact hcm
        case fin2 =>
          subst h1
          rw [rng_len] at h3
          refine ⟨trivial, rfl, by simp [soft, Sl.soft], cs.map (fun c => [c]), ?_, ?_, ?_, ?_⟩
          · rw [h2]
            have := asStrs_map (cs.map fun c => [c])
            rw [List.map_map] at this
            exact this
          · rw [d0, List.map_map]
            rw [sum_ones]
            simp
            omega
          · rw [backD_length]; simp
          · rw [d0, join1]
            refine hnx _ ⟨ns2, cs, rfl, ?_, by omega, h4⟩
            intro e
            rw [e] at h3
            simp at h3
            omega
      rintro _ ⟨ns4, wd, rfl, hwd⟩
      refine seq_key (fun ρ' => ∃ (w : List Nat), ρ' = [.own m (iD ns4), .dat (.int 3), .own true (sD ws), .dat (.int (j : Int)), .dat (.int (z : Int)), .dat (.str w), .no, .no] ∧ lett (40 + (j + 1)) w) (fun nx hnx => ?_) ?_
      · have hall : (sD ws).all D.flat = true := by
          rw [List.all_eq_true]
          intro y hy
          obtain ⟨w, _, rfl⟩ := List.mem_map.mp hy
          rfl
        cases hb : (sD ws).any (fun y => D.eqf y (.str wd)) with
        | false =>
          refine ifF (fun Q hQ => ?_) (hnx _ ⟨wd, rfl, hwd.1, by have := hwd.2.1; omega, hwd.2.2⟩)
          try simp only [dSeq, dNext, dSet, dVar, dC, dBin, dTest, dCall, dCons, dNil, dAnd, dOr, dNot, dIf, dIfS, dRet, dRetN, dDrop, dBreak, dCont, dAug, fAddA, dTup, dLst, dFrz, dListOf, dNeg, fNeg, dSl, dNoPart, dPart, fSl, dM1, dIsi, dIsi2, dAppend, dPop, dReverse, dSetAt, dAndV, dOrV, dNotV, dB, dFld, dFldSet, dFldAdd, dMeth, dFn, dMake, dAsg, dgName, dgTwo, dgTwoL, dgThree, iSeq, iRange1, iRange2, iRange3, dFor, dLc, dYes, dKs, dKPush, dKTop, dKPop, dKLen, dOut, dFz, frzSl, stkAt, ownAt, obAt, rd1, rdL, rdD, datas, seqv, seqvs, stSl, rvSl, RV.hold, fI, fLen, fInt, fStr, fTuple, fAdd, fMul, fEq, fIn, fIsN, fIx, fJoin, List.getElem?_cons_zero, List.getElem?_cons_succ, List.getElem?_nil, List.set_cons_zero, List.set_cons_succ, List.length_cons, List.length_nil, eq_self_iff_true, true_and, and_true, Option.some.injEq, exists_eq_left']
          refine ⟨rfl, hall, ?_⟩
          rw [hb]
          exact hQ
        | true =>
          refine ifT (fun Q hQ => ?_) ?_
          · try simp only [dSeq, dNext, dSet, dVar, dC, dBin, dTest, dCall, dCons, dNil, dAnd, dOr, dNot, dIf, dIfS, dRet, dRetN, dDrop, dBreak, dCont, dAug, fAddA, dTup, dLst, dFrz, dListOf, dNeg, fNeg, dSl, dNoPart, dPart, fSl, dM1, dIsi, dIsi2, dAppend, dPop, dReverse, dSetAt, dAndV, dOrV, dNotV, dB, dFld, dFldSet, dFldAdd, dMeth, dFn, dMake, dAsg, dgName, dgTwo, dgTwoL, dgThree, iSeq, iRange1, iRange2, iRange3, dFor, dLc, dYes, dKs, dKPush, dKTop, dKPop, dKLen, dOut, dFz, frzSl, stkAt, ownAt, obAt, rd1, rdL, rdD, datas, seqv, seqvs, stSl, rvSl, RV.hold, fI, fLen, fInt, fStr, fTuple, fAdd, fMul, fEq, fIn, fIsN, fIx, fJoin, List.getElem?_cons_zero, List.getElem?_cons_succ, List.getElem?_nil, List.set_cons_zero, List.set_cons_succ, List.length_cons, List.length_nil, eq_self_iff_true, true_and, and_true, Option.some.injEq, exists_eq_left']
            refine ⟨rfl, hall, ?_⟩
            rw [hb]
            exact hQ
          · try simp only [dSeq, dNext, dSet, dVar, dC, dBin, dTest, dCall, dCons, dNil, dAnd, dOr, dNot, dIf, dIfS, dRet, dRetN, dDrop, dBreak, dCont, dAug, fAddA, dTup, dLst, dFrz, dListOf, dNeg, fNeg, dSl, dNoPart, dPart, fSl, dM1, dIsi, dIsi2, dAppend, dPop, dReverse, dSetAt, dAndV, dOrV, dNotV, dB, dFld, dFldSet, dFldAdd, dMeth, dFn, dMake, dAsg, dgName, dgTwo, dgTwoL, dgThree, iSeq, iRange1, iRange2, iRange3, dFor, dLc, dYes, dKs, dKPush, dKTop, dKPop, dKLen, dOut, dFz, frzSl, stkAt, ownAt, obAt, rd1, rdL, rdD, datas, seqv, seqvs, stSl, rvSl, RV.hold, fI, fLen, fInt, fStr, fTuple, fAdd, fMul, fEq, fIn, fIsN, fIx, fJoin, List.getElem?_cons_zero, List.getElem?_cons_succ, List.getElem?_nil, List.set_cons_zero, List.set_cons_succ, List.length_cons, List.length_nil, eq_self_iff_true, true_and, and_true, Option.some.injEq, exists_eq_left']
            refine ⟨by decide, by simp [soft, Sl.soft], by decide, ?_⟩
            refine lcGo (sD ws) (fun i acc ρ => ρ = [.own m (iD ns4), .dat (.int 3), .own true (sD ws), .dat (.int (j : Int)), .dat (.int (z : Int)), .dat (.str wd), .no, .no] ∧ acc = iD ((ws.take i).map fun w => (w.length : Int))) (fun i d acc ρ Kk hd ⟨h1, h2'⟩ hK => ?step3) (fun acc ρ ⟨h1, h2'⟩ => ?fin3) ⟨rfl, rfl⟩
            case step3 =>
              subst h1
              unfold sD at hd
              rw [List.getElem?_map] at hd
              cases hg : ws[i]? with
              | none => rw [hg] at hd; cases hd
              | some w =>
                rw [hg] at hd
                cases hd
                have hm := List.mem_of_getElem? hg
                have hi := (List.getElem?_eq_some_iff.mp hg).1
                refine ⟨⟨true, rfl⟩, by simp, ?_⟩
                try simp only [dSeq, dNext, dSet, dVar, dC, dBin, dTest, dCall, dCons, dNil, dAnd, dOr, dNot, dIf, dIfS, dRet, dRetN, dDrop, dBreak, dCont, dAug, fAddA, dTup, dLst, dFrz, dListOf, dNeg, fNeg, dSl, dNoPart, dPart, fSl, dM1, dIsi, dIsi2, dAppend, dPop, dReverse, dSetAt, dAndV, dOrV, dNotV, dB, dFld, dFldSet, dFldAdd, dMeth, dFn, dMake, dAsg, dgName, dgTwo, dgTwoL, dgThree, iSeq, iRange1, iRange2, iRange3, dFor, dLc, dYes, dKs, dKPush, dKTop, dKPop, dKLen, dOut, dFz, frzSl, stkAt, ownAt, obAt, rd1, rdL, rdD, datas, seqv, seqvs, stSl, rvSl, RV.hold, fI, fLen, fInt, fStr, fTuple, fAdd, fMul, fEq, fIn, fIsN, fIx, fJoin, List.getElem?_cons_zero, List.getElem?_cons_succ, List.getElem?_nil, List.set_cons_zero, List.set_cons_succ, List.length_cons, List.length_nil, eq_self_iff_true, true_and, and_true, Option.some.injEq, exists_eq_left']
                refine ⟨by have := (h2 w hm).2.1; omega, ?_⟩
                refine hK _ _ (by simp [soft, Sl.soft]) (by rw [h2', iD_len]; simp; omega) ⟨rfl, ?_⟩
                rw [h2', List.take_add_one, hg, iD_app]
                simp
            case fin3 =>
              subst h1
              have e : (ws.take (sD ws).length) = ws := List.take_of_length_le (by simp [sD])
              rw [e] at h2'
              subst h2'
              refine ⟨⟨true, rfl⟩, rfl, by simp [soft, Sl.soft], ?_⟩
              refine ⟨by simp [iD]; omega, 5 :: ws.map (fun w => (w.length : Int)), ?_, by simp, fun mx hmx _ => ?_⟩
              · have := asInts_iD (5 :: ws.map (fun w => (w.length : Int)))
                exact this
              · have hmx2 : 0 ≤ mx ∧ mx ≤ 40 + j := by
                  rcases List.mem_cons.mp hmx with rfl | h
                  · omega
                  · obtain ⟨w, hw, rfl⟩ := List.mem_map.mp h
                    have := (h2 w hw).2.1
                    omega
                have hz1 : (Str.ofString "z").cps.toList = [122] := by decide +kernel
                rw [hz1]
                refine ⟨⟨by omega, by omega, by simp; omega⟩, by rw [backD_length]; simp, ?_⟩
                have e2 : (List.replicate (1 + mx).toNat [122]).flatten = List.replicate (1 + mx).toNat 122 := by
                  generalize (1 + mx).toNat = n
                  induction n with
                  | zero => rfl
                  | succ n ih => rw [List.replicate_succ, List.flatten_cons, ih, List.replicate_succ]; rfl
                rw [e2]
                refine hnx _ ⟨List.replicate (1 + mx).toNat 122, rfl, ?_, by simp; omega, fun c hc => ?_⟩
                · intro h
                  have := congrArg List.length h
                  simp at this
                  omega
                · rw [(List.mem_replicate.mp hc).2, mem_let]; omega
      rintro _ ⟨w2, rfl, hw2⟩
      try simp only [dSeq, dNext, dSet, dVar, dC, dBin, dTest, dCall, dCons, dNil, dAnd, dOr, dNot, dIf, dIfS, dRet, dRetN, dDrop, dBreak, dCont, dAug, fAddA, dTup, dLst, dFrz, dListOf, dNeg, fNeg, dSl, dNoPart, dPart, fSl, dM1, dIsi, dIsi2, dAppend, dPop, dReverse, dSetAt, dAndV, dOrV, dNotV, dB, dFld, dFldSet, dFldAdd, dMeth, dFn, dMake, dAsg, dgName, dgTwo, dgTwoL, dgThree, iSeq, iRange1, iRange2, iRange3, dFor, dLc, dYes, dKs, dKPush, dKTop, dKPop, dKLen, dOut, dFz, frzSl, stkAt, ownAt, obAt, rd1, rdL, rdD, datas, seqv, seqvs, stSl, rvSl, RV.hold, fI, fLen, fInt, fStr, fTuple, fAdd, fMul, fEq, fIn, fIsN, fIx, fJoin, List.getElem?_cons_zero, List.getElem?_cons_succ, List.getElem?_nil, List.set_cons_zero, List.set_cons_succ, List.length_cons, List.length_nil, eq_self_iff_true, true_and, and_true, Option.some.injEq, exists_eq_left']
      refine ⟨by simp [sD]; omega, hK _ ⟨ns4, ws ++ [w2], .dat (.int (j : Int)), .dat (.int (z : Int)), .dat (.str w2), by simp [sD], fun w hw => ?_, by simp [h3], rfl, rfl, rfl⟩⟩
      rcases List.mem_append.mp hw with hw | hw
      · exact ⟨(h2 w hw).1, by have := (h2 w hw).2.1; omega, (h2 w hw).2.2⟩
      · rw [List.mem_singleton.mp hw]; exact hw2
  · rintro _ ⟨ns', ws, x3, x4, x5, rfl, hw, hl⟩
    try simp only [dSeq, dNext, dSet, dVar, dC, dBin, dTest, dCall, dCons, dNil, dAnd, dOr, dNot, dIf, dIfS, dRet, dRetN, dDrop, dBreak, dCont, dAug, fAddA, dTup, dLst, dFrz, dListOf, dNeg, fNeg, dSl, dNoPart, dPart, fSl, dM1, dIsi, dIsi2, dAppend, dPop, dReverse, dSetAt, dAndV, dOrV, dNotV, dB, dFld, dFldSet, dFldAdd, dMeth, dFn, dMake, dAsg, dgName, dgTwo, dgTwoL, dgThree, iSeq, iRange1, iRange2, iRange3, dFor, dLc, dYes, dKs, dKPush, dKTop, dKPop, dKLen, dOut, dFz, frzSl, stkAt, ownAt, obAt, rd1, rdL, rdD, datas, seqv, seqvs, stSl, rvSl, RV.hold, fI, fLen, fInt, fStr, fTuple, fAdd, fMul, fEq, fIn, fIsN, fIx, fJoin, List.getElem?_cons_zero, List.getElem?_cons_succ, List.getElem?_nil, List.set_cons_zero, List.set_cons_succ, List.length_cons, List.length_nil, eq_self_iff_true, true_and, and_true, Option.some.injEq, exists_eq_left']
    exact q ws ns' hw hl
end
end K76

set_option maxRecDepth 100000
set_option maxHeartbeats 4000000
namespace K76
open PySem PySem.Spec PyProof.Rows L2 TL SkE DL
def BB : Nat → Nat
  | 0 => 1001
  | n + 1 => 10 + 3 * BB n
theorem BB_ge : ∀ n, 1001 ≤ BB n
  | 0 => Nat.le_refl _
  | n + 1 => by have := BB_ge n; simp only [BB]; omega
theorem int_small {i : Int} (h : i.natAbs < 10 ^ 40) : wf (.int i) := Nat.le_trans (natD_len (k := 40) (by decide) h) (by decide)
/-- words of the papers -/
def wOk (w : List Nat) : Prop := lett 200 w
theorem wOk_wf {w : List Nat} (h : wOk w) : wf (.str w) := ⟨h.1, Nat.le_trans h.2.1 (by decide), h.2.2⟩
theorem wfL_of : ∀ {ds : List D}, (∀ d ∈ ds, wf d) → wfL ds
  | [], _ => trivial
  | d :: ds, h => ⟨h d List.mem_cons_self, wfL_of fun x hx => h x (List.mem_cons_of_mem _ hx)⟩
theorem wts_le {b : Nat} : ∀ {ds : List D}, (∀ d ∈ ds, wt d ≤ b) → wts ds ≤ ds.length * (b + 2)
  | [], _ => Nat.zero_le _
  | d :: ds, h => by
    have h1 := h d List.mem_cons_self
    have h2 := wts_le (b := b) fun x hx => h x (List.mem_cons_of_mem d hx)
    simp only [wts, List.length_cons, Nat.add_mul, Nat.one_mul]
    omega
theorem deps_le {b : Nat} : ∀ {ds : List D}, (∀ d ∈ ds, dep d ≤ b) → deps ds ≤ b
  | [], _ => Nat.zero_le _
  | d :: ds, h => Nat.max_le.mpr ⟨h d List.mem_cons_self, deps_le fun x hx => h x (List.mem_cons_of_mem d hx)⟩
section
variable {P : Program} {w : World} {K : PySem.W.Frag} {mg : Str → Option Value} {base : Heap} {C_Line : Addr}
def thOk (n : Nat) (x : D) : Prop := wf x ∧ dep x ≤ n ∧ wt x ≤ BB n
def S_thing (k : Nat) : DL.Spec := fun args R _ => ∃ (m : Bool) (ns : List Int) (ws : List (List Nat)) (n : Nat), args = [.own m (iD ns), .dat (.lst (sD ws)), .dat (.int (n : Int))] ∧ n < k ∧ ws ≠ [] ∧ (∀ w ∈ ws, wOk w) ∧
  ∀ (x : D) (ns' : List Int), thOk n x → R (.d x) [.own m (iD ns'), .dat (.lst (sD ws)), .dat (.int (n : Int))]
theorem leaf_ok {n : Nat} {x : D} (h : wf x) (hl : isLeaf x = true) : thOk n x := by
  have := BB_ge n
  cases x with
  | non => exact ⟨h, Nat.zero_le _, this⟩
  | int i => exact ⟨h, Nat.zero_le _, this⟩
  | str i => exact ⟨h, Nat.zero_le _, this⟩
  | _ => cases hl
theorem ok_thing (T : TX K mg C_Line) : ∀ k : Nat, FnG P w K mg base "_law_thing" (k + 2) ["draws", "words", "depth"] (S_thing k) := by
  obtain ⟨f, fd, F, hm, bn⟩ := T.f__law_thing
  have g__law_take := ok_ltake (P := P) (w := w) (base := base) T
  have g__law_pick := ok_lpick (P := P) (w := w) (base := base) T
  intro k
  induction k with
  | zero =>
    obtain ⟨f', fd', Cb, F0, h1, h2, h3⟩ := (fnG_none (P := P) (w := w) (base := base) F hm bn (S := S_thing 0) fun _ _ _ ⟨_, _, _, _, _, h, _⟩ => absurd h (Nat.not_lt_zero _)).ex
    exact ⟨f', fd', Cb, F0.mono (Nat.zero_le _), h1, h2, h3⟩
  | succ k g__law_thing =>
    refine fnG_of F hm bn sc__law_thing (by rintro _ _ _ ⟨_, _, _, _, rfl, _⟩; rfl) (fun cdv A outer s H E g hr => ⟨_, (dss_cons (ds_set (i := 3) sc__law_thing.nd rfl (by first | exact Or.inl rfl | exact Or.inr rfl) (dq_fn g__law_take (hr.mono (by omega)) (da_cons (dv 0) (da_cons de_int da_nil))))
 (dss_cons (ds_if (dt_w (dw_and (dt_cmp (o_gt) (dv 3) de_int) (dw_and1 (dt_cmp (o_gt) (dv 2) de_int))))
 (dss_one (ds_ret (de_callTy (c_tuple) rfl T.n_tuple boot_tuple (da_cons (de_frz (de_lc rfl sc__law_thing.nd (di_range1 rfl T.n_range (da_cons (dq_fn g__law_take (hr.mono (by omega)) (da_cons (dv 0) (da_cons de_int da_nil))) da_nil)) (blkOk_by (by kernel_rfl)) (own := [("k", 4)]) (fun _ _ _ _ _ => (dg_name (i := 4) sc__law_thing.nd rfl (by first | exact Or.inl rfl | exact Or.inr rfl))) (fun _ _ _ _ _ => dts_nil) (fun _ _ _ _ _ => (dq_fn g__law_thing (hr.mono (by omega)) (da_cons (dv 0) (da_cons (dv 1) (da_cons (de_op o_sub (dv 2) de_int) da_nil))))))) da_nil))))
 dss_nil)
 (dss_cons (ds_if (dt_cmp (o_eq (by exact hr.units)) (dv 3) de_int)
 (dss_one (ds_ret (dq_fn g__law_pick (hr.mono (by omega)) (da_cons (dv 0) (da_cons (dv 1) da_nil)))))
 dss_nil)
 (dss_cons (ds_if (dt_cmp (o_eq (by exact hr.units)) (dv 3) de_int)
 (dss_one (ds_ret de_non))
 dss_nil)
 (dss_one (ds_ret (dq_fn g__law_pick (hr.mono (by omega)) (da_cons (dv 0) (da_cons (de_frz (de_lst (da_cons de_int (da_cons de_int (da_cons (de_neg de_int) (da_cons de_int (da_cons (de_neg de_int) (da_cons (de_op o_add (de_op o_pow de_int de_int) de_int) (da_cons (de_op o_sub (de_neg (de_op o_pow de_int de_int)) de_int) (da_cons (de_op o_add de_int (dq_fn g__law_take (hr.mono (by omega)) (da_cons (dv 0) (da_cons de_int da_nil)))) da_nil)))))))))) da_nil))))))))), ?_⟩) (fun _ _ _ h => h)
    rintro args R ⟨m, ns, ws, n, rfl, hn, hne, hws, q⟩
    have h24 := sz24
    simp only [body0, List.length_cons, List.length_nil, List.replicate, Nat.reduceAdd, Nat.reduceSub, List.cons_append, List.nil_append]
    refine seq_key (fun ρ' => ∃ (ns2 : List Int) (v : Int), ρ' = [.own m (iD ns2), .dat (.lst (sD ws)), .dat (.int (n : Int)), .dat (.int v), .no]) (fun nx hnx => ?_) ?_
    · try simp only [dSeq, dNext, dSet, dVar, dC, dBin, dTest, dCall, dCons, dNil, dAnd, dOr, dNot, dIf, dIfS, dRet, dRetN, dDrop, dBreak, dCont, dAug, fAddA, dTup, dLst, dFrz, dListOf, dNeg, fNeg, dSl, dNoPart, dPart, fSl, dM1, dIsi, dIsi2, dAppend, dPop, dReverse, dSetAt, dAndV, dOrV, dNotV, dB, dFld, dFldSet, dFldAdd, dMeth, dFn, dMake, dAsg, dgName, dgTwo, dgTwoL, dgThree, iSeq, iRange1, iRange2, iRange3, dFor, dLc, dYes, dKs, dKPush, dKTop, dKPop, dKLen, dOut, dFz, frzSl, stkAt, ownAt, obAt, rd1, rdL, rdD, datas, seqv, seqvs, stSl, rvSl, RV.hold, fI, fLen, fInt, fStr, fTuple, fAdd, fMul, fEq, fIn, fIsN, fIx, fJoin, List.getElem?_cons_zero, List.getElem?_cons_succ, List.getElem?_nil, List.set_cons_zero, List.set_cons_succ, List.length_cons, List.length_nil, eq_self_iff_true, true_and, and_true, Option.some.injEq, exists_eq_left']
      refine ⟨by simp [lent], _, rfl, false, ns, 7, rfl, by decide, fun v ns2 h0 h1 => ⟨rfl, ⟨⟨rfl, rfl⟩, trivial⟩, ?_⟩⟩
      simp only [wr, Sl.fl, Sl.mn, List.getD_cons_zero, List.getD_cons_succ, List.set_cons_zero, List.set_cons_succ]
      try simp only [dSeq, dNext, dSet, dVar, dC, dBin, dTest, dCall, dCons, dNil, dAnd, dOr, dNot, dIf, dIfS, dRet, dRetN, dDrop, dBreak, dCont, dAug, fAddA, dTup, dLst, dFrz, dListOf, dNeg, fNeg, dSl, dNoPart, dPart, fSl, dM1, dIsi, dIsi2, dAppend, dPop, dReverse, dSetAt, dAndV, dOrV, dNotV, dB, dFld, dFldSet, dFldAdd, dMeth, dFn, dMake, dAsg, dgName, dgTwo, dgTwoL, dgThree, iSeq, iRange1, iRange2, iRange3, dFor, dLc, dYes, dKs, dKPush, dKTop, dKPop, dKLen, dOut, dFz, frzSl, stkAt, ownAt, obAt, rd1, rdL, rdD, datas, seqv, seqvs, stSl, rvSl, RV.hold, fI, fLen, fInt, fStr, fTuple, fAdd, fMul, fEq, fIn, fIsN, fIx, fJoin, List.getElem?_cons_zero, List.getElem?_cons_succ, List.getElem?_nil, List.set_cons_zero, List.set_cons_succ, List.length_cons, List.length_nil, eq_self_iff_true, true_and, and_true, Option.some.injEq, exists_eq_left']
      exact ⟨by decide, hnx _ ⟨ns2, v, rfl⟩⟩
    rintro _ ⟨ns2, v, rfl⟩
    refine seq_key (fun ρ' => ρ' = [.own m (iD ns2), .dat (.lst (sD ws)), .dat (.int (n : Int)), .dat (.int v), .no]) (fun nx hnx => ?_) ?_
    · by_cases h2 : (2 : Int) < v
      · cases n with
        | zero =>
          refine ifF (fun Q hQ => ?_) (hnx _ rfl)
          try simp only [dSeq, dNext, dSet, dVar, dC, dBin, dTest, dCall, dCons, dNil, dAnd, dOr, dNot, dIf, dIfS, dRet, dRetN, dDrop, dBreak, dCont, dAug, fAddA, dTup, dLst, dFrz, dListOf, dNeg, fNeg, dSl, dNoPart, dPart, fSl, dM1, dIsi, dIsi2, dAppend, dPop, dReverse, dSetAt, dAndV, dOrV, dNotV, dB, dFld, dFldSet, dFldAdd, dMeth, dFn, dMake, dAsg, dgName, dgTwo, dgTwoL, dgThree, iSeq, iRange1, iRange2, iRange3, dFor, dLc, dYes, dKs, dKPush, dKTop, dKPop, dKLen, dOut, dFz, frzSl, stkAt, ownAt, obAt, rd1, rdL, rdD, datas, seqv, seqvs, stSl, rvSl, RV.hold, fI, fLen, fInt, fStr, fTuple, fAdd, fMul, fEq, fIn, fIsN, fIx, fJoin, List.getElem?_cons_zero, List.getElem?_cons_succ, List.getElem?_nil, List.set_cons_zero, List.set_cons_succ, List.length_cons, List.length_nil, eq_self_iff_true, true_and, and_true, Option.some.injEq, exists_eq_left']
          rw [decide_eq_true h2, if_pos rfl]
          exact hQ
        | succ n =>
          refine ifT (fun Q hQ => ?_) ?_
          · try simp only [dSeq, dNext, dSet, dVar, dC, dBin, dTest, dCall, dCons, dNil, dAnd, dOr, dNot, dIf, dIfS, dRet, dRetN, dDrop, dBreak, dCont, dAug, fAddA, dTup, dLst, dFrz, dListOf, dNeg, fNeg, dSl, dNoPart, dPart, fSl, dM1, dIsi, dIsi2, dAppend, dPop, dReverse, dSetAt, dAndV, dOrV, dNotV, dB, dFld, dFldSet, dFldAdd, dMeth, dFn, dMake, dAsg, dgName, dgTwo, dgTwoL, dgThree, iSeq, iRange1, iRange2, iRange3, dFor, dLc, dYes, dKs, dKPush, dKTop, dKPop, dKLen, dOut, dFz, frzSl, stkAt, ownAt, obAt, rd1, rdL, rdD, datas, seqv, seqvs, stSl, rvSl, RV.hold, fI, fLen, fInt, fStr, fTuple, fAdd, fMul, fEq, fIn, fIsN, fIx, fJoin, List.getElem?_cons_zero, List.getElem?_cons_succ, List.getElem?_nil, List.set_cons_zero, List.set_cons_succ, List.length_cons, List.length_nil, eq_self_iff_true, true_and, and_true, Option.some.injEq, exists_eq_left']
            rw [decide_eq_true h2, if_pos rfl, decide_eq_true (by omega)]
            exact hQ
          · try simp only [dSeq, dNext, dSet, dVar, dC, dBin, dTest, dCall, dCons, dNil, dAnd, dOr, dNot, dIf, dIfS, dRet, dRetN, dDrop, dBreak, dCont, dAug, fAddA, dTup, dLst, dFrz, dListOf, dNeg, fNeg, dSl, dNoPart, dPart, fSl, dM1, dIsi, dIsi2, dAppend, dPop, dReverse, dSetAt, dAndV, dOrV, dNotV, dB, dFld, dFldSet, dFldAdd, dMeth, dFn, dMake, dAsg, dgName, dgTwo, dgTwoL, dgThree, iSeq, iRange1, iRange2, iRange3, dFor, dLc, dYes, dKs, dKPush, dKTop, dKPop, dKLen, dOut, dFz, frzSl, stkAt, ownAt, obAt, rd1, rdL, rdD, datas, seqv, seqvs, stSl, rvSl, RV.hold, fI, fLen, fInt, fStr, fTuple, fAdd, fMul, fEq, fIn, fIsN, fIx, fJoin, List.getElem?_cons_zero, List.getElem?_cons_succ, List.getElem?_nil, List.set_cons_zero, List.set_cons_succ, List.length_cons, List.length_nil, eq_self_iff_true, true_and, and_true, Option.some.injEq, exists_eq_left']
            refine ⟨by simp [lent], _, rfl, false, ns2, 4, rfl, by decide, fun v2 ns3 h0 h1 => ⟨rfl, ⟨⟨rfl, rfl⟩, trivial⟩, ?_⟩⟩
            simp only [wr, Sl.fl, Sl.mn, List.getD_cons_zero, List.getD_cons_succ, List.set_cons_zero, List.set_cons_succ]
            try simp only [dSeq, dNext, dSet, dVar, dC, dBin, dTest, dCall, dCons, dNil, dAnd, dOr, dNot, dIf, dIfS, dRet, dRetN, dDrop, dBreak, dCont, dAug, fAddA, dTup, dLst, dFrz, dListOf, dNeg, fNeg, dSl, dNoPart, dPart, fSl, dM1, dIsi, dIsi2, dAppend, dPop, dReverse, dSetAt, dAndV, dOrV, dNotV, dB, dFld, dFldSet, dFldAdd, dMeth, dFn, dMake, dAsg, dgName, dgTwo, dgTwoL, dgThree, iSeq, iRange1, iRange2, iRange3, dFor, dLc, dYes, dKs, dKPush, dKTop, dKPop, dKLen, dOut, dFz, frzSl, stkAt, ownAt, obAt, rd1, rdL, rdD, datas, seqv, seqvs, stSl, rvSl, RV.hold, fI, fLen, fInt, fStr, fTuple, fAdd, fMul, fEq, fIn, fIsN, fIx, fJoin, List.getElem?_cons_zero, List.getElem?_cons_succ, List.getElem?_nil, List.set_cons_zero, List.set_cons_succ, List.length_cons, List.length_nil, eq_self_iff_true, true_and, and_true, Option.some.injEq, exists_eq_left']
            obtain ⟨c, rfl⟩ := Int.eq_ofNat_of_zero_le h0
            refine ⟨⟨by omega, by omega⟩, by simp [soft, Sl.soft], ?_⟩
            rw [show ((c : Nat) : Int).toNat = c by simp]
            refine lcGo (rngD 0 c) (fun i acc ρ => ∃ ns4 : List Int, ρ = [.own m (iD ns4), .dat (.lst (sD ws)), .dat (.int ((n + 1 : Nat) : Int)), .dat (.int v), .no] ∧ acc.length = i ∧ ∀ d ∈ acc, thOk n d) (fun i d acc ρ Kk hd ⟨ns4, h1, h2, h3⟩ hK => ?step) (fun acc ρ ⟨ns4, h1, h2, h3⟩ => ?fin) ⟨ns3, rfl, rfl, by simp⟩
            case step =>
              subst h1
              obtain ⟨rfl, hi⟩ := rng_get hd
              refine ⟨trivial, by simp, ?_⟩
              try simp only [dSeq, dNext, dSet, dVar, dC, dBin, dTest, dCall, dCons, dNil, dAnd, dOr, dNot, dIf, dIfS, dRet, dRetN, dDrop, dBreak, dCont, dAug, fAddA, dTup, dLst, dFrz, dListOf, dNeg, fNeg, dSl, dNoPart, dPart, fSl, dM1, dIsi, dIsi2, dAppend, dPop, dReverse, dSetAt, dAndV, dOrV, dNotV, dB, dFld, dFldSet, dFldAdd, dMeth, dFn, dMake, dAsg, dgName, dgTwo, dgTwoL, dgThree, iSeq, iRange1, iRange2, iRange3, dFor, dLc, dYes, dKs, dKPush, dKTop, dKPop, dKLen, dOut, dFz, frzSl, stkAt, ownAt, obAt, rd1, rdL, rdD, datas, seqv, seqvs, stSl, rvSl, RV.hold, fI, fLen, fInt, fStr, fTuple, fAdd, fMul, fEq, fIn, fIsN, fIx, fJoin, List.getElem?_cons_zero, List.getElem?_cons_succ, List.getElem?_nil, List.set_cons_zero, List.set_cons_succ, List.length_cons, List.length_nil, eq_self_iff_true, true_and, and_true, Option.some.injEq, exists_eq_left']
              refine ⟨by simp [lent], _, rfl, false, ns4, ws, n, (by rw [show ((n + 1 : Nat) : Int) - 1 = (n : Int) by omega]; rfl), by omega, hne, hws, fun x ns5 hx => ⟨rfl, ⟨⟨rfl, rfl⟩, trivial⟩, ?_⟩⟩
              simp only [wr, Sl.fl, Sl.mn, List.getD_cons_zero, List.getD_cons_succ, List.set_cons_zero, List.set_cons_succ]
              refine hK _ _ (by simp [soft, Sl.soft]) (by omega) ⟨ns5, rfl, by simp [h2], fun d hd => ?_⟩
              rcases List.mem_append.mp hd with hd | hd
              · exact h3 d hd
              · rw [List.mem_singleton.mp hd]; exact hx
            case fin =>
              subst h1
              rw [rng_len] at h2
              refine ⟨trivial, rfl, by simp [soft, Sl.soft], ?_⟩
              have hb := wts_le (b := BB n) (ds := acc) fun d hd => (h3 d hd).2.2
              have hc : acc.length * (BB n + 2) ≤ 3 * (BB n + 2) := Nat.mul_le_mul_right _ (by omega)
              refine q (.tup acc) ns4 ⟨wfL_of fun d hd => (h3 d hd).1, ?_, ?_⟩
              · show 1 + deps acc ≤ n + 1
                have := deps_le (b := n) (ds := acc) fun d hd => (h3 d hd).2.1
                omega
              · show 4 + wts acc ≤ 10 + 3 * BB n
                omega
      · refine ifF (fun Q hQ => ?_) (hnx _ rfl)
        try simp only [dSeq, dNext, dSet, dVar, dC, dBin, dTest, dCall, dCons, dNil, dAnd, dOr, dNot, dIf, dIfS, dRet, dRetN, dDrop, dBreak, dCont, dAug, fAddA, dTup, dLst, dFrz, dListOf, dNeg, fNeg, dSl, dNoPart, dPart, fSl, dM1, dIsi, dIsi2, dAppend, dPop, dReverse, dSetAt, dAndV, dOrV, dNotV, dB, dFld, dFldSet, dFldAdd, dMeth, dFn, dMake, dAsg, dgName, dgTwo, dgTwoL, dgThree, iSeq, iRange1, iRange2, iRange3, dFor, dLc, dYes, dKs, dKPush, dKTop, dKPop, dKLen, dOut, dFz, frzSl, stkAt, ownAt, obAt, rd1, rdL, rdD, datas, seqv, seqvs, stSl, rvSl, RV.hold, fI, fLen, fInt, fStr, fTuple, fAdd, fMul, fEq, fIn, fIsN, fIx, fJoin, List.getElem?_cons_zero, List.getElem?_cons_succ, List.getElem?_nil, List.set_cons_zero, List.set_cons_succ, List.length_cons, List.length_nil, eq_self_iff_true, true_and, and_true, Option.some.injEq, exists_eq_left']
        rw [decide_eq_false h2]
        exact hQ
    rintro _ rfl
    refine seq_key (fun ρ' => ρ' = [.own m (iD ns2), .dat (.lst (sD ws)), .dat (.int (n : Int)), .dat (.int v), .no]) (fun nx hnx => ?_) ?_
    · by_cases h2 : v = 1
      · refine ifT (fun Q hQ => ?_) ?_
        · try simp only [dSeq, dNext, dSet, dVar, dC, dBin, dTest, dCall, dCons, dNil, dAnd, dOr, dNot, dIf, dIfS, dRet, dRetN, dDrop, dBreak, dCont, dAug, fAddA, dTup, dLst, dFrz, dListOf, dNeg, fNeg, dSl, dNoPart, dPart, fSl, dM1, dIsi, dIsi2, dAppend, dPop, dReverse, dSetAt, dAndV, dOrV, dNotV, dB, dFld, dFldSet, dFldAdd, dMeth, dFn, dMake, dAsg, dgName, dgTwo, dgTwoL, dgThree, iSeq, iRange1, iRange2, iRange3, dFor, dLc, dYes, dKs, dKPush, dKTop, dKPop, dKLen, dOut, dFz, frzSl, stkAt, ownAt, obAt, rd1, rdL, rdD, datas, seqv, seqvs, stSl, rvSl, RV.hold, fI, fLen, fInt, fStr, fTuple, fAdd, fMul, fEq, fIn, fIsN, fIx, fJoin, List.getElem?_cons_zero, List.getElem?_cons_succ, List.getElem?_nil, List.set_cons_zero, List.set_cons_succ, List.length_cons, List.length_nil, eq_self_iff_true, true_and, and_true, Option.some.injEq, exists_eq_left']
          rw [decide_eq_true h2]
          exact hQ
        · try simp only [dSeq, dNext, dSet, dVar, dC, dBin, dTest, dCall, dCons, dNil, dAnd, dOr, dNot, dIf, dIfS, dRet, dRetN, dDrop, dBreak, dCont, dAug, fAddA, dTup, dLst, dFrz, dListOf, dNeg, fNeg, dSl, dNoPart, dPart, fSl, dM1, dIsi, dIsi2, dAppend, dPop, dReverse, dSetAt, dAndV, dOrV, dNotV, dB, dFld, dFldSet, dFldAdd, dMeth, dFn, dMake, dAsg, dgName, dgTwo, dgTwoL, dgThree, iSeq, iRange1, iRange2, iRange3, dFor, dLc, dYes, dKs, dKPush, dKTop, dKPop, dKLen, dOut, dFz, frzSl, stkAt, ownAt, obAt, rd1, rdL, rdD, datas, seqv, seqvs, stSl, rvSl, RV.hold, fI, fLen, fInt, fStr, fTuple, fAdd, fMul, fEq, fIn, fIsN, fIx, fJoin, List.getElem?_cons_zero, List.getElem?_cons_succ, List.getElem?_nil, List.set_cons_zero, List.set_cons_succ, List.length_cons, List.length_nil, eq_self_iff_true, true_and, and_true, Option.some.injEq, exists_eq_left']
          refine ⟨by simp [lent], _, rfl, false, ns2, sD ws, rfl, by simpa [sD] using hne, fun d hd ns3 => ⟨rfl, ⟨⟨rfl, rfl⟩, trivial⟩, ?_⟩⟩
          simp only [wr, Sl.fl, Sl.mn, List.getD_cons_zero, List.getD_cons_succ, List.set_cons_zero, List.set_cons_succ]
          obtain ⟨w, hw, rfl⟩ := List.mem_map.mp hd
          exact q (.str w) ns3 (leaf_ok (wOk_wf (hws w hw)) rfl)
      · refine ifF (fun Q hQ => ?_) (hnx _ rfl)
        try simp only [dSeq, dNext, dSet, dVar, dC, dBin, dTest, dCall, dCons, dNil, dAnd, dOr, dNot, dIf, dIfS, dRet, dRetN, dDrop, dBreak, dCont, dAug, fAddA, dTup, dLst, dFrz, dListOf, dNeg, fNeg, dSl, dNoPart, dPart, fSl, dM1, dIsi, dIsi2, dAppend, dPop, dReverse, dSetAt, dAndV, dOrV, dNotV, dB, dFld, dFldSet, dFldAdd, dMeth, dFn, dMake, dAsg, dgName, dgTwo, dgTwoL, dgThree, iSeq, iRange1, iRange2, iRange3, dFor, dLc, dYes, dKs, dKPush, dKTop, dKPop, dKLen, dOut, dFz, frzSl, stkAt, ownAt, obAt, rd1, rdL, rdD, datas, seqv, seqvs, stSl, rvSl, RV.hold, fI, fLen, fInt, fStr, fTuple, fAdd, fMul, fEq, fIn, fIsN, fIx, fJoin, List.getElem?_cons_zero, List.getElem?_cons_succ, List.getElem?_nil, List.set_cons_zero, List.set_cons_succ, List.length_cons, List.length_nil, eq_self_iff_true, true_and, and_true, Option.some.injEq, exists_eq_left']
        rw [decide_eq_false h2]
        exact hQ
    rintro _ rfl
    refine seq_key (fun ρ' => ρ' = [.own m (iD ns2), .dat (.lst (sD ws)), .dat (.int (n : Int)), .dat (.int v), .no]) (fun nx hnx => ?_) ?_
    · by_cases h2 : v = 2
      · refine ifT (fun Q hQ => ?_) ?_
        · try simp only [dSeq, dNext, dSet, dVar, dC, dBin, dTest, dCall, dCons, dNil, dAnd, dOr, dNot, dIf, dIfS, dRet, dRetN, dDrop, dBreak, dCont, dAug, fAddA, dTup, dLst, dFrz, dListOf, dNeg, fNeg, dSl, dNoPart, dPart, fSl, dM1, dIsi, dIsi2, dAppend, dPop, dReverse, dSetAt, dAndV, dOrV, dNotV, dB, dFld, dFldSet, dFldAdd, dMeth, dFn, dMake, dAsg, dgName, dgTwo, dgTwoL, dgThree, iSeq, iRange1, iRange2, iRange3, dFor, dLc, dYes, dKs, dKPush, dKTop, dKPop, dKLen, dOut, dFz, frzSl, stkAt, ownAt, obAt, rd1, rdL, rdD, datas, seqv, seqvs, stSl, rvSl, RV.hold, fI, fLen, fInt, fStr, fTuple, fAdd, fMul, fEq, fIn, fIsN, fIx, fJoin, List.getElem?_cons_zero, List.getElem?_cons_succ, List.getElem?_nil, List.set_cons_zero, List.set_cons_succ, List.length_cons, List.length_nil, eq_self_iff_true, true_and, and_true, Option.some.injEq, exists_eq_left']
          rw [decide_eq_true h2]
          exact hQ
        · exact q .non ns2 (leaf_ok trivial rfl)
      · refine ifF (fun Q hQ => ?_) (hnx _ rfl)
        try simp only [dSeq, dNext, dSet, dVar, dC, dBin, dTest, dCall, dCons, dNil, dAnd, dOr, dNot, dIf, dIfS, dRet, dRetN, dDrop, dBreak, dCont, dAug, fAddA, dTup, dLst, dFrz, dListOf, dNeg, fNeg, dSl, dNoPart, dPart, fSl, dM1, dIsi, dIsi2, dAppend, dPop, dReverse, dSetAt, dAndV, dOrV, dNotV, dB, dFld, dFldSet, dFldAdd, dMeth, dFn, dMake, dAsg, dgName, dgTwo, dgTwoL, dgThree, iSeq, iRange1, iRange2, iRange3, dFor, dLc, dYes, dKs, dKPush, dKTop, dKPop, dKLen, dOut, dFz, frzSl, stkAt, ownAt, obAt, rd1, rdL, rdD, datas, seqv, seqvs, stSl, rvSl, RV.hold, fI, fLen, fInt, fStr, fTuple, fAdd, fMul, fEq, fIn, fIsN, fIx, fJoin, List.getElem?_cons_zero, List.getElem?_cons_succ, List.getElem?_nil, List.set_cons_zero, List.set_cons_succ, List.length_cons, List.length_nil, eq_self_iff_true, true_and, and_true, Option.some.injEq, exists_eq_left']
        rw [decide_eq_false h2]
        exact hQ
    rintro _ rfl
    try simp only [dSeq, dNext, dSet, dVar, dC, dBin, dTest, dCall, dCons, dNil, dAnd, dOr, dNot, dIf, dIfS, dRet, dRetN, dDrop, dBreak, dCont, dAug, fAddA, dTup, dLst, dFrz, dListOf, dNeg, fNeg, dSl, dNoPart, dPart, fSl, dM1, dIsi, dIsi2, dAppend, dPop, dReverse, dSetAt, dAndV, dOrV, dNotV, dB, dFld, dFldSet, dFldAdd, dMeth, dFn, dMake, dAsg, dgName, dgTwo, dgTwoL, dgThree, iSeq, iRange1, iRange2, iRange3, dFor, dLc, dYes, dKs, dKPush, dKTop, dKPop, dKLen, dOut, dFz, frzSl, stkAt, ownAt, obAt, rd1, rdL, rdD, datas, seqv, seqvs, stSl, rvSl, RV.hold, fI, fLen, fInt, fStr, fTuple, fAdd, fMul, fEq, fIn, fIsN, fIx, fJoin, List.getElem?_cons_zero, List.getElem?_cons_succ, List.getElem?_nil, List.set_cons_zero, List.set_cons_succ, List.length_cons, List.length_nil, eq_self_iff_true, true_and, and_true, Option.some.injEq, exists_eq_left']
    refine ⟨⟨by decide, by decide, by decide⟩, ⟨by decide, by decide, by decide⟩, by simp [lent], _, rfl, false, ns2, 99999, rfl, by decide, fun u ns3 h0 h1 => ⟨rfl, ⟨⟨rfl, rfl⟩, trivial⟩, ?_⟩⟩
    simp only [wr, Sl.fl, Sl.mn, List.getD_cons_zero, List.getD_cons_succ, List.set_cons_zero, List.set_cons_succ]
    try simp only [dSeq, dNext, dSet, dVar, dC, dBin, dTest, dCall, dCons, dNil, dAnd, dOr, dNot, dIf, dIfS, dRet, dRetN, dDrop, dBreak, dCont, dAug, fAddA, dTup, dLst, dFrz, dListOf, dNeg, fNeg, dSl, dNoPart, dPart, fSl, dM1, dIsi, dIsi2, dAppend, dPop, dReverse, dSetAt, dAndV, dOrV, dNotV, dB, dFld, dFldSet, dFldAdd, dMeth, dFn, dMake, dAsg, dgName, dgTwo, dgTwoL, dgThree, iSeq, iRange1, iRange2, iRange3, dFor, dLc, dYes, dKs, dKPush, dKTop, dKPop, dKLen, dOut, dFz, frzSl, stkAt, ownAt, obAt, rd1, rdL, rdD, datas, seqv, seqvs, stSl, rvSl, RV.hold, fI, fLen, fInt, fStr, fTuple, fAdd, fMul, fEq, fIn, fIsN, fIx, fJoin, List.getElem?_cons_zero, List.getElem?_cons_succ, List.getElem?_nil, List.set_cons_zero, List.set_cons_succ, List.length_cons, List.length_nil, eq_self_iff_true, true_and, and_true, Option.some.injEq, exists_eq_left']
    refine ⟨by omega, by simp [lent], _, rfl, false, ns3, _, rfl, by simp, fun d hd ns4 => ⟨rfl, ⟨⟨rfl, rfl⟩, trivial⟩, ?_⟩⟩
    simp only [wr, Sl.fl, Sl.mn, List.getD_cons_zero, List.getD_cons_succ, List.set_cons_zero, List.set_cons_succ]
    have : ∃ i : Int, d = .int i ∧ i.natAbs < 10 ^ 40 := by
      simp only [List.mem_cons, List.not_mem_nil, or_false] at hd
      rcases hd with rfl | rfl | rfl | rfl | rfl | rfl | rfl | rfl
      · exact ⟨_, rfl, by decide +kernel⟩
      · exact ⟨_, rfl, by decide +kernel⟩
      · exact ⟨_, rfl, by decide +kernel⟩
      · exact ⟨_, rfl, by decide +kernel⟩
      · exact ⟨_, rfl, by decide +kernel⟩
      · exact ⟨_, rfl, by decide +kernel⟩
      · exact ⟨_, rfl, by decide +kernel⟩
      · exact ⟨_, rfl, Nat.lt_of_lt_of_le (show (1 + u).natAbs < 10 ^ 6 by omega) (by decide +kernel)⟩
    obtain ⟨i, rfl, hi⟩ := this
    exact q _ ns4 (leaf_ok (int_small hi) rfl)
end
end K76

set_option maxRecDepth 100000
set_option maxHeartbeats 4000000
/-! Any tokens spread, spoilt. -/
namespace K76
open PySem PySem.Spec PyProof.Rows L2 TL SkE DL
/-! ### plain -/
theorem MR_gp (g : Nat) : MR (gp g) := fun p m q e hm => by
  cases m with
  | nil => simp
  | cons c m =>
    have h1 : c ∈ gp g := by rw [e]; simp
    have h2 : c = 32 := (List.mem_replicate.mp h1).2
    have h3 := mem_dig.mp (hm c List.mem_cons_self)
    omega
theorem gp_last {g : Nat} {x : Nat} (h : (gp g).getLast? = some x) : x = 32 := (List.mem_replicate.mp (List.mem_of_getLast? h)).2
theorem gp_head {g : Nat} {x : Nat} (h : (gp g).head? = some x) : x = 32 := (List.mem_replicate.mp (List.mem_of_head? h)).2
theorem n32 : (32 : Nat) ∉ DIG := by rw [mem_dig]; omega
theorem MR_gap {a : List Nat} (h : MR a) (g : Nat) : MR (a ++ gp g) := MR.app h (MR_gp g) fun x y _ e => .inr (by rw [gp_head e]; exact n32)
theorem MR_behind {a t : List Nat} {g : Nat} (h : MR a) (ht : MR t) (hg : 0 < g) : MR ((a ++ gp g) ++ t) := MR.app (MR_gap h g) ht fun x y e _ => .inl (by
  have e2 : (gp g).getLast? = some 32 := by unfold gp; rw [List.getLast?_replicate, if_neg (by omega)]
  rw [List.getLast?_append, e2] at e
  cases e
  exact n32)
def tz (ts : List (List Nat)) : Nat := (ts.map fun t => t.length + 6).sum
theorem tz_len (ts : List (List Nat)) : ts.length ≤ tz ts := by
  unfold tz
  induction ts with
  | nil => simp
  | cons t ts ih => simp only [List.length_cons, List.map_cons, List.sum_cons]; omega
theorem tz_mem {ts : List (List Nat)} {t : List Nat} (h : t ∈ ts) : t.length + 6 ≤ tz ts := mem_sum (List.mem_map.mpr ⟨t, h, rfl⟩)
theorem tz_app (a b : List (List Nat)) : tz (a ++ b) = tz a + tz b := by simp [tz]
theorem tz_one (t : List Nat) : tz [t] = t.length + 6 := by simp [tz]
theorem tz_take_le (ts : List (List Nat)) (n : Nat) : tz (ts.take n) ≤ tz ts := by
  have := tz_app (ts.take n) (ts.drop n)
  rw [List.take_append_drop] at this
  omega
theorem tz_drop_le (ts : List (List Nat)) (n : Nat) : tz (ts.drop n) ≤ tz ts := by
  have := tz_app (ts.take n) (ts.drop n)
  rw [List.take_append_drop] at this
  omega
theorem tz_cut_le (ts : List (List Nat)) (lo hi : Option Int) : tz (cutL ts lo hi) ≤ tz ts := Nat.le_trans (tz_take_le _ _) (tz_drop_le _ _)
theorem tz_step {ts : List (List Nat)} {j : Nat} (h : j < ts.length) : tz (ts.take (j + 1)) = tz (ts.take j) + (ts[j].length + 6) := by
  rw [List.take_add_one, List.getElem?_eq_getElem h, tz_app]
  show _ + tz [ts[j]] = _
  rw [tz_one]
theorem cut_map {α β : Type} (f : α → β) (ts : List α) (lo hi : Option Int) : cutL (ts.map f) lo hi = (cutL ts lo hi).map f := by
  unfold cutL
  rw [List.length_map, List.map_take, List.map_drop]
section
variable {P : Program} {w : World} {K : PySem.W.Frag} {mg : Str → Option Value} {base : Heap} {C_Line : Addr}
def S_apG : DL.Spec := fun args R _ => ∃ a b : List Nat, args = [.dat (.str a), .dat (.str b)] ∧ a.length ≤ sizeLine ∧ b.length ≤ sizeLine ∧ ∀ v, (v = false → ∀ x y, a.getLast? = some x → b.head? = some y → x ∉ DIG ∨ y ∉ DIG) → R (.d (.bl v)) args
theorem atI_getLast {a : List Nat} {c : Nat} (h : atI a (-1) = some c) : a.getLast? = some c := by
  rcases List.eq_nil_or_concat a with rfl | ⟨l, x, rfl⟩
  · cases h
  · rw [List.concat_eq_append] at h ⊢
    rw [DL.atI_last] at h
    cases h
    simp
theorem ok_apG (T : TX K mg C_Line) : FnG P w K mg base "_law_are_apart" 1 ["token", "other"] S_apG := by
  obtain ⟨f, fd, F, hm, bn⟩ := T.f__law_are_apart
  refine fnG_of F hm bn sc__law_are_apart (by rintro _ _ _ ⟨_, _, rfl, _⟩; rfl) (fun cdv A outer s H E g hr => ⟨_, (dss_cons (ds_set (i := 2) sc__law_are_apart.nd rfl (by first | exact Or.inl rfl | exact Or.inr rfl) de_str)
 (dss_cons (ds_set (i := 3) sc__law_are_apart.nd rfl (by first | exact Or.inl rfl | exact Or.inr rfl) de_str)
 (dss_cons (ds_if (dt_w (dw_or (dt_cmp (o_eq (by exact hr.units)) (de_sl (dv 0) (do_some (de_neg de_int)) do_none) de_str) (dw_or1 (dt_cmp (o_eq (by exact hr.units)) (de_sl (dv 1) do_none (do_some de_int)) de_str))))
 (dss_one (ds_ret de_bl))
 dss_nil)
 (dss_one (ds_ret (de_or (de_and (de_cmp (o_in) (de_ix (dv 0) (de_neg de_int)) (dv 2)) (de_one (de_cmp (o_in) (de_ix (dv 1) de_int) (dv 2)))) (de_one (de_and (de_cmp (o_in) (de_ix (dv 0) (de_neg de_int)) (dv 3)) (de_one (de_cmp (o_in) (de_ix (dv 1) de_int) (dv 3))))))))))), ?_⟩) (fun _ _ _ h => h)
  rintro args R ⟨a, b, rfl, ha, hb, q⟩
  simp only [body0, List.length_cons, List.length_nil, List.replicate, Nat.reduceAdd, Nat.reduceSub, List.cons_append, List.nil_append]
  refine seq_key (fun ρ' => ρ' = [.dat (.str a), .dat (.str b), .dat (.str LET), .no]) (fun nx hnx => ⟨by simp, hnx _ rfl⟩) ?_
  rintro _ rfl
  refine seq_key (fun ρ' => ρ' = [.dat (.str a), .dat (.str b), .dat (.str LET), .dat (.str DIG)]) (fun nx hnx => ⟨by simp, hnx _ rfl⟩) ?_
  rintro _ rfl
  cases a with
  | nil =>
    refine ifT (fun Q hQ => ?_) ?_
    · try simp only [dSeq, dNext, dSet, dVar, dC, dBin, dTest, dCall, dCons, dNil, dAnd, dOr, dNot, dIf, dIfS, dRet, dRetN, dDrop, dBreak, dCont, dAug, fAddA, dTup, dLst, dFrz, dListOf, dNeg, fNeg, dSl, dNoPart, dPart, fSl, dM1, dIsi, dIsi2, dAppend, dPop, dReverse, dSetAt, dAndV, dOrV, dNotV, dB, dFld, dFldSet, dFldAdd, dMeth, dFn, dMake, dAsg, dgName, dgTwo, dgTwoL, dgThree, iSeq, iRange1, iRange2, iRange3, dFor, dLc, dYes, dKs, dKPush, dKTop, dKPop, dKLen, dOut, dFz, frzSl, stkAt, ownAt, obAt, rd1, rdL, rdD, datas, seqv, seqvs, stSl, rvSl, RV.hold, fI, fLen, fInt, fStr, fTuple, fAdd, fMul, fEq, fIn, fIsN, fIx, fJoin, List.getElem?_cons_zero, List.getElem?_cons_succ, List.getElem?_nil, List.set_cons_zero, List.set_cons_succ, List.length_cons, List.length_nil, eq_self_iff_true, true_and, and_true, Option.some.injEq, exists_eq_left']
      refine ⟨ha, ?_⟩
      rw [d0]
      exact hQ
    · exact q false (fun _ x y e _ => by cases e)
  | cons a0 as =>
    obtain ⟨h1, c, h2⟩ := cut_last (a0 :: as) (by simp)
    have hc := atI_getLast h2
    cases b with
    | nil =>
      refine ifT (fun Q hQ => ?_) ?_
      · try simp only [dSeq, dNext, dSet, dVar, dC, dBin, dTest, dCall, dCons, dNil, dAnd, dOr, dNot, dIf, dIfS, dRet, dRetN, dDrop, dBreak, dCont, dAug, fAddA, dTup, dLst, dFrz, dListOf, dNeg, fNeg, dSl, dNoPart, dPart, fSl, dM1, dIsi, dIsi2, dAppend, dPop, dReverse, dSetAt, dAndV, dOrV, dNotV, dB, dFld, dFldSet, dFldAdd, dMeth, dFn, dMake, dAsg, dgName, dgTwo, dgTwoL, dgThree, iSeq, iRange1, iRange2, iRange3, dFor, dLc, dYes, dKs, dKPush, dKTop, dKPop, dKLen, dOut, dFz, frzSl, stkAt, ownAt, obAt, rd1, rdL, rdD, datas, seqv, seqvs, stSl, rvSl, RV.hold, fI, fLen, fInt, fStr, fTuple, fAdd, fMul, fEq, fIn, fIsN, fIx, fJoin, List.getElem?_cons_zero, List.getElem?_cons_succ, List.getElem?_nil, List.set_cons_zero, List.set_cons_succ, List.length_cons, List.length_nil, eq_self_iff_true, true_and, and_true, Option.some.injEq, exists_eq_left']
        refine ⟨ha, ?_⟩
        rw [d0]
        have : decide (cutL (a0 :: as) (some (-1)) none = []) = false := decide_eq_false h1
        rw [this]
        exact ⟨hb, hQ⟩
      · exact q false (fun _ x y _ e => by cases e)
    | cons b0 bs =>
      refine ifF (fun Q hQ => ?_) ?_
      · try simp only [dSeq, dNext, dSet, dVar, dC, dBin, dTest, dCall, dCons, dNil, dAnd, dOr, dNot, dIf, dIfS, dRet, dRetN, dDrop, dBreak, dCont, dAug, fAddA, dTup, dLst, dFrz, dListOf, dNeg, fNeg, dSl, dNoPart, dPart, fSl, dM1, dIsi, dIsi2, dAppend, dPop, dReverse, dSetAt, dAndV, dOrV, dNotV, dB, dFld, dFldSet, dFldAdd, dMeth, dFn, dMake, dAsg, dgName, dgTwo, dgTwoL, dgThree, iSeq, iRange1, iRange2, iRange3, dFor, dLc, dYes, dKs, dKPush, dKTop, dKPop, dKLen, dOut, dFz, frzSl, stkAt, ownAt, obAt, rd1, rdL, rdD, datas, seqv, seqvs, stSl, rvSl, RV.hold, fI, fLen, fInt, fStr, fTuple, fAdd, fMul, fEq, fIn, fIsN, fIx, fJoin, List.getElem?_cons_zero, List.getElem?_cons_succ, List.getElem?_nil, List.set_cons_zero, List.set_cons_succ, List.length_cons, List.length_nil, eq_self_iff_true, true_and, and_true, Option.some.injEq, exists_eq_left']
        refine ⟨ha, ?_⟩
        rw [d0]
        have : decide (cutL (a0 :: as) (some (-1)) none = []) = false := decide_eq_false h1
        rw [this]
        refine ⟨hb, ?_⟩
        rw [cut1]
        exact hQ
      · have hb0 : atI (b0 :: bs) 0 = some b0 := atI_nat (j := 0) rfl
        have ha' : as.length + 1 ≤ sizeLine := ha
        have hb' : bs.length + 1 ≤ sizeLine := hb
        have yes : R (.d (.bl true)) [.dat (.str (a0 :: as)), .dat (.str (b0 :: bs))] := q true (fun z => by cases z)
        have no : c ∉ DIG ∨ b0 ∉ DIG → R (.d (.bl false)) [.dat (.str (a0 :: as)), .dat (.str (b0 :: bs))] := fun h => q false (fun _ x y e1 e2 => by
          rw [hc] at e1
          cases e1
          cases e2
          exact h)
        have gen : ∀ v : Bool, (v = false → c ∉ DIG ∨ b0 ∉ DIG) → R (.d (.bl v)) [.dat (.str (a0 :: as)), .dat (.str (b0 :: bs))] := fun v h => by
          cases v with
          | true => exact yes
          | false => exact no (h rfl)
        try simp only [dSeq, dNext, dSet, dVar, dC, dBin, dTest, dCall, dCons, dNil, dAnd, dOr, dNot, dIf, dIfS, dRet, dRetN, dDrop, dBreak, dCont, dAug, fAddA, dTup, dLst, dFrz, dListOf, dNeg, fNeg, dSl, dNoPart, dPart, fSl, dM1, dIsi, dIsi2, dAppend, dPop, dReverse, dSetAt, dAndV, dOrV, dNotV, dB, dFld, dFldSet, dFldAdd, dMeth, dFn, dMake, dAsg, dgName, dgTwo, dgTwoL, dgThree, iSeq, iRange1, iRange2, iRange3, dFor, dLc, dYes, dKs, dKPush, dKTop, dKPop, dKLen, dOut, dFz, frzSl, stkAt, ownAt, obAt, rd1, rdL, rdD, datas, seqv, seqvs, stSl, rvSl, RV.hold, fI, fLen, fInt, fStr, fTuple, fAdd, fMul, fEq, fIn, fIsN, fIx, fJoin, List.getElem?_cons_zero, List.getElem?_cons_succ, List.getElem?_nil, List.set_cons_zero, List.set_cons_succ, List.length_cons, List.length_nil, eq_self_iff_true, true_and, and_true, Option.some.injEq, exists_eq_left']
        simp only [ha', hb', h2, hb0, true_and, Option.some.injEq, exists_eq_left', exists_eq_left, Bool.false_xor]
        by_cases l1 : c ∈ LET
        · have nd : c ∉ DIG := by rw [mem_dig]; have := mem_let.mp l1; omega
          simp only [l1, nd, decide_true, decide_false, if_true, Bool.false_eq_true, if_false]
          split
          · exact yes
          · exact no (.inl nd)
        · simp only [l1, decide_false, Bool.false_eq_true, if_false]
          by_cases g1 : c ∈ DIG
          · simp only [g1, decide_true, if_true]
            exact gen _ fun h => .inr (of_decide_eq_false h)
          · simp only [g1, decide_false, Bool.false_eq_true, if_false]
            exact no (.inl g1)
def S_spG : DL.Spec := fun args R _ => ∃ (m : Bool) (ns : List Int) (ts : List (List Nat)), args = [.own m (iD ns), .dat (.lst (sD ts))] ∧ tz ts ≤ 2 ^ 23 ∧ (∀ t ∈ ts, t ≠ [] ∧ MR t) ∧
  ∀ (s : List Nat) (ns' : List Int), MR s → s.length ≤ tz ts + 3 → R (.d (.str s)) [.own m (iD ns'), .dat (.lst (sD ts))]
theorem ok_spG (T : TX K mg C_Line) : FnG P w K mg base "_law_spread" 3 ["draws", "tokens"] S_spG := by
  obtain ⟨f, fd, F, hm, bn⟩ := T.f__law_spread
  have g__law_pick := ok_lpick (P := P) (w := w) (base := base) T
  have g__law_are_apart := ok_apG (P := P) (w := w) (base := base) T
  refine fnG_of F hm bn sc__law_spread (by rintro _ _ _ ⟨_, _, _, rfl, _⟩; rfl) (fun cdv A outer s H E g hr => ⟨_, (dss_cons (ds_set (i := 2) sc__law_spread.nd rfl (by first | exact Or.inl rfl | exact Or.inr rfl) (dq_fn g__law_pick (hr.mono (by omega)) (da_cons (dv 0) (da_cons (de_frz (de_lst (da_cons de_str (da_cons de_str (da_cons de_str da_nil))))) da_nil))))
 (dss_cons (ds_for PassesOwn.never rfl (di_range1 rfl T.n_range (da_cons (de_callB (c_len) rfl T.n_len boot_len (da_cons (dv 1) da_nil)) da_nil)) (dg_name (i := 3) sc__law_spread.nd rfl (by first | exact Or.inl rfl | exact Or.inr rfl))
 (dss_cons (ds_if (dt_cmp (o_gt) (dv 3) de_int)
 (dss_one (ds_set (i := 2) sc__law_spread.nd rfl (by first | exact Or.inl rfl | exact Or.inr rfl) (de_op o_add (de_op o_add (dv 2) (dq_fn g__law_pick (hr.mono (by omega)) (da_cons (dv 0) (da_cons (de_frz (de_lst (da_cons de_str (da_cons de_str (da_cons de_str (da_cons de_str da_nil)))))) da_nil)))) (de_op o_mul de_str (de_callTy (c_int) rfl T.n_int boot_int (da_cons (dq_fn g__law_are_apart (hr.mono (by omega)) (da_cons (de_ix (dv 1) (de_op o_sub (dv 3) de_int)) (da_cons (de_ix (dv 1) (dv 3)) da_nil))) da_nil))))))
 dss_nil)
 (dss_one (ds_set (i := 2) sc__law_spread.nd rfl (by first | exact Or.inl rfl | exact Or.inr rfl) (de_op o_add (dv 2) (de_ix (dv 1) (dv 3)))))))
 (dss_one (ds_ret (de_op o_add (dv 2) (dq_fn g__law_pick (hr.mono (by omega)) (da_cons (dv 0) (da_cons (de_frz (de_lst (da_cons de_str (da_cons de_str (da_cons de_str da_nil))))) da_nil)))))))), ?_⟩) (fun _ _ _ h => h)
  rintro args R ⟨m, ns, ts, rfl, hz, hts, q⟩
  have h24 := sz24
  simp only [body0, List.length_cons, List.length_nil, List.replicate, Nat.reduceAdd, Nat.reduceSub, List.cons_append, List.nil_append]
  refine seq_key (fun ρ' => ∃ g ns', ρ' = [.own m (iD ns'), .dat (.lst (sD ts)), .dat (.str (gp g)), .no] ∧ g ≤ 2) (fun nx hnx => ?_) ?_
  · try simp only [dSeq, dNext, dSet, dVar, dC, dBin, dTest, dCall, dCons, dNil, dAnd, dOr, dNot, dIf, dIfS, dRet, dRetN, dDrop, dBreak, dCont, dAug, fAddA, dTup, dLst, dFrz, dListOf, dNeg, fNeg, dSl, dNoPart, dPart, fSl, dM1, dIsi, dIsi2, dAppend, dPop, dReverse, dSetAt, dAndV, dOrV, dNotV, dB, dFld, dFldSet, dFldAdd, dMeth, dFn, dMake, dAsg, dgName, dgTwo, dgTwoL, dgThree, iSeq, iRange1, iRange2, iRange3, dFor, dLc, dYes, dKs, dKPush, dKTop, dKPop, dKLen, dOut, dFz, frzSl, stkAt, ownAt, obAt, rd1, rdL, rdD, datas, seqv, seqvs, stSl, rvSl, RV.hold, fI, fLen, fInt, fStr, fTuple, fAdd, fMul, fEq, fIn, fIsN, fIx, fJoin, List.getElem?_cons_zero, List.getElem?_cons_succ, List.getElem?_nil, List.set_cons_zero, List.set_cons_succ, List.length_cons, List.length_nil, eq_self_iff_true, true_and, and_true, Option.some.injEq, exists_eq_left']
    refine ⟨by omega, by simp [lent], _, rfl, false, ns, _, rfl, by simp, fun d hd ns' => ⟨rfl, ⟨⟨rfl, rfl⟩, trivial⟩, ?_⟩⟩
    obtain ⟨g, rfl, hg⟩ := spc3 hd
    simp only [wr, Sl.fl, Sl.mn, List.getD_cons_zero, List.getD_cons_succ, List.set_cons_zero, List.set_cons_succ]
    try simp only [dSeq, dNext, dSet, dVar, dC, dBin, dTest, dCall, dCons, dNil, dAnd, dOr, dNot, dIf, dIfS, dRet, dRetN, dDrop, dBreak, dCont, dAug, fAddA, dTup, dLst, dFrz, dListOf, dNeg, fNeg, dSl, dNoPart, dPart, fSl, dM1, dIsi, dIsi2, dAppend, dPop, dReverse, dSetAt, dAndV, dOrV, dNotV, dB, dFld, dFldSet, dFldAdd, dMeth, dFn, dMake, dAsg, dgName, dgTwo, dgTwoL, dgThree, iSeq, iRange1, iRange2, iRange3, dFor, dLc, dYes, dKs, dKPush, dKTop, dKPop, dKLen, dOut, dFz, frzSl, stkAt, ownAt, obAt, rd1, rdL, rdD, datas, seqv, seqvs, stSl, rvSl, RV.hold, fI, fLen, fInt, fStr, fTuple, fAdd, fMul, fEq, fIn, fIsN, fIx, fJoin, List.getElem?_cons_zero, List.getElem?_cons_succ, List.getElem?_nil, List.set_cons_zero, List.set_cons_succ, List.length_cons, List.length_nil, eq_self_iff_true, true_and, and_true, Option.some.injEq, exists_eq_left']
    exact ⟨by decide, hnx _ ⟨g, ns', rfl, hg⟩⟩
  rintro _ ⟨g0, ns1, rfl, hg0⟩
  have hlen : ts.length ≤ tz ts := tz_len ts
  have hsl : (sD ts).length = ts.length := by simp [sD]
  refine seq_key (fun ρ' => ∃ tx ns' x, ρ' = [.own m (iD ns'), .dat (.lst (sD ts)), .dat (.str tx), x] ∧ MR tx ∧ tx.length + 2 * ts.length ≤ tz ts + 2) (fun nx hnx => ?_) ?_
  · refine ⟨rfl, rfl, ⟨by omega, by rw [hsl]; omega⟩, rfl, ?_⟩
    rw [show (((sD ts).length : Nat) : Int).toNat = ts.length by rw [hsl]; simp]
    refine forGo (rngD 0 ts.length) (fun j ρ => ∃ (ns' : List Int) (tx : List Nat) (x : Sl), ρ = [.own m (iD ns'), .dat (.lst (sD ts)), .dat (.str tx), x] ∧ MR tx ∧ tx.length + 2 * j ≤ tz (ts.take j) + 2 ∧ ((j = 0 ∧ tx = gp g0) ∨ (0 < j ∧ ∀ t, ts[j - 1]? = some t → tx.getLast? = t.getLast?)))
      (fun j d ρ Kk hd ⟨ns', tx, x, e, hmr, hl, ht⟩ hK => ?step) (fun ρ ⟨ns', tx, x, e, hmr, hl, ht⟩ => ?fin) ⟨ns1, _, _, rfl, MR_gp _, by rw [gp_len]; simp [tz]; omega, .inl ⟨rfl, rfl⟩⟩
    case fin =>
      rw [rng_len, List.take_length] at hl
      exact hnx _ ⟨tx, ns', x, e, hmr, hl⟩
    case step =>
      obtain ⟨rfl, hj⟩ := rng_get hd
      subst e
      rw [Int.zero_add]
      have hgt := List.getElem?_eq_getElem hj
      have hgs : (sD ts)[j]? = some (.str ts[j]) := by unfold sD; rw [List.getElem?_map, hgt]; rfl
      have hst := tz_step hj
      have hle := tz_take_le ts (j + 1)
      have htj := hts _ (List.getElem_mem hj)
      have fin : ∀ (ns2 : List Int) (tx2 : List Nat), MR (tx2 ++ ts[j]) → tx2.length ≤ tx.length + 4 →
          dSet 2 (dBin fAdd (dVar 2) (dBin fIx (dVar 1) (dVar 3))) { nx := Kk, rt := (endsOf 2 R).rt, bk := nx, ct := Kk } [.own m (iD ns2), .dat (.lst (sD ts)), .dat (.str tx2), .dat (.int (j : Nat))] := fun ns2 tx2 h1 h2 => by
        try simp only [dSeq, dNext, dSet, dVar, dC, dBin, dTest, dCall, dCons, dNil, dAnd, dOr, dNot, dIf, dIfS, dRet, dRetN, dDrop, dBreak, dCont, dAug, fAddA, dTup, dLst, dFrz, dListOf, dNeg, fNeg, dSl, dNoPart, dPart, fSl, dM1, dIsi, dIsi2, dAppend, dPop, dReverse, dSetAt, dAndV, dOrV, dNotV, dB, dFld, dFldSet, dFldAdd, dMeth, dFn, dMake, dAsg, dgName, dgTwo, dgTwoL, dgThree, iSeq, iRange1, iRange2, iRange3, dFor, dLc, dYes, dKs, dKPush, dKTop, dKPop, dKLen, dOut, dFz, frzSl, stkAt, ownAt, obAt, rd1, rdL, rdD, datas, seqv, seqvs, stSl, rvSl, RV.hold, fI, fLen, fInt, fStr, fTuple, fAdd, fMul, fEq, fIn, fIsN, fIx, fJoin, List.getElem?_cons_zero, List.getElem?_cons_succ, List.getElem?_nil, List.set_cons_zero, List.set_cons_succ, List.length_cons, List.length_nil, eq_self_iff_true, true_and, and_true, Option.some.injEq, exists_eq_left']
        refine ⟨_, atI_nat hgs, ?_⟩
        refine ⟨by omega, by decide, ?_⟩
        refine hK _ ⟨ns2, tx2 ++ ts[j], _, rfl, h1, by rw [List.length_append]; omega, .inr ⟨by omega, fun t e => ?_⟩⟩
        rw [Nat.add_sub_cancel, hgt] at e
        cases e
        obtain ⟨l, x, e2⟩ := (List.eq_nil_or_concat ts[j]).resolve_left htj.1
        rw [e2, List.concat_eq_append]
        simp
      refine ⟨by simp, ?_⟩
      rcases ht with ⟨rfl, rfl⟩ | ⟨hj0, hlast⟩
      · refine seq_key (fun ρ' => ρ' = [.own m (iD ns'), .dat (.lst (sD ts)), .dat (.str (gp g0)), .dat (.int ((0 : Nat) : Int))]) (fun nx hnx => ?_) ?_
        · refine ifF (fun Q hQ => ?_) (hnx _ rfl)
          try simp only [dSeq, dNext, dSet, dVar, dC, dBin, dTest, dCall, dCons, dNil, dAnd, dOr, dNot, dIf, dIfS, dRet, dRetN, dDrop, dBreak, dCont, dAug, fAddA, dTup, dLst, dFrz, dListOf, dNeg, fNeg, dSl, dNoPart, dPart, fSl, dM1, dIsi, dIsi2, dAppend, dPop, dReverse, dSetAt, dAndV, dOrV, dNotV, dB, dFld, dFldSet, dFldAdd, dMeth, dFn, dMake, dAsg, dgName, dgTwo, dgTwoL, dgThree, iSeq, iRange1, iRange2, iRange3, dFor, dLc, dYes, dKs, dKPush, dKTop, dKPop, dKLen, dOut, dFz, frzSl, stkAt, ownAt, obAt, rd1, rdL, rdD, datas, seqv, seqvs, stSl, rvSl, RV.hold, fI, fLen, fInt, fStr, fTuple, fAdd, fMul, fEq, fIn, fIsN, fIx, fJoin, List.getElem?_cons_zero, List.getElem?_cons_succ, List.getElem?_nil, List.set_cons_zero, List.set_cons_succ, List.length_cons, List.length_nil, eq_self_iff_true, true_and, and_true, Option.some.injEq, exists_eq_left']
          exact hQ
        · rintro _ rfl
          refine fin ns' _ (MR.app hmr htj.2 fun x y e _ => .inl ?_) (by omega)
          rw [gp_last e]
          exact n32
      · have hj1 : j - 1 < ts.length := by omega
        have hgs1 : (sD ts)[j - 1]? = some (.str ts[j - 1]) := by unfold sD; rw [List.getElem?_map, List.getElem?_eq_getElem hj1]; rfl
        have b1 := tz_mem (List.getElem_mem hj1)
        have b2 := tz_mem (List.getElem_mem hj)
        have hla := hlast _ (List.getElem?_eq_getElem hj1)
        refine seq_key (fun ρ' => ∃ g ns2, ρ' = [.own m (iD ns2), .dat (.lst (sD ts)), .dat (.str (tx ++ gp g)), .dat (.int (j : Nat))] ∧ g ≤ 4 ∧ (g = 0 → ∀ x y, ts[j - 1].getLast? = some x → ts[j].head? = some y → x ∉ DIG ∨ y ∉ DIG)) (fun nx hnx => ?_) ?_
        · refine ifT (fun Q hQ => ?_) ?_
          · try simp only [dSeq, dNext, dSet, dVar, dC, dBin, dTest, dCall, dCons, dNil, dAnd, dOr, dNot, dIf, dIfS, dRet, dRetN, dDrop, dBreak, dCont, dAug, fAddA, dTup, dLst, dFrz, dListOf, dNeg, fNeg, dSl, dNoPart, dPart, fSl, dM1, dIsi, dIsi2, dAppend, dPop, dReverse, dSetAt, dAndV, dOrV, dNotV, dB, dFld, dFldSet, dFldAdd, dMeth, dFn, dMake, dAsg, dgName, dgTwo, dgTwoL, dgThree, iSeq, iRange1, iRange2, iRange3, dFor, dLc, dYes, dKs, dKPush, dKTop, dKPop, dKLen, dOut, dFz, frzSl, stkAt, ownAt, obAt, rd1, rdL, rdD, datas, seqv, seqvs, stSl, rvSl, RV.hold, fI, fLen, fInt, fStr, fTuple, fAdd, fMul, fEq, fIn, fIsN, fIx, fJoin, List.getElem?_cons_zero, List.getElem?_cons_succ, List.getElem?_nil, List.set_cons_zero, List.set_cons_succ, List.length_cons, List.length_nil, eq_self_iff_true, true_and, and_true, Option.some.injEq, exists_eq_left']
            rw [decide_eq_true (by omega)]
            exact hQ
          · try simp only [dSeq, dNext, dSet, dVar, dC, dBin, dTest, dCall, dCons, dNil, dAnd, dOr, dNot, dIf, dIfS, dRet, dRetN, dDrop, dBreak, dCont, dAug, fAddA, dTup, dLst, dFrz, dListOf, dNeg, fNeg, dSl, dNoPart, dPart, fSl, dM1, dIsi, dIsi2, dAppend, dPop, dReverse, dSetAt, dAndV, dOrV, dNotV, dB, dFld, dFldSet, dFldAdd, dMeth, dFn, dMake, dAsg, dgName, dgTwo, dgTwoL, dgThree, iSeq, iRange1, iRange2, iRange3, dFor, dLc, dYes, dKs, dKPush, dKTop, dKPop, dKLen, dOut, dFz, frzSl, stkAt, ownAt, obAt, rd1, rdL, rdD, datas, seqv, seqvs, stSl, rvSl, RV.hold, fI, fLen, fInt, fStr, fTuple, fAdd, fMul, fEq, fIn, fIsN, fIx, fJoin, List.getElem?_cons_zero, List.getElem?_cons_succ, List.getElem?_nil, List.set_cons_zero, List.set_cons_succ, List.length_cons, List.length_nil, eq_self_iff_true, true_and, and_true, Option.some.injEq, exists_eq_left']
            refine ⟨by omega, by simp [lent], _, rfl, false, ns', _, rfl, by simp, fun d hd ns2 => ⟨rfl, ⟨⟨rfl, rfl⟩, trivial⟩, ?_⟩⟩
            obtain ⟨g, rfl, hg2⟩ := spc4 hd
            simp only [wr, Sl.fl, Sl.mn, List.getD_cons_zero, List.getD_cons_succ, List.set_cons_zero, List.set_cons_succ]
            try simp only [dSeq, dNext, dSet, dVar, dC, dBin, dTest, dCall, dCons, dNil, dAnd, dOr, dNot, dIf, dIfS, dRet, dRetN, dDrop, dBreak, dCont, dAug, fAddA, dTup, dLst, dFrz, dListOf, dNeg, fNeg, dSl, dNoPart, dPart, fSl, dM1, dIsi, dIsi2, dAppend, dPop, dReverse, dSetAt, dAndV, dOrV, dNotV, dB, dFld, dFldSet, dFldAdd, dMeth, dFn, dMake, dAsg, dgName, dgTwo, dgTwoL, dgThree, iSeq, iRange1, iRange2, iRange3, dFor, dLc, dYes, dKs, dKPush, dKTop, dKPop, dKLen, dOut, dFz, frzSl, stkAt, ownAt, obAt, rd1, rdL, rdD, datas, seqv, seqvs, stSl, rvSl, RV.hold, fI, fLen, fInt, fStr, fTuple, fAdd, fMul, fEq, fIn, fIsN, fIx, fJoin, List.getElem?_cons_zero, List.getElem?_cons_succ, List.getElem?_nil, List.set_cons_zero, List.set_cons_succ, List.length_cons, List.length_nil, eq_self_iff_true, true_and, and_true, Option.some.injEq, exists_eq_left']
            refine ⟨by rw [gp_len]; omega, .str ts[j - 1], ?_, ?_⟩
            · rw [show (j : Int) - 1 = ((j - 1 : Nat) : Int) by omega]
              exact atI_nat hgs1
            refine ⟨.str ts[j], atI_nat hgs, by simp [lent], _, rfl, _, _, rfl, by omega, by omega, fun v hv => ⟨rfl, trivial, ?_⟩⟩
            simp only [wr, Sl.fl, Sl.mn, List.getD_cons_zero, List.getD_cons_succ, List.set_cons_zero, List.set_cons_succ]
            try simp only [dSeq, dNext, dSet, dVar, dC, dBin, dTest, dCall, dCons, dNil, dAnd, dOr, dNot, dIf, dIfS, dRet, dRetN, dDrop, dBreak, dCont, dAug, fAddA, dTup, dLst, dFrz, dListOf, dNeg, fNeg, dSl, dNoPart, dPart, fSl, dM1, dIsi, dIsi2, dAppend, dPop, dReverse, dSetAt, dAndV, dOrV, dNotV, dB, dFld, dFldSet, dFldAdd, dMeth, dFn, dMake, dAsg, dgName, dgTwo, dgTwoL, dgThree, iSeq, iRange1, iRange2, iRange3, dFor, dLc, dYes, dKs, dKPush, dKTop, dKPop, dKLen, dOut, dFz, frzSl, stkAt, ownAt, obAt, rd1, rdL, rdD, datas, seqv, seqvs, stSl, rvSl, RV.hold, fI, fLen, fInt, fStr, fTuple, fAdd, fMul, fEq, fIn, fIsN, fIx, fJoin, List.getElem?_cons_zero, List.getElem?_cons_succ, List.getElem?_nil, List.set_cons_zero, List.set_cons_succ, List.length_cons, List.length_nil, eq_self_iff_true, true_and, and_true, Option.some.injEq, exists_eq_left']
            rw [show (Str.ofString " ").cps.toList = gp 1 from c_sp]
            cases v with
            | true =>
              refine ⟨⟨by decide, by decide, by decide⟩, ?_⟩
              try simp only [dSeq, dNext, dSet, dVar, dC, dBin, dTest, dCall, dCons, dNil, dAnd, dOr, dNot, dIf, dIfS, dRet, dRetN, dDrop, dBreak, dCont, dAug, fAddA, dTup, dLst, dFrz, dListOf, dNeg, fNeg, dSl, dNoPart, dPart, fSl, dM1, dIsi, dIsi2, dAppend, dPop, dReverse, dSetAt, dAndV, dOrV, dNotV, dB, dFld, dFldSet, dFldAdd, dMeth, dFn, dMake, dAsg, dgName, dgTwo, dgTwoL, dgThree, iSeq, iRange1, iRange2, iRange3, dFor, dLc, dYes, dKs, dKPush, dKTop, dKPop, dKLen, dOut, dFz, frzSl, stkAt, ownAt, obAt, rd1, rdL, rdD, datas, seqv, seqvs, stSl, rvSl, RV.hold, fI, fLen, fInt, fStr, fTuple, fAdd, fMul, fEq, fIn, fIsN, fIx, fJoin, List.getElem?_cons_zero, List.getElem?_cons_succ, List.getElem?_nil, List.set_cons_zero, List.set_cons_succ, List.length_cons, List.length_nil, eq_self_iff_true, true_and, and_true, Option.some.injEq, exists_eq_left']
              refine ⟨by simp [gp_len]; omega, by decide, hnx _ ⟨g + 1, ns2, ?_, by omega, fun z => by omega⟩⟩
              show [_, _, Sl.dat (.str ((tx ++ gp g) ++ gp 1)), _] = _
              rw [List.append_assoc, gp_add]
            | false =>
              refine ⟨⟨by decide, by decide, by decide⟩, ?_⟩
              try simp only [dSeq, dNext, dSet, dVar, dC, dBin, dTest, dCall, dCons, dNil, dAnd, dOr, dNot, dIf, dIfS, dRet, dRetN, dDrop, dBreak, dCont, dAug, fAddA, dTup, dLst, dFrz, dListOf, dNeg, fNeg, dSl, dNoPart, dPart, fSl, dM1, dIsi, dIsi2, dAppend, dPop, dReverse, dSetAt, dAndV, dOrV, dNotV, dB, dFld, dFldSet, dFldAdd, dMeth, dFn, dMake, dAsg, dgName, dgTwo, dgTwoL, dgThree, iSeq, iRange1, iRange2, iRange3, dFor, dLc, dYes, dKs, dKPush, dKTop, dKPop, dKLen, dOut, dFz, frzSl, stkAt, ownAt, obAt, rd1, rdL, rdD, datas, seqv, seqvs, stSl, rvSl, RV.hold, fI, fLen, fInt, fStr, fTuple, fAdd, fMul, fEq, fIn, fIsN, fIx, fJoin, List.getElem?_cons_zero, List.getElem?_cons_succ, List.getElem?_nil, List.set_cons_zero, List.set_cons_succ, List.length_cons, List.length_nil, eq_self_iff_true, true_and, and_true, Option.some.injEq, exists_eq_left']
              refine ⟨by simp [gp_len]; omega, by decide, hnx _ ⟨g, ns2, ?_, by omega, fun _ => hv rfl⟩⟩
              show [_, _, Sl.dat (.str ((tx ++ gp g) ++ [])), _] = _
              rw [List.append_nil]
        · rintro _ ⟨g, ns2, rfl, hg2, hap⟩
          refine fin ns2 _ ?_ (by simp [gp_len]; omega)
          cases g with
          | zero =>
            rw [show gp 0 = [] from rfl, List.append_nil]
            exact MR.app hmr htj.2 fun x y e1 e2 => hap rfl x y (by rw [← hla]; exact e1) e2
          | succ g => exact MR_behind hmr htj.2 (by omega)
  · rintro _ ⟨tx, ns', x, rfl, hmr, hl⟩
    try simp only [dSeq, dNext, dSet, dVar, dC, dBin, dTest, dCall, dCons, dNil, dAnd, dOr, dNot, dIf, dIfS, dRet, dRetN, dDrop, dBreak, dCont, dAug, fAddA, dTup, dLst, dFrz, dListOf, dNeg, fNeg, dSl, dNoPart, dPart, fSl, dM1, dIsi, dIsi2, dAppend, dPop, dReverse, dSetAt, dAndV, dOrV, dNotV, dB, dFld, dFldSet, dFldAdd, dMeth, dFn, dMake, dAsg, dgName, dgTwo, dgTwoL, dgThree, iSeq, iRange1, iRange2, iRange3, dFor, dLc, dYes, dKs, dKPush, dKTop, dKPop, dKLen, dOut, dFz, frzSl, stkAt, ownAt, obAt, rd1, rdL, rdD, datas, seqv, seqvs, stSl, rvSl, RV.hold, fI, fLen, fInt, fStr, fTuple, fAdd, fMul, fEq, fIn, fIsN, fIx, fJoin, List.getElem?_cons_zero, List.getElem?_cons_succ, List.getElem?_nil, List.set_cons_zero, List.set_cons_succ, List.length_cons, List.length_nil, eq_self_iff_true, true_and, and_true, Option.some.injEq, exists_eq_left']
    refine ⟨by omega, by simp [lent], _, rfl, false, ns', _, rfl, by simp, fun d hd ns' => ⟨rfl, ⟨⟨rfl, rfl⟩, trivial⟩, ?_⟩⟩
    obtain ⟨g, rfl, hg⟩ := spc1 hd
    simp only [wr, Sl.fl, Sl.mn, List.getD_cons_zero, List.getD_cons_succ, List.set_cons_zero, List.set_cons_succ]
    try simp only [dSeq, dNext, dSet, dVar, dC, dBin, dTest, dCall, dCons, dNil, dAnd, dOr, dNot, dIf, dIfS, dRet, dRetN, dDrop, dBreak, dCont, dAug, fAddA, dTup, dLst, dFrz, dListOf, dNeg, fNeg, dSl, dNoPart, dPart, fSl, dM1, dIsi, dIsi2, dAppend, dPop, dReverse, dSetAt, dAndV, dOrV, dNotV, dB, dFld, dFldSet, dFldAdd, dMeth, dFn, dMake, dAsg, dgName, dgTwo, dgTwoL, dgThree, iSeq, iRange1, iRange2, iRange3, dFor, dLc, dYes, dKs, dKPush, dKTop, dKPop, dKLen, dOut, dFz, frzSl, stkAt, ownAt, obAt, rd1, rdL, rdD, datas, seqv, seqvs, stSl, rvSl, RV.hold, fI, fLen, fInt, fStr, fTuple, fAdd, fMul, fEq, fIn, fIsN, fIx, fJoin, List.getElem?_cons_zero, List.getElem?_cons_succ, List.getElem?_nil, List.set_cons_zero, List.set_cons_succ, List.length_cons, List.length_nil, eq_self_iff_true, true_and, and_true, Option.some.injEq, exists_eq_left']
    refine ⟨by simp [gp_len]; omega, q _ ns' (MR_gap hmr g) ?_⟩
    rw [List.length_append, gp_len]
    omega
def S_spoilt : DL.Spec := fun args R _ => ∃ (m : Bool) (ns : List Int) (ts more : List (List Nat)), args = [.own m (iD ns), .dat (.lst (sD ts)), .dat (.lst (sD more))] ∧ ts ≠ [] ∧ more ≠ [] ∧ tz ts ≤ 2 ^ 21 ∧ tz more ≤ 2 ^ 20 ∧
  ∀ (ts' : List (List Nat)) (ns' : List Int), (∀ t ∈ ts', t ∈ ts ∨ t ∈ more) → tz ts' ≤ 4 * tz ts + tz more → R (.d (.lst (sD ts'))) [.own m (iD ns'), .dat (.lst (sD ts)), .dat (.lst (sD more))]
theorem ok_spoilt (T : TX K mg C_Line) : FnG P w K mg base "_law_tokens_spoilt" 3 ["draws", "tokens", "more"] S_spoilt := by
  obtain ⟨f, fd, F, hm, bn⟩ := T.f__law_tokens_spoilt
  have g__law_pick := ok_lpick (P := P) (w := w) (base := base) T
  have g__law_take := ok_ltake (P := P) (w := w) (base := base) T
  refine fnG_of F hm bn sc__law_tokens_spoilt (by rintro _ _ _ ⟨_, _, _, _, rfl, _⟩; rfl) (fun cdv A outer s H E g hr => ⟨_, (dss_cons (ds_set (i := 3) sc__law_tokens_spoilt.nd rfl (by first | exact Or.inl rfl | exact Or.inr rfl) (dq_fn g__law_take (hr.mono (by omega)) (da_cons (dv 0) (da_cons (de_callB (c_len) rfl T.n_len boot_len (da_cons (dv 1) da_nil)) da_nil))))
 (dss_cons (ds_set (i := 4) sc__law_tokens_spoilt.nd rfl (by first | exact Or.inl rfl | exact Or.inr rfl) (dq_fn g__law_take (hr.mono (by omega)) (da_cons (dv 0) (da_cons de_int da_nil))))
 (dss_cons (ds_if (dt_cmp (o_eq (by exact hr.units)) (dv 4) de_int)
 (dss_one (ds_ret (de_op o_add (de_sl (dv 1) do_none (do_some (dv 3))) (de_sl (dv 1) (do_some (de_op o_add (dv 3) de_int)) do_none))))
 dss_nil)
 (dss_cons (ds_if (dt_cmp (o_eq (by exact hr.units)) (dv 4) de_int)
 (dss_one (ds_ret (de_op o_add (de_sl (dv 1) do_none (do_some (de_op o_add (dv 3) de_int))) (de_sl (dv 1) (do_some (dv 3)) do_none))))
 dss_nil)
 (dss_cons (ds_if (dt_cmp (o_eq (by exact hr.units)) (dv 4) de_int)
 (dss_one (ds_ret (de_op o_add (de_op o_add (de_op o_add (de_sl (dv 1) do_none (do_some (dv 3))) (de_sl (dv 1) (do_some (de_op o_add (dv 3) de_int)) (do_some (de_op o_add (dv 3) de_int)))) (de_sl (dv 1) (do_some (dv 3)) (do_some (de_op o_add (dv 3) de_int)))) (de_sl (dv 1) (do_some (de_op o_add (dv 3) de_int)) do_none))))
 dss_nil)
 (dss_one (ds_ret (de_op o_add (de_op o_add (de_sl (dv 1) do_none (do_some (dv 3))) (de_frz (de_lst (da_cons (dq_fn g__law_pick (hr.mono (by omega)) (da_cons (dv 0) (da_cons (dv 2) da_nil))) da_nil)))) (de_sl (dv 1) (do_some (dv 3)) do_none))))))))), ?_⟩) (fun _ _ _ h => h)
  rintro args R ⟨m, ns, ts, more, rfl, hne, hmo, hz, hz2, q⟩
  have h24 := sz24
  simp only [body0, List.length_cons, List.length_nil, List.replicate, Nat.reduceAdd, Nat.reduceSub, List.cons_append, List.nil_append]
  have hlen := tz_len ts
  refine seq_key (fun ρ' => ∃ (k : Nat) (ns' : List Int), ρ' = [.own m (iD ns'), .dat (.lst (sD ts)), .dat (.lst (sD more)), .dat (.int (k : Int)), .no] ∧ k < ts.length) (fun nx hnx => ?_) ?_
  · try simp only [dSeq, dNext, dSet, dVar, dC, dBin, dTest, dCall, dCons, dNil, dAnd, dOr, dNot, dIf, dIfS, dRet, dRetN, dDrop, dBreak, dCont, dAug, fAddA, dTup, dLst, dFrz, dListOf, dNeg, fNeg, dSl, dNoPart, dPart, fSl, dM1, dIsi, dIsi2, dAppend, dPop, dReverse, dSetAt, dAndV, dOrV, dNotV, dB, dFld, dFldSet, dFldAdd, dMeth, dFn, dMake, dAsg, dgName, dgTwo, dgTwoL, dgThree, iSeq, iRange1, iRange2, iRange3, dFor, dLc, dYes, dKs, dKPush, dKTop, dKPop, dKLen, dOut, dFz, frzSl, stkAt, ownAt, obAt, rd1, rdL, rdD, datas, seqv, seqvs, stSl, rvSl, RV.hold, fI, fLen, fInt, fStr, fTuple, fAdd, fMul, fEq, fIn, fIsN, fIx, fJoin, List.getElem?_cons_zero, List.getElem?_cons_succ, List.getElem?_nil, List.set_cons_zero, List.set_cons_succ, List.length_cons, List.length_nil, eq_self_iff_true, true_and, and_true, Option.some.injEq, exists_eq_left']
    refine ⟨by simp [lent], _, rfl, false, ns, _, rfl, ?_, fun v ns' h0 h1 => ⟨rfl, ⟨⟨rfl, rfl⟩, trivial⟩, ?_⟩⟩
    · have := List.length_pos_iff.mpr hne
      simp [sD]
      omega
    simp only [wr, Sl.fl, Sl.mn, List.getD_cons_zero, List.getD_cons_succ, List.set_cons_zero, List.set_cons_succ]
    try simp only [dSeq, dNext, dSet, dVar, dC, dBin, dTest, dCall, dCons, dNil, dAnd, dOr, dNot, dIf, dIfS, dRet, dRetN, dDrop, dBreak, dCont, dAug, fAddA, dTup, dLst, dFrz, dListOf, dNeg, fNeg, dSl, dNoPart, dPart, fSl, dM1, dIsi, dIsi2, dAppend, dPop, dReverse, dSetAt, dAndV, dOrV, dNotV, dB, dFld, dFldSet, dFldAdd, dMeth, dFn, dMake, dAsg, dgName, dgTwo, dgTwoL, dgThree, iSeq, iRange1, iRange2, iRange3, dFor, dLc, dYes, dKs, dKPush, dKTop, dKPop, dKLen, dOut, dFz, frzSl, stkAt, ownAt, obAt, rd1, rdL, rdD, datas, seqv, seqvs, stSl, rvSl, RV.hold, fI, fLen, fInt, fStr, fTuple, fAdd, fMul, fEq, fIn, fIsN, fIx, fJoin, List.getElem?_cons_zero, List.getElem?_cons_succ, List.getElem?_nil, List.set_cons_zero, List.set_cons_succ, List.length_cons, List.length_nil, eq_self_iff_true, true_and, and_true, Option.some.injEq, exists_eq_left']
    obtain ⟨k, rfl⟩ := Int.eq_ofNat_of_zero_le h0
    exact ⟨by decide, hnx _ ⟨k, ns', rfl, by simp [sD] at h1; omega⟩⟩
  rintro _ ⟨k, ns1, rfl, hk⟩
  refine seq_key (fun ρ' => ∃ (v : Int) (ns' : List Int), ρ' = [.own m (iD ns'), .dat (.lst (sD ts)), .dat (.lst (sD more)), .dat (.int (k : Int)), .dat (.int v)]) (fun nx hnx => ?_) ?_
  · try simp only [dSeq, dNext, dSet, dVar, dC, dBin, dTest, dCall, dCons, dNil, dAnd, dOr, dNot, dIf, dIfS, dRet, dRetN, dDrop, dBreak, dCont, dAug, fAddA, dTup, dLst, dFrz, dListOf, dNeg, fNeg, dSl, dNoPart, dPart, fSl, dM1, dIsi, dIsi2, dAppend, dPop, dReverse, dSetAt, dAndV, dOrV, dNotV, dB, dFld, dFldSet, dFldAdd, dMeth, dFn, dMake, dAsg, dgName, dgTwo, dgTwoL, dgThree, iSeq, iRange1, iRange2, iRange3, dFor, dLc, dYes, dKs, dKPush, dKTop, dKPop, dKLen, dOut, dFz, frzSl, stkAt, ownAt, obAt, rd1, rdL, rdD, datas, seqv, seqvs, stSl, rvSl, RV.hold, fI, fLen, fInt, fStr, fTuple, fAdd, fMul, fEq, fIn, fIsN, fIx, fJoin, List.getElem?_cons_zero, List.getElem?_cons_succ, List.getElem?_nil, List.set_cons_zero, List.set_cons_succ, List.length_cons, List.length_nil, eq_self_iff_true, true_and, and_true, Option.some.injEq, exists_eq_left']
    refine ⟨by simp [lent], _, rfl, false, ns1, _, rfl, by decide, fun v ns' h0 h1 => ⟨rfl, ⟨⟨rfl, rfl⟩, trivial⟩, ?_⟩⟩
    simp only [wr, Sl.fl, Sl.mn, List.getD_cons_zero, List.getD_cons_succ, List.set_cons_zero, List.set_cons_succ]
    try simp only [dSeq, dNext, dSet, dVar, dC, dBin, dTest, dCall, dCons, dNil, dAnd, dOr, dNot, dIf, dIfS, dRet, dRetN, dDrop, dBreak, dCont, dAug, fAddA, dTup, dLst, dFrz, dListOf, dNeg, fNeg, dSl, dNoPart, dPart, fSl, dM1, dIsi, dIsi2, dAppend, dPop, dReverse, dSetAt, dAndV, dOrV, dNotV, dB, dFld, dFldSet, dFldAdd, dMeth, dFn, dMake, dAsg, dgName, dgTwo, dgTwoL, dgThree, iSeq, iRange1, iRange2, iRange3, dFor, dLc, dYes, dKs, dKPush, dKTop, dKPop, dKLen, dOut, dFz, frzSl, stkAt, ownAt, obAt, rd1, rdL, rdD, datas, seqv, seqvs, stSl, rvSl, RV.hold, fI, fLen, fInt, fStr, fTuple, fAdd, fMul, fEq, fIn, fIsN, fIx, fJoin, List.getElem?_cons_zero, List.getElem?_cons_succ, List.getElem?_nil, List.set_cons_zero, List.set_cons_succ, List.length_cons, List.length_nil, eq_self_iff_true, true_and, and_true, Option.some.injEq, exists_eq_left']
    exact ⟨by decide, hnx _ ⟨v, ns', rfl⟩⟩
  rintro _ ⟨v, ns2, rfl⟩
  have hcl : ∀ lo hi, (cutL ts lo hi).length ≤ ts.length := fun lo hi => by unfold cutL; simp; omega
  have hcm : ∀ {lo hi t}, t ∈ cutL ts lo hi → t ∈ ts ∨ t ∈ more := fun h => .inl (List.mem_of_mem_drop (List.mem_of_mem_take h))
  have eq_ : ∀ (z : Int) (t u : DS) (ψ : DEnds) (ρ : List Sl), ρ[4]? = some (.dat (.int v)) → (v = z → t ψ ρ) → (v ≠ z → u ψ ρ) → dIfS (dTest (dBin (fEq false) (dVar 4) (dC (.int z)))) t u ψ ρ := fun z t u ψ ρ e h1 h2 => by
    by_cases hv : v = z
    · refine ifT (fun Q hQ => ?_) (h1 hv)
      try simp only [dSeq, dNext, dSet, dVar, dC, dBin, dTest, dCall, dCons, dNil, dAnd, dOr, dNot, dIf, dIfS, dRet, dRetN, dDrop, dBreak, dCont, dAug, fAddA, dTup, dLst, dFrz, dListOf, dNeg, fNeg, dSl, dNoPart, dPart, fSl, dM1, dIsi, dIsi2, dAppend, dPop, dReverse, dSetAt, dAndV, dOrV, dNotV, dB, dFld, dFldSet, dFldAdd, dMeth, dFn, dMake, dAsg, dgName, dgTwo, dgTwoL, dgThree, iSeq, iRange1, iRange2, iRange3, dFor, dLc, dYes, dKs, dKPush, dKTop, dKPop, dKLen, dOut, dFz, frzSl, stkAt, ownAt, obAt, rd1, rdL, rdD, datas, seqv, seqvs, stSl, rvSl, RV.hold, fI, fLen, fInt, fStr, fTuple, fAdd, fMul, fEq, fIn, fIsN, fIx, fJoin, List.getElem?_cons_zero, List.getElem?_cons_succ, List.getElem?_nil, List.set_cons_zero, List.set_cons_succ, List.length_cons, List.length_nil, eq_self_iff_true, true_and, and_true, Option.some.injEq, exists_eq_left']
      rw [e]
      simp only [hv, decide_true, Bool.false_xor]
      exact hQ
    · refine ifF (fun Q hQ => ?_) (h2 hv)
      try simp only [dSeq, dNext, dSet, dVar, dC, dBin, dTest, dCall, dCons, dNil, dAnd, dOr, dNot, dIf, dIfS, dRet, dRetN, dDrop, dBreak, dCont, dAug, fAddA, dTup, dLst, dFrz, dListOf, dNeg, fNeg, dSl, dNoPart, dPart, fSl, dM1, dIsi, dIsi2, dAppend, dPop, dReverse, dSetAt, dAndV, dOrV, dNotV, dB, dFld, dFldSet, dFldAdd, dMeth, dFn, dMake, dAsg, dgName, dgTwo, dgTwoL, dgThree, iSeq, iRange1, iRange2, iRange3, dFor, dLc, dYes, dKs, dKPush, dKTop, dKPop, dKLen, dOut, dFz, frzSl, stkAt, ownAt, obAt, rd1, rdL, rdD, datas, seqv, seqvs, stSl, rvSl, RV.hold, fI, fLen, fInt, fStr, fTuple, fAdd, fMul, fEq, fIn, fIsN, fIx, fJoin, List.getElem?_cons_zero, List.getElem?_cons_succ, List.getElem?_nil, List.set_cons_zero, List.set_cons_succ, List.length_cons, List.length_nil, eq_self_iff_true, true_and, and_true, Option.some.injEq, exists_eq_left']
      rw [e]
      simp only [hv, decide_false, Bool.false_xor]
      exact hQ
  have hc : ∀ lo hi, cutL (sD ts) lo hi = sD (cutL ts lo hi) := fun lo hi => cut_map _ _ _ _
  have hap : ∀ a b : List (List Nat), sD a ++ sD b = sD (a ++ b) := fun a b => by unfold sD; rw [List.map_append]
  have hln : ∀ a : List (List Nat), (sD a).length = a.length := fun a => by simp [sD]
  refine seq_key (fun ρ' => ρ' = [.own m (iD ns2), .dat (.lst (sD ts)), .dat (.lst (sD more)), .dat (.int (k : Int)), .dat (.int v)]) (fun nx hnx => eq_ _ _ _ _ _ rfl (fun _ => ?_) fun _ => hnx _ rfl) ?_
  · try simp only [dSeq, dNext, dSet, dVar, dC, dBin, dTest, dCall, dCons, dNil, dAnd, dOr, dNot, dIf, dIfS, dRet, dRetN, dDrop, dBreak, dCont, dAug, fAddA, dTup, dLst, dFrz, dListOf, dNeg, fNeg, dSl, dNoPart, dPart, fSl, dM1, dIsi, dIsi2, dAppend, dPop, dReverse, dSetAt, dAndV, dOrV, dNotV, dB, dFld, dFldSet, dFldAdd, dMeth, dFn, dMake, dAsg, dgName, dgTwo, dgTwoL, dgThree, iSeq, iRange1, iRange2, iRange3, dFor, dLc, dYes, dKs, dKPush, dKTop, dKPop, dKLen, dOut, dFz, frzSl, stkAt, ownAt, obAt, rd1, rdL, rdD, datas, seqv, seqvs, stSl, rvSl, RV.hold, fI, fLen, fInt, fStr, fTuple, fAdd, fMul, fEq, fIn, fIsN, fIx, fJoin, List.getElem?_cons_zero, List.getElem?_cons_succ, List.getElem?_nil, List.set_cons_zero, List.set_cons_succ, List.length_cons, List.length_nil, eq_self_iff_true, true_and, and_true, Option.some.injEq, exists_eq_left']
    rw [hc, hc, hap, hln, hln]
    have l1 := hcl none (some (k : Int))
    have l2 := hcl (some ((k : Int) + 1)) none
    have z1 := tz_cut_le ts none (some (k : Int))
    have z2 := tz_cut_le ts (some ((k : Int) + 1)) none
    refine ⟨by omega, q _ ns2 (fun t ht => (List.mem_append.mp ht).elim hcm hcm) (by rw [tz_app]; omega)⟩
  rintro _ rfl
  refine seq_key (fun ρ' => ρ' = [.own m (iD ns2), .dat (.lst (sD ts)), .dat (.lst (sD more)), .dat (.int (k : Int)), .dat (.int v)]) (fun nx hnx => eq_ _ _ _ _ _ rfl (fun _ => ?_) fun _ => hnx _ rfl) ?_
  · try simp only [dSeq, dNext, dSet, dVar, dC, dBin, dTest, dCall, dCons, dNil, dAnd, dOr, dNot, dIf, dIfS, dRet, dRetN, dDrop, dBreak, dCont, dAug, fAddA, dTup, dLst, dFrz, dListOf, dNeg, fNeg, dSl, dNoPart, dPart, fSl, dM1, dIsi, dIsi2, dAppend, dPop, dReverse, dSetAt, dAndV, dOrV, dNotV, dB, dFld, dFldSet, dFldAdd, dMeth, dFn, dMake, dAsg, dgName, dgTwo, dgTwoL, dgThree, iSeq, iRange1, iRange2, iRange3, dFor, dLc, dYes, dKs, dKPush, dKTop, dKPop, dKLen, dOut, dFz, frzSl, stkAt, ownAt, obAt, rd1, rdL, rdD, datas, seqv, seqvs, stSl, rvSl, RV.hold, fI, fLen, fInt, fStr, fTuple, fAdd, fMul, fEq, fIn, fIsN, fIx, fJoin, List.getElem?_cons_zero, List.getElem?_cons_succ, List.getElem?_nil, List.set_cons_zero, List.set_cons_succ, List.length_cons, List.length_nil, eq_self_iff_true, true_and, and_true, Option.some.injEq, exists_eq_left']
    rw [hc, hc, hap, hln, hln]
    have l1 := hcl none (some ((k : Int) + 1))
    have l2 := hcl (some (k : Int)) none
    have z1 := tz_cut_le ts none (some ((k : Int) + 1))
    have z2 := tz_cut_le ts (some (k : Int)) none
    refine ⟨by omega, q _ ns2 (fun t ht => (List.mem_append.mp ht).elim hcm hcm) (by rw [tz_app]; omega)⟩
  rintro _ rfl
  refine seq_key (fun ρ' => ρ' = [.own m (iD ns2), .dat (.lst (sD ts)), .dat (.lst (sD more)), .dat (.int (k : Int)), .dat (.int v)]) (fun nx hnx => eq_ _ _ _ _ _ rfl (fun _ => ?_) fun _ => hnx _ rfl) ?_
  · try simp only [dSeq, dNext, dSet, dVar, dC, dBin, dTest, dCall, dCons, dNil, dAnd, dOr, dNot, dIf, dIfS, dRet, dRetN, dDrop, dBreak, dCont, dAug, fAddA, dTup, dLst, dFrz, dListOf, dNeg, fNeg, dSl, dNoPart, dPart, fSl, dM1, dIsi, dIsi2, dAppend, dPop, dReverse, dSetAt, dAndV, dOrV, dNotV, dB, dFld, dFldSet, dFldAdd, dMeth, dFn, dMake, dAsg, dgName, dgTwo, dgTwoL, dgThree, iSeq, iRange1, iRange2, iRange3, dFor, dLc, dYes, dKs, dKPush, dKTop, dKPop, dKLen, dOut, dFz, frzSl, stkAt, ownAt, obAt, rd1, rdL, rdD, datas, seqv, seqvs, stSl, rvSl, RV.hold, fI, fLen, fInt, fStr, fTuple, fAdd, fMul, fEq, fIn, fIsN, fIx, fJoin, List.getElem?_cons_zero, List.getElem?_cons_succ, List.getElem?_nil, List.set_cons_zero, List.set_cons_succ, List.length_cons, List.length_nil, eq_self_iff_true, true_and, and_true, Option.some.injEq, exists_eq_left']
    rw [hc, hc, hc, hc, hap, hap, hap, hln, hln, hln, hln, hln, hln]
    have l1 := hcl none (some (k : Int))
    have l2 := hcl (some ((k : Int) + 1)) (some ((k : Int) + 2))
    have l3 := hcl (some (k : Int)) (some ((k : Int) + 1))
    have l4 := hcl (some ((k : Int) + 2)) none
    have z1 := tz_cut_le ts none (some (k : Int))
    have z2 := tz_cut_le ts (some ((k : Int) + 1)) (some ((k : Int) + 2))
    have z3 := tz_cut_le ts (some (k : Int)) (some ((k : Int) + 1))
    have z4 := tz_cut_le ts (some ((k : Int) + 2)) none
    simp only [List.length_append]
    refine ⟨by omega, by omega, by omega, q _ ns2 (fun t ht => ?_) (by rw [tz_app, tz_app, tz_app]; omega)⟩
    rcases List.mem_append.mp ht with ht | ht
    · rcases List.mem_append.mp ht with ht | ht
      · rcases List.mem_append.mp ht with ht | ht
        · exact hcm ht
        · exact hcm ht
      · exact hcm ht
    · exact hcm ht
  rintro _ rfl
  try simp only [dSeq, dNext, dSet, dVar, dC, dBin, dTest, dCall, dCons, dNil, dAnd, dOr, dNot, dIf, dIfS, dRet, dRetN, dDrop, dBreak, dCont, dAug, fAddA, dTup, dLst, dFrz, dListOf, dNeg, fNeg, dSl, dNoPart, dPart, fSl, dM1, dIsi, dIsi2, dAppend, dPop, dReverse, dSetAt, dAndV, dOrV, dNotV, dB, dFld, dFldSet, dFldAdd, dMeth, dFn, dMake, dAsg, dgName, dgTwo, dgTwoL, dgThree, iSeq, iRange1, iRange2, iRange3, dFor, dLc, dYes, dKs, dKPush, dKTop, dKPop, dKLen, dOut, dFz, frzSl, stkAt, ownAt, obAt, rd1, rdL, rdD, datas, seqv, seqvs, stSl, rvSl, RV.hold, fI, fLen, fInt, fStr, fTuple, fAdd, fMul, fEq, fIn, fIsN, fIx, fJoin, List.getElem?_cons_zero, List.getElem?_cons_succ, List.getElem?_nil, List.set_cons_zero, List.set_cons_succ, List.length_cons, List.length_nil, eq_self_iff_true, true_and, and_true, Option.some.injEq, exists_eq_left']
  refine ⟨by simp [lent], _, rfl, false, ns2, _, rfl, by simpa [sD] using hmo, fun d hd ns3 => ⟨rfl, ⟨⟨rfl, rfl⟩, trivial⟩, ?_⟩⟩
  simp only [wr, Sl.fl, Sl.mn, List.getD_cons_zero, List.getD_cons_succ, List.set_cons_zero, List.set_cons_succ]
  try simp only [dSeq, dNext, dSet, dVar, dC, dBin, dTest, dCall, dCons, dNil, dAnd, dOr, dNot, dIf, dIfS, dRet, dRetN, dDrop, dBreak, dCont, dAug, fAddA, dTup, dLst, dFrz, dListOf, dNeg, fNeg, dSl, dNoPart, dPart, fSl, dM1, dIsi, dIsi2, dAppend, dPop, dReverse, dSetAt, dAndV, dOrV, dNotV, dB, dFld, dFldSet, dFldAdd, dMeth, dFn, dMake, dAsg, dgName, dgTwo, dgTwoL, dgThree, iSeq, iRange1, iRange2, iRange3, dFor, dLc, dYes, dKs, dKPush, dKTop, dKPop, dKLen, dOut, dFz, frzSl, stkAt, ownAt, obAt, rd1, rdL, rdD, datas, seqv, seqvs, stSl, rvSl, RV.hold, fI, fLen, fInt, fStr, fTuple, fAdd, fMul, fEq, fIn, fIsN, fIx, fJoin, List.getElem?_cons_zero, List.getElem?_cons_succ, List.getElem?_nil, List.set_cons_zero, List.set_cons_succ, List.length_cons, List.length_nil, eq_self_iff_true, true_and, and_true, Option.some.injEq, exists_eq_left']
  obtain ⟨t0, ht0, rfl⟩ := List.mem_map.mp hd
  have h1 : [D.str t0] = sD [t0] := rfl
  rw [hc, hc, h1, hap, hap, hln, hln, hln]
  have l1 := hcl none (some (k : Int))
  have l2 := hcl (some (k : Int)) none
  have z1 := tz_cut_le ts none (some (k : Int))
  have z2 := tz_cut_le ts (some (k : Int)) none
  have z3 := tz_mem ht0
  simp only [List.length_append, List.length_cons, List.length_nil]
  refine ⟨by decide, by omega, by omega, q _ ns3 (fun t ht => ?_) (by rw [tz_app, tz_app, tz_one]; omega)⟩
  rcases List.mem_append.mp ht with ht | ht
  · rcases List.mem_append.mp ht with ht | ht
    · exact hcm ht
    · rw [List.mem_singleton.mp ht]; exact .inr ht0
  · exact hcm ht
end
end K76

set_option maxRecDepth 100000
set_option maxHeartbeats 4000000
namespace K76
open PySem PySem.Spec PyProof.Rows L2 TL SkE DL
theorem not_sgn_let {c : Nat} (h : c ∈ LET) : c ∉ SGN := by
  rw [mem_let] at h; rw [mem_sgn]; omega
theorem not_sgn_dig {c : Nat} (h : c ∈ DIG) : c ∉ SGN := by
  rw [mem_dig] at h; rw [mem_sgn]; omega
theorem not_let_dig {c : Nat} (h : c ∈ DIG) : c ∉ LET := by
  rw [mem_dig] at h; rw [mem_let]; omega
theorem three_le : 3 ≤ sizeLine := by rw [sizeLine_eq]; decide
section
variable {P : Program} {w : World} {K : PySem.W.Frag} {mg : Str → Option Value} {base : Heap} {C_Line : Addr}
def S_run_end : DL.Spec := fun args R _ => ∃ (s : List Nat) (i : Nat) (cs : List Nat), args = [.dat (.str s), .dat (.int i), .dat (.str cs)] ∧ i ≤ s.length ∧ s.length ≤ sizeLine ∧ R (.d (.int ((i + run (s.drop i) cs : Nat) : Int))) args
theorem ok_run_end (T : TX K mg C_Line) : FnG P w K mg base "run_end" 1 ["line", "index", "chars"] S_run_end := by
  obtain ⟨f, fd, F, hm, bn⟩ := T.f_run_end
  refine fnG_of F hm bn sc_run_end (by rintro _ _ _ ⟨_, _, _, rfl, _⟩; rfl) (fun cdv A outer s H E g hr => ⟨_, (dss_cons (ds_set (i := 3) sc_run_end.nd rfl (by first | exact Or.inl rfl | exact Or.inr rfl) (dv 1))
 (dss_cons (ds_while PassesOwn.never (dt_w (dw_and (dt_cmp (o_lt) (dv 3) (de_callB (c_len) rfl T.n_len boot_len (da_cons (dv 0) da_nil))) (dw_and1 (dt_cmp (o_in) (de_ix (dv 0) (dv 3)) (dv 2)))))
 (dss_one (ds_augAdd (i := 3) sc_run_end.nd rfl (by first | exact Or.inl rfl | exact Or.inr rfl) de_int)))
 (dss_one (ds_ret (dv 3))))), ?_⟩) (fun _ _ _ h => h)
  rintro args R ⟨s, i, cs, rfl, hi, hz, q⟩
  simp only [body0, List.length_cons, List.length_nil, List.replicate, Nat.reduceAdd, Nat.reduceSub, List.cons_append, List.nil_append]
  try simp only [dSeq, dNext, dSet, dVar, dC, dBin, dTest, dCall, dCons, dNil, dAnd, dOr, dNot, dIf, dIfS, dRet, dRetN, dDrop, dBreak, dCont, dAug, fAddA, dTup, dLst, dFrz, dListOf, dNeg, fNeg, dSl, dNoPart, dPart, fSl, dM1, dIsi, dIsi2, dAppend, dPop, dReverse, dSetAt, dAndV, dOrV, dNotV, dB, dFld, dFldSet, dFldAdd, dMeth, dFn, dMake, dAsg, dgName, dgTwo, dgTwoL, dgThree, iSeq, iRange1, iRange2, iRange3, dFor, dLc, dYes, dKs, dKPush, dKTop, dKPop, dKLen, dOut, dFz, frzSl, stkAt, ownAt, obAt, rd1, rdL, rdD, datas, seqv, seqvs, stSl, rvSl, RV.hold, fI, fLen, fInt, fStr, fTuple, fAdd, fMul, fEq, fIn, fIsN, fIx, fJoin, List.getElem?_cons_zero, List.getElem?_cons_succ, List.getElem?_nil, List.set_cons_zero, List.set_cons_succ, List.length_cons, List.length_nil, eq_self_iff_true, true_and, and_true, Option.some.injEq, exists_eq_left']
  refine ⟨by decide, fun m ρ => ∃ j : Nat, ρ = [.dat (.str s), .dat (.int i), .dat (.str cs), .dat (.int j)] ∧ j ≤ s.length ∧ j + run (s.drop j) cs = i + run (s.drop i) cs ∧ m = s.length - j, ⟨_, i, rfl, hi, rfl, rfl⟩, ?_⟩
  rintro m _ ⟨j, rfl, hj, hr, rfl⟩
  try simp only [dSeq, dNext, dSet, dVar, dC, dBin, dTest, dCall, dCons, dNil, dAnd, dOr, dNot, dIf, dIfS, dRet, dRetN, dDrop, dBreak, dCont, dAug, fAddA, dTup, dLst, dFrz, dListOf, dNeg, fNeg, dSl, dNoPart, dPart, fSl, dM1, dIsi, dIsi2, dAppend, dPop, dReverse, dSetAt, dAndV, dOrV, dNotV, dB, dFld, dFldSet, dFldAdd, dMeth, dFn, dMake, dAsg, dgName, dgTwo, dgTwoL, dgThree, iSeq, iRange1, iRange2, iRange3, dFor, dLc, dYes, dKs, dKPush, dKTop, dKPop, dKLen, dOut, dFz, frzSl, stkAt, ownAt, obAt, rd1, rdL, rdD, datas, seqv, seqvs, stSl, rvSl, RV.hold, fI, fLen, fInt, fStr, fTuple, fAdd, fMul, fEq, fIn, fIsN, fIx, fJoin, List.getElem?_cons_zero, List.getElem?_cons_succ, List.getElem?_nil, List.set_cons_zero, List.set_cons_succ, List.length_cons, List.length_nil, eq_self_iff_true, true_and, and_true, Option.some.injEq, exists_eq_left']
  refine ⟨hz, ?_⟩
  by_cases h : j < s.length
  · have hd : decide ((j : Int) < (s.length : Int)) = true := decide_eq_true (by omega)
    have hg := List.getElem?_eq_getElem h
    have hs := run_drop (cs := cs) hg
    rw [hd, if_pos rfl]
    refine ⟨hz, _, atI_nat hg, ?_⟩
    by_cases hc : s[j] ∈ cs
    · rw [if_pos hc] at hs
      simp only [hc, decide_true, Bool.false_xor, if_true]
      exact ⟨by decide, _, by omega, j + 1, by rfl, by omega, by omega, rfl⟩
    · rw [if_neg hc] at hs
      simp only [hc, decide_false, Bool.false_xor, if_false, endsOf]
      have : j = i + run (s.drop i) cs := by omega
      rw [← this] at q
      exact q
  · have hd : decide ((j : Int) < (s.length : Int)) = false := decide_eq_false (by omega)
    rw [hd, if_neg Bool.false_ne_true]
    simp only [if_false, endsOf, Bool.false_eq_true]
    have h0 := run_end0 (s := s) (cs := cs) (j := j) (by omega)
    have : j = i + run (s.drop i) cs := by omega
    rw [← this] at q
    exact q
/-- token_from at c :: r behind p: what it gives -/
def tokF (i : Nat) (c : Nat) (r : List Nat) : D :=
  if c ∈ SGN then .tup [.str [c], .str [c], .int ((i + 1 : Nat) : Int)]
  else if c ∈ LET then .tup [.str (cd "word"), .str (c :: r.take (run r LET)), .int ((i + 1 + run r LET : Nat) : Int)]
  else if c ∈ DIG ∧ ¬ (c = 48 ∧ 0 < run r DIG) then .tup [.str (cd "number"), .int ((PySem.NumText.digitsVal (c :: r.take (run r DIG)) : Nat) : Int), .int ((i + 1 + run r DIG : Nat) : Int)]
  else .tup [.str (cd ""), .int 0, .int (i : Int)]
def S_tokenG : DL.Spec := fun args R _ => ∃ (p r : List Nat) (c : Nat), args = [.dat (.str (p ++ c :: r)), .dat (.int (p.length : Nat))] ∧ MR (p ++ c :: r) ∧ (p ++ c :: r).length ≤ sizeLine ∧ R (.d (tokF p.length c r)) args
theorem cut_run {p r cs : List Nat} {c : Nat} : cutL (p ++ c :: r) (some (p.length : Int)) (some ((p.length + (run r cs + 1) : Nat) : Int)) = c :: r.take (run r cs) := by
  have h := run_le r cs
  have e : p ++ c :: r = p ++ ((c :: r.take (run r cs)) ++ r.drop (run r cs)) := by simp
  rw [e]
  exact cut_mid rfl (by simp; omega)
theorem ok_tokenG (T : TX K mg C_Line) : FnG P w K mg base "token_from" 2 ["line", "index"] S_tokenG := by
  obtain ⟨f, fd, F, hm, bn⟩ := T.f_token_from
  have g_run_end := ok_run_end (P := P) (w := w) (base := base) T
  refine fnG_of F hm bn sc_token_from (by rintro _ _ _ ⟨_, _, _, rfl, _⟩; rfl) (fun cdv A outer s H E g hr => ⟨_, (dss_cons (ds_set (i := 2) sc_token_from.nd rfl (by first | exact Or.inl rfl | exact Or.inr rfl) (de_ix (dv 0) (dv 1)))
 (dss_cons (ds_if (dt_cmp (o_in) (dv 2) (dq_str T.s_SIGNS))
 (dss_one (ds_ret (de_tup (da_cons (dv 2) (da_cons (dv 2) (da_cons (de_op o_add (dv 1) de_int) da_nil))))))
 dss_nil)
 (dss_cons (ds_if (dt_cmp (o_in) (dv 2) (dq_str T.s_LETTERS))
 (dss_cons (ds_set (i := 3) sc_token_from.nd rfl (by first | exact Or.inl rfl | exact Or.inr rfl) (dq_fn g_run_end (hr.mono (by omega)) (da_cons (dv 0) (da_cons (dv 1) (da_cons (dq_str T.s_LETTERS) da_nil)))))
 (dss_one (ds_ret (de_tup (da_cons de_str (da_cons (de_sl (dv 0) (do_some (dv 1)) (do_some (dv 3))) (da_cons (dv 3) da_nil)))))))
 dss_nil)
 (dss_cons (ds_set (i := 3) sc_token_from.nd rfl (by first | exact Or.inl rfl | exact Or.inr rfl) (dq_fn g_run_end (hr.mono (by omega)) (da_cons (dv 0) (da_cons (dv 1) (da_cons (dq_str T.s_DIGITS) da_nil)))))
 (dss_cons (ds_if (dt_w (dw_or (dt_cmp (o_eq (by exact hr.units)) (dv 3) (dv 1)) (dw_or1 (dt_w (dw_and (dt_cmp (o_eq (by exact hr.units)) (dv 2) de_str) (dw_and1 (dt_cmp (o_gt) (de_op o_sub (dv 3) (dv 1)) de_int)))))))
 (dss_one (ds_ret (de_tup (da_cons de_str (da_cons de_int (da_cons (dv 1) da_nil))))))
 dss_nil)
 (dss_one (ds_ret (de_tup (da_cons de_str (da_cons (de_callTy (c_int) rfl T.n_int boot_int (da_cons (de_sl (dv 0) (do_some (dv 1)) (do_some (dv 3))) da_nil)) (da_cons (dv 3) da_nil))))))))))), ?_⟩) (fun _ _ _ h => h)
  rintro args R ⟨p, r, c, rfl, hmr, hz, q⟩
  have hget : (p ++ c :: r)[p.length]? = some c := get_pre p r c
  have hlen : p.length ≤ (p ++ c :: r).length := by simp
  have hdrop : ∀ cs, c ∈ cs → run ((p ++ c :: r).drop p.length) cs = run r cs + 1 := fun cs h => by rw [drop_pre, run_cons h]
  simp only [body0, List.length_cons, List.length_nil, List.replicate, Nat.reduceAdd, Nat.reduceSub, List.cons_append, List.nil_append]
  refine seq_key (fun ρ' => ρ' = [.dat (.str (p ++ c :: r)), .dat (.int (p.length : Nat)), .dat (.str [c]), .no]) (fun nx hnx => ⟨hz, c, atI_nat hget, by simp, hnx _ rfl⟩) ?_
  rintro _ rfl
  by_cases h1 : c ∈ SGN
  · refine seq_key (fun _ => False) (fun nx hnx => ?_) (fun _ h => h.elim)
    refine ifT (fun Q hQ => ?_) ?_
    · try simp only [dSeq, dNext, dSet, dVar, dC, dBin, dTest, dCall, dCons, dNil, dAnd, dOr, dNot, dIf, dIfS, dRet, dRetN, dDrop, dBreak, dCont, dAug, fAddA, dTup, dLst, dFrz, dListOf, dNeg, fNeg, dSl, dNoPart, dPart, fSl, dM1, dIsi, dIsi2, dAppend, dPop, dReverse, dSetAt, dAndV, dOrV, dNotV, dB, dFld, dFldSet, dFldAdd, dMeth, dFn, dMake, dAsg, dgName, dgTwo, dgTwoL, dgThree, iSeq, iRange1, iRange2, iRange3, dFor, dLc, dYes, dKs, dKPush, dKTop, dKPop, dKLen, dOut, dFz, frzSl, stkAt, ownAt, obAt, rd1, rdL, rdD, datas, seqv, seqvs, stSl, rvSl, RV.hold, fI, fLen, fInt, fStr, fTuple, fAdd, fMul, fEq, fIn, fIsN, fIx, fJoin, List.getElem?_cons_zero, List.getElem?_cons_succ, List.getElem?_nil, List.set_cons_zero, List.set_cons_succ, List.length_cons, List.length_nil, eq_self_iff_true, true_and, and_true, Option.some.injEq, exists_eq_left']
      simp only [h1, decide_true, Bool.false_xor]
      exact hQ
    · have e : tokF p.length c r = .tup [.str [c], .str [c], .int ((p.length + 1 : Nat) : Int)] := if_pos h1
      rw [e] at q
      try simp only [dSeq, dNext, dSet, dVar, dC, dBin, dTest, dCall, dCons, dNil, dAnd, dOr, dNot, dIf, dIfS, dRet, dRetN, dDrop, dBreak, dCont, dAug, fAddA, dTup, dLst, dFrz, dListOf, dNeg, fNeg, dSl, dNoPart, dPart, fSl, dM1, dIsi, dIsi2, dAppend, dPop, dReverse, dSetAt, dAndV, dOrV, dNotV, dB, dFld, dFldSet, dFldAdd, dMeth, dFn, dMake, dAsg, dgName, dgTwo, dgTwoL, dgThree, iSeq, iRange1, iRange2, iRange3, dFor, dLc, dYes, dKs, dKPush, dKTop, dKPop, dKLen, dOut, dFz, frzSl, stkAt, ownAt, obAt, rd1, rdL, rdD, datas, seqv, seqvs, stSl, rvSl, RV.hold, fI, fLen, fInt, fStr, fTuple, fAdd, fMul, fEq, fIn, fIsN, fIx, fJoin, List.getElem?_cons_zero, List.getElem?_cons_succ, List.getElem?_nil, List.set_cons_zero, List.set_cons_succ, List.length_cons, List.length_nil, eq_self_iff_true, true_and, and_true, Option.some.injEq, exists_eq_left']
      exact ⟨three_le, q⟩
  refine seq_key (fun ρ' => ρ' = [.dat (.str (p ++ c :: r)), .dat (.int (p.length : Nat)), .dat (.str [c]), .no]) (fun nx hnx => ?_) ?_
  · refine ifF (fun Q hQ => ?_) (hnx _ rfl)
    try simp only [dSeq, dNext, dSet, dVar, dC, dBin, dTest, dCall, dCons, dNil, dAnd, dOr, dNot, dIf, dIfS, dRet, dRetN, dDrop, dBreak, dCont, dAug, fAddA, dTup, dLst, dFrz, dListOf, dNeg, fNeg, dSl, dNoPart, dPart, fSl, dM1, dIsi, dIsi2, dAppend, dPop, dReverse, dSetAt, dAndV, dOrV, dNotV, dB, dFld, dFldSet, dFldAdd, dMeth, dFn, dMake, dAsg, dgName, dgTwo, dgTwoL, dgThree, iSeq, iRange1, iRange2, iRange3, dFor, dLc, dYes, dKs, dKPush, dKTop, dKPop, dKLen, dOut, dFz, frzSl, stkAt, ownAt, obAt, rd1, rdL, rdD, datas, seqv, seqvs, stSl, rvSl, RV.hold, fI, fLen, fInt, fStr, fTuple, fAdd, fMul, fEq, fIn, fIsN, fIx, fJoin, List.getElem?_cons_zero, List.getElem?_cons_succ, List.getElem?_nil, List.set_cons_zero, List.set_cons_succ, List.length_cons, List.length_nil, eq_self_iff_true, true_and, and_true, Option.some.injEq, exists_eq_left']
    simp only [h1, decide_false, Bool.false_xor]
    exact hQ
  rintro _ rfl
  by_cases h2 : c ∈ LET
  · refine seq_key (fun _ => False) (fun nx hnx => ?_) (fun _ h => h.elim)
    refine ifT (fun Q hQ => ?_) ?_
    · try simp only [dSeq, dNext, dSet, dVar, dC, dBin, dTest, dCall, dCons, dNil, dAnd, dOr, dNot, dIf, dIfS, dRet, dRetN, dDrop, dBreak, dCont, dAug, fAddA, dTup, dLst, dFrz, dListOf, dNeg, fNeg, dSl, dNoPart, dPart, fSl, dM1, dIsi, dIsi2, dAppend, dPop, dReverse, dSetAt, dAndV, dOrV, dNotV, dB, dFld, dFldSet, dFldAdd, dMeth, dFn, dMake, dAsg, dgName, dgTwo, dgTwoL, dgThree, iSeq, iRange1, iRange2, iRange3, dFor, dLc, dYes, dKs, dKPush, dKTop, dKPop, dKLen, dOut, dFz, frzSl, stkAt, ownAt, obAt, rd1, rdL, rdD, datas, seqv, seqvs, stSl, rvSl, RV.hold, fI, fLen, fInt, fStr, fTuple, fAdd, fMul, fEq, fIn, fIsN, fIx, fJoin, List.getElem?_cons_zero, List.getElem?_cons_succ, List.getElem?_nil, List.set_cons_zero, List.set_cons_succ, List.length_cons, List.length_nil, eq_self_iff_true, true_and, and_true, Option.some.injEq, exists_eq_left']
      simp only [h2, decide_true, Bool.false_xor]
      exact hQ
    · try simp only [dSeq, dNext, dSet, dVar, dC, dBin, dTest, dCall, dCons, dNil, dAnd, dOr, dNot, dIf, dIfS, dRet, dRetN, dDrop, dBreak, dCont, dAug, fAddA, dTup, dLst, dFrz, dListOf, dNeg, fNeg, dSl, dNoPart, dPart, fSl, dM1, dIsi, dIsi2, dAppend, dPop, dReverse, dSetAt, dAndV, dOrV, dNotV, dB, dFld, dFldSet, dFldAdd, dMeth, dFn, dMake, dAsg, dgName, dgTwo, dgTwoL, dgThree, iSeq, iRange1, iRange2, iRange3, dFor, dLc, dYes, dKs, dKPush, dKTop, dKPop, dKLen, dOut, dFz, frzSl, stkAt, ownAt, obAt, rd1, rdL, rdD, datas, seqv, seqvs, stSl, rvSl, RV.hold, fI, fLen, fInt, fStr, fTuple, fAdd, fMul, fEq, fIn, fIsN, fIx, fJoin, List.getElem?_cons_zero, List.getElem?_cons_succ, List.getElem?_nil, List.set_cons_zero, List.set_cons_succ, List.length_cons, List.length_nil, eq_self_iff_true, true_and, and_true, Option.some.injEq, exists_eq_left']
      refine ⟨List.nodup_nil, _, rfl, _, p.length, LET, rfl, hlen, hz, rfl, trivial, ?_⟩
      simp only [wr, Sl.fl, Sl.mn, List.getD_cons_zero, List.getD_cons_succ, List.set_cons_zero, List.set_cons_succ]
      rw [hdrop LET h2]
      refine ⟨by simp, hz, three_le, ?_⟩
      rw [cut_run]
      have e : tokF p.length c r = .tup [.str (cd "word"), .str (c :: r.take (run r LET)), .int ((p.length + 1 + run r LET : Nat) : Int)] := by unfold tokF; rw [if_neg h1, if_pos h2]
      rw [e, show p.length + 1 + run r LET = p.length + (run r LET + 1) by omega] at q
      exact q
  refine seq_key (fun ρ' => ρ' = [.dat (.str (p ++ c :: r)), .dat (.int (p.length : Nat)), .dat (.str [c]), .no]) (fun nx hnx => ?_) ?_
  · refine ifF (fun Q hQ => ?_) (hnx _ rfl)
    try simp only [dSeq, dNext, dSet, dVar, dC, dBin, dTest, dCall, dCons, dNil, dAnd, dOr, dNot, dIf, dIfS, dRet, dRetN, dDrop, dBreak, dCont, dAug, fAddA, dTup, dLst, dFrz, dListOf, dNeg, fNeg, dSl, dNoPart, dPart, fSl, dM1, dIsi, dIsi2, dAppend, dPop, dReverse, dSetAt, dAndV, dOrV, dNotV, dB, dFld, dFldSet, dFldAdd, dMeth, dFn, dMake, dAsg, dgName, dgTwo, dgTwoL, dgThree, iSeq, iRange1, iRange2, iRange3, dFor, dLc, dYes, dKs, dKPush, dKTop, dKPop, dKLen, dOut, dFz, frzSl, stkAt, ownAt, obAt, rd1, rdL, rdD, datas, seqv, seqvs, stSl, rvSl, RV.hold, fI, fLen, fInt, fStr, fTuple, fAdd, fMul, fEq, fIn, fIsN, fIx, fJoin, List.getElem?_cons_zero, List.getElem?_cons_succ, List.getElem?_nil, List.set_cons_zero, List.set_cons_succ, List.length_cons, List.length_nil, eq_self_iff_true, true_and, and_true, Option.some.injEq, exists_eq_left']
    simp only [h2, decide_false, Bool.false_xor]
    exact hQ
  rintro _ rfl
  by_cases h3 : c ∈ DIG
  · have hr3 := hdrop DIG h3
    have hshort : (c :: r.take (run r DIG)).length ≤ 640 := hmr p (c :: r.take (run r DIG)) (r.drop (run r DIG)) (by simp) (fun x hx => by
      rcases List.mem_cons.mp hx with rfl | hx
      · exact h3
      · exact run_mem hx)
    refine seq_key (fun ρ' => ρ' = [.dat (.str (p ++ c :: r)), .dat (.int (p.length : Nat)), .dat (.str [c]), .dat (.int ((p.length + (run r DIG + 1) : Nat) : Int))]) (fun nx hnx => ?_) ?_
    · try simp only [dSeq, dNext, dSet, dVar, dC, dBin, dTest, dCall, dCons, dNil, dAnd, dOr, dNot, dIf, dIfS, dRet, dRetN, dDrop, dBreak, dCont, dAug, fAddA, dTup, dLst, dFrz, dListOf, dNeg, fNeg, dSl, dNoPart, dPart, fSl, dM1, dIsi, dIsi2, dAppend, dPop, dReverse, dSetAt, dAndV, dOrV, dNotV, dB, dFld, dFldSet, dFldAdd, dMeth, dFn, dMake, dAsg, dgName, dgTwo, dgTwoL, dgThree, iSeq, iRange1, iRange2, iRange3, dFor, dLc, dYes, dKs, dKPush, dKTop, dKPop, dKLen, dOut, dFz, frzSl, stkAt, ownAt, obAt, rd1, rdL, rdD, datas, seqv, seqvs, stSl, rvSl, RV.hold, fI, fLen, fInt, fStr, fTuple, fAdd, fMul, fEq, fIn, fIsN, fIx, fJoin, List.getElem?_cons_zero, List.getElem?_cons_succ, List.getElem?_nil, List.set_cons_zero, List.set_cons_succ, List.length_cons, List.length_nil, eq_self_iff_true, true_and, and_true, Option.some.injEq, exists_eq_left']
      refine ⟨List.nodup_nil, _, rfl, _, p.length, DIG, rfl, hlen, hz, rfl, trivial, ?_⟩
      simp only [wr, Sl.fl, Sl.mn, List.getD_cons_zero, List.getD_cons_succ, List.set_cons_zero, List.set_cons_succ]
      rw [hr3]
      exact ⟨by simp, hnx _ rfl⟩
    rintro _ rfl
    have d1 : decide (((p.length + (run r DIG + 1) : Nat) : Int) = (p.length : Int)) = false := decide_eq_false (by omega)
    by_cases h4 : c = 48 ∧ 0 < run r DIG
    · refine seq_key (fun _ => False) (fun nx hnx => ?_) (fun _ h => h.elim)
      refine ifT (fun Q hQ => ?_) ?_
      · try simp only [dSeq, dNext, dSet, dVar, dC, dBin, dTest, dCall, dCons, dNil, dAnd, dOr, dNot, dIf, dIfS, dRet, dRetN, dDrop, dBreak, dCont, dAug, fAddA, dTup, dLst, dFrz, dListOf, dNeg, fNeg, dSl, dNoPart, dPart, fSl, dM1, dIsi, dIsi2, dAppend, dPop, dReverse, dSetAt, dAndV, dOrV, dNotV, dB, dFld, dFldSet, dFldAdd, dMeth, dFn, dMake, dAsg, dgName, dgTwo, dgTwoL, dgThree, iSeq, iRange1, iRange2, iRange3, dFor, dLc, dYes, dKs, dKPush, dKTop, dKPop, dKLen, dOut, dFz, frzSl, stkAt, ownAt, obAt, rd1, rdL, rdD, datas, seqv, seqvs, stSl, rvSl, RV.hold, fI, fLen, fInt, fStr, fTuple, fAdd, fMul, fEq, fIn, fIsN, fIx, fJoin, List.getElem?_cons_zero, List.getElem?_cons_succ, List.getElem?_nil, List.set_cons_zero, List.set_cons_succ, List.length_cons, List.length_nil, eq_self_iff_true, true_and, and_true, Option.some.injEq, exists_eq_left']
        simp only [d1, Bool.false_xor, Bool.false_eq_true, if_false]
        rw [show (Str.ofString "0").cps.toList = [48] from c_0, h4.1]
        simp only [decide_true, Bool.false_xor, if_true]
        rw [decide_eq_true (by omega)]
        rw [h4.1] at hQ
        exact hQ
      · have e : tokF p.length c r = .tup [.str (cd ""), .int 0, .int (p.length : Int)] := by unfold tokF; rw [if_neg h1, if_neg h2, if_neg (fun h => h.2 h4)]
        rw [e] at q
        try simp only [dSeq, dNext, dSet, dVar, dC, dBin, dTest, dCall, dCons, dNil, dAnd, dOr, dNot, dIf, dIfS, dRet, dRetN, dDrop, dBreak, dCont, dAug, fAddA, dTup, dLst, dFrz, dListOf, dNeg, fNeg, dSl, dNoPart, dPart, fSl, dM1, dIsi, dIsi2, dAppend, dPop, dReverse, dSetAt, dAndV, dOrV, dNotV, dB, dFld, dFldSet, dFldAdd, dMeth, dFn, dMake, dAsg, dgName, dgTwo, dgTwoL, dgThree, iSeq, iRange1, iRange2, iRange3, dFor, dLc, dYes, dKs, dKPush, dKTop, dKPop, dKLen, dOut, dFz, frzSl, stkAt, ownAt, obAt, rd1, rdL, rdD, datas, seqv, seqvs, stSl, rvSl, RV.hold, fI, fLen, fInt, fStr, fTuple, fAdd, fMul, fEq, fIn, fIsN, fIx, fJoin, List.getElem?_cons_zero, List.getElem?_cons_succ, List.getElem?_nil, List.set_cons_zero, List.set_cons_succ, List.length_cons, List.length_nil, eq_self_iff_true, true_and, and_true, Option.some.injEq, exists_eq_left']
        exact ⟨three_le, q⟩
    · refine seq_key (fun ρ' => ρ' = [.dat (.str (p ++ c :: r)), .dat (.int (p.length : Nat)), .dat (.str [c]), .dat (.int ((p.length + (run r DIG + 1) : Nat) : Int))]) (fun nx hnx => ?_) ?_
      · refine ifF (fun Q hQ => ?_) (hnx _ rfl)
        try simp only [dSeq, dNext, dSet, dVar, dC, dBin, dTest, dCall, dCons, dNil, dAnd, dOr, dNot, dIf, dIfS, dRet, dRetN, dDrop, dBreak, dCont, dAug, fAddA, dTup, dLst, dFrz, dListOf, dNeg, fNeg, dSl, dNoPart, dPart, fSl, dM1, dIsi, dIsi2, dAppend, dPop, dReverse, dSetAt, dAndV, dOrV, dNotV, dB, dFld, dFldSet, dFldAdd, dMeth, dFn, dMake, dAsg, dgName, dgTwo, dgTwoL, dgThree, iSeq, iRange1, iRange2, iRange3, dFor, dLc, dYes, dKs, dKPush, dKTop, dKPop, dKLen, dOut, dFz, frzSl, stkAt, ownAt, obAt, rd1, rdL, rdD, datas, seqv, seqvs, stSl, rvSl, RV.hold, fI, fLen, fInt, fStr, fTuple, fAdd, fMul, fEq, fIn, fIsN, fIx, fJoin, List.getElem?_cons_zero, List.getElem?_cons_succ, List.getElem?_nil, List.set_cons_zero, List.set_cons_succ, List.length_cons, List.length_nil, eq_self_iff_true, true_and, and_true, Option.some.injEq, exists_eq_left']
        simp only [d1, Bool.false_xor, Bool.false_eq_true, if_false]
        rw [show (Str.ofString "0").cps.toList = [48] from c_0]
        by_cases h5 : c = 48
        · have h6 : ¬ 0 < run r DIG := fun z => h4 ⟨h5, z⟩
          simp only [h5, decide_true, if_true] at hQ ⊢
          rw [decide_eq_false (by omega)]
          exact hQ
        · rw [show decide ([c] = [48]) = false by simp [h5]]
          simp only [Bool.false_eq_true, if_false]
          exact hQ
      rintro _ rfl
      try simp only [dSeq, dNext, dSet, dVar, dC, dBin, dTest, dCall, dCons, dNil, dAnd, dOr, dNot, dIf, dIfS, dRet, dRetN, dDrop, dBreak, dCont, dAug, fAddA, dTup, dLst, dFrz, dListOf, dNeg, fNeg, dSl, dNoPart, dPart, fSl, dM1, dIsi, dIsi2, dAppend, dPop, dReverse, dSetAt, dAndV, dOrV, dNotV, dB, dFld, dFldSet, dFldAdd, dMeth, dFn, dMake, dAsg, dgName, dgTwo, dgTwoL, dgThree, iSeq, iRange1, iRange2, iRange3, dFor, dLc, dYes, dKs, dKPush, dKTop, dKPop, dKLen, dOut, dFz, frzSl, stkAt, ownAt, obAt, rd1, rdL, rdD, datas, seqv, seqvs, stSl, rvSl, RV.hold, fI, fLen, fInt, fStr, fTuple, fAdd, fMul, fEq, fIn, fIsN, fIx, fJoin, List.getElem?_cons_zero, List.getElem?_cons_succ, List.getElem?_nil, List.set_cons_zero, List.set_cons_succ, List.length_cons, List.length_nil, eq_self_iff_true, true_and, and_true, Option.some.injEq, exists_eq_left']
      refine ⟨hz, ?_⟩
      rw [cut_run]
      have e : tokF p.length c r = .tup [.str (cd "number"), .int ((PySem.NumText.digitsVal (c :: r.take (run r DIG)) : Nat) : Int), .int ((p.length + 1 + run r DIG : Nat) : Int)] := by unfold tokF; rw [if_neg h1, if_neg h2, if_pos ⟨h3, h4⟩]
      rw [e, show p.length + 1 + run r DIG = p.length + (run r DIG + 1) by omega] at q
      refine ⟨_, ?_, hshort, three_le, q⟩
      have hd : NumText.AllDigits (⟨(c :: r.take (run r DIG)).toArray⟩ : Str).cps.toList := fun x hx => mem_dig.mp (by
        have hx' : x ∈ c :: r.take (run r DIG) := by simpa using hx
        rcases List.mem_cons.mp hx' with rfl | hx'
        · exact h3
        · exact run_mem hx')
      have e2 := PySem.intText_digits (x := ⟨(c :: r.take (run r DIG)).toArray⟩) hd (by simp) (by
        show (c :: r.take (run r DIG)).toArray.size ≤ 4300
        simp at hshort ⊢; omega)
      simpa using e2
  · have hr3 : run ((p ++ c :: r).drop p.length) DIG = 0 := by rw [drop_pre, run_cons0 h3]
    refine seq_key (fun ρ' => ρ' = [.dat (.str (p ++ c :: r)), .dat (.int (p.length : Nat)), .dat (.str [c]), .dat (.int (p.length : Nat))]) (fun nx hnx => ?_) ?_
    · try simp only [dSeq, dNext, dSet, dVar, dC, dBin, dTest, dCall, dCons, dNil, dAnd, dOr, dNot, dIf, dIfS, dRet, dRetN, dDrop, dBreak, dCont, dAug, fAddA, dTup, dLst, dFrz, dListOf, dNeg, fNeg, dSl, dNoPart, dPart, fSl, dM1, dIsi, dIsi2, dAppend, dPop, dReverse, dSetAt, dAndV, dOrV, dNotV, dB, dFld, dFldSet, dFldAdd, dMeth, dFn, dMake, dAsg, dgName, dgTwo, dgTwoL, dgThree, iSeq, iRange1, iRange2, iRange3, dFor, dLc, dYes, dKs, dKPush, dKTop, dKPop, dKLen, dOut, dFz, frzSl, stkAt, ownAt, obAt, rd1, rdL, rdD, datas, seqv, seqvs, stSl, rvSl, RV.hold, fI, fLen, fInt, fStr, fTuple, fAdd, fMul, fEq, fIn, fIsN, fIx, fJoin, List.getElem?_cons_zero, List.getElem?_cons_succ, List.getElem?_nil, List.set_cons_zero, List.set_cons_succ, List.length_cons, List.length_nil, eq_self_iff_true, true_and, and_true, Option.some.injEq, exists_eq_left']
      refine ⟨List.nodup_nil, _, rfl, _, p.length, DIG, rfl, hlen, hz, rfl, trivial, ?_⟩
      simp only [wr, Sl.fl, Sl.mn, List.getD_cons_zero, List.getD_cons_succ, List.set_cons_zero, List.set_cons_succ]
      rw [hr3]
      exact ⟨by simp, hnx _ rfl⟩
    rintro _ rfl
    refine seq_key (fun _ => False) (fun nx hnx => ?_) (fun _ h => h.elim)
    refine ifT (fun Q hQ => ?_) ?_
    · try simp only [dSeq, dNext, dSet, dVar, dC, dBin, dTest, dCall, dCons, dNil, dAnd, dOr, dNot, dIf, dIfS, dRet, dRetN, dDrop, dBreak, dCont, dAug, fAddA, dTup, dLst, dFrz, dListOf, dNeg, fNeg, dSl, dNoPart, dPart, fSl, dM1, dIsi, dIsi2, dAppend, dPop, dReverse, dSetAt, dAndV, dOrV, dNotV, dB, dFld, dFldSet, dFldAdd, dMeth, dFn, dMake, dAsg, dgName, dgTwo, dgTwoL, dgThree, iSeq, iRange1, iRange2, iRange3, dFor, dLc, dYes, dKs, dKPush, dKTop, dKPop, dKLen, dOut, dFz, frzSl, stkAt, ownAt, obAt, rd1, rdL, rdD, datas, seqv, seqvs, stSl, rvSl, RV.hold, fI, fLen, fInt, fStr, fTuple, fAdd, fMul, fEq, fIn, fIsN, fIx, fJoin, List.getElem?_cons_zero, List.getElem?_cons_succ, List.getElem?_nil, List.set_cons_zero, List.set_cons_succ, List.length_cons, List.length_nil, eq_self_iff_true, true_and, and_true, Option.some.injEq, exists_eq_left']
      simp only [decide_true, Bool.false_xor, if_true]
      exact hQ
    · have e : tokF p.length c r = .tup [.str (cd ""), .int 0, .int (p.length : Int)] := by unfold tokF; rw [if_neg h1, if_neg h2, if_neg (fun h => h3 h.1)]
      rw [e] at q
      try simp only [dSeq, dNext, dSet, dVar, dC, dBin, dTest, dCall, dCons, dNil, dAnd, dOr, dNot, dIf, dIfS, dRet, dRetN, dDrop, dBreak, dCont, dAug, fAddA, dTup, dLst, dFrz, dListOf, dNeg, fNeg, dSl, dNoPart, dPart, fSl, dM1, dIsi, dIsi2, dAppend, dPop, dReverse, dSetAt, dAndV, dOrV, dNotV, dB, dFld, dFldSet, dFldAdd, dMeth, dFn, dMake, dAsg, dgName, dgTwo, dgTwoL, dgThree, iSeq, iRange1, iRange2, iRange3, dFor, dLc, dYes, dKs, dKPush, dKTop, dKPop, dKLen, dOut, dFz, frzSl, stkAt, ownAt, obAt, rd1, rdL, rdD, datas, seqv, seqvs, stSl, rvSl, RV.hold, fI, fLen, fInt, fStr, fTuple, fAdd, fMul, fEq, fIn, fIsN, fIx, fJoin, List.getElem?_cons_zero, List.getElem?_cons_succ, List.getElem?_nil, List.set_cons_zero, List.set_cons_succ, List.length_cons, List.length_nil, eq_self_iff_true, true_and, and_true, Option.some.injEq, exists_eq_left']
      exact ⟨three_le, q⟩
end
end K76

set_option maxRecDepth 100000
set_option maxHeartbeats 4000000
namespace K76
open PySem PySem.Spec PyProof.Rows L2 TL SkE DL
/-- one step of the lexer, by what token_from gives -/
theorem lex_step {c : Nat} {r : List Nat} (i : Nat) (hc : c ≠ 32) :
    (∃ (t r' : List Nat), c :: r = t ++ r' ∧ 0 < t.length ∧ tokF i c r = .tup [.str (kdR t), vlR t, .int ((i + t.length : Nat) : Int)] ∧ kdR t ≠ [] ∧ lexR (c :: r) i = ((t, i) :: (lexR r' (i + t.length)).1, (lexR r' (i + t.length)).2)) ∨
    (tokF i c r = .tup [.str (cd ""), .int 0, .int (i : Int)] ∧ lexR (c :: r) i = ([], some i)) := by
  by_cases h1 : c ∈ SGN
  · refine .inl ⟨[c], r, rfl, by simp, ?_, ?_, ?_⟩
    · unfold tokF; rw [if_pos h1]; simp only [kdR, vlR, h1, if_true]; rfl
    · simp [kdR, h1]
    · rw [lexR, if_neg hc, if_pos h1]; rfl
  by_cases h2 : c ∈ LET
  · have e : (c :: r.take (run r LET)).length = 1 + run r LET := by have := run_le r LET; simp; omega
    refine .inl ⟨c :: r.take (run r LET), r.drop (run r LET), by simp, by simp, ?_, ?_, ?_⟩
    · unfold tokF; rw [if_neg h1, if_pos h2, e]; simp only [kdR, vlR, h1, h2, if_true, if_false]; rw [show i + 1 + run r LET = i + (1 + run r LET) by omega]
    · simp [kdR, h1, h2, c_word]
    · rw [lexR, if_neg hc, if_neg h1, if_pos h2, e, show i + 1 + run r LET = i + (1 + run r LET) by omega]
  by_cases h3 : c ∈ DIG
  · by_cases h4 : c = 48 ∧ 0 < run r DIG
    · refine .inr ⟨?_, ?_⟩
      · unfold tokF; rw [if_neg h1, if_neg h2, if_neg (fun h => h.2 h4)]
      · rw [lexR, if_neg hc, if_neg h1, if_neg h2, if_pos h3, if_pos h4]
    · have e : (c :: r.take (run r DIG)).length = 1 + run r DIG := by have := run_le r DIG; simp; omega
      refine .inl ⟨c :: r.take (run r DIG), r.drop (run r DIG), by simp, by simp, ?_, ?_, ?_⟩
      · unfold tokF; rw [if_neg h1, if_neg h2, if_pos ⟨h3, h4⟩, e]; simp only [kdR, vlR, h1, h2, if_false]; rw [show i + 1 + run r DIG = i + (1 + run r DIG) by omega]
      · simp [kdR, h1, h2, c_number]
      · rw [lexR, if_neg hc, if_neg h1, if_neg h2, if_pos h3, if_neg h4, e, show i + 1 + run r DIG = i + (1 + run r DIG) by omega]
  · refine .inr ⟨?_, ?_⟩
    · unfold tokF; rw [if_neg h1, if_neg h2, if_neg (fun h => h3 h.1)]
    · rw [lexR, if_neg hc, if_neg h1, if_neg h2, if_neg h3]
theorem drop_head {r : List Nat} {c : Nat} {r' : List Nat} : ∀ {s : List Nat}, s.drop (run s [32]) = c :: r' → c ≠ 32
  | [], h => by simp [run] at h
  | a :: s, h => by
    by_cases ha : a = 32
    · subst ha
      rw [run_cons (by simp), List.drop_succ_cons] at h
      exact drop_head (r := r) h
    · rw [run_cons0 (by simpa using ha), List.drop_zero] at h
      cases h
      exact ha
section
variable {P : Program} {w : World} {K : PySem.W.Frag} {mg : Str → Option Value} {base : Heap} {C_Line : Addr}
def S_toksG : DL.Spec := fun args R _ => ∃ s : List Nat, args = [.dat (.str s)] ∧ MR s ∧ s.length < sizeLine ∧ R (.d (.lst (progT s.length (lexR s 0)))) args
theorem ok_toksG (T : TX K mg C_Line) : FnG P w K mg base "tokens_of" 3 ["line"] S_toksG := by
  obtain ⟨f, fd, F, hm, bn⟩ := T.f_tokens_of
  have g_run_end := ok_run_end (P := P) (w := w) (base := base) T
  have g_token_from := ok_tokenG (P := P) (w := w) (base := base) T
  refine fnG_of F hm bn sc_tokens_of (by rintro _ _ _ ⟨_, rfl, _⟩; rfl) (fun cdv A outer s H E g hr => ⟨_, (dss_cons (ds_set (i := 1) sc_tokens_of.nd rfl (by first | exact Or.inl rfl | exact Or.inr rfl) (de_lst da_nil))
 (dss_cons (ds_set (i := 2) sc_tokens_of.nd rfl (by first | exact Or.inl rfl | exact Or.inr rfl) (dq_fn g_run_end (hr.mono (by omega)) (da_cons (dv 0) (da_cons de_int (da_cons de_str da_nil)))))
 (dss_cons (ds_while PassesOwn.never (dt_cmp (o_lt) (dv 2) (de_callB (c_len) rfl T.n_len boot_len (da_cons (dv 0) da_nil)))
 (dss_cons (ds_asg (dq_fn g_token_from (hr.mono (by omega)) (da_cons (dv 0) (da_cons (dv 2) da_nil))) (dg_three (i := 3) (j := 4) (l := 5) rfl sc_tokens_of.nd rfl (by first | exact Or.inl rfl | exact Or.inr rfl) rfl (by first | exact Or.inl rfl | exact Or.inr rfl) rfl (by first | exact Or.inl rfl | exact Or.inr rfl)))
 (dss_cons (ds_expr (de_append 1 (de_tup (da_cons (dv 2) (da_cons (dv 3) (da_cons (dv 4) da_nil))))))
 (dss_cons (ds_if (dt_cmp (o_eq (by exact hr.units)) (dv 3) de_str)
 (dss_frz 1 (dss_one (ds_ret (dv 1))))
 dss_nil)
 (dss_one (ds_set (i := 2) sc_tokens_of.nd rfl (by first | exact Or.inl rfl | exact Or.inr rfl) (dq_fn g_run_end (hr.mono (by omega)) (da_cons (dv 0) (da_cons (dv 5) (da_cons de_str da_nil))))))))))
 (dss_cons (ds_expr (de_append 1 (de_tup (da_cons (de_callB (c_len) rfl T.n_len boot_len (da_cons (dv 0) da_nil)) (da_cons de_str (da_cons de_int da_nil))))))
 (dss_frz 1 (dss_one (ds_ret (dv 1)))))))), ?_⟩) (fun _ _ _ h => h)
  rintro args R ⟨s, rfl, hmr, hz, q⟩
  have hz' := Nat.le_of_lt hz
  simp only [body0, List.length_cons, List.length_nil, List.replicate, Nat.reduceAdd, Nat.reduceSub, List.cons_append, List.nil_append]
  refine seq_key (fun ρ' => ρ' = [.dat (.str s), .own true [], .no, .no, .no, .no]) (fun nx hnx => ⟨Nat.zero_le _, by simp, hnx _ rfl⟩) ?_
  rintro _ rfl
  refine seq_key (fun ρ' => ρ' = [.dat (.str s), .own true [], .dat (.int ((run s [32] : Nat) : Int)), .no, .no, .no]) (fun nx hnx => ?_) ?_
  · try simp only [dSeq, dNext, dSet, dVar, dC, dBin, dTest, dCall, dCons, dNil, dAnd, dOr, dNot, dIf, dIfS, dRet, dRetN, dDrop, dBreak, dCont, dAug, fAddA, dTup, dLst, dFrz, dListOf, dNeg, fNeg, dSl, dNoPart, dPart, fSl, dM1, dIsi, dIsi2, dAppend, dPop, dReverse, dSetAt, dAndV, dOrV, dNotV, dB, dFld, dFldSet, dFldAdd, dMeth, dFn, dMake, dAsg, dgName, dgTwo, dgTwoL, dgThree, iSeq, iRange1, iRange2, iRange3, dFor, dLc, dYes, dKs, dKPush, dKTop, dKPop, dKLen, dOut, dFz, frzSl, stkAt, ownAt, obAt, rd1, rdL, rdD, datas, seqv, seqvs, stSl, rvSl, RV.hold, fI, fLen, fInt, fStr, fTuple, fAdd, fMul, fEq, fIn, fIsN, fIx, fJoin, List.getElem?_cons_zero, List.getElem?_cons_succ, List.getElem?_nil, List.set_cons_zero, List.set_cons_succ, List.length_cons, List.length_nil, eq_self_iff_true, true_and, and_true, Option.some.injEq, exists_eq_left']
    refine ⟨List.nodup_nil, _, rfl, s, 0, _, rfl, Nat.zero_le _, hz', rfl, trivial, ?_⟩
    simp only [wr, Sl.fl, Sl.mn, List.getD_cons_zero, List.getD_cons_succ, List.set_cons_zero, List.set_cons_succ]
    rw [List.drop_zero, Nat.zero_add, show (Str.ofString " ").cps.toList = [32] from c_sp]
    exact ⟨by simp, hnx _ rfl⟩
  rintro _ rfl
  refine seq_key (fun ρ' => ∃ (acc : List D) (x2 x3 x4 x5 : Sl), ρ' = [.dat (.str s), .own true acc, x2, x3, x4, x5] ∧ acc ++ [endD s.length none] = progT s.length (lexR s 0) ∧ acc.length ≤ s.length) (fun nx hnx => ?_) ?_
  · refine ⟨fun m ρ => ∃ (p r : List Nat) (acc : List D) (x3 x4 x5 : Sl), ρ = [.dat (.str s), .own true acc, .dat (.int ((p.length + run r [32] : Nat) : Int)), x3, x4, x5] ∧ s = p ++ r ∧ acc ++ progT s.length (lexR r p.length) = progT s.length (lexR s 0) ∧ acc.length ≤ p.length ∧ m = r.length, ⟨_, [], s, [], .no, .no, .no, by rw [List.length_nil, Nat.zero_add], rfl, rfl, Nat.le_refl _, rfl⟩, ?_⟩
    rintro m _ ⟨p, r, acc, x3, x4, x5, rfl, hs, ha, hl, rfl⟩
    have hlen := congrArg List.length hs
    rw [List.length_append] at hlen
    have hrl := run_le r [32]
    have hdl : (r.drop (run r [32])).length = r.length - run r [32] := List.length_drop
    cases hd : r.drop (run r [32]) with
    | nil =>
      rw [hd] at hdl
      have hdl' : r.length - run r [32] = 0 := hdl.symm
      refine whF (fun Q hQ => ?_) ?_
      · try simp only [dSeq, dNext, dSet, dVar, dC, dBin, dTest, dCall, dCons, dNil, dAnd, dOr, dNot, dIf, dIfS, dRet, dRetN, dDrop, dBreak, dCont, dAug, fAddA, dTup, dLst, dFrz, dListOf, dNeg, fNeg, dSl, dNoPart, dPart, fSl, dM1, dIsi, dIsi2, dAppend, dPop, dReverse, dSetAt, dAndV, dOrV, dNotV, dB, dFld, dFldSet, dFldAdd, dMeth, dFn, dMake, dAsg, dgName, dgTwo, dgTwoL, dgThree, iSeq, iRange1, iRange2, iRange3, dFor, dLc, dYes, dKs, dKPush, dKTop, dKPop, dKLen, dOut, dFz, frzSl, stkAt, ownAt, obAt, rd1, rdL, rdD, datas, seqv, seqvs, stSl, rvSl, RV.hold, fI, fLen, fInt, fStr, fTuple, fAdd, fMul, fEq, fIn, fIsN, fIx, fJoin, List.getElem?_cons_zero, List.getElem?_cons_succ, List.getElem?_nil, List.set_cons_zero, List.set_cons_succ, List.length_cons, List.length_nil, eq_self_iff_true, true_and, and_true, Option.some.injEq, exists_eq_left']
        rw [decide_eq_false (by omega)]
        exact ⟨hz', hQ⟩
      · rw [lex_skip r, hd, lexR] at ha
        exact hnx _ ⟨acc, _, _, _, _, rfl, ha, by omega⟩
    | cons c r' =>
      have hc32 := drop_head (r := r) hd
      rw [hd] at hdl
      have hdl' : r'.length + 1 = r.length - run r [32] := hdl
      have hsp : s = (p ++ r.take (run r [32])) ++ c :: r' := by rw [hs, List.append_assoc, ← hd, List.take_append_drop]
      have hpl : (p ++ r.take (run r [32])).length = p.length + run r [32] := by simp; omega
      refine whT (fun Q hQ => ?_) ?_
      · try simp only [dSeq, dNext, dSet, dVar, dC, dBin, dTest, dCall, dCons, dNil, dAnd, dOr, dNot, dIf, dIfS, dRet, dRetN, dDrop, dBreak, dCont, dAug, fAddA, dTup, dLst, dFrz, dListOf, dNeg, fNeg, dSl, dNoPart, dPart, fSl, dM1, dIsi, dIsi2, dAppend, dPop, dReverse, dSetAt, dAndV, dOrV, dNotV, dB, dFld, dFldSet, dFldAdd, dMeth, dFn, dMake, dAsg, dgName, dgTwo, dgTwoL, dgThree, iSeq, iRange1, iRange2, iRange3, dFor, dLc, dYes, dKs, dKPush, dKTop, dKPop, dKLen, dOut, dFz, frzSl, stkAt, ownAt, obAt, rd1, rdL, rdD, datas, seqv, seqvs, stSl, rvSl, RV.hold, fI, fLen, fInt, fStr, fTuple, fAdd, fMul, fEq, fIn, fIsN, fIx, fJoin, List.getElem?_cons_zero, List.getElem?_cons_succ, List.getElem?_nil, List.set_cons_zero, List.set_cons_succ, List.length_cons, List.length_nil, eq_self_iff_true, true_and, and_true, Option.some.injEq, exists_eq_left']
        rw [decide_eq_true (by omega)]
        exact ⟨hz', hQ⟩
      rw [lex_skip r, hd] at ha
      generalize hp2 : p ++ r.take (run r [32]) = p2 at hsp hpl
      rw [← hpl] at ha ⊢
      have hacc : acc.length < sizeLine := by omega
      have hp2l : p2.length < s.length := by rw [hsp]; simp
      rcases lex_step (r := r') p2.length hc32 with ⟨t, r2, e1, e2, e3, e4, e5⟩ | ⟨e3, e5⟩
      · have hs2 : s = (p2 ++ t) ++ r2 := by rw [hsp, e1]; simp
        have hl2 := congrArg List.length hs2
        simp only [List.length_append] at hl2
        have hl3 := congrArg List.length e1
        simp only [List.length_append, List.length_cons] at hl3
        refine seq_key (fun ρ' => ρ' = [.dat (.str s), .own true acc, .dat (.int (p2.length : Nat)), .dat (.str (kdR t)), .dat (vlR t), .dat (.int ((p2.length + t.length : Nat) : Int))]) (fun nx hnx => ?_) ?_
        · try simp only [dSeq, dNext, dSet, dVar, dC, dBin, dTest, dCall, dCons, dNil, dAnd, dOr, dNot, dIf, dIfS, dRet, dRetN, dDrop, dBreak, dCont, dAug, fAddA, dTup, dLst, dFrz, dListOf, dNeg, fNeg, dSl, dNoPart, dPart, fSl, dM1, dIsi, dIsi2, dAppend, dPop, dReverse, dSetAt, dAndV, dOrV, dNotV, dB, dFld, dFldSet, dFldAdd, dMeth, dFn, dMake, dAsg, dgName, dgTwo, dgTwoL, dgThree, iSeq, iRange1, iRange2, iRange3, dFor, dLc, dYes, dKs, dKPush, dKTop, dKPop, dKLen, dOut, dFz, frzSl, stkAt, ownAt, obAt, rd1, rdL, rdD, datas, seqv, seqvs, stSl, rvSl, RV.hold, fI, fLen, fInt, fStr, fTuple, fAdd, fMul, fEq, fIn, fIsN, fIx, fJoin, List.getElem?_cons_zero, List.getElem?_cons_succ, List.getElem?_nil, List.set_cons_zero, List.set_cons_succ, List.length_cons, List.length_nil, eq_self_iff_true, true_and, and_true, Option.some.injEq, exists_eq_left']
          refine ⟨List.nodup_nil, _, rfl, p2, r', c, by rw [hsp], by rw [← hsp]; exact hmr, by rw [← hsp]; exact hz', rfl, trivial, ?_⟩
          simp only [wr, Sl.fl, Sl.mn, List.getD_cons_zero, List.getD_cons_succ, List.set_cons_zero, List.set_cons_succ]
          rw [e3]
          try simp only [dSeq, dNext, dSet, dVar, dC, dBin, dTest, dCall, dCons, dNil, dAnd, dOr, dNot, dIf, dIfS, dRet, dRetN, dDrop, dBreak, dCont, dAug, fAddA, dTup, dLst, dFrz, dListOf, dNeg, fNeg, dSl, dNoPart, dPart, fSl, dM1, dIsi, dIsi2, dAppend, dPop, dReverse, dSetAt, dAndV, dOrV, dNotV, dB, dFld, dFldSet, dFldAdd, dMeth, dFn, dMake, dAsg, dgName, dgTwo, dgTwoL, dgThree, iSeq, iRange1, iRange2, iRange3, dFor, dLc, dYes, dKs, dKPush, dKTop, dKPop, dKLen, dOut, dFz, frzSl, stkAt, ownAt, obAt, rd1, rdL, rdD, datas, seqv, seqvs, stSl, rvSl, RV.hold, fI, fLen, fInt, fStr, fTuple, fAdd, fMul, fEq, fIn, fIsN, fIx, fJoin, List.getElem?_cons_zero, List.getElem?_cons_succ, List.getElem?_nil, List.set_cons_zero, List.set_cons_succ, List.length_cons, List.length_nil, eq_self_iff_true, true_and, and_true, Option.some.injEq, exists_eq_left']
          exact ⟨by decide, hnx _ rfl⟩
        rintro _ rfl
        refine seq_key (fun ρ' => ρ' = [.dat (.str s), .own true (acc ++ [rowD (t, p2.length)]), .dat (.int (p2.length : Nat)), .dat (.str (kdR t)), .dat (vlR t), .dat (.int ((p2.length + t.length : Nat) : Int))]) (fun nx hnx => ?_) ?_
        · try simp only [dSeq, dNext, dSet, dVar, dC, dBin, dTest, dCall, dCons, dNil, dAnd, dOr, dNot, dIf, dIfS, dRet, dRetN, dDrop, dBreak, dCont, dAug, fAddA, dTup, dLst, dFrz, dListOf, dNeg, fNeg, dSl, dNoPart, dPart, fSl, dM1, dIsi, dIsi2, dAppend, dPop, dReverse, dSetAt, dAndV, dOrV, dNotV, dB, dFld, dFldSet, dFldAdd, dMeth, dFn, dMake, dAsg, dgName, dgTwo, dgTwoL, dgThree, iSeq, iRange1, iRange2, iRange3, dFor, dLc, dYes, dKs, dKPush, dKTop, dKPop, dKLen, dOut, dFz, frzSl, stkAt, ownAt, obAt, rd1, rdL, rdD, datas, seqv, seqvs, stSl, rvSl, RV.hold, fI, fLen, fInt, fStr, fTuple, fAdd, fMul, fEq, fIn, fIsN, fIx, fJoin, List.getElem?_cons_zero, List.getElem?_cons_succ, List.getElem?_nil, List.set_cons_zero, List.set_cons_succ, List.length_cons, List.length_nil, eq_self_iff_true, true_and, and_true, Option.some.injEq, exists_eq_left']
          exact ⟨three_le, hacc, hnx _ rfl⟩
        rintro _ rfl
        refine seq_key (fun ρ' => ρ' = [.dat (.str s), .own true (acc ++ [rowD (t, p2.length)]), .dat (.int (p2.length : Nat)), .dat (.str (kdR t)), .dat (vlR t), .dat (.int ((p2.length + t.length : Nat) : Int))]) (fun nx hnx => ?_) ?_
        · refine ifF (fun Q hQ => ?_) (hnx _ rfl)
          try simp only [dSeq, dNext, dSet, dVar, dC, dBin, dTest, dCall, dCons, dNil, dAnd, dOr, dNot, dIf, dIfS, dRet, dRetN, dDrop, dBreak, dCont, dAug, fAddA, dTup, dLst, dFrz, dListOf, dNeg, fNeg, dSl, dNoPart, dPart, fSl, dM1, dIsi, dIsi2, dAppend, dPop, dReverse, dSetAt, dAndV, dOrV, dNotV, dB, dFld, dFldSet, dFldAdd, dMeth, dFn, dMake, dAsg, dgName, dgTwo, dgTwoL, dgThree, iSeq, iRange1, iRange2, iRange3, dFor, dLc, dYes, dKs, dKPush, dKTop, dKPop, dKLen, dOut, dFz, frzSl, stkAt, ownAt, obAt, rd1, rdL, rdD, datas, seqv, seqvs, stSl, rvSl, RV.hold, fI, fLen, fInt, fStr, fTuple, fAdd, fMul, fEq, fIn, fIsN, fIx, fJoin, List.getElem?_cons_zero, List.getElem?_cons_succ, List.getElem?_nil, List.set_cons_zero, List.set_cons_succ, List.length_cons, List.length_nil, eq_self_iff_true, true_and, and_true, Option.some.injEq, exists_eq_left']
          rw [d0, decide_eq_false e4]
          exact hQ
        rintro _ rfl
        try simp only [dSeq, dNext, dSet, dVar, dC, dBin, dTest, dCall, dCons, dNil, dAnd, dOr, dNot, dIf, dIfS, dRet, dRetN, dDrop, dBreak, dCont, dAug, fAddA, dTup, dLst, dFrz, dListOf, dNeg, fNeg, dSl, dNoPart, dPart, fSl, dM1, dIsi, dIsi2, dAppend, dPop, dReverse, dSetAt, dAndV, dOrV, dNotV, dB, dFld, dFldSet, dFldAdd, dMeth, dFn, dMake, dAsg, dgName, dgTwo, dgTwoL, dgThree, iSeq, iRange1, iRange2, iRange3, dFor, dLc, dYes, dKs, dKPush, dKTop, dKPop, dKLen, dOut, dFz, frzSl, stkAt, ownAt, obAt, rd1, rdL, rdD, datas, seqv, seqvs, stSl, rvSl, RV.hold, fI, fLen, fInt, fStr, fTuple, fAdd, fMul, fEq, fIn, fIsN, fIx, fJoin, List.getElem?_cons_zero, List.getElem?_cons_succ, List.getElem?_nil, List.set_cons_zero, List.set_cons_succ, List.length_cons, List.length_nil, eq_self_iff_true, true_and, and_true, Option.some.injEq, exists_eq_left']
        refine ⟨List.nodup_nil, _, rfl, s, (p2 ++ t).length, _, by simp; rfl, by rw [hs2]; simp, hz', rfl, trivial, ?_⟩
        simp only [wr, Sl.fl, Sl.mn, List.getD_cons_zero, List.getD_cons_succ, List.set_cons_zero, List.set_cons_succ]
        rw [show (Str.ofString " ").cps.toList = [32] from c_sp]
        have hdr : s.drop (p2 ++ t).length = r2 := by rw [hs2, drop_pre]
        rw [hdr]
        refine ⟨by simp, r2.length, by omega, p2 ++ t, r2, acc ++ [rowD (t, p2.length)], _, _, _, rfl, hs2, ?_, by simp; omega, rfl⟩
        rw [← ha, e5]
        simp [progT]
      · refine seq_key (fun ρ' => ρ' = [.dat (.str s), .own true acc, .dat (.int (p2.length : Nat)), .dat (.str []), .dat (.int 0), .dat (.int (p2.length : Nat))]) (fun nx hnx => ?_) ?_
        · try simp only [dSeq, dNext, dSet, dVar, dC, dBin, dTest, dCall, dCons, dNil, dAnd, dOr, dNot, dIf, dIfS, dRet, dRetN, dDrop, dBreak, dCont, dAug, fAddA, dTup, dLst, dFrz, dListOf, dNeg, fNeg, dSl, dNoPart, dPart, fSl, dM1, dIsi, dIsi2, dAppend, dPop, dReverse, dSetAt, dAndV, dOrV, dNotV, dB, dFld, dFldSet, dFldAdd, dMeth, dFn, dMake, dAsg, dgName, dgTwo, dgTwoL, dgThree, iSeq, iRange1, iRange2, iRange3, dFor, dLc, dYes, dKs, dKPush, dKTop, dKPop, dKLen, dOut, dFz, frzSl, stkAt, ownAt, obAt, rd1, rdL, rdD, datas, seqv, seqvs, stSl, rvSl, RV.hold, fI, fLen, fInt, fStr, fTuple, fAdd, fMul, fEq, fIn, fIsN, fIx, fJoin, List.getElem?_cons_zero, List.getElem?_cons_succ, List.getElem?_nil, List.set_cons_zero, List.set_cons_succ, List.length_cons, List.length_nil, eq_self_iff_true, true_and, and_true, Option.some.injEq, exists_eq_left']
          refine ⟨List.nodup_nil, _, rfl, p2, r', c, by rw [hsp], by rw [← hsp]; exact hmr, by rw [← hsp]; exact hz', rfl, trivial, ?_⟩
          simp only [wr, Sl.fl, Sl.mn, List.getD_cons_zero, List.getD_cons_succ, List.set_cons_zero, List.set_cons_succ]
          rw [e3, show cd "" = [] from c_e]
          try simp only [dSeq, dNext, dSet, dVar, dC, dBin, dTest, dCall, dCons, dNil, dAnd, dOr, dNot, dIf, dIfS, dRet, dRetN, dDrop, dBreak, dCont, dAug, fAddA, dTup, dLst, dFrz, dListOf, dNeg, fNeg, dSl, dNoPart, dPart, fSl, dM1, dIsi, dIsi2, dAppend, dPop, dReverse, dSetAt, dAndV, dOrV, dNotV, dB, dFld, dFldSet, dFldAdd, dMeth, dFn, dMake, dAsg, dgName, dgTwo, dgTwoL, dgThree, iSeq, iRange1, iRange2, iRange3, dFor, dLc, dYes, dKs, dKPush, dKTop, dKPop, dKLen, dOut, dFz, frzSl, stkAt, ownAt, obAt, rd1, rdL, rdD, datas, seqv, seqvs, stSl, rvSl, RV.hold, fI, fLen, fInt, fStr, fTuple, fAdd, fMul, fEq, fIn, fIsN, fIx, fJoin, List.getElem?_cons_zero, List.getElem?_cons_succ, List.getElem?_nil, List.set_cons_zero, List.set_cons_succ, List.length_cons, List.length_nil, eq_self_iff_true, true_and, and_true, Option.some.injEq, exists_eq_left']
          exact ⟨by decide, hnx _ rfl⟩
        rintro _ rfl
        refine seq_key (fun ρ' => ρ' = [.dat (.str s), .own true (acc ++ [endD s.length (some p2.length)]), .dat (.int (p2.length : Nat)), .dat (.str []), .dat (.int 0), .dat (.int (p2.length : Nat))]) (fun nx hnx => ?_) ?_
        · try simp only [dSeq, dNext, dSet, dVar, dC, dBin, dTest, dCall, dCons, dNil, dAnd, dOr, dNot, dIf, dIfS, dRet, dRetN, dDrop, dBreak, dCont, dAug, fAddA, dTup, dLst, dFrz, dListOf, dNeg, fNeg, dSl, dNoPart, dPart, fSl, dM1, dIsi, dIsi2, dAppend, dPop, dReverse, dSetAt, dAndV, dOrV, dNotV, dB, dFld, dFldSet, dFldAdd, dMeth, dFn, dMake, dAsg, dgName, dgTwo, dgTwoL, dgThree, iSeq, iRange1, iRange2, iRange3, dFor, dLc, dYes, dKs, dKPush, dKTop, dKPop, dKLen, dOut, dFz, frzSl, stkAt, ownAt, obAt, rd1, rdL, rdD, datas, seqv, seqvs, stSl, rvSl, RV.hold, fI, fLen, fInt, fStr, fTuple, fAdd, fMul, fEq, fIn, fIsN, fIx, fJoin, List.getElem?_cons_zero, List.getElem?_cons_succ, List.getElem?_nil, List.set_cons_zero, List.set_cons_succ, List.length_cons, List.length_nil, eq_self_iff_true, true_and, and_true, Option.some.injEq, exists_eq_left']
          exact ⟨three_le, hacc, hnx _ (by rw [endD, show cd "" = [] from c_e])⟩
        rintro _ rfl
        refine seq_key (fun _ => False) (fun nx hnx => ?_) (fun _ h => h.elim)
        refine ifT (fun Q hQ => ?_) ?_
        · try simp only [dSeq, dNext, dSet, dVar, dC, dBin, dTest, dCall, dCons, dNil, dAnd, dOr, dNot, dIf, dIfS, dRet, dRetN, dDrop, dBreak, dCont, dAug, fAddA, dTup, dLst, dFrz, dListOf, dNeg, fNeg, dSl, dNoPart, dPart, fSl, dM1, dIsi, dIsi2, dAppend, dPop, dReverse, dSetAt, dAndV, dOrV, dNotV, dB, dFld, dFldSet, dFldAdd, dMeth, dFn, dMake, dAsg, dgName, dgTwo, dgTwoL, dgThree, iSeq, iRange1, iRange2, iRange3, dFor, dLc, dYes, dKs, dKPush, dKTop, dKPop, dKLen, dOut, dFz, frzSl, stkAt, ownAt, obAt, rd1, rdL, rdD, datas, seqv, seqvs, stSl, rvSl, RV.hold, fI, fLen, fInt, fStr, fTuple, fAdd, fMul, fEq, fIn, fIsN, fIx, fJoin, List.getElem?_cons_zero, List.getElem?_cons_succ, List.getElem?_nil, List.set_cons_zero, List.set_cons_succ, List.length_cons, List.length_nil, eq_self_iff_true, true_and, and_true, Option.some.injEq, exists_eq_left']
          rw [d0]
          exact hQ
        · rw [e5] at ha
          have ha' : acc ++ [endD s.length (some p2.length)] = progT s.length (lexR s 0) := ha
          try simp only [dSeq, dNext, dSet, dVar, dC, dBin, dTest, dCall, dCons, dNil, dAnd, dOr, dNot, dIf, dIfS, dRet, dRetN, dDrop, dBreak, dCont, dAug, fAddA, dTup, dLst, dFrz, dListOf, dNeg, fNeg, dSl, dNoPart, dPart, fSl, dM1, dIsi, dIsi2, dAppend, dPop, dReverse, dSetAt, dAndV, dOrV, dNotV, dB, dFld, dFldSet, dFldAdd, dMeth, dFn, dMake, dAsg, dgName, dgTwo, dgTwoL, dgThree, iSeq, iRange1, iRange2, iRange3, dFor, dLc, dYes, dKs, dKPush, dKTop, dKPop, dKLen, dOut, dFz, frzSl, stkAt, ownAt, obAt, rd1, rdL, rdD, datas, seqv, seqvs, stSl, rvSl, RV.hold, fI, fLen, fInt, fStr, fTuple, fAdd, fMul, fEq, fIn, fIsN, fIx, fJoin, List.getElem?_cons_zero, List.getElem?_cons_succ, List.getElem?_nil, List.set_cons_zero, List.set_cons_succ, List.length_cons, List.length_nil, eq_self_iff_true, true_and, and_true, Option.some.injEq, exists_eq_left']
          rw [ha']
          exact q
  · rintro _ ⟨acc, x2, x3, x4, x5, rfl, ha, hl⟩
    try simp only [dSeq, dNext, dSet, dVar, dC, dBin, dTest, dCall, dCons, dNil, dAnd, dOr, dNot, dIf, dIfS, dRet, dRetN, dDrop, dBreak, dCont, dAug, fAddA, dTup, dLst, dFrz, dListOf, dNeg, fNeg, dSl, dNoPart, dPart, fSl, dM1, dIsi, dIsi2, dAppend, dPop, dReverse, dSetAt, dAndV, dOrV, dNotV, dB, dFld, dFldSet, dFldAdd, dMeth, dFn, dMake, dAsg, dgName, dgTwo, dgTwoL, dgThree, iSeq, iRange1, iRange2, iRange3, dFor, dLc, dYes, dKs, dKPush, dKTop, dKPop, dKLen, dOut, dFz, frzSl, stkAt, ownAt, obAt, rd1, rdL, rdD, datas, seqv, seqvs, stSl, rvSl, RV.hold, fI, fLen, fInt, fStr, fTuple, fAdd, fMul, fEq, fIn, fIsN, fIx, fJoin, List.getElem?_cons_zero, List.getElem?_cons_succ, List.getElem?_nil, List.set_cons_zero, List.set_cons_succ, List.length_cons, List.length_nil, eq_self_iff_true, true_and, and_true, Option.some.injEq, exists_eq_left']
    refine ⟨hz', three_le, by omega, ?_⟩
    have ha' : acc ++ [.tup [.int (s.length : Int), .str (Str.ofString "end").cps.toList, .int 0]] = progT s.length (lexR s 0) := ha
    rw [ha']
    exact q
end
end K76

set_option maxRecDepth 100000
set_option maxHeartbeats 4000000
namespace K76
open PySem PySem.Spec PyProof.Rows L2 TL SkE DL
abbrev s_Bad : Stmt := inClass (topS 5) 0
structure HB (P : Program) (K : PySem.W.Frag) (mg : Str → Option Value) (C_Bad : Addr) : Prop where
  ex : ∃ fI cc cda, EXA.TwoErr P K mg "BadText" "line" "place" s_Bad C_Bad fI cc cda
theorem bad_txt : EXA.TwoTxt s_Bad "line" "place" "line" "place" where
  body := ⟨_, _, _, _, _, _, _, _, _, _, _, _, _, _, _, _, _, rfl, fun q L f cd cc => ⟨rfl, rfl, rfl, rfl⟩⟩
  par := ⟨_, rfl, rfl⟩
  kind := rfl
  co := rfl
  gen := rfl
  nocell := by decide +kernel
  kS := rfl
  kC := rfl
  kself := rfl
  k1 := rfl
  k2 := rfl
  d1 := by decide
  d2 := by decide
  ne := by decide +kernel
  nf := by decide +kernel
  bind := fun s nm qual kV doc pm an cdv ct cc u l p => .of_eq rfl
/-! ### Line -/
def lf (row : Int) (ts : List D) (j : Nat) : List (Str × D) := [("row_number", .int row), ("tokens", .lst ts), ("taken", .int (j : Int))]
theorem ne_rt : (("tokens" : Str) == ("row_number" : Str)) = false := by decide +kernel
theorem ne_ar : (("taken" : Str) == ("row_number" : Str)) = false := by decide +kernel
theorem ne_at : (("taken" : Str) == ("tokens" : Str)) = false := by decide +kernel
theorem lf_tok {row : Int} {ts : List D} {j : Nat} : List.lookup ("tokens" : Str) (lf row ts j) = some (.lst ts) := by
  simp [lf, List.lookup, ne_rt]
theorem lf_tak {row : Int} {ts : List D} {j : Nat} : List.lookup ("taken" : Str) (lf row ts j) = some (.int (j : Int)) := by
  simp [lf, List.lookup, ne_ar, ne_at]
theorem lf_none {row : Int} {ts : List D} {j : Nat} {m : Str} (h1 : (m == ("row_number" : Str)) = false := by decide +kernel) (h2 : (m == ("tokens" : Str)) = false := by decide +kernel) (h3 : (m == ("taken" : Str)) = false := by decide +kernel) : List.lookup m (lf row ts j) = none := by
  simp [lf, List.lookup, h1, h2, h3]
theorem lf_put {row : Int} {ts : List D} {j : Nat} {k : Int} {k' : Nat} (h : k = (k' : Int)) : putD "taken" (.int k) (lf row ts j) = lf row ts k' := by
  subst h
  have h1 : ¬ (("row_number" : Str) = "taken") := by decide +kernel
  have h2 : ¬ (("tokens" : Str) = "taken") := by decide +kernel
  simp [lf, putD, h1, h2]
theorem lf_new {row : Int} {ts : List D} : putD "taken" (.int 0) (putD "tokens" (.lst ts) (putD "row_number" (.int row) [])) = lf row ts 0 := by
  have h1 : ¬ (("row_number" : Str) = "taken") := by decide +kernel
  have h2 : ¬ (("tokens" : Str) = "taken") := by decide +kernel
  have h3 : ¬ (("row_number" : Str) = "tokens") := by decide +kernel
  simp [lf, putD, h1, h2, h3]
theorem lf_len1 {row : Int} : (putD "row_number" (.int row) [] : List (Str × D)).length < 1000 := by simp [putD]
theorem lf_len2 {row : Int} {ts : List D} : (putD "tokens" (.lst ts) (putD "row_number" (.int row) []) : List (Str × D)).length < 1000 := by
  have h3 : ¬ (("row_number" : Str) = "tokens") := by decide +kernel
  simp [putD, h3]
theorem lf_len {row : Int} {ts : List D} {j : Nat} : (lf row ts j).length < 1000 := by simp [lf]
/-- the token here -/
def tkAt (ts : List D) (j : Nat) (k : List Nat) (v : D) : Prop := ∃ a, ts[j]? = some (.tup [a, .str k, v])
def tkP (ts : List D) (j : Nat) (p : Int) (k : List Nat) (v : D) : Prop := ts[j]? = some (.tup [.int p, .str k, v])
theorem tkP.at_ {ts : List D} {j : Nat} {p : Int} {k : List Nat} {v : D} (h : tkP ts j p k v) : tkAt ts j k v := ⟨_, h⟩
section
variable {P : Program} {w : World} {K : PySem.W.Frag} {mg : Str → Option Value} {base : Heap} {C_Line C_Bad : Addr}
def S_initG (C : Addr) : DL.Spec := fun args R _ => ∃ (s : List Nat) (m : Bool) (row : Int), args = [.ob m C [], .dat (.str s), .dat (.int row)] ∧ MR s ∧ s.length < sizeLine ∧
  R (.d .non) [.ob m C (lf row (progT s.length (lexR s 0)) 0), .dat (.str s), .dat (.int row)]
theorem ok_initG (T : TX K mg C_Line) : MkG P w K mg base "Line" C_Line 4 ["self", "text", "row_number"] (S_initG C_Line) := by
  obtain ⟨f, fd, F, hm, hg, bn⟩ := T.f_Line_init
  have g_tokens_of := ok_toksG (P := P) (w := w) (base := base) T
  refine mkG_of F hm hg bn sc_Line_init (by rintro _ _ _ ⟨_, _, _, rfl, _⟩; rfl) (fun cdv A outer s H E g hr => ⟨_, (dss_cons (ds_fld 0 T.c_Line T.na_Line_row_number (dv 2))
 (dss_cons (ds_fld 0 T.c_Line T.na_Line_tokens (dq_fn g_tokens_of (hr.mono (by omega)) (da_cons (dv 1) da_nil)))
 (dss_one (ds_fld 0 T.c_Line T.na_Line_taken de_int)))), ?_⟩) (fun _ _ _ h => h)
  rintro args R ⟨s, m, row, rfl, hmr, hz, q⟩
  simp only [body0, List.length_cons, List.length_nil, List.replicate, Nat.reduceAdd, Nat.reduceSub, List.cons_append, List.nil_append]
  try simp only [dSeq, dNext, dSet, dVar, dC, dBin, dTest, dCall, dCons, dNil, dAnd, dOr, dNot, dIf, dIfS, dRet, dRetN, dDrop, dBreak, dCont, dAug, fAddA, dTup, dLst, dFrz, dListOf, dNeg, fNeg, dSl, dNoPart, dPart, fSl, dM1, dIsi, dIsi2, dAppend, dPop, dReverse, dSetAt, dAndV, dOrV, dNotV, dB, dFld, dFldSet, dFldAdd, dMeth, dFn, dMake, dAsg, dgName, dgTwo, dgTwoL, dgThree, iSeq, iRange1, iRange2, iRange3, dFor, dLc, dYes, dKs, dKPush, dKTop, dKPop, dKLen, dOut, dFz, frzSl, stkAt, ownAt, obAt, rd1, rdL, rdD, datas, seqv, seqvs, stSl, rvSl, RV.hold, fI, fLen, fInt, fStr, fTuple, fAdd, fMul, fEq, fIn, fIsN, fIx, fJoin, List.getElem?_cons_zero, List.getElem?_cons_succ, List.getElem?_nil, List.set_cons_zero, List.set_cons_succ, List.length_cons, List.length_nil, eq_self_iff_true, true_and, and_true, Option.some.injEq, exists_eq_left']
  refine ⟨by simp, List.nodup_nil, _, rfl, s, rfl, hmr, hz, rfl, trivial, ?_⟩
  simp only [wr, Sl.fl, Sl.mn, List.getD_cons_zero, List.getD_cons_succ, List.set_cons_zero, List.set_cons_succ]
  try simp only [dSeq, dNext, dSet, dVar, dC, dBin, dTest, dCall, dCons, dNil, dAnd, dOr, dNot, dIf, dIfS, dRet, dRetN, dDrop, dBreak, dCont, dAug, fAddA, dTup, dLst, dFrz, dListOf, dNeg, fNeg, dSl, dNoPart, dPart, fSl, dM1, dIsi, dIsi2, dAppend, dPop, dReverse, dSetAt, dAndV, dOrV, dNotV, dB, dFld, dFldSet, dFldAdd, dMeth, dFn, dMake, dAsg, dgName, dgTwo, dgTwoL, dgThree, iSeq, iRange1, iRange2, iRange3, dFor, dLc, dYes, dKs, dKPush, dKTop, dKPop, dKLen, dOut, dFz, frzSl, stkAt, ownAt, obAt, rd1, rdL, rdD, datas, seqv, seqvs, stSl, rvSl, RV.hold, fI, fLen, fInt, fStr, fTuple, fAdd, fMul, fEq, fIn, fIsN, fIx, fJoin, List.getElem?_cons_zero, List.getElem?_cons_succ, List.getElem?_nil, List.set_cons_zero, List.set_cons_succ, List.length_cons, List.length_nil, eq_self_iff_true, true_and, and_true, Option.some.injEq, exists_eq_left']
  refine ⟨lf_len1, lf_len2, ?_⟩
  rw [lf_new]
  exact q
def S_kind_here (C : Addr) : DL.Spec := fun args R _ => ∃ (m : Bool) (row : Int) (ts : List D) (j : Nat) (k : List Nat) (v : D), args = [.ob m C (lf row ts j)] ∧ tkAt ts j k v ∧ R (.d (.str k)) args
theorem ok_kind_here (T : TX K mg C_Line) : MeG P w K mg base C_Line "kind_here" 1 ["self"] (S_kind_here C_Line) := by
  obtain ⟨f, fd, F, hm, bn⟩ := T.f_Line_kind_here
  refine meG_of F T.c_Line hm bn sc_Line_kind_here (by rintro _ _ _ ⟨_, _, _, _, _, _, rfl, _⟩; rfl) (fun cdv A outer s H E g hr => ⟨_, (dss_one (ds_ret (de_ix (de_ix (de_fld 0 T.c_Line T.na_Line_tokens) (de_fld 0 T.c_Line T.na_Line_taken)) de_int))), ?_⟩) (fun _ _ _ h => h)
  rintro args R ⟨m, row, ts, j, k, v, rfl, ⟨a, ht⟩, q⟩
  simp only [body0, List.length_cons, List.length_nil, List.replicate, Nat.reduceAdd, Nat.reduceSub, List.cons_append, List.nil_append]
  try simp only [dSeq, dNext, dSet, dVar, dC, dBin, dTest, dCall, dCons, dNil, dAnd, dOr, dNot, dIf, dIfS, dRet, dRetN, dDrop, dBreak, dCont, dAug, fAddA, dTup, dLst, dFrz, dListOf, dNeg, fNeg, dSl, dNoPart, dPart, fSl, dM1, dIsi, dIsi2, dAppend, dPop, dReverse, dSetAt, dAndV, dOrV, dNotV, dB, dFld, dFldSet, dFldAdd, dMeth, dFn, dMake, dAsg, dgName, dgTwo, dgTwoL, dgThree, iSeq, iRange1, iRange2, iRange3, dFor, dLc, dYes, dKs, dKPush, dKTop, dKPop, dKLen, dOut, dFz, frzSl, stkAt, ownAt, obAt, rd1, rdL, rdD, datas, seqv, seqvs, stSl, rvSl, RV.hold, fI, fLen, fInt, fStr, fTuple, fAdd, fMul, fEq, fIn, fIsN, fIx, fJoin, List.getElem?_cons_zero, List.getElem?_cons_succ, List.getElem?_nil, List.set_cons_zero, List.set_cons_succ, List.length_cons, List.length_nil, eq_self_iff_true, true_and, and_true, Option.some.injEq, exists_eq_left']
  exact ⟨_, lf_tok, _, lf_tak, _, atI_nat ht, _, rfl, q⟩
def S_value_here (C : Addr) : DL.Spec := fun args R _ => ∃ (m : Bool) (row : Int) (ts : List D) (j : Nat) (k : List Nat) (v : D), args = [.ob m C (lf row ts j)] ∧ tkAt ts j k v ∧ R (.d v) args
theorem ok_value_here (T : TX K mg C_Line) : MeG P w K mg base C_Line "value_here" 1 ["self"] (S_value_here C_Line) := by
  obtain ⟨f, fd, F, hm, bn⟩ := T.f_Line_value_here
  refine meG_of F T.c_Line hm bn sc_Line_value_here (by rintro _ _ _ ⟨_, _, _, _, _, _, rfl, _⟩; rfl) (fun cdv A outer s H E g hr => ⟨_, (dss_one (ds_ret (de_ix (de_ix (de_fld 0 T.c_Line T.na_Line_tokens) (de_fld 0 T.c_Line T.na_Line_taken)) de_int))), ?_⟩) (fun _ _ _ h => h)
  rintro args R ⟨m, row, ts, j, k, v, rfl, ⟨a, ht⟩, q⟩
  simp only [body0, List.length_cons, List.length_nil, List.replicate, Nat.reduceAdd, Nat.reduceSub, List.cons_append, List.nil_append]
  try simp only [dSeq, dNext, dSet, dVar, dC, dBin, dTest, dCall, dCons, dNil, dAnd, dOr, dNot, dIf, dIfS, dRet, dRetN, dDrop, dBreak, dCont, dAug, fAddA, dTup, dLst, dFrz, dListOf, dNeg, fNeg, dSl, dNoPart, dPart, fSl, dM1, dIsi, dIsi2, dAppend, dPop, dReverse, dSetAt, dAndV, dOrV, dNotV, dB, dFld, dFldSet, dFldAdd, dMeth, dFn, dMake, dAsg, dgName, dgTwo, dgTwoL, dgThree, iSeq, iRange1, iRange2, iRange3, dFor, dLc, dYes, dKs, dKPush, dKTop, dKPop, dKLen, dOut, dFz, frzSl, stkAt, ownAt, obAt, rd1, rdL, rdD, datas, seqv, seqvs, stSl, rvSl, RV.hold, fI, fLen, fInt, fStr, fTuple, fAdd, fMul, fEq, fIn, fIsN, fIx, fJoin, List.getElem?_cons_zero, List.getElem?_cons_succ, List.getElem?_nil, List.set_cons_zero, List.set_cons_succ, List.length_cons, List.length_nil, eq_self_iff_true, true_and, and_true, Option.some.injEq, exists_eq_left']
  exact ⟨_, lf_tok, _, lf_tak, _, atI_nat ht, _, rfl, q⟩
def S_refuse (C : Addr) : DL.Spec := fun args R B => ∃ (m : Bool) (row : Int) (ts : List D) (j : Nat) (p : Int) (k : List Nat) (v : D), args = [.ob m C (lf row ts j)] ∧ tkP ts j p k v ∧ B row p args
theorem ne_rr : List.lookup ("row_number" : Str) (lf 0 [] 0) = some (.int 0) := by simp [lf, List.lookup]
theorem lf_row {row : Int} {ts : List D} {j : Nat} : List.lookup ("row_number" : Str) (lf row ts j) = some (.int row) := by simp [lf, List.lookup]
theorem ok_refuse (T : TX K mg C_Line) (hB : HB P K mg C_Bad) : MeX P w K mg base C_Bad C_Line "refuse" 1 ["self"] (S_refuse C_Line) := by
  obtain ⟨f, fd, F, hm, bn⟩ := T.f_Line_refuse
  obtain ⟨fI, cc, cda, Tb⟩ := hB.ex
  have Zb := bad_txt
  refine meX_of F T.c_Line hm bn sc_Line_refuse (by rintro _ _ _ ⟨_, _, _, _, _, _, _, rfl, _⟩; rfl) (fun cdv A outer s H E g B hr tk => ⟨_, (dss_one (ds_raise tk Tb Zb hr (da_cons (de_fld 0 T.c_Line T.na_Line_row_number) (da_cons (de_ix (de_ix (de_fld 0 T.c_Line T.na_Line_tokens) (de_fld 0 T.c_Line T.na_Line_taken)) de_int) da_nil)))), ?_⟩)
  rintro args R ⟨m, row, ts, j, p, k, v, rfl, ht, q⟩
  simp only [body0, List.length_cons, List.length_nil, List.replicate, Nat.reduceAdd, Nat.reduceSub, List.cons_append, List.nil_append]
  exact ⟨rfl, _, lf_row, rfl, rfl, _, lf_tok, rfl, _, lf_tak, _, atI_nat ht, _, rfl, rfl, q⟩
def S_takeX (C : Addr) : DL.Spec := fun args R B => ∃ (m : Bool) (row : Int) (ts : List D) (j : Nat) (p : Int) (k k' : List Nat) (v : D), args = [.ob m C (lf row ts j), .dat (.str k)] ∧ tkP ts j p k' v ∧
  (k' = k → R (.d v) [.ob m C (lf row ts (j + 1)), .dat (.str k)]) ∧ (k' ≠ k → B row p [.ob m C (lf row ts j), .dat (.str k)])
theorem ok_takeX (T : TX K mg C_Line) (hB : HB P K mg C_Bad) : MeX P w K mg base C_Bad C_Line "take" 2 ["self", "kind"] (S_takeX C_Line) := by
  obtain ⟨f, fd, F, hm, bn⟩ := T.f_Line_take
  have g_Line_kind_here := ok_kind_here (P := P) (w := w) (base := base) T
  have g_Line_value_here := ok_value_here (P := P) (w := w) (base := base) T
  have g_Line_refuse := ok_refuse (w := w) (base := base) T hB
  refine meX_of F T.c_Line hm bn sc_Line_take (by rintro _ _ _ ⟨_, _, _, _, _, _, _, _, rfl, _⟩; rfl) (fun cdv A outer s H E g B hr tk => ⟨_, (dss_cons (ds_if (dt_cmp (o_ne (by exact hr.units)) (dq_meth0 0 g_Line_kind_here (hr.mono (by omega))) (dv 1))
 (dss_one (ds_expr (dqx_meth0 0 tk g_Line_refuse (hr.mono (by omega)))))
 dss_nil)
 (dss_cons (ds_set (i := 2) sc_Line_take.nd rfl (by first | exact Or.inl rfl | exact Or.inr rfl) (dq_meth0 0 g_Line_value_here (hr.mono (by omega))))
 (dss_cons (ds_fldAdd 0 T.c_Line T.na_Line_taken de_int)
 (dss_one (ds_ret (dv 2)))))), ?_⟩)
  rintro args R ⟨m, row, ts, j, p, k, k', v, rfl, ht, q1, q2⟩
  simp only [body0, List.length_cons, List.length_nil, List.replicate, Nat.reduceAdd, Nat.reduceSub, List.cons_append, List.nil_append]
  by_cases h : k' = k
  · refine seq_key (fun ρ' => ρ' = [.ob m C_Line (lf row ts j), .dat (.str k), .no]) (fun nx hnx => ?_) ?_
    · refine ifF (fun Q hQ => ?_) (hnx _ rfl)
      try simp only [dSeq, dNext, dSet, dVar, dC, dBin, dTest, dCall, dCons, dNil, dAnd, dOr, dNot, dIf, dIfS, dRet, dRetN, dDrop, dBreak, dCont, dAug, fAddA, dTup, dLst, dFrz, dListOf, dNeg, fNeg, dSl, dNoPart, dPart, fSl, dM1, dIsi, dIsi2, dAppend, dPop, dReverse, dSetAt, dAndV, dOrV, dNotV, dB, dFld, dFldSet, dFldAdd, dMeth, dFn, dMake, dAsg, dgName, dgTwo, dgTwoL, dgThree, iSeq, iRange1, iRange2, iRange3, dFor, dLc, dYes, dKs, dKPush, dKTop, dKPop, dKLen, dOut, dFz, frzSl, stkAt, ownAt, obAt, rd1, rdL, rdD, datas, seqv, seqvs, stSl, rvSl, RV.hold, fI, fLen, fInt, fStr, fTuple, fAdd, fMul, fEq, fIn, fIsN, fIx, fJoin, List.getElem?_cons_zero, List.getElem?_cons_succ, List.getElem?_nil, List.set_cons_zero, List.set_cons_succ, List.length_cons, List.length_nil, eq_self_iff_true, true_and, and_true, Option.some.injEq, exists_eq_left']
      refine ⟨lf_none, by simp [lent], _, rfl, false, row, ts, j, k', v, rfl, ht.at_, rfl, ⟨⟨rfl, rfl⟩, trivial⟩, ?_⟩
      simp only [wr, Sl.fl, Sl.mn, List.getD_cons_zero, List.getD_cons_succ, List.set_cons_zero, List.set_cons_succ]
      try simp only [dSeq, dNext, dSet, dVar, dC, dBin, dTest, dCall, dCons, dNil, dAnd, dOr, dNot, dIf, dIfS, dRet, dRetN, dDrop, dBreak, dCont, dAug, fAddA, dTup, dLst, dFrz, dListOf, dNeg, fNeg, dSl, dNoPart, dPart, fSl, dM1, dIsi, dIsi2, dAppend, dPop, dReverse, dSetAt, dAndV, dOrV, dNotV, dB, dFld, dFldSet, dFldAdd, dMeth, dFn, dMake, dAsg, dgName, dgTwo, dgTwoL, dgThree, iSeq, iRange1, iRange2, iRange3, dFor, dLc, dYes, dKs, dKPush, dKTop, dKPop, dKLen, dOut, dFz, frzSl, stkAt, ownAt, obAt, rd1, rdL, rdD, datas, seqv, seqvs, stSl, rvSl, RV.hold, fI, fLen, fInt, fStr, fTuple, fAdd, fMul, fEq, fIn, fIsN, fIx, fJoin, List.getElem?_cons_zero, List.getElem?_cons_succ, List.getElem?_nil, List.set_cons_zero, List.set_cons_succ, List.length_cons, List.length_nil, eq_self_iff_true, true_and, and_true, Option.some.injEq, exists_eq_left']
      rw [decide_eq_true h]
      exact hQ
    rintro _ rfl
    try simp only [dSeq, dNext, dSet, dVar, dC, dBin, dTest, dCall, dCons, dNil, dAnd, dOr, dNot, dIf, dIfS, dRet, dRetN, dDrop, dBreak, dCont, dAug, fAddA, dTup, dLst, dFrz, dListOf, dNeg, fNeg, dSl, dNoPart, dPart, fSl, dM1, dIsi, dIsi2, dAppend, dPop, dReverse, dSetAt, dAndV, dOrV, dNotV, dB, dFld, dFldSet, dFldAdd, dMeth, dFn, dMake, dAsg, dgName, dgTwo, dgTwoL, dgThree, iSeq, iRange1, iRange2, iRange3, dFor, dLc, dYes, dKs, dKPush, dKTop, dKPop, dKLen, dOut, dFz, frzSl, stkAt, ownAt, obAt, rd1, rdL, rdD, datas, seqv, seqvs, stSl, rvSl, RV.hold, fI, fLen, fInt, fStr, fTuple, fAdd, fMul, fEq, fIn, fIsN, fIx, fJoin, List.getElem?_cons_zero, List.getElem?_cons_succ, List.getElem?_nil, List.set_cons_zero, List.set_cons_succ, List.length_cons, List.length_nil, eq_self_iff_true, true_and, and_true, Option.some.injEq, exists_eq_left']
    refine ⟨lf_none, by simp [lent], _, rfl, false, row, ts, j, k', v, rfl, ht.at_, rfl, ⟨⟨rfl, rfl⟩, trivial⟩, ?_⟩
    simp only [wr, Sl.fl, Sl.mn, List.getD_cons_zero, List.getD_cons_succ, List.set_cons_zero, List.set_cons_succ]
    try simp only [dSeq, dNext, dSet, dVar, dC, dBin, dTest, dCall, dCons, dNil, dAnd, dOr, dNot, dIf, dIfS, dRet, dRetN, dDrop, dBreak, dCont, dAug, fAddA, dTup, dLst, dFrz, dListOf, dNeg, fNeg, dSl, dNoPart, dPart, fSl, dM1, dIsi, dIsi2, dAppend, dPop, dReverse, dSetAt, dAndV, dOrV, dNotV, dB, dFld, dFldSet, dFldAdd, dMeth, dFn, dMake, dAsg, dgName, dgTwo, dgTwoL, dgThree, iSeq, iRange1, iRange2, iRange3, dFor, dLc, dYes, dKs, dKPush, dKTop, dKPop, dKLen, dOut, dFz, frzSl, stkAt, ownAt, obAt, rd1, rdL, rdD, datas, seqv, seqvs, stSl, rvSl, RV.hold, fI, fLen, fInt, fStr, fTuple, fAdd, fMul, fEq, fIn, fIsN, fIx, fJoin, List.getElem?_cons_zero, List.getElem?_cons_succ, List.getElem?_nil, List.set_cons_zero, List.set_cons_succ, List.length_cons, List.length_nil, eq_self_iff_true, true_and, and_true, Option.some.injEq, exists_eq_left']
    refine ⟨by simp, _, lf_tak, lf_len, ?_⟩
    rw [lf_put (k' := j + 1) (by simp)]
    exact q1 h
  · refine seq_key (fun ρ' => False) (fun nx hnx => ?_) (fun _ h => h.elim)
    refine ifT (fun Q hQ => ?_) ?_
    · try simp only [dSeq, dNext, dSet, dVar, dC, dBin, dTest, dCall, dCons, dNil, dAnd, dOr, dNot, dIf, dIfS, dRet, dRetN, dDrop, dBreak, dCont, dAug, fAddA, dTup, dLst, dFrz, dListOf, dNeg, fNeg, dSl, dNoPart, dPart, fSl, dM1, dIsi, dIsi2, dAppend, dPop, dReverse, dSetAt, dAndV, dOrV, dNotV, dB, dFld, dFldSet, dFldAdd, dMeth, dFn, dMake, dAsg, dgName, dgTwo, dgTwoL, dgThree, iSeq, iRange1, iRange2, iRange3, dFor, dLc, dYes, dKs, dKPush, dKTop, dKPop, dKLen, dOut, dFz, frzSl, stkAt, ownAt, obAt, rd1, rdL, rdD, datas, seqv, seqvs, stSl, rvSl, RV.hold, fI, fLen, fInt, fStr, fTuple, fAdd, fMul, fEq, fIn, fIsN, fIx, fJoin, List.getElem?_cons_zero, List.getElem?_cons_succ, List.getElem?_nil, List.set_cons_zero, List.set_cons_succ, List.length_cons, List.length_nil, eq_self_iff_true, true_and, and_true, Option.some.injEq, exists_eq_left']
      refine ⟨lf_none, by simp [lent], _, rfl, false, row, ts, j, k', v, rfl, ht.at_, rfl, ⟨⟨rfl, rfl⟩, trivial⟩, ?_⟩
      simp only [wr, Sl.fl, Sl.mn, List.getD_cons_zero, List.getD_cons_succ, List.set_cons_zero, List.set_cons_succ]
      try simp only [dSeq, dNext, dSet, dVar, dC, dBin, dTest, dCall, dCons, dNil, dAnd, dOr, dNot, dIf, dIfS, dRet, dRetN, dDrop, dBreak, dCont, dAug, fAddA, dTup, dLst, dFrz, dListOf, dNeg, fNeg, dSl, dNoPart, dPart, fSl, dM1, dIsi, dIsi2, dAppend, dPop, dReverse, dSetAt, dAndV, dOrV, dNotV, dB, dFld, dFldSet, dFldAdd, dMeth, dFn, dMake, dAsg, dgName, dgTwo, dgTwoL, dgThree, iSeq, iRange1, iRange2, iRange3, dFor, dLc, dYes, dKs, dKPush, dKTop, dKPop, dKLen, dOut, dFz, frzSl, stkAt, ownAt, obAt, rd1, rdL, rdD, datas, seqv, seqvs, stSl, rvSl, RV.hold, fI, fLen, fInt, fStr, fTuple, fAdd, fMul, fEq, fIn, fIsN, fIx, fJoin, List.getElem?_cons_zero, List.getElem?_cons_succ, List.getElem?_nil, List.set_cons_zero, List.set_cons_succ, List.length_cons, List.length_nil, eq_self_iff_true, true_and, and_true, Option.some.injEq, exists_eq_left']
      rw [decide_eq_false h]
      exact hQ
    · exact ⟨rfl, lf_none, by simp [lent], _, rfl, false, row, ts, j, p, k', v, rfl, ht, ⟨⟨rfl, rfl⟩, trivial⟩, q2 h⟩
def S_closeX (C : Addr) : DL.Spec := fun args R B => ∃ (m : Bool) (row : Int) (ts : List D) (j : Nat) (p : Int) (k : List Nat) (v : D), args = [.ob m C (lf row ts j)] ∧ tkP ts j p k v ∧ (k = cd "end" → R (.d .non) args) ∧ (k ≠ cd "end" → B row p args)
theorem ok_closeX (T : TX K mg C_Line) (hB : HB P K mg C_Bad) : MeX P w K mg base C_Bad C_Line "close" 2 ["self"] (S_closeX C_Line) := by
  obtain ⟨f, fd, F, hm, bn⟩ := T.f_Line_close
  have g_Line_kind_here := ok_kind_here (P := P) (w := w) (base := base) T
  have g_Line_refuse := ok_refuse (w := w) (base := base) T hB
  refine meX_of F T.c_Line hm bn sc_Line_close (by rintro _ _ _ ⟨_, _, _, _, _, _, _, rfl, _⟩; rfl) (fun cdv A outer s H E g B hr tk => ⟨_, (dss_one (ds_if (dt_cmp (o_ne (by exact hr.units)) (dq_meth0 0 g_Line_kind_here (hr.mono (by omega))) de_str)
 (dss_one (ds_expr (dqx_meth0 0 tk g_Line_refuse (hr.mono (by omega)))))
 dss_nil)), ?_⟩)
  rintro args R ⟨m, row, ts, j, p, k, v, rfl, ht, q1, q2⟩
  simp only [body0, List.length_cons, List.length_nil, List.replicate, Nat.reduceAdd, Nat.reduceSub, List.cons_append, List.nil_append]
  by_cases h : k = cd "end"
  · refine ifF (fun Q hQ => ?_) (q1 h)
    try simp only [dSeq, dNext, dSet, dVar, dC, dBin, dTest, dCall, dCons, dNil, dAnd, dOr, dNot, dIf, dIfS, dRet, dRetN, dDrop, dBreak, dCont, dAug, fAddA, dTup, dLst, dFrz, dListOf, dNeg, fNeg, dSl, dNoPart, dPart, fSl, dM1, dIsi, dIsi2, dAppend, dPop, dReverse, dSetAt, dAndV, dOrV, dNotV, dB, dFld, dFldSet, dFldAdd, dMeth, dFn, dMake, dAsg, dgName, dgTwo, dgTwoL, dgThree, iSeq, iRange1, iRange2, iRange3, dFor, dLc, dYes, dKs, dKPush, dKTop, dKPop, dKLen, dOut, dFz, frzSl, stkAt, ownAt, obAt, rd1, rdL, rdD, datas, seqv, seqvs, stSl, rvSl, RV.hold, fI, fLen, fInt, fStr, fTuple, fAdd, fMul, fEq, fIn, fIsN, fIx, fJoin, List.getElem?_cons_zero, List.getElem?_cons_succ, List.getElem?_nil, List.set_cons_zero, List.set_cons_succ, List.length_cons, List.length_nil, eq_self_iff_true, true_and, and_true, Option.some.injEq, exists_eq_left']
    refine ⟨lf_none, by simp [lent], _, rfl, false, row, ts, j, k, v, rfl, ht.at_, rfl, ⟨⟨rfl, rfl⟩, trivial⟩, ?_⟩
    simp only [wr, Sl.fl, Sl.mn, List.getD_cons_zero, List.getD_cons_succ, List.set_cons_zero, List.set_cons_succ]
    try simp only [dSeq, dNext, dSet, dVar, dC, dBin, dTest, dCall, dCons, dNil, dAnd, dOr, dNot, dIf, dIfS, dRet, dRetN, dDrop, dBreak, dCont, dAug, fAddA, dTup, dLst, dFrz, dListOf, dNeg, fNeg, dSl, dNoPart, dPart, fSl, dM1, dIsi, dIsi2, dAppend, dPop, dReverse, dSetAt, dAndV, dOrV, dNotV, dB, dFld, dFldSet, dFldAdd, dMeth, dFn, dMake, dAsg, dgName, dgTwo, dgTwoL, dgThree, iSeq, iRange1, iRange2, iRange3, dFor, dLc, dYes, dKs, dKPush, dKTop, dKPop, dKLen, dOut, dFz, frzSl, stkAt, ownAt, obAt, rd1, rdL, rdD, datas, seqv, seqvs, stSl, rvSl, RV.hold, fI, fLen, fInt, fStr, fTuple, fAdd, fMul, fEq, fIn, fIsN, fIx, fJoin, List.getElem?_cons_zero, List.getElem?_cons_succ, List.getElem?_nil, List.set_cons_zero, List.set_cons_succ, List.length_cons, List.length_nil, eq_self_iff_true, true_and, and_true, Option.some.injEq, exists_eq_left']
    rw [decide_eq_true h]
    exact hQ
  · refine ifT (fun Q hQ => ?_) ?_
    · try simp only [dSeq, dNext, dSet, dVar, dC, dBin, dTest, dCall, dCons, dNil, dAnd, dOr, dNot, dIf, dIfS, dRet, dRetN, dDrop, dBreak, dCont, dAug, fAddA, dTup, dLst, dFrz, dListOf, dNeg, fNeg, dSl, dNoPart, dPart, fSl, dM1, dIsi, dIsi2, dAppend, dPop, dReverse, dSetAt, dAndV, dOrV, dNotV, dB, dFld, dFldSet, dFldAdd, dMeth, dFn, dMake, dAsg, dgName, dgTwo, dgTwoL, dgThree, iSeq, iRange1, iRange2, iRange3, dFor, dLc, dYes, dKs, dKPush, dKTop, dKPop, dKLen, dOut, dFz, frzSl, stkAt, ownAt, obAt, rd1, rdL, rdD, datas, seqv, seqvs, stSl, rvSl, RV.hold, fI, fLen, fInt, fStr, fTuple, fAdd, fMul, fEq, fIn, fIsN, fIx, fJoin, List.getElem?_cons_zero, List.getElem?_cons_succ, List.getElem?_nil, List.set_cons_zero, List.set_cons_succ, List.length_cons, List.length_nil, eq_self_iff_true, true_and, and_true, Option.some.injEq, exists_eq_left']
      refine ⟨lf_none, by simp [lent], _, rfl, false, row, ts, j, k, v, rfl, ht.at_, rfl, ⟨⟨rfl, rfl⟩, trivial⟩, ?_⟩
      simp only [wr, Sl.fl, Sl.mn, List.getD_cons_zero, List.getD_cons_succ, List.set_cons_zero, List.set_cons_succ]
      try simp only [dSeq, dNext, dSet, dVar, dC, dBin, dTest, dCall, dCons, dNil, dAnd, dOr, dNot, dIf, dIfS, dRet, dRetN, dDrop, dBreak, dCont, dAug, fAddA, dTup, dLst, dFrz, dListOf, dNeg, fNeg, dSl, dNoPart, dPart, fSl, dM1, dIsi, dIsi2, dAppend, dPop, dReverse, dSetAt, dAndV, dOrV, dNotV, dB, dFld, dFldSet, dFldAdd, dMeth, dFn, dMake, dAsg, dgName, dgTwo, dgTwoL, dgThree, iSeq, iRange1, iRange2, iRange3, dFor, dLc, dYes, dKs, dKPush, dKTop, dKPop, dKLen, dOut, dFz, frzSl, stkAt, ownAt, obAt, rd1, rdL, rdD, datas, seqv, seqvs, stSl, rvSl, RV.hold, fI, fLen, fInt, fStr, fTuple, fAdd, fMul, fEq, fIn, fIsN, fIx, fJoin, List.getElem?_cons_zero, List.getElem?_cons_succ, List.getElem?_nil, List.set_cons_zero, List.set_cons_succ, List.length_cons, List.length_nil, eq_self_iff_true, true_and, and_true, Option.some.injEq, exists_eq_left']
      rw [decide_eq_false h]
      exact hQ
    · exact ⟨rfl, lf_none, by simp [lent], _, rfl, false, row, ts, j, p, k, v, rfl, ht, ⟨⟨rfl, rfl⟩, trivial⟩, q2 h⟩
end
end K76

set_option maxRecDepth 100000
set_option maxHeartbeats 4000000
namespace K76
open PySem PySem.Spec PyProof.Rows L2 TL SkE DL
theorem k_nm : decide (cd "number" = cd "-") = false := by rw [c_number, c_mi]; rfl
theorem k_mw : decide (cd "-" = cd "word") = false := by rw [c_mi, c_word]; rfl
/-- how a signed number goes -/
def SgnO (ts : List D) (j : Nat) (ok : Nat → Prop) (bad : Int → Prop) : Prop :=
  (∃ (p n : Int), tkP ts j p (cd "number") (.int n) ∧ ok (j + 1)) ∨
  (∃ (p : Int) (v : D) (p' n : Int), tkP ts j p (cd "-") v ∧ tkP ts (j + 1) p' (cd "number") (.int n) ∧ n ≠ 0 ∧ ok (j + 2)) ∨
  (∃ (p : Int) (k : List Nat) (v : D), tkP ts j p k v ∧ k ≠ cd "number" ∧ k ≠ cd "-" ∧ bad p) ∨
  (∃ (p : Int) (v : D) (p' : Int), tkP ts j p (cd "-") v ∧ ((∃ (k' : List Nat) (v' : D), tkP ts (j + 1) p' k' v' ∧ k' ≠ cd "number") ∨ tkP ts (j + 1) p' (cd "number") (.int 0)) ∧ bad p')
section
variable {P : Program} {w : World} {K : PySem.W.Frag} {mg : Str → Option Value} {base : Heap} {C_Line C_Bad : Addr}
def S_signX (C : Addr) : DL.Spec := fun args R B => ∃ (m : Bool) (row : Int) (ts : List D) (j : Nat), args = [.ob m C (lf row ts j)] ∧
  SgnO ts j (fun j' => ∀ x : Int, R (.d (.int x)) [.ob m C (lf row ts j')]) (fun p => ∀ j', B row p [.ob m C (lf row ts j')])
theorem ok_signX (T : TX K mg C_Line) (hB : HB P K mg C_Bad) : MeX P w K mg base C_Bad C_Line "take_signed" 3 ["self"] (S_signX C_Line) := by
  obtain ⟨f, fd, F, hm, bn⟩ := T.f_Line_take_signed
  have g_Line_kind_here := ok_kind_here (P := P) (w := w) (base := base) T
  have g_Line_value_here := ok_value_here (P := P) (w := w) (base := base) T
  have g_Line_refuse := ok_refuse (w := w) (base := base) T hB
  have g_Line_take := ok_takeX (w := w) (base := base) T hB
  refine meX_of F T.c_Line hm bn sc_Line_take_signed (by rintro _ _ _ ⟨_, _, _, _, rfl, _⟩; rfl) (fun cdv A outer s H E g B hr tk => ⟨_, (dss_cons (ds_if (dt_cmp (o_ne (by exact hr.units)) (dq_meth0 0 g_Line_kind_here (hr.mono (by omega))) de_str)
 (dss_one (ds_ret (dqx_meth 0 tk g_Line_take (hr.mono (by omega)) (da_cons de_str da_nil))))
 dss_nil)
 (dss_cons (ds_expr (dqx_meth 0 tk g_Line_take (hr.mono (by omega)) (da_cons de_str da_nil)))
 (dss_cons (ds_if (dt_w (dw_and (dt_cmp (o_eq (by exact hr.units)) (dq_meth0 0 g_Line_kind_here (hr.mono (by omega))) de_str) (dw_and1 (dt_cmp (o_eq (by exact hr.units)) (dq_meth0 0 g_Line_value_here (hr.mono (by omega))) de_int))))
 (dss_one (ds_expr (dqx_meth0 0 tk g_Line_refuse (hr.mono (by omega)))))
 dss_nil)
 (dss_one (ds_ret (de_neg (dqx_meth 0 tk g_Line_take (hr.mono (by omega)) (da_cons de_str da_nil)))))))), ?_⟩)
  rintro args R ⟨m, row, ts, j, rfl, h⟩
  simp only [body0, List.length_cons, List.length_nil, List.replicate, Nat.reduceAdd, Nat.reduceSub, List.cons_append, List.nil_append]
  have kt : ∀ {n : Bool} {j : Nat} {k c : List Nat} {v : D} {b : Bool} (hk : tkAt ts j k v) (hb : (n ^^ decide (k = c)) = b) (Q : Bool → List Sl → Prop), Q b [.ob m C_Line (lf row ts j)] → dTest (dBin (fEq n) (dMeth 0 C_Line "kind_here" (S_kind_here C_Line) noBad dNil) (dC (.str c))) [.ob m C_Line (lf row ts j)] Q := fun {n j k c v b} hk hb Q hQ => by
    try simp only [dSeq, dNext, dSet, dVar, dC, dBin, dTest, dCall, dCons, dNil, dAnd, dOr, dNot, dIf, dIfS, dRet, dRetN, dDrop, dBreak, dCont, dAug, fAddA, dTup, dLst, dFrz, dListOf, dNeg, fNeg, dSl, dNoPart, dPart, fSl, dM1, dIsi, dIsi2, dAppend, dPop, dReverse, dSetAt, dAndV, dOrV, dNotV, dB, dFld, dFldSet, dFldAdd, dMeth, dFn, dMake, dAsg, dgName, dgTwo, dgTwoL, dgThree, iSeq, iRange1, iRange2, iRange3, dFor, dLc, dYes, dKs, dKPush, dKTop, dKPop, dKLen, dOut, dFz, frzSl, stkAt, ownAt, obAt, rd1, rdL, rdD, datas, seqv, seqvs, stSl, rvSl, RV.hold, fI, fLen, fInt, fStr, fTuple, fAdd, fMul, fEq, fIn, fIsN, fIx, fJoin, List.getElem?_cons_zero, List.getElem?_cons_succ, List.getElem?_nil, List.set_cons_zero, List.set_cons_succ, List.length_cons, List.length_nil, eq_self_iff_true, true_and, and_true, Option.some.injEq, exists_eq_left']
    refine ⟨lf_none, by simp [lent], _, rfl, false, row, ts, j, k, v, rfl, hk, rfl, ⟨⟨rfl, rfl⟩, trivial⟩, ?_⟩
    simp only [wr, Sl.fl, Sl.mn, List.getD_cons_zero, List.getD_cons_succ, List.set_cons_zero, List.set_cons_succ]
    try simp only [dSeq, dNext, dSet, dVar, dC, dBin, dTest, dCall, dCons, dNil, dAnd, dOr, dNot, dIf, dIfS, dRet, dRetN, dDrop, dBreak, dCont, dAug, fAddA, dTup, dLst, dFrz, dListOf, dNeg, fNeg, dSl, dNoPart, dPart, fSl, dM1, dIsi, dIsi2, dAppend, dPop, dReverse, dSetAt, dAndV, dOrV, dNotV, dB, dFld, dFldSet, dFldAdd, dMeth, dFn, dMake, dAsg, dgName, dgTwo, dgTwoL, dgThree, iSeq, iRange1, iRange2, iRange3, dFor, dLc, dYes, dKs, dKPush, dKTop, dKPop, dKLen, dOut, dFz, frzSl, stkAt, ownAt, obAt, rd1, rdL, rdD, datas, seqv, seqvs, stSl, rvSl, RV.hold, fI, fLen, fInt, fStr, fTuple, fAdd, fMul, fEq, fIn, fIsN, fIx, fJoin, List.getElem?_cons_zero, List.getElem?_cons_succ, List.getElem?_nil, List.set_cons_zero, List.set_cons_succ, List.length_cons, List.length_nil, eq_self_iff_true, true_and, and_true, Option.some.injEq, exists_eq_left']
    rw [hb]
    exact hQ
  rcases h with ⟨p, n, ht, q⟩ | ⟨p, v, p', n, ht, ht2, hn, q⟩ | ⟨p, k, v, ht, hk1, hk2, q⟩ | ⟨p, v, p', ht, h2, q⟩
  · refine seq_key (fun ρ' => False) (fun nx hnx => ?_) (fun _ h => h.elim)
    refine ifT (kt ht.at_ (by rw [k_nm]; rfl)) ?_
    refine ⟨rfl, lf_none, rfl, by simp [lent], _, rfl, false, row, ts, j, p, _, _, _, rfl, ht, fun _ => ⟨rfl, ⟨⟨rfl, rfl⟩, trivial⟩, ?_⟩, fun h => absurd rfl h⟩
    simp only [wr, Sl.fl, Sl.mn, List.getD_cons_zero, List.getD_cons_succ, List.set_cons_zero, List.set_cons_succ]
    exact q n
  · refine seq_key (fun ρ' => ρ' = [.ob m C_Line (lf row ts j)]) (fun nx hnx => ifF (kt ht.at_ (by rw [decide_eq_true rfl]; rfl)) (hnx _ rfl)) ?_
    rintro _ rfl
    refine seq_key (fun ρ' => ρ' = [.ob m C_Line (lf row ts (j + 1))]) (fun nx hnx => ?_) ?_
    · try simp only [dSeq, dNext, dSet, dVar, dC, dBin, dTest, dCall, dCons, dNil, dAnd, dOr, dNot, dIf, dIfS, dRet, dRetN, dDrop, dBreak, dCont, dAug, fAddA, dTup, dLst, dFrz, dListOf, dNeg, fNeg, dSl, dNoPart, dPart, fSl, dM1, dIsi, dIsi2, dAppend, dPop, dReverse, dSetAt, dAndV, dOrV, dNotV, dB, dFld, dFldSet, dFldAdd, dMeth, dFn, dMake, dAsg, dgName, dgTwo, dgTwoL, dgThree, iSeq, iRange1, iRange2, iRange3, dFor, dLc, dYes, dKs, dKPush, dKTop, dKPop, dKLen, dOut, dFz, frzSl, stkAt, ownAt, obAt, rd1, rdL, rdD, datas, seqv, seqvs, stSl, rvSl, RV.hold, fI, fLen, fInt, fStr, fTuple, fAdd, fMul, fEq, fIn, fIsN, fIx, fJoin, List.getElem?_cons_zero, List.getElem?_cons_succ, List.getElem?_nil, List.set_cons_zero, List.set_cons_succ, List.length_cons, List.length_nil, eq_self_iff_true, true_and, and_true, Option.some.injEq, exists_eq_left']
      refine ⟨lf_none, by simp [lent], _, rfl, false, row, ts, j, p, _, _, _, rfl, ht, fun _ => ⟨rfl, ⟨⟨rfl, rfl⟩, trivial⟩, ?_⟩, fun h => absurd rfl h⟩
      simp only [wr, Sl.fl, Sl.mn, List.getD_cons_zero, List.getD_cons_succ, List.set_cons_zero, List.set_cons_succ]
      exact hnx _ rfl
    rintro _ rfl
    refine seq_key (fun ρ' => ρ' = [.ob m C_Line (lf row ts (j + 1))]) (fun nx hnx => ifF (fun Q hQ => ?_) (hnx _ rfl)) ?_
    · refine kt ht2.at_ (b := true) (by rw [decide_eq_true rfl]; rfl) _ ?_
      rw [if_pos rfl]
      try simp only [dSeq, dNext, dSet, dVar, dC, dBin, dTest, dCall, dCons, dNil, dAnd, dOr, dNot, dIf, dIfS, dRet, dRetN, dDrop, dBreak, dCont, dAug, fAddA, dTup, dLst, dFrz, dListOf, dNeg, fNeg, dSl, dNoPart, dPart, fSl, dM1, dIsi, dIsi2, dAppend, dPop, dReverse, dSetAt, dAndV, dOrV, dNotV, dB, dFld, dFldSet, dFldAdd, dMeth, dFn, dMake, dAsg, dgName, dgTwo, dgTwoL, dgThree, iSeq, iRange1, iRange2, iRange3, dFor, dLc, dYes, dKs, dKPush, dKTop, dKPop, dKLen, dOut, dFz, frzSl, stkAt, ownAt, obAt, rd1, rdL, rdD, datas, seqv, seqvs, stSl, rvSl, RV.hold, fI, fLen, fInt, fStr, fTuple, fAdd, fMul, fEq, fIn, fIsN, fIx, fJoin, List.getElem?_cons_zero, List.getElem?_cons_succ, List.getElem?_nil, List.set_cons_zero, List.set_cons_succ, List.length_cons, List.length_nil, eq_self_iff_true, true_and, and_true, Option.some.injEq, exists_eq_left']
      refine ⟨lf_none, by simp [lent], _, rfl, false, row, ts, j + 1, _, _, rfl, ht2.at_, rfl, ⟨⟨rfl, rfl⟩, trivial⟩, ?_⟩
      simp only [wr, Sl.fl, Sl.mn, List.getD_cons_zero, List.getD_cons_succ, List.set_cons_zero, List.set_cons_succ]
      try simp only [dSeq, dNext, dSet, dVar, dC, dBin, dTest, dCall, dCons, dNil, dAnd, dOr, dNot, dIf, dIfS, dRet, dRetN, dDrop, dBreak, dCont, dAug, fAddA, dTup, dLst, dFrz, dListOf, dNeg, fNeg, dSl, dNoPart, dPart, fSl, dM1, dIsi, dIsi2, dAppend, dPop, dReverse, dSetAt, dAndV, dOrV, dNotV, dB, dFld, dFldSet, dFldAdd, dMeth, dFn, dMake, dAsg, dgName, dgTwo, dgTwoL, dgThree, iSeq, iRange1, iRange2, iRange3, dFor, dLc, dYes, dKs, dKPush, dKTop, dKPop, dKLen, dOut, dFz, frzSl, stkAt, ownAt, obAt, rd1, rdL, rdD, datas, seqv, seqvs, stSl, rvSl, RV.hold, fI, fLen, fInt, fStr, fTuple, fAdd, fMul, fEq, fIn, fIsN, fIx, fJoin, List.getElem?_cons_zero, List.getElem?_cons_succ, List.getElem?_nil, List.set_cons_zero, List.set_cons_succ, List.length_cons, List.length_nil, eq_self_iff_true, true_and, and_true, Option.some.injEq, exists_eq_left']
      rw [decide_eq_false hn]
      exact hQ
    rintro _ rfl
    try simp only [dSeq, dNext, dSet, dVar, dC, dBin, dTest, dCall, dCons, dNil, dAnd, dOr, dNot, dIf, dIfS, dRet, dRetN, dDrop, dBreak, dCont, dAug, fAddA, dTup, dLst, dFrz, dListOf, dNeg, fNeg, dSl, dNoPart, dPart, fSl, dM1, dIsi, dIsi2, dAppend, dPop, dReverse, dSetAt, dAndV, dOrV, dNotV, dB, dFld, dFldSet, dFldAdd, dMeth, dFn, dMake, dAsg, dgName, dgTwo, dgTwoL, dgThree, iSeq, iRange1, iRange2, iRange3, dFor, dLc, dYes, dKs, dKPush, dKTop, dKPop, dKLen, dOut, dFz, frzSl, stkAt, ownAt, obAt, rd1, rdL, rdD, datas, seqv, seqvs, stSl, rvSl, RV.hold, fI, fLen, fInt, fStr, fTuple, fAdd, fMul, fEq, fIn, fIsN, fIx, fJoin, List.getElem?_cons_zero, List.getElem?_cons_succ, List.getElem?_nil, List.set_cons_zero, List.set_cons_succ, List.length_cons, List.length_nil, eq_self_iff_true, true_and, and_true, Option.some.injEq, exists_eq_left']
    refine ⟨lf_none, by simp [lent], _, rfl, false, row, ts, j + 1, p', _, _, _, rfl, ht2, fun _ => ⟨rfl, ⟨⟨rfl, rfl⟩, trivial⟩, ?_⟩, fun h => absurd rfl h⟩
    simp only [wr, Sl.fl, Sl.mn, List.getD_cons_zero, List.getD_cons_succ, List.set_cons_zero, List.set_cons_succ]
    exact q (-n)
  · refine seq_key (fun ρ' => False) (fun nx hnx => ?_) (fun _ h => h.elim)
    refine ifT (kt ht.at_ (by rw [decide_eq_false hk2]; rfl)) ?_
    exact ⟨rfl, lf_none, rfl, by simp [lent], _, rfl, false, row, ts, j, p, _, _, _, rfl, ht, fun h => absurd h hk1, fun _ => ⟨⟨⟨rfl, rfl⟩, trivial⟩, q j⟩⟩
  · refine seq_key (fun ρ' => ρ' = [.ob m C_Line (lf row ts j)]) (fun nx hnx => ifF (kt ht.at_ (by rw [decide_eq_true rfl]; rfl)) (hnx _ rfl)) ?_
    rintro _ rfl
    refine seq_key (fun ρ' => ρ' = [.ob m C_Line (lf row ts (j + 1))]) (fun nx hnx => ?_) ?_
    · try simp only [dSeq, dNext, dSet, dVar, dC, dBin, dTest, dCall, dCons, dNil, dAnd, dOr, dNot, dIf, dIfS, dRet, dRetN, dDrop, dBreak, dCont, dAug, fAddA, dTup, dLst, dFrz, dListOf, dNeg, fNeg, dSl, dNoPart, dPart, fSl, dM1, dIsi, dIsi2, dAppend, dPop, dReverse, dSetAt, dAndV, dOrV, dNotV, dB, dFld, dFldSet, dFldAdd, dMeth, dFn, dMake, dAsg, dgName, dgTwo, dgTwoL, dgThree, iSeq, iRange1, iRange2, iRange3, dFor, dLc, dYes, dKs, dKPush, dKTop, dKPop, dKLen, dOut, dFz, frzSl, stkAt, ownAt, obAt, rd1, rdL, rdD, datas, seqv, seqvs, stSl, rvSl, RV.hold, fI, fLen, fInt, fStr, fTuple, fAdd, fMul, fEq, fIn, fIsN, fIx, fJoin, List.getElem?_cons_zero, List.getElem?_cons_succ, List.getElem?_nil, List.set_cons_zero, List.set_cons_succ, List.length_cons, List.length_nil, eq_self_iff_true, true_and, and_true, Option.some.injEq, exists_eq_left']
      refine ⟨lf_none, by simp [lent], _, rfl, false, row, ts, j, p, _, _, _, rfl, ht, fun _ => ⟨rfl, ⟨⟨rfl, rfl⟩, trivial⟩, ?_⟩, fun h => absurd rfl h⟩
      simp only [wr, Sl.fl, Sl.mn, List.getD_cons_zero, List.getD_cons_succ, List.set_cons_zero, List.set_cons_succ]
      exact hnx _ rfl
    rintro _ rfl
    rcases h2 with ⟨k', v', ht2, hk'⟩ | ht2
    · refine seq_key (fun ρ' => ρ' = [.ob m C_Line (lf row ts (j + 1))]) (fun nx hnx => ifF (fun Q hQ => ?_) (hnx _ rfl)) ?_
      · refine kt ht2.at_ (b := false) (by rw [decide_eq_false hk']; rfl) _ ?_
        rw [if_neg Bool.false_ne_true]
        exact hQ
      rintro _ rfl
      try simp only [dSeq, dNext, dSet, dVar, dC, dBin, dTest, dCall, dCons, dNil, dAnd, dOr, dNot, dIf, dIfS, dRet, dRetN, dDrop, dBreak, dCont, dAug, fAddA, dTup, dLst, dFrz, dListOf, dNeg, fNeg, dSl, dNoPart, dPart, fSl, dM1, dIsi, dIsi2, dAppend, dPop, dReverse, dSetAt, dAndV, dOrV, dNotV, dB, dFld, dFldSet, dFldAdd, dMeth, dFn, dMake, dAsg, dgName, dgTwo, dgTwoL, dgThree, iSeq, iRange1, iRange2, iRange3, dFor, dLc, dYes, dKs, dKPush, dKTop, dKPop, dKLen, dOut, dFz, frzSl, stkAt, ownAt, obAt, rd1, rdL, rdD, datas, seqv, seqvs, stSl, rvSl, RV.hold, fI, fLen, fInt, fStr, fTuple, fAdd, fMul, fEq, fIn, fIsN, fIx, fJoin, List.getElem?_cons_zero, List.getElem?_cons_succ, List.getElem?_nil, List.set_cons_zero, List.set_cons_succ, List.length_cons, List.length_nil, eq_self_iff_true, true_and, and_true, Option.some.injEq, exists_eq_left']
      exact ⟨lf_none, by simp [lent], _, rfl, false, row, ts, j + 1, p', _, _, _, rfl, ht2, fun h => absurd h hk', fun _ => ⟨⟨⟨rfl, rfl⟩, trivial⟩, q (j + 1)⟩⟩
    · refine seq_key (fun ρ' => False) (fun nx hnx => ?_) (fun _ h => h.elim)
      refine ifT (fun Q hQ => ?_) ?_
      · refine kt ht2.at_ (b := true) (by rw [decide_eq_true rfl]; rfl) _ ?_
        rw [if_pos rfl]
        try simp only [dSeq, dNext, dSet, dVar, dC, dBin, dTest, dCall, dCons, dNil, dAnd, dOr, dNot, dIf, dIfS, dRet, dRetN, dDrop, dBreak, dCont, dAug, fAddA, dTup, dLst, dFrz, dListOf, dNeg, fNeg, dSl, dNoPart, dPart, fSl, dM1, dIsi, dIsi2, dAppend, dPop, dReverse, dSetAt, dAndV, dOrV, dNotV, dB, dFld, dFldSet, dFldAdd, dMeth, dFn, dMake, dAsg, dgName, dgTwo, dgTwoL, dgThree, iSeq, iRange1, iRange2, iRange3, dFor, dLc, dYes, dKs, dKPush, dKTop, dKPop, dKLen, dOut, dFz, frzSl, stkAt, ownAt, obAt, rd1, rdL, rdD, datas, seqv, seqvs, stSl, rvSl, RV.hold, fI, fLen, fInt, fStr, fTuple, fAdd, fMul, fEq, fIn, fIsN, fIx, fJoin, List.getElem?_cons_zero, List.getElem?_cons_succ, List.getElem?_nil, List.set_cons_zero, List.set_cons_succ, List.length_cons, List.length_nil, eq_self_iff_true, true_and, and_true, Option.some.injEq, exists_eq_left']
        refine ⟨lf_none, by simp [lent], _, rfl, false, row, ts, j + 1, _, _, rfl, ht2.at_, rfl, ⟨⟨rfl, rfl⟩, trivial⟩, ?_⟩
        simp only [wr, Sl.fl, Sl.mn, List.getD_cons_zero, List.getD_cons_succ, List.set_cons_zero, List.set_cons_succ]
        try simp only [dSeq, dNext, dSet, dVar, dC, dBin, dTest, dCall, dCons, dNil, dAnd, dOr, dNot, dIf, dIfS, dRet, dRetN, dDrop, dBreak, dCont, dAug, fAddA, dTup, dLst, dFrz, dListOf, dNeg, fNeg, dSl, dNoPart, dPart, fSl, dM1, dIsi, dIsi2, dAppend, dPop, dReverse, dSetAt, dAndV, dOrV, dNotV, dB, dFld, dFldSet, dFldAdd, dMeth, dFn, dMake, dAsg, dgName, dgTwo, dgTwoL, dgThree, iSeq, iRange1, iRange2, iRange3, dFor, dLc, dYes, dKs, dKPush, dKTop, dKPop, dKLen, dOut, dFz, frzSl, stkAt, ownAt, obAt, rd1, rdL, rdD, datas, seqv, seqvs, stSl, rvSl, RV.hold, fI, fLen, fInt, fStr, fTuple, fAdd, fMul, fEq, fIn, fIsN, fIx, fJoin, List.getElem?_cons_zero, List.getElem?_cons_succ, List.getElem?_nil, List.set_cons_zero, List.set_cons_succ, List.length_cons, List.length_nil, eq_self_iff_true, true_and, and_true, Option.some.injEq, exists_eq_left']
        exact hQ
      · exact ⟨rfl, lf_none, by simp [lent], _, rfl, false, row, ts, j + 1, p', _, _, rfl, ht2, ⟨⟨rfl, rfl⟩, trivial⟩, q (j + 1)⟩
/-- how a leaf goes -/
def LeafO (ts : List D) (j : Nat) (ok : Nat → Prop) (bad : Int → Prop) : Prop :=
  (∃ (p : Int) (w : List Nat), tkP ts j p (cd "word") (.str w) ∧ ok (j + 1)) ∨ ((∃ (p : Int) (k : List Nat) (v : D), tkP ts j p k v ∧ k ≠ cd "word") ∧ SgnO ts j ok bad)
def S_leafX (C : Addr) : DL.Spec := fun args R B => ∃ (m : Bool) (row : Int) (ts : List D) (j : Nat), args = [.ob m C (lf row ts j)] ∧
  LeafO ts j (fun j' => ∀ x : D, R (.d x) [.ob m C (lf row ts j')]) (fun p => ∀ j', B row p [.ob m C (lf row ts j')])
theorem SgnO.imp {ts : List D} {j : Nat} {ok ok' : Nat → Prop} {bad bad' : Int → Prop} (h : SgnO ts j ok bad) (k1 : ∀ j, ok j → ok' j) (k2 : ∀ p, bad p → bad' p) : SgnO ts j ok' bad' := by
  rcases h with ⟨p, n, ht, q⟩ | ⟨p, v, p', n, ht, ht2, hn, q⟩ | ⟨p, k, v, ht, hk1, hk2, q⟩ | ⟨p, v, p', ht, h2, q⟩
  · exact .inl ⟨p, n, ht, k1 _ q⟩
  · exact .inr (.inl ⟨p, v, p', n, ht, ht2, hn, k1 _ q⟩)
  · exact .inr (.inr (.inl ⟨p, k, v, ht, hk1, hk2, k2 _ q⟩))
  · exact .inr (.inr (.inr ⟨p, v, p', ht, h2, k2 _ q⟩))
theorem ok_leafX (T : TX K mg C_Line) (hB : HB P K mg C_Bad) : FnX P w K mg base C_Bad "take_leaf" 4 ["line"] (S_leafX C_Line) := by
  obtain ⟨f, fd, F, hm, bn⟩ := T.f_take_leaf
  have g_Line_kind_here := ok_kind_here (P := P) (w := w) (base := base) T
  have g_Line_take := ok_takeX (w := w) (base := base) T hB
  have g_Line_take_signed := ok_signX (w := w) (base := base) T hB
  refine fnX_of F hm bn sc_take_leaf (by rintro _ _ _ ⟨_, _, _, _, rfl, _⟩; rfl) (fun cdv A outer s H E g B hr tk => ⟨_, (dss_cons (ds_if (dt_cmp (o_ne (by exact hr.units)) (dq_meth0 0 g_Line_kind_here (hr.mono (by omega))) de_str)
 (dss_one (ds_ret (dqx_meth0 0 tk g_Line_take_signed (hr.mono (by omega)))))
 dss_nil)
 (dss_cons (ds_set (i := 1) sc_take_leaf.nd rfl (by first | exact Or.inl rfl | exact Or.inr rfl) (dqx_meth 0 tk g_Line_take (hr.mono (by omega)) (da_cons de_str da_nil)))
 (dss_one (ds_ret (de_if (dt_cmp (o_eq (by exact hr.units)) (dv 1) (dq_str T.s_NONE_WORD)) de_non (dv 1)))))), ?_⟩)
  rintro args R ⟨m, row, ts, j, rfl, h⟩
  simp only [body0, List.length_cons, List.length_nil, List.replicate, Nat.reduceAdd, Nat.reduceSub, List.cons_append, List.nil_append]
  rcases h with ⟨p, w, ht, q⟩ | ⟨⟨p, k, v, ht, hk⟩, h⟩
  · refine seq_key (fun ρ' => ρ' = [.ob m C_Line (lf row ts j), .no]) (fun nx hnx => ifF (fun Q hQ => ?_) (hnx _ rfl)) ?_
    · try simp only [dSeq, dNext, dSet, dVar, dC, dBin, dTest, dCall, dCons, dNil, dAnd, dOr, dNot, dIf, dIfS, dRet, dRetN, dDrop, dBreak, dCont, dAug, fAddA, dTup, dLst, dFrz, dListOf, dNeg, fNeg, dSl, dNoPart, dPart, fSl, dM1, dIsi, dIsi2, dAppend, dPop, dReverse, dSetAt, dAndV, dOrV, dNotV, dB, dFld, dFldSet, dFldAdd, dMeth, dFn, dMake, dAsg, dgName, dgTwo, dgTwoL, dgThree, iSeq, iRange1, iRange2, iRange3, dFor, dLc, dYes, dKs, dKPush, dKTop, dKPop, dKLen, dOut, dFz, frzSl, stkAt, ownAt, obAt, rd1, rdL, rdD, datas, seqv, seqvs, stSl, rvSl, RV.hold, fI, fLen, fInt, fStr, fTuple, fAdd, fMul, fEq, fIn, fIsN, fIx, fJoin, List.getElem?_cons_zero, List.getElem?_cons_succ, List.getElem?_nil, List.set_cons_zero, List.set_cons_succ, List.length_cons, List.length_nil, eq_self_iff_true, true_and, and_true, Option.some.injEq, exists_eq_left']
      refine ⟨lf_none, by simp [lent], _, rfl, false, row, ts, j, _, _, rfl, ht.at_, rfl, ⟨⟨rfl, rfl⟩, trivial⟩, ?_⟩
      simp only [wr, Sl.fl, Sl.mn, List.getD_cons_zero, List.getD_cons_succ, List.set_cons_zero, List.set_cons_succ]
      try simp only [dSeq, dNext, dSet, dVar, dC, dBin, dTest, dCall, dCons, dNil, dAnd, dOr, dNot, dIf, dIfS, dRet, dRetN, dDrop, dBreak, dCont, dAug, fAddA, dTup, dLst, dFrz, dListOf, dNeg, fNeg, dSl, dNoPart, dPart, fSl, dM1, dIsi, dIsi2, dAppend, dPop, dReverse, dSetAt, dAndV, dOrV, dNotV, dB, dFld, dFldSet, dFldAdd, dMeth, dFn, dMake, dAsg, dgName, dgTwo, dgTwoL, dgThree, iSeq, iRange1, iRange2, iRange3, dFor, dLc, dYes, dKs, dKPush, dKTop, dKPop, dKLen, dOut, dFz, frzSl, stkAt, ownAt, obAt, rd1, rdL, rdD, datas, seqv, seqvs, stSl, rvSl, RV.hold, fI, fLen, fInt, fStr, fTuple, fAdd, fMul, fEq, fIn, fIsN, fIx, fJoin, List.getElem?_cons_zero, List.getElem?_cons_succ, List.getElem?_nil, List.set_cons_zero, List.set_cons_succ, List.length_cons, List.length_nil, eq_self_iff_true, true_and, and_true, Option.some.injEq, exists_eq_left']
      simp only [decide_true, Bool.true_xor, Bool.not_true]
      exact hQ
    rintro _ rfl
    try simp only [dSeq, dNext, dSet, dVar, dC, dBin, dTest, dCall, dCons, dNil, dAnd, dOr, dNot, dIf, dIfS, dRet, dRetN, dDrop, dBreak, dCont, dAug, fAddA, dTup, dLst, dFrz, dListOf, dNeg, fNeg, dSl, dNoPart, dPart, fSl, dM1, dIsi, dIsi2, dAppend, dPop, dReverse, dSetAt, dAndV, dOrV, dNotV, dB, dFld, dFldSet, dFldAdd, dMeth, dFn, dMake, dAsg, dgName, dgTwo, dgTwoL, dgThree, iSeq, iRange1, iRange2, iRange3, dFor, dLc, dYes, dKs, dKPush, dKTop, dKPop, dKLen, dOut, dFz, frzSl, stkAt, ownAt, obAt, rd1, rdL, rdD, datas, seqv, seqvs, stSl, rvSl, RV.hold, fI, fLen, fInt, fStr, fTuple, fAdd, fMul, fEq, fIn, fIsN, fIx, fJoin, List.getElem?_cons_zero, List.getElem?_cons_succ, List.getElem?_nil, List.set_cons_zero, List.set_cons_succ, List.length_cons, List.length_nil, eq_self_iff_true, true_and, and_true, Option.some.injEq, exists_eq_left']
    refine ⟨lf_none, by simp [lent], _, rfl, false, row, ts, j, p, _, _, _, rfl, ht, fun _ => ⟨rfl, ⟨⟨rfl, rfl⟩, trivial⟩, ?_⟩, fun h => absurd rfl h⟩
    simp only [wr, Sl.fl, Sl.mn, List.getD_cons_zero, List.getD_cons_succ, List.set_cons_zero, List.set_cons_succ]
    try simp only [dSeq, dNext, dSet, dVar, dC, dBin, dTest, dCall, dCons, dNil, dAnd, dOr, dNot, dIf, dIfS, dRet, dRetN, dDrop, dBreak, dCont, dAug, fAddA, dTup, dLst, dFrz, dListOf, dNeg, fNeg, dSl, dNoPart, dPart, fSl, dM1, dIsi, dIsi2, dAppend, dPop, dReverse, dSetAt, dAndV, dOrV, dNotV, dB, dFld, dFldSet, dFldAdd, dMeth, dFn, dMake, dAsg, dgName, dgTwo, dgTwoL, dgThree, iSeq, iRange1, iRange2, iRange3, dFor, dLc, dYes, dKs, dKPush, dKTop, dKPop, dKLen, dOut, dFz, frzSl, stkAt, ownAt, obAt, rd1, rdL, rdD, datas, seqv, seqvs, stSl, rvSl, RV.hold, fI, fLen, fInt, fStr, fTuple, fAdd, fMul, fEq, fIn, fIsN, fIx, fJoin, List.getElem?_cons_zero, List.getElem?_cons_succ, List.getElem?_nil, List.set_cons_zero, List.set_cons_succ, List.length_cons, List.length_nil, eq_self_iff_true, true_and, and_true, Option.some.injEq, exists_eq_left']
    refine ⟨by decide, ?_⟩
    split
    · exact q _
    · exact q _
  · refine seq_key (fun ρ' => False) (fun nx hnx => ?_) (fun _ h => h.elim)
    refine ifT (fun Q hQ => ?_) ?_
    · try simp only [dSeq, dNext, dSet, dVar, dC, dBin, dTest, dCall, dCons, dNil, dAnd, dOr, dNot, dIf, dIfS, dRet, dRetN, dDrop, dBreak, dCont, dAug, fAddA, dTup, dLst, dFrz, dListOf, dNeg, fNeg, dSl, dNoPart, dPart, fSl, dM1, dIsi, dIsi2, dAppend, dPop, dReverse, dSetAt, dAndV, dOrV, dNotV, dB, dFld, dFldSet, dFldAdd, dMeth, dFn, dMake, dAsg, dgName, dgTwo, dgTwoL, dgThree, iSeq, iRange1, iRange2, iRange3, dFor, dLc, dYes, dKs, dKPush, dKTop, dKPop, dKLen, dOut, dFz, frzSl, stkAt, ownAt, obAt, rd1, rdL, rdD, datas, seqv, seqvs, stSl, rvSl, RV.hold, fI, fLen, fInt, fStr, fTuple, fAdd, fMul, fEq, fIn, fIsN, fIx, fJoin, List.getElem?_cons_zero, List.getElem?_cons_succ, List.getElem?_nil, List.set_cons_zero, List.set_cons_succ, List.length_cons, List.length_nil, eq_self_iff_true, true_and, and_true, Option.some.injEq, exists_eq_left']
      refine ⟨lf_none, by simp [lent], _, rfl, false, row, ts, j, _, _, rfl, ht.at_, rfl, ⟨⟨rfl, rfl⟩, trivial⟩, ?_⟩
      simp only [wr, Sl.fl, Sl.mn, List.getD_cons_zero, List.getD_cons_succ, List.set_cons_zero, List.set_cons_succ]
      try simp only [dSeq, dNext, dSet, dVar, dC, dBin, dTest, dCall, dCons, dNil, dAnd, dOr, dNot, dIf, dIfS, dRet, dRetN, dDrop, dBreak, dCont, dAug, fAddA, dTup, dLst, dFrz, dListOf, dNeg, fNeg, dSl, dNoPart, dPart, fSl, dM1, dIsi, dIsi2, dAppend, dPop, dReverse, dSetAt, dAndV, dOrV, dNotV, dB, dFld, dFldSet, dFldAdd, dMeth, dFn, dMake, dAsg, dgName, dgTwo, dgTwoL, dgThree, iSeq, iRange1, iRange2, iRange3, dFor, dLc, dYes, dKs, dKPush, dKTop, dKPop, dKLen, dOut, dFz, frzSl, stkAt, ownAt, obAt, rd1, rdL, rdD, datas, seqv, seqvs, stSl, rvSl, RV.hold, fI, fLen, fInt, fStr, fTuple, fAdd, fMul, fEq, fIn, fIsN, fIx, fJoin, List.getElem?_cons_zero, List.getElem?_cons_succ, List.getElem?_nil, List.set_cons_zero, List.set_cons_succ, List.length_cons, List.length_nil, eq_self_iff_true, true_and, and_true, Option.some.injEq, exists_eq_left']
      rw [decide_eq_false hk]
      exact hQ
    · exact ⟨rfl, lf_none, by simp [lent], _, rfl, false, row, ts, j, rfl, h.imp (fun j' q x => ⟨rfl, ⟨⟨rfl, rfl⟩, trivial⟩, q _⟩) (fun p q j' => ⟨⟨⟨rfl, rfl⟩, trivial⟩, q j'⟩)⟩
end
end K76

set_option maxRecDepth 100000
set_option maxHeartbeats 4000000
namespace K76
open PySem PySem.Spec PyProof.Rows L2 TL SkE DL
/-- a token of a text -/
def okT (t : List Nat) : Prop := (∃ c, c ∈ SGN ∧ t = [c]) ∨ (t ≠ [] ∧ ∀ c ∈ t, c ∈ LET) ∨ (t ≠ [] ∧ (∀ c ∈ t, c ∈ DIG) ∧ (t.head? = some 48 → t = [48]))
theorem lex_ok : ∀ (n : Nat) (s : List Nat) (i : Nat), s.length ≤ n → ∀ q ∈ (lexR s i).1, okT q.1
  | _, [], i, _, q, h => by rw [lexR] at h; cases h
  | 0, c :: r, i, hn, q, h => by simp at hn
  | n + 1, c :: r, i, hn, q, h => by
    have hn' : r.length ≤ n := by simpa using hn
    rw [lexR] at h
    by_cases h0 : c = 32
    · rw [if_pos h0] at h; exact lex_ok n r _ hn' q h
    rw [if_neg h0] at h
    by_cases h1 : c ∈ SGN
    · rw [if_pos h1] at h
      rcases List.mem_cons.mp h with rfl | h
      · exact .inl ⟨c, h1, rfl⟩
      · exact lex_ok n r _ hn' q h
    rw [if_neg h1] at h
    by_cases h2 : c ∈ LET
    · rw [if_pos h2] at h
      rcases List.mem_cons.mp h with rfl | h
      · refine .inr (.inl ⟨by simp, fun x hx => ?_⟩)
        rcases List.mem_cons.mp hx with rfl | hx
        · exact h2
        · exact run_mem hx
      · exact lex_ok n _ _ (by simp; omega) q h
    rw [if_neg h2] at h
    by_cases h3 : c ∈ DIG
    · rw [if_pos h3] at h
      by_cases h4 : c = 48 ∧ 0 < run r DIG
      · rw [if_pos h4] at h; cases h
      · rw [if_neg h4] at h
        rcases List.mem_cons.mp h with rfl | h
        · refine .inr (.inr ⟨by simp, fun x hx => ?_, fun hh => ?_⟩)
          · rcases List.mem_cons.mp hx with rfl | hx
            · exact h3
            · exact run_mem hx
          · have h5 : c = 48 := by simpa using hh
            have h6 : run r DIG = 0 := by
              rcases Nat.eq_zero_or_pos (run r DIG) with z | z
              · exact z
              · exact absurd ⟨h5, z⟩ h4
            rw [h5, h6]; rfl
        · exact lex_ok n _ _ (by simp; omega) q h
    · rw [if_neg h3] at h; cases h
inductive Stg where
  | th | fi | mi | be
  deriving DecidableEq
def fin (bad : Option Nat) (len : Nat) : Nat := match bad with
  | some b => b
  | none => len
/-- the first place at which a text of these tokens cannot be read -/
def flt (bad : Option Nat) (len : Nat) : Stg → Nat → List (List Nat × Nat) → Option Nat
  | s, d, [] => if s = .be ∧ d = 0 ∧ bad = none then none else some (fin bad len)
  | .mi, d, (t, p) :: r => if t.head? ∈ (cd "123456789").map some then flt bad len .be d r else some p
  | .be, d, (t, p) :: r => if d = 0 then some p else if t = [44] then flt bad len .th d r else if t = [41] then flt bad len .be (d - 1) r else some p
  | s, d, (t, p) :: r => if t = [40] then flt bad len .fi (d + 1) r else if t = [41] then (if s = .fi then flt bad len .be (d - 1) r else some p)
      else if t = [45] then flt bad len .mi d r else if t.head? ∈ (cd "+*/^;,:").map some then some p else flt bad len .be d r
/-- what stands from j on -/
def At (bad : Option Nat) (len : Nat) (ts : List D) (j : Nat) (rs : List (List Nat × Nat)) : Prop := ts.drop j = rs.map rowD ++ [endD len bad]
section
variable {bad : Option Nat} {len : Nat} {ts : List D} {j : Nat}
theorem At.cons {t : List Nat} {p : Nat} {r : List (List Nat × Nat)} (h : At bad len ts j ((t, p) :: r)) : tkP ts j p (kdR t) (vlR t) ∧ At bad len ts (j + 1) r := by
  unfold At at h
  have hj : j < ts.length := by
    have := congrArg List.length h
    simp at this
    omega
  rw [List.drop_eq_getElem_cons hj] at h
  simp only [List.map_cons, List.cons_append] at h
  injection h with h1 h2
  refine ⟨?_, h2⟩
  show ts[j]? = _
  rw [List.getElem?_eq_getElem hj, h1]
  rfl
theorem At.nil (h : At bad len ts j []) : ∃ k, tkP ts j (fin bad len : Nat) k (.int 0) ∧ ((bad = none ∧ k = cd "end") ∨ (bad ≠ none ∧ k = [])) := by
  unfold At at h
  have hj : j < ts.length := by
    have := congrArg List.length h
    simp at this
    omega
  rw [List.drop_eq_getElem_cons hj] at h
  simp only [List.map_nil, List.nil_append] at h
  injection h with h1 h2
  have e : ts[j]? = some (endD len bad) := by rw [List.getElem?_eq_getElem hj, h1]
  cases bad with
  | none => exact ⟨cd "end", e, .inl ⟨rfl, rfl⟩⟩
  | some b => exact ⟨[], by rw [endD, show cd "" = [] from c_e] at e; exact e, .inr ⟨by simp, rfl⟩⟩
end
theorem kd_sg {c : Nat} (h : c ∈ SGN) : kdR [c] = [c] := by simp only [kdR, h, if_true]
theorem kd_eq {t : List Nat} {c : Nat} (h : okT t) (hc : c ∈ SGN) : kdR t = [c] ↔ t = [c] := by
  constructor
  · intro e
    rcases h with ⟨x, hx, rfl⟩ | ⟨hn, hl⟩ | ⟨hn, hl, _⟩
    · rw [kd_sg hx] at e; exact e
    · cases t with
      | nil => exact absurd rfl hn
      | cons a t =>
        have ha := hl a List.mem_cons_self
        simp only [kdR, not_sgn_let ha, ha, if_true, if_false, c_word] at e
        cases e
    · cases t with
      | nil => exact absurd rfl hn
      | cons a t =>
        have ha := hl a List.mem_cons_self
        simp only [kdR, not_sgn_dig ha, not_let_dig ha, if_false, c_number] at e
        cases e
  · rintro rfl
    exact kd_sg hc
theorem s40 : (40 : Nat) ∈ SGN := by rw [mem_sgn]; omega
theorem s41 : (41 : Nat) ∈ SGN := by rw [mem_sgn]; omega
theorem s44 : (44 : Nat) ∈ SGN := by rw [mem_sgn]; omega
theorem s45 : (45 : Nat) ∈ SGN := by rw [mem_sgn]; omega
theorem mem_19 {c : Nat} : c ∈ cd "123456789" ↔ 49 ≤ c ∧ c ≤ 57 := by
  rw [show cd "123456789" = List.range' 49 9 by decide +kernel, List.mem_range'_1]; omega
theorem mem_oth {c : Nat} : c ∈ cd "+*/^;,:" ↔ c ∈ SGN ∧ c ≠ 40 ∧ c ≠ 41 ∧ c ≠ 45 := by
  rw [mem_sgn, show cd "+*/^;,:" = [43, 42, 47, 94, 59, 44, 58] by decide +kernel]
  simp only [List.mem_cons, List.not_mem_nil, or_false]
  omega
theorem digitsVal_pos : ∀ (l : List Nat) (a : Nat), 0 < a → 0 < l.foldl (fun acc c => acc * 10 + (c - 48)) a
  | [], a, h => h
  | c :: l, a, h => digitsVal_pos l (a * 10 + (c - 48)) (by omega)
theorem val_pos {c : Nat} {t : List Nat} (h : 49 ≤ c) : 0 < PySem.NumText.digitsVal (c :: t) := digitsVal_pos t (0 * 10 + (c - 48)) (by omega)
/-- a leaf by the tokens -/
theorem leaf_flt {bad : Option Nat} {len : Nat} {ts : List D} {j d : Nat} {rs : List (List Nat × Nat)} {ok : Nat → Prop} {no : Int → Prop} (h : At bad len ts j rs) (hok : ∀ q ∈ rs, okT q.1) (hn : ∀ p r, rs ≠ ([40], p) :: r)
    (k1 : ∀ (j' : Nat) (r' : List (List Nat × Nat)), At bad len ts j' r' → (∀ q ∈ r', okT q.1) → flt bad len .th d rs = flt bad len .be d r' → r'.length + (j' - j) = rs.length → j < j' → ok j') (k2 : ∀ p : Nat, flt bad len .th d rs = some p → no p) : LeafO ts j ok no := by
  have e_mi : cd "-" = [45] := c_mi
  cases rs with
  | nil =>
    obtain ⟨k, ht, hk⟩ := h.nil
    have hno : no (fin bad len : Nat) := k2 _ (by simp [flt])
    refine .inr ⟨⟨_, k, _, ht, ?_⟩, .inr (.inr (.inl ⟨_, k, _, ht, ?_, ?_, hno⟩))⟩ <;> (rcases hk with ⟨_, rfl⟩ | ⟨_, rfl⟩ <;> simp [c_word, c_number, c_mi, c_end])
  | cons x r =>
    obtain ⟨t, p⟩ := x
    obtain ⟨ht, ha⟩ := h.cons
    have hokr : ∀ q ∈ r, okT q.1 := fun q hq => hok q (List.mem_cons_of_mem _ hq)
    rcases hok _ List.mem_cons_self with ⟨c, hc, rfl⟩ | ⟨hne, hl⟩ | ⟨hne, hl, h0⟩
    · have hkd : kdR [c] = [c] := kd_sg hc
      rw [hkd] at ht
      have n1 : ([c] : List Nat) ≠ cd "word" := by rw [c_word]; simp
      have n2 : ([c] : List Nat) ≠ cd "number" := by rw [c_number]; simp
      have n40 : c ≠ 40 := fun z => hn p r (by rw [z])
      by_cases h45 : c = 45
      · subst h45
        have e1 : flt bad len .th d (([45], p) :: r) = flt bad len .mi d r := by simp [flt]
        refine .inr ⟨⟨_, _, _, ht, n1⟩, ?_⟩
        cases r with
        | nil =>
          obtain ⟨k, ht2, hk⟩ := ha.nil
          refine .inr (.inr (.inr ⟨_, _, _, by rw [e_mi]; exact ht, .inl ⟨k, _, ht2, ?_⟩, k2 _ (by rw [e1]; simp [flt])⟩))
          rcases hk with ⟨_, rfl⟩ | ⟨_, rfl⟩ <;> simp [c_number, c_end]
        | cons y r2 =>
          obtain ⟨t2, p2⟩ := y
          obtain ⟨ht2, ha2⟩ := ha.cons
          have e2 : flt bad len .mi d ((t2, p2) :: r2) = if t2.head? ∈ (cd "123456789").map some then flt bad len .be d r2 else some p2 := rfl
          rcases hokr _ List.mem_cons_self with ⟨c2, hc2, rfl⟩ | ⟨hne2, hl2⟩ | ⟨hne2, hl2, h02⟩
          · have : ¬ (([c2] : List Nat).head? ∈ (cd "123456789").map some) := fun z => by
              obtain ⟨x, hx, e⟩ := List.mem_map.mp z
              simp at e
              have := mem_19.mp hx
              have := mem_sgn.mp hc2
              omega
            refine .inr (.inr (.inr ⟨_, _, _, by rw [e_mi]; exact ht, .inl ⟨_, _, ht2, by rw [kd_sg hc2, c_number]; simp⟩, k2 _ (by rw [e1, e2, if_neg this])⟩))
          · cases t2 with
            | nil => exact absurd rfl hne2
            | cons a t2 =>
              have hal := hl2 a List.mem_cons_self
              have : ¬ ((a :: t2).head? ∈ (cd "123456789").map some) := fun z => by
                obtain ⟨x, hx, e⟩ := List.mem_map.mp z
                simp at e
                have := mem_19.mp hx
                have := mem_let.mp hal
                omega
              refine .inr (.inr (.inr ⟨_, _, _, by rw [e_mi]; exact ht, .inl ⟨_, _, ht2, ?_⟩, k2 _ (by rw [e1, e2, if_neg this])⟩))
              simp [kdR, not_sgn_let hal, hal, c_word, c_number]
          · cases t2 with
            | nil => exact absurd rfl hne2
            | cons a t2 =>
              have had := hl2 a List.mem_cons_self
              have hk2 : kdR (a :: t2) = cd "number" := by simp only [kdR, not_sgn_dig had, not_let_dig had, if_false]
              have hv2 : vlR (a :: t2) = .int ((PySem.NumText.digitsVal (a :: t2) : Nat) : Int) := by simp only [vlR, not_sgn_dig had, not_let_dig had, if_false]
              rw [hk2, hv2] at ht2
              have hd2 := mem_dig.mp had
              by_cases h48 : a = 48
              · have z : a :: t2 = [48] := h02 (by rw [h48]; rfl)
                have : ¬ ((a :: t2).head? ∈ (cd "123456789").map some) := fun z => by
                  obtain ⟨x, hx, e⟩ := List.mem_map.mp z
                  simp at e
                  have := mem_19.mp hx
                  omega
                refine .inr (.inr (.inr ⟨_, _, _, by rw [e_mi]; exact ht, .inr ?_, k2 _ (by rw [e1, e2, if_neg this])⟩))
                rw [z] at ht2
                exact ht2
              · have : (a :: t2).head? ∈ (cd "123456789").map some := List.mem_map.mpr ⟨a, mem_19.mpr (by omega), rfl⟩
                have hp := val_pos (c := a) (t := t2) (by omega)
                refine .inr (.inl ⟨_, _, _, _, by rw [e_mi]; exact ht, ht2, by omega, k1 (j + 2) r2 ha2 (fun q hq => hokr q (List.mem_cons_of_mem _ hq)) (by rw [e1, e2, if_pos this]) (by simp) (by omega)⟩)
      · refine .inr ⟨⟨_, _, _, ht, n1⟩, .inr (.inr (.inl ⟨_, _, _, ht, n2, by rw [e_mi]; simp [h45], k2 p ?_⟩))⟩
        by_cases h41 : c = 41
        · subst h41; simp [flt]
        · have : ([c] : List Nat).head? ∈ (cd "+*/^;,:").map some := List.mem_map.mpr ⟨c, mem_oth.mpr ⟨hc, n40, h41, h45⟩, rfl⟩
          simp only [flt]
          rw [if_neg (by simpa using n40), if_neg (by simpa using h41), if_neg (by simpa using h45), if_pos this]
    · cases t with
      | nil => exact absurd rfl hne
      | cons a t =>
        have hal := hl a List.mem_cons_self
        have hb := mem_let.mp hal
        have hk : kdR (a :: t) = cd "word" := by simp only [kdR, not_sgn_let hal, hal, if_true, if_false]
        have hv : vlR (a :: t) = .str (a :: t) := by simp only [vlR, not_sgn_let hal, hal, if_true, if_false]
        rw [hk, hv] at ht
        refine .inl ⟨_, _, ht, k1 (j + 1) r ha hokr ?_ (by simp) (by omega)⟩
        have no : ¬ ((a :: t).head? ∈ (cd "+*/^;,:").map some) := fun z => by
          obtain ⟨x, hx, e⟩ := List.mem_map.mp z
          simp at e
          have := mem_sgn.mp (mem_oth.mp hx).1
          omega
        simp only [flt]
        rw [if_neg (by simp; omega), if_neg (by simp; omega), if_neg (by simp; omega), if_neg no]
    · cases t with
      | nil => exact absurd rfl hne
      | cons a t =>
        have had := hl a List.mem_cons_self
        have hb := mem_dig.mp had
        have hk : kdR (a :: t) = cd "number" := by simp only [kdR, not_sgn_dig had, not_let_dig had, if_false]
        have hv : vlR (a :: t) = .int ((PySem.NumText.digitsVal (a :: t) : Nat) : Int) := by simp only [vlR, not_sgn_dig had, not_let_dig had, if_false]
        rw [hk, hv] at ht
        refine .inr ⟨⟨_, _, _, ht, by rw [c_number, c_word]; simp⟩, .inl ⟨_, _, ht, k1 (j + 1) r ha hokr ?_ (by simp) (by omega)⟩⟩
        have no : ¬ ((a :: t).head? ∈ (cd "+*/^;,:").map some) := fun z => by
          obtain ⟨x, hx, e⟩ := List.mem_map.mp z
          simp at e
          have := mem_sgn.mp (mem_oth.mp hx).1
          omega
        simp only [flt]
        rw [if_neg (by simp; omega), if_neg (by simp; omega), if_neg (by simp; omega), if_neg no]
end K76

set_option maxRecDepth 100000
set_option maxHeartbeats 4000000
namespace K76
open PySem PySem.Spec PyProof.Rows L2 TL SkE DL
section
variable {n m : Bool} {C : Addr} {a : Sl} {tl : List Sl} {row : Int} {ts : List D} {j : Nat} {k c : List Nat} {v : D} {t u u2 : DS} {ψ : DEnds} {p : Int} {B : Int → Int → List Sl → Prop}
abbrev kTx (n : Bool) (C : Addr) (c : List Nat) : DT := dTest (dBin (fEq n) (dMeth 1 C "kind_here" (S_kind_here C) noBad dNil) (dC (.str c)))
theorem khx {b : Bool} (hk : tkAt ts j k v) (hb : (n ^^ decide (k = c)) = b) (Q : Bool → List Sl → Prop) (h : Q b (a :: .ob m C (lf row ts j) :: tl)) : kTx n C c (a :: .ob m C (lf row ts j) :: tl) Q := by
  unfold kTx
  try simp only [dSeq, dNext, dSet, dVar, dC, dBin, dTest, dCall, dCons, dNil, dAnd, dOr, dNot, dIf, dIfS, dRet, dRetN, dDrop, dBreak, dCont, dAug, fAddA, dTup, dLst, dFrz, dListOf, dNeg, fNeg, dSl, dNoPart, dPart, fSl, dM1, dIsi, dIsi2, dAppend, dPop, dReverse, dSetAt, dAndV, dOrV, dNotV, dB, dFld, dFldSet, dFldAdd, dMeth, dFn, dMake, dAsg, dgName, dgTwo, dgTwoL, dgThree, iSeq, iRange1, iRange2, iRange3, dFor, dLc, dYes, dKs, dKPush, dKTop, dKPop, dKLen, dOut, dFz, frzSl, stkAt, ownAt, obAt, rd1, rdL, rdD, datas, seqv, seqvs, stSl, rvSl, RV.hold, fI, fLen, fInt, fStr, fTuple, fAdd, fMul, fEq, fIn, fIsN, fIx, fJoin, List.getElem?_cons_zero, List.getElem?_cons_succ, List.getElem?_nil, List.set_cons_zero, List.set_cons_succ, List.length_cons, List.length_nil, eq_self_iff_true, true_and, and_true, Option.some.injEq, exists_eq_left']
  refine ⟨lf_none, by simp [lent], _, rfl, false, row, ts, j, k, v, rfl, hk, rfl, ⟨⟨rfl, rfl⟩, trivial⟩, ?_⟩
  simp only [wr, Sl.fl, Sl.mn, List.getD_cons_zero, List.getD_cons_succ, List.set_cons_zero, List.set_cons_succ]
  try simp only [dSeq, dNext, dSet, dVar, dC, dBin, dTest, dCall, dCons, dNil, dAnd, dOr, dNot, dIf, dIfS, dRet, dRetN, dDrop, dBreak, dCont, dAug, fAddA, dTup, dLst, dFrz, dListOf, dNeg, fNeg, dSl, dNoPart, dPart, fSl, dM1, dIsi, dIsi2, dAppend, dPop, dReverse, dSetAt, dAndV, dOrV, dNotV, dB, dFld, dFldSet, dFldAdd, dMeth, dFn, dMake, dAsg, dgName, dgTwo, dgTwoL, dgThree, iSeq, iRange1, iRange2, iRange3, dFor, dLc, dYes, dKs, dKPush, dKTop, dKPop, dKLen, dOut, dFz, frzSl, stkAt, ownAt, obAt, rd1, rdL, rdD, datas, seqv, seqvs, stSl, rvSl, RV.hold, fI, fLen, fInt, fStr, fTuple, fAdd, fMul, fEq, fIn, fIsN, fIx, fJoin, List.getElem?_cons_zero, List.getElem?_cons_succ, List.getElem?_nil, List.set_cons_zero, List.set_cons_succ, List.length_cons, List.length_nil, eq_self_iff_true, true_and, and_true, Option.some.injEq, exists_eq_left']
  rw [hb]
  exact h
/-- line.take(c) -/
theorem tkx {Q : RV → List Sl → Prop} (ht : tkP ts j p k v) (h1 : k = c → Q (.d v) (a :: .ob m C (lf row ts (j + 1)) :: tl)) (h2 : k ≠ c → B row p (a :: .ob m C (lf row ts j) :: tl)) :
    dMeth 1 C "take" (S_takeX C) B (dCons (dC (.str c)) dNil) (a :: .ob m C (lf row ts j) :: tl) Q := by
  try simp only [dSeq, dNext, dSet, dVar, dC, dBin, dTest, dCall, dCons, dNil, dAnd, dOr, dNot, dIf, dIfS, dRet, dRetN, dDrop, dBreak, dCont, dAug, fAddA, dTup, dLst, dFrz, dListOf, dNeg, fNeg, dSl, dNoPart, dPart, fSl, dM1, dIsi, dIsi2, dAppend, dPop, dReverse, dSetAt, dAndV, dOrV, dNotV, dB, dFld, dFldSet, dFldAdd, dMeth, dFn, dMake, dAsg, dgName, dgTwo, dgTwoL, dgThree, iSeq, iRange1, iRange2, iRange3, dFor, dLc, dYes, dKs, dKPush, dKTop, dKPop, dKLen, dOut, dFz, frzSl, stkAt, ownAt, obAt, rd1, rdL, rdD, datas, seqv, seqvs, stSl, rvSl, RV.hold, fI, fLen, fInt, fStr, fTuple, fAdd, fMul, fEq, fIn, fIsN, fIx, fJoin, List.getElem?_cons_zero, List.getElem?_cons_succ, List.getElem?_nil, List.set_cons_zero, List.set_cons_succ, List.length_cons, List.length_nil, eq_self_iff_true, true_and, and_true, Option.some.injEq, exists_eq_left']
  refine ⟨lf_none, by simp [lent], _, rfl, false, row, ts, j, p, c, k, v, rfl, ht, fun e => ⟨rfl, ⟨⟨rfl, rfl⟩, trivial⟩, ?_⟩, fun e => ⟨⟨⟨rfl, rfl⟩, trivial⟩, ?_⟩⟩
  · simp only [wr, Sl.fl, Sl.mn, List.getD_cons_zero, List.getD_cons_succ, List.set_cons_zero, List.set_cons_succ]
    exact h1 e
  · simp only [wr, Sl.fl, Sl.mn, List.getD_cons_zero, List.getD_cons_succ, List.set_cons_zero, List.set_cons_succ]
    exact h2 e
end
section
variable {tl : List Sl} {x y : Sl} {ls : List (List D)} {t u u2 : DS} {ψ : DEnds}
abbrev lnX (f : DB) (z : Int) : DT := dTest (dBin f (dKLen 2) (dC (.int z)))
theorem lnx_gt {b : Bool} (hb : decide ((0 : Int) < (ls.length : Int)) = b) (Q : Bool → List Sl → Prop) (h : Q b (x :: y :: .stk true ls :: tl)) : lnX fGt 0 (x :: y :: .stk true ls :: tl) Q := by
  unfold lnX
  try simp only [dSeq, dNext, dSet, dVar, dC, dBin, dTest, dCall, dCons, dNil, dAnd, dOr, dNot, dIf, dIfS, dRet, dRetN, dDrop, dBreak, dCont, dAug, fAddA, dTup, dLst, dFrz, dListOf, dNeg, fNeg, dSl, dNoPart, dPart, fSl, dM1, dIsi, dIsi2, dAppend, dPop, dReverse, dSetAt, dAndV, dOrV, dNotV, dB, dFld, dFldSet, dFldAdd, dMeth, dFn, dMake, dAsg, dgName, dgTwo, dgTwoL, dgThree, iSeq, iRange1, iRange2, iRange3, dFor, dLc, dYes, dKs, dKPush, dKTop, dKPop, dKLen, dOut, dFz, frzSl, stkAt, ownAt, obAt, rd1, rdL, rdD, datas, seqv, seqvs, stSl, rvSl, RV.hold, fI, fLen, fInt, fStr, fTuple, fAdd, fMul, fEq, fIn, fIsN, fIx, fJoin, List.getElem?_cons_zero, List.getElem?_cons_succ, List.getElem?_nil, List.set_cons_zero, List.set_cons_succ, List.length_cons, List.length_nil, eq_self_iff_true, true_and, and_true, Option.some.injEq, exists_eq_left']
  rw [hb]
  exact h
theorem lnx_eq {b : Bool} (hb : decide ((ls.length : Int) = 0) = b) (Q : Bool → List Sl → Prop) (h : Q b (x :: y :: .stk true ls :: tl)) : lnX (fEq false) 0 (x :: y :: .stk true ls :: tl) Q := by
  unfold lnX
  try simp only [dSeq, dNext, dSet, dVar, dC, dBin, dTest, dCall, dCons, dNil, dAnd, dOr, dNot, dIf, dIfS, dRet, dRetN, dDrop, dBreak, dCont, dAug, fAddA, dTup, dLst, dFrz, dListOf, dNeg, fNeg, dSl, dNoPart, dPart, fSl, dM1, dIsi, dIsi2, dAppend, dPop, dReverse, dSetAt, dAndV, dOrV, dNotV, dB, dFld, dFldSet, dFldAdd, dMeth, dFn, dMake, dAsg, dgName, dgTwo, dgTwoL, dgThree, iSeq, iRange1, iRange2, iRange3, dFor, dLc, dYes, dKs, dKPush, dKTop, dKPop, dKLen, dOut, dFz, frzSl, stkAt, ownAt, obAt, rd1, rdL, rdD, datas, seqv, seqvs, stSl, rvSl, RV.hold, fI, fLen, fInt, fStr, fTuple, fAdd, fMul, fEq, fIn, fIsN, fIx, fJoin, List.getElem?_cons_zero, List.getElem?_cons_succ, List.getElem?_nil, List.set_cons_zero, List.set_cons_succ, List.length_cons, List.length_nil, eq_self_iff_true, true_and, and_true, Option.some.injEq, exists_eq_left']
  rw [Bool.false_xor, hb]
  exact h
end
theorem x40 : (Str.ofString "(").cps.toList = [40] := c_op
theorem x41 : (Str.ofString ")").cps.toList = [41] := c_cl
theorem x44 : (Str.ofString ",").cps.toList = [44] := c_cm
theorem flt_fi {bad : Option Nat} {len d : Nat} {r : List (List Nat × Nat)} (h : ∀ p r', r ≠ ([41], p) :: r') : flt bad len .fi d r = flt bad len .th d r := by
  cases r with
  | nil => simp [flt]
  | cons x r =>
    obtain ⟨t, p⟩ := x
    have h41 : t ≠ [41] := fun z => h p r (by rw [z])
    simp only [flt, if_neg h41]
section
variable {P : Program} {w : World} {K : PySem.W.Frag} {mg : Str → Option Value} {base : Heap} {C_Line C_Bad : Addr}
/-- how a text goes -/
def outc (s : List Nat) : Option Nat := flt (lexR s 0).2 s.length .th 0 (lexR s 0).1
def S_readX : DL.Spec := fun args R B => ∃ s : List Nat, args = [.dat (.str s)] ∧ MR s ∧ s.length < sizeLine ∧ (outc s = none → ∀ x : D, R (.d x) args) ∧ (∀ p : Nat, outc s = some p → B 0 p args)
theorem lexR_len : ∀ (n : Nat) (s : List Nat) (i : Nat), s.length ≤ n → (lexR s i).1.length ≤ s.length
  | _, [], i, _ => by rw [lexR]; simp
  | 0, c :: r, i, hn => by simp at hn
  | n + 1, c :: r, i, hn => by
    have hn' : r.length ≤ n := by simpa using hn
    have i0 := lexR_len n r (i + 1) hn'
    have i1 := lexR_len n (r.drop (run r LET)) (i + 1 + run r LET) (by simp; omega)
    have i2 := lexR_len n (r.drop (run r DIG)) (i + 1 + run r DIG) (by simp; omega)
    simp only [List.length_drop] at i1 i2
    rw [lexR]
    split
    · simp; omega
    · split
      · simp; omega
      · split
        · simp; omega
        · split
          · split
            · simp
            · simp; omega
          · simp
theorem ok_readX (T : TX K mg C_Line) (hB : HB P K mg C_Bad) : FnX P w K mg base C_Bad "read_paper" 6 ["text"] S_readX := by
  obtain ⟨f, fd, F, hm, bn⟩ := T.f_read_paper
  have g_Line_init := ok_initG (P := P) (w := w) (base := base) T
  have g_Line_kind_here := ok_kind_here (P := P) (w := w) (base := base) T
  have g_Line_take := ok_takeX (w := w) (base := base) T hB
  have g_Line_close := ok_closeX (w := w) (base := base) T hB
  have g_take_leaf := ok_leafX (w := w) (base := base) T hB
  refine fnX_of F hm bn sc_read_paper (by rintro _ _ _ ⟨_, rfl, _⟩; rfl) (fun cdv A outer s H E g B hr tk => ⟨_, (dss_cons (ds_set (i := 1) sc_read_paper.nd rfl (by first | exact Or.inl rfl | exact Or.inr rfl) (dq_make g_Line_init (hr.mono (by omega)) (da_cons (dv 0) (da_cons de_int da_nil))))
 (dss_cons (ds_set (i := 2) sc_read_paper.nd rfl (by first | exact Or.inl rfl | exact Or.inr rfl) (de_lst da_nil))
 (dss_ks 2 (dss_one (ds_while (passes_of rfl) (dt_val de_bl)
 (dss_cons (ds_if (dt_cmp (o_eq (by exact hr.units)) (dq_meth0 1 g_Line_kind_here (hr.mono (by omega))) de_str)
 (dss_cons (ds_expr (dqx_meth 1 tk g_Line_take (hr.mono (by omega)) (da_cons de_str da_nil)))
 (dss_cons (ds_expr (de_kpush 2))
 (dss_cons (ds_if (dt_cmp (o_ne (by exact hr.units)) (dq_meth0 1 g_Line_kind_here (hr.mono (by omega))) de_str)
 (dss_one ds_continue)
 dss_nil)
 (dss_cons (ds_expr (dqx_meth 1 tk g_Line_take (hr.mono (by omega)) (da_cons de_str da_nil)))
 (dss_one (ds_set (i := 3) sc_read_paper.nd rfl (by first | exact Or.inl rfl | exact Or.inr rfl) (de_callTy (c_tuple) rfl T.n_tuple boot_tuple (da_cons (de_frz (de_kpop 2)) da_nil))))))))
 (dss_one (ds_set (i := 3) sc_read_paper.nd rfl (by first | exact Or.inl rfl | exact Or.inr rfl) (dqx_fn tk g_take_leaf (hr.mono (by omega)) (da_cons (dv 1) da_nil)))))
 (dss_cons (ds_while (passes_of rfl) (dt_cmp (o_gt) (de_klen 2 rfl T.n_len) de_int)
 (dss_cons (ds_expr (de_ktop 2 3))
 (dss_cons (ds_if (dt_cmp (o_eq (by exact hr.units)) (dq_meth0 1 g_Line_kind_here (hr.mono (by omega))) de_str)
 (dss_one ds_break)
 dss_nil)
 (dss_cons (ds_expr (dqx_meth 1 tk g_Line_take (hr.mono (by omega)) (da_cons de_str da_nil)))
 (dss_one (ds_set (i := 3) sc_read_paper.nd rfl (by first | exact Or.inl rfl | exact Or.inr rfl) (de_callTy (c_tuple) rfl T.n_tuple boot_tuple (da_cons (de_frz (de_kpop 2)) da_nil))))))))
 (dss_cons (ds_if (dt_cmp (o_eq (by exact hr.units)) (de_klen 2 rfl T.n_len) de_int)
 (dss_cons (ds_expr (dqx_meth0 1 tk g_Line_close (hr.mono (by omega))))
 (dss_one (ds_ret (dv 3))))
 dss_nil)
 (dss_one (ds_expr (dqx_meth 1 tk g_Line_take (hr.mono (by omega)) (da_cons de_str da_nil)))))))))))), ?_⟩)
  rintro args R ⟨s, rfl, hmr, hz, q1, q2⟩
  simp only [body0, List.length_cons, List.length_nil, List.replicate, Nat.reduceAdd, Nat.reduceSub, List.cons_append, List.nil_append]
  refine seq_key (fun ρ' => ρ' = [.dat (.str s), .ob true C_Line (lf 0 (progT s.length (lexR s 0)) 0), .no, .no]) (fun nx hnx => ?_) ?_
  · exact ⟨rfl, rfl, s, false, 0, rfl, hmr, hz, rfl, by simp, hnx _ rfl⟩
  rintro _ rfl
  refine seq_key (fun ρ' => ρ' = [.dat (.str s), .ob true C_Line (lf 0 (progT s.length (lexR s 0)) 0), .own true [], .no]) (fun nx hnx => ⟨Nat.zero_le _, by simp, hnx _ rfl⟩) ?_
  rintro _ rfl
  unfold outc at q1 q2
  have hN := lexR_len s.length s 0 (Nat.le_refl _)
  have hOk := lex_ok s.length s 0 (Nat.le_refl _)
  have hAt : At (lexR s 0).2 s.length (progT s.length (lexR s 0)) 0 (lexR s 0).1 := rfl
  generalize progT s.length (lexR s 0) = ts at hAt ⊢
  generalize hbad : (lexR s 0).2 = bad at hAt q1 q2
  generalize hrs : (lexR s 0).1 = rs0 at hAt q1 q2 hN hOk
  generalize hres : flt bad s.length .th 0 rs0 = res at q1 q2
  refine ⟨fun mm ρ => ∃ (j : Nat) (ls : List (List D)) (rs : List (List Nat × Nat)) (sl : Sl), ρ = [.dat (.str s), .ob true C_Line (lf 0 ts j), .stk true ls, sl] ∧ At bad s.length ts j rs ∧ (∀ q ∈ rs, okT q.1) ∧ flt bad s.length .th ls.length rs = res ∧ ls.length ≤ j ∧ (∀ l ∈ ls, l.length ≤ j) ∧ j + rs.length = rs0.length ∧ mm = rs.length,
    ⟨_, 0, [], rs0, .no, rfl, hAt, hOk, hres, Nat.le_refl _, by simp, by simp, rfl⟩, ?_⟩
  rintro mm _ ⟨j, ls, rs, sl, rfl, hA, hO, hf, hl1, hl2, hl3, rfl⟩
  refine whT (fun Q hQ => hQ) ?_
  refine seq_key (fun ρ' => ∃ (y : D) (j' : Nat) (rs' : List (List Nat × Nat)), ρ' = [.dat (.str s), .ob true C_Line (lf 0 ts j'), .stk true ls, .dat y] ∧ At bad s.length ts j' rs' ∧ (∀ q ∈ rs', okT q.1) ∧ flt bad s.length .be ls.length rs' = res ∧ j < j' ∧ j' + rs'.length = rs0.length) (fun nx hnx => ?_) ?_
  · -- a thing, or a tuple begins
    have leafcase : (∀ p r, rs ≠ ([40], p) :: r) → (∃ p k v, tkP ts j p k v ∧ k ≠ [40]) → ∀ (c : DT) (t : DS), (∀ Q : Bool → List Sl → Prop, Q false [.dat (.str s), .ob true C_Line (lf 0 ts j), .stk true ls, sl] → c [.dat (.str s), .ob true C_Line (lf 0 ts j), .stk true ls, sl] Q) →
        ∀ (ψ : DEnds), (∀ ρ', (∃ (y : D) (j' : Nat) (rs' : List (List Nat × Nat)), ρ' = [.dat (.str s), .ob true C_Line (lf 0 ts j'), .stk true ls, .dat y] ∧ At bad s.length ts j' rs' ∧ (∀ q ∈ rs', okT q.1) ∧ flt bad s.length .be ls.length rs' = res ∧ j < j' ∧ j' + rs'.length = rs0.length) → ψ.nx ρ') →
        dIfS c t (dSet 3 (dFn (S_leafX C_Line) (fun l p ρ => B l p (ρ.take 1)) (dCons (dVar 1) dNil))) ψ [.dat (.str s), .ob true C_Line (lf 0 ts j), .stk true ls, sl] := fun hn _ c t hc ψ hψ => by
      refine ifF hc ?_
      try simp only [dSeq, dNext, dSet, dVar, dC, dBin, dTest, dCall, dCons, dNil, dAnd, dOr, dNot, dIf, dIfS, dRet, dRetN, dDrop, dBreak, dCont, dAug, fAddA, dTup, dLst, dFrz, dListOf, dNeg, fNeg, dSl, dNoPart, dPart, fSl, dM1, dIsi, dIsi2, dAppend, dPop, dReverse, dSetAt, dAndV, dOrV, dNotV, dB, dFld, dFldSet, dFldAdd, dMeth, dFn, dMake, dAsg, dgName, dgTwo, dgTwoL, dgThree, iSeq, iRange1, iRange2, iRange3, dFor, dLc, dYes, dKs, dKPush, dKTop, dKPop, dKLen, dOut, dFz, frzSl, stkAt, ownAt, obAt, rd1, rdL, rdD, datas, seqv, seqvs, stSl, rvSl, RV.hold, fI, fLen, fInt, fStr, fTuple, fAdd, fMul, fEq, fIn, fIsN, fIx, fJoin, List.getElem?_cons_zero, List.getElem?_cons_succ, List.getElem?_nil, List.set_cons_zero, List.set_cons_succ, List.length_cons, List.length_nil, eq_self_iff_true, true_and, and_true, Option.some.injEq, exists_eq_left']
      refine ⟨by simp [lent], _, rfl, false, 0, ts, j, rfl, ?_⟩
      refine leaf_flt (d := ls.length) hA hO hn (fun j' r' a1 a2 a3 a4 a5 x => ⟨rfl, ⟨⟨rfl, rfl⟩, trivial⟩, ?_⟩) (fun p hp j' => ⟨⟨⟨rfl, rfl⟩, trivial⟩, ?_⟩)
      · simp only [wr, Sl.fl, Sl.mn, List.getD_cons_zero, List.getD_cons_succ, List.set_cons_zero, List.set_cons_succ]
        exact ⟨by simp, hψ _ ⟨x, j', r', rfl, a1, a2, by rw [← a3]; exact hf, a5, by omega⟩⟩
      · simp only [wr, Sl.fl, Sl.mn, List.getD_cons_zero, List.getD_cons_succ, List.set_cons_zero, List.set_cons_succ]
        exact q2 p (by rw [← hf]; exact hp)
    cases rs with
    | nil =>
      obtain ⟨k, ht, hk⟩ := hA.nil
      have hk40 : k ≠ [40] := by rcases hk with ⟨_, rfl⟩ | ⟨_, rfl⟩ <;> simp [c_end]
      exact leafcase (fun p r h => by cases h) ⟨_, k, _, ht, hk40⟩ _ _ (khx ht.at_ (by rw [x40, decide_eq_false hk40]; rfl)) _ hnx
    | cons x r =>
      obtain ⟨t, p⟩ := x
      obtain ⟨ht, ha⟩ := hA.cons
      have hOt := hO _ List.mem_cons_self
      have hOr : ∀ q ∈ r, okT q.1 := fun q hq => hO q (List.mem_cons_of_mem _ hq)
      by_cases h40 : t = [40]
      · subst h40
        rw [kd_sg s40] at ht
        have hl3' : j + (r.length + 1) = rs0.length := hl3
        have hf1 : flt bad s.length .fi (ls.length + 1) r = res := by rw [← hf]; simp [flt]
        refine ifT (khx ht.at_ (by rw [x40]; rfl)) ?_
        refine seq_key (fun ρ' => ρ' = [.dat (.str s), .ob true C_Line (lf 0 ts (j + 1)), .stk true ls, sl]) (fun nx2 hnx2 => tkx ht (fun _ => hnx2 _ rfl) (fun h => absurd x40.symm h)) ?_
        rintro _ rfl
        refine seq_key (fun ρ' => ρ' = [.dat (.str s), .ob true C_Line (lf 0 ts (j + 1)), .stk true (ls ++ [[]]), sl]) (fun nx2 hnx2 => ⟨by omega, hnx2 _ rfl⟩) ?_
        rintro _ rfl
        have cont : (∀ p r', r ≠ ([41], p) :: r') → ∃ m', m' < (([40], p) :: r : List (List Nat × Nat)).length ∧ ∃ (j_1 : Nat) (ls_1 : List (List D)) (rs_1 : List (List Nat × Nat)) (sl_1 : Sl), [Sl.dat (.str s), .ob true C_Line (lf 0 ts (j + 1)), .stk true (ls ++ [[]]), sl] = [.dat (.str s), .ob true C_Line (lf 0 ts j_1), .stk true ls_1, sl_1] ∧ At bad s.length ts j_1 rs_1 ∧ (∀ q ∈ rs_1, okT q.1) ∧ flt bad s.length .th ls_1.length rs_1 = res ∧ ls_1.length ≤ j_1 ∧ (∀ l ∈ ls_1, l.length ≤ j_1) ∧ j_1 + rs_1.length = rs0.length ∧ m' = rs_1.length := fun hn => by
          refine ⟨r.length, by simp, j + 1, ls ++ [[]], r, sl, rfl, ha, hOr, ?_, by simp; omega, fun l hl => ?_, by omega, rfl⟩
          · rw [← hf1, flt_fi hn]; simp
          · rcases List.mem_append.mp hl with hl | hl
            · have := hl2 l hl; omega
            · rw [List.mem_singleton.mp hl]; simp
        cases r with
        | nil =>
          obtain ⟨k, ht2, hk⟩ := ha.nil
          have hk41 : k ≠ [41] := by rcases hk with ⟨_, rfl⟩ | ⟨_, rfl⟩ <;> simp [c_end]
          refine seq_key (fun _ => False) (fun nx2 hnx2 => ifT (khx ht2.at_ (by rw [x41, decide_eq_false hk41]; rfl)) (cont fun _ _ h => by cases h)) (fun _ h => h.elim)
        | cons y r2 =>
          obtain ⟨t2, p2⟩ := y
          obtain ⟨ht2, ha2⟩ := ha.cons
          by_cases h41 : t2 = [41]
          · subst h41
            rw [kd_sg s41] at ht2
            refine seq_key (fun ρ' => ρ' = [.dat (.str s), .ob true C_Line (lf 0 ts (j + 1)), .stk true (ls ++ [[]]), sl]) (fun nx2 hnx2 => ifF (khx ht2.at_ (by rw [x41]; rfl)) (hnx2 _ rfl)) ?_
            rintro _ rfl
            refine seq_key (fun ρ' => ρ' = [.dat (.str s), .ob true C_Line (lf 0 ts (j + 1 + 1)), .stk true (ls ++ [[]]), sl]) (fun nx2 hnx2 => tkx ht2 (fun _ => hnx2 _ rfl) (fun h => absurd x41.symm h)) ?_
            rintro _ rfl
            refine ⟨ls, [], rfl, rfl, by simp, hnx _ ⟨.tup [], j + 1 + 1, r2, rfl, ha2, fun q hq => hOr q (List.mem_cons_of_mem _ hq), ?_, by omega, by simp at hl3' ⊢; omega⟩⟩
            rw [← hf1]
            simp [flt]
          · have hk : kdR t2 ≠ [41] := fun z => h41 ((kd_eq (hOr _ List.mem_cons_self) s41).mp z)
            refine seq_key (fun _ => False) (fun nx2 hnx2 => ifT (khx ht2.at_ (by rw [x41, decide_eq_false hk]; rfl)) (cont fun _ _ h => by
              injection h with h1 h2
              injection h1 with h3 h4
              exact h41 h3)) (fun _ h => h.elim)
      · have hk : kdR t ≠ [40] := fun z => h40 ((kd_eq hOt s40).mp z)
        exact leafcase (fun p' r' h => by
          injection h with h1 h2
          injection h1 with h3 h4
          exact h40 h3) ⟨_, _, _, ht, hk⟩ _ _ (khx ht.at_ (by rw [x40, decide_eq_false hk]; rfl)) _ hnx
  rintro _ ⟨y, j1, rs1, rfl, hA1, hO1, hf1, hj1, hl31⟩
  refine seq_key (fun ρ' => ∃ (y : D) (ls' : List (List D)) (j' : Nat) (rs' : List (List Nat × Nat)), ρ' = [.dat (.str s), .ob true C_Line (lf 0 ts j'), .stk true ls', .dat y] ∧ At bad s.length ts j' rs' ∧ (∀ q ∈ rs', okT q.1) ∧ flt bad s.length .be ls'.length rs' = res ∧ j < j' ∧ j' + rs'.length = rs0.length ∧ ls'.length ≤ j' ∧ (∀ l ∈ ls', l.length ≤ j' + 1) ∧ (0 < ls'.length → ∃ p r, rs' = ([44], p) :: r)) (fun nx hnx => ?_) ?_
  · refine ⟨fun mm ρ => ∃ (y : D) (ls' : List (List D)) (j' : Nat) (rs' : List (List Nat × Nat)), ρ = [.dat (.str s), .ob true C_Line (lf 0 ts j'), .stk true ls', .dat y] ∧ At bad s.length ts j' rs' ∧ (∀ q ∈ rs', okT q.1) ∧ flt bad s.length .be ls'.length rs' = res ∧ j < j' ∧ j' + rs'.length = rs0.length ∧ ls'.length ≤ j' ∧ (∀ l ∈ ls', l.length ≤ j') ∧ mm = ls'.length,
      ⟨_, y, ls, j1, rs1, rfl, hA1, hO1, hf1, hj1, hl31, by omega, fun l hl => by have := hl2 l hl; omega, rfl⟩, ?_⟩
    rintro mm _ ⟨y, ls', j', rs', rfl, hA', hO', hf', hj', hl3', hd1, hd2, rfl⟩
    rcases List.eq_nil_or_concat ls' with rfl | ⟨ls', dn, rfl⟩
    · exact whF (lnx_gt rfl) (hnx _ ⟨y, [], j', rs', rfl, hA', hO', hf', hj', hl3', Nat.zero_le _, by simp, fun h => absurd h (by simp)⟩)
    · rw [List.concat_eq_append] at hf' hd1 hd2 ⊢
      have hdn : dn.length ≤ j' := hd2 dn (by simp)
      have hln : (ls' ++ [dn]).length = ls'.length + 1 := by simp
      rw [hln] at hf' hd1
      refine whT (lnx_gt (decide_eq_true (by rw [hln]; omega))) ?_
      refine seq_key (fun ρ' => ρ' = [.dat (.str s), .ob true C_Line (lf 0 ts j'), .stk true (ls' ++ [dn ++ [y]]), .dat y]) (fun nx2 hnx2 => ⟨ls', dn, rfl, by omega, hnx2 _ rfl⟩) ?_
      rintro _ rfl
      have noComma : ∀ {k : List Nat} {v : D} {p : Nat}, tkP ts j' p k v → k ≠ [44] → (k = [41] → ∃ r, rs' = ([41], p) :: r) → (k ≠ [41] → res = some p) → ∀ (nx2 : List Sl → Prop), (∀ ρ', (ρ' = [.dat (.str s), .ob true C_Line (lf 0 ts (j' + 1)), .stk true (ls' ++ [dn ++ [y]]), .dat y] ∧ k = [41]) → nx2 ρ') →
          dDrop (dMeth 1 C_Line "take" (S_takeX C_Line) (fun l p ρ => B l p (ρ.take 1)) (dCons (dC (.str (Str.ofString ")").cps.toList)) dNil)) { nx := nx2, rt := (endsOf 1 R).rt } [.dat (.str s), .ob true C_Line (lf 0 ts j'), .stk true (ls' ++ [dn ++ [y]]), .dat y] := fun {k v p} ht hk h1 h2 nx2 hnx2 =>
        tkx ht (fun e => hnx2 _ ⟨rfl, by rw [e, x41]⟩) (fun e => q2 p (h2 (fun z => e (by rw [z, x41]))))
      cases rs' with
      | nil =>
        obtain ⟨k, ht, hk⟩ := hA'.nil
        have hk44 : k ≠ [44] := by rcases hk with ⟨_, rfl⟩ | ⟨_, rfl⟩ <;> simp [c_end]
        have hk41 : k ≠ [41] := by rcases hk with ⟨_, rfl⟩ | ⟨_, rfl⟩ <;> simp [c_end]
        refine seq_key (fun ρ' => ρ' = [.dat (.str s), .ob true C_Line (lf 0 ts j'), .stk true (ls' ++ [dn ++ [y]]), .dat y]) (fun nx2 hnx2 => ifF (khx ht.at_ (by rw [x44, decide_eq_false hk44]; rfl)) (hnx2 _ rfl)) ?_
        rintro _ rfl
        refine seq_key (fun _ => False) (fun nx2 hnx2 => tkx ht (fun e => absurd (by rw [e, x41]) hk41) (fun _ => q2 _ ?_)) (fun _ h => h.elim)
        rw [← hf']
        simp [flt]
      | cons x r =>
        obtain ⟨t, p⟩ := x
        obtain ⟨ht, ha⟩ := hA'.cons
        have hOt := hO' _ List.mem_cons_self
        have hOr : ∀ q ∈ r, okT q.1 := fun q hq => hO' q (List.mem_cons_of_mem _ hq)
        have hl3'' : j' + (r.length + 1) = rs0.length := hl3'
        by_cases h44 : t = [44]
        · subst h44
          rw [kd_sg s44] at ht
          refine seq_key (fun _ => False) (fun nx2 hnx2 => ifT (khx ht.at_ (by rw [x44]; rfl)) ?_) (fun _ h => h.elim)
          refine hnx _ ⟨y, ls' ++ [dn ++ [y]], j', _, rfl, hA', hO', ?_, hj', hl3', by simp; omega, fun l hl => ?_, fun _ => ⟨p, r, rfl⟩⟩
          · rw [← hf']; simp
          · rcases List.mem_append.mp hl with hl | hl
            · have := hd2 l (List.mem_append_left _ hl); omega
            · rw [List.mem_singleton.mp hl]; simp; omega
        · have hk44 : kdR t ≠ [44] := fun z => h44 ((kd_eq hOt s44).mp z)
          refine seq_key (fun ρ' => ρ' = [.dat (.str s), .ob true C_Line (lf 0 ts j'), .stk true (ls' ++ [dn ++ [y]]), .dat y]) (fun nx2 hnx2 => ifF (khx ht.at_ (by rw [x44, decide_eq_false hk44]; rfl)) (hnx2 _ rfl)) ?_
          rintro _ rfl
          by_cases h41 : t = [41]
          · subst h41
            rw [kd_sg s41] at ht
            refine seq_key (fun ρ' => ρ' = [.dat (.str s), .ob true C_Line (lf 0 ts (j' + 1)), .stk true (ls' ++ [dn ++ [y]]), .dat y]) (fun nx2 hnx2 => tkx ht (fun _ => hnx2 _ rfl) (fun h => absurd x41.symm h)) ?_
            rintro _ rfl
            refine ⟨ls', dn ++ [y], rfl, rfl, by simp, ls'.length, by simp, .tup (dn ++ [y]), ls', j' + 1, r, rfl, ha, hOr, ?_, by omega, by omega, by omega, fun l hl => by have := hd2 l (List.mem_append_left _ hl); omega, rfl⟩
            rw [← hf']
            simp [flt]
          · have hk41 : kdR t ≠ [41] := fun z => h41 ((kd_eq hOt s41).mp z)
            refine seq_key (fun _ => False) (fun nx2 hnx2 => tkx ht (fun e => absurd (by rw [e, x41]) hk41) (fun _ => q2 p ?_)) (fun _ h => h.elim)
            rw [← hf']
            simp only [flt]
            rw [if_neg (by omega), if_neg h44, if_neg h41]
  rintro _ ⟨y, ls', j', rs', rfl, hA', hO', hf', hj', hl3', hd1, hd2, hcm⟩
  cases ls' with
  | nil =>
    refine seq_key (fun _ => False) (fun nx hnx => ifT (lnx_eq rfl) ?_) (fun _ h => h.elim)
    refine seq_key (fun ρ' => ρ' = [.dat (.str s), .ob true C_Line (lf 0 ts j'), .stk true [], .dat y] ∧ res = none) (fun nx2 hnx2 => ?_) ?_
    · have fin_ : ∀ {k : List Nat} {v : D} {p : Nat}, tkP ts j' p k v → (k = cd "end" → res = none) → (k ≠ cd "end" → res = some p) → dDrop (dMeth 1 C_Line "close" (S_closeX C_Line) (fun l p ρ => B l p (ρ.take 1)) dNil) { nx := nx2, rt := (endsOf 1 R).rt } [.dat (.str s), .ob true C_Line (lf 0 ts j'), .stk true [], .dat y] := fun {k v p} ht h1 h2 => by
        try simp only [dSeq, dNext, dSet, dVar, dC, dBin, dTest, dCall, dCons, dNil, dAnd, dOr, dNot, dIf, dIfS, dRet, dRetN, dDrop, dBreak, dCont, dAug, fAddA, dTup, dLst, dFrz, dListOf, dNeg, fNeg, dSl, dNoPart, dPart, fSl, dM1, dIsi, dIsi2, dAppend, dPop, dReverse, dSetAt, dAndV, dOrV, dNotV, dB, dFld, dFldSet, dFldAdd, dMeth, dFn, dMake, dAsg, dgName, dgTwo, dgTwoL, dgThree, iSeq, iRange1, iRange2, iRange3, dFor, dLc, dYes, dKs, dKPush, dKTop, dKPop, dKLen, dOut, dFz, frzSl, stkAt, ownAt, obAt, rd1, rdL, rdD, datas, seqv, seqvs, stSl, rvSl, RV.hold, fI, fLen, fInt, fStr, fTuple, fAdd, fMul, fEq, fIn, fIsN, fIx, fJoin, List.getElem?_cons_zero, List.getElem?_cons_succ, List.getElem?_nil, List.set_cons_zero, List.set_cons_succ, List.length_cons, List.length_nil, eq_self_iff_true, true_and, and_true, Option.some.injEq, exists_eq_left']
        refine ⟨lf_none, by simp [lent], _, rfl, false, 0, ts, j', p, k, v, rfl, ht, fun e => ⟨rfl, ⟨⟨rfl, rfl⟩, trivial⟩, ?_⟩, fun e => ⟨⟨⟨rfl, rfl⟩, trivial⟩, ?_⟩⟩
        · simp only [wr, Sl.fl, Sl.mn, List.getD_cons_zero, List.getD_cons_succ, List.set_cons_zero, List.set_cons_succ]
          exact hnx2 _ ⟨rfl, h1 e⟩
        · simp only [wr, Sl.fl, Sl.mn, List.getD_cons_zero, List.getD_cons_succ, List.set_cons_zero, List.set_cons_succ]
          exact q2 p (h2 e)
      cases rs' with
      | nil =>
        obtain ⟨k, ht, hk⟩ := hA'.nil
        refine fin_ ht (fun e => ?_) (fun e => ?_)
        · rcases hk with ⟨hb, _⟩ | ⟨_, hk⟩
          · rw [← hf']; simp [flt, hb]
          · rw [hk, c_end] at e; cases e
        · rcases hk with ⟨_, hk⟩ | ⟨hb, _⟩
          · exact absurd hk e
          · rw [← hf']; simp [flt, hb]
      | cons x r =>
        obtain ⟨t, p⟩ := x
        obtain ⟨ht, ha⟩ := hA'.cons
        have hres' : res = some p := by rw [← hf']; simp [flt]
        refine fin_ ht (fun e => ?_) (fun _ => hres')
        exfalso
        rcases hO' _ List.mem_cons_self with ⟨c, hc, rfl⟩ | ⟨hn, hl⟩ | ⟨hn, hl, _⟩
        · rw [kd_sg hc, c_end] at e; cases e
        · cases t with
          | nil => exact absurd rfl hn
          | cons a t =>
            have hal := hl a List.mem_cons_self
            simp only [kdR, not_sgn_let hal, hal, if_true, if_false, c_word, c_end] at e
            cases e
        · cases t with
          | nil => exact absurd rfl hn
          | cons a t =>
            have had := hl a List.mem_cons_self
            simp only [kdR, not_sgn_dig had, not_let_dig had, if_false, c_number, c_end] at e
            cases e
    · rintro _ ⟨rfl, hnone⟩
      exact q1 hnone y
  | cons l0 ls' =>
    obtain ⟨p, r, rfl⟩ := hcm (by simp)
    obtain ⟨ht, ha⟩ := hA'.cons
    rw [kd_sg s44] at ht
    have hl3'' : j' + (r.length + 1) = rs0.length := hl3'
    refine seq_key (fun ρ' => ρ' = [.dat (.str s), .ob true C_Line (lf 0 ts j'), .stk true (l0 :: ls'), .dat y]) (fun nx hnx => ifF (lnx_eq (decide_eq_false (by simp; omega))) (hnx _ rfl)) ?_
    rintro _ rfl
    refine tkx ht (fun _ => ?_) (fun h => absurd x44.symm h)
    refine ⟨r.length, by omega, j' + 1, l0 :: ls', r, _, rfl, ha, fun q hq => hO' q (List.mem_cons_of_mem _ hq), ?_, by omega, fun l hl => hd2 l hl, by omega, rfl⟩
    rw [← hf']
    simp [flt]
end
end K76

set_option maxRecDepth 100000
set_option maxHeartbeats 4000000
namespace K76
open PySem PySem.Spec PyProof.Rows L2 TL SkE DL
def rowL (q : List Nat × Nat) : D := .lst [.str q.1, .int (q.2 : Int)]
def badD : Option Nat → D
  | none => .non
  | some b => .int (b : Int)
section
variable {P : Program} {w : World} {K : PySem.W.Frag} {mg : Str → Option Value} {base : Heap} {C_Line : Addr}
def S_ltG : DL.Spec := fun args R _ => ∃ s : List Nat, args = [.dat (.str s)] ∧ s.length ≤ 2 ^ 23 ∧ R (.d (.lst [.lst ((lexR s 0).1.map rowL), badD (lexR s 0).2])) args
theorem ok_ltG (T : TX K mg C_Line) : FnG P w K mg base "_law_tokens_of" 2 ["text"] S_ltG := by
  obtain ⟨f, fd, F, hm, bn⟩ := T.f__law_tokens_of
  have g__law_run := ok_lrun (P := P) (w := w) (base := base) T
  refine fnG_of F hm bn sc__law_tokens_of (by rintro _ _ _ ⟨_, rfl, _⟩; rfl) (fun cdv A outer s H E g hr => ⟨_, (dss_cons (ds_set (i := 1) sc__law_tokens_of.nd rfl (by first | exact Or.inl rfl | exact Or.inr rfl) (de_lst da_nil))
 (dss_cons (ds_set (i := 2) sc__law_tokens_of.nd rfl (by first | exact Or.inl rfl | exact Or.inr rfl) de_int)
 (dss_cons (ds_for PassesOwn.never rfl (di_range1 rfl T.n_range (da_cons (de_callB (c_len) rfl T.n_len boot_len (da_cons (dv 0) da_nil)) da_nil)) (dg_name (i := 3) sc__law_tokens_of.nd rfl (by first | exact Or.inl rfl | exact Or.inr rfl))
 (dss_cons (ds_if (dt_cmp (o_ge) (dv 2) (de_callB (c_len) rfl T.n_len boot_len (da_cons (dv 0) da_nil)))
 (dss_one ds_break)
 dss_nil)
 (dss_cons (ds_set (i := 4) sc__law_tokens_of.nd rfl (by first | exact Or.inl rfl | exact Or.inr rfl) (de_ix (dv 0) (dv 2)))
 (dss_cons (ds_set (i := 5) sc__law_tokens_of.nd rfl (by first | exact Or.inl rfl | exact Or.inr rfl) (de_op o_add (dv 2) de_int))
 (dss_cons (ds_if (dt_cmp (o_in) (dv 4) de_str)
 (dss_cons (ds_set (i := 5) sc__law_tokens_of.nd rfl (by first | exact Or.inl rfl | exact Or.inr rfl) (dq_fn g__law_run (hr.mono (by omega)) (da_cons (dv 0) (da_cons (dv 2) (da_cons de_str da_nil)))))
 (dss_one (ds_if (dt_w (dw_and (dt_cmp (o_eq (by exact hr.units)) (dv 4) de_str) (dw_and1 (dt_cmp (o_gt) (dv 5) (de_op o_add (dv 2) de_int)))))
 (dss_frz 1 (dss_one (ds_ret (de_frz (de_lst (da_cons (dv 1) (da_cons (dv 2) da_nil)))))))
 dss_nil)))
 (dss_one (ds_if (dt_cmp (o_in) (dv 4) de_str)
 (dss_one (ds_set (i := 5) sc__law_tokens_of.nd rfl (by first | exact Or.inl rfl | exact Or.inr rfl) (dq_fn g__law_run (hr.mono (by omega)) (da_cons (dv 0) (da_cons (dv 2) (da_cons de_str da_nil))))))
 (dss_one (ds_if (dt_cmp (o_nin) (dv 4) de_str)
 (dss_frz 1 (dss_one (ds_ret (de_frz (de_lst (da_cons (dv 1) (da_cons (dv 2) da_nil)))))))
 dss_nil)))))
 (dss_cons (ds_if (dt_cmp (o_ne (by exact hr.units)) (dv 4) de_str)
 (dss_one (ds_expr (de_append 1 (de_frz (de_lst (da_cons (de_sl (dv 0) (do_some (dv 2)) (do_some (dv 5))) (da_cons (dv 2) da_nil)))))))
 dss_nil)
 (dss_one (ds_set (i := 2) sc__law_tokens_of.nd rfl (by first | exact Or.inl rfl | exact Or.inr rfl) (dv 5)))))))))
 (dss_frz 1 (dss_one (ds_ret (de_frz (de_lst (da_cons (dv 1) (da_cons de_non da_nil)))))))))), ?_⟩) (fun _ _ _ h => h)
  rintro args R ⟨text, rfl, hz, q⟩
  have h24 := sz24
  simp only [body0, List.length_cons, List.length_nil, List.replicate, Nat.reduceAdd, Nat.reduceSub, List.cons_append, List.nil_append]
  refine seq_key (fun ρ' => ρ' = [.dat (.str text), .own true [], .no, .no, .no, .no]) (fun nx hnx => ⟨Nat.zero_le _, by simp, hnx _ rfl⟩) ?_
  rintro _ rfl
  refine seq_key (fun ρ' => ρ' = [.dat (.str text), .own true [], .dat (.int ((0 : Nat) : Int)), .no, .no, .no]) (fun nx hnx => ⟨by simp, hnx _ rfl⟩) ?_
  rintro _ rfl
  generalize hL : lexR text 0 = L at q
  have hrow : ∀ {acc : List D} {q : List Nat × Nat} {rest : List (List Nat × Nat)}, acc ++ (q :: rest).map rowL = (acc ++ [rowL q]) ++ rest.map rowL := fun {acc q rest} => by simp
  refine seq_key (fun ρ' => L.2 = none ∧ ∃ x2 x3 x4 x5, ρ' = [.dat (.str text), .own true (L.1.map rowL), x2, x3, x4, x5]) (fun nx hnx => ?_) ?_
  · refine ⟨rfl, ⟨by omega, rfl, ⟨by omega, by omega⟩, rfl, ?_⟩⟩
    rw [show ((text.length : Nat) : Int).toNat = text.length by simp]
    refine forGo (rngD 0 text.length) (fun j ρ => ∃ (p r : List Nat) (acc : List D) (x3 x4 x5 : Sl), ρ = [.dat (.str text), .own true acc, .dat (.int (p.length : Nat)), x3, x4, x5] ∧ text = p ++ r ∧ acc ++ (lexR r p.length).1.map rowL = L.1.map rowL ∧ (lexR r p.length).2 = L.2 ∧ j ≤ p.length ∧ acc.length ≤ p.length)
      (fun j d ρ Kk hd ⟨p, r, acc, x3, x4, x5, hρ, h1, h2, h3, h4, h5⟩ hK => ?step) (fun ρ ⟨p, r, acc, x3, x4, x5, hρ, h1, h2, h3, h4, h5⟩ => ?fin) ⟨[], text, [], _, _, _, rfl, rfl, by rw [List.length_nil, hL]; rfl, by rw [List.length_nil, hL], Nat.le_refl _, Nat.le_refl _⟩
    case fin =>
      rw [rng_len] at h4
      subst hρ
      have hl := congrArg List.length h1
      rw [List.length_append] at hl
      have hr : r = [] := List.length_eq_zero_iff.mp (by omega)
      subst hr
      rw [lexR] at h2 h3
      exact hnx _ ⟨h3.symm, .dat (.int (p.length : Nat)), x3, x4, x5, by rw [← h2]; simp⟩
    case step =>
      obtain ⟨rfl, hj⟩ := rng_get hd
      subst hρ
      have hl := congrArg List.length h1
      rw [List.length_append] at hl
      refine ⟨by simp, ?_⟩
      cases r with
      | nil =>
        rw [lexR] at h2 h3
        have hl' : text.length = p.length + 0 := hl
        refine seq_key (fun _ => False) (fun nx2 hnx2 => ifT (fun Q hQ => ?_) ?_) (fun _ h => h.elim)
        · try simp only [dSeq, dNext, dSet, dVar, dC, dBin, dTest, dCall, dCons, dNil, dAnd, dOr, dNot, dIf, dIfS, dRet, dRetN, dDrop, dBreak, dCont, dAug, fAddA, dTup, dLst, dFrz, dListOf, dNeg, fNeg, dSl, dNoPart, dPart, fSl, dM1, dIsi, dIsi2, dAppend, dPop, dReverse, dSetAt, dAndV, dOrV, dNotV, dB, dFld, dFldSet, dFldAdd, dMeth, dFn, dMake, dAsg, dgName, dgTwo, dgTwoL, dgThree, iSeq, iRange1, iRange2, iRange3, dFor, dLc, dYes, dKs, dKPush, dKTop, dKPop, dKLen, dOut, dFz, frzSl, stkAt, ownAt, obAt, rd1, rdL, rdD, datas, seqv, seqvs, stSl, rvSl, RV.hold, fI, fLen, fInt, fStr, fTuple, fAdd, fMul, fEq, fIn, fIsN, fIx, fJoin, List.getElem?_cons_zero, List.getElem?_cons_succ, List.getElem?_nil, List.set_cons_zero, List.set_cons_succ, List.length_cons, List.length_nil, eq_self_iff_true, true_and, and_true, Option.some.injEq, exists_eq_left']
          rw [decide_eq_true (by omega)]
          exact ⟨by omega, hQ⟩
        · exact hnx _ ⟨h3.symm, .dat (.int (p.length : Nat)), .dat (.int (0 + (j : Int))), x4, x5, by rw [← h2]; simp⟩
      | cons c r =>
        have hl' : text.length = p.length + (r.length + 1) := hl
        have hget : text[p.length]? = some c := by rw [h1]; simp
        refine seq_key (fun ρ' => ρ' = [.dat (.str text), .own true acc, .dat (.int (p.length : Nat)), .dat (.int (0 + (j : Int))), x4, x5]) (fun nx2 hnx2 => ifF (fun Q hQ => ?_) (hnx2 _ rfl)) ?_
        · try simp only [dSeq, dNext, dSet, dVar, dC, dBin, dTest, dCall, dCons, dNil, dAnd, dOr, dNot, dIf, dIfS, dRet, dRetN, dDrop, dBreak, dCont, dAug, fAddA, dTup, dLst, dFrz, dListOf, dNeg, fNeg, dSl, dNoPart, dPart, fSl, dM1, dIsi, dIsi2, dAppend, dPop, dReverse, dSetAt, dAndV, dOrV, dNotV, dB, dFld, dFldSet, dFldAdd, dMeth, dFn, dMake, dAsg, dgName, dgTwo, dgTwoL, dgThree, iSeq, iRange1, iRange2, iRange3, dFor, dLc, dYes, dKs, dKPush, dKTop, dKPop, dKLen, dOut, dFz, frzSl, stkAt, ownAt, obAt, rd1, rdL, rdD, datas, seqv, seqvs, stSl, rvSl, RV.hold, fI, fLen, fInt, fStr, fTuple, fAdd, fMul, fEq, fIn, fIsN, fIx, fJoin, List.getElem?_cons_zero, List.getElem?_cons_succ, List.getElem?_nil, List.set_cons_zero, List.set_cons_succ, List.length_cons, List.length_nil, eq_self_iff_true, true_and, and_true, Option.some.injEq, exists_eq_left']
          rw [decide_eq_false (by omega)]
          exact ⟨by omega, hQ⟩
        rintro _ rfl
        refine seq_key (fun ρ' => ρ' = [.dat (.str text), .own true acc, .dat (.int (p.length : Nat)), .dat (.int (0 + (j : Int))), .dat (.str [c]), x5]) (fun nx hnx => ⟨by omega, c, atI_nat hget, by simp, hnx _ rfl⟩) ?_
        rintro _ rfl
        refine seq_key (fun ρ' => ρ' = [.dat (.str text), .own true acc, .dat (.int (p.length : Nat)), .dat (.int (0 + (j : Int))), .dat (.str [c]), .dat (.int ((p.length + 1 : Nat) : Int))]) (fun nx hnx => ⟨by simp, hnx _ rfl⟩) ?_
        rintro _ rfl
        -- a run of signs of its kind
        have hrunT : ∀ cs, c ∈ cs → run (text.drop p.length) cs = run r cs + 1 := fun cs h => by rw [h1, drop_pre, run_cons h]
        -- behind the end: what is left
        have tail : ∀ (t r' : List Nat), c :: r = t ++ r' → 0 < t.length → c ≠ 32 → lexR (c :: r) p.length = ((t, p.length) :: (lexR r' (p.length + t.length)).1, (lexR r' (p.length + t.length)).2) → ∀ (u1 u2 : DS) (ψ : DEnds), ψ.nx = Kk →
            u1 = dIfS (dTest (dBin (fEq true) (dVar 4) (dC (D.str (Str.ofString " ").cps.toList)))) (dDrop (dAppend 1 (dFrz (dLst (dCons (dSl (dVar 0) (dPart (dVar 2)) (dPart (dVar 5))) (dCons (dVar 2) dNil)))))) dNext → u2 = dSet 2 (dVar 5) →
            dSeq u1 u2 ψ [.dat (.str text), .own true acc, .dat (.int (p.length : Nat)), .dat (.int (0 + (j : Int))), .dat (.str [c]), .dat (.int ((p.length + t.length : Nat) : Int))] := fun t r' e1 e2 e3 e4 u1 u2 ψ eψ eu1 eu2 => by
          subst eu1
          subst eu2
          have ht : text = (p ++ t) ++ r' := by rw [h1, e1]; simp
          refine seq_key (fun ρ' => ρ' = [.dat (.str text), .own true (acc ++ [rowL (t, p.length)]), .dat (.int (p.length : Nat)), .dat (.int (0 + (j : Int))), .dat (.str [c]), .dat (.int ((p.length + t.length : Nat) : Int))]) (fun nx hnx => ifT (fun Q hQ => ?_) ?_) ?_
          · try simp only [dSeq, dNext, dSet, dVar, dC, dBin, dTest, dCall, dCons, dNil, dAnd, dOr, dNot, dIf, dIfS, dRet, dRetN, dDrop, dBreak, dCont, dAug, fAddA, dTup, dLst, dFrz, dListOf, dNeg, fNeg, dSl, dNoPart, dPart, fSl, dM1, dIsi, dIsi2, dAppend, dPop, dReverse, dSetAt, dAndV, dOrV, dNotV, dB, dFld, dFldSet, dFldAdd, dMeth, dFn, dMake, dAsg, dgName, dgTwo, dgTwoL, dgThree, iSeq, iRange1, iRange2, iRange3, dFor, dLc, dYes, dKs, dKPush, dKTop, dKPop, dKLen, dOut, dFz, frzSl, stkAt, ownAt, obAt, rd1, rdL, rdD, datas, seqv, seqvs, stSl, rvSl, RV.hold, fI, fLen, fInt, fStr, fTuple, fAdd, fMul, fEq, fIn, fIsN, fIx, fJoin, List.getElem?_cons_zero, List.getElem?_cons_succ, List.getElem?_nil, List.set_cons_zero, List.set_cons_succ, List.length_cons, List.length_nil, eq_self_iff_true, true_and, and_true, Option.some.injEq, exists_eq_left']
            rw [show (Str.ofString " ").cps.toList = [32] from c_sp, show decide ([c] = [32]) = false by simp [e3]]
            exact hQ
          · try simp only [dSeq, dNext, dSet, dVar, dC, dBin, dTest, dCall, dCons, dNil, dAnd, dOr, dNot, dIf, dIfS, dRet, dRetN, dDrop, dBreak, dCont, dAug, fAddA, dTup, dLst, dFrz, dListOf, dNeg, fNeg, dSl, dNoPart, dPart, fSl, dM1, dIsi, dIsi2, dAppend, dPop, dReverse, dSetAt, dAndV, dOrV, dNotV, dB, dFld, dFldSet, dFldAdd, dMeth, dFn, dMake, dAsg, dgName, dgTwo, dgTwoL, dgThree, iSeq, iRange1, iRange2, iRange3, dFor, dLc, dYes, dKs, dKPush, dKTop, dKPop, dKLen, dOut, dFz, frzSl, stkAt, ownAt, obAt, rd1, rdL, rdD, datas, seqv, seqvs, stSl, rvSl, RV.hold, fI, fLen, fInt, fStr, fTuple, fAdd, fMul, fEq, fIn, fIsN, fIx, fJoin, List.getElem?_cons_zero, List.getElem?_cons_succ, List.getElem?_nil, List.set_cons_zero, List.set_cons_succ, List.length_cons, List.length_nil, eq_self_iff_true, true_and, and_true, Option.some.injEq, exists_eq_left']
            have hcut : cutL text (some (p.length : Int)) (some ((p.length + t.length : Nat) : Int)) = t := by rw [h1, e1]; exact cut_mid rfl rfl
            rw [hcut]
            exact ⟨by omega, by omega, by omega, hnx _ rfl⟩
          rintro _ rfl
          refine ⟨by simp, ?_⟩
          show ψ.nx _
          rw [eψ]
          rw [e4] at h2 h3
          refine hK _ ⟨p ++ t, r', acc ++ [rowL (t, p.length)], .dat (.int (0 + (j : Int))), .dat (.str [c]), .dat (.int ((p.length + t.length : Nat) : Int)), by simp, ht, ?_, ?_, by simp; omega, by simp; omega⟩
          · rw [← h2, List.length_append, hrow]
          · rw [List.length_append]; exact h3
        have badRet : L.2 = some p.length → L.1.map rowL = acc → ∀ ψ : DEnds, ψ.rt = (endsOf 1 R).rt → dFz 1 (dRet (dFrz (dLst (dCons (dVar 1) (dCons (dVar 2) dNil))))) ψ [.dat (.str text), .own true acc, .dat (.int (p.length : Nat)), .dat (.int (0 + (j : Int))), .dat (.str [c]), .dat (.int ((p.length + 1 : Nat) : Int))] ∧ ∀ e : Int, dFz 1 (dRet (dFrz (dLst (dCons (dVar 1) (dCons (dVar 2) dNil))))) ψ [.dat (.str text), .own true acc, .dat (.int (p.length : Nat)), .dat (.int (0 + (j : Int))), .dat (.str [c]), .dat (.int e)] := fun b1 b2 ψ eψ => by
          rw [b1, b2] at q
          refine ⟨?_, fun e => ?_⟩
          · try simp only [dSeq, dNext, dSet, dVar, dC, dBin, dTest, dCall, dCons, dNil, dAnd, dOr, dNot, dIf, dIfS, dRet, dRetN, dDrop, dBreak, dCont, dAug, fAddA, dTup, dLst, dFrz, dListOf, dNeg, fNeg, dSl, dNoPart, dPart, fSl, dM1, dIsi, dIsi2, dAppend, dPop, dReverse, dSetAt, dAndV, dOrV, dNotV, dB, dFld, dFldSet, dFldAdd, dMeth, dFn, dMake, dAsg, dgName, dgTwo, dgTwoL, dgThree, iSeq, iRange1, iRange2, iRange3, dFor, dLc, dYes, dKs, dKPush, dKTop, dKPop, dKLen, dOut, dFz, frzSl, stkAt, ownAt, obAt, rd1, rdL, rdD, datas, seqv, seqvs, stSl, rvSl, RV.hold, fI, fLen, fInt, fStr, fTuple, fAdd, fMul, fEq, fIn, fIsN, fIx, fJoin, List.getElem?_cons_zero, List.getElem?_cons_succ, List.getElem?_nil, List.set_cons_zero, List.set_cons_succ, List.length_cons, List.length_nil, eq_self_iff_true, true_and, and_true, Option.some.injEq, exists_eq_left']
            rw [eψ]
            exact ⟨by omega, q⟩
          · try simp only [dSeq, dNext, dSet, dVar, dC, dBin, dTest, dCall, dCons, dNil, dAnd, dOr, dNot, dIf, dIfS, dRet, dRetN, dDrop, dBreak, dCont, dAug, fAddA, dTup, dLst, dFrz, dListOf, dNeg, fNeg, dSl, dNoPart, dPart, fSl, dM1, dIsi, dIsi2, dAppend, dPop, dReverse, dSetAt, dAndV, dOrV, dNotV, dB, dFld, dFldSet, dFldAdd, dMeth, dFn, dMake, dAsg, dgName, dgTwo, dgTwoL, dgThree, iSeq, iRange1, iRange2, iRange3, dFor, dLc, dYes, dKs, dKPush, dKTop, dKPop, dKLen, dOut, dFz, frzSl, stkAt, ownAt, obAt, rd1, rdL, rdD, datas, seqv, seqvs, stSl, rvSl, RV.hold, fI, fLen, fInt, fStr, fTuple, fAdd, fMul, fEq, fIn, fIsN, fIx, fJoin, List.getElem?_cons_zero, List.getElem?_cons_succ, List.getElem?_nil, List.set_cons_zero, List.set_cons_succ, List.length_cons, List.length_nil, eq_self_iff_true, true_and, and_true, Option.some.injEq, exists_eq_left']
            rw [eψ]
            exact ⟨by omega, q⟩
        by_cases hd : c ∈ DIG
        · have hdb := mem_dig.mp hd
          have c32 : c ≠ 32 := by omega
          have n1 := not_sgn_dig hd
          have n2 := not_let_dig hd
          by_cases h48 : c = 48 ∧ 0 < run r DIG
          · have e4 : lexR (c :: r) p.length = ([], some p.length) := by rw [lexR, if_neg c32, if_neg n1, if_neg n2, if_pos hd, if_pos h48]
            rw [e4] at h2 h3
            refine seq_key (fun _ => False) (fun nx2 hnx2 => ifT (fun Q hQ => ?_) ?_) (fun _ h => h.elim)
            · try simp only [dSeq, dNext, dSet, dVar, dC, dBin, dTest, dCall, dCons, dNil, dAnd, dOr, dNot, dIf, dIfS, dRet, dRetN, dDrop, dBreak, dCont, dAug, fAddA, dTup, dLst, dFrz, dListOf, dNeg, fNeg, dSl, dNoPart, dPart, fSl, dM1, dIsi, dIsi2, dAppend, dPop, dReverse, dSetAt, dAndV, dOrV, dNotV, dB, dFld, dFldSet, dFldAdd, dMeth, dFn, dMake, dAsg, dgName, dgTwo, dgTwoL, dgThree, iSeq, iRange1, iRange2, iRange3, dFor, dLc, dYes, dKs, dKPush, dKTop, dKPop, dKLen, dOut, dFz, frzSl, stkAt, ownAt, obAt, rd1, rdL, rdD, datas, seqv, seqvs, stSl, rvSl, RV.hold, fI, fLen, fInt, fStr, fTuple, fAdd, fMul, fEq, fIn, fIsN, fIx, fJoin, List.getElem?_cons_zero, List.getElem?_cons_succ, List.getElem?_nil, List.set_cons_zero, List.set_cons_succ, List.length_cons, List.length_nil, eq_self_iff_true, true_and, and_true, Option.some.injEq, exists_eq_left']
              simp only [hd, decide_true, Bool.false_xor]
              exact hQ
            · refine seq_key (fun ρ' => ρ' = [.dat (.str text), .own true acc, .dat (.int (p.length : Nat)), .dat (.int (0 + (j : Int))), .dat (.str [c]), .dat (.int ((p.length + (run r DIG + 1) : Nat) : Int))]) (fun nx3 hnx3 => ?_) ?_
              · try simp only [dSeq, dNext, dSet, dVar, dC, dBin, dTest, dCall, dCons, dNil, dAnd, dOr, dNot, dIf, dIfS, dRet, dRetN, dDrop, dBreak, dCont, dAug, fAddA, dTup, dLst, dFrz, dListOf, dNeg, fNeg, dSl, dNoPart, dPart, fSl, dM1, dIsi, dIsi2, dAppend, dPop, dReverse, dSetAt, dAndV, dOrV, dNotV, dB, dFld, dFldSet, dFldAdd, dMeth, dFn, dMake, dAsg, dgName, dgTwo, dgTwoL, dgThree, iSeq, iRange1, iRange2, iRange3, dFor, dLc, dYes, dKs, dKPush, dKTop, dKPop, dKLen, dOut, dFz, frzSl, stkAt, ownAt, obAt, rd1, rdL, rdD, datas, seqv, seqvs, stSl, rvSl, RV.hold, fI, fLen, fInt, fStr, fTuple, fAdd, fMul, fEq, fIn, fIsN, fIx, fJoin, List.getElem?_cons_zero, List.getElem?_cons_succ, List.getElem?_nil, List.set_cons_zero, List.set_cons_succ, List.length_cons, List.length_nil, eq_self_iff_true, true_and, and_true, Option.some.injEq, exists_eq_left']
                refine ⟨List.nodup_nil, _, rfl, text, p.length, DIG, rfl, by omega, by omega, rfl, trivial, ?_⟩
                simp only [wr, Sl.fl, Sl.mn, List.getD_cons_zero, List.getD_cons_succ, List.set_cons_zero, List.set_cons_succ]
                rw [hrunT DIG hd]
                exact ⟨by simp, hnx3 _ rfl⟩
              rintro _ rfl
              refine ifT (fun Q hQ => ?_) ((badRet h3.symm (by rw [← h2]; simp) _ rfl).2 _)
              try simp only [dSeq, dNext, dSet, dVar, dC, dBin, dTest, dCall, dCons, dNil, dAnd, dOr, dNot, dIf, dIfS, dRet, dRetN, dDrop, dBreak, dCont, dAug, fAddA, dTup, dLst, dFrz, dListOf, dNeg, fNeg, dSl, dNoPart, dPart, fSl, dM1, dIsi, dIsi2, dAppend, dPop, dReverse, dSetAt, dAndV, dOrV, dNotV, dB, dFld, dFldSet, dFldAdd, dMeth, dFn, dMake, dAsg, dgName, dgTwo, dgTwoL, dgThree, iSeq, iRange1, iRange2, iRange3, dFor, dLc, dYes, dKs, dKPush, dKTop, dKPop, dKLen, dOut, dFz, frzSl, stkAt, ownAt, obAt, rd1, rdL, rdD, datas, seqv, seqvs, stSl, rvSl, RV.hold, fI, fLen, fInt, fStr, fTuple, fAdd, fMul, fEq, fIn, fIsN, fIx, fJoin, List.getElem?_cons_zero, List.getElem?_cons_succ, List.getElem?_nil, List.set_cons_zero, List.set_cons_succ, List.length_cons, List.length_nil, eq_self_iff_true, true_and, and_true, Option.some.injEq, exists_eq_left']
              rw [show (Str.ofString "0").cps.toList = [48] from c_0, h48.1]
              simp only [decide_true, Bool.false_xor, if_true]
              rw [decide_eq_true (by omega)]
              rw [h48.1] at hQ
              exact hQ
          · have e4 : lexR (c :: r) p.length = ((c :: r.take (run r DIG), p.length) :: (lexR (r.drop (run r DIG)) (p.length + (c :: r.take (run r DIG)).length)).1, (lexR (r.drop (run r DIG)) (p.length + (c :: r.take (run r DIG)).length)).2) := by
              have e : (c :: r.take (run r DIG)).length = 1 + run r DIG := by have := run_le r DIG; simp; omega
              rw [lexR, if_neg c32, if_neg n1, if_neg n2, if_pos hd, if_neg h48, e, show p.length + 1 + run r DIG = p.length + (1 + run r DIG) by omega]
            have el : (c :: r.take (run r DIG)).length = run r DIG + 1 := by have := run_le r DIG; simp; omega
            refine seq_key (fun ρ' => ρ' = [.dat (.str text), .own true acc, .dat (.int (p.length : Nat)), .dat (.int (0 + (j : Int))), .dat (.str [c]), .dat (.int ((p.length + (c :: r.take (run r DIG)).length : Nat) : Int))]) (fun nx2 hnx2 => ifT (fun Q hQ => ?_) ?_) ?_
            · try simp only [dSeq, dNext, dSet, dVar, dC, dBin, dTest, dCall, dCons, dNil, dAnd, dOr, dNot, dIf, dIfS, dRet, dRetN, dDrop, dBreak, dCont, dAug, fAddA, dTup, dLst, dFrz, dListOf, dNeg, fNeg, dSl, dNoPart, dPart, fSl, dM1, dIsi, dIsi2, dAppend, dPop, dReverse, dSetAt, dAndV, dOrV, dNotV, dB, dFld, dFldSet, dFldAdd, dMeth, dFn, dMake, dAsg, dgName, dgTwo, dgTwoL, dgThree, iSeq, iRange1, iRange2, iRange3, dFor, dLc, dYes, dKs, dKPush, dKTop, dKPop, dKLen, dOut, dFz, frzSl, stkAt, ownAt, obAt, rd1, rdL, rdD, datas, seqv, seqvs, stSl, rvSl, RV.hold, fI, fLen, fInt, fStr, fTuple, fAdd, fMul, fEq, fIn, fIsN, fIx, fJoin, List.getElem?_cons_zero, List.getElem?_cons_succ, List.getElem?_nil, List.set_cons_zero, List.set_cons_succ, List.length_cons, List.length_nil, eq_self_iff_true, true_and, and_true, Option.some.injEq, exists_eq_left']
              simp only [hd, decide_true, Bool.false_xor]
              exact hQ
            · refine seq_key (fun ρ' => ρ' = [.dat (.str text), .own true acc, .dat (.int (p.length : Nat)), .dat (.int (0 + (j : Int))), .dat (.str [c]), .dat (.int ((p.length + (run r DIG + 1) : Nat) : Int))]) (fun nx3 hnx3 => ?_) ?_
              · try simp only [dSeq, dNext, dSet, dVar, dC, dBin, dTest, dCall, dCons, dNil, dAnd, dOr, dNot, dIf, dIfS, dRet, dRetN, dDrop, dBreak, dCont, dAug, fAddA, dTup, dLst, dFrz, dListOf, dNeg, fNeg, dSl, dNoPart, dPart, fSl, dM1, dIsi, dIsi2, dAppend, dPop, dReverse, dSetAt, dAndV, dOrV, dNotV, dB, dFld, dFldSet, dFldAdd, dMeth, dFn, dMake, dAsg, dgName, dgTwo, dgTwoL, dgThree, iSeq, iRange1, iRange2, iRange3, dFor, dLc, dYes, dKs, dKPush, dKTop, dKPop, dKLen, dOut, dFz, frzSl, stkAt, ownAt, obAt, rd1, rdL, rdD, datas, seqv, seqvs, stSl, rvSl, RV.hold, fI, fLen, fInt, fStr, fTuple, fAdd, fMul, fEq, fIn, fIsN, fIx, fJoin, List.getElem?_cons_zero, List.getElem?_cons_succ, List.getElem?_nil, List.set_cons_zero, List.set_cons_succ, List.length_cons, List.length_nil, eq_self_iff_true, true_and, and_true, Option.some.injEq, exists_eq_left']
                refine ⟨List.nodup_nil, _, rfl, text, p.length, DIG, rfl, by omega, by omega, rfl, trivial, ?_⟩
                simp only [wr, Sl.fl, Sl.mn, List.getD_cons_zero, List.getD_cons_succ, List.set_cons_zero, List.set_cons_succ]
                rw [hrunT DIG hd]
                exact ⟨by simp, hnx3 _ rfl⟩
              rintro _ rfl
              refine ifF (fun Q hQ => ?_) (hnx2 _ (by rw [el]))
              try simp only [dSeq, dNext, dSet, dVar, dC, dBin, dTest, dCall, dCons, dNil, dAnd, dOr, dNot, dIf, dIfS, dRet, dRetN, dDrop, dBreak, dCont, dAug, fAddA, dTup, dLst, dFrz, dListOf, dNeg, fNeg, dSl, dNoPart, dPart, fSl, dM1, dIsi, dIsi2, dAppend, dPop, dReverse, dSetAt, dAndV, dOrV, dNotV, dB, dFld, dFldSet, dFldAdd, dMeth, dFn, dMake, dAsg, dgName, dgTwo, dgTwoL, dgThree, iSeq, iRange1, iRange2, iRange3, dFor, dLc, dYes, dKs, dKPush, dKTop, dKPop, dKLen, dOut, dFz, frzSl, stkAt, ownAt, obAt, rd1, rdL, rdD, datas, seqv, seqvs, stSl, rvSl, RV.hold, fI, fLen, fInt, fStr, fTuple, fAdd, fMul, fEq, fIn, fIsN, fIx, fJoin, List.getElem?_cons_zero, List.getElem?_cons_succ, List.getElem?_nil, List.set_cons_zero, List.set_cons_succ, List.length_cons, List.length_nil, eq_self_iff_true, true_and, and_true, Option.some.injEq, exists_eq_left']
              rw [show (Str.ofString "0").cps.toList = [48] from c_0]
              by_cases h5 : c = 48
              · have h6 : ¬ 0 < run r DIG := fun z => h48 ⟨h5, z⟩
                simp only [h5, decide_true, Bool.false_xor, if_true] at hQ ⊢
                rw [decide_eq_false (by omega)]
                exact hQ
              · rw [show decide ([c] = [48]) = false by simp [h5]]
                simp only [Bool.false_xor, Bool.false_eq_true, if_false]
                exact hQ
            rintro _ rfl
            exact tail _ _ (by simp) (by simp) c32 e4 _ _ _ rfl rfl rfl
        by_cases hlt : c ∈ LET
        · have hlb := mem_let.mp hlt
          have c32 : c ≠ 32 := by omega
          have n1 := not_sgn_let hlt
          have e4 : lexR (c :: r) p.length = ((c :: r.take (run r LET), p.length) :: (lexR (r.drop (run r LET)) (p.length + (c :: r.take (run r LET)).length)).1, (lexR (r.drop (run r LET)) (p.length + (c :: r.take (run r LET)).length)).2) := by
            have e : (c :: r.take (run r LET)).length = 1 + run r LET := by have := run_le r LET; simp; omega
            rw [lexR, if_neg c32, if_neg n1, if_pos hlt, e, show p.length + 1 + run r LET = p.length + (1 + run r LET) by omega]
          have el : (c :: r.take (run r LET)).length = run r LET + 1 := by have := run_le r LET; simp; omega
          refine seq_key (fun ρ' => ρ' = [.dat (.str text), .own true acc, .dat (.int (p.length : Nat)), .dat (.int (0 + (j : Int))), .dat (.str [c]), .dat (.int ((p.length + (c :: r.take (run r LET)).length : Nat) : Int))]) (fun nx2 hnx2 => ifF (fun Q hQ => ?_) (ifT (fun Q hQ => ?_) ?_)) ?_
          · try simp only [dSeq, dNext, dSet, dVar, dC, dBin, dTest, dCall, dCons, dNil, dAnd, dOr, dNot, dIf, dIfS, dRet, dRetN, dDrop, dBreak, dCont, dAug, fAddA, dTup, dLst, dFrz, dListOf, dNeg, fNeg, dSl, dNoPart, dPart, fSl, dM1, dIsi, dIsi2, dAppend, dPop, dReverse, dSetAt, dAndV, dOrV, dNotV, dB, dFld, dFldSet, dFldAdd, dMeth, dFn, dMake, dAsg, dgName, dgTwo, dgTwoL, dgThree, iSeq, iRange1, iRange2, iRange3, dFor, dLc, dYes, dKs, dKPush, dKTop, dKPop, dKLen, dOut, dFz, frzSl, stkAt, ownAt, obAt, rd1, rdL, rdD, datas, seqv, seqvs, stSl, rvSl, RV.hold, fI, fLen, fInt, fStr, fTuple, fAdd, fMul, fEq, fIn, fIsN, fIx, fJoin, List.getElem?_cons_zero, List.getElem?_cons_succ, List.getElem?_nil, List.set_cons_zero, List.set_cons_succ, List.length_cons, List.length_nil, eq_self_iff_true, true_and, and_true, Option.some.injEq, exists_eq_left']
            simp only [hd, decide_false, Bool.false_xor]
            exact hQ
          · try simp only [dSeq, dNext, dSet, dVar, dC, dBin, dTest, dCall, dCons, dNil, dAnd, dOr, dNot, dIf, dIfS, dRet, dRetN, dDrop, dBreak, dCont, dAug, fAddA, dTup, dLst, dFrz, dListOf, dNeg, fNeg, dSl, dNoPart, dPart, fSl, dM1, dIsi, dIsi2, dAppend, dPop, dReverse, dSetAt, dAndV, dOrV, dNotV, dB, dFld, dFldSet, dFldAdd, dMeth, dFn, dMake, dAsg, dgName, dgTwo, dgTwoL, dgThree, iSeq, iRange1, iRange2, iRange3, dFor, dLc, dYes, dKs, dKPush, dKTop, dKPop, dKLen, dOut, dFz, frzSl, stkAt, ownAt, obAt, rd1, rdL, rdD, datas, seqv, seqvs, stSl, rvSl, RV.hold, fI, fLen, fInt, fStr, fTuple, fAdd, fMul, fEq, fIn, fIsN, fIx, fJoin, List.getElem?_cons_zero, List.getElem?_cons_succ, List.getElem?_nil, List.set_cons_zero, List.set_cons_succ, List.length_cons, List.length_nil, eq_self_iff_true, true_and, and_true, Option.some.injEq, exists_eq_left']
            simp only [hlt, decide_true, Bool.false_xor]
            exact hQ
          · try simp only [dSeq, dNext, dSet, dVar, dC, dBin, dTest, dCall, dCons, dNil, dAnd, dOr, dNot, dIf, dIfS, dRet, dRetN, dDrop, dBreak, dCont, dAug, fAddA, dTup, dLst, dFrz, dListOf, dNeg, fNeg, dSl, dNoPart, dPart, fSl, dM1, dIsi, dIsi2, dAppend, dPop, dReverse, dSetAt, dAndV, dOrV, dNotV, dB, dFld, dFldSet, dFldAdd, dMeth, dFn, dMake, dAsg, dgName, dgTwo, dgTwoL, dgThree, iSeq, iRange1, iRange2, iRange3, dFor, dLc, dYes, dKs, dKPush, dKTop, dKPop, dKLen, dOut, dFz, frzSl, stkAt, ownAt, obAt, rd1, rdL, rdD, datas, seqv, seqvs, stSl, rvSl, RV.hold, fI, fLen, fInt, fStr, fTuple, fAdd, fMul, fEq, fIn, fIsN, fIx, fJoin, List.getElem?_cons_zero, List.getElem?_cons_succ, List.getElem?_nil, List.set_cons_zero, List.set_cons_succ, List.length_cons, List.length_nil, eq_self_iff_true, true_and, and_true, Option.some.injEq, exists_eq_left']
            refine ⟨List.nodup_nil, _, rfl, text, p.length, LET, rfl, by omega, by omega, rfl, trivial, ?_⟩
            simp only [wr, Sl.fl, Sl.mn, List.getD_cons_zero, List.getD_cons_succ, List.set_cons_zero, List.set_cons_succ]
            rw [hrunT LET hlt]
            exact ⟨by simp, hnx2 _ (by rw [el])⟩
          rintro _ rfl
          exact tail _ _ (by simp) (by simp) c32 e4 _ _ _ rfl rfl rfl
        by_cases hsg : c ∈ SGS
        · refine seq_key (fun ρ' => ρ' = [.dat (.str text), .own true acc, .dat (.int (p.length : Nat)), .dat (.int (0 + (j : Int))), .dat (.str [c]), .dat (.int ((p.length + 1 : Nat) : Int))]) (fun nx2 hnx2 => ifF (fun Q hQ => ?_) (ifF (fun Q hQ => ?_) (ifF (fun Q hQ => ?_) (hnx2 _ rfl)))) ?_
          · try simp only [dSeq, dNext, dSet, dVar, dC, dBin, dTest, dCall, dCons, dNil, dAnd, dOr, dNot, dIf, dIfS, dRet, dRetN, dDrop, dBreak, dCont, dAug, fAddA, dTup, dLst, dFrz, dListOf, dNeg, fNeg, dSl, dNoPart, dPart, fSl, dM1, dIsi, dIsi2, dAppend, dPop, dReverse, dSetAt, dAndV, dOrV, dNotV, dB, dFld, dFldSet, dFldAdd, dMeth, dFn, dMake, dAsg, dgName, dgTwo, dgTwoL, dgThree, iSeq, iRange1, iRange2, iRange3, dFor, dLc, dYes, dKs, dKPush, dKTop, dKPop, dKLen, dOut, dFz, frzSl, stkAt, ownAt, obAt, rd1, rdL, rdD, datas, seqv, seqvs, stSl, rvSl, RV.hold, fI, fLen, fInt, fStr, fTuple, fAdd, fMul, fEq, fIn, fIsN, fIx, fJoin, List.getElem?_cons_zero, List.getElem?_cons_succ, List.getElem?_nil, List.set_cons_zero, List.set_cons_succ, List.length_cons, List.length_nil, eq_self_iff_true, true_and, and_true, Option.some.injEq, exists_eq_left']
            simp only [hd, decide_false, Bool.false_xor]
            exact hQ
          · try simp only [dSeq, dNext, dSet, dVar, dC, dBin, dTest, dCall, dCons, dNil, dAnd, dOr, dNot, dIf, dIfS, dRet, dRetN, dDrop, dBreak, dCont, dAug, fAddA, dTup, dLst, dFrz, dListOf, dNeg, fNeg, dSl, dNoPart, dPart, fSl, dM1, dIsi, dIsi2, dAppend, dPop, dReverse, dSetAt, dAndV, dOrV, dNotV, dB, dFld, dFldSet, dFldAdd, dMeth, dFn, dMake, dAsg, dgName, dgTwo, dgTwoL, dgThree, iSeq, iRange1, iRange2, iRange3, dFor, dLc, dYes, dKs, dKPush, dKTop, dKPop, dKLen, dOut, dFz, frzSl, stkAt, ownAt, obAt, rd1, rdL, rdD, datas, seqv, seqvs, stSl, rvSl, RV.hold, fI, fLen, fInt, fStr, fTuple, fAdd, fMul, fEq, fIn, fIsN, fIx, fJoin, List.getElem?_cons_zero, List.getElem?_cons_succ, List.getElem?_nil, List.set_cons_zero, List.set_cons_succ, List.length_cons, List.length_nil, eq_self_iff_true, true_and, and_true, Option.some.injEq, exists_eq_left']
            simp only [hlt, decide_false, Bool.false_xor]
            exact hQ
          · try simp only [dSeq, dNext, dSet, dVar, dC, dBin, dTest, dCall, dCons, dNil, dAnd, dOr, dNot, dIf, dIfS, dRet, dRetN, dDrop, dBreak, dCont, dAug, fAddA, dTup, dLst, dFrz, dListOf, dNeg, fNeg, dSl, dNoPart, dPart, fSl, dM1, dIsi, dIsi2, dAppend, dPop, dReverse, dSetAt, dAndV, dOrV, dNotV, dB, dFld, dFldSet, dFldAdd, dMeth, dFn, dMake, dAsg, dgName, dgTwo, dgTwoL, dgThree, iSeq, iRange1, iRange2, iRange3, dFor, dLc, dYes, dKs, dKPush, dKTop, dKPop, dKLen, dOut, dFz, frzSl, stkAt, ownAt, obAt, rd1, rdL, rdD, datas, seqv, seqvs, stSl, rvSl, RV.hold, fI, fLen, fInt, fStr, fTuple, fAdd, fMul, fEq, fIn, fIsN, fIx, fJoin, List.getElem?_cons_zero, List.getElem?_cons_succ, List.getElem?_nil, List.set_cons_zero, List.set_cons_succ, List.length_cons, List.length_nil, eq_self_iff_true, true_and, and_true, Option.some.injEq, exists_eq_left']
            simp only [hsg, decide_true, Bool.true_xor]
            exact hQ
          rintro _ rfl
          rcases mem_sgs.mp hsg with hs | rfl
          · have c32 : c ≠ 32 := by have := mem_sgn.mp hs; omega
            exact tail [c] r rfl (by simp) c32 (by rw [lexR, if_neg c32, if_pos hs]; rfl) _ _ _ rfl rfl rfl
          · rw [lex_sp] at h2 h3
            refine seq_key (fun ρ' => ρ' = [.dat (.str text), .own true acc, .dat (.int (p.length : Nat)), .dat (.int (0 + (j : Int))), .dat (.str [32]), .dat (.int ((p.length + 1 : Nat) : Int))]) (fun nx hnx => ifF (fun Q hQ => ?_) (hnx _ rfl)) ?_
            · try simp only [dSeq, dNext, dSet, dVar, dC, dBin, dTest, dCall, dCons, dNil, dAnd, dOr, dNot, dIf, dIfS, dRet, dRetN, dDrop, dBreak, dCont, dAug, fAddA, dTup, dLst, dFrz, dListOf, dNeg, fNeg, dSl, dNoPart, dPart, fSl, dM1, dIsi, dIsi2, dAppend, dPop, dReverse, dSetAt, dAndV, dOrV, dNotV, dB, dFld, dFldSet, dFldAdd, dMeth, dFn, dMake, dAsg, dgName, dgTwo, dgTwoL, dgThree, iSeq, iRange1, iRange2, iRange3, dFor, dLc, dYes, dKs, dKPush, dKTop, dKPop, dKLen, dOut, dFz, frzSl, stkAt, ownAt, obAt, rd1, rdL, rdD, datas, seqv, seqvs, stSl, rvSl, RV.hold, fI, fLen, fInt, fStr, fTuple, fAdd, fMul, fEq, fIn, fIsN, fIx, fJoin, List.getElem?_cons_zero, List.getElem?_cons_succ, List.getElem?_nil, List.set_cons_zero, List.set_cons_succ, List.length_cons, List.length_nil, eq_self_iff_true, true_and, and_true, Option.some.injEq, exists_eq_left']
              rw [show (Str.ofString " ").cps.toList = [32] from c_sp]
              exact hQ
            rintro _ rfl
            refine ⟨by simp, hK _ ⟨p ++ [32], r, acc, .dat (.int (0 + (j : Int))), .dat (.str [32]), .dat (.int ((p.length + 1 : Nat) : Int)), by simp, by rw [h1]; simp, ?_, ?_, by simp; omega, by simp; omega⟩⟩
            · rw [List.length_append, List.length_singleton]; exact h2
            · rw [List.length_append, List.length_singleton]; exact h3
        · have c32 : c ≠ 32 := fun z => hsg (mem_sgs.mpr (.inr z))
          have n1 : c ∉ SGN := fun z => hsg (mem_sgs.mpr (.inl z))
          have e4 : lexR (c :: r) p.length = ([], some p.length) := by rw [lexR, if_neg c32, if_neg n1, if_neg hlt, if_neg hd]
          rw [e4] at h2 h3
          refine seq_key (fun _ => False) (fun nx2 hnx2 => ifF (fun Q hQ => ?_) (ifF (fun Q hQ => ?_) (ifT (fun Q hQ => ?_) ((badRet h3.symm (by rw [← h2]; simp) _ rfl).1)))) (fun _ h => h.elim)
          · try simp only [dSeq, dNext, dSet, dVar, dC, dBin, dTest, dCall, dCons, dNil, dAnd, dOr, dNot, dIf, dIfS, dRet, dRetN, dDrop, dBreak, dCont, dAug, fAddA, dTup, dLst, dFrz, dListOf, dNeg, fNeg, dSl, dNoPart, dPart, fSl, dM1, dIsi, dIsi2, dAppend, dPop, dReverse, dSetAt, dAndV, dOrV, dNotV, dB, dFld, dFldSet, dFldAdd, dMeth, dFn, dMake, dAsg, dgName, dgTwo, dgTwoL, dgThree, iSeq, iRange1, iRange2, iRange3, dFor, dLc, dYes, dKs, dKPush, dKTop, dKPop, dKLen, dOut, dFz, frzSl, stkAt, ownAt, obAt, rd1, rdL, rdD, datas, seqv, seqvs, stSl, rvSl, RV.hold, fI, fLen, fInt, fStr, fTuple, fAdd, fMul, fEq, fIn, fIsN, fIx, fJoin, List.getElem?_cons_zero, List.getElem?_cons_succ, List.getElem?_nil, List.set_cons_zero, List.set_cons_succ, List.length_cons, List.length_nil, eq_self_iff_true, true_and, and_true, Option.some.injEq, exists_eq_left']
            simp only [hd, decide_false, Bool.false_xor]
            exact hQ
          · try simp only [dSeq, dNext, dSet, dVar, dC, dBin, dTest, dCall, dCons, dNil, dAnd, dOr, dNot, dIf, dIfS, dRet, dRetN, dDrop, dBreak, dCont, dAug, fAddA, dTup, dLst, dFrz, dListOf, dNeg, fNeg, dSl, dNoPart, dPart, fSl, dM1, dIsi, dIsi2, dAppend, dPop, dReverse, dSetAt, dAndV, dOrV, dNotV, dB, dFld, dFldSet, dFldAdd, dMeth, dFn, dMake, dAsg, dgName, dgTwo, dgTwoL, dgThree, iSeq, iRange1, iRange2, iRange3, dFor, dLc, dYes, dKs, dKPush, dKTop, dKPop, dKLen, dOut, dFz, frzSl, stkAt, ownAt, obAt, rd1, rdL, rdD, datas, seqv, seqvs, stSl, rvSl, RV.hold, fI, fLen, fInt, fStr, fTuple, fAdd, fMul, fEq, fIn, fIsN, fIx, fJoin, List.getElem?_cons_zero, List.getElem?_cons_succ, List.getElem?_nil, List.set_cons_zero, List.set_cons_succ, List.length_cons, List.length_nil, eq_self_iff_true, true_and, and_true, Option.some.injEq, exists_eq_left']
            simp only [hlt, decide_false, Bool.false_xor]
            exact hQ
          · try simp only [dSeq, dNext, dSet, dVar, dC, dBin, dTest, dCall, dCons, dNil, dAnd, dOr, dNot, dIf, dIfS, dRet, dRetN, dDrop, dBreak, dCont, dAug, fAddA, dTup, dLst, dFrz, dListOf, dNeg, fNeg, dSl, dNoPart, dPart, fSl, dM1, dIsi, dIsi2, dAppend, dPop, dReverse, dSetAt, dAndV, dOrV, dNotV, dB, dFld, dFldSet, dFldAdd, dMeth, dFn, dMake, dAsg, dgName, dgTwo, dgTwoL, dgThree, iSeq, iRange1, iRange2, iRange3, dFor, dLc, dYes, dKs, dKPush, dKTop, dKPop, dKLen, dOut, dFz, frzSl, stkAt, ownAt, obAt, rd1, rdL, rdD, datas, seqv, seqvs, stSl, rvSl, RV.hold, fI, fLen, fInt, fStr, fTuple, fAdd, fMul, fEq, fIn, fIsN, fIx, fJoin, List.getElem?_cons_zero, List.getElem?_cons_succ, List.getElem?_nil, List.set_cons_zero, List.set_cons_succ, List.length_cons, List.length_nil, eq_self_iff_true, true_and, and_true, Option.some.injEq, exists_eq_left']
            simp only [hsg, decide_false, Bool.true_xor]
            exact hQ
  · rintro _ ⟨hn, x2, x3, x4, x5, rfl⟩
    try simp only [dSeq, dNext, dSet, dVar, dC, dBin, dTest, dCall, dCons, dNil, dAnd, dOr, dNot, dIf, dIfS, dRet, dRetN, dDrop, dBreak, dCont, dAug, fAddA, dTup, dLst, dFrz, dListOf, dNeg, fNeg, dSl, dNoPart, dPart, fSl, dM1, dIsi, dIsi2, dAppend, dPop, dReverse, dSetAt, dAndV, dOrV, dNotV, dB, dFld, dFldSet, dFldAdd, dMeth, dFn, dMake, dAsg, dgName, dgTwo, dgTwoL, dgThree, iSeq, iRange1, iRange2, iRange3, dFor, dLc, dYes, dKs, dKPush, dKTop, dKPop, dKLen, dOut, dFz, frzSl, stkAt, ownAt, obAt, rd1, rdL, rdD, datas, seqv, seqvs, stSl, rvSl, RV.hold, fI, fLen, fInt, fStr, fTuple, fAdd, fMul, fEq, fIn, fIsN, fIx, fJoin, List.getElem?_cons_zero, List.getElem?_cons_succ, List.getElem?_nil, List.set_cons_zero, List.set_cons_succ, List.length_cons, List.length_nil, eq_self_iff_true, true_and, and_true, Option.some.injEq, exists_eq_left']
    rw [hn] at q
    exact ⟨by omega, q⟩
end
end K76

set_option maxRecDepth 100000
set_option maxHeartbeats 4000000
namespace K76
open PySem PySem.Spec PyProof.Rows L2 TL SkE DL
def stgS : Stg → List Nat
  | .th => (Str.ofString "thing").cps.toList
  | .fi => (Str.ofString "first").cps.toList
  | .mi => (Str.ofString "minus").cps.toList
  | .be => (Str.ofString "behind").cps.toList
theorem stgS_inj {a b : Stg} : stgS a = stgS b ↔ a = b := by
  have h : ∀ a b : Stg, decide (stgS a = stgS b) = decide (a = b) := by
    intro a b; cases a <;> cases b <;> decide +kernel
  have := h a b
  constructor
  · intro e; rw [decide_eq_true e] at this; exact of_decide_eq_true this.symm
  · rintro rfl; rfl
theorem s_th : (Str.ofString "thing").cps.toList = stgS .th := rfl
theorem s_fi : (Str.ofString "first").cps.toList = stgS .fi := rfl
theorem s_mi : (Str.ofString "minus").cps.toList = stgS .mi := rfl
theorem s_be : (Str.ofString "behind").cps.toList = stgS .be := rfl
theorem x45 : (Str.ofString "-").cps.toList = [45] := c_mi
theorem lex_lens : ∀ (n : Nat) (s : List Nat) (i : Nat), s.length ≤ n → ∀ q ∈ (lexR s i).1, q.1.length ≤ s.length
  | _, [], i, _, q, h => by rw [lexR] at h; cases h
  | 0, c :: r, i, hn, q, h => by simp at hn
  | n + 1, c :: r, i, hn, q, h => by
    have hn' : r.length ≤ n := by simpa using hn
    have hs : (c :: r).length = r.length + 1 := rfl
    rw [lexR] at h
    by_cases h0 : c = 32
    · rw [if_pos h0] at h; have := lex_lens n r _ hn' q h; omega
    rw [if_neg h0] at h
    by_cases h1 : c ∈ SGN
    · rw [if_pos h1] at h
      rcases List.mem_cons.mp h with rfl | h
      · simp
      · have := lex_lens n r _ hn' q h; omega
    rw [if_neg h1] at h
    by_cases h2 : c ∈ LET
    · rw [if_pos h2] at h
      rcases List.mem_cons.mp h with rfl | h
      · have := run_le r LET; simp; omega
      · have := lex_lens n _ _ (by simp; omega) q h
        simp at this; omega
    rw [if_neg h2] at h
    by_cases h3 : c ∈ DIG
    · rw [if_pos h3] at h
      by_cases h4 : c = 48 ∧ 0 < run r DIG
      · rw [if_pos h4] at h; cases h
      · rw [if_neg h4] at h
        rcases List.mem_cons.mp h with rfl | h
        · have := run_le r DIG; simp; omega
        · have := lex_lens n _ _ (by simp; omega) q h
          simp at this; omega
    · rw [if_neg h3] at h; cases h
section
variable {bad : Option Nat} {len d : Nat} {c p : Nat} {t : List Nat} {r : List (List Nat × Nat)} {st : Stg}
theorem hd_mem {l : List Nat} : ((c :: t).head? ∈ l.map some) ↔ c ∈ l := by simp
theorem flt_mi : flt bad len .mi d ((c :: t, p) :: r) = if c ∈ cd "123456789" then flt bad len .be d r else some p := by
  simp only [flt, hd_mem]
theorem flt_be : flt bad len .be d ((t, p) :: r) = if d = 0 then some p else if t = [44] then flt bad len .th d r else if t = [41] then flt bad len .be (d - 1) r else some p := rfl
theorem flt_ot (h1 : st ≠ .mi) (h2 : st ≠ .be) : flt bad len st d ((c :: t, p) :: r) = if c :: t = [40] then flt bad len .fi (d + 1) r else if c :: t = [41] then (if st = .fi then flt bad len .be (d - 1) r else some p)
      else if c :: t = [45] then flt bad len .mi d r else if c ∈ cd "+*/^;,:" then some p else flt bad len .be d r := by
  cases st with
  | mi => exact absurd rfl h1
  | be => exact absurd rfl h2
  | th => simp only [flt, hd_mem, reduceCtorEq, if_false]
  | fi => simp only [flt, hd_mem, if_true]
end
section
variable {P : Program} {w : World} {K : PySem.W.Frag} {mg : Str → Option Value} {base : Heap} {C_Line : Addr}
def S_pf : DL.Spec := fun args R _ => ∃ s : List Nat, args = [.dat (.str s)] ∧ s.length ≤ 2 ^ 23 ∧ R (.d (badD (outc s))) args
theorem ok_pf (T : TX K mg C_Line) : FnG P w K mg base "_law_paper_fault" 3 ["text"] S_pf := by
  obtain ⟨f, fd, F, hm, bn⟩ := T.f__law_paper_fault
  have g__law_tokens_of := ok_ltG (P := P) (w := w) (base := base) T
  refine fnG_of F hm bn sc__law_paper_fault (by rintro _ _ _ ⟨_, rfl, _⟩; rfl) (fun cdv A outer s H E g hr => ⟨_, (dss_cons (ds_asg (dq_fn g__law_tokens_of (hr.mono (by omega)) (da_cons (dv 0) da_nil)) (dg_twoL (i := 3) (j := 4) rfl sc__law_paper_fault.nd rfl (by first | exact Or.inl rfl | exact Or.inr rfl) rfl (by first | exact Or.inl rfl | exact Or.inr rfl)))
 (dss_cons (ds_set (i := 1) sc__law_paper_fault.nd rfl (by first | exact Or.inl rfl | exact Or.inr rfl) de_str)
 (dss_cons (ds_set (i := 2) sc__law_paper_fault.nd rfl (by first | exact Or.inl rfl | exact Or.inr rfl) de_int)
 (dss_cons (ds_for PassesOwn.never rfl (di_seq (dv 3)) (dg_twoL (i := 5) (j := 6) rfl sc__law_paper_fault.nd rfl (by first | exact Or.inl rfl | exact Or.inr rfl) rfl (by first | exact Or.inl rfl | exact Or.inr rfl))
 (dss_one (ds_if (dt_cmp (o_eq (by exact hr.units)) (dv 1) de_str)
 (dss_cons (ds_if (dt_cmp (o_nin) (de_ix (dv 5) de_int) de_str)
 (dss_one (ds_ret (dv 6)))
 dss_nil)
 (dss_one (ds_set (i := 1) sc__law_paper_fault.nd rfl (by first | exact Or.inl rfl | exact Or.inr rfl) de_str)))
 (dss_one (ds_if (dt_cmp (o_eq (by exact hr.units)) (dv 1) de_str)
 (dss_cons (ds_if (dt_w (dw_or (dt_cmp (o_eq (by exact hr.units)) (dv 2) de_int) (dw_or1 (dt_cmp (o_nin) (dv 5) (de_frz (de_lst (da_cons de_str (da_cons de_str da_nil))))))))
 (dss_one (ds_ret (dv 6)))
 dss_nil)
 (dss_cons (ds_set (i := 2) sc__law_paper_fault.nd rfl (by first | exact Or.inl rfl | exact Or.inr rfl) (de_op o_sub (dv 2) (de_callTy (c_int) rfl T.n_int boot_int (da_cons (de_cmp (o_eq (by exact hr.units)) (dv 5) de_str) da_nil))))
 (dss_one (ds_set (i := 1) sc__law_paper_fault.nd rfl (by first | exact Or.inl rfl | exact Or.inr rfl) (de_if (dt_cmp (o_eq (by exact hr.units)) (dv 5) de_str) de_str de_str)))))
 (dss_one (ds_if (dt_cmp (o_eq (by exact hr.units)) (dv 5) de_str)
 (dss_cons (ds_set (i := 2) sc__law_paper_fault.nd rfl (by first | exact Or.inl rfl | exact Or.inr rfl) (de_op o_add (dv 2) de_int))
 (dss_one (ds_set (i := 1) sc__law_paper_fault.nd rfl (by first | exact Or.inl rfl | exact Or.inr rfl) de_str)))
 (dss_one (ds_if (dt_cmp (o_eq (by exact hr.units)) (dv 5) de_str)
 (dss_cons (ds_if (dt_cmp (o_ne (by exact hr.units)) (dv 1) de_str)
 (dss_one (ds_ret (dv 6)))
 dss_nil)
 (dss_cons (ds_set (i := 2) sc__law_paper_fault.nd rfl (by first | exact Or.inl rfl | exact Or.inr rfl) (de_op o_sub (dv 2) de_int))
 (dss_one (ds_set (i := 1) sc__law_paper_fault.nd rfl (by first | exact Or.inl rfl | exact Or.inr rfl) de_str))))
 (dss_one (ds_if (dt_cmp (o_eq (by exact hr.units)) (dv 5) de_str)
 (dss_one (ds_set (i := 1) sc__law_paper_fault.nd rfl (by first | exact Or.inl rfl | exact Or.inr rfl) de_str))
 (dss_one (ds_if (dt_cmp (o_in) (de_ix (dv 5) de_int) de_str)
 (dss_one (ds_ret (dv 6)))
 (dss_one (ds_set (i := 1) sc__law_paper_fault.nd rfl (by first | exact Or.inl rfl | exact Or.inr rfl) de_str)))))))))))))))
 (dss_cons (ds_if (dt_cmp (o_notN) (dv 4) de_non)
 (dss_one (ds_ret (dv 4)))
 dss_nil)
 (dss_one (ds_ret (de_if (dt_w (dw_and (dt_cmp (o_eq (by exact hr.units)) (dv 1) de_str) (dw_and1 (dt_cmp (o_eq (by exact hr.units)) (dv 2) de_int)))) de_non (de_callB (c_len) rfl T.n_len boot_len (da_cons (dv 0) da_nil)))))))))), ?_⟩) (fun _ _ _ h => h)
  rintro args R ⟨text, rfl, hz, q⟩
  have h24 := sz24
  simp only [body0, List.length_cons, List.length_nil, List.replicate, Nat.reduceAdd, Nat.reduceSub, List.cons_append, List.nil_append]
  unfold outc at q
  have hok := lex_ok _ text 0 (Nat.le_refl _)
  have hlen := lexR_len _ text 0 (Nat.le_refl _)
  have hlens := lex_lens _ text 0 (Nat.le_refl _)
  generalize hL : (lexR text 0).1 = L at q hok hlen hlens
  generalize hBd : (lexR text 0).2 = bad at q
  refine seq_key (fun ρ' => ρ' = [.dat (.str text), .no, .no, .dat (.lst (L.map rowL)), .dat (badD bad), .no, .no]) (fun nx hnx => ?_) ?_
  · try simp only [dSeq, dNext, dSet, dVar, dC, dBin, dTest, dCall, dCons, dNil, dAnd, dOr, dNot, dIf, dIfS, dRet, dRetN, dDrop, dBreak, dCont, dAug, fAddA, dTup, dLst, dFrz, dListOf, dNeg, fNeg, dSl, dNoPart, dPart, fSl, dM1, dIsi, dIsi2, dAppend, dPop, dReverse, dSetAt, dAndV, dOrV, dNotV, dB, dFld, dFldSet, dFldAdd, dMeth, dFn, dMake, dAsg, dgName, dgTwo, dgTwoL, dgThree, iSeq, iRange1, iRange2, iRange3, dFor, dLc, dYes, dKs, dKPush, dKTop, dKPop, dKLen, dOut, dFz, frzSl, stkAt, ownAt, obAt, rd1, rdL, rdD, datas, seqv, seqvs, stSl, rvSl, RV.hold, fI, fLen, fInt, fStr, fTuple, fAdd, fMul, fEq, fIn, fIsN, fIx, fJoin, List.getElem?_cons_zero, List.getElem?_cons_succ, List.getElem?_nil, List.set_cons_zero, List.set_cons_succ, List.length_cons, List.length_nil, eq_self_iff_true, true_and, and_true, Option.some.injEq, exists_eq_left']
    refine ⟨List.nodup_nil, _, rfl, text, rfl, hz, ?_⟩
    rw [hL, hBd]
    simp only [wr, Sl.fl, Sl.mn, List.getD_cons_zero, List.getD_cons_succ, List.set_cons_zero, List.set_cons_succ]
    exact ⟨rfl, trivial, ⟨by simp, by simp⟩, hnx _ rfl⟩
  rintro _ rfl
  refine seq_key (fun ρ' => ρ' = [.dat (.str text), .dat (.str (stgS .th)), .no, .dat (.lst (L.map rowL)), .dat (badD bad), .no, .no]) (fun nx hnx => ⟨by simp, hnx _ rfl⟩) ?_
  rintro _ rfl
  refine seq_key (fun ρ' => ρ' = [.dat (.str text), .dat (.str (stgS .th)), .dat (.int ((0 : Nat) : Int)), .dat (.lst (L.map rowL)), .dat (badD bad), .no, .no]) (fun nx hnx => ⟨by simp, hnx _ rfl⟩) ?_
  rintro _ rfl
  refine seq_key (fun ρ' => ∃ (st : Stg) (d : Nat) (x5 x6 : Sl), ρ' = [.dat (.str text), .dat (.str (stgS st)), .dat (.int (d : Int)), .dat (.lst (L.map rowL)), .dat (badD bad), x5, x6] ∧ flt bad text.length st d [] = flt bad text.length .th 0 L) (fun nx hnx => ?_) ?_
  · try simp only [dSeq, dNext, dSet, dVar, dC, dBin, dTest, dCall, dCons, dNil, dAnd, dOr, dNot, dIf, dIfS, dRet, dRetN, dDrop, dBreak, dCont, dAug, fAddA, dTup, dLst, dFrz, dListOf, dNeg, fNeg, dSl, dNoPart, dPart, fSl, dM1, dIsi, dIsi2, dAppend, dPop, dReverse, dSetAt, dAndV, dOrV, dNotV, dB, dFld, dFldSet, dFldAdd, dMeth, dFn, dMake, dAsg, dgName, dgTwo, dgTwoL, dgThree, iSeq, iRange1, iRange2, iRange3, dFor, dLc, dYes, dKs, dKPush, dKTop, dKPop, dKLen, dOut, dFz, frzSl, stkAt, ownAt, obAt, rd1, rdL, rdD, datas, seqv, seqvs, stSl, rvSl, RV.hold, fI, fLen, fInt, fStr, fTuple, fAdd, fMul, fEq, fIn, fIsN, fIx, fJoin, List.getElem?_cons_zero, List.getElem?_cons_succ, List.getElem?_nil, List.set_cons_zero, List.set_cons_succ, List.length_cons, List.length_nil, eq_self_iff_true, true_and, and_true, Option.some.injEq, exists_eq_left']
    refine forGo (L.map rowL) (fun j ρ => ∃ (st : Stg) (d : Nat) (x5 x6 : Sl), ρ = [.dat (.str text), .dat (.str (stgS st)), .dat (.int (d : Int)), .dat (.lst (L.map rowL)), .dat (badD bad), x5, x6] ∧ flt bad text.length st d (L.drop j) = flt bad text.length .th 0 L ∧ (st = .fi → 0 < d))
      (fun j d ρ Kk hd ⟨st, d, x5, x6, hρ, h1, h2⟩ hK => ?step) (fun ρ ⟨st, d, x5, x6, hρ, h1, h2⟩ => ?fin) ⟨.th, 0, _, _, rfl, rfl, fun z => by cases z⟩
    case fin =>
      subst hρ
      rw [List.length_map, List.drop_length] at h1
      exact hnx _ ⟨st, d, x5, x6, rfl, h1⟩
    case step =>
      subst hρ
      rw [List.getElem?_map] at hd
      obtain ⟨⟨t, p⟩, hq, rfl⟩ := Option.map_eq_some_iff.mp hd
      have hj := (List.getElem?_eq_some_iff.mp hq).1
      have hLd : L.drop j = (t, p) :: L.drop (j + 1) := by rw [List.drop_eq_getElem_cons hj, (List.getElem?_eq_some_iff.mp hq).2]
      rw [hLd] at h1
      have ht : okT t := hok (t, p) (List.mem_of_getElem? hq)
      have hne : t ≠ [] := by
        rcases ht with ⟨c, _, h⟩ | ⟨h, _⟩ | ⟨h, _⟩
        · rw [h]; simp
        · exact h
        · exact h
      obtain ⟨c, t', rfl⟩ := List.exists_cons_of_ne_nil hne
      refine ⟨⟨by simp, by simp⟩, ?_⟩
      have back : ∀ (st' : Stg) (d' : Nat), flt bad text.length st' d' (L.drop (j + 1)) = flt bad text.length .th 0 L → (st' = .fi → 0 < d') → Kk [.dat (.str text), .dat (.str (stgS st')), .dat (.int (d' : Int)), .dat (.lst (L.map rowL)), .dat (badD bad), .dat (.str (c :: t')), .dat (.int (p : Int))] := fun st' d' e1 e2 => hK _ ⟨st', d', _, _, rfl, e1, e2⟩
      have badRet : ∀ (st' : Stg) (d' : Nat), flt bad text.length .th 0 L = some p → ∀ ψ : DEnds, ψ.rt = (endsOf 1 R).rt → dRet (dVar 6) ψ [.dat (.str text), .dat (.str (stgS st')), .dat (.int (d' : Int)), .dat (.lst (L.map rowL)), .dat (badD bad), .dat (.str (c :: t')), .dat (.int (p : Int))] := fun st' d' e1 ψ eψ => by
        rw [e1] at q
        try simp only [dSeq, dNext, dSet, dVar, dC, dBin, dTest, dCall, dCons, dNil, dAnd, dOr, dNot, dIf, dIfS, dRet, dRetN, dDrop, dBreak, dCont, dAug, fAddA, dTup, dLst, dFrz, dListOf, dNeg, fNeg, dSl, dNoPart, dPart, fSl, dM1, dIsi, dIsi2, dAppend, dPop, dReverse, dSetAt, dAndV, dOrV, dNotV, dB, dFld, dFldSet, dFldAdd, dMeth, dFn, dMake, dAsg, dgName, dgTwo, dgTwoL, dgThree, iSeq, iRange1, iRange2, iRange3, dFor, dLc, dYes, dKs, dKPush, dKTop, dKPop, dKLen, dOut, dFz, frzSl, stkAt, ownAt, obAt, rd1, rdL, rdD, datas, seqv, seqvs, stSl, rvSl, RV.hold, fI, fLen, fInt, fStr, fTuple, fAdd, fMul, fEq, fIn, fIsN, fIx, fJoin, List.getElem?_cons_zero, List.getElem?_cons_succ, List.getElem?_nil, List.set_cons_zero, List.set_cons_succ, List.length_cons, List.length_nil, eq_self_iff_true, true_and, and_true, Option.some.injEq, exists_eq_left']
        rw [eψ]
        exact q
      show dIfS _ _ _ _ [.dat (.str text), .dat (.str (stgS st)), .dat (.int (d : Int)), .dat (.lst (L.map rowL)), .dat (badD bad), .dat (.str (c :: t')), .dat (.int (p : Int))]
      have hix : atI (c :: t') 0 = some c := atI_nat (j := 0) rfl
      have hlt : t'.length + 1 ≤ sizeLine := by
        have := hlens _ (List.mem_of_getElem? hq)
        simp only [List.length_cons] at this
        omega
      by_cases hmi : st = .mi
      · subst hmi
        rw [flt_mi] at h1
        refine ifT (fun Q hQ => ?_) ?_
        · try simp only [dSeq, dNext, dSet, dVar, dC, dBin, dTest, dCall, dCons, dNil, dAnd, dOr, dNot, dIf, dIfS, dRet, dRetN, dDrop, dBreak, dCont, dAug, fAddA, dTup, dLst, dFrz, dListOf, dNeg, fNeg, dSl, dNoPart, dPart, fSl, dM1, dIsi, dIsi2, dAppend, dPop, dReverse, dSetAt, dAndV, dOrV, dNotV, dB, dFld, dFldSet, dFldAdd, dMeth, dFn, dMake, dAsg, dgName, dgTwo, dgTwoL, dgThree, iSeq, iRange1, iRange2, iRange3, dFor, dLc, dYes, dKs, dKPush, dKTop, dKPop, dKLen, dOut, dFz, frzSl, stkAt, ownAt, obAt, rd1, rdL, rdD, datas, seqv, seqvs, stSl, rvSl, RV.hold, fI, fLen, fInt, fStr, fTuple, fAdd, fMul, fEq, fIn, fIsN, fIx, fJoin, List.getElem?_cons_zero, List.getElem?_cons_succ, List.getElem?_nil, List.set_cons_zero, List.set_cons_succ, List.length_cons, List.length_nil, eq_self_iff_true, true_and, and_true, Option.some.injEq, exists_eq_left']
          simp only [s_mi, s_be, s_fi, s_th, stgS_inj, decide_true, Bool.false_xor]
          exact hQ
        by_cases hc : c ∈ cd "123456789"
        · rw [if_pos hc] at h1
          refine seq_key (fun ρ' => ρ' = [.dat (.str text), .dat (.str (stgS .mi)), .dat (.int (d : Int)), .dat (.lst (L.map rowL)), .dat (badD bad), .dat (.str (c :: t')), .dat (.int (p : Int))]) (fun nx2 hnx2 => ifF (fun Q hQ => ?_) (hnx2 _ rfl)) ?_
          · try simp only [dSeq, dNext, dSet, dVar, dC, dBin, dTest, dCall, dCons, dNil, dAnd, dOr, dNot, dIf, dIfS, dRet, dRetN, dDrop, dBreak, dCont, dAug, fAddA, dTup, dLst, dFrz, dListOf, dNeg, fNeg, dSl, dNoPart, dPart, fSl, dM1, dIsi, dIsi2, dAppend, dPop, dReverse, dSetAt, dAndV, dOrV, dNotV, dB, dFld, dFldSet, dFldAdd, dMeth, dFn, dMake, dAsg, dgName, dgTwo, dgTwoL, dgThree, iSeq, iRange1, iRange2, iRange3, dFor, dLc, dYes, dKs, dKPush, dKTop, dKPop, dKLen, dOut, dFz, frzSl, stkAt, ownAt, obAt, rd1, rdL, rdD, datas, seqv, seqvs, stSl, rvSl, RV.hold, fI, fLen, fInt, fStr, fTuple, fAdd, fMul, fEq, fIn, fIsN, fIx, fJoin, List.getElem?_cons_zero, List.getElem?_cons_succ, List.getElem?_nil, List.set_cons_zero, List.set_cons_succ, List.length_cons, List.length_nil, eq_self_iff_true, true_and, and_true, Option.some.injEq, exists_eq_left']
            refine ⟨hlt, c, hix, ?_⟩
            rw [show decide (c ∈ (Str.ofString "123456789").cps.toList) = true from decide_eq_true hc]
            exact hQ
          rintro _ rfl
          exact ⟨by simp, back .be d h1 (fun z => by cases z)⟩
        · rw [if_neg hc] at h1
          refine seq_key (fun _ => False) (fun nx2 hnx2 => ifT (fun Q hQ => ?_) (badRet .mi d h1.symm _ rfl)) (fun _ h => h.elim)
          try simp only [dSeq, dNext, dSet, dVar, dC, dBin, dTest, dCall, dCons, dNil, dAnd, dOr, dNot, dIf, dIfS, dRet, dRetN, dDrop, dBreak, dCont, dAug, fAddA, dTup, dLst, dFrz, dListOf, dNeg, fNeg, dSl, dNoPart, dPart, fSl, dM1, dIsi, dIsi2, dAppend, dPop, dReverse, dSetAt, dAndV, dOrV, dNotV, dB, dFld, dFldSet, dFldAdd, dMeth, dFn, dMake, dAsg, dgName, dgTwo, dgTwoL, dgThree, iSeq, iRange1, iRange2, iRange3, dFor, dLc, dYes, dKs, dKPush, dKTop, dKPop, dKLen, dOut, dFz, frzSl, stkAt, ownAt, obAt, rd1, rdL, rdD, datas, seqv, seqvs, stSl, rvSl, RV.hold, fI, fLen, fInt, fStr, fTuple, fAdd, fMul, fEq, fIn, fIsN, fIx, fJoin, List.getElem?_cons_zero, List.getElem?_cons_succ, List.getElem?_nil, List.set_cons_zero, List.set_cons_succ, List.length_cons, List.length_nil, eq_self_iff_true, true_and, and_true, Option.some.injEq, exists_eq_left']
          refine ⟨hlt, c, hix, ?_⟩
          rw [show decide (c ∈ (Str.ofString "123456789").cps.toList) = false from decide_eq_false hc]
          exact hQ
      refine ifF (fun Q hQ => ?_) ?_
      · try simp only [dSeq, dNext, dSet, dVar, dC, dBin, dTest, dCall, dCons, dNil, dAnd, dOr, dNot, dIf, dIfS, dRet, dRetN, dDrop, dBreak, dCont, dAug, fAddA, dTup, dLst, dFrz, dListOf, dNeg, fNeg, dSl, dNoPart, dPart, fSl, dM1, dIsi, dIsi2, dAppend, dPop, dReverse, dSetAt, dAndV, dOrV, dNotV, dB, dFld, dFldSet, dFldAdd, dMeth, dFn, dMake, dAsg, dgName, dgTwo, dgTwoL, dgThree, iSeq, iRange1, iRange2, iRange3, dFor, dLc, dYes, dKs, dKPush, dKTop, dKPop, dKLen, dOut, dFz, frzSl, stkAt, ownAt, obAt, rd1, rdL, rdD, datas, seqv, seqvs, stSl, rvSl, RV.hold, fI, fLen, fInt, fStr, fTuple, fAdd, fMul, fEq, fIn, fIsN, fIx, fJoin, List.getElem?_cons_zero, List.getElem?_cons_succ, List.getElem?_nil, List.set_cons_zero, List.set_cons_succ, List.length_cons, List.length_nil, eq_self_iff_true, true_and, and_true, Option.some.injEq, exists_eq_left']
        simp only [s_mi, stgS_inj, hmi, decide_false, Bool.false_xor]
        exact hQ
      by_cases hbe : st = .be
      · subst hbe
        rw [flt_be] at h1
        refine ifT (fun Q hQ => ?_) ?_
        · try simp only [dSeq, dNext, dSet, dVar, dC, dBin, dTest, dCall, dCons, dNil, dAnd, dOr, dNot, dIf, dIfS, dRet, dRetN, dDrop, dBreak, dCont, dAug, fAddA, dTup, dLst, dFrz, dListOf, dNeg, fNeg, dSl, dNoPart, dPart, fSl, dM1, dIsi, dIsi2, dAppend, dPop, dReverse, dSetAt, dAndV, dOrV, dNotV, dB, dFld, dFldSet, dFldAdd, dMeth, dFn, dMake, dAsg, dgName, dgTwo, dgTwoL, dgThree, iSeq, iRange1, iRange2, iRange3, dFor, dLc, dYes, dKs, dKPush, dKTop, dKPop, dKLen, dOut, dFz, frzSl, stkAt, ownAt, obAt, rd1, rdL, rdD, datas, seqv, seqvs, stSl, rvSl, RV.hold, fI, fLen, fInt, fStr, fTuple, fAdd, fMul, fEq, fIn, fIsN, fIx, fJoin, List.getElem?_cons_zero, List.getElem?_cons_succ, List.getElem?_nil, List.set_cons_zero, List.set_cons_succ, List.length_cons, List.length_nil, eq_self_iff_true, true_and, and_true, Option.some.injEq, exists_eq_left']
          simp only [s_be, stgS_inj, decide_true, Bool.false_xor]
          exact hQ
        have hz0 : decide ((d : Int) = 0) = decide (d = 0) := by simp
        by_cases hd0 : d = 0
        · rw [if_pos hd0] at h1
          refine seq_key (fun _ => False) (fun nx2 hnx2 => ifT (fun Q hQ => ?_) (badRet .be d h1.symm _ rfl)) (fun _ h => h.elim)
          try simp only [dSeq, dNext, dSet, dVar, dC, dBin, dTest, dCall, dCons, dNil, dAnd, dOr, dNot, dIf, dIfS, dRet, dRetN, dDrop, dBreak, dCont, dAug, fAddA, dTup, dLst, dFrz, dListOf, dNeg, fNeg, dSl, dNoPart, dPart, fSl, dM1, dIsi, dIsi2, dAppend, dPop, dReverse, dSetAt, dAndV, dOrV, dNotV, dB, dFld, dFldSet, dFldAdd, dMeth, dFn, dMake, dAsg, dgName, dgTwo, dgTwoL, dgThree, iSeq, iRange1, iRange2, iRange3, dFor, dLc, dYes, dKs, dKPush, dKTop, dKPop, dKLen, dOut, dFz, frzSl, stkAt, ownAt, obAt, rd1, rdL, rdD, datas, seqv, seqvs, stSl, rvSl, RV.hold, fI, fLen, fInt, fStr, fTuple, fAdd, fMul, fEq, fIn, fIsN, fIx, fJoin, List.getElem?_cons_zero, List.getElem?_cons_succ, List.getElem?_nil, List.set_cons_zero, List.set_cons_succ, List.length_cons, List.length_nil, eq_self_iff_true, true_and, and_true, Option.some.injEq, exists_eq_left']
          rw [hz0, decide_eq_true hd0]
          exact hQ
        rw [if_neg hd0] at h1
        have tst : ∀ {b : Bool} (_ : (true ^^ ([D.str [44], D.str [41]].any fun y => y.eqf (D.str (c :: t')))) = b) (Q : Bool → List Sl → Prop), Q b [.dat (.str text), .dat (.str (stgS .be)), .dat (.int (d : Int)), .dat (.lst (L.map rowL)), .dat (badD bad), .dat (.str (c :: t')), .dat (.int (p : Int))] → dOr (dTest (dBin (fEq false) (dVar 2) (dC (D.int 0)))) (dTest (dBin (fIn true) (dVar 5) (dFrz (dLst (dCons (dC (D.str (Str.ofString ",").cps.toList)) (dCons (dC (D.str (Str.ofString ")").cps.toList)) dNil)))))) [.dat (.str text), .dat (.str (stgS .be)), .dat (.int (d : Int)), .dat (.lst (L.map rowL)), .dat (badD bad), .dat (.str (c :: t')), .dat (.int (p : Int))] Q := fun {b} hb Q hQ => by
          try simp only [dSeq, dNext, dSet, dVar, dC, dBin, dTest, dCall, dCons, dNil, dAnd, dOr, dNot, dIf, dIfS, dRet, dRetN, dDrop, dBreak, dCont, dAug, fAddA, dTup, dLst, dFrz, dListOf, dNeg, fNeg, dSl, dNoPart, dPart, fSl, dM1, dIsi, dIsi2, dAppend, dPop, dReverse, dSetAt, dAndV, dOrV, dNotV, dB, dFld, dFldSet, dFldAdd, dMeth, dFn, dMake, dAsg, dgName, dgTwo, dgTwoL, dgThree, iSeq, iRange1, iRange2, iRange3, dFor, dLc, dYes, dKs, dKPush, dKTop, dKPop, dKLen, dOut, dFz, frzSl, stkAt, ownAt, obAt, rd1, rdL, rdD, datas, seqv, seqvs, stSl, rvSl, RV.hold, fI, fLen, fInt, fStr, fTuple, fAdd, fMul, fEq, fIn, fIsN, fIx, fJoin, List.getElem?_cons_zero, List.getElem?_cons_succ, List.getElem?_nil, List.set_cons_zero, List.set_cons_succ, List.length_cons, List.length_nil, eq_self_iff_true, true_and, and_true, Option.some.injEq, exists_eq_left']
          rw [hz0, decide_eq_false hd0, x44, x41, hb]
          exact ⟨by omega, rfl, rfl, hQ⟩
        by_cases h44 : c :: t' = [44]
        · rw [if_pos h44] at h1
          rw [h44] at tst back ⊢
          refine seq_key (fun ρ' => ρ' = [.dat (.str text), .dat (.str (stgS .be)), .dat (.int (d : Int)), .dat (.lst (L.map rowL)), .dat (badD bad), .dat (.str [44]), .dat (.int (p : Int))]) (fun nx2 hnx2 => ifF (tst (by decide)) (hnx2 _ rfl)) ?_
          rintro _ rfl
          refine seq_key (fun ρ' => ρ' = [.dat (.str text), .dat (.str (stgS .be)), .dat (.int (d : Int)), .dat (.lst (L.map rowL)), .dat (badD bad), .dat (.str [44]), .dat (.int (p : Int))]) (fun nx2 hnx2 => ?_) ?_
          · try simp only [dSeq, dNext, dSet, dVar, dC, dBin, dTest, dCall, dCons, dNil, dAnd, dOr, dNot, dIf, dIfS, dRet, dRetN, dDrop, dBreak, dCont, dAug, fAddA, dTup, dLst, dFrz, dListOf, dNeg, fNeg, dSl, dNoPart, dPart, fSl, dM1, dIsi, dIsi2, dAppend, dPop, dReverse, dSetAt, dAndV, dOrV, dNotV, dB, dFld, dFldSet, dFldAdd, dMeth, dFn, dMake, dAsg, dgName, dgTwo, dgTwoL, dgThree, iSeq, iRange1, iRange2, iRange3, dFor, dLc, dYes, dKs, dKPush, dKTop, dKPop, dKLen, dOut, dFz, frzSl, stkAt, ownAt, obAt, rd1, rdL, rdD, datas, seqv, seqvs, stSl, rvSl, RV.hold, fI, fLen, fInt, fStr, fTuple, fAdd, fMul, fEq, fIn, fIsN, fIx, fJoin, List.getElem?_cons_zero, List.getElem?_cons_succ, List.getElem?_nil, List.set_cons_zero, List.set_cons_succ, List.length_cons, List.length_nil, eq_self_iff_true, true_and, and_true, Option.some.injEq, exists_eq_left']
            rw [x41]
            refine ⟨by simp, hnx2 _ ?_⟩
            simp
          rintro _ rfl
          try simp only [dSeq, dNext, dSet, dVar, dC, dBin, dTest, dCall, dCons, dNil, dAnd, dOr, dNot, dIf, dIfS, dRet, dRetN, dDrop, dBreak, dCont, dAug, fAddA, dTup, dLst, dFrz, dListOf, dNeg, fNeg, dSl, dNoPart, dPart, fSl, dM1, dIsi, dIsi2, dAppend, dPop, dReverse, dSetAt, dAndV, dOrV, dNotV, dB, dFld, dFldSet, dFldAdd, dMeth, dFn, dMake, dAsg, dgName, dgTwo, dgTwoL, dgThree, iSeq, iRange1, iRange2, iRange3, dFor, dLc, dYes, dKs, dKPush, dKTop, dKPop, dKLen, dOut, dFz, frzSl, stkAt, ownAt, obAt, rd1, rdL, rdD, datas, seqv, seqvs, stSl, rvSl, RV.hold, fI, fLen, fInt, fStr, fTuple, fAdd, fMul, fEq, fIn, fIsN, fIx, fJoin, List.getElem?_cons_zero, List.getElem?_cons_succ, List.getElem?_nil, List.set_cons_zero, List.set_cons_succ, List.length_cons, List.length_nil, eq_self_iff_true, true_and, and_true, Option.some.injEq, exists_eq_left']
          rw [x44]
          simp only [decide_true, Bool.false_xor, if_true]
          exact ⟨by simp, back .th d h1 (fun z => by cases z)⟩
        rw [if_neg h44] at h1
        by_cases h41 : c :: t' = [41]
        · rw [if_pos h41] at h1
          rw [h41] at tst back ⊢
          refine seq_key (fun ρ' => ρ' = [.dat (.str text), .dat (.str (stgS .be)), .dat (.int (d : Int)), .dat (.lst (L.map rowL)), .dat (badD bad), .dat (.str [41]), .dat (.int (p : Int))]) (fun nx2 hnx2 => ifF (tst (by decide)) (hnx2 _ rfl)) ?_
          rintro _ rfl
          refine seq_key (fun ρ' => ρ' = [.dat (.str text), .dat (.str (stgS .be)), .dat (.int ((d - 1 : Nat) : Int)), .dat (.lst (L.map rowL)), .dat (badD bad), .dat (.str [41]), .dat (.int (p : Int))]) (fun nx2 hnx2 => ?_) ?_
          · try simp only [dSeq, dNext, dSet, dVar, dC, dBin, dTest, dCall, dCons, dNil, dAnd, dOr, dNot, dIf, dIfS, dRet, dRetN, dDrop, dBreak, dCont, dAug, fAddA, dTup, dLst, dFrz, dListOf, dNeg, fNeg, dSl, dNoPart, dPart, fSl, dM1, dIsi, dIsi2, dAppend, dPop, dReverse, dSetAt, dAndV, dOrV, dNotV, dB, dFld, dFldSet, dFldAdd, dMeth, dFn, dMake, dAsg, dgName, dgTwo, dgTwoL, dgThree, iSeq, iRange1, iRange2, iRange3, dFor, dLc, dYes, dKs, dKPush, dKTop, dKPop, dKLen, dOut, dFz, frzSl, stkAt, ownAt, obAt, rd1, rdL, rdD, datas, seqv, seqvs, stSl, rvSl, RV.hold, fI, fLen, fInt, fStr, fTuple, fAdd, fMul, fEq, fIn, fIsN, fIx, fJoin, List.getElem?_cons_zero, List.getElem?_cons_succ, List.getElem?_nil, List.set_cons_zero, List.set_cons_succ, List.length_cons, List.length_nil, eq_self_iff_true, true_and, and_true, Option.some.injEq, exists_eq_left']
            rw [x41]
            refine ⟨by simp, hnx2 _ ?_⟩
            simp
            omega
          rintro _ rfl
          try simp only [dSeq, dNext, dSet, dVar, dC, dBin, dTest, dCall, dCons, dNil, dAnd, dOr, dNot, dIf, dIfS, dRet, dRetN, dDrop, dBreak, dCont, dAug, fAddA, dTup, dLst, dFrz, dListOf, dNeg, fNeg, dSl, dNoPart, dPart, fSl, dM1, dIsi, dIsi2, dAppend, dPop, dReverse, dSetAt, dAndV, dOrV, dNotV, dB, dFld, dFldSet, dFldAdd, dMeth, dFn, dMake, dAsg, dgName, dgTwo, dgTwoL, dgThree, iSeq, iRange1, iRange2, iRange3, dFor, dLc, dYes, dKs, dKPush, dKTop, dKPop, dKLen, dOut, dFz, frzSl, stkAt, ownAt, obAt, rd1, rdL, rdD, datas, seqv, seqvs, stSl, rvSl, RV.hold, fI, fLen, fInt, fStr, fTuple, fAdd, fMul, fEq, fIn, fIsN, fIx, fJoin, List.getElem?_cons_zero, List.getElem?_cons_succ, List.getElem?_nil, List.set_cons_zero, List.set_cons_succ, List.length_cons, List.length_nil, eq_self_iff_true, true_and, and_true, Option.some.injEq, exists_eq_left']
          rw [x44]
          exact ⟨by simp, back .be (d - 1) h1 (fun z => by cases z)⟩
        · rw [if_neg h41] at h1
          refine seq_key (fun _ => False) (fun nx2 hnx2 => ifT (tst ?_) (badRet .be d h1.symm _ rfl)) (fun _ h => h.elim)
          simp only [List.any_cons, List.any_nil, D.eqf]
          rw [decide_eq_false (fun z => h44 z.symm), decide_eq_false (fun z => h41 z.symm)]
          rfl
      refine ifF (fun Q hQ => ?_) ?_
      · try simp only [dSeq, dNext, dSet, dVar, dC, dBin, dTest, dCall, dCons, dNil, dAnd, dOr, dNot, dIf, dIfS, dRet, dRetN, dDrop, dBreak, dCont, dAug, fAddA, dTup, dLst, dFrz, dListOf, dNeg, fNeg, dSl, dNoPart, dPart, fSl, dM1, dIsi, dIsi2, dAppend, dPop, dReverse, dSetAt, dAndV, dOrV, dNotV, dB, dFld, dFldSet, dFldAdd, dMeth, dFn, dMake, dAsg, dgName, dgTwo, dgTwoL, dgThree, iSeq, iRange1, iRange2, iRange3, dFor, dLc, dYes, dKs, dKPush, dKTop, dKPop, dKLen, dOut, dFz, frzSl, stkAt, ownAt, obAt, rd1, rdL, rdD, datas, seqv, seqvs, stSl, rvSl, RV.hold, fI, fLen, fInt, fStr, fTuple, fAdd, fMul, fEq, fIn, fIsN, fIx, fJoin, List.getElem?_cons_zero, List.getElem?_cons_succ, List.getElem?_nil, List.set_cons_zero, List.set_cons_succ, List.length_cons, List.length_nil, eq_self_iff_true, true_and, and_true, Option.some.injEq, exists_eq_left']
        simp only [s_be, stgS_inj, hbe, decide_false, Bool.false_xor]
        exact hQ
      rw [flt_ot hmi hbe] at h1
      by_cases h40 : c :: t' = [40]
      · rw [if_pos h40] at h1
        refine ifT (fun Q hQ => ?_) ?_
        · try simp only [dSeq, dNext, dSet, dVar, dC, dBin, dTest, dCall, dCons, dNil, dAnd, dOr, dNot, dIf, dIfS, dRet, dRetN, dDrop, dBreak, dCont, dAug, fAddA, dTup, dLst, dFrz, dListOf, dNeg, fNeg, dSl, dNoPart, dPart, fSl, dM1, dIsi, dIsi2, dAppend, dPop, dReverse, dSetAt, dAndV, dOrV, dNotV, dB, dFld, dFldSet, dFldAdd, dMeth, dFn, dMake, dAsg, dgName, dgTwo, dgTwoL, dgThree, iSeq, iRange1, iRange2, iRange3, dFor, dLc, dYes, dKs, dKPush, dKTop, dKPop, dKLen, dOut, dFz, frzSl, stkAt, ownAt, obAt, rd1, rdL, rdD, datas, seqv, seqvs, stSl, rvSl, RV.hold, fI, fLen, fInt, fStr, fTuple, fAdd, fMul, fEq, fIn, fIsN, fIx, fJoin, List.getElem?_cons_zero, List.getElem?_cons_succ, List.getElem?_nil, List.set_cons_zero, List.set_cons_succ, List.length_cons, List.length_nil, eq_self_iff_true, true_and, and_true, Option.some.injEq, exists_eq_left']
          rw [x40, decide_eq_true h40]
          exact hQ
        refine seq_key (fun ρ' => ρ' = [.dat (.str text), .dat (.str (stgS st)), .dat (.int ((d + 1 : Nat) : Int)), .dat (.lst (L.map rowL)), .dat (badD bad), .dat (.str (c :: t')), .dat (.int (p : Int))]) (fun nx2 hnx2 => ⟨by simp, hnx2 _ rfl⟩) ?_
        rintro _ rfl
        exact ⟨by simp, back .fi (d + 1) h1 (fun _ => by omega)⟩
      rw [if_neg h40] at h1
      refine ifF (fun Q hQ => ?_) ?_
      · try simp only [dSeq, dNext, dSet, dVar, dC, dBin, dTest, dCall, dCons, dNil, dAnd, dOr, dNot, dIf, dIfS, dRet, dRetN, dDrop, dBreak, dCont, dAug, fAddA, dTup, dLst, dFrz, dListOf, dNeg, fNeg, dSl, dNoPart, dPart, fSl, dM1, dIsi, dIsi2, dAppend, dPop, dReverse, dSetAt, dAndV, dOrV, dNotV, dB, dFld, dFldSet, dFldAdd, dMeth, dFn, dMake, dAsg, dgName, dgTwo, dgTwoL, dgThree, iSeq, iRange1, iRange2, iRange3, dFor, dLc, dYes, dKs, dKPush, dKTop, dKPop, dKLen, dOut, dFz, frzSl, stkAt, ownAt, obAt, rd1, rdL, rdD, datas, seqv, seqvs, stSl, rvSl, RV.hold, fI, fLen, fInt, fStr, fTuple, fAdd, fMul, fEq, fIn, fIsN, fIx, fJoin, List.getElem?_cons_zero, List.getElem?_cons_succ, List.getElem?_nil, List.set_cons_zero, List.set_cons_succ, List.length_cons, List.length_nil, eq_self_iff_true, true_and, and_true, Option.some.injEq, exists_eq_left']
        rw [x40, decide_eq_false h40]
        exact hQ
      by_cases h41 : c :: t' = [41]
      · rw [if_pos h41] at h1
        refine ifT (fun Q hQ => ?_) ?_
        · try simp only [dSeq, dNext, dSet, dVar, dC, dBin, dTest, dCall, dCons, dNil, dAnd, dOr, dNot, dIf, dIfS, dRet, dRetN, dDrop, dBreak, dCont, dAug, fAddA, dTup, dLst, dFrz, dListOf, dNeg, fNeg, dSl, dNoPart, dPart, fSl, dM1, dIsi, dIsi2, dAppend, dPop, dReverse, dSetAt, dAndV, dOrV, dNotV, dB, dFld, dFldSet, dFldAdd, dMeth, dFn, dMake, dAsg, dgName, dgTwo, dgTwoL, dgThree, iSeq, iRange1, iRange2, iRange3, dFor, dLc, dYes, dKs, dKPush, dKTop, dKPop, dKLen, dOut, dFz, frzSl, stkAt, ownAt, obAt, rd1, rdL, rdD, datas, seqv, seqvs, stSl, rvSl, RV.hold, fI, fLen, fInt, fStr, fTuple, fAdd, fMul, fEq, fIn, fIsN, fIx, fJoin, List.getElem?_cons_zero, List.getElem?_cons_succ, List.getElem?_nil, List.set_cons_zero, List.set_cons_succ, List.length_cons, List.length_nil, eq_self_iff_true, true_and, and_true, Option.some.injEq, exists_eq_left']
          rw [x41, decide_eq_true h41]
          exact hQ
        by_cases hfi : st = .fi
        · rw [if_pos hfi] at h1
          have hd1 := h2 hfi
          refine seq_key (fun ρ' => ρ' = [.dat (.str text), .dat (.str (stgS st)), .dat (.int (d : Int)), .dat (.lst (L.map rowL)), .dat (badD bad), .dat (.str (c :: t')), .dat (.int (p : Int))]) (fun nx2 hnx2 => ifF (fun Q hQ => ?_) (hnx2 _ rfl)) ?_
          · try simp only [dSeq, dNext, dSet, dVar, dC, dBin, dTest, dCall, dCons, dNil, dAnd, dOr, dNot, dIf, dIfS, dRet, dRetN, dDrop, dBreak, dCont, dAug, fAddA, dTup, dLst, dFrz, dListOf, dNeg, fNeg, dSl, dNoPart, dPart, fSl, dM1, dIsi, dIsi2, dAppend, dPop, dReverse, dSetAt, dAndV, dOrV, dNotV, dB, dFld, dFldSet, dFldAdd, dMeth, dFn, dMake, dAsg, dgName, dgTwo, dgTwoL, dgThree, iSeq, iRange1, iRange2, iRange3, dFor, dLc, dYes, dKs, dKPush, dKTop, dKPop, dKLen, dOut, dFz, frzSl, stkAt, ownAt, obAt, rd1, rdL, rdD, datas, seqv, seqvs, stSl, rvSl, RV.hold, fI, fLen, fInt, fStr, fTuple, fAdd, fMul, fEq, fIn, fIsN, fIx, fJoin, List.getElem?_cons_zero, List.getElem?_cons_succ, List.getElem?_nil, List.set_cons_zero, List.set_cons_succ, List.length_cons, List.length_nil, eq_self_iff_true, true_and, and_true, Option.some.injEq, exists_eq_left']
            simp only [s_fi, stgS_inj, hfi, decide_true, Bool.true_xor, Bool.not_true] at hQ ⊢
            exact hQ
          rintro _ rfl
          refine seq_key (fun ρ' => ρ' = [.dat (.str text), .dat (.str (stgS st)), .dat (.int ((d - 1 : Nat) : Int)), .dat (.lst (L.map rowL)), .dat (badD bad), .dat (.str (c :: t')), .dat (.int (p : Int))]) (fun nx2 hnx2 => ?_) ?_
          · try simp only [dSeq, dNext, dSet, dVar, dC, dBin, dTest, dCall, dCons, dNil, dAnd, dOr, dNot, dIf, dIfS, dRet, dRetN, dDrop, dBreak, dCont, dAug, fAddA, dTup, dLst, dFrz, dListOf, dNeg, fNeg, dSl, dNoPart, dPart, fSl, dM1, dIsi, dIsi2, dAppend, dPop, dReverse, dSetAt, dAndV, dOrV, dNotV, dB, dFld, dFldSet, dFldAdd, dMeth, dFn, dMake, dAsg, dgName, dgTwo, dgTwoL, dgThree, iSeq, iRange1, iRange2, iRange3, dFor, dLc, dYes, dKs, dKPush, dKTop, dKPop, dKLen, dOut, dFz, frzSl, stkAt, ownAt, obAt, rd1, rdL, rdD, datas, seqv, seqvs, stSl, rvSl, RV.hold, fI, fLen, fInt, fStr, fTuple, fAdd, fMul, fEq, fIn, fIsN, fIx, fJoin, List.getElem?_cons_zero, List.getElem?_cons_succ, List.getElem?_nil, List.set_cons_zero, List.set_cons_succ, List.length_cons, List.length_nil, eq_self_iff_true, true_and, and_true, Option.some.injEq, exists_eq_left']
            rw [show ((d : Int) - 1) = ((d - 1 : Nat) : Int) by omega]
            exact ⟨by simp, hnx2 _ rfl⟩
          rintro _ rfl
          exact ⟨by simp, back .be (d - 1) h1 (fun z => by cases z)⟩
        · rw [if_neg hfi] at h1
          refine seq_key (fun _ => False) (fun nx2 hnx2 => ifT (fun Q hQ => ?_) (badRet st d h1.symm _ rfl)) (fun _ h => h.elim)
          try simp only [dSeq, dNext, dSet, dVar, dC, dBin, dTest, dCall, dCons, dNil, dAnd, dOr, dNot, dIf, dIfS, dRet, dRetN, dDrop, dBreak, dCont, dAug, fAddA, dTup, dLst, dFrz, dListOf, dNeg, fNeg, dSl, dNoPart, dPart, fSl, dM1, dIsi, dIsi2, dAppend, dPop, dReverse, dSetAt, dAndV, dOrV, dNotV, dB, dFld, dFldSet, dFldAdd, dMeth, dFn, dMake, dAsg, dgName, dgTwo, dgTwoL, dgThree, iSeq, iRange1, iRange2, iRange3, dFor, dLc, dYes, dKs, dKPush, dKTop, dKPop, dKLen, dOut, dFz, frzSl, stkAt, ownAt, obAt, rd1, rdL, rdD, datas, seqv, seqvs, stSl, rvSl, RV.hold, fI, fLen, fInt, fStr, fTuple, fAdd, fMul, fEq, fIn, fIsN, fIx, fJoin, List.getElem?_cons_zero, List.getElem?_cons_succ, List.getElem?_nil, List.set_cons_zero, List.set_cons_succ, List.length_cons, List.length_nil, eq_self_iff_true, true_and, and_true, Option.some.injEq, exists_eq_left']
          simp only [s_fi, stgS_inj, hfi, decide_false, Bool.true_xor, Bool.not_false]
          exact hQ
      rw [if_neg h41] at h1
      refine ifF (fun Q hQ => ?_) ?_
      · try simp only [dSeq, dNext, dSet, dVar, dC, dBin, dTest, dCall, dCons, dNil, dAnd, dOr, dNot, dIf, dIfS, dRet, dRetN, dDrop, dBreak, dCont, dAug, fAddA, dTup, dLst, dFrz, dListOf, dNeg, fNeg, dSl, dNoPart, dPart, fSl, dM1, dIsi, dIsi2, dAppend, dPop, dReverse, dSetAt, dAndV, dOrV, dNotV, dB, dFld, dFldSet, dFldAdd, dMeth, dFn, dMake, dAsg, dgName, dgTwo, dgTwoL, dgThree, iSeq, iRange1, iRange2, iRange3, dFor, dLc, dYes, dKs, dKPush, dKTop, dKPop, dKLen, dOut, dFz, frzSl, stkAt, ownAt, obAt, rd1, rdL, rdD, datas, seqv, seqvs, stSl, rvSl, RV.hold, fI, fLen, fInt, fStr, fTuple, fAdd, fMul, fEq, fIn, fIsN, fIx, fJoin, List.getElem?_cons_zero, List.getElem?_cons_succ, List.getElem?_nil, List.set_cons_zero, List.set_cons_succ, List.length_cons, List.length_nil, eq_self_iff_true, true_and, and_true, Option.some.injEq, exists_eq_left']
        rw [x41, decide_eq_false h41]
        exact hQ
      by_cases h45 : c :: t' = [45]
      · rw [if_pos h45] at h1
        refine ifT (fun Q hQ => ?_) ?_
        · try simp only [dSeq, dNext, dSet, dVar, dC, dBin, dTest, dCall, dCons, dNil, dAnd, dOr, dNot, dIf, dIfS, dRet, dRetN, dDrop, dBreak, dCont, dAug, fAddA, dTup, dLst, dFrz, dListOf, dNeg, fNeg, dSl, dNoPart, dPart, fSl, dM1, dIsi, dIsi2, dAppend, dPop, dReverse, dSetAt, dAndV, dOrV, dNotV, dB, dFld, dFldSet, dFldAdd, dMeth, dFn, dMake, dAsg, dgName, dgTwo, dgTwoL, dgThree, iSeq, iRange1, iRange2, iRange3, dFor, dLc, dYes, dKs, dKPush, dKTop, dKPop, dKLen, dOut, dFz, frzSl, stkAt, ownAt, obAt, rd1, rdL, rdD, datas, seqv, seqvs, stSl, rvSl, RV.hold, fI, fLen, fInt, fStr, fTuple, fAdd, fMul, fEq, fIn, fIsN, fIx, fJoin, List.getElem?_cons_zero, List.getElem?_cons_succ, List.getElem?_nil, List.set_cons_zero, List.set_cons_succ, List.length_cons, List.length_nil, eq_self_iff_true, true_and, and_true, Option.some.injEq, exists_eq_left']
          rw [x45, decide_eq_true h45]
          exact hQ
        exact ⟨by simp, back .mi d h1 (fun z => by cases z)⟩
      rw [if_neg h45] at h1
      refine ifF (fun Q hQ => ?_) ?_
      · try simp only [dSeq, dNext, dSet, dVar, dC, dBin, dTest, dCall, dCons, dNil, dAnd, dOr, dNot, dIf, dIfS, dRet, dRetN, dDrop, dBreak, dCont, dAug, fAddA, dTup, dLst, dFrz, dListOf, dNeg, fNeg, dSl, dNoPart, dPart, fSl, dM1, dIsi, dIsi2, dAppend, dPop, dReverse, dSetAt, dAndV, dOrV, dNotV, dB, dFld, dFldSet, dFldAdd, dMeth, dFn, dMake, dAsg, dgName, dgTwo, dgTwoL, dgThree, iSeq, iRange1, iRange2, iRange3, dFor, dLc, dYes, dKs, dKPush, dKTop, dKPop, dKLen, dOut, dFz, frzSl, stkAt, ownAt, obAt, rd1, rdL, rdD, datas, seqv, seqvs, stSl, rvSl, RV.hold, fI, fLen, fInt, fStr, fTuple, fAdd, fMul, fEq, fIn, fIsN, fIx, fJoin, List.getElem?_cons_zero, List.getElem?_cons_succ, List.getElem?_nil, List.set_cons_zero, List.set_cons_succ, List.length_cons, List.length_nil, eq_self_iff_true, true_and, and_true, Option.some.injEq, exists_eq_left']
        rw [x45, decide_eq_false h45]
        exact hQ
      by_cases hc : c ∈ cd "+*/^;,:"
      · rw [if_pos hc] at h1
        refine ifT (fun Q hQ => ?_) (badRet st d h1.symm _ rfl)
        try simp only [dSeq, dNext, dSet, dVar, dC, dBin, dTest, dCall, dCons, dNil, dAnd, dOr, dNot, dIf, dIfS, dRet, dRetN, dDrop, dBreak, dCont, dAug, fAddA, dTup, dLst, dFrz, dListOf, dNeg, fNeg, dSl, dNoPart, dPart, fSl, dM1, dIsi, dIsi2, dAppend, dPop, dReverse, dSetAt, dAndV, dOrV, dNotV, dB, dFld, dFldSet, dFldAdd, dMeth, dFn, dMake, dAsg, dgName, dgTwo, dgTwoL, dgThree, iSeq, iRange1, iRange2, iRange3, dFor, dLc, dYes, dKs, dKPush, dKTop, dKPop, dKLen, dOut, dFz, frzSl, stkAt, ownAt, obAt, rd1, rdL, rdD, datas, seqv, seqvs, stSl, rvSl, RV.hold, fI, fLen, fInt, fStr, fTuple, fAdd, fMul, fEq, fIn, fIsN, fIx, fJoin, List.getElem?_cons_zero, List.getElem?_cons_succ, List.getElem?_nil, List.set_cons_zero, List.set_cons_succ, List.length_cons, List.length_nil, eq_self_iff_true, true_and, and_true, Option.some.injEq, exists_eq_left']
        refine ⟨hlt, c, hix, ?_⟩
        rw [show decide (c ∈ (Str.ofString "+*/^;,:").cps.toList) = true from decide_eq_true hc]
        exact hQ
      · rw [if_neg hc] at h1
        refine ifF (fun Q hQ => ?_) ⟨by simp, back .be d h1 (fun z => by cases z)⟩
        try simp only [dSeq, dNext, dSet, dVar, dC, dBin, dTest, dCall, dCons, dNil, dAnd, dOr, dNot, dIf, dIfS, dRet, dRetN, dDrop, dBreak, dCont, dAug, fAddA, dTup, dLst, dFrz, dListOf, dNeg, fNeg, dSl, dNoPart, dPart, fSl, dM1, dIsi, dIsi2, dAppend, dPop, dReverse, dSetAt, dAndV, dOrV, dNotV, dB, dFld, dFldSet, dFldAdd, dMeth, dFn, dMake, dAsg, dgName, dgTwo, dgTwoL, dgThree, iSeq, iRange1, iRange2, iRange3, dFor, dLc, dYes, dKs, dKPush, dKTop, dKPop, dKLen, dOut, dFz, frzSl, stkAt, ownAt, obAt, rd1, rdL, rdD, datas, seqv, seqvs, stSl, rvSl, RV.hold, fI, fLen, fInt, fStr, fTuple, fAdd, fMul, fEq, fIn, fIsN, fIx, fJoin, List.getElem?_cons_zero, List.getElem?_cons_succ, List.getElem?_nil, List.set_cons_zero, List.set_cons_succ, List.length_cons, List.length_nil, eq_self_iff_true, true_and, and_true, Option.some.injEq, exists_eq_left']
        refine ⟨hlt, c, hix, ?_⟩
        rw [show decide (c ∈ (Str.ofString "+*/^;,:").cps.toList) = false from decide_eq_false hc]
        exact hQ
  · rintro _ ⟨st, d, x5, x6, rfl, h1⟩
    rw [← h1] at q
    have hf : flt bad text.length st d [] = if st = .be ∧ d = 0 ∧ bad = none then none else some (fin bad text.length) := by cases st <;> rfl
    rw [hf] at q
    have hz0 : decide ((d : Int) = 0) = decide (d = 0) := by simp
    cases bad with
    | some b =>
      rw [if_neg (fun z => by cases z.2.2)] at q
      refine seq_key (fun _ => False) (fun nx2 hnx2 => ifT (fun Q hQ => ?_) ?_) (fun _ h => h.elim)
      · try simp only [dSeq, dNext, dSet, dVar, dC, dBin, dTest, dCall, dCons, dNil, dAnd, dOr, dNot, dIf, dIfS, dRet, dRetN, dDrop, dBreak, dCont, dAug, fAddA, dTup, dLst, dFrz, dListOf, dNeg, fNeg, dSl, dNoPart, dPart, fSl, dM1, dIsi, dIsi2, dAppend, dPop, dReverse, dSetAt, dAndV, dOrV, dNotV, dB, dFld, dFldSet, dFldAdd, dMeth, dFn, dMake, dAsg, dgName, dgTwo, dgTwoL, dgThree, iSeq, iRange1, iRange2, iRange3, dFor, dLc, dYes, dKs, dKPush, dKTop, dKPop, dKLen, dOut, dFz, frzSl, stkAt, ownAt, obAt, rd1, rdL, rdD, datas, seqv, seqvs, stSl, rvSl, RV.hold, fI, fLen, fInt, fStr, fTuple, fAdd, fMul, fEq, fIn, fIsN, fIx, fJoin, List.getElem?_cons_zero, List.getElem?_cons_succ, List.getElem?_nil, List.set_cons_zero, List.set_cons_succ, List.length_cons, List.length_nil, eq_self_iff_true, true_and, and_true, Option.some.injEq, exists_eq_left']
        exact hQ
      · try simp only [dSeq, dNext, dSet, dVar, dC, dBin, dTest, dCall, dCons, dNil, dAnd, dOr, dNot, dIf, dIfS, dRet, dRetN, dDrop, dBreak, dCont, dAug, fAddA, dTup, dLst, dFrz, dListOf, dNeg, fNeg, dSl, dNoPart, dPart, fSl, dM1, dIsi, dIsi2, dAppend, dPop, dReverse, dSetAt, dAndV, dOrV, dNotV, dB, dFld, dFldSet, dFldAdd, dMeth, dFn, dMake, dAsg, dgName, dgTwo, dgTwoL, dgThree, iSeq, iRange1, iRange2, iRange3, dFor, dLc, dYes, dKs, dKPush, dKTop, dKPop, dKLen, dOut, dFz, frzSl, stkAt, ownAt, obAt, rd1, rdL, rdD, datas, seqv, seqvs, stSl, rvSl, RV.hold, fI, fLen, fInt, fStr, fTuple, fAdd, fMul, fEq, fIn, fIsN, fIx, fJoin, List.getElem?_cons_zero, List.getElem?_cons_succ, List.getElem?_nil, List.set_cons_zero, List.set_cons_succ, List.length_cons, List.length_nil, eq_self_iff_true, true_and, and_true, Option.some.injEq, exists_eq_left']
        exact q
    | none =>
      refine seq_key (fun ρ' => ρ' = [.dat (.str text), .dat (.str (stgS st)), .dat (.int (d : Int)), .dat (.lst (L.map rowL)), .dat (badD none), x5, x6]) (fun nx2 hnx2 => ifF (fun Q hQ => ?_) (hnx2 _ rfl)) ?_
      · try simp only [dSeq, dNext, dSet, dVar, dC, dBin, dTest, dCall, dCons, dNil, dAnd, dOr, dNot, dIf, dIfS, dRet, dRetN, dDrop, dBreak, dCont, dAug, fAddA, dTup, dLst, dFrz, dListOf, dNeg, fNeg, dSl, dNoPart, dPart, fSl, dM1, dIsi, dIsi2, dAppend, dPop, dReverse, dSetAt, dAndV, dOrV, dNotV, dB, dFld, dFldSet, dFldAdd, dMeth, dFn, dMake, dAsg, dgName, dgTwo, dgTwoL, dgThree, iSeq, iRange1, iRange2, iRange3, dFor, dLc, dYes, dKs, dKPush, dKTop, dKPop, dKLen, dOut, dFz, frzSl, stkAt, ownAt, obAt, rd1, rdL, rdD, datas, seqv, seqvs, stSl, rvSl, RV.hold, fI, fLen, fInt, fStr, fTuple, fAdd, fMul, fEq, fIn, fIsN, fIx, fJoin, List.getElem?_cons_zero, List.getElem?_cons_succ, List.getElem?_nil, List.set_cons_zero, List.set_cons_succ, List.length_cons, List.length_nil, eq_self_iff_true, true_and, and_true, Option.some.injEq, exists_eq_left']
        exact hQ
      rintro _ rfl
      try simp only [dSeq, dNext, dSet, dVar, dC, dBin, dTest, dCall, dCons, dNil, dAnd, dOr, dNot, dIf, dIfS, dRet, dRetN, dDrop, dBreak, dCont, dAug, fAddA, dTup, dLst, dFrz, dListOf, dNeg, fNeg, dSl, dNoPart, dPart, fSl, dM1, dIsi, dIsi2, dAppend, dPop, dReverse, dSetAt, dAndV, dOrV, dNotV, dB, dFld, dFldSet, dFldAdd, dMeth, dFn, dMake, dAsg, dgName, dgTwo, dgTwoL, dgThree, iSeq, iRange1, iRange2, iRange3, dFor, dLc, dYes, dKs, dKPush, dKTop, dKPop, dKLen, dOut, dFz, frzSl, stkAt, ownAt, obAt, rd1, rdL, rdD, datas, seqv, seqvs, stSl, rvSl, RV.hold, fI, fLen, fInt, fStr, fTuple, fAdd, fMul, fEq, fIn, fIsN, fIx, fJoin, List.getElem?_cons_zero, List.getElem?_cons_succ, List.getElem?_nil, List.set_cons_zero, List.set_cons_succ, List.length_cons, List.length_nil, eq_self_iff_true, true_and, and_true, Option.some.injEq, exists_eq_left']
      simp only [s_be, stgS_inj, hz0, Bool.false_xor, decide_eq_true_eq]
      by_cases hs : st = .be
      · by_cases hd0 : d = 0
        · rw [if_pos ⟨hs, hd0, rfl⟩] at q
          simp only [hs, hd0, if_true]
          exact q
        · rw [if_neg (fun z => hd0 z.2.1)] at q
          simp only [hs, hd0, if_true, if_false]
          exact ⟨by omega, q⟩
      · rw [if_neg (fun z => hs z.1)] at q
        simp only [hs, if_false]
        exact ⟨by omega, q⟩
end
end K76

set_option maxRecDepth 100000
set_option maxHeartbeats 4000000
/-! While an error is handled: a list walked to its end, summed, a list made of it; what the error is. -/
namespace EXH
open PySem PySem.Spec PyProof.Rows HotX
section
variable {prog : Program} {w : World} {A : Around} {E : Value → Shared → Prop} {s : Shared}
/-- a list's iterator at its end -/
theorem list_end {it l x1 : Addr} {i : Nat} {items : Array Value} {Q : Option Value → Shared → Prop} (hot : HotAt A x1 s.heap) (hne : x1 ≠ it) (hit : s.heap.IsListIter it l i) (hl : s.heap.IsList l items) (hx : items[i]? = none)
    (k : ∀ h', Heap.ExtBut it s.heap h' → Q none { s with heap := h' }) : wpAny (model prog w) A (pyNext (.ref it)) Q E s := by
  obtain ⟨hh, o1, vs1, h1, d1, c1⟩ := hot
  obtain ⟨oi, hoi, ci, di⟩ := id hit
  obtain ⟨oL, hoL, _, nL, dL⟩ := hl
  unfold pyNext
  refine wpAny_bind (wpAny_attempt (wpAny_callSpecial?_slot (name := Str.ofString "__next__") hit.typeIs slot_listiter_next (wpAny_call_entry slot_listiter_next hit.typeIs entry_listiter_next ?_ (args_listiter_next _))))
  show wpAny _ _ (field (.ref it) 0 >>= _) _ _ s; refine wpAny_bind (wpAny_field hoi di (x := .ref l) rfl ?_)
  show wpAny _ _ (if (Value.ref l == Value.none) = true then _ else _) _ _ s; rw [if_neg (show ¬ ((Value.ref l == Value.none) = true) from Bool.false_ne_true)]
  show wpAny _ _ (field (.ref it) 1 >>= _) _ _ s; refine wpAny_bind (wpAny_field hoi di (x := .int i 0) rfl ?_)
  show wpAny _ _ (seqItems? (.ref l) >>= _) _ _ s; refine wpAny_bind (wpAny_seqItems hoL dL ?_)
  simp only [Int.toNat_natCast, hx]; refine wpAny_bind (wpAny_rule (wpAny_bind (wpAny_setField hoi di (by simp) ?_)))
  show wpAny _ _ (newExc (.type "StopIteration") [] >>= _) _ _ _; refine wpAny_bind ?_
  simp only [newExc, newTuple]; refine wpAny_bind (wpAny_newObj_type ?_ (by size_fits))
  refine wpAny_bind (m := firstArgMember _ _) (wpAny_of_eq (a := Value.none) (by first | rfl | (simp only [firstArgMember]; rfl)) ?_); refine wpAny_newObj_type ?_ (by size_fits)
  have u1 : ∀ b o, b ≠ it → s.heap.get? b = some o → (s.heap.update it (Obj.mapFields (·.setIfInBounds 0 .none))).get? b = some o := fun b o hb e => ((Heap.SameBut.update s.heap it _).2 b hb).trans e
  refine raiseNew_hot ⟨hh, o1, vs1, Heap.get?_push_of_some _ (Heap.get?_push_of_some _ (u1 _ _ hne h1)), d1, c1⟩ (Nat.ne_of_lt (Heap.lt_size (Heap.get?_push_of_some _ (u1 _ _ hne h1)))) (Heap.get?_push_size _ rfl) rfl (by first | (simp; done) | (simp; omega)) ?_
  refine wpAny_bind (wpAny_isInstance (T := "StopIteration") (b := true) ⟨_, Heap.get?_update_self _ (Heap.get?_push_size _ rfl) rfl, rfl⟩ isSubtype_stop ?_)
  refine wpAny_pure (k _ fun b o hb e => ?_)
  have e2 := Heap.get?_push_of_some { cls := .type "tuple", data := .seq ([] : List Value).toArray } (u1 b o hb e)
  rw [Heap.get?_update_other _ _ (Nat.ne_of_gt (Heap.lt_size e2))]
  exact Heap.get?_push_of_some _ e2
/-- the walk over a list -/
theorem walks_list {x1 : Addr} (hh : A.handled = some (.ref x1)) (I ax : Addr) (n1 : ax ≠ I) (n2 : x1 ≠ I) (items : Array Value) :
    Walks prog w A I [I, ax, x1] [I] items.size (fun i v => items[i]? = some v) (fun i h => h.IsListIter I ax i ∧ h.IsList ax items ∧ ∃ (o : Obj) (vs : Array Value), h.get? x1 = some o ∧ o.data = .fields vs ∧ vs[2]? = some .none) where
  sub := fun b hb => by simp at hb; simp [hb]
  frame := fun _ _ _ st hk => ⟨st.1.at fun o e => hk I (by simp) o e, st.2.1.at fun o e => hk ax (by simp) o e, by
    obtain ⟨o, vs, e, d, c⟩ := st.2.2
    exact ⟨o, vs, hk x1 (by simp) o e, d, c⟩⟩
  item := fun i s Q E hi st hQ => by
    obtain ⟨o, vs, e, d, c⟩ := st.2.2
    refine wpAny_pyNext_list_item st.1 st.2.1 (x := items[i]) (by simp [hi]) fun h' hit' hs' => hQ _ h' s.toks (by simp [hi]) ⟨hit', st.2.1.extBut hs'.extBut n1, o, vs, hs'.extBut x1 o n2 e, d, c⟩ fun b o hb e => hs'.extBut b o (fun h => hb (by simp [h])) e
  done := fun s Q E st hQ => list_end ⟨hh, st.2.2⟩ n2 st.1 st.2.1 (by simp) fun h' he' => hQ h' s.toks fun b o hb e => he' b o (fun h => hb (by simp [h])) e
  self := fun _ _ _ _ st hQ => wpAny_pyIter_listiter st.1 hQ
/-- summed -/
theorem sum_list {x1 l : Addr} {xs : Array (Int × Tok)} {Q : Value → Shared → Prop} (hot : HotAt A x1 s.heap) (hl : s.heap.IsList l (intItems xs))
    (k : ∀ h' tk t', (∀ b o, s.heap.get? b = some o → h'.get? b = some o) → Q (.int (preSum (numAt xs) xs.size) t') { s with heap := h', toks := tk }) : wpAny (model prog w) A (call (.builtin "sum") [.ref l]) Q E s := by
  obtain ⟨hh, o1, vs1, h1, d1, c1⟩ := hot
  have l1 := Heap.lt_size h1
  refine call_sum_walkG (iter_intList hl fun s₂ e st hfp hlI => ?_)
  subst e
  refine ⟨_, _, _, _, _, _, numAt xs, rfl, walks_list (A := A.in1) hh _ l hlI (Nat.ne_of_lt l1) (intItems xs), ⟨st.1, st.2, o1, vs1, Heap.get?_push_of_some _ h1, d1, c1⟩, fun b hb => ?_, (fun _ _ => intItems_at), fun h' tk t' hk => ?_⟩
  · rcases List.mem_cons.mp hb with rfl | hb
    · exact hfp _ (by simp)
    · rcases List.mem_cons.mp hb with rfl | hb
      · exact hfp _ (by simp)
      · rw [List.mem_singleton.mp hb]
        exact Heap.lt_size (Heap.get?_push_of_some _ h1)
  · have := k h' tk t' (old_kept hk)
    simpa [intItems] using this
end
end EXH

set_option maxRecDepth 100000
set_option maxHeartbeats 4000000
/-! The same as rules. -/
namespace EXH
open PySem PySem.Spec PyProof.Rows L2 HotX
/-- what is tracked stands -/
theorem obj_some {P : Program} {w : World} {H : Hp} {h : Heap} {a : Addr} {o : HO} (x : ObjOk P w H h a o) : ∃ u, h.get? a = some u := by
  cases o with
  | lst xs => exact ⟨_, x.2.choose_spec.choose_spec.2⟩
  | tup xs => obtain ⟨_, its, _, u, e, _⟩ := x; exact ⟨u, e⟩
  | dK kvs => obtain ⟨_, _, _, _, u, _, _, e, _⟩ := x; exact ⟨u, e⟩
  | dT kvs => obtain ⟨_, _, _, _, u, _, _, e, _⟩ := x; exact ⟨u, e⟩
  | set S n => obtain ⟨u, _, _, _, e, _⟩ := x; exact ⟨u, e⟩
  | ins C dx fs => obtain ⟨_, _, _, e, _⟩ := x; exact ⟨_, e⟩
  | own y => exact x
  | xd fs => obtain ⟨_, ⟨u, _, _, e, _⟩, _⟩ := x; exact ⟨u, e⟩
  | rng lo hi => obtain ⟨_, _, _, e⟩ := x; exact ⟨_, e⟩
  | frz ob u => exact ⟨_, x.1⟩
  | tbl ps => exact ⟨_, x⟩
  | met f y => exact ⟨_, x⟩
  | ext φ => exact x.2.1
/-- a new object, wherever nothing stood -/
theorem laidN {X : Cx} {pins : List (Addr × Obj)} {σ : L2.St} {H : Hp} {s : Shared} {h' : Heap} {a : Addr} {o : HO} {t' : Nat} (I : Inv X pins σ H s) (k : ∀ b u, s.heap.get? b = some u → h'.get? b = some u) (hp : s.heap.get? a = none) (new : ObjOk X.prog X.w (upd H a o) h' a o) :
    Inv X pins σ (upd H a o) { s with heap := h', toks := t' } := by
  have hn : H a = none := by
    cases e : H a with
    | none => rfl
    | some u =>
      obtain ⟨v, e2⟩ := obj_some (I.hok a u e)
      rw [hp] at e2
      cases e2
  have ne_ : ∀ b u, s.heap.get? b = some u → b ≠ a := fun b u e z => by rw [z, hp] at e; cases e
  refine I.un ⟨fun b u q _ _ _ => k b u q, fun b u q _ _ _ => ⟨u.slots, k b u q⟩, fun b u q n _ => by rw [upd_ne (ne_ b u q)]; exact n, fun b u q _ => ⟨u, k b u q⟩, fun b xs q => by rw [upd_ne (ne_of_none q hn)]; exact q, fun b u xs q => by rw [upd_ne (ne_of_none q hn)]; exact q,
    fun b ps q => ⟨#[], by rw [upd_ne (ne_of_none q hn), q]; simp⟩⟩ fun b u e => ?_
  by_cases hb : b = a
  · subst hb; rw [upd_same] at e; cases e; exact new
  · rw [upd_ne hb] at e
    exact (I.hok b u e).stay (fun c v _ q => k c v q) (fun c q => by rw [upd_ne (ne_of_none q hn)]; exact q) fun c xs q => by rw [upd_ne (ne_of_none q hn)]; exact q
/-- the error at a (its object oe, its class C, its dict dd) is handled, and stands in every state -/
structure HotB (X : Cx) (a : Addr) (oe : Obj) (C dd : Addr) : Prop where
  hd : X.A.handled = some (.ref a)
  mem : (a, oe) ∈ X.pn
  z : L2N.Zn (.ref C) (some dd) oe
  f : ∃ vs, oe.data = .fields vs
section
variable {X : Cx} {a C dd : Addr} {oe : Obj}
theorem HotB.at (h : HotB X a oe C dd) {pins : List (Addr × Obj)} {σ : L2.St} {H : Hp} {s : Shared} (I : Inv X pins σ H s) : HotAt X.A a s.heap := by
  obtain ⟨vs, e⟩ := h.f
  exact ⟨h.hd, oe, vs, (I.pin _ (List.mem_append_left _ h.mem)).1, e, h.z.2.2 vs e⟩
/-- sum(xs) -/
theorem cr_sum (h : HotB X a oe C dd) : CallR X (.builtin "sum") (rSum X.K) := by
  intro pins s σ H vs us Q I r ⟨b, ns, e, hs, q⟩
  subst e
  obtain ⟨its, rv, hl, _⟩ := I.list hs
  rw [Vals.ref1 r]
  have hi := rv.ints
  obtain ⟨xs, e⟩ := hi.allInts.items
  have hn : numsOf (intItems xs).toList = ns := by rw [← e]; exact hi.numsOf
  rw [nums_intItems] at hn
  have hl' := hl.isList
  rw [e] at hl'
  refine sum_list (h.at I) hl' fun h' tk t' hk => ⟨.int ns.sum, H, I.kept hk, ⟨t', ?_⟩, q⟩
  rw [preSum_eq, List.take_of_length_le (by simp), hn]
/-- the list of ints of a list of bools -/
def tInts (K : PySem.W.Frag) (tl : TE) : TE := fun σ H Q => tl σ H fun v H1 => ∃ (aL : Addr) (bs : List Bool), v = .ref aL ∧ SqL K H1 aL (bs.map V.bl) ∧ ∀ D, H1 D = none → Q (.ref D) (upd H1 D (.lst (bs.map fun b => V.int (if b then 1 else 0))))
theorem vals_bls : ∀ {bs : List Bool} {us : List Value}, Vals (bs.map V.bl) us → us = bs.map Value.bool
  | [], _, r => by cases r; rfl
  | b :: bs, _, r => by
    cases r with
    | cons r1 r2 =>
      cases r1
      rw [vals_bls r2]
      rfl
theorem pairs_ints : ∀ {bs : List Bool} {us : List Value}, Paired (fun v y => ∀ b, v = Value.bool b → ∃ t, y = Value.int (if b then 1 else 0) t) (bs.map Value.bool) us → Vals (bs.map fun b => V.int (if b then 1 else 0)) us
  | [], _, r => by cases r; exact .nil
  | b :: bs, _, r => by
    cases r with
    | cons r1 r2 => exact .cons (r1 b rfl) (pairs_ints r2)
theorem pe_ints (h : HotB X a oe C dd) {l : Expr} {x : Str} {px p1 p2 p3 pos : Pos} {scope : Scope} {tl : TE} (hl : PE X l tl) (hm : X.mg "int" = none) (hcell : ∀ y ∈ scope.names, y.2 ≠ .cell ∧ y.2 ≠ .free) (hkind : scope.kind = .function) (hnames : ∀ y ∈ scope.names, y.2 = .local → scope.names.lookup y.1 = some .local)
    (hx : scope.names.lookup x = some .local) (hi : ∀ C cl, (compEnvC scope cl C X.env).kindOf "int" = some .globalImplicit) (hxk : ∀ C cl, (compEnvC scope cl C X.env).kindOf x = some .local) (hk2 : ∀ C cl, (compEnvC scope cl C X.env).scope.kind = .function) (hdx : (x == ("__debug__" : Str)) = false := by decide)
    (hst : ∀ C cl, starEach [.Name x p2] (compEnvC scope cl C X.env) = (false, eval (.Name x p2) (compEnvC scope cl C X.env)) :: starEach [] (compEnvC scope cl C X.env) := by intro _ _; rfl)
    (hpl : ∀ C cl, (backTo p3 (starEach [] (compEnvC scope cl C X.env))).any (·.1) = false := by intro _ _; rfl) (hs : ∀ y, foldedSetIterable l X.env y = pure y := by intro _; rfl) :
    PE X (.ListComp (.Call (.Name "int" p1) [.Name x p2] [] p3) [⟨.Name x px, l, [], 0⟩] scope pos) (tInts X.K tl) := by
  refine ⟨fun pins s σ H Q I hq => ?_⟩
  have hclos : closureFor scope X.env = pure (cloFrom X.env.cells scope.names []) := closure_ok fun y hy e => absurd e (hcell y hy).2
  refine wpAny_ListComp_free (fun _ => true) (fun v y => ∀ b, v = Value.bool b → ∃ t, y = Value.int (if b then 1 else 0) t) hclos (fun y hy => (hcell y hy).1) hkind hnames hx
    (thn (hl.run pins s σ H _ I hq) fun xv s1 ⟨v, H1, I1, r1, aL, bs, ev, hsq, q⟩ => ?_) hs
  subst ev
  cases r1
  obtain ⟨its, rv, p, hz⟩ := I1.list hsq
  have eits := vals_bls rv
  have hlt : aL < s1.heap.objs.size := by obtain ⟨_, e, _⟩ := p.isList; exact Heap.lt_size e
  obtain ⟨hh, o1, vs1, e1, d1, c1⟩ := h.at I1
  refine wpAny_pyIter_list p.isList ⟨s1.heap.objs.size, [s1.heap.objs.size, aL, a], [s1.heap.objs.size], its.toArray.size, _, _, rfl, walks_list hh _ aL (Nat.ne_of_lt hlt) (Nat.ne_of_lt (Heap.lt_size e1)) its.toArray, ?_,
    ⟨⟨_, Heap.get?_push_size _ rfl, rfl, rfl⟩, p.isList.push _, o1, vs1, Heap.get?_push_of_some _ e1, d1, c1⟩, fun b hb => ?_, ⟨fun Cc i v s₃ m₃ E' _ _ _ _ _ _ => ?_, fun Cc i v s₃ m₃ E' hC hP _ hn hm3 hk htk => ?_⟩, fun D h' tk ys vs hD hL hPL hlen hP hF hk => ?_⟩
  · rw [List.size_toArray, eits, List.length_map]
    rw [List.length_map] at hz
    exact hz
  · show b < (s1.heap.push _).objs.size
    rw [Heap.size_push]
    have l1 := Heap.lt_size e1
    rcases List.mem_cons.mp hb with rfl | hb
    · exact Nat.lt_succ_self _
    · rcases List.mem_cons.mp hb with rfl | hb
      · exact Nat.lt_succ_of_lt hlt
      · rw [List.mem_singleton.mp hb]
        exact Nat.lt_succ_of_lt l1
  · exact wpAny_tests_nil ⟨rfl, _, _, rfl, fun _ _ e => e⟩
  · have hv : ∃ b, v = Value.bool b := by
      have hv2 : its.toArray[i]? = some v := hP
      rw [List.getElem?_toArray, eits, List.getElem?_map] at hv2
      obtain ⟨b, _, e⟩ := Option.map_eq_some_iff.mp hv2
      exact ⟨b, e.symm⟩
    obtain ⟨b, rfl⟩ := hv
    have bk : ∀ c o, X.base.get? c = some o → s₃.heap.get? c = some o := fun c o e => by
      have e2 := I1.bk c o e
      refine hk c o (fun z => ?_) (Heap.get?_push_of_some _ e2)
      rw [List.mem_singleton.mp z] at e2
      exact absurd (Heap.lt_size e2) (Nat.lt_irrefl _)
    obtain ⟨mb, g1, g2⟩ := I.mod.blt
    refine Call_Name1 (Calls.Name_function_global (hk2 Cc _) (hi Cc _) (Calls.loadGlobal_builtin (by show s₃.heap.Ns X.env.globals _; rw [I.ok.glob]; exact I.mod.glob.keeps bk) hm (by show s₃.heap.Ns X.env.builtins _; rw [I.ok.blt]; exact g1.keeps bk) ((g2 "int" (by decide)).trans boot_int) ?_) (by decide)) (hst Cc _)
    refine PyProof.Rows.callWith_type rfl (Calls.evalArgs_plain (Calls.spliced_cons (wpAny_Name (wpAny_loadName_local (hk2 Cc _) (hxk Cc _) hn hm3 (Calls.spliced_nil (call_int_bool ⟨fun b' e => ?_, ?_⟩))) hdx)))
    · cases e
      exact ⟨_, rfl⟩
    · exact ⟨_, _, rfl, fun _ _ e => e⟩
  · have evs : vs = bs.map Value.bool := by
      refine List.ext_getElem? fun j => ?_
      cases e : vs[j]? with
      | none =>
        rw [List.getElem?_eq_none_iff] at e
        rw [List.size_toArray, eits, List.length_map] at hlen
        rw [List.getElem?_eq_none]
        rw [List.length_map]; omega
      | some v =>
        have hv2 : its.toArray[j]? = some v := hP j v e
        rw [List.getElem?_toArray, eits] at hv2
        exact hv2.symm
    rw [List.filter_eq_self.mpr (fun _ _ => rfl), evs] at hF
    have hv := pairs_ints hF
    have I2 : Inv X pins σ H1 { s1 with heap := s1.heap.push { cls := .type "list_iterator", data := .fields #[.ref aL, .int 0 0] } } := I1.kept (t' := s1.toks) fun b o e => Heap.get?_push_of_some _ e
    have kk : ∀ b o, s1.heap.get? b = some o → h'.get? b = some o := fun b o e => hk b o (fun z => by
      rw [List.mem_singleton.mp z] at e
      exact absurd (Heap.lt_size e) (Nat.lt_irrefl _)) (Heap.get?_push_of_some _ e)
    have hD1 : s1.heap.get? D = none := by
      cases e : s1.heap.get? D with
      | none => rfl
      | some o => rw [Heap.get?_push_of_some _ e] at hD; cases hD
    have hDH : H1 D = none := by
      cases e : H1 D with
      | none => rfl
      | some u =>
        obtain ⟨v, e2⟩ := obj_some (I1.hok D u e)
        rw [hD1] at e2
        cases e2
    obtain ⟨n, hp⟩ := hPL
    have J := laidN (o := .lst (bs.map fun b => V.int (if b then 1 else 0))) (t' := tk) I1 kk hD1 ⟨by rw [List.length_map] at hz ⊢; exact hz, ys.toList, n, hv, by simpa using hp⟩
    exact ⟨.ref D, _, J, rfl, q D hDH⟩
end
end EXH

set_option maxRecDepth 100000
set_option maxHeartbeats 4000000
/-! A def that is handed the error which is handled: its call, its body's context; what it asks of the error. -/
namespace EXH
open PySem PySem.Spec PyProof.Rows L2 L2H HotX
/-- what the error's class says -/
structure ExC (K : PySem.W.Frag) (C : Addr) : Prop where
  cl : (PySem.W.clsIn K C).isSome = true
  ga : PySem.W.findIn K (.ref C) "__getattribute__" = some (some (.builtin "BaseException.__getattribute__"))
  gt : PySem.W.findIn K (.ref C) "__getattr__" = some none
  sub : PySem.W.subIn K (.ref C) (.type "BaseException") = some true
  hd : PySem.W.hasDictIn K C = true
  ca : PySem.W.findIn K (.ref C) "__class__" = some (some (.builtin "object.__class__"))
  cn : PySem.W.specialIn K (.builtin "object.__class__") "__get__" = some (some (.builtin "getset_descriptor.__get__"))
  ct : PySem.W.takesIn K (.builtin "object.__class__") = some true
  mo : PySem.W.mroIn K C (.type "object") = some true
section
variable {X : Cx} {a C dd : Addr} {oe : Obj}
theorem HotB.inst (h : HotB X a oe C dd) {pins : List (Addr × Obj)} {σ : L2.St} {H : Hp} {s : Shared} {fs : List (Str × V)} (I : Inv X pins σ H s) (e : H dd = some (.xd fs)) :
    ∃ (od : Obj) (mA : Str → Option Value), PySem.W.InstAt s.heap a oe C (some od) ∧ (∀ n, RelO (fs.lookup n) (mA n)) ∧ ∀ n, PySem.W.lookIn n od = some (mA n) := by
  obtain ⟨vs, hv⟩ := h.f
  obtain ⟨mA, hns, hr⟩ := I.hok dd _ e
  obtain ⟨od, ho, hl⟩ := lookIn_ns hns
  refine ⟨od, mA, ⟨(I.pin _ (List.mem_append_left _ h.mem)).1, h.z.1, ?_, ?_⟩, hr, hl⟩
  · unfold PySem.W.notCls
    rw [hv]
  · rw [h.z.2.1]
    exact ho
/-- isinstance(e, c) -/
def rIsX (K : PySem.W.Frag) (C dd a : Addr) : List V → Hp → VK → Prop := fun xs H Q => ∃ (c : V) (cv : Value) (b : Bool) (fs : List (Str × V)), xs = [.ref a, c] ∧ (∀ u, RelV c u → u = cv) ∧ PySem.W.kitOne K (.ref C) cv = some b ∧ H dd = some (.xd fs) ∧ Q (.bl b) H
theorem call_isX (h : HotB X a oe C dd) (F : ExC X.K C) : CallR X (.builtin "isinstance") (rIsX X.K C dd a) := by
  intro pins s σ H xs us Q I r ⟨c, cv, b, fs, e, hcv, ek, hx, q⟩
  subst e
  cases r with
  | cons rx rr =>
    cases rr with
    | cons rt rr =>
      cases rr
      cases rx
      rw [hcv _ rt]
      obtain ⟨od, mA, J, _, _⟩ := h.inst I hx
      exact PySem.W.kia_one (PySem.W.kitx_exc F.cl F.ga F.gt F.sub F.ca F.cn F.ct F.mo) I.kIn J ek (fun z => nomatch z) fun tk => ⟨.bl b, H, I.kept (t' := tk) fun _ _ z => z, rfl, q⟩
/-- e.f -/
def tFx (a dd : Addr) (f : Str) (te : TE) : TE := fun σ H Q => te σ H fun x H1 => x = .ref a ∧ ∃ (fs : List (Str × V)) (v : V), H1 dd = some (.xd fs) ∧ fs.lookup f = some v ∧ Q v H1
theorem pe_fx (h : HotB X a oe C dd) (F : ExC X.K C) {e : Expr} {te : TE} {pos : Pos} {n : Str} (hno : PySem.W.findIn X.K (.ref C) n = some none) (he : PE X e te) (hb : attributeBase e n X.env (eval e X.env) = eval e X.env := by rfl) :
    PE X (.Attribute e n pos) (tFx a dd n te) := by
  refine ⟨fun pins s σ H Q I hq => attr_of hb (thn (he.run pins s σ H _ I hq) fun u s1 ⟨x, H1, I1, rx, ex, fs, v, ea, l, q⟩ => ?_)⟩
  subst ex
  obtain rfl : u = Value.ref a := rx
  obtain ⟨od, mA, J, hr, hl⟩ := h.inst I1 ea
  obtain ⟨u, hu, ru⟩ := RelO.some_of (v := v) (o := mA n) (by rw [← l]; exact hr n)
  exact HandSPX.exc_get I1.kIn J F.ga F.gt F.sub (PySem.W.findObj_own F.hd hno rfl (by rw [hl, hu])) (handed_of ru) ⟨v, H1, I1.tok _, ru, q⟩
end
/-- a def that is handed it -/
structure FnE (P : Program) (w : World) (K : PySem.W.Frag) (mg : Str → Option Value) (base : Heap) (C : Addr) (k : Nat) (f : Addr) (fd : FuncData) (ps : List Str) (sp : Addr → Addr → Sp) : Prop where
  len : ∀ a dd vs H Q E, sp a dd vs H Q E → vs.length = ps.length
  run : ∀ (A : Around) (outer : List Env) (s : Shared) (H : Hp) (args : Args) (us : List Value) (vs : List V) (Q : VK) (E : XK) (a dd : Addr) (oe : Obj), RoomH k A → A.handled = some (.ref a) → L2N.Zn (.ref C) (some dd) oe → (∃ vs, oe.data = .fields vs) → PinOk outer H s (a, oe) →
    Env0 P w K mg base A outer s H → BindsTo s fd args (ps.zip us) → Vals vs us → sp a dd vs H Q E → codeAny (model P w) A (.call (.ref f) args) (CR CX0 outer P w H s Q E) s
section
variable {P : Program} {w : World} {K : PySem.W.Frag} {mg : Str → Option Value} {base : Heap} {C : Addr} {k : Nat} {f : Addr} {fd : FuncData} {N ps : List Str} {sp : Addr → Addr → Sp}
theorem fnE_of {x qual : Str} {st : Stmt} (F : Fun K x qual st f fd) (S : FnScope N ps (defScope st)) (len : ∀ a dd vs H Q E, sp a dd vs H Q E → vs.length = ps.length)
    (hb : ∀ (A : Around) (outer : List Env) (s : Shared) (H : Hp) (vs : List V) (Q : VK) (E : XK) (a dd : Addr) (oe : Obj) (cdv : Value), HotB (cxH CX0 P w K mg base N qual (defScope st) f cdv A outer s H E (a, oe)) a oe C dd → RoomH k (A.deeper (envOfC qual (defScope st) s.heap.objs.size f cdv)) → sp a dd vs H Q E →
      ∃ t, PSs (cxH CX0 P w K mg base N qual (defScope st) f cdv A outer s H E (a, oe)) (defBody st) t ∧ t { nx := fun _ H' => Q .non H', rt := Q } (L2.start N vs) H) : FnE P w K mg base C (k + 1) f fd ps sp := by
  obtain ⟨oc, od, kV, doc, pm, an, cdv, ct, osl, e0, lk, hcd⟩ := F.ex
  subst e0
  refine ⟨len, fun A outer s H args us vs Q E a dd oe hr hh hz hf hpin e0 hbn r hsp => ?_⟩
  have KX : K.In s.heap := e0.mod.kin.keeps fun b o e => (e0.bs b o e).1
  have hl := len _ _ _ _ _ _ hsp
  have kinds : ∀ y ∈ ps.zip us, (defScope st).names.lookup y.1 = some .local ∨ ((defScope st).names.lookup y.1 = some .cell ∧ ((cellsFrom (s.heap.objs.size + 1) (defScope st).names []).lookup y.1).isSome = true) := fun ⟨n, v⟩ hy =>
    (S.par n (List.of_mem_zip hy).1).elim .inl fun q => .inr ⟨q, PySem.W.cellsFrom_some _ _ _ (.inl q)⟩
  refine codeAny_call_function hr.depth (KX _ _ lk) rfl S.co S.gen rfl (PySem.W.codeRec_of KX hcd) (hbn _ _ _ _ (wpAny_newFunctionEnv_cells S.kind kinds fun env he s1 x => ?_))
  subst he
  refine ⟨(e0.mod.nolimit.keeps fun b o e => (e0.bs b o e).1).keeps x.toInCall.keep, codeAny_func ?_⟩
  obtain ⟨t, ht, hq⟩ := hb A outer s H vs Q E a dd oe cdv ⟨hh, List.mem_cons_self, hz, hf⟩ (hr.deeper _) hsp
  refine wpAny_mono (ht.run [] s1 (L2.start N vs) H _ (inv_startH S hpin e0 hl r x) hq) (fun fl s' hs => ?_) fun _ _ z => z
  cases fl with
  | ret u => obtain ⟨v, σ', H', J, rv, q⟩ := hs; exact ⟨v, H', J.os, J.bare, J.base, J.hok, rv, q⟩
  | next => obtain ⟨σ', H', J, q⟩ := hs; exact ⟨.non, H', J.os, J.bare, J.base, J.hok, rfl, q⟩
  | brk => obtain ⟨_, _, _, q⟩ := hs; exact False.elim q
  | cont => obtain ⟨_, _, _, q⟩ := hs; exact False.elim q
end
section
variable {X : Cx} {a C dd f : Addr} {oe : Obj} {k : Nat} {fd : FuncData} {ps : List Str} {sp : Addr → Addr → Sp} {x : Str} {p pos : Pos} {e : Expr} {es : List Expr} {t : TA}
theorem pe_callE (F : FnE X.prog X.w X.K X.mg X.base C k f fd ps sp) (hr : RoomH k X.A) (h : HotB X a oe C dd) (hg : Gl X x) (hm : X.mg x = some (.ref f)) (hk : PySem.W.keepIn X.K (.ref f) = true) (hb : Binds X.K fd ps [])
    (ha : PA X (e :: es) t) (hdb : (x == ("__debug__" : Str)) = false := by decide) (he : starEach (e :: es) X.env = (false, eval e X.env) :: starEach es X.env := by rfl) (hpl : (backTo pos (starEach es X.env)).any (·.1) = false := by rfl) :
    PE X (.Call (.Name x p) (e :: es) [] pos) (fun σ H Q => t σ H fun vs H1 => sp a dd vs H1 Q fun _ _ _ => False) := by
  refine ⟨fun pins s σ H Q I hq => wpAny_Call_Name_kw (ld_glob I hg hm ?_ hdb)⟩
  refine PySem.W.callWith_K (h₀ := X.base) I.ok.mod.kin hk (thn (ha.run pos pins s σ H _ I hq) fun us s1 ⟨vs, H1, I1, r, q⟩ => ⟨I1.kIn, ?_⟩) he hpl
  have hl : us.length = ps.length := by rw [← r.length]; exact F.len _ _ _ _ _ _ q
  have b := hb s1 us I1.kIn (by rw [List.append_nil]; exact hl)
  rw [List.append_nil] at b
  have P1 := I1.pin _ (List.mem_append_left _ h.mem)
  refine wpAny_call (codeAny_mono (F.run X.A X.stack s1 H1 ⟨us, []⟩ us vs Q (fun _ _ _ => False) a dd oe hr h.hd h.z h.f ⟨P1.1, P1.2.1, fun hm => (List.mem_cons.mp (I1.stkSub a hm)).elim P1.2.2.1 P1.2.2.2.1, P1.2.2.2.2⟩ I1.env0 b r q) fun r s' hc => ?_)
  cases r with
  | error e => exact False.elim hc
  | ok fl =>
    cases fl with
    | ret u => exact I1.after hc
    | next => exact False.elim hc
    | brk => exact False.elim hc
    | cont => exact False.elim hc
end
end EXH

set_option maxRecDepth 100000
set_option maxHeartbeats 4000000
namespace DL
open PySem PySem.Spec PyProof.Rows L2 TL SkE EXH L2H
/-- what _law_error_of tells of a BadText -/
def spErr (a dd : Addr) : Sp := fun vs H Q _ => ∃ l p : Int, vs = [.ref a] ∧ H dd = some (.xd (badFs l p)) ∧ ∀ t H', (∀ b o, H b = some o → H' b = some o) → H t = none → H' t = some (.tup [.str "bad", .int l, .int p]) → Q (.ref t) H'
def badD (l p : Int) : D := .tup [.str ("bad" : Str).cps.toList, .int l, .int p]
section
variable {K : PySem.W.Frag} {g : G} {F H : Hp} {σ : L2.St} {ρ : List Sl} {φ : Nat → List Addr}
/-- a slot of which nothing is told may hold anything -/
theorem SI.ghost (I : SI K g F H σ ρ φ) {i : Nat} (e : ρ[i]? = some .no) (o : Option V) : SI K g F H (σ.set i o) ρ φ := by
  refine ⟨by simpa using I.len, fun j s h => ?_, I.out, I.dj, I.fr, I.sub, I.f0, I.keep, I.fw, I.fn, I.mine, fun j s h h1 h2 => ?_, I.gon, I.bfp⟩
  · by_cases hj : i = j
    · subst hj
      rw [e] at h
      cases h
      exact I.at_ i _ e
    · rw [List.getElem?_set_ne hj]
      exact I.at_ j s h
  · by_cases hj : i = j
    · subst hj
      rw [e] at h
      cases h
      cases h1
    · rw [List.getElem?_set_ne hj]
      exact I.bor j s h h1 h2
end
/-- the except suite: return _law_error_of(e) -/
def tsErr (C : Addr) (i : Nat) (a : Addr) (cls : Value) (d : Option Addr) : TS := fun D σ H => ∃ dd, cls = .ref C ∧ d = some dd ∧ σ[i]? = some (some (.ref a)) ∧ spErr a dd [.ref a] H D.rt fun _ _ _ => False
section
variable {X : Cx} {g : G} {C CI f : Addr} {fd : FuncData} {k i : Nat} {n x xe : Str} {body : List Stmt} {tb : (Int → Int → List Sl → Prop) → DS} {np p1 p2 p3 p4 pos pos' : Pos}
theorem ps_tryE (hs : X.stack = X.env :: X.outer) (hf : X.env.frame = some X.env.locals) (hN : X.N.Nodup) (hi : X.N[i]? = some n) (hln : X.env.kindOf n = some .local) (hc : Names X x (.ref CI)) (hv : Vis X.env.scope n) (hd : (n == ("__debug__" : Str)) = false) (hcd : (n == ("__classdict__" : Str)) = false)
    (hb : ∀ (B : Int → Int → List Sl → Prop) (pn : List (Addr × Obj)) (xe : Value → Shared → Prop), L2N.Takes (X.tr pn xe) (WB X.K g C B) → PassesOwn (model X.prog X.w) X.A X.env xe → PSsd (X.tr pn xe) g body (tb B))
    (Fe : FnE X.prog X.w X.K X.mg X.base C k f fd ["e"] spErr) (hr : Room k X.A) (hg : Gl X xe) (hm : X.mg xe = some (.ref f)) (hk : PySem.W.keepIn X.K (.ref f) = true) (bn : Binds X.K fd ["e"] []) (hdb : (xe == ("__debug__" : Str)) = false)
    (he : starEach [.Name n p2] X.env = (false, eval (.Name n p2) X.env) :: starEach [] X.env) (hpl : (backTo p3 (starEach [] X.env)).any (·.1) = false) :
    PS X (.Try body [.ExceptHandler (some (.Name x np)) (some n) [.Return (some (.Call (.Name xe p1) [.Name n p2] [] p3)) p4] pos'] [] [] pos)
      (fun D σ H => ∃ B : Int → Int → List Sl → Prop, (∀ cls d σ' H', WB X.K g C B cls d σ' H' → wAs X.K (.ref CI) i (tsErr C i) (fun _ _ _ _ => False) D cls d σ' H') ∧ lS X.K g (tb B) D σ H) := by
  refine L2N.ps_try_as (Wout := fun _ _ _ _ => False) (ts := tsErr C i) (tb := fun W D σ H => ∃ B : Int → Int → List Sl → Prop, (∀ cls d σ' H', WB X.K g C B cls d σ' H' → W cls d σ' H') ∧ lS X.K g (tb B) D σ H) hs hf hN hi hln hc
    (fun _ _ ⟨_, _, _, _, _, _, _, _, _, _, _, _, _, _, _, _, z⟩ => z.elim) (fun W pn xe tk po => ⟨fun pins s σ H D I ⟨B, sub, h⟩ => (hb B pn xe (tk.imp sub) po).run pins s σ H D I h⟩) fun a oe cls d pn hz hf' => ⟨fun pins s σ H D I ⟨dd, e1, e2, e3, q⟩ => ?_⟩
  subst e1
  subst e2
  have hot : HotB (X.suite a ((a, oe) :: pn)) a oe C dd := ⟨rfl, List.mem_cons_self, hz, hf'⟩
  refine (pss_one (ps_ret (pe_callE (X := X.suite a ((a, oe) :: pn)) Fe ⟨hr.dp, hr.un⟩ hot hg hm hk bn (pa_cons (pe_var hi hv hd hcd) pa_nil he) hdb he hpl))).run pins s σ H D I ?_
  exact ⟨_, e3, q⟩
end
/-- a def whose body is such a try -/
theorem fn_try {P : Program} {w : World} {K : PySem.W.Frag} {mg : Str → Option Value} {base : Heap} {x : Str} {st : Stmt} {f fe C CI Cb : Addr} {fd fde : FuncData} {N ps : List Str} {k i : Nat} {S : Spec} {n xi xe : Str} {body : List Stmt} {np p1 p2 p3 p4 pos pos' : Pos}
    (F : Fun K x x st f fd) (Sc : FnScope N ps (defScope st)) (hlen : ∀ args R B, S args R B → args.length = ps.length)
    (ebody : defBody st = [.Try body [.ExceptHandler (some (.Name xi np)) (some n) [.Return (some (.Call (.Name xe p1) [.Name n p2] [] p3)) p4] pos'] [] [] pos])
    (hi : N[i]? = some n) (hln : (defScope st).names.lookup n = some .local) (hxi : (defScope st).names.lookup xi = some .globalImplicit) (hxe : (defScope st).names.lookup xe = some .globalImplicit) (hdi : (xi == ("__debug__" : Str)) = false) (hd : (n == ("__debug__" : Str)) = false) (hcd : (n == ("__classdict__" : Str)) = false) (hdb : (xe == ("__debug__" : Str)) = false)
    (mi : mg xi = some (.ref CI)) (ex : PySem.W.exmOne K (.ref C) (.ref CI) = some true) (Fe : FnE P w K mg base C k fe fde ["e"] spErr) (me : mg xe = some (.ref fe)) (ke : PySem.W.keepIn K (.ref fe) = true) (bn : Binds K fde ["e"] [])
    (hbody : ∀ (cdv : Value) (A : Around) (outer : List Env) (s : Shared) (H : Hp) (E : XK) (g : G), Room k (A.deeper (envOfC x (defScope st) s.heap.objs.size f cdv)) →
      ∃ tb : (Int → Int → List Sl → Prop) → DS, (∀ (B : Int → Int → List Sl → Prop) (pn : List (Addr × Obj)) (xe : Value → Shared → Prop), L2N.Takes ((cxOf CX0 P w K mg base N x (defScope st) f cdv A outer s H E).nox.tr pn xe) (WB K g C B) →
        PassesOwn (model P w) (A.deeper (envOfC x (defScope st) s.heap.objs.size f cdv)) (envOfC x (defScope st) s.heap.objs.size f cdv) xe → PSsd ((cxOf CX0 P w K mg base N x (defScope st) f cdv A outer s H E).nox.tr pn xe) g body (tb B)) ∧
        ∀ args R, S args R noBad → tb (fun l p ρ => ρ[i]? = some .no ∧ R (.d (badD l p)) (ρ.take ps.length)) (endsOf ps.length R) (body0 N ps args))
    (hB : ∀ args R B, S args R B → S args R noBad) : FnOk P w K mg base CX0 (k + 1) f fd ps (spD K Cb S) := by
  have hl : ∀ {vs H Q E}, spD K Cb S vs H Q E → vs.length = ps.length := fun {vs H Q E} ⟨F, args, φ, R, B, I, hS, _⟩ => by
    have := I.len
    simp at this
    rw [this]
    exact hlen _ _ _ hS
  refine F.ok Sc (fun vs H Q E h => hl h) fun cdv A outer s H vs Q E hr h => ?_
  have hl := hl h
  obtain ⟨F0, args, φ, R, B, I, hS, kR, kB⟩ := h
  obtain ⟨tb, hd1, ht⟩ := hbody cdv A outer s H E ⟨F0, H, vs, φ⟩ hr
  rw [ebody]
  refine ⟨_, pss_one (ps_tryE (g := ⟨F0, H, vs, φ⟩) (tb := tb) (i := i) rfl rfl Sc.nd hi hln ⟨hxi, hdi, .inl mi⟩ (.inl hln) hd hcd hd1 Fe hr hxe me ke bn hdb rfl rfl), ?_⟩
  refine ⟨fun l p ρ => ρ[i]? = some .no ∧ R (.d (badD l p)) (ρ.take ps.length), fun cls d σ' H' ⟨l, p, ρ1, F1, φ1, dd, ⟨hno, hR⟩, I1, e1, e2, hdd, g1, g2, g3⟩ => ?_, body_run I hl (ht args R (hB _ _ _ hS)) kR⟩
  subst e1
  subst e2
  refine ⟨true, ex, fun _ a ha => ⟨dd, rfl, rfl, ?_, l, p, rfl, hdd, fun t H2 hk ht htup => ?_⟩, fun z => Bool.noConfusion z⟩
  · have hlt : i < σ'.length := by rw [I1.len]; exact slot_lt hno
    exact List.getElem?_set_self hlt
  · have S2 : Same F1 H2 := fun b o e => hk b o (I1.sub b o e)
    have pu : Pur F1 H' (upd F1 t (.tup [.str "bad", .int l, .int p])) H2 := ⟨same_upd (I1.sub.free ht), fun b o e => by
      by_cases hb : b = t
      · subst hb; rw [upd_same] at e; cases e; exact htup
      · rw [upd_ne hb] at e; exact S2 b o e, fun b o e => hk b o e, fun b e => by
      by_cases hb : b = t
      · subst hb; exact .inr ht
      · rw [upd_ne hb] at e; exact .inl e⟩
    refine kR (.d (badD l p)) ρ1 _ φ1 (σ'.set i (some (.ref a))) (.ref t) H2 (by rw [hl]; exact hR) ((I1.pure pu).ghost hno _) (I1.f0.trans pu.sub) ⟨t, _, rfl, .of upd_same, ?_⟩
    refine ⟨_, _, rfl, ?_, _, _, rfl, rfl, _, _, rfl, rfl, rfl⟩
    show V.str "bad" = V.str ⟨("bad" : Str).cps.toList.toArray⟩
    rw [Array.toArray_toList]
end DL

set_option maxRecDepth 100000
set_option maxHeartbeats 4000000
/-! _law_error_of -/
namespace K76
open PySem PySem.Spec PyProof.Rows L2 TL SkE DL EXH
structure HE (K : PySem.W.Frag) (mg : Str → Option Value) (C : Addr) : Prop where
  exc : ExC K C
  np : ∃ c, mg "NoPolynomial" = some (.ref c) ∧ PySem.W.kitOne K (.ref C) (.ref c) = some false
  ni : ∃ c, mg "NoIdeal" = some (.ref c) ∧ PySem.W.kitOne K (.ref C) (.ref c) = some false
  bt : mg "BadText" = some (.ref C) ∧ PySem.W.kitOne K (.ref C) (.ref C) = some true
  ve : mg "ValueError" = none ∧ PySem.W.kitOne K (.ref C) (.type "ValueError") = some true
  n1 : PySem.W.findIn K (.ref C) "line" = some none
  n2 : PySem.W.findIn K (.ref C) "place" = some none
  is_ : mg "isinstance" = none
  su : mg "sum" = none
  int : mg "int" = none
  ie : ∃ c, mg "IdealError" = some (.ref c) ∧ PySem.W.exmOne K (.ref C) (.ref c) = some true
section
variable {P : Program} {w : World} {K : PySem.W.Frag} {mg : Str → Option Value} {base : Heap} {C : Addr}
theorem ok_err (T : HE K mg C) {f : Addr} {fd : FuncData} (F : Fun K "_law_error_of" "_law_error_of" s__law_error_of f fd) : FnE P w K mg base C 1 f fd ["e"] spErr := by
  refine fnE_of F sc__law_error_of (by rintro _ _ _ _ _ _ ⟨_, _, rfl, _⟩; rfl) fun A outer s H vs Q E a dd oe cdv hB hr ⟨l, p, e, hx, q⟩ => ?_
  subst e
  obtain ⟨c1, g1, k1⟩ := T.np
  obtain ⟨c2, g2, k2⟩ := T.ni
  obtain ⟨g3, k3⟩ := T.bt
  obtain ⟨g4, k4⟩ := T.ve
  have nd := sc__law_error_of.nd
  refine ⟨_, pss_cons (ps_set (i := 1) nd rfl (Or.inl rfl) (pe_lst (pa_cons (pe_callB (call_isX hB T.exc) rfl T.is_ boot_isinstance (pa_cons (pv 0) (pa_cons (pe_glob (v := .ref c1) rfl g1 rfl) pa_nil)))
      (pa_cons (pe_callB (call_isX hB T.exc) rfl T.is_ boot_isinstance (pa_cons (pv 0) (pa_cons (pe_glob (v := .ref c2) rfl g2 rfl) pa_nil))) (pa_cons (pe_callB (call_isX hB T.exc) rfl T.is_ boot_isinstance (pa_cons (pv 0) (pa_cons (pe_glob (v := .ref C) rfl g3 rfl) pa_nil))) pa_nil)))))
    (pss_cons (ps_if (PW.pt (pw_or (pt_not (pt_val (pe_callB (call_isX hB T.exc) rfl T.is_ boot_isinstance (pa_cons (pv 0) (pa_cons (pe_bltn (v := .ty "ValueError") rfl g4 (by kernel_rfl) rfl) pa_nil)))))
      (pw_or1 (pt_cmpR op_ne (pe_callB (EXH.cr_sum hB) rfl T.su boot_sum (pa_cons (pe_ints hB (pv 1) T.int (by decide +kernel) rfl (by decide +kernel) rfl (fun _ _ => rfl) (fun _ _ => rfl) (fun _ _ => rfl)) pa_nil)) pe_int (nomark _))))) (pss_one ps_never) pss_nil)
    (pss_cons (ps_if (pt_val (pe_ix ix_list (pv 1) pe_int (fun _ _ => rfl))) (pss_one ps_never) pss_nil)
    (pss_cons (ps_if (pt_val (pe_ix ix_list (pv 1) pe_int (fun _ _ => rfl))) (pss_one ps_never) pss_nil)
    (pss_one (ps_ret (pe_tup (pa_cons pe_str (pa_cons (pe_fx hB T.exc T.n1 (pv 0)) (pa_cons (pe_fx hB T.exc T.n2 (pv 0)) pa_nil))))))))), ?_⟩
  have hv : ∀ c : Addr, ∀ u, RelV (.ref c) u → u = .ref c := fun c u h => h
  refine ⟨_, rfl, .ref c1, .ref c1, false, _, rfl, hv c1, k1, hx, _, rfl, .ref c2, .ref c2, false, _, rfl, hv c2, k2, hx, _, rfl, .ref C, .ref C, true, _, rfl, hv C, k3, hx, (by show 3 ≤ sizeLine; decide), fun D hD => ?_⟩
  have hx2 : (upd H D (.lst [.bl false, .bl false, .bl true])) dd = some (.xd (badFs l p)) := by rw [upd_ne (ne_of_none hx hD)]; exact hx
  have hL : (upd H D (.lst [.bl false, .bl false, .bl true])) D = some (.lst [.bl false, .bl false, .bl true]) := upd_same
  have k1 : ∀ b o, H b = some o → (upd H D (.lst [.bl false, .bl false, .bl true])) b = some o := fun b o e => by rw [upd_ne (ne_of_none e hD)]; exact e
  generalize hH1 : upd H D (.lst [.bl false, .bl false, .bl true]) = H1 at hx2 hL k1 ⊢
  refine ⟨_, rfl, .ty "ValueError", .type "ValueError", true, _, rfl, (fun u h => h), k4, hx2, true, rfl, ?_⟩
  refine ⟨_, rfl, D, [false, false, true], rfl, SqL.of hL, fun D2 hD2 => ?_⟩
  have hx3 : (upd H1 D2 (.lst [.int 0, .int 0, .int 1])) dd = some (.xd (badFs l p)) := by rw [upd_ne (ne_of_none hx2 hD2)]; exact hx2
  have hL3 : (upd H1 D2 (.lst [.int 0, .int 0, .int 1])) D = some (.lst [.bl false, .bl false, .bl true]) := by rw [upd_ne (ne_of_none hL hD2)]; exact hL
  have hS : (upd H1 D2 (.lst [.int 0, .int 0, .int 1])) D2 = some (.lst [.int 0, .int 0, .int 1]) := upd_same
  have k2 : ∀ b o, H b = some o → (upd H1 D2 (.lst [.int 0, .int 0, .int 1])) b = some o := fun b o e => by rw [upd_ne (ne_of_none (k1 b o e) hD2)]; exact k1 b o e
  show ∃ a ns, _
  have e2 : ([false, false, true].map fun b => V.int (if b = true then 1 else 0)) = [V.int 0, .int 0, .int 1] := rfl
  rw [e2]
  generalize hH2 : upd H1 D2 (.lst [.int 0, .int 0, .int 1]) = H2 at hx3 hL3 hS k2 ⊢
  refine ⟨D2, [0, 0, 1], rfl, SqL.of hS, ?_⟩
  refine ⟨rfl, _, rfl, ?_⟩
  refine ⟨_, rfl, D, _, 0, .bl false, rfl, rfl, SqL.of hL3, rfl, false, rfl, _, rfl, D, _, 1, .bl false, rfl, rfl, SqL.of hL3, rfl, false, rfl, ?_⟩
  refine ⟨_, rfl, rfl, _, .int l, hx3, rfl, _, rfl, rfl, _, .int p, hx3, (by unfold badFs; rw [DL.lookup2 (by decide +kernel), if_pos rfl]), (by show 3 ≤ sizeLine; decide), fun t ht => ?_⟩
  refine q t _ (fun b o e => by rw [upd_ne (ne_of_none (k2 b o e) ht)]; exact k2 b o e) ?_ upd_same
  cases e : H t with
  | none => rfl
  | some o =>
    have := k2 t o e
    rw [ht] at this
    cases this
end
end K76

set_option maxRecDepth 100000
set_option maxHeartbeats 4000000
/-! _law_read -/
namespace K76
open PySem PySem.Spec PyProof.Rows L2 TL SkE DL EXH
section
variable {P : Program} {w : World} {K : PySem.W.Frag} {mg : Str → Option Value} {base : Heap} {C_Line C_Bad : Addr}
def S_lread : DL.Spec := fun args R _ => ∃ s : List Nat, args = [.dat (.str s)] ∧ MR s ∧ s.length < sizeLine ∧ (outc s = none → ∀ x : D, R (.d (.lst [x])) args) ∧ (∀ p : Nat, outc s = some p → R (.d (DL.badD 0 p)) args)
theorem ok_lread (T : TX K mg C_Line) (hB : HB P K mg C_Bad) (E0 : HE K mg C_Bad) : FnG P w K mg base "_law_read" 7 ["text"] S_lread := by
  obtain ⟨f, fd, F, hm, bn⟩ := T.f__law_read
  obtain ⟨fe, fde, Fe, hme, bne⟩ := T.f__law_error_of
  obtain ⟨ci, gi, ki⟩ := E0.ie
  have g_read_paper := ok_readX (w := w) (base := base) T hB
  have Err := ok_err (P := P) (w := w) (mg := mg) (base := base) E0 Fe
  refine ⟨f, fd, 0, fn_try (k := 6) (i := 1) (C := C_Bad) F sc__law_read (by rintro _ _ _ ⟨_, rfl, _⟩; rfl) rfl rfl rfl rfl rfl (by decide) (by decide) (by decide) (by decide) gi ki ⟨Err.len, fun A outer s H args us vs Q E a dd oe hr => Err.run A outer s H args us vs Q E a dd oe (hr.mono (by omega))⟩ hme Fe.kp bne (fun cdv A outer s H E g hr => ⟨fun B => _, fun B pn xe tk po =>
    (dss_one (ds_ret (de_frz (de_lst (da_cons (dqx_fn tk g_read_paper hr (da_cons (dv 0) da_nil)) da_nil))))), ?_⟩) (fun _ _ _ h => h), hm, F.kp, bn⟩
  rintro args R ⟨s, rfl, hmr, hz, q1, q2⟩
  simp only [body0, List.length_cons, List.length_nil, List.replicate, Nat.reduceAdd, Nat.reduceSub, List.cons_append, List.nil_append]
  try simp only [dSeq, dNext, dSet, dVar, dC, dBin, dTest, dCall, dCons, dNil, dAnd, dOr, dNot, dIf, dIfS, dRet, dRetN, dDrop, dBreak, dCont, dAug, fAddA, dTup, dLst, dFrz, dListOf, dNeg, fNeg, dSl, dNoPart, dPart, fSl, dM1, dIsi, dIsi2, dAppend, dPop, dReverse, dSetAt, dAndV, dOrV, dNotV, dB, dFld, dFldSet, dFldAdd, dMeth, dFn, dMake, dAsg, dgName, dgTwo, dgTwoL, dgThree, iSeq, iRange1, iRange2, iRange3, dFor, dLc, dYes, dKs, dKPush, dKTop, dKPop, dKLen, dOut, dFz, frzSl, stkAt, ownAt, obAt, rd1, rdL, rdD, datas, seqv, seqvs, stSl, rvSl, RV.hold, fI, fLen, fInt, fStr, fTuple, fAdd, fMul, fEq, fIn, fIsN, fIx, fJoin, List.getElem?_cons_zero, List.getElem?_cons_succ, List.getElem?_nil, List.set_cons_zero, List.set_cons_succ, List.length_cons, List.length_nil, eq_self_iff_true, true_and, and_true, Option.some.injEq, exists_eq_left']
  refine ⟨List.nodup_nil, _, rfl, s, rfl, hmr, hz, fun e x => ⟨rfl, trivial, ?_⟩, fun p e => ⟨trivial, rfl, q2 p e⟩⟩
  simp only [wr, Sl.fl, Sl.mn, List.getD_cons_zero, List.getD_cons_succ, List.set_cons_zero, List.set_cons_succ]
  try simp only [dSeq, dNext, dSet, dVar, dC, dBin, dTest, dCall, dCons, dNil, dAnd, dOr, dNot, dIf, dIfS, dRet, dRetN, dDrop, dBreak, dCont, dAug, fAddA, dTup, dLst, dFrz, dListOf, dNeg, fNeg, dSl, dNoPart, dPart, fSl, dM1, dIsi, dIsi2, dAppend, dPop, dReverse, dSetAt, dAndV, dOrV, dNotV, dB, dFld, dFldSet, dFldAdd, dMeth, dFn, dMake, dAsg, dgName, dgTwo, dgTwoL, dgThree, iSeq, iRange1, iRange2, iRange3, dFor, dLc, dYes, dKs, dKPush, dKTop, dKPop, dKLen, dOut, dFz, frzSl, stkAt, ownAt, obAt, rd1, rdL, rdD, datas, seqv, seqvs, stSl, rvSl, RV.hold, fI, fLen, fInt, fStr, fTuple, fAdd, fMul, fEq, fIn, fIsN, fIx, fJoin, List.getElem?_cons_zero, List.getElem?_cons_succ, List.getElem?_nil, List.set_cons_zero, List.set_cons_succ, List.length_cons, List.length_nil, eq_self_iff_true, true_and, and_true, Option.some.injEq, exists_eq_left']
  exact ⟨by decide, q1 e x⟩
end
end K76

set_option maxRecDepth 100000
set_option maxHeartbeats 4000000
/-! The law. -/
namespace K76
open PySem PySem.Spec PyProof.Rows L2 TL SkE DL
/-! ### texts as they stand -/
def lexF : Nat → List Nat → Nat → List (List Nat × Nat) × Option Nat
  | 0, _, _ => ([], none)
  | _, [], _ => ([], none)
  | n + 1, c :: r, i =>
    if c = 32 then lexF n r (i + 1)
    else if c ∈ SGN then (([c], i) :: (lexF n r (i + 1)).1, (lexF n r (i + 1)).2)
    else if c ∈ LET then ((c :: r.take (run r LET), i) :: (lexF n (r.drop (run r LET)) (i + 1 + run r LET)).1, (lexF n (r.drop (run r LET)) (i + 1 + run r LET)).2)
    else if c ∈ DIG then
      if c = 48 ∧ 0 < run r DIG then ([], some i)
      else ((c :: r.take (run r DIG), i) :: (lexF n (r.drop (run r DIG)) (i + 1 + run r DIG)).1, (lexF n (r.drop (run r DIG)) (i + 1 + run r DIG)).2)
    else ([], some i)
theorem lexF_eq : ∀ (n : Nat) (s : List Nat) (i : Nat), s.length ≤ n → lexF n s i = lexR s i
  | 0, [], i, _ => by rw [lexR]; rfl
  | 0, c :: r, i, h => by simp at h
  | n + 1, [], i, _ => by rw [lexR]; rfl
  | n + 1, c :: r, i, h => by
    have h' : r.length ≤ n := by simpa using h
    have i0 := lexF_eq n r (i + 1) h'
    have i1 := lexF_eq n (r.drop (run r LET)) (i + 1 + run r LET) (by simp; omega)
    have i2 := lexF_eq n (r.drop (run r DIG)) (i + 1 + run r DIG) (by simp; omega)
    rw [lexR]
    simp only [lexF, i0, i1, i2]
def outF (s : List Nat) : Option Nat := flt (lexF s.length s 0).2 s.length .th 0 (lexF s.length s 0).1
theorem outF_eq (s : List Nat) : outc s = outF s := by
  unfold outc outF
  rw [lexF_eq _ _ _ (Nat.le_refl _)]
def askedL : List (List Nat × Nat) := [(cd "", 0), (cd "  ", 2), (cd "(", 1), (cd "(1, 2", 5), (cd "(1,)", 3), (cd "(,1)", 1), (cd "1 2", 2), (cd "()()", 2), (cd "-0", 1),
  (cd "- ", 2), (cd "-x", 1), (cd "--1", 1), (cd "1)", 1), (cd "(1 2)", 3), (cd "01", 0), (cd "(1, 00)", 4), (cd "+1", 0), (cd "None", 0), (cd "(none, 1/2)", 8), (cd "1\n", 1), (cd "(a:b)", 2), (cd "a_b", 1)]
def askD (q : List Nat × Nat) : D := .lst [.str q.1, .int (q.2 : Int)]
theorem asked_ok : ∀ q ∈ askedL, outc q.1 = some q.2 ∧ q.1.length ≤ 640 ∧ q.2 ≤ 640 := by
  have h : ∀ q ∈ askedL, outF q.1 = some q.2 ∧ q.1.length ≤ 640 ∧ q.2 ≤ 640 := by decide +kernel
  intro q hq
  rw [outF_eq]
  exact h q hq
section
variable {P : Program} {w : World} {K : PySem.W.Frag} {mg : Str → Option Value} {base : Heap} {C_Line C_Bad : Addr}
theorem lex_le : ∀ (n : Nat) (s : List Nat) (i : Nat), s.length ≤ n → (∀ q ∈ (lexR s i).1, q.2 ≤ i + s.length) ∧ ∀ b, (lexR s i).2 = some b → b ≤ i + s.length
  | _, [], i, _ => by rw [lexR]; exact ⟨fun q h => by simp at h, fun b h => by cases h⟩
  | 0, c :: r, i, hn => by simp at hn
  | n + 1, c :: r, i, hn => by
    have hn' : r.length ≤ n := by simpa using hn
    have key : ∀ m, m ≤ r.length → (∀ q ∈ (lexR (r.drop m) (i + 1 + m)).1, q.2 ≤ i + (c :: r).length) ∧ ∀ b, (lexR (r.drop m) (i + 1 + m)).2 = some b → b ≤ i + (c :: r).length := fun m hm => by
      obtain ⟨h1, h2⟩ := lex_le n (r.drop m) (i + 1 + m) (by simp; omega)
      have e : (r.drop m).length = r.length - m := by simp
      rw [e] at h1 h2
      refine ⟨fun q hq => ?_, fun b hb => ?_⟩
      · have := h1 q hq; simp only [List.length_cons]; omega
      · have := h2 b hb; simp only [List.length_cons]; omega
    have k0 := key 0 (Nat.zero_le _)
    rw [List.drop_zero, Nat.add_zero] at k0
    have k1 := key (run r LET) (run_le _ _)
    have k2 := key (run r DIG) (run_le _ _)
    have cons : ∀ (t : List Nat) (L : List (List Nat × Nat)), (∀ q ∈ L, q.2 ≤ i + (c :: r).length) → ∀ q ∈ (t, i) :: L, q.2 ≤ i + (c :: r).length := fun t L h q hq => by
      rcases List.mem_cons.mp hq with rfl | hq
      · exact Nat.le_add_right _ _
      · exact h q hq
    have bad : ∀ b, some i = some b → b ≤ i + (c :: r).length := fun b e => by cases e; exact Nat.le_add_right _ _
    rw [lexR]
    split
    · exact k0
    · split
      · exact ⟨cons _ _ k0.1, k0.2⟩
      · split
        · exact ⟨cons _ _ k1.1, k1.2⟩
        · split
          · split
            · exact ⟨fun q h => by simp at h, bad⟩
            · exact ⟨cons _ _ k2.1, k2.2⟩
          · exact ⟨fun q h => by simp at h, bad⟩
theorem flt_le {bad : Option Nat} {len M p : Nat} (hf : fin bad len ≤ M) : ∀ {rs : List (List Nat × Nat)} {st : Stg} {d : Nat}, (∀ q ∈ rs, q.2 ≤ M) → flt bad len st d rs = some p → p ≤ M
  | [], st, d, _, h => by
    have e : flt bad len st d [] = if st = .be ∧ d = 0 ∧ bad = none then none else some (fin bad len) := by cases st <;> rfl
    rw [e] at h
    split at h
    · cases h
    · cases h; exact hf
  | (t, q) :: r, st, d, hq, h => by
    have h0 : q ≤ M := hq (t, q) List.mem_cons_self
    have hr : ∀ x ∈ r, x.2 ≤ M := fun x hx => hq x (List.mem_cons_of_mem _ hx)
    have go : ∀ {st' : Stg} {d' : Nat}, flt bad len st' d' r = some p → p ≤ M := fun h => flt_le hf hr h
    cases st <;> simp only [flt] at h <;> (repeat' split at h) <;> first | exact go h | (cases h; exact h0)
theorem outc_le {s : List Nat} {p : Nat} (h : outc s = some p) : p ≤ s.length := by
  have k := lex_le _ s 0 (Nat.le_refl _)
  rw [Nat.zero_add] at k
  unfold outc at h
  refine flt_le ?_ k.1 h
  cases e : (lexR s 0).2 with
  | none => exact Nat.le_refl _
  | some b => exact k.2 b e
theorem sep_ok : ∀ {l : List K76.Tok}, sep l → ∀ t ∈ l, t.ok
  | [t], h, u, hu => by rw [List.mem_singleton.mp hu]; exact h
  | t :: t2 :: r, h, u, hu => by
    rcases List.mem_cons.mp hu with rfl | hu
    · exact h.1
    · exact sep_ok h.2.2 u hu
theorem MR_let {w : List Nat} (h : ∀ c ∈ w, c ∈ LET) : MR w := fun p m q e hm => by
  cases m with
  | nil => simp
  | cons c m =>
    have h1 := mem_let.mp (h c (by rw [e]; simp))
    have h2 := mem_dig.mp (hm c List.mem_cons_self)
    omega
theorem MR_tok {t : K76.Tok} (h : t.ok) : MR t.tt := by
  cases t with
  | sg c => exact MR.short (by show 1 ≤ 640; decide)
  | wd w => exact MR_let h.2.2
  | nm n => exact MR.short h
def moA : List (List Nat) := [cd "(", cd ")", cd ",", cd "-", cd "5", cd "0"]
def moB : List (List Nat) := [cd "none", cd "+", cd ";", cd "^", cd "07", cd "B", cd ".", cd "\t"]
theorem moA_ok : tz moA ≤ 1000 ∧ ∀ t ∈ moA, t ≠ [] ∧ t.length ≤ 640 := by decide +kernel
theorem moB_ok : tz moB ≤ 1000 ∧ ∀ t ∈ moB, t ≠ [] ∧ t.length ≤ 640 := by decide +kernel
def S_law : DL.Spec := fun args R _ => ∃ ns : List Int, args = [.dat (.scr (iD ns))] ∧ R (.d (.bl true)) args
theorem asC {s : List Nat} {i : Int} {ts : DA} {ρ : List Sl} {Q : List RV → List Sl → Prop} (h : ts ρ fun rs ρ1 => Q (.d (.lst [.str s, .int i]) :: rs) ρ1) : dCons (dFrz (dLst (dCons (dC (.str s)) (dCons (dC (.int i)) dNil)))) ts ρ Q := ⟨rfl, rfl, (by show 2 ≤ sizeLine; decide), rfl, h⟩
theorem bad_same {p : Nat} (h : p ≤ 2 ^ 24) : wf (DL.badD 0 (p : Int)) ∧ dep (DL.badD 0 (p : Int)) < 60 ∧ nd (DL.badD 0 (p : Int)) ≤ 2 ^ 22 := by
  have h10 : (2 : Nat) ^ 24 < 10 ^ 40 := by decide
  refine ⟨⟨⟨by decide +kernel, by decide +kernel, by decide +kernel⟩, int_small (by decide +kernel), int_small (by show ((p : Int)).natAbs < _; omega), trivial⟩, ?_, ?_⟩
  · show 1 + _ < 60
    simp [deps, dep]
  · show 2 + _ ≤ _
    simp [nds, nd]
theorem ok_law (T : TX K mg C_Line) (hB : HB P K mg C_Bad) (E0 : HE K mg C_Bad) {f : Addr} {fd : FuncData} (F : Fun K "law" "law" s_law f fd) : FnOk P w K mg base CX0 71 f fd ["script"] (spD K 0 S_law) := by
  have g__law_draws := ok_draws (P := P) (w := w) (base := base) T
  have g__law_words := ok_words (P := P) (w := w) (base := base) T
  have g__law_take := ok_ltake (P := P) (w := w) (base := base) T
  have g__law_thing := ok_thing (P := P) (w := w) (base := base) T 7
  have g__law_same := ok_same (P := P) (w := w) (base := base) T 60
  have g__law_paper_tokens := ok_ptoks (P := P) (w := w) (base := base) T 60
  have g__law_spread := ok_spG (P := P) (w := w) (base := base) T
  have g__law_tokens_spoilt := ok_spoilt (P := P) (w := w) (base := base) T
  have g__law_paper_fault := ok_pf (P := P) (w := w) (base := base) T
  have g__law_read := ok_lread (P := P) (w := w) (base := base) T hB E0
  refine fn_d F sc_law (by rintro _ _ _ ⟨_, rfl, _⟩; rfl) (fun cdv A outer s H E g hr => ⟨_, (dss_cons (ds_set (i := 1) sc_law.nd rfl (by first | exact Or.inl rfl | exact Or.inr rfl) (dq_fn g__law_draws (hr.mono (by omega)) (da_cons (dv 0) (da_cons de_int da_nil))))
 (dss_cons (ds_set (i := 2) sc_law.nd rfl (by first | exact Or.inl rfl | exact Or.inr rfl) (dq_fn g__law_words (hr.mono (by omega)) (da_cons (dv 1) (da_cons de_int da_nil))))
 (dss_cons (ds_set (i := 3) sc_law.nd rfl (by first | exact Or.inl rfl | exact Or.inr rfl) (de_frz (de_lst (da_cons (de_frz (de_lst (da_cons de_str (da_cons de_int da_nil)))) (da_cons (de_frz (de_lst (da_cons de_str (da_cons de_int da_nil)))) (da_cons (de_frz (de_lst (da_cons de_str (da_cons de_int da_nil)))) (da_cons (de_frz (de_lst (da_cons de_str (da_cons de_int da_nil)))) (da_cons (de_frz (de_lst (da_cons de_str (da_cons de_int da_nil)))) (da_cons (de_frz (de_lst (da_cons de_str (da_cons de_int da_nil)))) (da_cons (de_frz (de_lst (da_cons de_str (da_cons de_int da_nil)))) (da_cons (de_frz (de_lst (da_cons de_str (da_cons de_int da_nil)))) (da_cons (de_frz (de_lst (da_cons de_str (da_cons de_int da_nil)))) (da_cons (de_frz (de_lst (da_cons de_str (da_cons de_int da_nil)))) (da_cons (de_frz (de_lst (da_cons de_str (da_cons de_int da_nil)))) (da_cons (de_frz (de_lst (da_cons de_str (da_cons de_int da_nil)))) (da_cons (de_frz (de_lst (da_cons de_str (da_cons de_int da_nil)))) (da_cons (de_frz (de_lst (da_cons de_str (da_cons de_int da_nil)))) (da_cons (de_frz (de_lst (da_cons de_str (da_cons de_int da_nil)))) (da_cons (de_frz (de_lst (da_cons de_str (da_cons de_int da_nil)))) (da_cons (de_frz (de_lst (da_cons de_str (da_cons de_int da_nil)))) (da_cons (de_frz (de_lst (da_cons de_str (da_cons de_int da_nil)))) (da_cons (de_frz (de_lst (da_cons de_str (da_cons de_int da_nil)))) (da_cons (de_frz (de_lst (da_cons de_str (da_cons de_int da_nil)))) (da_cons (de_frz (de_lst (da_cons de_str (da_cons de_int da_nil)))) (da_cons (de_frz (de_lst (da_cons de_str (da_cons de_int da_nil)))) da_nil)))))))))))))))))))))))))
 (dss_cons (ds_for PassesOwn.never rfl (di_seq (dv 3)) (dg_twoL (i := 5) (j := 6) rfl sc_law.nd rfl (by first | exact Or.inl rfl | exact Or.inr rfl) rfl (by first | exact Or.inl rfl | exact Or.inr rfl))
 (dss_one (ds_if (dt_w (dw_or (dt_not (dt_val (dq_fn g__law_same (hr.mono (by omega)) (da_cons (dq_fn g__law_read (hr.mono (by omega)) (da_cons (dv 5) da_nil)) (da_cons (de_tup (da_cons de_str (da_cons de_int (da_cons (dv 6) da_nil)))) da_nil))))) (dw_or1 (dt_cmp (o_ne (by exact hr.units)) (dq_fn g__law_paper_fault (hr.mono (by omega)) (da_cons (dv 5) da_nil)) (dv 6)))))
 (dss_one (ds_ret de_bl))
 dss_nil)))
 (dss_cons (ds_for PassesOwn.never rfl (di_range1 rfl T.n_range (da_cons de_int da_nil)) (dg_name (i := 4) sc_law.nd rfl (by first | exact Or.inl rfl | exact Or.inr rfl))
 (dss_cons (ds_set (i := 7) sc_law.nd rfl (by first | exact Or.inl rfl | exact Or.inr rfl) (dq_fn g__law_paper_tokens (hr.mono (by omega)) (da_cons (dq_fn g__law_thing (hr.mono (by omega)) (da_cons (dv 1) (da_cons (dv 2) (da_cons (de_op o_add de_int (dq_fn g__law_take (hr.mono (by omega)) (da_cons (dv 1) (da_cons de_int da_nil)))) da_nil)))) da_nil)))
 (dss_cons (ds_set (i := 8) sc_law.nd rfl (by first | exact Or.inl rfl | exact Or.inr rfl) (de_frz (de_lst (da_cons de_str (da_cons de_str (da_cons de_str (da_cons de_str (da_cons de_str (da_cons de_str (da_cons (de_ix (dv 2) de_int) (da_cons de_str (da_cons de_str (da_cons de_str (da_cons de_str (da_cons de_str (da_cons de_str (da_cons de_str (da_cons de_str da_nil))))))))))))))))))
 (dss_cons (ds_set (i := 5) sc_law.nd rfl (by first | exact Or.inl rfl | exact Or.inr rfl) (dq_fn g__law_spread (hr.mono (by omega)) (da_cons (dv 1) (da_cons (dq_fn g__law_tokens_spoilt (hr.mono (by omega)) (da_cons (dv 1) (da_cons (dv 7) (da_cons (dv 8) da_nil)))) da_nil))))
 (dss_cons (ds_set (i := 6) sc_law.nd rfl (by first | exact Or.inl rfl | exact Or.inr rfl) (dq_fn g__law_paper_fault (hr.mono (by omega)) (da_cons (dv 5) da_nil)))
 (dss_cons (ds_set (i := 9) sc_law.nd rfl (by first | exact Or.inl rfl | exact Or.inr rfl) (dq_fn g__law_read (hr.mono (by omega)) (da_cons (dv 5) da_nil)))
 (dss_cons (ds_if (dt_cmp (o_ne (by exact hr.units)) (de_cmp (o_isN) (dv 6) de_non) (de_isi rfl T.n_isinstance (dv 9) rfl T.n_list boot_list))
 (dss_one (ds_ret de_bl))
 dss_nil)
 (dss_one (ds_if (dt_w (dw_and (dt_cmp (o_notN) (dv 6) de_non) (dw_and1 (dt_not (dt_val (dq_fn g__law_same (hr.mono (by omega)) (da_cons (dv 9) (da_cons (de_tup (da_cons de_str (da_cons de_int (da_cons (dv 6) da_nil)))) da_nil))))))))
 (dss_one (ds_ret de_bl))
 dss_nil)))))))))
 (dss_one (ds_ret de_bl))))))), ?_⟩) (fun _ _ _ h => h)
  rintro args R ⟨ns, rfl, q⟩
  have h24 := sz24
  simp only [body0, List.length_cons, List.length_nil, List.replicate, Nat.reduceAdd, Nat.reduceSub, List.cons_append, List.nil_append]
  refine seq_key (fun ρ' => ∃ ns', ρ' = [.dat (.scr (iD ns)), .own true (iD ns'), .no, .no, .no, .no, .no, .no, .no, .no]) (fun nx hnx => ?_) ?_
  · try simp only [dSeq, dNext, dSet, dVar, dC, dBin, dTest, dCall, dCons, dNil, dAnd, dOr, dNot, dIf, dIfS, dRet, dRetN, dDrop, dBreak, dCont, dAug, fAddA, dTup, dLst, dFrz, dListOf, dNeg, fNeg, dSl, dNoPart, dPart, fSl, dM1, dIsi, dIsi2, dAppend, dPop, dReverse, dSetAt, dAndV, dOrV, dNotV, dB, dFld, dFldSet, dFldAdd, dMeth, dFn, dMake, dAsg, dgName, dgTwo, dgTwoL, dgThree, iSeq, iRange1, iRange2, iRange3, dFor, dLc, dYes, dKs, dKPush, dKTop, dKPop, dKLen, dOut, dFz, frzSl, stkAt, ownAt, obAt, rd1, rdL, rdD, datas, seqv, seqvs, stSl, rvSl, RV.hold, fI, fLen, fInt, fStr, fTuple, fAdd, fMul, fEq, fIn, fIsN, fIx, fJoin, List.getElem?_cons_zero, List.getElem?_cons_succ, List.getElem?_nil, List.set_cons_zero, List.set_cons_succ, List.length_cons, List.length_nil, eq_self_iff_true, true_and, and_true, Option.some.injEq, exists_eq_left']
    refine ⟨List.nodup_nil, _, rfl, ns, 700, rfl, by decide, fun ns' => ⟨rfl, trivial, ?_⟩⟩
    simp only [wr, Sl.fl, Sl.mn, List.getD_cons_zero, List.getD_cons_succ, List.set_cons_zero, List.set_cons_succ]
    try simp only [dSeq, dNext, dSet, dVar, dC, dBin, dTest, dCall, dCons, dNil, dAnd, dOr, dNot, dIf, dIfS, dRet, dRetN, dDrop, dBreak, dCont, dAug, fAddA, dTup, dLst, dFrz, dListOf, dNeg, fNeg, dSl, dNoPart, dPart, fSl, dM1, dIsi, dIsi2, dAppend, dPop, dReverse, dSetAt, dAndV, dOrV, dNotV, dB, dFld, dFldSet, dFldAdd, dMeth, dFn, dMake, dAsg, dgName, dgTwo, dgTwoL, dgThree, iSeq, iRange1, iRange2, iRange3, dFor, dLc, dYes, dKs, dKPush, dKTop, dKPop, dKLen, dOut, dFz, frzSl, stkAt, ownAt, obAt, rd1, rdL, rdD, datas, seqv, seqvs, stSl, rvSl, RV.hold, fI, fLen, fInt, fStr, fTuple, fAdd, fMul, fEq, fIn, fIsN, fIx, fJoin, List.getElem?_cons_zero, List.getElem?_cons_succ, List.getElem?_nil, List.set_cons_zero, List.set_cons_succ, List.length_cons, List.length_nil, eq_self_iff_true, true_and, and_true, Option.some.injEq, exists_eq_left']
    exact ⟨by decide, hnx _ ⟨ns', rfl⟩⟩
  rintro _ ⟨ns1, rfl⟩
  refine seq_key (fun ρ' => ∃ (ns' : List Int) (ws : List (List Nat)), ρ' = [.dat (.scr (iD ns)), .own true (iD ns'), .dat (.lst (sD ws)), .no, .no, .no, .no, .no, .no, .no] ∧ (∀ w ∈ ws, wOk w) ∧ ws.length = 3) (fun nx hnx => ?_) ?_
  · try simp only [dSeq, dNext, dSet, dVar, dC, dBin, dTest, dCall, dCons, dNil, dAnd, dOr, dNot, dIf, dIfS, dRet, dRetN, dDrop, dBreak, dCont, dAug, fAddA, dTup, dLst, dFrz, dListOf, dNeg, fNeg, dSl, dNoPart, dPart, fSl, dM1, dIsi, dIsi2, dAppend, dPop, dReverse, dSetAt, dAndV, dOrV, dNotV, dB, dFld, dFldSet, dFldAdd, dMeth, dFn, dMake, dAsg, dgName, dgTwo, dgTwoL, dgThree, iSeq, iRange1, iRange2, iRange3, dFor, dLc, dYes, dKs, dKPush, dKTop, dKPop, dKLen, dOut, dFz, frzSl, stkAt, ownAt, obAt, rd1, rdL, rdD, datas, seqv, seqvs, stSl, rvSl, RV.hold, fI, fLen, fInt, fStr, fTuple, fAdd, fMul, fEq, fIn, fIsN, fIx, fJoin, List.getElem?_cons_zero, List.getElem?_cons_succ, List.getElem?_nil, List.set_cons_zero, List.set_cons_succ, List.length_cons, List.length_nil, eq_self_iff_true, true_and, and_true, Option.some.injEq, exists_eq_left']
    refine ⟨by simp [lent], _, rfl, false, ns1, rfl, fun ws ns' hws h3 => ⟨rfl, ⟨⟨rfl, rfl⟩, trivial⟩, ?_⟩⟩
    simp only [wr, Sl.fl, Sl.mn, List.getD_cons_zero, List.getD_cons_succ, List.set_cons_zero, List.set_cons_succ]
    try simp only [dSeq, dNext, dSet, dVar, dC, dBin, dTest, dCall, dCons, dNil, dAnd, dOr, dNot, dIf, dIfS, dRet, dRetN, dDrop, dBreak, dCont, dAug, fAddA, dTup, dLst, dFrz, dListOf, dNeg, fNeg, dSl, dNoPart, dPart, fSl, dM1, dIsi, dIsi2, dAppend, dPop, dReverse, dSetAt, dAndV, dOrV, dNotV, dB, dFld, dFldSet, dFldAdd, dMeth, dFn, dMake, dAsg, dgName, dgTwo, dgTwoL, dgThree, iSeq, iRange1, iRange2, iRange3, dFor, dLc, dYes, dKs, dKPush, dKTop, dKPop, dKLen, dOut, dFz, frzSl, stkAt, ownAt, obAt, rd1, rdL, rdD, datas, seqv, seqvs, stSl, rvSl, RV.hold, fI, fLen, fInt, fStr, fTuple, fAdd, fMul, fEq, fIn, fIsN, fIx, fJoin, List.getElem?_cons_zero, List.getElem?_cons_succ, List.getElem?_nil, List.set_cons_zero, List.set_cons_succ, List.length_cons, List.length_nil, eq_self_iff_true, true_and, and_true, Option.some.injEq, exists_eq_left']
    exact ⟨by decide, hnx _ ⟨ns', ws, rfl, fun w hw => by have h := hws w hw; exact ⟨h.1, Nat.le_trans h.2.1 (by decide), h.2.2⟩, h3⟩⟩
  rintro _ ⟨ns2, ws, rfl, hws, h3⟩
  refine seq_key (fun ρ' => ρ' = [.dat (.scr (iD ns)), .own true (iD ns2), .dat (.lst (sD ws)), .dat (.lst (askedL.map askD)), .no, .no, .no, .no, .no, .no]) (fun nx hnx => ?_) ?_
  · unfold dSet dFrz dLst
    iterate 22 refine asC ?_
    exact ⟨by decide, by simp, hnx _ rfl⟩
  rintro _ rfl
  refine seq_key (fun ρ' => ∃ (x4 x5 : Sl), ρ' = [.dat (.scr (iD ns)), .own true (iD ns2), .dat (.lst (sD ws)), .dat (.lst (askedL.map askD)), .no, x4, x5, .no, .no, .no]) (fun nx hnx => ?_) ?_
  · refine ⟨rfl, ?_⟩
    refine forGo (askedL.map askD) (fun j ρ => ∃ (x4 x5 : Sl), ρ = [.dat (.scr (iD ns)), .own true (iD ns2), .dat (.lst (sD ws)), .dat (.lst (askedL.map askD)), .no, x4, x5, .no, .no, .no])
      (fun j d ρ Kk hd ⟨x4, x5, h1⟩ hK => ?step) (fun ρ ⟨x4, x5, h1⟩ => hnx _ ⟨x4, x5, h1⟩) ⟨_, _, rfl⟩
    case step =>
      subst h1
      rw [List.getElem?_map] at hd
      obtain ⟨⟨s, p⟩, hq, rfl⟩ := Option.map_eq_some_iff.mp hd
      obtain ⟨o1, o2, o3⟩ := asked_ok _ (List.mem_of_getElem? hq)
      change outc s = some p at o1
      change s.length ≤ 640 at o2
      change p ≤ 640 at o3
      obtain ⟨b1, b2, b3⟩ := bad_same (p := p) (Nat.le_trans o3 (by decide))
      have hs := sz24
      refine ⟨⟨by simp, by simp⟩, ?_⟩
      show dIfS _ _ _ _ [.dat (.scr (iD ns)), .own true (iD ns2), .dat (.lst (sD ws)), .dat (.lst (askedL.map askD)), .no, .dat (.str s), .dat (.int (p : Int)), .no, .no, .no]
      refine ifF (fun Q hQ => ?_) (hK _ ⟨_, _, rfl⟩)
      try simp only [dSeq, dNext, dSet, dVar, dC, dBin, dTest, dCall, dCons, dNil, dAnd, dOr, dNot, dIf, dIfS, dRet, dRetN, dDrop, dBreak, dCont, dAug, fAddA, dTup, dLst, dFrz, dListOf, dNeg, fNeg, dSl, dNoPart, dPart, fSl, dM1, dIsi, dIsi2, dAppend, dPop, dReverse, dSetAt, dAndV, dOrV, dNotV, dB, dFld, dFldSet, dFldAdd, dMeth, dFn, dMake, dAsg, dgName, dgTwo, dgTwoL, dgThree, iSeq, iRange1, iRange2, iRange3, dFor, dLc, dYes, dKs, dKPush, dKTop, dKPop, dKLen, dOut, dFz, frzSl, stkAt, ownAt, obAt, rd1, rdL, rdD, datas, seqv, seqvs, stSl, rvSl, RV.hold, fI, fLen, fInt, fStr, fTuple, fAdd, fMul, fEq, fIn, fIsN, fIx, fJoin, List.getElem?_cons_zero, List.getElem?_cons_succ, List.getElem?_nil, List.set_cons_zero, List.set_cons_succ, List.length_cons, List.length_nil, eq_self_iff_true, true_and, and_true, Option.some.injEq, exists_eq_left']
      refine ⟨List.nodup_nil, _, rfl, s, rfl, MR.short o2, by omega, (fun e => absurd (o1.symm.trans e) (by simp)), fun p' e => ⟨rfl, trivial, ?_⟩⟩
      rw [o1] at e
      cases e
      simp only [wr, Sl.fl, Sl.mn, List.getD_cons_zero, List.getD_cons_succ, List.set_cons_zero, List.set_cons_succ]
      try simp only [dSeq, dNext, dSet, dVar, dC, dBin, dTest, dCall, dCons, dNil, dAnd, dOr, dNot, dIf, dIfS, dRet, dRetN, dDrop, dBreak, dCont, dAug, fAddA, dTup, dLst, dFrz, dListOf, dNeg, fNeg, dSl, dNoPart, dPart, fSl, dM1, dIsi, dIsi2, dAppend, dPop, dReverse, dSetAt, dAndV, dOrV, dNotV, dB, dFld, dFldSet, dFldAdd, dMeth, dFn, dMake, dAsg, dgName, dgTwo, dgTwoL, dgThree, iSeq, iRange1, iRange2, iRange3, dFor, dLc, dYes, dKs, dKPush, dKTop, dKPop, dKLen, dOut, dFz, frzSl, stkAt, ownAt, obAt, rd1, rdL, rdD, datas, seqv, seqvs, stSl, rvSl, RV.hold, fI, fLen, fInt, fStr, fTuple, fAdd, fMul, fEq, fIn, fIsN, fIx, fJoin, List.getElem?_cons_zero, List.getElem?_cons_succ, List.getElem?_nil, List.set_cons_zero, List.set_cons_succ, List.length_cons, List.length_nil, eq_self_iff_true, true_and, and_true, Option.some.injEq, exists_eq_left']
      refine ⟨by decide, List.nodup_nil, _, rfl, DL.badD 0 (p : Int), rfl, .inl b1, b2, b3, rfl, trivial, ?_⟩
      simp only [wr, Sl.fl, Sl.mn, List.getD_cons_zero, List.getD_cons_succ, List.set_cons_zero, List.set_cons_succ]
      try simp only [dSeq, dNext, dSet, dVar, dC, dBin, dTest, dCall, dCons, dNil, dAnd, dOr, dNot, dIf, dIfS, dRet, dRetN, dDrop, dBreak, dCont, dAug, fAddA, dTup, dLst, dFrz, dListOf, dNeg, fNeg, dSl, dNoPart, dPart, fSl, dM1, dIsi, dIsi2, dAppend, dPop, dReverse, dSetAt, dAndV, dOrV, dNotV, dB, dFld, dFldSet, dFldAdd, dMeth, dFn, dMake, dAsg, dgName, dgTwo, dgTwoL, dgThree, iSeq, iRange1, iRange2, iRange3, dFor, dLc, dYes, dKs, dKPush, dKTop, dKPop, dKLen, dOut, dFz, frzSl, stkAt, ownAt, obAt, rd1, rdL, rdD, datas, seqv, seqvs, stSl, rvSl, RV.hold, fI, fLen, fInt, fStr, fTuple, fAdd, fMul, fEq, fIn, fIsN, fIx, fJoin, List.getElem?_cons_zero, List.getElem?_cons_succ, List.getElem?_nil, List.set_cons_zero, List.set_cons_succ, List.length_cons, List.length_nil, eq_self_iff_true, true_and, and_true, Option.some.injEq, exists_eq_left']
      refine ⟨List.nodup_nil, _, rfl, s, rfl, by omega, rfl, trivial, ?_⟩
      simp only [wr, Sl.fl, Sl.mn, List.getD_cons_zero, List.getD_cons_succ, List.set_cons_zero, List.set_cons_succ]
      rw [o1, show K76.badD (some p) = D.int (p : Int) from rfl]
      try simp only [dSeq, dNext, dSet, dVar, dC, dBin, dTest, dCall, dCons, dNil, dAnd, dOr, dNot, dIf, dIfS, dRet, dRetN, dDrop, dBreak, dCont, dAug, fAddA, dTup, dLst, dFrz, dListOf, dNeg, fNeg, dSl, dNoPart, dPart, fSl, dM1, dIsi, dIsi2, dAppend, dPop, dReverse, dSetAt, dAndV, dOrV, dNotV, dB, dFld, dFldSet, dFldAdd, dMeth, dFn, dMake, dAsg, dgName, dgTwo, dgTwoL, dgThree, iSeq, iRange1, iRange2, iRange3, dFor, dLc, dYes, dKs, dKPush, dKTop, dKPop, dKLen, dOut, dFz, frzSl, stkAt, ownAt, obAt, rd1, rdL, rdD, datas, seqv, seqvs, stSl, rvSl, RV.hold, fI, fLen, fInt, fStr, fTuple, fAdd, fMul, fEq, fIn, fIsN, fIx, fJoin, List.getElem?_cons_zero, List.getElem?_cons_succ, List.getElem?_nil, List.set_cons_zero, List.set_cons_succ, List.length_cons, List.length_nil, eq_self_iff_true, true_and, and_true, Option.some.injEq, exists_eq_left']
      simpa using hQ
  rintro _ ⟨x5, x6, rfl⟩
  have done_ : ∀ ρ', (∃ (ns' : List Int) (y4 y5 y6 y7 y8 y9 : Sl), ρ' = [.dat (.scr (iD ns)), .own true (iD ns'), .dat (.lst (sD ws)), .dat (.lst (askedL.map askD)), y4, y5, y6, y7, y8, y9]) → dRet (dC (.bl true)) (endsOf 1 R) ρ' := fun ρ' ⟨ns', y4, y5, y6, y7, y8, y9, e⟩ => by subst e; exact q
  refine seq_key (fun ρ' => ∃ (ns' : List Int) (y4 y5 y6 y7 y8 y9 : Sl), ρ' = [.dat (.scr (iD ns)), .own true (iD ns'), .dat (.lst (sD ws)), .dat (.lst (askedL.map askD)), y4, y5, y6, y7, y8, y9]) (fun nx hnx => ?_) done_
  refine ⟨rfl, ⟨by decide, by decide⟩, rfl, ?_⟩
  refine forGo (rngD 0 8) (fun j ρ => ∃ (ns' : List Int) (y4 y5 y6 y7 y8 y9 : Sl), ρ = [.dat (.scr (iD ns)), .own true (iD ns'), .dat (.lst (sD ws)), .dat (.lst (askedL.map askD)), y4, y5, y6, y7, y8, y9])
    (fun j d ρ Kk hd ⟨ns', y4, y5, y6, y7, y8, y9, h1⟩ hK => ?_) (fun ρ h => hnx _ h) ⟨ns2, _, _, _, _, _, _, rfl⟩
  subst h1
  obtain ⟨rfl, hj⟩ := rng_get hd
  refine ⟨by simp, ?_⟩
  refine seq_key (fun ρ' => ∃ (ns' : List Int) (x : D), ρ' = [.dat (.scr (iD ns)), .own true (iD ns'), .dat (.lst (sD ws)), .dat (.lst (askedL.map askD)), .dat (.int (0 + (j : Int))), y5, y6, .dat (.lst (sD ((tks x).map fun t => t.tt))), y8, y9] ∧ wf x ∧ wt x ≤ 100000) (fun nx hnx => ?_) ?_
  · try simp only [dSeq, dNext, dSet, dVar, dC, dBin, dTest, dCall, dCons, dNil, dAnd, dOr, dNot, dIf, dIfS, dRet, dRetN, dDrop, dBreak, dCont, dAug, fAddA, dTup, dLst, dFrz, dListOf, dNeg, fNeg, dSl, dNoPart, dPart, fSl, dM1, dIsi, dIsi2, dAppend, dPop, dReverse, dSetAt, dAndV, dOrV, dNotV, dB, dFld, dFldSet, dFldAdd, dMeth, dFn, dMake, dAsg, dgName, dgTwo, dgTwoL, dgThree, iSeq, iRange1, iRange2, iRange3, dFor, dLc, dYes, dKs, dKPush, dKTop, dKPop, dKLen, dOut, dFz, frzSl, stkAt, ownAt, obAt, rd1, rdL, rdD, datas, seqv, seqvs, stSl, rvSl, RV.hold, fI, fLen, fInt, fStr, fTuple, fAdd, fMul, fEq, fIn, fIsN, fIx, fJoin, List.getElem?_cons_zero, List.getElem?_cons_succ, List.getElem?_nil, List.set_cons_zero, List.set_cons_succ, List.length_cons, List.length_nil, eq_self_iff_true, true_and, and_true, Option.some.injEq, exists_eq_left']
    refine ⟨by simp [lent], _, rfl, false, ns', 3, rfl, by decide, fun v ns3 h0 h1 => ⟨rfl, ⟨⟨rfl, rfl⟩, trivial⟩, ?_⟩⟩
    simp only [wr, Sl.fl, Sl.mn, List.getD_cons_zero, List.getD_cons_succ, List.set_cons_zero, List.set_cons_succ]
    try simp only [dSeq, dNext, dSet, dVar, dC, dBin, dTest, dCall, dCons, dNil, dAnd, dOr, dNot, dIf, dIfS, dRet, dRetN, dDrop, dBreak, dCont, dAug, fAddA, dTup, dLst, dFrz, dListOf, dNeg, fNeg, dSl, dNoPart, dPart, fSl, dM1, dIsi, dIsi2, dAppend, dPop, dReverse, dSetAt, dAndV, dOrV, dNotV, dB, dFld, dFldSet, dFldAdd, dMeth, dFn, dMake, dAsg, dgName, dgTwo, dgTwoL, dgThree, iSeq, iRange1, iRange2, iRange3, dFor, dLc, dYes, dKs, dKPush, dKTop, dKPop, dKLen, dOut, dFz, frzSl, stkAt, ownAt, obAt, rd1, rdL, rdD, datas, seqv, seqvs, stSl, rvSl, RV.hold, fI, fLen, fInt, fStr, fTuple, fAdd, fMul, fEq, fIn, fIsN, fIx, fJoin, List.getElem?_cons_zero, List.getElem?_cons_succ, List.getElem?_nil, List.set_cons_zero, List.set_cons_succ, List.length_cons, List.length_nil, eq_self_iff_true, true_and, and_true, Option.some.injEq, exists_eq_left']
    obtain ⟨v, rfl⟩ := Int.eq_ofNat_of_zero_le h0
    refine ⟨by simp [lent], _, rfl, false, ns3, ws, 2 + v, (by rw [show (2 : Int) + (v : Int) = ((2 + v : Nat) : Int) by omega]; rfl), by omega, (by intro z; rw [z] at h3; cases h3), hws, fun x ns4 hx => ⟨rfl, ⟨⟨rfl, rfl⟩, trivial⟩, ?_⟩⟩
    simp only [wr, Sl.fl, Sl.mn, List.getD_cons_zero, List.getD_cons_succ, List.set_cons_zero, List.set_cons_succ]
    try simp only [dSeq, dNext, dSet, dVar, dC, dBin, dTest, dCall, dCons, dNil, dAnd, dOr, dNot, dIf, dIfS, dRet, dRetN, dDrop, dBreak, dCont, dAug, fAddA, dTup, dLst, dFrz, dListOf, dNeg, fNeg, dSl, dNoPart, dPart, fSl, dM1, dIsi, dIsi2, dAppend, dPop, dReverse, dSetAt, dAndV, dOrV, dNotV, dB, dFld, dFldSet, dFldAdd, dMeth, dFn, dMake, dAsg, dgName, dgTwo, dgTwoL, dgThree, iSeq, iRange1, iRange2, iRange3, dFor, dLc, dYes, dKs, dKPush, dKTop, dKPop, dKLen, dOut, dFz, frzSl, stkAt, ownAt, obAt, rd1, rdL, rdD, datas, seqv, seqvs, stSl, rvSl, RV.hold, fI, fLen, fInt, fStr, fTuple, fAdd, fMul, fEq, fIn, fIsN, fIx, fJoin, List.getElem?_cons_zero, List.getElem?_cons_succ, List.getElem?_nil, List.set_cons_zero, List.set_cons_succ, List.length_cons, List.length_nil, eq_self_iff_true, true_and, and_true, Option.some.injEq, exists_eq_left']
    have hB4 : ∀ m, m ≤ 4 → BB m ≤ 100000 := by decide
    have hwt := hB4 (2 + v) (by omega)
    have hx3 := hx.2.2
    refine ⟨List.nodup_nil, _, rfl, x, rfl, hx.1, by have := hx.2.1; omega, by omega, rfl, trivial, ?_⟩
    simp only [wr, Sl.fl, Sl.mn, List.getD_cons_zero, List.getD_cons_succ, List.set_cons_zero, List.set_cons_succ]
    try simp only [dSeq, dNext, dSet, dVar, dC, dBin, dTest, dCall, dCons, dNil, dAnd, dOr, dNot, dIf, dIfS, dRet, dRetN, dDrop, dBreak, dCont, dAug, fAddA, dTup, dLst, dFrz, dListOf, dNeg, fNeg, dSl, dNoPart, dPart, fSl, dM1, dIsi, dIsi2, dAppend, dPop, dReverse, dSetAt, dAndV, dOrV, dNotV, dB, dFld, dFldSet, dFldAdd, dMeth, dFn, dMake, dAsg, dgName, dgTwo, dgTwoL, dgThree, iSeq, iRange1, iRange2, iRange3, dFor, dLc, dYes, dKs, dKPush, dKTop, dKPop, dKLen, dOut, dFz, frzSl, stkAt, ownAt, obAt, rd1, rdL, rdD, datas, seqv, seqvs, stSl, rvSl, RV.hold, fI, fLen, fInt, fStr, fTuple, fAdd, fMul, fEq, fIn, fIsN, fIx, fJoin, List.getElem?_cons_zero, List.getElem?_cons_succ, List.getElem?_nil, List.set_cons_zero, List.set_cons_succ, List.length_cons, List.length_nil, eq_self_iff_true, true_and, and_true, Option.some.injEq, exists_eq_left']
    exact ⟨by decide, hnx _ ⟨ns4, x, by simp [sD], hx.1, by omega⟩⟩
  rintro _ ⟨ns3, x, rfl, hx, hwt⟩
  have htz : tz ((tks x).map fun t => t.tt) ≤ 400000 := by
    have := tsz_wt x hx
    have e : tz ((tks x).map fun t => t.tt) = tsz (tks x) := by simp [tz, tsz, List.map_map, Function.comp_def]
    omega
  have htok : ∀ t ∈ (tks x).map (fun t => t.tt), t ≠ [] ∧ MR t := fun t ht => by
    obtain ⟨u, hu, rfl⟩ := List.mem_map.mp ht
    have hu2 := sep_ok (sep_tks x hx) u hu
    exact ⟨tt_ne hu2, MR_tok hu2⟩
  obtain ⟨w0, w1, w2, rfl⟩ : ∃ a b c, ws = [a, b, c] := by
    match ws, h3 with
    | [a, b, c], _ => exact ⟨a, b, c, rfl⟩
  have hw0 := hws w0 (by simp)
  have hmm : ∀ t ∈ moA ++ w0 :: moB, t ≠ [] ∧ MR t := fun t ht => by
    rcases List.mem_append.mp ht with ht | ht
    · obtain ⟨z1, z2⟩ := moA_ok.2 t ht
      exact ⟨z1, MR.short z2⟩
    · rcases List.mem_cons.mp ht with rfl | ht
      · exact ⟨hw0.1, MR_let hw0.2.2⟩
      · obtain ⟨z1, z2⟩ := moB_ok.2 t ht
        exact ⟨z1, MR.short z2⟩
  have hmz : tz (moA ++ w0 :: moB) ≤ 10000 := by
    have h1 := moA_ok.1
    have h2 := moB_ok.1
    have h3 := hw0.2.1
    have e := tz_app [w0] moB
    rw [tz_one] at e
    rw [tz_app]
    have e2 : tz (w0 :: moB) = w0.length + 6 + tz moB := e
    omega
  have hmn : moA ++ w0 :: moB ≠ [] := by simp
  refine seq_key (fun ρ' => ρ' = [.dat (.scr (iD ns)), .own true (iD ns3), .dat (.lst (sD [w0, w1, w2])), .dat (.lst (askedL.map askD)), .dat (.int (0 + (j : Int))), y5, y6, .dat (.lst (sD ((tks x).map fun t => t.tt))), .dat (.lst (sD (moA ++ w0 :: moB))), y9]) (fun nx hnx => ?_) ?_
  · try simp only [dSeq, dNext, dSet, dVar, dC, dBin, dTest, dCall, dCons, dNil, dAnd, dOr, dNot, dIf, dIfS, dRet, dRetN, dDrop, dBreak, dCont, dAug, fAddA, dTup, dLst, dFrz, dListOf, dNeg, fNeg, dSl, dNoPart, dPart, fSl, dM1, dIsi, dIsi2, dAppend, dPop, dReverse, dSetAt, dAndV, dOrV, dNotV, dB, dFld, dFldSet, dFldAdd, dMeth, dFn, dMake, dAsg, dgName, dgTwo, dgTwoL, dgThree, iSeq, iRange1, iRange2, iRange3, dFor, dLc, dYes, dKs, dKPush, dKTop, dKPop, dKLen, dOut, dFz, frzSl, stkAt, ownAt, obAt, rd1, rdL, rdD, datas, seqv, seqvs, stSl, rvSl, RV.hold, fI, fLen, fInt, fStr, fTuple, fAdd, fMul, fEq, fIn, fIsN, fIx, fJoin, List.getElem?_cons_zero, List.getElem?_cons_succ, List.getElem?_nil, List.set_cons_zero, List.set_cons_succ, List.length_cons, List.length_nil, eq_self_iff_true, true_and, and_true, Option.some.injEq, exists_eq_left']
    exact ⟨.str w0, atI_nat (j := 0) rfl, by decide, by decide, hnx _ rfl⟩
  rintro _ rfl
  have hmo : sD (moA ++ w0 :: moB) = (sD (moA ++ w0 :: moB)) := rfl
  generalize moA ++ w0 :: moB = more at hmm hmz hmn ⊢
  generalize hts : (tks x).map (fun t => t.tt) = ts at htz htok ⊢
  have htn : ts ≠ [] := by
    have := tks_pos hx
    subst hts
    intro z
    rw [List.map_eq_nil_iff.mp z] at this
    simp at this
  refine seq_key (fun ρ' => ∃ (ns' : List Int) (s : List Nat), ρ' = [.dat (.scr (iD ns)), .own true (iD ns'), .dat (.lst (sD [w0, w1, w2])), .dat (.lst (askedL.map askD)), .dat (.int (0 + (j : Int))), .dat (.str s), y6, .dat (.lst (sD ts)), .dat (.lst (sD more)), y9] ∧ MR s ∧ s.length ≤ 2 ^ 22) (fun nx hnx => ?_) ?_
  · try simp only [dSeq, dNext, dSet, dVar, dC, dBin, dTest, dCall, dCons, dNil, dAnd, dOr, dNot, dIf, dIfS, dRet, dRetN, dDrop, dBreak, dCont, dAug, fAddA, dTup, dLst, dFrz, dListOf, dNeg, fNeg, dSl, dNoPart, dPart, fSl, dM1, dIsi, dIsi2, dAppend, dPop, dReverse, dSetAt, dAndV, dOrV, dNotV, dB, dFld, dFldSet, dFldAdd, dMeth, dFn, dMake, dAsg, dgName, dgTwo, dgTwoL, dgThree, iSeq, iRange1, iRange2, iRange3, dFor, dLc, dYes, dKs, dKPush, dKTop, dKPop, dKLen, dOut, dFz, frzSl, stkAt, ownAt, obAt, rd1, rdL, rdD, datas, seqv, seqvs, stSl, rvSl, RV.hold, fI, fLen, fInt, fStr, fTuple, fAdd, fMul, fEq, fIn, fIsN, fIx, fJoin, List.getElem?_cons_zero, List.getElem?_cons_succ, List.getElem?_nil, List.set_cons_zero, List.set_cons_succ, List.length_cons, List.length_nil, eq_self_iff_true, true_and, and_true, Option.some.injEq, exists_eq_left']
    refine ⟨by simp [lent], _, rfl, false, ns3, ts, more, rfl, htn, hmn, by omega, by omega, fun ts' ns4 hm2 hz2 => ⟨rfl, ⟨⟨rfl, rfl⟩, trivial⟩, ?_⟩⟩
    simp only [wr, Sl.fl, Sl.mn, List.getD_cons_zero, List.getD_cons_succ, List.set_cons_zero, List.set_cons_succ]
    try simp only [dSeq, dNext, dSet, dVar, dC, dBin, dTest, dCall, dCons, dNil, dAnd, dOr, dNot, dIf, dIfS, dRet, dRetN, dDrop, dBreak, dCont, dAug, fAddA, dTup, dLst, dFrz, dListOf, dNeg, fNeg, dSl, dNoPart, dPart, fSl, dM1, dIsi, dIsi2, dAppend, dPop, dReverse, dSetAt, dAndV, dOrV, dNotV, dB, dFld, dFldSet, dFldAdd, dMeth, dFn, dMake, dAsg, dgName, dgTwo, dgTwoL, dgThree, iSeq, iRange1, iRange2, iRange3, dFor, dLc, dYes, dKs, dKPush, dKTop, dKPop, dKLen, dOut, dFz, frzSl, stkAt, ownAt, obAt, rd1, rdL, rdD, datas, seqv, seqvs, stSl, rvSl, RV.hold, fI, fLen, fInt, fStr, fTuple, fAdd, fMul, fEq, fIn, fIsN, fIx, fJoin, List.getElem?_cons_zero, List.getElem?_cons_succ, List.getElem?_nil, List.set_cons_zero, List.set_cons_succ, List.length_cons, List.length_nil, eq_self_iff_true, true_and, and_true, Option.some.injEq, exists_eq_left']
    refine ⟨by simp [lent], _, rfl, false, ns4, ts', rfl, by omega, fun t ht => (hm2 t ht).elim (htok t) (hmm t), fun s ns5 hmr hsl => ⟨rfl, ⟨⟨rfl, rfl⟩, trivial⟩, ?_⟩⟩
    simp only [wr, Sl.fl, Sl.mn, List.getD_cons_zero, List.getD_cons_succ, List.set_cons_zero, List.set_cons_succ]
    try simp only [dSeq, dNext, dSet, dVar, dC, dBin, dTest, dCall, dCons, dNil, dAnd, dOr, dNot, dIf, dIfS, dRet, dRetN, dDrop, dBreak, dCont, dAug, fAddA, dTup, dLst, dFrz, dListOf, dNeg, fNeg, dSl, dNoPart, dPart, fSl, dM1, dIsi, dIsi2, dAppend, dPop, dReverse, dSetAt, dAndV, dOrV, dNotV, dB, dFld, dFldSet, dFldAdd, dMeth, dFn, dMake, dAsg, dgName, dgTwo, dgTwoL, dgThree, iSeq, iRange1, iRange2, iRange3, dFor, dLc, dYes, dKs, dKPush, dKTop, dKPop, dKLen, dOut, dFz, frzSl, stkAt, ownAt, obAt, rd1, rdL, rdD, datas, seqv, seqvs, stSl, rvSl, RV.hold, fI, fLen, fInt, fStr, fTuple, fAdd, fMul, fEq, fIn, fIsN, fIx, fJoin, List.getElem?_cons_zero, List.getElem?_cons_succ, List.getElem?_nil, List.set_cons_zero, List.set_cons_succ, List.length_cons, List.length_nil, eq_self_iff_true, true_and, and_true, Option.some.injEq, exists_eq_left']
    exact ⟨by decide, hnx _ ⟨ns5, s, rfl, hmr, by omega⟩⟩
  rintro _ ⟨ns4, s, rfl, hmr, hsl⟩
  refine seq_key (fun ρ' => ρ' = [.dat (.scr (iD ns)), .own true (iD ns4), .dat (.lst (sD [w0, w1, w2])), .dat (.lst (askedL.map askD)), .dat (.int (0 + (j : Int))), .dat (.str s), .dat (K76.badD (outc s)), .dat (.lst (sD ts)), .dat (.lst (sD more)), y9]) (fun nx hnx => ?_) ?_
  · try simp only [dSeq, dNext, dSet, dVar, dC, dBin, dTest, dCall, dCons, dNil, dAnd, dOr, dNot, dIf, dIfS, dRet, dRetN, dDrop, dBreak, dCont, dAug, fAddA, dTup, dLst, dFrz, dListOf, dNeg, fNeg, dSl, dNoPart, dPart, fSl, dM1, dIsi, dIsi2, dAppend, dPop, dReverse, dSetAt, dAndV, dOrV, dNotV, dB, dFld, dFldSet, dFldAdd, dMeth, dFn, dMake, dAsg, dgName, dgTwo, dgTwoL, dgThree, iSeq, iRange1, iRange2, iRange3, dFor, dLc, dYes, dKs, dKPush, dKTop, dKPop, dKLen, dOut, dFz, frzSl, stkAt, ownAt, obAt, rd1, rdL, rdD, datas, seqv, seqvs, stSl, rvSl, RV.hold, fI, fLen, fInt, fStr, fTuple, fAdd, fMul, fEq, fIn, fIsN, fIx, fJoin, List.getElem?_cons_zero, List.getElem?_cons_succ, List.getElem?_nil, List.set_cons_zero, List.set_cons_succ, List.length_cons, List.length_nil, eq_self_iff_true, true_and, and_true, Option.some.injEq, exists_eq_left']
    refine ⟨List.nodup_nil, _, rfl, s, rfl, by omega, rfl, trivial, ?_⟩
    simp only [wr, Sl.fl, Sl.mn, List.getD_cons_zero, List.getD_cons_succ, List.set_cons_zero, List.set_cons_succ]
    try simp only [dSeq, dNext, dSet, dVar, dC, dBin, dTest, dCall, dCons, dNil, dAnd, dOr, dNot, dIf, dIfS, dRet, dRetN, dDrop, dBreak, dCont, dAug, fAddA, dTup, dLst, dFrz, dListOf, dNeg, fNeg, dSl, dNoPart, dPart, fSl, dM1, dIsi, dIsi2, dAppend, dPop, dReverse, dSetAt, dAndV, dOrV, dNotV, dB, dFld, dFldSet, dFldAdd, dMeth, dFn, dMake, dAsg, dgName, dgTwo, dgTwoL, dgThree, iSeq, iRange1, iRange2, iRange3, dFor, dLc, dYes, dKs, dKPush, dKTop, dKPop, dKLen, dOut, dFz, frzSl, stkAt, ownAt, obAt, rd1, rdL, rdD, datas, seqv, seqvs, stSl, rvSl, RV.hold, fI, fLen, fInt, fStr, fTuple, fAdd, fMul, fEq, fIn, fIsN, fIx, fJoin, List.getElem?_cons_zero, List.getElem?_cons_succ, List.getElem?_nil, List.set_cons_zero, List.set_cons_succ, List.length_cons, List.length_nil, eq_self_iff_true, true_and, and_true, Option.some.injEq, exists_eq_left']
    exact ⟨by decide, hnx _ rfl⟩
  rintro _ rfl
  refine seq_key (fun ρ' => ∃ y : D, ρ' = [.dat (.scr (iD ns)), .own true (iD ns4), .dat (.lst (sD [w0, w1, w2])), .dat (.lst (askedL.map askD)), .dat (.int (0 + (j : Int))), .dat (.str s), .dat (K76.badD (outc s)), .dat (.lst (sD ts)), .dat (.lst (sD more)), .dat y] ∧ ((outc s = none ∧ ∃ z, y = .lst [z]) ∨ ∃ p : Nat, outc s = some p ∧ y = DL.badD 0 (p : Int))) (fun nx hnx => ?_) ?_
  · try simp only [dSeq, dNext, dSet, dVar, dC, dBin, dTest, dCall, dCons, dNil, dAnd, dOr, dNot, dIf, dIfS, dRet, dRetN, dDrop, dBreak, dCont, dAug, fAddA, dTup, dLst, dFrz, dListOf, dNeg, fNeg, dSl, dNoPart, dPart, fSl, dM1, dIsi, dIsi2, dAppend, dPop, dReverse, dSetAt, dAndV, dOrV, dNotV, dB, dFld, dFldSet, dFldAdd, dMeth, dFn, dMake, dAsg, dgName, dgTwo, dgTwoL, dgThree, iSeq, iRange1, iRange2, iRange3, dFor, dLc, dYes, dKs, dKPush, dKTop, dKPop, dKLen, dOut, dFz, frzSl, stkAt, ownAt, obAt, rd1, rdL, rdD, datas, seqv, seqvs, stSl, rvSl, RV.hold, fI, fLen, fInt, fStr, fTuple, fAdd, fMul, fEq, fIn, fIsN, fIx, fJoin, List.getElem?_cons_zero, List.getElem?_cons_succ, List.getElem?_nil, List.set_cons_zero, List.set_cons_succ, List.length_cons, List.length_nil, eq_self_iff_true, true_and, and_true, Option.some.injEq, exists_eq_left']
    refine ⟨List.nodup_nil, _, rfl, s, rfl, hmr, by omega, fun e z => ⟨rfl, trivial, ?_⟩, fun p e => ⟨rfl, trivial, ?_⟩⟩
    · simp only [wr, Sl.fl, Sl.mn, List.getD_cons_zero, List.getD_cons_succ, List.set_cons_zero, List.set_cons_succ]
      try simp only [dSeq, dNext, dSet, dVar, dC, dBin, dTest, dCall, dCons, dNil, dAnd, dOr, dNot, dIf, dIfS, dRet, dRetN, dDrop, dBreak, dCont, dAug, fAddA, dTup, dLst, dFrz, dListOf, dNeg, fNeg, dSl, dNoPart, dPart, fSl, dM1, dIsi, dIsi2, dAppend, dPop, dReverse, dSetAt, dAndV, dOrV, dNotV, dB, dFld, dFldSet, dFldAdd, dMeth, dFn, dMake, dAsg, dgName, dgTwo, dgTwoL, dgThree, iSeq, iRange1, iRange2, iRange3, dFor, dLc, dYes, dKs, dKPush, dKTop, dKPop, dKLen, dOut, dFz, frzSl, stkAt, ownAt, obAt, rd1, rdL, rdD, datas, seqv, seqvs, stSl, rvSl, RV.hold, fI, fLen, fInt, fStr, fTuple, fAdd, fMul, fEq, fIn, fIsN, fIx, fJoin, List.getElem?_cons_zero, List.getElem?_cons_succ, List.getElem?_nil, List.set_cons_zero, List.set_cons_succ, List.length_cons, List.length_nil, eq_self_iff_true, true_and, and_true, Option.some.injEq, exists_eq_left']
      exact ⟨by decide, hnx _ ⟨_, rfl, .inl ⟨e, z, rfl⟩⟩⟩
    · simp only [wr, Sl.fl, Sl.mn, List.getD_cons_zero, List.getD_cons_succ, List.set_cons_zero, List.set_cons_succ]
      try simp only [dSeq, dNext, dSet, dVar, dC, dBin, dTest, dCall, dCons, dNil, dAnd, dOr, dNot, dIf, dIfS, dRet, dRetN, dDrop, dBreak, dCont, dAug, fAddA, dTup, dLst, dFrz, dListOf, dNeg, fNeg, dSl, dNoPart, dPart, fSl, dM1, dIsi, dIsi2, dAppend, dPop, dReverse, dSetAt, dAndV, dOrV, dNotV, dB, dFld, dFldSet, dFldAdd, dMeth, dFn, dMake, dAsg, dgName, dgTwo, dgTwoL, dgThree, iSeq, iRange1, iRange2, iRange3, dFor, dLc, dYes, dKs, dKPush, dKTop, dKPop, dKLen, dOut, dFz, frzSl, stkAt, ownAt, obAt, rd1, rdL, rdD, datas, seqv, seqvs, stSl, rvSl, RV.hold, fI, fLen, fInt, fStr, fTuple, fAdd, fMul, fEq, fIn, fIsN, fIx, fJoin, List.getElem?_cons_zero, List.getElem?_cons_succ, List.getElem?_nil, List.set_cons_zero, List.set_cons_succ, List.length_cons, List.length_nil, eq_self_iff_true, true_and, and_true, Option.some.injEq, exists_eq_left']
      exact ⟨by decide, hnx _ ⟨_, rfl, .inr ⟨p, e, rfl⟩⟩⟩
  rintro _ ⟨y, rfl, h⟩
  rcases h with ⟨e, z, rfl⟩ | ⟨p, e, rfl⟩
  · rw [e]
    refine seq_key (fun ρ' => ρ' = [.dat (.scr (iD ns)), .own true (iD ns4), .dat (.lst (sD [w0, w1, w2])), .dat (.lst (askedL.map askD)), .dat (.int (0 + (j : Int))), .dat (.str s), .dat (K76.badD none), .dat (.lst (sD ts)), .dat (.lst (sD more)), .dat (.lst [z])]) (fun nx hnx => ifF (fun Q hQ => ?_) (hnx _ rfl)) ?_
    · try simp only [dSeq, dNext, dSet, dVar, dC, dBin, dTest, dCall, dCons, dNil, dAnd, dOr, dNot, dIf, dIfS, dRet, dRetN, dDrop, dBreak, dCont, dAug, fAddA, dTup, dLst, dFrz, dListOf, dNeg, fNeg, dSl, dNoPart, dPart, fSl, dM1, dIsi, dIsi2, dAppend, dPop, dReverse, dSetAt, dAndV, dOrV, dNotV, dB, dFld, dFldSet, dFldAdd, dMeth, dFn, dMake, dAsg, dgName, dgTwo, dgTwoL, dgThree, iSeq, iRange1, iRange2, iRange3, dFor, dLc, dYes, dKs, dKPush, dKTop, dKPop, dKLen, dOut, dFz, frzSl, stkAt, ownAt, obAt, rd1, rdL, rdD, datas, seqv, seqvs, stSl, rvSl, RV.hold, fI, fLen, fInt, fStr, fTuple, fAdd, fMul, fEq, fIn, fIsN, fIx, fJoin, List.getElem?_cons_zero, List.getElem?_cons_succ, List.getElem?_nil, List.set_cons_zero, List.set_cons_succ, List.length_cons, List.length_nil, eq_self_iff_true, true_and, and_true, Option.some.injEq, exists_eq_left']
      exact ⟨true, (by decide +kernel : kitB "list" "list" = some true), by simpa [K76.badD, D.isN] using hQ⟩
    rintro _ rfl
    refine ifF (fun Q hQ => ?_) (hK _ ⟨_, _, _, _, _, _, _, rfl⟩)
    try simp only [dSeq, dNext, dSet, dVar, dC, dBin, dTest, dCall, dCons, dNil, dAnd, dOr, dNot, dIf, dIfS, dRet, dRetN, dDrop, dBreak, dCont, dAug, fAddA, dTup, dLst, dFrz, dListOf, dNeg, fNeg, dSl, dNoPart, dPart, fSl, dM1, dIsi, dIsi2, dAppend, dPop, dReverse, dSetAt, dAndV, dOrV, dNotV, dB, dFld, dFldSet, dFldAdd, dMeth, dFn, dMake, dAsg, dgName, dgTwo, dgTwoL, dgThree, iSeq, iRange1, iRange2, iRange3, dFor, dLc, dYes, dKs, dKPush, dKTop, dKPop, dKLen, dOut, dFz, frzSl, stkAt, ownAt, obAt, rd1, rdL, rdD, datas, seqv, seqvs, stSl, rvSl, RV.hold, fI, fLen, fInt, fStr, fTuple, fAdd, fMul, fEq, fIn, fIsN, fIx, fJoin, List.getElem?_cons_zero, List.getElem?_cons_succ, List.getElem?_nil, List.set_cons_zero, List.set_cons_succ, List.length_cons, List.length_nil, eq_self_iff_true, true_and, and_true, Option.some.injEq, exists_eq_left']
    rw [show (true ^^ (K76.badD none).isN) = false from rfl, if_neg Bool.false_ne_true]
    exact hQ
  · rw [e]
    have hp : p ≤ 2 ^ 24 := Nat.le_trans (outc_le e) (by omega)
    obtain ⟨b1, b2, b3⟩ := bad_same hp
    refine seq_key (fun ρ' => ρ' = [.dat (.scr (iD ns)), .own true (iD ns4), .dat (.lst (sD [w0, w1, w2])), .dat (.lst (askedL.map askD)), .dat (.int (0 + (j : Int))), .dat (.str s), .dat (K76.badD (some p)), .dat (.lst (sD ts)), .dat (.lst (sD more)), .dat (DL.badD 0 (p : Int))]) (fun nx hnx => ifF (fun Q hQ => ?_) (hnx _ rfl)) ?_
    · try simp only [dSeq, dNext, dSet, dVar, dC, dBin, dTest, dCall, dCons, dNil, dAnd, dOr, dNot, dIf, dIfS, dRet, dRetN, dDrop, dBreak, dCont, dAug, fAddA, dTup, dLst, dFrz, dListOf, dNeg, fNeg, dSl, dNoPart, dPart, fSl, dM1, dIsi, dIsi2, dAppend, dPop, dReverse, dSetAt, dAndV, dOrV, dNotV, dB, dFld, dFldSet, dFldAdd, dMeth, dFn, dMake, dAsg, dgName, dgTwo, dgTwoL, dgThree, iSeq, iRange1, iRange2, iRange3, dFor, dLc, dYes, dKs, dKPush, dKTop, dKPop, dKLen, dOut, dFz, frzSl, stkAt, ownAt, obAt, rd1, rdL, rdD, datas, seqv, seqvs, stSl, rvSl, RV.hold, fI, fLen, fInt, fStr, fTuple, fAdd, fMul, fEq, fIn, fIsN, fIx, fJoin, List.getElem?_cons_zero, List.getElem?_cons_succ, List.getElem?_nil, List.set_cons_zero, List.set_cons_succ, List.length_cons, List.length_nil, eq_self_iff_true, true_and, and_true, Option.some.injEq, exists_eq_left']
      exact ⟨false, (by decide +kernel : kitB "tuple" "list" = some false), by simpa [K76.badD, D.isN] using hQ⟩
    rintro _ rfl
    refine ifF (fun Q hQ => ?_) (hK _ ⟨_, _, _, _, _, _, _, rfl⟩)
    try simp only [dSeq, dNext, dSet, dVar, dC, dBin, dTest, dCall, dCons, dNil, dAnd, dOr, dNot, dIf, dIfS, dRet, dRetN, dDrop, dBreak, dCont, dAug, fAddA, dTup, dLst, dFrz, dListOf, dNeg, fNeg, dSl, dNoPart, dPart, fSl, dM1, dIsi, dIsi2, dAppend, dPop, dReverse, dSetAt, dAndV, dOrV, dNotV, dB, dFld, dFldSet, dFldAdd, dMeth, dFn, dMake, dAsg, dgName, dgTwo, dgTwoL, dgThree, iSeq, iRange1, iRange2, iRange3, dFor, dLc, dYes, dKs, dKPush, dKTop, dKPop, dKLen, dOut, dFz, frzSl, stkAt, ownAt, obAt, rd1, rdL, rdD, datas, seqv, seqvs, stSl, rvSl, RV.hold, fI, fLen, fInt, fStr, fTuple, fAdd, fMul, fEq, fIn, fIsN, fIx, fJoin, List.getElem?_cons_zero, List.getElem?_cons_succ, List.getElem?_nil, List.set_cons_zero, List.set_cons_succ, List.length_cons, List.length_nil, eq_self_iff_true, true_and, and_true, Option.some.injEq, exists_eq_left']
    rw [show (true ^^ (K76.badD (some p)).isN) = true from rfl, if_pos rfl]
    refine ⟨by decide, List.nodup_nil, _, rfl, DL.badD 0 (p : Int), rfl, .inl b1, b2, b3, rfl, trivial, ?_⟩
    simp only [wr, Sl.fl, Sl.mn, List.getD_cons_zero, List.getD_cons_succ, List.set_cons_zero, List.set_cons_succ]
    try simp only [dSeq, dNext, dSet, dVar, dC, dBin, dTest, dCall, dCons, dNil, dAnd, dOr, dNot, dIf, dIfS, dRet, dRetN, dDrop, dBreak, dCont, dAug, fAddA, dTup, dLst, dFrz, dListOf, dNeg, fNeg, dSl, dNoPart, dPart, fSl, dM1, dIsi, dIsi2, dAppend, dPop, dReverse, dSetAt, dAndV, dOrV, dNotV, dB, dFld, dFldSet, dFldAdd, dMeth, dFn, dMake, dAsg, dgName, dgTwo, dgTwoL, dgThree, iSeq, iRange1, iRange2, iRange3, dFor, dLc, dYes, dKs, dKPush, dKTop, dKPop, dKLen, dOut, dFz, frzSl, stkAt, ownAt, obAt, rd1, rdL, rdD, datas, seqv, seqvs, stSl, rvSl, RV.hold, fI, fLen, fInt, fStr, fTuple, fAdd, fMul, fEq, fIn, fIsN, fIx, fJoin, List.getElem?_cons_zero, List.getElem?_cons_succ, List.getElem?_nil, List.set_cons_zero, List.set_cons_succ, List.length_cons, List.length_nil, eq_self_iff_true, true_and, and_true, Option.some.injEq, exists_eq_left']
    exact hQ
end
end K76

set_option maxRecDepth 100000
set_option maxHeartbeats 4000000
/-! What the head must know for own errors: more that is read off the heap. -/
namespace EXH
open PySem PySem.Spec PyProof.Rows L2 He
/-! ### the Hook -/
def asX (g : Addr → Option Obj) : Nat → List Addr
  | 0 => [mainGlobals, cStatics]
  | n + 1 => growD g (asX g n)
abbrev FnZ : Type := Option (Str × Str × Arguments × FuncBody × Scope × Addr × List Str × Addr)
/-- the __init__ of a class -/
def fnZ (K : PySem.W.Frag) (x : Str) : FnZ := match K.lookup (ma K (ga K x) "__init__") with
  | some ⟨_, _, .func fd, _⟩ => some (fd.name, fd.qualname, fd.params, fd.body, fd.scope, fd.globals, fd.closure.map (·.1), fd.builtins)
  | _ => none
structure ZD where
  cls : Str
  qual : Str
  st : Stmt
def ZD.val (z : ZD) : FnZ := some ("__init__", z.qual, defArgs z.st, .stmts (defBody z.st), defScope z.st, mainGlobals, ["__class__"], builtinsNs)
abbrev AlX : Type := AlD × List FnZ × Bool
def obsX (fa : List Fa) (fn : List DefD) (zs : List ZD) (fx : List (PySem.W.Frag → Bool)) (K : PySem.W.Frag) : AlX := (obsD fa fn K, zs.map (fun z => fnZ K z.cls), fx.all fun f => f K)
def valX (fn : List DefD) (zs : List ZD) : AlX := (valD fn, zs.map ZD.val, true)
def SaysX (fa : List Fa) (fn : List DefD) (zs : List ZD) (fx : List (PySem.W.Frag → Bool)) (K : PySem.W.Frag) : Prop := obsX fa fn zs fx K = valX fn zs
def obsXG (n : Nat) (fa : List Fa) (fn : List DefD) (zs : List ZD) (fx : List (PySem.W.Frag → Bool)) (g : Addr → Option Obj) : AlX := obsX fa fn zs fx (frG g (asX g n))
def hookX (n : Nat) (fa : List Fa) (fn : List DefD) (zs : List ZD) (fx : List (PySem.W.Frag → Bool)) : PySem.W.Hook where
  α := AlX
  obs := fun s => obsXG n fa fn zs fx s.heap.get?
  val := fun _ => valX fn zs
  says := fun _ h => ∃ K : PySem.W.Frag, K.In h ∧ SaysX fa fn zs fx K
  of := fun _ _ e => ⟨_, frG_in, e⟩
  keeps := fun _ _ _ ⟨K, i, c⟩ k => ⟨K, i.keeps k, c⟩
theorem obsXG_eq {n : Nat} {fa : List Fa} {fn : List DefD} {zs : List ZD} {fx : List (PySem.W.Frag → Bool)} {g : Addr → Option Obj} {s : Shared} (h : ∀ a, g a = s.heap.get? a) : obsXG n fa fn zs fx g = (hookX n fa fn zs fx).obs s := by
  rw [show g = s.heap.get? from funext h] <;> rfl
section
variable {fa : List Fa} {fn : List DefD} {zs : List ZD} {fx : List (PySem.W.Frag → Bool)} {K : PySem.W.Frag}
theorem SaysX.d (c : SaysX fa fn zs fx K) : SaysD fa fn K := congrArg (fun z : AlX => z.1) c
theorem SaysX.z (c : SaysX fa fn zs fx K) (i : Nat) {z : ZD} (h : zs[i]? = some z) : fnZ K z.cls = z.val := by
  have e : zs.map (fun z => fnZ K z.cls) = zs.map ZD.val := congrArg (fun q : AlX => q.2.1) c
  have e2 : (zs.map fun z => fnZ K z.cls)[i]? = (zs.map ZD.val)[i]? := by rw [e]
  rw [List.getElem?_map, List.getElem?_map, h] at e2
  exact Option.some.inj e2
theorem SaysX.x (c : SaysX fa fn zs fx K) (i : Nat) {f : PySem.W.Frag → Bool} (h : fx[i]? = some f) : f K = true := by
  have e : (fx.all fun f => f K) = true := congrArg (fun q : AlX => q.2.2) c
  exact List.all_eq_true.mp e f (List.mem_of_getElem? h)
end
/-! ### checks -/
def oexB (K : PySem.W.Frag) (C : Addr) : Bool := (match K.lookup C with
  | some ⟨.type "type", _, .cls cd, sl⟩ => (match cd.mro, sl.toList with
    | .ref C' :: bm, [_, _, _, _, some (.builtin n), _] => C' == C && (n == "ValueError.__new__" && (cd.hasDict && (!cd.hasDel && HandSPX.refsVE bm)))
    | _, _ => false)
  | _ => false) && (eqO (PySem.W.findIn K (.ref C) "__setattr__") (some (some (.builtin "object.__setattr__"))) && (decide (PySem.W.subIn K (.ref C) (.type "BaseException") = some true) && (decide (PySem.W.typeIn K (.ref C) = some (.type "type")) && PySem.W.keepIn K (.ref C))))
theorem oexB_ok {K : PySem.W.Frag} {C : Addr} (h : oexB K C = true) : OexC K C := by
  obtain ⟨h1, h⟩ := ba h
  obtain ⟨h2, h⟩ := ba h
  obtain ⟨h3, h⟩ := ba h
  obtain ⟨h4, h5⟩ := ba h
  refine ⟨?_, eqO_ok h2, of_decide_eq_true h3, of_decide_eq_true h4, h5⟩
  split at h1
  · rename_i dd cd sl ho
    split at h1
    · rename_i C' bm k0 k1 k2 k3 n k5 hm hs
      simp only [Bool.and_eq_true, beq_iff_eq, Bool.not_eq_true'] at h1
      obtain ⟨e1, e2, e3, e4, e5⟩ := h1
      obtain ⟨nm, bs, mro, ns, qn, hd, sn, sub, ab, col, del⟩ := cd
      dsimp only at hm e3 e4
      subst hm e1 e2 e3 e4
      obtain ⟨l⟩ := sl
      simp only at hs
      subst hs
      exact ⟨nm, qn, ns, bs, bm, sn, sub, ab, col, dd, k0, k1, k2, k3, k5, ho, e5⟩
    · cases h1
  · cases h1
def exB (K : PySem.W.Frag) (C : Addr) : Bool := (PySem.W.clsIn K C).isSome && (eqO (PySem.W.findIn K (.ref C) "__getattribute__") (some (some (.builtin "BaseException.__getattribute__"))) && (eqO (PySem.W.findIn K (.ref C) "__getattr__") (some none) &&
  (decide (PySem.W.subIn K (.ref C) (.type "BaseException") = some true) && (PySem.W.hasDictIn K C && (eqO (PySem.W.findIn K (.ref C) "__class__") (some (some (.builtin "object.__class__"))) &&
  (eqO (PySem.W.specialIn K (.builtin "object.__class__") "__get__") (some (some (.builtin "getset_descriptor.__get__"))) && (decide (PySem.W.takesIn K (.builtin "object.__class__") = some true) && decide (PySem.W.mroIn K C (.type "object") = some true))))))))
theorem exB_ok {K : PySem.W.Frag} {C : Addr} (h : exB K C = true) : ExC K C := by
  obtain ⟨h1, h⟩ := ba h
  obtain ⟨h2, h⟩ := ba h
  obtain ⟨h3, h⟩ := ba h
  obtain ⟨h4, h⟩ := ba h
  obtain ⟨h5, h⟩ := ba h
  obtain ⟨h6, h⟩ := ba h
  obtain ⟨h7, h⟩ := ba h
  obtain ⟨h8, h9⟩ := ba h
  exact ⟨h1, eqO_ok h2, eqO_ok h3, of_decide_eq_true h4, h5, eqO_ok h6, eqO_ok h7, of_decide_eq_true h8, of_decide_eq_true h9⟩
/-- __init__'s record, its code, its cell -/
def iniB (K : PySem.W.Frag) (C fI : Addr) (q file : Str) : Bool := match K.lookup fI with
  | some ⟨_, _, .func fd, _⟩ => (match fd.defaults, fd.code, fd.closure with
    | .none, .ref cda, [(_, cc)] => PySem.W.codeIn K (.ref cda) q && ((match K.lookup cda with
        | some ⟨_, _, .fields vs, _⟩ => (match (vs[2]? : Option Value) with
          | some (.str f _) => file == f
          | _ => false)
        | _ => false) && (match K.lookup cc with
        | some ⟨_, _, .cell (some (.ref c)), _⟩ => c == C
        | _ => false))
    | _, _, _ => false)
  | _ => false
def twoB (x f1 f2 q file : Str) (K : PySem.W.Frag) : Bool := oexB K (ga K x) && (eqO (PySem.W.findIn K (.ref (ga K x)) "__init__") (some (some (.ref (ma K (ga K x) "__init__")))) && (decide (PySem.W.typeIn K (.ref (ma K (ga K x) "__init__")) = some (.type "function")) &&
  (eqO (PySem.W.findIn K (.ref (ga K x)) f1) (some none) && (eqO (PySem.W.findIn K (.ref (ga K x)) f2) (some none) && (iniB K (ga K x) (ma K (ga K x) "__init__") q file && (decide (PySem.W.mroIn K (ga K x) (.ref (ga K x)) = some true) &&
  (eqO (PySem.W.nsIn K cStatics "thirdparty.any") (some none) && (eqO (PySem.W.ks_superIn K (ga K x) (ga K x) "__init__") (some (some (.builtin "ValueError.__init__"))) && decide (PySem.W.subIn K (.ref (ga K x)) (.type "ValueError") = some true)))))))))
theorem two_ok {P : Program} {K : PySem.W.Frag} {h : Heap} {mg : Str → Option Value} {x f1 f2 q file : Str} {st : Stmt} (KX : K.In h) (G : h.Ns mainGlobals mg) (c : twoB x f1 f2 q file K = true) (z : fnZ K x = ZD.val ⟨x, q, st⟩) (gx : mg x = some (.ref (ga K x))) (sup : mg "super" = none)
    (hf : P.main.file = file) (top : (P.main.scope.names.lookup ("super" : Str)).isSome = false) : ∃ fI cc cda, EXA.TwoErr P K mg x f1 f2 st (ga K x) fI cc cda := by
  obtain ⟨h1, c⟩ := ba c
  obtain ⟨h2, c⟩ := ba c
  obtain ⟨h3, c⟩ := ba c
  obtain ⟨h4, c⟩ := ba c
  obtain ⟨h5, c⟩ := ba c
  obtain ⟨h6, c⟩ := ba c
  obtain ⟨h7, c⟩ := ba c
  obtain ⟨h8, c⟩ := ba c
  obtain ⟨h9, h10⟩ := ba c
  unfold iniB at h6
  unfold fnZ at z
  split at h6
  · rename_i o1 o2 fd o4 ho
    rw [ho] at z
    split at h6
    · rename_i cda y cc e1 e2 e3
      obtain ⟨i1, i⟩ := ba h6
      obtain ⟨i2, i3⟩ := ba i
      obtain ⟨n1, n2, n3, n4, n5, n6, n7, n8, n9, n10, n11, n12, n13, n14, n15⟩ := fd
      dsimp only at e1 e2 e3
      subst e1 e2 e3
      have z2 : (some (n1, n2, n3, n4, n5, n6, [y], n15) : FnZ) = some (("__init__" : Str), q, defArgs st, FuncBody.stmts (defBody st), defScope st, mainGlobals, [("__class__" : Str)], builtinsNs) := z
      simp only [Option.some.injEq, Prod.mk.injEq, List.cons.injEq, and_true] at z2
      obtain ⟨z1, z2, z3, z4, z5, z6, z7, z8⟩ := z2
      subst z1 z2 z3 z4 z5 z6 z7 z8
      refine ⟨ma K (ga K x) "__init__", cc, cda, ⟨gx, oexB_ok h1, eqO_ok h2, of_decide_eq_true h3, eqO_ok h4, eqO_ok h5, ⟨_, _, _, _, _, _, _, _, _, _, ho, i1⟩, ?_, ?_, of_decide_eq_true h7, eqO_ok h8, eqO_ok h9, of_decide_eq_true h10, sup, top⟩⟩
      · split at i2
        · rename_i ccl cdd vs ccs hc
          split at i2
          · rename_i f t hv
            exact ⟨_, _, _, _, f, t, hc, hv, by rw [hf]; exact i2⟩
          · cases i2
        · cases i2
      · split at i3
        · rename_i cl cld c2 csl hc
          rw [beq_iff_eq] at i3
          subst i3
          exact ⟨_, _, _, hc⟩
        · cases i3
    · cases h6
  · cases h6
/-- isinstance of the one class for the other -/
def kitR (x y : Str) (b : Bool) (K : PySem.W.Frag) : Bool := decide (PySem.W.kitOne K (.ref (ga K x)) (.ref (ga K y)) = some b)
def kitT (x : Str) (t : String) (b : Bool) (K : PySem.W.Frag) : Bool := decide (PySem.W.kitOne K (.ref (ga K x)) (.type t) = some b)
end EXH

set_option maxRecDepth 100000
set_option maxHeartbeats 0
namespace K76
open PySem PySem.Spec PyProof.Rows L2 TL SkE DL EXH
def d_run_end : He.DefD := ⟨("run_end", none), "run_end", "run_end", defArgs s_run_end, defBody s_run_end, defScope s_run_end, [], []⟩
def d_token_from : He.DefD := ⟨("token_from", none), "token_from", "token_from", defArgs s_token_from, defBody s_token_from, defScope s_token_from, [], []⟩
def d_tokens_of : He.DefD := ⟨("tokens_of", none), "tokens_of", "tokens_of", defArgs s_tokens_of, defBody s_tokens_of, defScope s_tokens_of, [], []⟩
def d_Line_init : He.DefD := ⟨("Line", some "__init__"), "__init__", "Line.__init__", defArgs s_Line_init, defBody s_Line_init, defScope s_Line_init, [], []⟩
def d_Line_kind_here : He.DefD := ⟨("Line", some "kind_here"), "kind_here", "Line.kind_here", defArgs s_Line_kind_here, defBody s_Line_kind_here, defScope s_Line_kind_here, [], []⟩
def d_Line_value_here : He.DefD := ⟨("Line", some "value_here"), "value_here", "Line.value_here", defArgs s_Line_value_here, defBody s_Line_value_here, defScope s_Line_value_here, [], []⟩
def d_Line_refuse : He.DefD := ⟨("Line", some "refuse"), "refuse", "Line.refuse", defArgs s_Line_refuse, defBody s_Line_refuse, defScope s_Line_refuse, [], []⟩
def d_Line_take : He.DefD := ⟨("Line", some "take"), "take", "Line.take", defArgs s_Line_take, defBody s_Line_take, defScope s_Line_take, [], []⟩
def d_Line_take_signed : He.DefD := ⟨("Line", some "take_signed"), "take_signed", "Line.take_signed", defArgs s_Line_take_signed, defBody s_Line_take_signed, defScope s_Line_take_signed, [], []⟩
def d_Line_close : He.DefD := ⟨("Line", some "close"), "close", "Line.close", defArgs s_Line_close, defBody s_Line_close, defScope s_Line_close, [], []⟩
def d_take_leaf : He.DefD := ⟨("take_leaf", none), "take_leaf", "take_leaf", defArgs s_take_leaf, defBody s_take_leaf, defScope s_take_leaf, [], []⟩
def d_read_paper : He.DefD := ⟨("read_paper", none), "read_paper", "read_paper", defArgs s_read_paper, defBody s_read_paper, defScope s_read_paper, [], []⟩
def d__law_draws : He.DefD := ⟨("_law_draws", none), "_law_draws", "_law_draws", defArgs s__law_draws, defBody s__law_draws, defScope s__law_draws, [], []⟩
def d__law_take : He.DefD := ⟨("_law_take", none), "_law_take", "_law_take", defArgs s__law_take, defBody s__law_take, defScope s__law_take, [], []⟩
def d__law_pick : He.DefD := ⟨("_law_pick", none), "_law_pick", "_law_pick", defArgs s__law_pick, defBody s__law_pick, defScope s__law_pick, [], []⟩
def d__law_same : He.DefD := ⟨("_law_same", none), "_law_same", "_law_same", defArgs s__law_same, defBody s__law_same, defScope s__law_same, [], []⟩
def d__law_words : He.DefD := ⟨("_law_words", none), "_law_words", "_law_words", defArgs s__law_words, defBody s__law_words, defScope s__law_words, [], []⟩
def d__law_paper_text : He.DefD := ⟨("_law_paper_text", none), "_law_paper_text", "_law_paper_text", defArgs s__law_paper_text, defBody s__law_paper_text, defScope s__law_paper_text, [], []⟩
def d__law_are_apart : He.DefD := ⟨("_law_are_apart", none), "_law_are_apart", "_law_are_apart", defArgs s__law_are_apart, defBody s__law_are_apart, defScope s__law_are_apart, [], []⟩
def d__law_spread : He.DefD := ⟨("_law_spread", none), "_law_spread", "_law_spread", defArgs s__law_spread, defBody s__law_spread, defScope s__law_spread, [], []⟩
def d__law_run : He.DefD := ⟨("_law_run", none), "_law_run", "_law_run", defArgs s__law_run, defBody s__law_run, defScope s__law_run, [], []⟩
def d__law_tokens_of : He.DefD := ⟨("_law_tokens_of", none), "_law_tokens_of", "_law_tokens_of", defArgs s__law_tokens_of, defBody s__law_tokens_of, defScope s__law_tokens_of, [], []⟩
def d__law_tokens_spoilt : He.DefD := ⟨("_law_tokens_spoilt", none), "_law_tokens_spoilt", "_law_tokens_spoilt", defArgs s__law_tokens_spoilt, defBody s__law_tokens_spoilt, defScope s__law_tokens_spoilt, [], []⟩
def d__law_paper_fault : He.DefD := ⟨("_law_paper_fault", none), "_law_paper_fault", "_law_paper_fault", defArgs s__law_paper_fault, defBody s__law_paper_fault, defScope s__law_paper_fault, [], []⟩
def d__law_error_of : He.DefD := ⟨("_law_error_of", none), "_law_error_of", "_law_error_of", defArgs s__law_error_of, defBody s__law_error_of, defScope s__law_error_of, [], []⟩
def d__law_read : He.DefD := ⟨("_law_read", none), "_law_read", "_law_read", defArgs s__law_read, defBody s__law_read, defScope s__law_read, [], []⟩
def d__law_thing : He.DefD := ⟨("_law_thing", none), "_law_thing", "_law_thing", defArgs s__law_thing, defBody s__law_thing, defScope s__law_thing, [], []⟩
def d_law : He.DefD := ⟨("law", none), "law", "law", defArgs s_law, defBody s_law, defScope s_law, [], []⟩
def d__law_paper_tokens : He.DefD := ⟨("_law_paper_tokens", none), "_law_paper_tokens", "_law_paper_tokens", defArgs s__law_paper_tokens, defBody s__law_paper_tokens, defScope s__law_paper_tokens, [], []⟩
def fnT : List He.DefD := [d_run_end, d_token_from, d_tokens_of, d_Line_init, d_Line_kind_here, d_Line_value_here, d_Line_refuse, d_Line_take, d_Line_take_signed, d_Line_close, d_take_leaf, d_read_paper, d__law_draws, d__law_take, d__law_pick, d__law_same, d__law_words, d__law_paper_text, d__law_are_apart, d__law_spread, d__law_run, d__law_tokens_of, d__law_tokens_spoilt, d__law_paper_fault, d__law_error_of, d__law_read, d__law_thing, d_law, d__law_paper_tokens]
def fa0 : List He.Fa := [.cls "Line", .noat "Line" "row_number", .noat "Line" "tokens", .noat "Line" "taken", .free "bool", .free "int", .free "isinstance", .free "len", .free "list", .free "max", .free "range", .free "str", .free "tuple", .str "DIGITS" "0123456789", .str "LETTERS" "abcdefghijklmnopqrstuvwxyz", .str "NONE_WORD" "none", .str "SIGNS" "+-*/^();,:", .glo "run_end", .glo "token_from", .glo "tokens_of", .mkr "Line", .glo "Line", .meth "Line" "kind_here", .meth "Line" "value_here", .meth "Line" "refuse", .meth "Line" "take", .meth "Line" "take_signed", .meth "Line" "close", .glo "take_leaf", .glo "read_paper"]
def fa1 : List He.Fa := [.glo "_law_draws", .glo "_law_take", .glo "_law_pick", .glo "_law_same", .glo "_law_words", .glo "_law_paper_text", .glo "_law_are_apart", .glo "_law_spread", .glo "_law_run", .glo "_law_tokens_of", .glo "_law_tokens_spoilt", .glo "_law_paper_fault", .glo "_law_error_of", .glo "_law_read", .glo "_law_thing", .glo "law", .glo "_law_paper_tokens"]
def faT : List He.Fa := fa0 ++ fa1
theorem facts {K : PySem.W.Frag} {h : Heap} {mg : Str → Option Value} (X : K.In h) (G : h.Ns mainGlobals mg) (c : He.SaysD faT fnT K) : TX K mg (He.ga K "Line") := by
  obtain ⟨fd_run_end, F_run_end⟩ := c.def_ 0 (d := d_run_end) rfl
  obtain ⟨fd_token_from, F_token_from⟩ := c.def_ 1 (d := d_token_from) rfl
  obtain ⟨fd_tokens_of, F_tokens_of⟩ := c.def_ 2 (d := d_tokens_of) rfl
  obtain ⟨fd_Line_init, F_Line_init⟩ := c.def_ 3 (d := d_Line_init) rfl
  obtain ⟨fd_Line_kind_here, F_Line_kind_here⟩ := c.def_ 4 (d := d_Line_kind_here) rfl
  obtain ⟨fd_Line_value_here, F_Line_value_here⟩ := c.def_ 5 (d := d_Line_value_here) rfl
  obtain ⟨fd_Line_refuse, F_Line_refuse⟩ := c.def_ 6 (d := d_Line_refuse) rfl
  obtain ⟨fd_Line_take, F_Line_take⟩ := c.def_ 7 (d := d_Line_take) rfl
  obtain ⟨fd_Line_take_signed, F_Line_take_signed⟩ := c.def_ 8 (d := d_Line_take_signed) rfl
  obtain ⟨fd_Line_close, F_Line_close⟩ := c.def_ 9 (d := d_Line_close) rfl
  obtain ⟨fd_take_leaf, F_take_leaf⟩ := c.def_ 10 (d := d_take_leaf) rfl
  obtain ⟨fd_read_paper, F_read_paper⟩ := c.def_ 11 (d := d_read_paper) rfl
  obtain ⟨fd__law_draws, F__law_draws⟩ := c.def_ 12 (d := d__law_draws) rfl
  obtain ⟨fd__law_take, F__law_take⟩ := c.def_ 13 (d := d__law_take) rfl
  obtain ⟨fd__law_pick, F__law_pick⟩ := c.def_ 14 (d := d__law_pick) rfl
  obtain ⟨fd__law_same, F__law_same⟩ := c.def_ 15 (d := d__law_same) rfl
  obtain ⟨fd__law_words, F__law_words⟩ := c.def_ 16 (d := d__law_words) rfl
  obtain ⟨fd__law_paper_text, F__law_paper_text⟩ := c.def_ 17 (d := d__law_paper_text) rfl
  obtain ⟨fd__law_are_apart, F__law_are_apart⟩ := c.def_ 18 (d := d__law_are_apart) rfl
  obtain ⟨fd__law_spread, F__law_spread⟩ := c.def_ 19 (d := d__law_spread) rfl
  obtain ⟨fd__law_run, F__law_run⟩ := c.def_ 20 (d := d__law_run) rfl
  obtain ⟨fd__law_tokens_of, F__law_tokens_of⟩ := c.def_ 21 (d := d__law_tokens_of) rfl
  obtain ⟨fd__law_tokens_spoilt, F__law_tokens_spoilt⟩ := c.def_ 22 (d := d__law_tokens_spoilt) rfl
  obtain ⟨fd__law_paper_fault, F__law_paper_fault⟩ := c.def_ 23 (d := d__law_paper_fault) rfl
  obtain ⟨fd__law_error_of, F__law_error_of⟩ := c.def_ 24 (d := d__law_error_of) rfl
  obtain ⟨fd__law_read, F__law_read⟩ := c.def_ 25 (d := d__law_read) rfl
  obtain ⟨fd__law_thing, F__law_thing⟩ := c.def_ 26 (d := d__law_thing) rfl
  obtain ⟨fd_law, F_law⟩ := c.def_ 27 (d := d_law) rfl
  obtain ⟨fd__law_paper_tokens, F__law_paper_tokens⟩ := c.def_ 28 (d := d__law_paper_tokens) rfl
  exact ⟨He.cls_ok (c.fact 0 (f := .cls "Line") rfl),
    He.noat_ok (c.fact 1 (f := .noat "Line" "row_number") rfl),
    He.noat_ok (c.fact 2 (f := .noat "Line" "tokens") rfl),
    He.noat_ok (c.fact 3 (f := .noat "Line" "taken") rfl),
    He.free_ok X G (c.fact 4 (f := .free "bool") rfl),
    He.free_ok X G (c.fact 5 (f := .free "int") rfl),
    He.free_ok X G (c.fact 6 (f := .free "isinstance") rfl),
    He.free_ok X G (c.fact 7 (f := .free "len") rfl),
    He.free_ok X G (c.fact 8 (f := .free "list") rfl),
    He.free_ok X G (c.fact 9 (f := .free "max") rfl),
    He.free_ok X G (c.fact 10 (f := .free "range") rfl),
    He.free_ok X G (c.fact 11 (f := .free "str") rfl),
    He.free_ok X G (c.fact 12 (f := .free "tuple") rfl),
    He.str_ok X G (c.fact 13 (f := .str "DIGITS" "0123456789") rfl),
    He.str_ok X G (c.fact 14 (f := .str "LETTERS" "abcdefghijklmnopqrstuvwxyz") rfl),
    He.str_ok X G (c.fact 15 (f := .str "NONE_WORD" "none") rfl),
    He.str_ok X G (c.fact 16 (f := .str "SIGNS" "+-*/^();,:") rfl),
    ⟨_, fd_run_end, fun_of F_run_end, He.glo_ok X G (c.fact 17 (f := .glo "run_end") rfl), FunD.bindsN (ps := ["line", "index", "chars"]) F_run_end fun _ _ _ _ _ _ us hl => match us, hl with | [_, _, _], _ => rfl⟩,
    ⟨_, fd_token_from, fun_of F_token_from, He.glo_ok X G (c.fact 18 (f := .glo "token_from") rfl), FunD.bindsN (ps := ["line", "index"]) F_token_from fun _ _ _ _ _ _ us hl => match us, hl with | [_, _], _ => rfl⟩,
    ⟨_, fd_tokens_of, fun_of F_tokens_of, He.glo_ok X G (c.fact 19 (f := .glo "tokens_of") rfl), FunD.bindsN (ps := ["line"]) F_tokens_of fun _ _ _ _ _ _ us hl => match us, hl with | [_], _ => rfl⟩,
    ⟨_, fd_Line_init, fun_of F_Line_init, He.mkr_ok (c.fact 20 (f := .mkr "Line") rfl), He.glo_ok X G (c.fact 21 (f := .glo "Line") rfl), FunD.bindsN (ps := ["self", "text", "row_number"]) F_Line_init fun _ _ _ _ _ _ us hl => match us, hl with | [_, _, _], _ => rfl⟩,
    ⟨_, fd_Line_kind_here, fun_of F_Line_kind_here, He.meth_ok (c.fact 22 (f := .meth "Line" "kind_here") rfl), FunD.bindsN (ps := ["self"]) F_Line_kind_here fun _ _ _ _ _ _ us hl => match us, hl with | [_], _ => rfl⟩,
    ⟨_, fd_Line_value_here, fun_of F_Line_value_here, He.meth_ok (c.fact 23 (f := .meth "Line" "value_here") rfl), FunD.bindsN (ps := ["self"]) F_Line_value_here fun _ _ _ _ _ _ us hl => match us, hl with | [_], _ => rfl⟩,
    ⟨_, fd_Line_refuse, fun_of F_Line_refuse, He.meth_ok (c.fact 24 (f := .meth "Line" "refuse") rfl), FunD.bindsN (ps := ["self"]) F_Line_refuse fun _ _ _ _ _ _ us hl => match us, hl with | [_], _ => rfl⟩,
    ⟨_, fd_Line_take, fun_of F_Line_take, He.meth_ok (c.fact 25 (f := .meth "Line" "take") rfl), FunD.bindsN (ps := ["self", "kind"]) F_Line_take fun _ _ _ _ _ _ us hl => match us, hl with | [_, _], _ => rfl⟩,
    ⟨_, fd_Line_take_signed, fun_of F_Line_take_signed, He.meth_ok (c.fact 26 (f := .meth "Line" "take_signed") rfl), FunD.bindsN (ps := ["self"]) F_Line_take_signed fun _ _ _ _ _ _ us hl => match us, hl with | [_], _ => rfl⟩,
    ⟨_, fd_Line_close, fun_of F_Line_close, He.meth_ok (c.fact 27 (f := .meth "Line" "close") rfl), FunD.bindsN (ps := ["self"]) F_Line_close fun _ _ _ _ _ _ us hl => match us, hl with | [_], _ => rfl⟩,
    ⟨_, fd_take_leaf, fun_of F_take_leaf, He.glo_ok X G (c.fact 28 (f := .glo "take_leaf") rfl), FunD.bindsN (ps := ["line"]) F_take_leaf fun _ _ _ _ _ _ us hl => match us, hl with | [_], _ => rfl⟩,
    ⟨_, fd_read_paper, fun_of F_read_paper, He.glo_ok X G (c.fact 29 (f := .glo "read_paper") rfl), FunD.bindsN (ps := ["text"]) F_read_paper fun _ _ _ _ _ _ us hl => match us, hl with | [_], _ => rfl⟩,
    ⟨_, fd__law_draws, fun_of F__law_draws, He.glo_ok X G (c.fact 30 (f := .glo "_law_draws") rfl), FunD.bindsN (ps := ["script", "many"]) F__law_draws fun _ _ _ _ _ _ us hl => match us, hl with | [_, _], _ => rfl⟩,
    ⟨_, fd__law_take, fun_of F__law_take, He.glo_ok X G (c.fact 31 (f := .glo "_law_take") rfl), FunD.bindsN (ps := ["draws", "many"]) F__law_take fun _ _ _ _ _ _ us hl => match us, hl with | [_, _], _ => rfl⟩,
    ⟨_, fd__law_pick, fun_of F__law_pick, He.glo_ok X G (c.fact 32 (f := .glo "_law_pick") rfl), FunD.bindsN (ps := ["draws", "row"]) F__law_pick fun _ _ _ _ _ _ us hl => match us, hl with | [_, _], _ => rfl⟩,
    ⟨_, fd__law_same, fun_of F__law_same, He.glo_ok X G (c.fact 33 (f := .glo "_law_same") rfl), FunD.bindsN (ps := ["actual", "due"]) F__law_same fun _ _ _ _ _ _ us hl => match us, hl with | [_, _], _ => rfl⟩,
    ⟨_, fd__law_words, fun_of F__law_words, He.glo_ok X G (c.fact 34 (f := .glo "_law_words") rfl), FunD.bindsN (ps := ["draws", "many"]) F__law_words fun _ _ _ _ _ _ us hl => match us, hl with | [_, _], _ => rfl⟩,
    ⟨_, fd__law_paper_text, fun_of F__law_paper_text, He.glo_ok X G (c.fact 35 (f := .glo "_law_paper_text") rfl), FunD.bindsN (ps := ["thing"]) F__law_paper_text fun _ _ _ _ _ _ us hl => match us, hl with | [_], _ => rfl⟩,
    ⟨_, fd__law_are_apart, fun_of F__law_are_apart, He.glo_ok X G (c.fact 36 (f := .glo "_law_are_apart") rfl), FunD.bindsN (ps := ["token", "other"]) F__law_are_apart fun _ _ _ _ _ _ us hl => match us, hl with | [_, _], _ => rfl⟩,
    ⟨_, fd__law_spread, fun_of F__law_spread, He.glo_ok X G (c.fact 37 (f := .glo "_law_spread") rfl), FunD.bindsN (ps := ["draws", "tokens"]) F__law_spread fun _ _ _ _ _ _ us hl => match us, hl with | [_, _], _ => rfl⟩,
    ⟨_, fd__law_run, fun_of F__law_run, He.glo_ok X G (c.fact 38 (f := .glo "_law_run") rfl), FunD.bindsN (ps := ["text", "place", "signs"]) F__law_run fun _ _ _ _ _ _ us hl => match us, hl with | [_, _, _], _ => rfl⟩,
    ⟨_, fd__law_tokens_of, fun_of F__law_tokens_of, He.glo_ok X G (c.fact 39 (f := .glo "_law_tokens_of") rfl), FunD.bindsN (ps := ["text"]) F__law_tokens_of fun _ _ _ _ _ _ us hl => match us, hl with | [_], _ => rfl⟩,
    ⟨_, fd__law_tokens_spoilt, fun_of F__law_tokens_spoilt, He.glo_ok X G (c.fact 40 (f := .glo "_law_tokens_spoilt") rfl), FunD.bindsN (ps := ["draws", "tokens", "more"]) F__law_tokens_spoilt fun _ _ _ _ _ _ us hl => match us, hl with | [_, _, _], _ => rfl⟩,
    ⟨_, fd__law_paper_fault, fun_of F__law_paper_fault, He.glo_ok X G (c.fact 41 (f := .glo "_law_paper_fault") rfl), FunD.bindsN (ps := ["text"]) F__law_paper_fault fun _ _ _ _ _ _ us hl => match us, hl with | [_], _ => rfl⟩,
    ⟨_, fd__law_error_of, fun_of F__law_error_of, He.glo_ok X G (c.fact 42 (f := .glo "_law_error_of") rfl), FunD.bindsN (ps := ["e"]) F__law_error_of fun _ _ _ _ _ _ us hl => match us, hl with | [_], _ => rfl⟩,
    ⟨_, fd__law_read, fun_of F__law_read, He.glo_ok X G (c.fact 43 (f := .glo "_law_read") rfl), FunD.bindsN (ps := ["text"]) F__law_read fun _ _ _ _ _ _ us hl => match us, hl with | [_], _ => rfl⟩,
    ⟨_, fd__law_thing, fun_of F__law_thing, He.glo_ok X G (c.fact 44 (f := .glo "_law_thing") rfl), FunD.bindsN (ps := ["draws", "words", "depth"]) F__law_thing fun _ _ _ _ _ _ us hl => match us, hl with | [_, _, _], _ => rfl⟩,
    ⟨_, fd_law, fun_of F_law, He.glo_ok X G (c.fact 45 (f := .glo "law") rfl), FunD.bindsN (ps := ["script"]) F_law fun _ _ _ _ _ _ us hl => match us, hl with | [_], _ => rfl⟩,
    ⟨_, fd__law_paper_tokens, fun_of F__law_paper_tokens, He.glo_ok X G (c.fact 46 (f := .glo "_law_paper_tokens") rfl), FunD.bindsN (ps := ["thing"]) F__law_paper_tokens fun _ _ _ _ _ _ us hl => match us, hl with | [_], _ => rfl⟩⟩
theorem glo_law {K : PySem.W.Frag} {h : Heap} {mg : Str → Option Value} (X : K.In h) (G : h.Ns mainGlobals mg) (c : He.SaysD faT fnT K) : mg "law" = some (.ref (He.ga K "law")) := He.glo_ok X G (c.fact 45 (f := .glo "law") rfl)
theorem def_law {K : PySem.W.Frag} (c : He.SaysD faT fnT K) : ∃ fd, FunD K "law" "law" (defArgs s_law) (defBody s_law) (defScope s_law) [] [] (He.ga K "law") fd := c.def_ 27 (d := d_law) rfl
abbrev RR : PySem.W.OpenRow := PySem.W.OpenLaw.row PySem.Challenge.rw_idealstold_k77_papers_refused
def flT : PySem.Str := PySem.Challenge.pw_idealstold_k77_papers_refused.main.file
def zT : List ZD := [⟨"BadText", "BadText.__init__", s_Bad⟩]
def faE : List He.Fa := [.glo "BadText", .glo "NoPolynomial", .glo "NoIdeal", .glo "IdealError", .free "super", .free "ValueError", .free "isinstance", .free "sum", .free "int", .noat "BadText" "line", .noat "BadText" "place", .exm "BadText" "IdealError" true]
def fxT : List (PySem.W.Frag → Bool) := [fun K => faE.all fun f => f.ok K, twoB "BadText" "line" "place" "BadText.__init__" flT, fun K => exB K (He.ga K "BadText"), kitR "BadText" "NoPolynomial" false, kitR "BadText" "NoIdeal" false, kitR "BadText" "BadText" true, kitT "BadText" "ValueError" true]
theorem err_facts {P : Program} {K : PySem.W.Frag} {h : Heap} {mg : PySem.Str → Option Value} {fa : List He.Fa} {fn : List He.DefD} (X : K.In h) (G : h.Ns mainGlobals mg) (c : SaysX fa fn zT fxT K) (hf : P.main.file = flT) (top : (P.main.scope.names.lookup ("super" : PySem.Str)).isSome = false) :
    HB P K mg (He.ga K "BadText") ∧ HE K mg (He.ga K "BadText") := by
  have e : (faE.all fun f => f.ok K) = true := c.x 0 rfl
  have g : ∀ (i : Nat) {f : He.Fa}, faE[i]? = some f → f.ok K = true := fun i {f} h => List.all_eq_true.mp e f (List.mem_of_getElem? h)
  refine ⟨⟨two_ok X G (c.x 1 rfl) (c.z 0 rfl) (He.glo_ok X G (g 0 (f := .glo "BadText") rfl)) (He.free_ok X G (g 4 (f := .free "super") rfl)) hf top⟩, ⟨exB_ok (c.x 2 rfl),
    ⟨_, He.glo_ok X G (g 1 (f := .glo "NoPolynomial") rfl), of_decide_eq_true (c.x 3 rfl)⟩, ⟨_, He.glo_ok X G (g 2 (f := .glo "NoIdeal") rfl), of_decide_eq_true (c.x 4 rfl)⟩, ⟨He.glo_ok X G (g 0 (f := .glo "BadText") rfl), of_decide_eq_true (c.x 5 rfl)⟩,
    ⟨He.free_ok X G (g 5 (f := .free "ValueError") rfl), of_decide_eq_true (c.x 6 rfl)⟩, He.noat_ok (g 9 (f := .noat "BadText" "line") rfl), He.noat_ok (g 10 (f := .noat "BadText" "place") rfl), He.free_ok X G (g 6 (f := .free "isinstance") rfl), He.free_ok X G (g 7 (f := .free "sum") rfl), He.free_ok X G (g 8 (f := .free "int") rfl),
    ⟨_, He.glo_ok X G (g 3 (f := .glo "IdealError") rfl), He.exm_ok (g 11 (f := .exm "BadText" "IdealError" true) rfl)⟩⟩⟩
abbrev hkT : PySem.W.Hook := hookX 4 faT fnT zT fxT
def obT (s : PySem.W.SharedT) : AlX := obsXG 4 faT fnT zT fxT (HandSHeadRun.getT s)
def namesT : List PySem.Str := ["_wall", "IdealError", "NoPolynomial", "NoIdeal", "BadText", "LETTERS", "DIGITS", "SIGNS", "run_end", "token_from", "tokens_of", "Line", "NONE_WORD", "take_leaf", "read_paper", "_law_draws", "_law_take", "_law_pick", "_law_same", "_law_words", "_law_paper_text", "_law_error_of", "_law_are_apart", "_law_spread", "_law_run", "_law_tokens_of", "_law_tokens_spoilt", "_law_thing", "_law_paper_tokens", "_law_paper_fault", "_law_read"]
theorem runT (w : World) : HandSHeadRun.RunEq RR (PySem.W.view RR.prog [35]) hkT obT 8000 namesT w := by
  intro os
  kernel_rfl
theorem law_sp {K : PySem.W.Frag} {H : Hp} {a : Addr} {ns : List Int} (hS : SqL K H a (ns.map V.int)) : spD K 0 S_law [.ref a] H (fun v _ => v = .bl true) (fun _ _ _ => False) := by
  refine ⟨H, [.dat (.scr (iD ns))], fun _ => [], fun r _ => r = .d (.bl true), noBad, ⟨rfl, fun i s h => ?_, fun _ _ => rfl, fun i b j h => (by cases h), fun i b h => (by cases h), Same.refl _, Same.refl _, fun _ _ h _ => h, fun i b h => (by cases h), fun b h => .inl h, fun i s b _ _ h => (by cases h), fun i s h hr => ?_, fun _ h => h, fun i s b _ _ _ h => (by cases h)⟩, ⟨ns, rfl, rfl⟩, ?_, fun _ _ _ _ _ _ _ _ z => z.elim⟩
  · cases i with
    | zero =>
      cases h
      exact ⟨rfl, .ref a, rfl, a, _, rfl, hS, RpL.of_ints⟩
    | succ i => simp at h
  · cases i with
    | zero => cases h; cases hr
    | succ i => simp at h
  · rintro r ρ' F' φ' σ' v H' rfl _ _ vo
    exact vo
end K76
open PySem PySem.W PySem.Calls PyProof.Rows
theorem PySem.Challenge.cw_idealstold_k77_papers_refused_holds : PySem.Challenge.rw_idealstold_k77_papers_refused.Holds := by
  w_on; o_law
  refine HandSHeadRun.head_any (r := OpenLaw.row PySem.Challenge.rw_idealstold_k77_papers_refused) (q := view (OpenLaw.row PySem.Challenge.rw_idealstold_k77_papers_refused).prog [35]) (H := K76.hkT) (ob := K76.obT) (M := 8000) (loose := K76.namesT) (d := HandSHeadRun.topDef (OpenLaw.row PySem.Challenge.rw_idealstold_k77_papers_refused).prog 35) (kwd := []) (fun s => EXH.obsXG_eq (HandSHeadRun.getT_eq s))
    (by kernel_rfl) (fun s => by kernel_rfl) K76.runT (by kernel_rfl) (by kernel_rfl) (by kernel_rfl) (by rfl) (by first | assumption | decide +kernel) (by decide +kernel) ⟨rfl, rfl, rfl, rfl, rfl, by decide +kernel⟩ ?hw ?hc
  case hw => w_witness2
  case hc =>
    refine L2.walk_ofE (l := PySem.Challenge.rw_idealstold_k77_papers_refused) (n := 63) (k := 71) (x := "script") (CX := L2.CX0) rfl (by decide) (by kernel_rfl) ⟨rfl, by decide, by decide⟩ ?F (fun _ _ _ _ z => z)
    intro w mg fa h Y G hmg0
    obtain ⟨K, KX, c⟩ := Y
    have hmg : mg ("law" : PySem.Str) = some (.ref fa) := by
      have e : (HandSHeadRun.topDef (OpenLaw.row PySem.Challenge.rw_idealstold_k77_papers_refused).prog 35).name = ("law" : PySem.Str) := by kernel_rfl
      rw [← e]
      exact hmg0
    have T := K76.facts KX G c.d
    obtain ⟨fd, FD⟩ := K76.def_law c.d
    have e := hmg.symm.trans (K76.glo_law KX G c.d)
    cases e
    have b := L2.FunD.bindsA (ps := ["script"]) FD fun _ _ _ _ _ _ us hl => match us, hl with | [_], _ => rfl
    exact ⟨K, fd, DL.spD K 0 K76.S_law, KX, fun s v => b s [v] rfl, fun H a ns _ _ hS => K76.law_sp hS, fun base _ _ => K76.ok_law T (K76.err_facts KX G c (by kernel_rfl) (by kernel_rfl)).1 (K76.err_facts (P := (OpenLaw.row PySem.Challenge.rw_idealstold_k77_papers_refused).prog) KX G c (by kernel_rfl) (by kernel_rfl)).2 (DL.fun_of FD)⟩

