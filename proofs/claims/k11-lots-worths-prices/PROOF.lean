import PyProof.Rows.All
import Wide.All
import OpenK.AllK
import Wide.FinOn
import PySem.Challenge.RW_lessandless_k11_whole_lots_worths_and_pr
import HandS.ForMost
import HandS.IsInst
import HandS.Deep
import HandS.Zip
import HandS.Flow
import HandS.Style
import HandS.SortInts
import HandS.TupMul
import HandS.Conv
import KE.KRevSl
import HandS.RaiseMore
import KE.GoesEnum
import HandS.Words
import HandS.Ends
set_option Elab.async false
set_option linter.all false
set_option maxRecDepth 100000
set_option maxHeartbeats 4000000
namespace DL
open PySem PySem.Spec PyProof.Rows L2

/-! ### data, stores -/
inductive DV where
  | im (d : PyData)
  | mu (i : Nat)
  | ro (ns : List Int)

abbrev Cell := Bool × List PyData
abbrev Sto := List Cell
abbrev DEnv := List (Option DV)
abbrev M (α : Type) := Sto → Option (α × Sto)

mutual
inductive Rp (K : PySem.W.Frag) (H : Hp) : V → PyData → Prop
  | non : Rp K H .non .none
  | bl (b : Bool) : Rp K H (.bl b) (.bool b)
  | int (i : Int) : Rp K H (.int i) (.int i)
  | str (x : Str) : Rp K H (.str x) (.str x)
  | lst {a : Addr} {xs : List V} {ds : List PyData} : H a = some (.lst xs) → RpA K H xs ds → Rp K H (.ref a) (.list ds)
  | tup {a : Addr} {xs : List V} {ds : List PyData} : SqT K H a xs → RpA K H xs ds → Rp K H (.ref a) (.tuple ds)
inductive RpA (K : PySem.W.Frag) (H : Hp) : List V → List PyData → Prop
  | nil : RpA K H [] []
  | cons {v : V} {vs : List V} {d : PyData} {ds : List PyData} : Rp K H v d → RpA K H vs ds → RpA K H (v :: vs) (d :: ds)
end
section
variable {K : PySem.W.Frag} {H H' : Hp}
theorem Same.seqT {a : Addr} {xs : List V} (e : Same H H') (h : SqT K H a xs) : SqT K H' a xs := by
  rcases h with (h | ⟨o, h⟩) | h
  · exact .inl (.inl (e _ _ h))
  · exact .inl (.inr ⟨o, e _ _ h⟩)
  · exact .inr h
mutual
theorem Rp.mono (s : Same H H') : ∀ (d : PyData) (v : V), Rp K H v d → Rp K H' v d
  | .none, _, h => by cases h; exact .non
  | .bool _, _, h => by cases h; exact .bl _
  | .int _, _, h => by cases h; exact .int _
  | .str _, _, h => by cases h; exact .str _
  | .list ds, _, h => by
    cases h with
    | lst e a => exact .lst (s _ _ e) (RpA.mono s ds _ a)
  | .tuple ds, _, h => by
    cases h with
    | tup e a => exact .tup (Same.seqT s e) (RpA.mono s ds _ a)
  | .dict _, _, h => by cases h
theorem RpA.mono (s : Same H H') : ∀ (ds : List PyData) (vs : List V), RpA K H vs ds → RpA K H' vs ds
  | [], _, h => by cases h; exact .nil
  | d :: ds, _, h => by
    cases h with
    | cons h1 h2 => exact .cons (Rp.mono s d _ h1) (RpA.mono s ds _ h2)
end
mutual
theorem Rp.dp : ∀ (d : PyData) (v : V), Rp K H v d → Dp K H v d
  | .none, _, h => by cases h; exact .non
  | .bool _, _, h => by cases h; exact .bl _
  | .int _, _, h => by cases h; exact .int _
  | .str _, _, h => by cases h; exact .str _
  | .list ds, _, h => by
    cases h with
    | lst e a => exact .lst (SqL.of e) (RpA.dp ds _ a)
  | .tuple ds, _, h => by
    cases h with
    | tup e a => exact .tup e (RpA.dp ds _ a)
  | .dict _, _, h => by cases h
theorem RpA.dp : ∀ (ds : List PyData) (vs : List V), RpA K H vs ds → DpAll K H vs ds
  | [], _, h => by cases h; exact .nil
  | d :: ds, _, h => by
    cases h with
    | cons h1 h2 => exact .cons (Rp.dp d _ h1) (RpA.dp ds _ h2)
end
theorem RpA.length : ∀ {ds : List PyData} {vs : List V}, RpA K H vs ds → vs.length = ds.length
  | [], _, h => by cases h; rfl
  | d :: ds, _, h => by
    cases h with
    | cons h1 h2 => simp only [List.length_cons, RpA.length h2]
theorem RpA.get : ∀ {ds : List PyData} {vs : List V} {i : Nat} {d : PyData}, RpA K H vs ds → ds[i]? = some d → ∃ v, vs[i]? = some v ∧ Rp K H v d
  | [], _, _, _, h, e => by simp at e
  | d :: ds, _, i, d', h, e => by
    cases h with
    | cons h1 h2 =>
      cases i with
      | zero => simp at e; subst e; exact ⟨_, rfl, h1⟩
      | succ i =>
        obtain ⟨v, q1, q2⟩ := RpA.get (i := i) h2 (by simpa using e)
        exact ⟨v, by simpa using q1, q2⟩
theorem RpA.get' : ∀ {ds : List PyData} {vs : List V} {i : Nat} {v : V}, RpA K H vs ds → vs[i]? = some v → ∃ d, ds[i]? = some d ∧ Rp K H v d
  | [], _, _, _, h, e => by cases h; simp at e
  | d :: ds, _, i, v, h, e => by
    cases h with
    | cons h1 h2 =>
      cases i with
      | zero => simp at e; subst e; exact ⟨_, rfl, h1⟩
      | succ i =>
        obtain ⟨d, q1, q2⟩ := RpA.get' (i := i) h2 (by simpa using e)
        exact ⟨d, by simpa using q1, q2⟩
theorem RpA.append : ∀ {ds es : List PyData} {vs us : List V}, RpA K H vs ds → RpA K H us es → RpA K H (vs ++ us) (ds ++ es)
  | [], _, _, _, h, g => by cases h; exact g
  | d :: ds, _, _, _, h, g => by
    cases h with
    | cons h1 h2 => exact .cons h1 (RpA.append h2 g)
theorem RpA.one {v : V} {d : PyData} (h : Rp K H v d) : RpA K H [v] [d] := .cons h .nil
theorem RpA.take : ∀ {ds : List PyData} {vs : List V} (n : Nat), RpA K H vs ds → RpA K H (vs.take n) (ds.take n)
  | _, _, 0, _ => by simp; exact .nil
  | [], _, n + 1, h => by cases h; exact .nil
  | d :: ds, _, n + 1, h => by
    cases h with
    | cons h1 h2 => exact .cons h1 (RpA.take n h2)
theorem RpA.drop : ∀ {ds : List PyData} {vs : List V} (n : Nat), RpA K H vs ds → RpA K H (vs.drop n) (ds.drop n)
  | _, _, 0, h => by simpa using h
  | [], _, n + 1, h => by cases h; exact .nil
  | d :: ds, _, n + 1, h => by
    cases h with
    | cons h1 h2 => exact RpA.drop n h2
theorem RpA.set : ∀ {ds : List PyData} {vs : List V} {v : V} {d : PyData} (n : Nat), RpA K H vs ds → Rp K H v d → RpA K H (vs.set n v) (ds.set n d)
  | [], _, _, _, _, h, _ => by cases h; exact .nil
  | d :: ds, _, _, _, n, h, g => by
    cases h with
    | cons h1 h2 =>
      cases n with
      | zero => exact .cons g h2
      | succ n => exact .cons h1 (RpA.set n h2 g)
theorem RpA.eraseIdx : ∀ {ds : List PyData} {vs : List V} (n : Nat), RpA K H vs ds → RpA K H (vs.eraseIdx n) (ds.eraseIdx n)
  | [], _, _, h => by cases h; exact .nil
  | d :: ds, _, n, h => by
    cases h with
    | cons h1 h2 =>
      cases n with
      | zero => exact h2
      | succ n => exact .cons h1 (RpA.eraseIdx n h2)
theorem RpA.reverse : ∀ {ds : List PyData} {vs : List V}, RpA K H vs ds → RpA K H vs.reverse ds.reverse
  | [], _, h => by cases h; exact .nil
  | d :: ds, _, h => by
    cases h with
    | cons h1 h2 => rw [List.reverse_cons, List.reverse_cons]; exact RpA.append (RpA.reverse h2) (.one h1)
theorem RpA.rep {ds : List PyData} {vs : List V} (h : RpA K H vs ds) : ∀ k : Nat, RpA K H (List.replicate k vs).flatten (List.replicate k ds).flatten
  | 0 => .nil
  | k + 1 => by
    rw [List.replicate_succ, List.replicate_succ, List.flatten_cons, List.flatten_cons]
    exact RpA.append h (RpA.rep h k)
theorem RpA.ints : ∀ (ns : List Int), RpA K H (ns.map V.int) (ns.map PyData.int)
  | [] => .nil
  | n :: ns => .cons (.int n) (RpA.ints ns)
theorem RpA.of_ints : ∀ {ns : List Int} {vs : List V}, RpA K H vs (ns.map PyData.int) → vs = ns.map V.int
  | [], _, h => by cases h; rfl
  | n :: ns, _, h => by
    cases h with
    | cons h1 h2 => cases h1; rw [RpA.of_ints h2]; rfl
theorem RpA.of_bools : ∀ {ns : List Bool} {vs : List V}, RpA K H vs (ns.map PyData.bool) → vs = ns.map V.bl
  | [], _, h => by cases h; rfl
  | n :: ns, _, h => by
    cases h with
    | cons h1 h2 => cases h1; rw [RpA.of_bools h2]; rfl
end

/-! ### the hold -/
structure Hold (K : PySem.W.Frag) (Hi : Hp) (ms : List Addr) (st : Sto) (H : Hp) : Prop where
  sub : Same Hi H
  len : ms.length = st.length
  nd : ms.Nodup
  wr : ∀ (i : Nat) (a : Addr) (xs : List PyData), ms[i]? = some a → st[i]? = some (true, xs) → Hi a = none ∧ ∃ vs, H a = some (.lst vs) ∧ RpA K Hi vs xs
  fz : ∀ (i : Nat) (a : Addr) (xs : List PyData), ms[i]? = some a → st[i]? = some (false, xs) → Rp K Hi (.ref a) (.list xs)
  sz : ∀ (a : Addr) (xs : List V), SqL K H a xs ∨ SqT K H a xs → xs.length ≤ sizeLine

def Pre (ms ms' : List Addr) : Prop := ∃ r, ms' = ms ++ r
theorem Pre.refl (ms : List Addr) : Pre ms ms := ⟨[], by simp⟩
theorem Pre.trans {a b c : List Addr} (h : Pre a b) (g : Pre b c) : Pre a c := by
  obtain ⟨r, rfl⟩ := h
  obtain ⟨r', rfl⟩ := g
  exact ⟨r ++ r', by simp⟩
theorem Pre.get {a b : List Addr} (h : Pre a b) {i : Nat} {x : Addr} (e : a[i]? = some x) : b[i]? = some x := by
  obtain ⟨r, rfl⟩ := h
  obtain ⟨h1, h2⟩ := List.getElem?_eq_some_iff.mp e
  rw [List.getElem?_append_left h1]; exact e

/-- what may happen between two states -/
structure Grow (Hi : Hp) (ms : List Addr) (H : Hp) (Hi' : Hp) (ms' : List Addr) (H' : Hp) : Prop where
  same : Same Hi Hi'
  pre : ∃ r, ms' = ms ++ r ∧ ∀ p ∈ r, H p = none
  fr : ∀ a o, a ∉ ms → H a = some o → H' a = some o
  no : ∀ a o, a ∉ ms → H a = some o → Hi a = none → Hi' a = none
inductive RepV (K : PySem.W.Frag) (Hi : Hp) (ms : List Addr) : V → DV → Prop
  | im {v : V} {d : PyData} : Rp K Hi v d → RepV K Hi ms v (.im d)
  | mu {i : Nat} {a : Addr} : ms[i]? = some a → RepV K Hi ms (.ref a) (.mu i)
  | ro {a : Addr} {ns : List Int} : SqL K Hi a (ns.map V.int) → RepV K Hi ms (.ref a) (.ro ns)
inductive RepVs (K : PySem.W.Frag) (Hi : Hp) (ms : List Addr) : List V → List DV → Prop
  | nil : RepVs K Hi ms [] []
  | cons {v : V} {vs : List V} {d : DV} {ds : List DV} : RepV K Hi ms v d → RepVs K Hi ms vs ds → RepVs K Hi ms (v :: vs) (d :: ds)
section
variable {K : PySem.W.Frag} {Hi Hi' H H' : Hp} {ms ms' : List Addr} {st st' : Sto}
theorem Grow.p (g : Grow Hi ms H Hi' ms' H') : Pre ms ms' := let ⟨r, e, _⟩ := g.pre; ⟨r, e⟩
theorem RepV.mono (g : Grow Hi ms H Hi' ms' H') {v : V} {d : DV} (h : RepV K Hi ms v d) : RepV K Hi' ms' v d := by
  cases h with
  | im h => exact .im (h.mono g.same)
  | mu h => exact .mu (g.p.get h)
  | ro h => exact .ro (g.same.seq h)
theorem RepVs.mono (g : Grow Hi ms H Hi' ms' H') : ∀ {vs : List V} {ds : List DV}, RepVs K Hi ms vs ds → RepVs K Hi' ms' vs ds
  | _, _, .nil => .nil
  | _, _, .cons h t => .cons (h.mono g) (RepVs.mono g t)
theorem RepVs.length : ∀ {vs : List V} {ds : List DV}, RepVs K Hi ms vs ds → vs.length = ds.length
  | _, _, .nil => rfl
  | _, _, .cons h t => by simp only [List.length_cons, RepVs.length t]
structure RepE (K : PySem.W.Frag) (Hi : Hp) (ms : List Addr) (σ : L2.St) (env : DEnv) : Prop where
  len : σ.length = env.length
  at_ : ∀ (i : Nat) (d : DV), env[i]? = some (some d) → ∃ v, σ[i]? = some (some v) ∧ RepV K Hi ms v d
theorem RepE.mono (g : Grow Hi ms H Hi' ms' H') {σ : L2.St} {env : DEnv} (h : RepE K Hi ms σ env) : RepE K Hi' ms' σ env :=
  ⟨h.len, fun i d e => let ⟨v, a, b⟩ := h.at_ i d e; ⟨v, a, b.mono g⟩⟩
theorem RepE.set {σ : L2.St} {env : DEnv} {i : Nat} {v : V} {d : DV} (h : RepE K Hi ms σ env) (r : RepV K Hi ms v d) : RepE K Hi ms (σ.set i (some v)) (env.set i (some d)) := by
  refine ⟨by simp [h.len], fun j e q => ?_⟩
  by_cases hj : i = j
  · subst hj
    by_cases hl : i < env.length
    · rw [List.getElem?_set_self hl] at q
      cases q
      exact ⟨v, List.getElem?_set_self (by rw [h.len]; exact hl), r⟩
    · rw [List.getElem?_eq_none (by simpa using hl)] at q; cases q
  · rw [List.getElem?_set_ne hj] at q
    obtain ⟨u, a, b⟩ := h.at_ j e q
    exact ⟨u, by rw [List.getElem?_set_ne hj]; exact a, b⟩
theorem Same.none_of (s : Same Hi H) {p : Addr} (h : H p = none) : Hi p = none := s.free h
theorem same_upd {H : Hp} {p : Addr} {o : HO} (h : H p = none) : Same H (upd H p o) := fun b x e => by
  rw [upd_ne (ne_of_none e h)]; exact e
theorem same_upd2 (s : Same Hi H) {p : Addr} {o : HO} (h : Hi p = none) : Same Hi (upd H p o) := fun b x e => by
  rw [upd_ne (ne_of_none e h)]; exact s _ _ e
theorem same_both (s : Same Hi H) {p : Addr} {o : HO} : Same (upd Hi p o) (upd H p o) := fun b x e => by
  by_cases hb : b = p
  · subst hb; rw [upd_same] at e ⊢; exact e
  · rw [upd_ne hb] at e ⊢; exact s _ _ e
theorem sqL_upd {p a : Addr} {o : HO} {xs : List V} (h : SqL K (upd H p o) a xs) : (a = p ∧ (o = .lst xs ∨ ∃ ob, o = .frz ob (.lst xs))) ∨ SqL K H a xs := by
  by_cases e : a = p
  · subst e
    rcases h with (h | ⟨ob, h⟩) | h
    · rw [upd_same] at h; cases h; exact .inl ⟨rfl, .inl rfl⟩
    · rw [upd_same] at h; cases h; exact .inl ⟨rfl, .inr ⟨_, rfl⟩⟩
    · exact .inr (.inr h)
  · refine .inr ?_
    rcases h with (h | ⟨ob, h⟩) | h
    · rw [upd_ne e] at h; exact .inl (.inl h)
    · rw [upd_ne e] at h; exact .inl (.inr ⟨_, h⟩)
    · exact .inr h
theorem sqT_upd {p a : Addr} {o : HO} {xs : List V} (h : SqT K (upd H p o) a xs) : (a = p ∧ (o = .tup xs ∨ ∃ ob, o = .frz ob (.tup xs))) ∨ SqT K H a xs := by
  by_cases e : a = p
  · subst e
    rcases h with (h | ⟨ob, h⟩) | h
    · rw [upd_same] at h; cases h; exact .inl ⟨rfl, .inl rfl⟩
    · rw [upd_same] at h; cases h; exact .inl ⟨rfl, .inr ⟨_, rfl⟩⟩
    · exact .inr (.inr h)
  · refine .inr ?_
    rcases h with (h | ⟨ob, h⟩) | h
    · rw [upd_ne e] at h; exact .inl (.inl h)
    · rw [upd_ne e] at h; exact .inl (.inr ⟨_, h⟩)
    · exact .inr h
theorem sz_lst (h : Hold K Hi ms st H) {p : Addr} {vs : List V} (hz : vs.length ≤ sizeLine) : ∀ (a : Addr) (xs : List V), SqL K (upd H p (.lst vs)) a xs ∨ SqT K (upd H p (.lst vs)) a xs → xs.length ≤ sizeLine := fun a xs q => by
  rcases q with q | q
  · rcases sqL_upd q with ⟨_, q | ⟨_, q⟩⟩ | q
    · cases q; exact hz
    · cases q
    · exact h.sz a xs (.inl q)
  · rcases sqT_upd q with ⟨_, q | ⟨_, q⟩⟩ | q
    · cases q
    · cases q
    · exact h.sz a xs (.inr q)
theorem sz_tup (h : Hold K Hi ms st H) {p : Addr} {vs : List V} (hz : vs.length ≤ sizeLine) : ∀ (a : Addr) (xs : List V), SqL K (upd H p (.tup vs)) a xs ∨ SqT K (upd H p (.tup vs)) a xs → xs.length ≤ sizeLine := fun a xs q => by
  rcases q with q | q
  · rcases sqL_upd q with ⟨_, q | ⟨_, q⟩⟩ | q
    · cases q
    · cases q
    · exact h.sz a xs (.inl q)
  · rcases sqT_upd q with ⟨_, q | ⟨_, q⟩⟩ | q
    · cases q; exact hz
    · cases q
    · exact h.sz a xs (.inr q)
theorem Hold.cell_some (h : Hold K Hi ms st H) {i : Nat} {a : Addr} (e : ms[i]? = some a) : ∃ vs, H a = some (.lst vs) := by
  have hl : i < st.length := by rw [← h.len]; exact (List.getElem?_eq_some_iff.mp e).1
  obtain ⟨⟨b, xs⟩, hc'⟩ : ∃ c : Cell, st[i]? = some c := ⟨st[i], List.getElem?_eq_getElem hl⟩
  cases b with
  | true => obtain ⟨_, vs, q, _⟩ := h.wr i a xs e hc'; exact ⟨vs, q⟩
  | false =>
    cases h.fz i a xs e hc' with
    | lst q _ => exact ⟨_, h.sub _ _ q⟩
theorem Hold.fresh_ms (h : Hold K Hi ms st H) {p : Addr} (hp : H p = none) : p ∉ ms := fun hm => by
  obtain ⟨i, e⟩ := List.mem_iff_getElem?.mp hm
  obtain ⟨vs, q⟩ := h.cell_some e
  rw [hp] at q; cases q
theorem Grow.refl : Grow Hi ms H Hi ms H := ⟨Same.refl _, ⟨[], by simp, fun _ h => nomatch h⟩, fun _ _ _ h => h, fun _ _ _ _ h => h⟩
theorem Grow.trans {Hi1 Hi2 H1 H2 : Hp} {ms1 ms2 : List Addr} {st1 : Sto} (g : Grow Hi ms H Hi1 ms1 H1) (h : Hold K Hi1 ms1 st1 H1) (g2 : Grow Hi1 ms1 H1 Hi2 ms2 H2) : Grow Hi ms H Hi2 ms2 H2 := by
  obtain ⟨r, rfl, hr⟩ := g.pre
  obtain ⟨r2, rfl, hr2⟩ := g2.pre
  have out : ∀ a o, a ∉ ms → H a = some o → a ∉ ms ++ r := fun a o ha e hm => by
    rcases List.mem_append.mp hm with hm | hm
    · exact ha hm
    · rw [hr a hm] at e; cases e
  refine ⟨g.same.trans g2.same, ⟨r ++ r2, by simp, fun p hp => ?_⟩, fun a o ha e => ?_, fun a o ha e n => g2.no a o (out a o ha e) (g.fr a o ha e) (g.no a o ha e n)⟩
  · rcases List.mem_append.mp hp with hp | hp
    · exact hr p hp
    · have n1 := hr2 p hp
      cases e : H p with
      | none => rfl
      | some o =>
        by_cases hm : p ∈ ms
        · exact absurd (List.mem_append_left r hm) (h.fresh_ms n1)
        · rw [g.fr p o hm e] at n1; cases n1
  · exact g2.fr a o (out a o ha e) (g.fr a o ha e)
theorem grow_new {p : Addr} {o o' : HO} (hp : H p = none) (hi : Hi p = none) : Grow Hi ms H (upd Hi p o) ms (upd H p o') :=
  ⟨same_upd hi, ⟨[], by simp, fun _ h => nomatch h⟩, fun a u _ e => by rw [upd_ne (ne_of_none e hp)]; exact e, fun a u _ e n => by rw [upd_ne (ne_of_none e hp)]; exact n⟩
theorem grow_mu {p : Addr} {o : HO} (hp : H p = none) : Grow Hi ms H Hi (ms ++ [p]) (upd H p o) :=
  ⟨Same.refl _, ⟨[p], rfl, fun q h => by rw [List.mem_singleton.mp h]; exact hp⟩, fun a u _ e => by rw [upd_ne (ne_of_none e hp)]; exact e, fun _ _ _ _ n => n⟩
theorem grow_tr {p : Addr} {o : HO} (hp : H p = none) : Grow Hi ms H Hi ms (upd H p o) :=
  ⟨Same.refl _, ⟨[], by simp, fun _ h => nomatch h⟩, fun a u _ e => by rw [upd_ne (ne_of_none e hp)]; exact e, fun _ _ _ _ n => n⟩
theorem grow_wr {i : Nat} {a : Addr} {o : HO} (e1 : ms[i]? = some a) : Grow Hi ms H Hi ms (upd H a o) :=
  ⟨Same.refl _, ⟨[], by simp, fun _ h => nomatch h⟩, fun b u hb e => by
    have nb : b ≠ a := fun z => hb (by rw [z]; exact List.mem_of_getElem? e1)
    rw [upd_ne nb]; exact e, fun _ _ _ _ n => n⟩
/-- a new list, never to be written -/
theorem Hold.newL (h : Hold K Hi ms st H) {p : Addr} (hp : H p = none) {vs : List V} {ds : List PyData} (r : RpA K Hi vs ds) (hz : vs.length ≤ sizeLine) :
    Hold K (upd Hi p (.lst vs)) ms st (upd H p (.lst vs)) ∧ Same Hi (upd Hi p (.lst vs)) ∧ Rp K (upd Hi p (.lst vs)) (.ref p) (.list ds) := by
  have hpi : Hi p = none := Same.none_of h.sub hp
  have s1 : Same Hi (upd Hi p (.lst vs)) := same_upd hpi
  refine ⟨⟨same_both h.sub, h.len, h.nd, fun i a xs e1 e2 => ?_, fun i a xs e1 e2 => (h.fz i a xs e1 e2).mono s1, sz_lst h hz⟩, s1, .lst upd_same (r.mono s1)⟩
  obtain ⟨n, us, q, rr⟩ := h.wr i a xs e1 e2
  have ne : a ≠ p := ne_of_none q hp
  exact ⟨by rw [upd_ne ne]; exact n, us, by rw [upd_ne ne]; exact q, rr.mono s1⟩
theorem Hold.newT (h : Hold K Hi ms st H) {p : Addr} (hp : H p = none) {vs : List V} {ds : List PyData} (r : RpA K Hi vs ds) (hz : vs.length ≤ sizeLine) :
    Hold K (upd Hi p (.tup vs)) ms st (upd H p (.tup vs)) ∧ Same Hi (upd Hi p (.tup vs)) ∧ Rp K (upd Hi p (.tup vs)) (.ref p) (.tuple ds) := by
  have hpi : Hi p = none := Same.none_of h.sub hp
  have s1 : Same Hi (upd Hi p (.tup vs)) := same_upd hpi
  refine ⟨⟨same_both h.sub, h.len, h.nd, fun i a xs e1 e2 => ?_, fun i a xs e1 e2 => (h.fz i a xs e1 e2).mono s1, sz_tup h hz⟩, s1, .tup (SqT.of upd_same) (r.mono s1)⟩
  obtain ⟨n, us, q, rr⟩ := h.wr i a xs e1 e2
  have ne : a ≠ p := ne_of_none q hp
  exact ⟨by rw [upd_ne ne]; exact n, us, by rw [upd_ne ne]; exact q, rr.mono s1⟩
/-- a new list that may be written -/
theorem Hold.newM (h : Hold K Hi ms st H) {p : Addr} (hp : H p = none) {vs : List V} {ds : List PyData} (r : RpA K Hi vs ds) (hz : vs.length ≤ sizeLine) :
    Hold K Hi (ms ++ [p]) (st ++ [(true, ds)]) (upd H p (.lst vs)) ∧ RepV K Hi (ms ++ [p]) (.ref p) (.mu st.length) := by
  have hpi : Hi p = none := Same.none_of h.sub hp
  refine ⟨⟨same_upd2 h.sub hpi, by simp [h.len], ?_, fun i a xs e1 e2 => ?_, fun i a xs e1 e2 => ?_, sz_lst h hz⟩, .mu (by rw [← h.len]; simp)⟩
  · exact List.nodup_append.mpr ⟨h.nd, by simp, fun a ha b hb => by
      have : b = p := by simpa using hb
      subst this
      exact fun z => h.fresh_ms hp (z ▸ ha)⟩
  · by_cases hi : i < ms.length
    · rw [List.getElem?_append_left hi] at e1
      rw [List.getElem?_append_left (by rw [← h.len]; exact hi)] at e2
      obtain ⟨n, us, q, rr⟩ := h.wr i a xs e1 e2
      exact ⟨n, us, by rw [upd_ne (ne_of_none q hp)]; exact q, rr⟩
    · have hi' : ms.length ≤ i := Nat.le_of_not_lt hi
      rw [List.getElem?_append_right hi'] at e1
      rw [List.getElem?_append_right (by rw [← h.len]; exact hi')] at e2
      have i0 : i - ms.length = 0 := by
        have := (List.getElem?_eq_some_iff.mp e1).1
        simp at this; omega
      rw [i0] at e1
      rw [← h.len, i0] at e2
      simp at e1 e2
      subst e1 e2
      exact ⟨hpi, vs, upd_same, r⟩
  · by_cases hi : i < ms.length
    · rw [List.getElem?_append_left hi] at e1
      rw [List.getElem?_append_left (by rw [← h.len]; exact hi)] at e2
      exact h.fz i a xs e1 e2
    · have hi' : ms.length ≤ i := Nat.le_of_not_lt hi
      rw [List.getElem?_append_right hi'] at e1
      rw [List.getElem?_append_right (by rw [← h.len]; exact hi')] at e2
      have i0 : i - ms.length = 0 := by
        have := (List.getElem?_eq_some_iff.mp e1).1
        simp at this; omega
      rw [← h.len, i0] at e2
      simp at e2
/-- a store into a list that may be written -/
theorem Hold.write (h : Hold K Hi ms st H) {i : Nat} {a : Addr} {xs : List PyData} (e1 : ms[i]? = some a) (e2 : st[i]? = some (true, xs)) {vs : List V} {ds : List PyData} (r : RpA K Hi vs ds) (hz : vs.length ≤ sizeLine) :
    Hold K Hi ms (st.set i (true, ds)) (upd H a (.lst vs)) := by
  obtain ⟨hn, us, q, _⟩ := h.wr i a xs e1 e2
  refine ⟨same_upd2 h.sub hn, by simp [h.len], h.nd, fun j b ys f1 f2 => ?_, fun j b ys f1 f2 => ?_, sz_lst h hz⟩
  · by_cases hj : i = j
    · subst hj
      rw [e1] at f1; cases f1
      rw [List.getElem?_set_self (by exact (List.getElem?_eq_some_iff.mp e2).1)] at f2
      cases f2
      exact ⟨hn, vs, upd_same, r⟩
    · rw [List.getElem?_set_ne hj] at f2
      obtain ⟨n, us', q', rr⟩ := h.wr j b ys f1 f2
      have ne : b ≠ a := fun z => hj (nd_ix h.nd e1 (z ▸ f1))
      exact ⟨n, us', by rw [upd_ne ne]; exact q', rr⟩
  · by_cases hj : i = j
    · subst hj
      rw [List.getElem?_set_self (by exact (List.getElem?_eq_some_iff.mp e2).1)] at f2
      cases f2
    · rw [List.getElem?_set_ne hj] at f2
      exact h.fz j b ys f1 f2
/-- a list that is not written any more -/
theorem Hold.freeze (h : Hold K Hi ms st H) {i : Nat} {a : Addr} {xs : List PyData} (e1 : ms[i]? = some a) (e2 : st[i]? = some (true, xs)) :
    ∃ Hi', Grow Hi ms H Hi' ms H ∧ Hold K Hi' ms (st.set i (false, xs)) H ∧ Rp K Hi' (.ref a) (.list xs) := by
  obtain ⟨hn, vs, q, r⟩ := h.wr i a xs e1 e2
  have s1 : Same Hi (upd Hi a (.lst vs)) := same_upd hn
  have ra : Rp K (upd Hi a (.lst vs)) (.ref a) (.list xs) := .lst upd_same (r.mono s1)
  have gr : Grow Hi ms H (upd Hi a (.lst vs)) ms H := ⟨s1, ⟨[], by simp, fun _ h => nomatch h⟩, fun _ _ _ h => h, fun b o hb e n => by
    have nb : b ≠ a := fun z => hb (by rw [z]; exact List.mem_of_getElem? e1)
    rw [upd_ne nb]; exact n⟩
  refine ⟨_, gr, ⟨fun b o e => ?_, by simp [h.len], h.nd, fun j b ys f1 f2 => ?_, fun j b ys f1 f2 => ?_, h.sz⟩, ra⟩
  · by_cases hb : b = a
    · subst hb; rw [upd_same] at e; cases e; exact q
    · rw [upd_ne hb] at e; exact h.sub _ _ e
  · by_cases hj : i = j
    · subst hj
      rw [List.getElem?_set_self (by exact (List.getElem?_eq_some_iff.mp e2).1)] at f2
      cases f2
    · rw [List.getElem?_set_ne hj] at f2
      obtain ⟨n, us', q', rr⟩ := h.wr j b ys f1 f2
      have ne : b ≠ a := fun z => hj (nd_ix h.nd e1 (z ▸ f1))
      exact ⟨by rw [upd_ne ne]; exact n, us', q', rr.mono s1⟩
  · by_cases hj : i = j
    · subst hj
      rw [e1] at f1; cases f1
      rw [List.getElem?_set_self (by exact (List.getElem?_eq_some_iff.mp e2).1)] at f2
      cases f2
      exact ra
    · rw [List.getElem?_set_ne hj] at f2
      exact (h.fz j b ys f1 f2).mono s1
/-- only the first cells are told -/
theorem Hold.cut (h : Hold K Hi ms' st' H) (p : Pre ms ms') : Hold K Hi ms (st'.take ms.length) H := by
  obtain ⟨r, rfl⟩ := p
  have hl : ms.length ≤ st'.length := by rw [← h.len]; simp
  refine ⟨h.sub, by simp; omega, (List.nodup_append.mp h.nd).1, fun i a xs e1 e2 => ?_, fun i a xs e1 e2 => ?_, h.sz⟩
  · have hi : i < ms.length := (List.getElem?_eq_some_iff.mp e1).1
    rw [List.getElem?_take_of_lt hi] at e2
    exact h.wr i a xs (by rw [List.getElem?_append_left hi]; exact e1) e2
  · have hi : i < ms.length := (List.getElem?_eq_some_iff.mp e1).1
    rw [List.getElem?_take_of_lt hi] at e2
    exact h.fz i a xs (by rw [List.getElem?_append_left hi]; exact e1) e2
end
end DL
namespace DL
open PySem PySem.Spec PyProof.Rows L2

/-! ### the monad -/
def bindM {α β : Type} (m : M α) (k : α → M β) : M β := fun st => match m st with
  | some (a, st') => k a st'
  | none => none
def retM {α : Type} (a : α) : M α := fun st => some (a, st)
def failM {α : Type} : M α := fun _ => none
def liftO {α : Type} (o : Option α) : M α := fun st => match o with
  | some a => some (a, st)
  | none => none
theorem bindM_eq {α β : Type} {m : M α} {k : α → M β} {st : Sto} {r : β × Sto} (h : bindM m k st = some r) : ∃ a st', m st = some (a, st') ∧ k a st' = some r := by
  unfold bindM at h
  split at h
  · rename_i a st' e
    exact ⟨a, st', e, h⟩
  · cases h
theorem liftO_eq {α : Type} {o : Option α} {st st' : Sto} {a : α} (h : liftO o st = some (a, st')) : o = some a ∧ st' = st := by
  unfold liftO at h
  split at h
  · cases h; exact ⟨rfl, rfl⟩
  · cases h
theorem retM_eq {α : Type} {b a : α} {st st' : Sto} (h : retM b st = some (a, st')) : a = b ∧ st' = st := by
  unfold retM at h; cases h; exact ⟨rfl, rfl⟩

abbrev FE := DEnv → M DV
abbrev FT := DEnv → M Bool
abbrev FA := DEnv → M (List DV)
/-- a statement's end -/
inductive Out where
  | nx (env : DEnv)
  | rt (d : DV)
  | bk (env : DEnv)
  | ct (env : DEnv)
abbrev FS := DEnv → M Out

/-! ### what a value reads as -/
inductive Rd (K : PySem.W.Frag) (Hi H : Hp) : V → PyData → Prop
  | non : Rd K Hi H .non .none
  | bl (b : Bool) : Rd K Hi H (.bl b) (.bool b)
  | int (i : Int) : Rd K Hi H (.int i) (.int i)
  | str (x : Str) : Rd K Hi H (.str x) (.str x)
  | lst {a : Addr} {xs : List V} {ds : List PyData} : H a = some (.lst xs) → RpA K Hi xs ds → Rd K Hi H (.ref a) (.list ds)
  | tup {a : Addr} {xs : List V} {ds : List PyData} : SqT K Hi a xs → RpA K Hi xs ds → Rd K Hi H (.ref a) (.tuple ds)
def rdV : DV → M PyData
  | .im d => retM d
  | .mu i => fun st => match st[i]? with
    | some (_, xs) => some (.list xs, st)
    | none => none
  | .ro _ => failM
section
variable {K : PySem.W.Frag} {Hi Hi' H H' : Hp} {ms ms' : List Addr} {st st' : Sto} {v : V} {d : PyData} {dv : DV}
theorem Rp.rd (s : Same Hi H) (h : Rp K Hi v d) : Rd K Hi H v d := by
  cases h with
  | non => exact .non
  | bl b => exact .bl b
  | int i => exact .int i
  | str x => exact .str x
  | lst e a => exact .lst (s _ _ e) a
  | tup e a => exact .tup e a
theorem Hold.rd (h : Hold K Hi ms st H) (r : RepV K Hi ms v dv) (e : rdV dv st = some (d, st')) : st' = st ∧ Rd K Hi H v d := by
  cases r with
  | im r =>
    obtain ⟨rfl, rfl⟩ := retM_eq e
    exact ⟨rfl, r.rd h.sub⟩
  | @mu i a e1 =>
    cases e2 : st[i]? with
    | none => simp only [rdV, e2, reduceCtorEq] at e
    | some c =>
      obtain ⟨b, xs⟩ := c
      simp only [rdV, e2, Option.some.injEq, Prod.mk.injEq] at e
      obtain ⟨rfl, rfl⟩ := e
      refine ⟨rfl, ?_⟩
      cases b with
      | true => obtain ⟨_, vs, q, r⟩ := h.wr i a xs e1 e2; exact .lst q r
      | false => exact (h.fz i a xs e1 e2).rd h.sub
  | ro _ => cases e
theorem Rd.dp (s : Same Hi H) (h : Rd K Hi H v d) : Dp K H v d := by
  cases h with
  | non => exact .non
  | bl b => exact .bl b
  | int i => exact .int i
  | str x => exact .str x
  | lst e a => exact .lst (SqL.of e) (RpA.dp _ _ (a.mono s))
  | tup e a => exact .tup (Same.seqT s e) (RpA.dp _ _ (a.mono s))
end

/-! ### handing on -/
/-- behind a step: whatever grew -/
def Af (K : PySem.W.Frag) (Hi : Hp) (ms : List Addr) (H : Hp) (st' : Sto) (R : Hp → List Addr → Hp → Prop) : Prop :=
  ∀ Hi' ms' H', Grow Hi ms H Hi' ms' H' → Hold K Hi' ms' st' H' → R Hi' ms' H'
def Dl (K : PySem.W.Frag) (Hi : Hp) (ms : List Addr) (H : Hp) (st' : Sto) (dv : DV) (Q : VK) : Prop := Af K Hi ms H st' fun Hi' ms' H' => ∀ v, RepV K Hi' ms' v dv → Q v H'
def tE (K : PySem.W.Frag) (f : FE) : TE := fun σ H Q => ∃ Hi ms st env dv st', Hold K Hi ms st H ∧ RepE K Hi ms σ env ∧ f env st = some (dv, st') ∧ Dl K Hi ms H st' dv Q
def tT (K : PySem.W.Frag) (f : FT) : TT := fun σ H Q => ∃ Hi ms st env b st', Hold K Hi ms st H ∧ RepE K Hi ms σ env ∧ f env st = some (b, st') ∧ Af K Hi ms H st' fun _ _ H' => Q b H'
def tA (K : PySem.W.Frag) (f : FA) : TA := fun σ H Q => ∃ Hi ms st env ds st', Hold K Hi ms st H ∧ RepE K Hi ms σ env ∧ f env st = some (ds, st') ∧ Af K Hi ms H st' fun Hi' ms' H' => ∀ vs, RepVs K Hi' ms' vs ds → Q vs H'
section
variable {K : PySem.W.Frag} {Hi Hi' H H' : Hp} {ms ms' : List Addr} {st st' : Sto} {v : V} {d : PyData} {dv : DV} {Q : VK} {σ : L2.St}
theorem Af.here {R : Hp → List Addr → Hp → Prop} (h : Af K Hi ms H st R) (q : Hold K Hi ms st H) : R Hi ms H := h _ _ _ Grow.refl q
theorem Af.on {st1 : Sto} {R : Hp → List Addr → Hp → Prop} (h : Af K Hi ms H st' R) (g : Grow Hi ms H Hi' ms' H') (q1 : Hold K Hi' ms' st1 H') : Af K Hi' ms' H' st' R :=
  fun Hi2 ms2 H2 g2 q => h _ _ _ (g.trans q1 g2) q
theorem Dl.on {st1 : Sto} (h : Dl K Hi ms H st' dv Q) (g : Grow Hi ms H Hi' ms' H') (q1 : Hold K Hi' ms' st1 H') : Dl K Hi' ms' H' st' dv Q := Af.on h g q1
theorem Dl.here (h : Dl K Hi ms H st dv Q) (q : Hold K Hi ms st H) (r : RepV K Hi ms v dv) : Q v H := Af.here h q v r
theorem Dl.lst {ds : List PyData} {vs : List V} {p : Addr} (h : Dl K Hi ms H st (.im (.list ds)) Q) (q : Hold K Hi ms st H) (r : RpA K Hi vs ds) (hp : H p = none) (hz : vs.length ≤ sizeLine) : Q (.ref p) (upd H p (.lst vs)) := by
  obtain ⟨q', s', r'⟩ := q.newL hp r hz
  exact h _ _ _ (grow_new hp (Same.none_of q.sub hp)) q' _ (.im r')
theorem Dl.tup {ds : List PyData} {vs : List V} {p : Addr} (h : Dl K Hi ms H st (.im (.tuple ds)) Q) (q : Hold K Hi ms st H) (r : RpA K Hi vs ds) (hp : H p = none) (hz : vs.length ≤ sizeLine) : Q (.ref p) (upd H p (.tup vs)) := by
  obtain ⟨q', s', r'⟩ := q.newT hp r hz
  exact h _ _ _ (grow_new hp (Same.none_of q.sub hp)) q' _ (.im r')
end
section
variable {X : Cx} {e : Expr} {t t' : TE}
theorem PE.imp (h : PE X e t) (w : ∀ σ H Q, t' σ H Q → t σ H Q) : PE X e t' := ⟨fun pins s σ H Q I q => h.run pins s σ H Q I (w σ H Q q)⟩
theorem PT.imp {t t' : TT} (h : PT X e t) (w : ∀ σ H Q, t' σ H Q → t σ H Q) : PT X e t' := ⟨fun pins s σ H Q I q => h.run pins s σ H Q I (w σ H Q q)⟩
theorem PA.imp {es : List Expr} {t t' : TA} (h : PA X es t) (w : ∀ σ H Q, t' σ H Q → t σ H Q) : PA X es t' := ⟨fun pos pins s σ H Q I q => h.run pos pins s σ H Q I (w σ H Q q)⟩
theorem PS.imp {st : Stmt} {t t' : TS} (h : PS X st t) (w : ∀ D σ H, t' D σ H → t D σ H) : PS X st t' := ⟨fun pins s σ H D I q => h.run pins s σ H D I (w D σ H q)⟩
theorem PSs.imp {st : List Stmt} {t t' : TS} (h : PSs X st t) (w : ∀ D σ H, t' D σ H → t D σ H) : PSs X st t' := ⟨fun pins s σ H D I q => h.run pins s σ H D I (w D σ H q)⟩
/-- the judgements -/
abbrev VE (X : Cx) (e : Expr) (f : FE) : Prop := PE X e (tE X.K f)
abbrev VT (X : Cx) (e : Expr) (f : FT) : Prop := PT X e (tT X.K f)
abbrev VA (X : Cx) (es : List Expr) (f : FA) : Prop := PA X es (tA X.K f)
end

/-! ### names, constants -/
def fVar (i : Nat) : FE := fun env st => match env[i]? with
  | some (some d) => some (d, st)
  | _ => none
def fC (d : PyData) : FE := fun _ => retM (.im d)
section
variable {X : Cx} {K : PySem.W.Frag}
theorem tE_var {i : Nat} {σ : L2.St} {H : Hp} {Q : VK} (h : tE K (fVar i) σ H Q) : tVar i σ H Q := by
  obtain ⟨Hi, ms, st, env, dv, st', h1, h2, h3, h4⟩ := h
  unfold fVar at h3
  split at h3
  · rename_i d e
    cases h3
    obtain ⟨v, q1, q2⟩ := h2.at_ i _ e
    exact ⟨v, q1, h4.here h1 q2⟩
  · cases h3
theorem ve_var (i : Nat) {x : Str} {pos : Pos} (hN : X.N[i]? = some x := by rfl) (hv : Vis X.env.scope x := by first | exact Or.inl rfl | exact Or.inr (Or.inl rfl) | exact Or.inr (Or.inr rfl)) (hd : (x == ("__debug__" : Str)) = false := by decide)
    (hcd : (x == ("__classdict__" : Str)) = false := by decide) : VE X (.Name x pos) (fVar i) := PE.imp (pv i hN hv hd hcd) fun _ _ _ h => tE_var h
theorem tE_C {d : PyData} {v : V} (r : ∀ Hi, Rp K Hi v d) {σ : L2.St} {H : Hp} {Q : VK} (h : tE K (fC d) σ H Q) : tC v σ H Q := by
  obtain ⟨Hi, ms, st, env, dv, st', h1, h2, h3, h4⟩ := h
  obtain ⟨rfl, rfl⟩ := retM_eq h3
  exact h4.here h1 (.im (r Hi))
theorem ve_int {i j pos} : VE X (.Constant (.int i) j pos) (fC (.int i)) := PE.imp pe_int fun _ _ _ h => tE_C (fun _ => .int i) h
theorem ve_bl {b j pos} : VE X (.Constant (.bool b) j pos) (fC (.bool b)) := PE.imp pe_bl fun _ _ _ h => tE_C (fun _ => .bl b) h
theorem ve_non {j pos} : VE X (.Constant .none j pos) (fC .none) := PE.imp pe_non fun _ _ _ h => tE_C (fun _ => .non) h
theorem ve_str {x j pos} : VE X (.Constant (.str x) j pos) (fC (.str x)) := PE.imp pe_str fun _ _ _ h => tE_C (fun _ => .str x) h
/-- what the module's name x holds -/
structure GlC (K : PySem.W.Frag) (mg : Str → Option Value) (x : Str) (d : PyData) : Prop where
  ex : ∃ v u, mg x = some u ∧ RelV v u ∧ ∀ Hi, Rp K Hi v d
theorem ve_glob {x : Str} {d : PyData} {pos : Pos} (g : GlC X.K X.mg x d) (hg : Gl X x := by rfl) (hd : (x == ("__debug__" : Str)) = false := by decide) : VE X (.Name x pos) (fC d) := by
  obtain ⟨v, u, h1, h2, h3⟩ := g.ex
  exact PE.imp (pe_glob hg h1 h2 hd) fun _ _ _ h => tE_C h3 h
end

/-! ### two-place operations -/
def fBin (g : PyData → PyData → Option PyData) (fa fb : FE) : FE := fun env => bindM (fa env) fun a => bindM (fb env) fun b => bindM (rdV a) fun x => bindM (rdV b) fun y => bindM (liftO (g x y)) fun d => retM (.im d)
def BiOk (K : PySem.W.Frag) (r : R2) (g : PyData → PyData → Option PyData) : Prop :=
  ∀ (Hi : Hp) (ms : List Addr) (st : Sto) (H : Hp) (x y : V) (dx dy d : PyData) (Q : VK), Hold K Hi ms st H → Rd K Hi H x dx → Rd K Hi H y dy → g dx dy = some d → Dl K Hi ms H st (.im d) Q → r x y H Q
section
variable {X : Cx} {K : PySem.W.Frag} {fa fb : FE}
theorem tE_bin {r : R2} {g : PyData → PyData → Option PyData} (hr : BiOk K r g) {σ : L2.St} {H : Hp} {Q : VK} (h : tE K (fBin g fa fb) σ H Q) : tOp r (tE K fa) (tE K fb) σ H Q := by
  obtain ⟨Hi, ms, st, env, dv, st', h1, h2, h3, h4⟩ := h
  obtain ⟨a, s1, e1, k1⟩ := bindM_eq h3
  obtain ⟨b, s2, e2, k2⟩ := bindM_eq k1
  obtain ⟨x, s3, e3, k3⟩ := bindM_eq k2
  obtain ⟨y, s4, e4, k4⟩ := bindM_eq k3
  obtain ⟨d, s5, e5, k5⟩ := bindM_eq k4
  obtain ⟨e6, rfl⟩ := liftO_eq e5
  obtain ⟨rfl, rfl⟩ := retM_eq k5
  refine ⟨Hi, ms, st, env, a, s1, h1, h2, e1, fun Hi1 ms1 H1 ga q1 v1 r1 => ?_⟩
  refine ⟨Hi1, ms1, s1, env, b, s2, q1, h2.mono ga, e2, fun Hi2 ms2 H2 gb q2 v2 r2 => ?_⟩
  obtain ⟨rfl, ra⟩ := q2.rd (r1.mono gb) e3
  obtain ⟨rfl, rb⟩ := q2.rd r2 e4
  exact hr Hi2 ms2 _ H2 v1 v2 x y d Q q2 ra rb e6 (h4.on (ga.trans q1 gb) q2)
theorem BiOk.or {r r' : R2} {g g' : PyData → PyData → Option PyData} (h : BiOk K r g) (h' : BiOk K r' g') : BiOk K (fun x y H Q => r x y H Q ∨ r' x y H Q) (fun x y => (g x y).or (g' x y)) := by
  intro Hi ms st H x y dx dy d Q q rx ry e k
  cases e1 : g dx dy with
  | some z =>
    simp only [e1, Option.some_or] at e
    cases e
    exact .inl (h Hi ms st H x y dx dy d Q q rx ry e1 k)
  | none =>
    simp only [e1, Option.none_or] at e
    exact .inr (h' Hi ms st H x y dx dy d Q q rx ry e k)
/-- of ints -/
def gI (C : Int → Int → Prop) [∀ i j, Decidable (C i j)] (g : Int → Int → PyData) : PyData → PyData → Option PyData
  | .int i, .int j => if C i j then some (g i j) else none
  | _, _ => none
theorem bi_int {C C' : Int → Int → Prop} [∀ i j, Decidable (C i j)] {g : Int → Int → V} {g' : Int → Int → PyData} (hc : ∀ i j, C i j → C' i j) (hg : ∀ i j Hi, Rp K Hi (g i j) (g' i j)) : BiOk K (rI C' g) (gI C g') := by
  intro Hi ms st H x y dx dy d Q q rx ry e k
  cases rx <;> cases ry <;> simp only [gI, reduceCtorEq] at e
  rename_i i j
  by_cases h : C i j
  · rw [if_pos h] at e; cases e
    exact ⟨i, j, rfl, rfl, hc i j h, k.here q (.im (hg i j Hi))⟩
  · rw [if_neg h] at e; cases e
def gI0 (g : Int → Int → PyData) : PyData → PyData → Option PyData
  | .int i, .int j => some (g i j)
  | _, _ => none
theorem bi_int0 {g : Int → Int → V} {g' : Int → Int → PyData} (hg : ∀ i j Hi, Rp K Hi (g i j) (g' i j)) : BiOk K (rI0 g) (gI0 g') := by
  intro Hi ms st H x y dx dy d Q q rx ry e k
  cases rx <;> cases ry <;> simp only [gI0, reduceCtorEq] at e
  rename_i i j
  cases e
  exact ⟨i, j, rfl, rfl, k.here q (.im (hg i j Hi))⟩
def gSub : PyData → PyData → Option PyData := gI0 fun i j => .int (i - j)
def gLt : PyData → PyData → Option PyData := gI0 fun i j => .bool (decide (i < j))
def gLe : PyData → PyData → Option PyData := gI0 fun i j => .bool (decide (i ≤ j))
def gGt : PyData → PyData → Option PyData := gI0 fun i j => .bool (decide (j < i))
def gGe : PyData → PyData → Option PyData := gI0 fun i j => .bool (decide (j ≤ i))
instance (i j : Int) : Decidable (CDiv i j) := inferInstanceAs (Decidable (_ ∧ _))
instance (i j : Int) : Decidable (CMul i j) := inferInstanceAs (Decidable (_ ∨ _))
instance (i j : Int) : Decidable (CPow i j) := inferInstanceAs (Decidable (_ ∧ _))
def gMod : PyData → PyData → Option PyData := gI (fun _ j => 0 < j) fun i j => .int (i % j)
def gPow : PyData → PyData → Option PyData := gI CPow fun i j => .int (i ^ j.toNat)
theorem bi_sub : BiOk K (rI0 fun i j => .int (i - j)) gSub := bi_int0 fun _ _ _ => .int _
theorem bi_lt : BiOk K (rI0 fun i j => .bl (decide (i < j))) gLt := bi_int0 fun _ _ _ => .bl _
theorem bi_le : BiOk K (rI0 fun i j => .bl (decide (i ≤ j))) gLe := bi_int0 fun _ _ _ => .bl _
theorem bi_gt : BiOk K (rI0 fun i j => .bl (decide (j < i))) gGt := bi_int0 fun _ _ _ => .bl _
theorem bi_ge : BiOk K (rI0 fun i j => .bl (decide (j ≤ i))) gGe := bi_int0 fun _ _ _ => .bl _
theorem bi_mod : BiOk K (rI (fun _ j => 0 < j) fun i j => .int (i % j)) gMod := bi_int (fun _ _ h => h) fun _ _ _ => .int _
theorem bi_pow : BiOk K (rI CPow fun i j => .int (i ^ j.toNat)) gPow := bi_int (fun _ _ h => h) fun _ _ _ => .int _
theorem ve_op {op : Operator} {r : R2} {g : PyData → PyData → Option PyData} {a b : Expr} {pos : Pos} (ho : OpR X (binaryOp op) r) (hr : BiOk X.K r g) (ha : VE X a fa) (hb : VE X b fb) : VE X (.BinOp a op b pos) (fBin g fa fb) :=
  PE.imp (pe_op ho ha hb) fun _ _ _ h => tE_bin hr h
theorem ve_cmp {op : CmpOp} {r : R2} {g : PyData → PyData → Option PyData} {a b : Expr} {pos : Pos} (ho : OpR X (compareOp op) r) (hr : BiOk X.K r g) (ha : VE X a fa) (hb : VE X b fb) (hm : behindInMarks op b = false := by rfl) : VE X (.Compare a [op] [b] pos) (fBin g fa fb) :=
  PE.imp (pe_cmpR ho ha hb hm) fun _ _ _ h => tE_bin hr h
/-- a value that is True or False, as a test -/
def fTst (f : FE) : FT := fun env => bindM (f env) fun a => match a with
  | .im (.bool b) => retM b
  | _ => failM
theorem tT_tst {f : FE} {σ : L2.St} {H : Hp} {Q : Bool → Hp → Prop} (h : tT K (fTst f) σ H Q) : tE K f σ H fun x H' => ∃ k, x = .bl k ∧ Q k H' := by
  obtain ⟨Hi, ms, st, env, b, st', h1, h2, h3, h4⟩ := h
  obtain ⟨a, s1, e1, h3⟩ := bindM_eq h3
  refine ⟨Hi, ms, st, env, a, s1, h1, h2, e1, fun Hi1 ms1 H1 ga q1 v1 r1 => ?_⟩
  split at h3
  · rename_i k
    obtain ⟨rfl, rfl⟩ := retM_eq h3
    cases r1 with
    | im r1 => cases r1; exact ⟨b, rfl, h4 _ _ _ ga q1⟩
  · cases h3
theorem tOp_mono {r : R2} {ta tb : TE} {σ : L2.St} {H : Hp} {Q : VK} (h : tOp r ta tb σ H Q) : tOp r ta tb σ H Q := h
theorem vt_cmp {op : CmpOp} {r : R2} {g : PyData → PyData → Option PyData} {a b : Expr} {pos : Pos} (ho : OpR X (compareOp op) r) (hr : BiOk X.K r g) (ha : VE X a fa) (hb : VE X b fb) (hm : behindInMarks op b = false := by rfl) : VT X (.Compare a [op] [b] pos) (fTst (fBin g fa fb)) :=
  PT.imp (pt_cmpR ho ha hb hm) fun _ _ _ h => tE_bin hr (tT_tst h)
theorem vt_val {f : FE} {e : Expr} (h : VE X e f) (he : ∀ whole, isTrue e X.env whole = (do let v ← whole; standAt e.pos; holding [v] (truthy v)) := by intro _; rfl) : VT X e (fTst f) :=
  PT.imp (pt_val h he) fun _ _ _ h => tT_tst h
end
end DL
namespace DL
open PySem PySem.Spec PyProof.Rows L2

/-! ### what was lacking: () + t, sorted of a tuple, repr of data -/
section
variable {prog : Program} {w : World} {A : Around} {E : Value → Shared → Prop} {s : Shared}
theorem cat_tup0 {t b : Addr} {ws : List Value} {Q : Value → Shared → Prop} (ht : IsTup s.heap t #[]) (hb : IsTup s.heap b ws.toArray) (h1 : Q (.ref b) s) :
    wpAny (model prog w) A (binaryOp .Add (.ref t) (.ref b)) Q E s := by
  obtain ⟨⟨cls, dd, data, sl⟩, ho, hc, n, hd⟩ := id ht
  obtain ⟨⟨cls2, dd2, data2, sl2⟩, ho2, hc2, n2, hd2⟩ := id hb
  simp only at hc hd hc2 hd2
  subst hc hd hc2 hd2
  exact concat_meets ⟨_, ho, rfl⟩ ⟨_, ho2, rfl⟩ noFill_tuple_add seq_tuple_add PySem.F.slot_tuple_add PySem.F.entry_tuple_add (PySem.F.args_tuple_add_2 _ _)
      (tuple_addW0 t b #[] ws.toArray n n2 dd dd2 sl sl2 rfl) ⟨ho, ho2, h1⟩
theorem collect_tup {l : Addr} {vs : List Value} {Q : List Value → Shared → Prop} (hl : IsTup s.heap l vs.toArray)
    (h : Q vs { s with heap := (s.heap.push (seqObj "list" #[] 0)).update s.heap.objs.size (Obj.mapSeq (· ++ vs.toArray)) }) (hsz : vs.length ≤ sizeLine) :
    wpAny (model prog w) A (collect (.ref l)) Q E s := by
  obtain ⟨o, ho, hc, n, hd⟩ := id hl
  unfold collect
  refine wpAny_bind (wpAny_runValue (codeAny_builtin entry_proto_collect' ?_))
  show wpAny _ _ (do again (.builtin "list.__iadd__" ⟨[← newList [], .ref l], []⟩)) _ _ s
  refine wpAny_bind (wpAny_newList (wpAny_pure ⟨Code.quiet_builtin _ (by decide +kernel), codeAny_builtin entry_list_iadd' ?_⟩))
  show wpAny _ _ (Builtin.List.listExtendWith (.ref s.heap.objs.size) (.ref l) (.ref s.heap.objs.size)) _ _ { s with heap := s.heap.push (seqObj "list" #[] 0) }
  unfold Builtin.List.listExtendWith
  have ho' : (s.heap.push (seqObj "list" #[] 0)).get? l = some o := Heap.get?_push_of_some _ ho
  refine wpAny_bind (wpAny_typeOf (T := "tuple") ⟨o, ho', hc⟩ ?_)
  have ht : (Value.type "tuple" == Value.type "tuple") = true := by rfl
  rw [if_pos (by rw [ht]; simp)]
  refine wpAny_bind (listItems_at ho' hd ?_)
  refine wpAny_bind (listItems_at (xs := #[]) (n := 0) (Heap.get?_push_size _ rfl) rfl ?_)
  rw [if_neg (by simp)]
  refine wpAny_bind (listUpdate_at (xs := #[]) (n := 0) (Heap.get?_push_size _ rfl) rfl ?_ (Nat.zero_le _) (by show (#[] ++ vs.toArray).size ≤ sizeLine + 1; simp only [Array.size_append, List.size_toArray, List.length_nil]; omega))
  refine wpAny_pure ?_
  show wpAny (model prog w) A (do
      let o ← load s.heap.objs.size
      match o.data with
      | .seq xs _ => pure xs.toList
      | _ => unsupported "internal:collect") Q E { s with heap := (s.heap.push (seqObj "list" #[] 0)).update s.heap.objs.size (Obj.mapSeq (· ++ vs.toArray)) }
  refine wpAny_bind (wpAny_load (get?_update_seq (Heap.get?_push_size _ rfl) _) ?_)
  show wpAny _ _ (pure ((#[] : Array Value) ++ vs.toArray).toList) Q E _
  rw [show ((#[] : Array Value) ++ vs.toArray).toList = vs by simp]
  exact wpAny_pure h
open SrtO in
theorem sorted_ordT {l : Addr} {vs : List Value} {ltv : Value → Value → Bool} {Q : Value → Shared → Prop} (O : Swo ltv) (hl : IsTup s.heap l vs.toArray) (hz : vs.length ≤ sizeLine)
    (hS : 2 ≤ vs.length → ∀ (h₁ : Heap) (a : Addr), h₁.get? a = some (seqObj "list" vs.toArray 0) → (∀ b o, s.heap.get? b = some o → b ≠ a ∧ h₁.get? b = some o) → SortableO prog w A.in1.in1 { s with heap := h₁ } a vs ltv)
    (h : ∀ out : List Value, Srtd ltv out → Stb ltv out vs → Q (.ref (s.heap.objs.size + 1)) { s with heap := sortedAll s.heap vs out.toArray }) :
    wpAny (model prog w) A (call (.builtin "sorted") [.ref l]) Q E s := by
  refine Calls.call_function_entry kind_sorted plain_sorted entry_sorted (args_sorted1 _) ?_
  unfold Builtin.«sorted»
  refine wpAny_bind (m := checkCount "sorted" 1 1 _) (wpAny_pure ?_)
  refine wpAny_bind (collect_tup hl ?_ hz)
  refine wpAny_bind (wpAny_newList ?_ hz)
  have hsz : ((s.heap.push (seqObj "list" #[] 0)).update s.heap.objs.size (Obj.mapSeq (· ++ vs.toArray))).objs.size = s.heap.objs.size + 1 := by
    rw [Heap.size_update, size_push']
  have hoL : (((s.heap.push (seqObj "list" #[] 0)).update s.heap.objs.size (Obj.mapSeq (· ++ vs.toArray))).push (seqObj "list" vs.toArray 0)).get? (s.heap.objs.size + 1) = some (seqObj "list" vs.toArray 0) := by
    rw [← hsz]; exact Heap.get?_push_size _ rfl
  have keep : ∀ b o, s.heap.get? b = some o → b ≠ s.heap.objs.size + 1 ∧ (((s.heap.push (seqObj "list" #[] 0)).update s.heap.objs.size (Obj.mapSeq (· ++ vs.toArray))).push (seqObj "list" vs.toArray 0)).get? b = some o := fun b o q => by
    have hlt : b < s.heap.objs.size := Heap.lt_size q
    refine ⟨Nat.ne_of_lt (Nat.lt_succ_of_lt hlt), Heap.get?_push_of_some _ ?_⟩
    rw [Heap.get?_update_ne _ _ _ _ (Nat.ne_of_lt hlt)]
    exact Heap.get?_push_of_some _ q
  show wpAny _ _ _ _ _ { s with heap := ((s.heap.push (seqObj "list" #[] 0)).update s.heap.objs.size (Obj.mapSeq (· ++ vs.toArray))).push (seqObj "list" vs.toArray 0) }
  rw [hsz]
  refine wpAny_bind (wpAny_holding (wpAny_call_entry slot_list_sort ⟨_, hoL, rfl⟩ entry_list_sort (list_sort_ord O hoL hz (fun h2 => hS h2 _ _ hoL keep) fun out hs hb => ⟨_, rfl, ?_⟩) (args_list_sort _)))
  exact wpAny_pure ⟨_, rfl, h out hs hb⟩
end
section
variable {X : Cx}
def rCatT0 (K : PySem.W.Frag) : R2 := fun x y H Q => ∃ a b ys, x = .ref a ∧ y = .ref b ∧ SqT K H a [] ∧ SqT K H b ys ∧ Q (.ref b) H
theorem op_catT0 : OpR X (binaryOp .Add) (rCatT0 X.K) := by
  intro pins s σ H x y v u Q I rx ry h
  obtain ⟨a, b, ys, rfl, rfl, ha, hb, q⟩ := h
  cases rx
  cases ry
  obtain ⟨its, r1, p1, _⟩ := I.tuple ha
  obtain ⟨its2, r2, p2, _⟩ := I.tuple hb
  cases r1
  exact cat_tup0 p1 p2 ⟨.ref b, H, I, rfl, q⟩
def rSortedIT (K : PySem.W.Frag) : List V → Hp → VK → Prop := fun vs H Q => ∃ (a : Addr) (ns : List Int), vs = [V.ref a] ∧ SqT K H a (ns.map V.int) ∧
  ∀ (ns' : List Int) (p : Addr), ns'.Perm ns → ns'.Pairwise (· ≤ ·) → H p = none → Q (.ref p) (upd H p (.lst (ns'.map V.int)))
theorem cr_sortedIT : CallR X (.builtin "sorted") (rSortedIT X.K) := by
  intro pins s σ H vs us Q I r h
  obtain ⟨a, ns, rfl, hs, q⟩ := h
  obtain ⟨its, rv, hl, hz⟩ := I.tuple hs
  rw [Vals.ref1 r]
  have hi := rv.ints
  refine sorted_ordT SrtO.swo_int hl (by rw [← rv.length]; exact hz) (fun h2 h₁ a' _ _ => SrtO.ints_sortable hi h2) fun out h1 h2 => ?_
  obtain ⟨k1, k2, k3⟩ := SrtO.ints_out hi h1 h2
  obtain ⟨ep, he'⟩ := PyProof.Rows.sortedAll_at s.heap its out.toArray
  have hlen : ((out.map SrtO.iv).map V.int).length ≤ sizeLine := by
    rw [List.length_map, k2.length_eq]
    rw [List.length_map] at hz
    exact hz
  exact ⟨.ref _, upd H (s.heap.objs.size + 1) (.lst ((out.map SrtO.iv).map V.int)), I.laid (t' := s.toks) (fun _ _ => PyProof.Rows.sortedAll_old) (Nat.le_succ _) ⟨hlen, out, ep, vals_of_ints k1, he'⟩, rfl, q _ _ k2 k3 (I.hok.fresh (Nat.le_succ _))⟩
def rRepr (K : PySem.W.Frag) : List V → Hp → VK → Prop := fun vs H Q => ∃ (a : Addr) (d : PyData), vs = [V.ref a] ∧ Dp K H (.ref a) d ∧ d.showable = true ∧ d.hasDict = false ∧ d.depth ≤ 60 ∧ d.shown.length ≤ sizeLine ∧ Q (.str d.shown) H
theorem cr_repr (hu : X.A.units + 64 < cLine) (hg : X.A.guards = some []) : CallR X (.builtin "repr") (rRepr X.K) := by
  intro pins s σ H vs us Q I r h
  obtain ⟨a, d, rfl, hd, h1, h2, h3, h4, q⟩ := h
  rw [Vals.ref1 r]
  obtain ⟨as, rr⟩ := Dp.reads I d (.ref a) (.ref a) hd rfl
  refine repr_of_reads' rr h1 (fun e => by rw [h2] at e; cases e) hg (by omega) (fun _ _ e => e) (fun h' u tk hk => ?_) h4
  exact ⟨.str d.shown, H, I.kept hk, ⟨_, rfl⟩, q⟩
end
end DL
namespace DL
open PySem PySem.Spec PyProof.Rows L2

/-! ### + * // of numbers and sequences -/
def gAdd : PyData → PyData → Option PyData
  | .int i, .int j => some (.int (i + j))
  | .list xs, .list ys => if xs.length + ys.length ≤ 16777216 then some (.list (xs ++ ys)) else none
  | .tuple xs, .tuple ys => if xs.length + ys.length ≤ 16777216 then some (.tuple (xs ++ ys)) else none
  | _, _ => none
def rAddD (K : PySem.W.Frag) : R2 := fun x y H Q => ((rI0 fun i j => .int (i + j)) x y H Q ∨ rCat x y H Q) ∨ (rCatT K x y H Q ∨ rCatT0 K x y H Q)
def gMul : PyData → PyData → Option PyData
  | .int i, .int j => if CMul i j then some (.int (i * j)) else none
  | .list xs, .int k => if -(2 ^ 63) ≤ k ∧ k < 2 ^ 63 ∧ xs.length * k.toNat ≤ 16777216 then some (.list (List.replicate k.toNat xs).flatten) else none
  | .tuple xs, .int k => if xs ≠ [] ∧ 2 ≤ k ∧ k ≤ 1000 ∧ xs.length ≤ 1000 then some (.tuple (List.replicate k.toNat xs).flatten) else none
  | _, _ => none
def gFdv : PyData → PyData → Option PyData := gI CDiv fun i j => .int (i / j)
/-! ### ==, in, is -/
def eqD : PyData → PyData → Option Bool
  | .str a, .str b => some (a == b)
  | x, y => if SeqAt.shaped x = true ∧ SeqAt.shaped y = true then some (PyData.eqv x y) else none
def gEq (x y : PyData) : Option PyData := (eqD x y).map .bool
def gNe (x y : PyData) : Option PyData := (eqD x y).map fun b => .bool (!b)
def flatD : PyData → Bool
  | .none => true
  | .bool _ => true
  | .int _ => true
  | .str _ => true
  | _ => false
def inD : PyData → PyData → Option Bool
  | x, .list ys => if flatD x = true ∧ ys.all flatD = true then some (ys.any fun z => PyData.eqv z x) else
      if SeqAt.shaped x = true ∧ SeqAt.shaped (.list ys) = true then some (ys.any fun z => PyData.eqv z x) else none
  | x, .tuple ys => if flatD x = true ∧ ys.all flatD = true then some (ys.any fun z => PyData.eqv z x) else none
  | _, _ => none
def gIn (x y : PyData) : Option PyData := (inD x y).map .bool
def gNi (x y : PyData) : Option PyData := (inD x y).map fun b => .bool (!b)
def isN : PyData → Bool
  | .none => true
  | _ => false
def gIs : PyData → PyData → Option PyData
  | x, .none => some (.bool (isN x))
  | .bool a, .bool b => some (.bool (decide (a = b)))
  | _, _ => none
def gIt : PyData → PyData → Option PyData
  | x, .none => some (.bool (!isN x))
  | .bool a, .bool b => some (.bool (!decide (a = b)))
  | _, _ => none

section
variable {K : PySem.W.Frag} {Hi Hi' H H' : Hp} {ms ms' : List Addr} {st st' : Sto} {v : V} {d : PyData} {dv : DV}
theorem Rd.inj_int {i : Int} (h : Rd K Hi H v (.int i)) : v = .int i := by cases h; rfl
theorem Rd.flat (h : Rd K Hi H v d) (f : flatD d = true) : flatV v = true := by
  cases h <;> first | rfl | cases f
theorem Rp.rdx (h : Rp K Hi v d) (f : flatD d = true) : flatV v = true := by
  cases h <;> first | rfl | cases f
theorem RpA.flat : ∀ {ds : List PyData} {vs : List V}, RpA K Hi vs ds → ds.all flatD = true → vs.all flatV = true
  | [], _, h, _ => by cases h; rfl
  | d :: ds, _, h, f => by
    cases h with
    | cons h1 h2 =>
      rw [List.all_cons, Bool.and_eq_true] at f ⊢
      exact ⟨h1.rdx f.1, RpA.flat h2 f.2⟩
theorem eqV_eqv {v u : V} {d e : PyData} (h : Rp K Hi v d) (g : Rd K Hi H u e) (fd : flatD d = true) (fe : flatD e = true) : eqV v u = PyData.eqv d e := by
  cases h <;> cases g <;> first | rfl | cases fd | cases fe | simp [eqV, PyData.eqv]
theorem inV_eqv {u : V} {e : PyData} (g : Rd K Hi H u e) (fe : flatD e = true) : ∀ {ds : List PyData} {vs : List V}, RpA K Hi vs ds → ds.all flatD = true → inV u vs = ds.any fun z => PyData.eqv z e
  | [], _, h, _ => by cases h; rfl
  | d :: ds, _, h, f => by
    cases h with
    | cons h1 h2 =>
      rw [List.all_cons, Bool.and_eq_true] at f
      unfold inV
      rw [List.any_cons, List.any_cons, eqV_eqv h1 g f.1 fe]
      exact congrArg _ (inV_eqv g fe h2 f.2)
theorem sl24 : (sizeLine : Nat) = 16777216 := sizeLine_eq
theorem bi_add : BiOk K (rAddD K) gAdd := by
  intro Hi ms st H x y dx dy d Q q rx ry e k
  cases rx <;> cases ry <;> simp only [gAdd, reduceCtorEq] at e
  · rename_i i j
    cases e
    exact .inl (.inl ⟨i, j, rfl, rfl, k.here q (.im (.int _))⟩)
  · rename_i a xs ds h1 h2 b ys es g1 g2
    split at e
    · rename_i hz
      cases e
      refine .inl (.inr ⟨a, b, xs, ys, rfl, rfl, h1, g1, ?_, fun p hp => k.lst q (h2.append g2) hp ?_⟩)
      · rw [sl24, h2.length, g2.length]; exact hz
      · rw [sl24, List.length_append, h2.length, g2.length]; exact hz
    · cases e
  · rename_i a xs ds h1 h2 b ys es g1 g2
    split at e
    · rename_i hz
      cases e
      by_cases hx : xs = []
      · subst hx
        cases h2
        exact .inr (.inr ⟨a, b, ys, rfl, rfl, Same.seqT q.sub h1, Same.seqT q.sub g1, k.here q (.im (.tup g1 g2))⟩)
      · refine .inr (.inl ⟨a, b, xs, ys, rfl, rfl, Same.seqT q.sub h1, Same.seqT q.sub g1, hx, ?_, fun hy => ?_, fun hy p hp => k.tup q (h2.append g2) hp ?_⟩)
        · rw [sl24, h2.length, g2.length]; exact hz
        · subst hy
          cases g2
          rw [List.append_nil] at k
          exact k.here q (.im (.tup h1 h2))
        · rw [sl24, List.length_append, h2.length, g2.length]; exact hz
    · cases e
def rMulD (K : PySem.W.Frag) : R2 := fun x y H Q => ((rI CMul fun i j => .int (i * j)) x y H Q ∨ rRep x y H Q) ∨ rRepT K x y H Q
theorem bi_mul : BiOk K (rMulD K) gMul := by
  intro Hi ms st H x y dx dy d Q q rx ry e k
  cases rx <;> cases ry <;> simp only [gMul, reduceCtorEq] at e
  · rename_i i j
    split at e
    · rename_i hz
      cases e
      exact .inl (.inl ⟨i, j, rfl, rfl, hz, k.here q (.im (.int _))⟩)
    · cases e
  · rename_i a xs ds h1 h2 j
    split at e
    · rename_i hz
      obtain ⟨z1, z2, z3⟩ := hz
      cases e
      refine .inl (.inr ⟨a, j, xs, rfl, rfl, h1, z1, z2, by rw [sl24, h2.length]; exact z3, fun p hp => k.lst q (h2.rep _) hp ?_⟩)
      rw [sl24, List.length_flatten, List.map_replicate, List.sum_replicate_nat, h2.length, Nat.mul_comm]; exact z3
    · cases e
  · rename_i a xs ds h1 h2 j
    split at e
    · rename_i hz
      obtain ⟨z0, z1, z2, z3⟩ := hz
      cases e
      have hx : xs ≠ [] := fun z => by subst z; cases h2; exact z0 rfl
      refine .inr ⟨a, j, xs, rfl, rfl, Same.seqT q.sub h1, hx, z1, z2, by rw [h2.length]; exact z3, fun p hp => k.tup q (h2.rep _) hp ?_⟩
      rw [sl24, List.length_flatten, List.map_replicate, List.sum_replicate_nat, h2.length]
      have : j.toNat ≤ 1000 := by omega
      calc j.toNat * ds.length ≤ 1000 * 1000 := Nat.mul_le_mul this z3
        _ ≤ 16777216 := by decide
    · cases e
theorem bi_fdv : BiOk K (rI CDiv fun i j => .int (i / j)) gFdv := bi_int (fun _ _ h => h) fun _ _ _ => .int _
def rEqB (K : PySem.W.Frag) : R2 := fun x y H Q => rEq x y H Q ∨ rEqD K x y H Q
def rNeB (K : PySem.W.Frag) : R2 := fun x y H Q => rNe x y H Q ∨ rNeD K x y H Q
theorem eqD_cases {dx dy : PyData} {b : Bool} (h : eqD dx dy = some b) : (∃ x y, dx = .str x ∧ dy = .str y ∧ b = (x == y)) ∨ (SeqAt.shaped dx = true ∧ SeqAt.shaped dy = true ∧ b = PyData.eqv dx dy) := by
  unfold eqD at h
  split at h
  · cases h; exact .inl ⟨_, _, rfl, rfl, rfl⟩
  · split at h
    · rename_i hz
      cases h; exact .inr ⟨hz.1, hz.2, rfl⟩
    · cases h
theorem bi_eq : BiOk K (rEqB K) gEq := by
  intro Hi ms st H x y dx dy d Q q rx ry e k
  unfold gEq at e
  obtain ⟨b, e1, rfl⟩ := Option.map_eq_some_iff.mp e
  rcases eqD_cases e1 with ⟨i, j, rfl, rfl, rfl⟩ | ⟨s1, s2, rfl⟩
  · cases rx
    cases ry
    refine .inl ⟨rfl, ?_⟩
    rw [dec_str]
    exact k.here q (.im (.bl _))
  · exact .inr ⟨dx, dy, rx.dp q.sub, ry.dp q.sub, s1, s2, k.here q (.im (.bl _))⟩
theorem bi_ne : BiOk K (rNeB K) gNe := by
  intro Hi ms st H x y dx dy d Q q rx ry e k
  unfold gNe at e
  obtain ⟨b, e1, rfl⟩ := Option.map_eq_some_iff.mp e
  rcases eqD_cases e1 with ⟨i, j, rfl, rfl, rfl⟩ | ⟨s1, s2, rfl⟩
  · cases rx
    cases ry
    refine .inl ⟨rfl, ?_⟩
    rw [dec_str]
    exact k.here q (.im (.bl _))
  · exact .inr ⟨dx, dy, rx.dp q.sub, ry.dp q.sub, s1, s2, k.here q (.im (.bl _))⟩
def rInB (K : PySem.W.Frag) : R2 := fun x y H Q => rIn K false x y H Q ∨ rInD K x y H Q
def rNiB (K : PySem.W.Frag) : R2 := fun x y H Q => rIn K true x y H Q ∨ rNotInD K x y H Q
theorem inD_cases {dx dy : PyData} {b : Bool} (h : inD dx dy = some b) : ∃ ys, (dy = .list ys ∨ dy = .tuple ys) ∧ b = (ys.any fun z => PyData.eqv z dx) ∧
    ((flatD dx = true ∧ ys.all flatD = true) ∨ (SeqAt.shaped dx = true ∧ SeqAt.shaped (.list ys) = true ∧ dy = .list ys)) := by
  unfold inD at h
  split at h
  · split at h
    · rename_i hz
      cases h; exact ⟨_, .inl rfl, rfl, .inl hz⟩
    · split at h
      · rename_i hz
        cases h; exact ⟨_, .inl rfl, rfl, .inr ⟨hz.1, hz.2, rfl⟩⟩
      · cases h
  · split at h
    · rename_i hz
      cases h; exact ⟨_, .inr rfl, rfl, .inl hz⟩
    · cases h
  · cases h
theorem bi_in : BiOk K (rInB K) gIn := by
  intro Hi ms st H x y dx dy d Q q rx ry e k
  unfold gIn at e
  obtain ⟨b, e1, rfl⟩ := Option.map_eq_some_iff.mp e
  obtain ⟨ys, e2, rfl, ⟨f1, f2⟩ | ⟨s1, s2, rfl⟩⟩ := inD_cases e1
  · rcases e2 with rfl | rfl
    · cases ry with
      | lst g1 g2 =>
        refine .inl ⟨_, _, rfl, .inl (SqL.of g1), rx.flat f1, g2.flat f2, ?_⟩
        rw [if_neg Bool.false_ne_true, inV_eqv rx f1 g2 f2]
        exact k.here q (.im (.bl _))
    · cases ry with
      | tup g1 g2 =>
        refine .inl ⟨_, _, rfl, .inr (Same.seqT q.sub g1), rx.flat f1, g2.flat f2, ?_⟩
        rw [if_neg Bool.false_ne_true, inV_eqv rx f1 g2 f2]
        exact k.here q (.im (.bl _))
  · exact .inr ⟨dx, ys, rx.dp q.sub, ry.dp q.sub, s1, s2, k.here q (.im (.bl _))⟩
theorem bi_ni : BiOk K (rNiB K) gNi := by
  intro Hi ms st H x y dx dy d Q q rx ry e k
  unfold gNi at e
  obtain ⟨b, e1, rfl⟩ := Option.map_eq_some_iff.mp e
  obtain ⟨ys, e2, rfl, ⟨f1, f2⟩ | ⟨s1, s2, rfl⟩⟩ := inD_cases e1
  · rcases e2 with rfl | rfl
    · cases ry with
      | lst g1 g2 =>
        refine .inl ⟨_, _, rfl, .inl (SqL.of g1), rx.flat f1, g2.flat f2, ?_⟩
        rw [if_pos rfl, inV_eqv rx f1 g2 f2]
        exact k.here q (.im (.bl _))
    · cases ry with
      | tup g1 g2 =>
        refine .inl ⟨_, _, rfl, .inr (Same.seqT q.sub g1), rx.flat f1, g2.flat f2, ?_⟩
        rw [if_pos rfl, inV_eqv rx f1 g2 f2]
        exact k.here q (.im (.bl _))
  · exact .inr ⟨dx, ys, rx.dp q.sub, ry.dp q.sub, s1, s2, k.here q (.im (.bl _))⟩
def rIsD : R2 := fun x y H Q => (y = .non ∧ Q (.bl (decide (x = .non))) H) ∨ rIsB x y H Q
def rItD : R2 := fun x y H Q => (y = .non ∧ Q (.bl (!decide (x = .non))) H) ∨ rNotB x y H Q
theorem isN_of {x : V} {dx : PyData} (h : Rd K Hi H x dx) : decide (x = .non) = isN dx := by
  cases h <;> simp [isN]
theorem bi_is : BiOk K rIsD gIs := by
  intro Hi ms st H x y dx dy d Q q rx ry e k
  unfold gIs at e
  split at e
  · cases ry
    cases e
    refine .inl ⟨rfl, ?_⟩
    rw [isN_of rx]
    exact k.here q (.im (.bl _))
  · cases rx
    cases ry
    cases e
    exact .inr ⟨_, _, rfl, rfl, k.here q (.im (.bl _))⟩
  · cases e
theorem bi_it : BiOk K rItD gIt := by
  intro Hi ms st H x y dx dy d Q q rx ry e k
  unfold gIt at e
  split at e
  · cases ry
    cases e
    refine .inl ⟨rfl, ?_⟩
    rw [isN_of rx]
    exact k.here q (.im (.bl _))
  · cases rx
    cases ry
    cases e
    exact .inr ⟨_, _, rfl, rfl, k.here q (.im (.bl _))⟩
  · cases e
end
section
variable {X : Cx} {a b c : Expr} {pos : Pos} {fa fb fc : FE}
theorem op_addD : OpR X (binaryOp .Add) (rAddD X.K) := OpR.or (OpR.or op_add op_cat) (OpR.or op_catT op_catT0)
theorem op_mulD : OpR X (binaryOp .Mult) (rMulD X.K) := OpR.or (OpR.or op_mul op_rep) op_repT
theorem ve_add (ha : VE X a fa) (hb : VE X b fb) : VE X (.BinOp a .Add b pos) (fBin gAdd fa fb) := ve_op op_addD bi_add ha hb
theorem ve_sub (ha : VE X a fa) (hb : VE X b fb) : VE X (.BinOp a .Sub b pos) (fBin gSub fa fb) := ve_op op_sub bi_sub ha hb
theorem ve_mul (ha : VE X a fa) (hb : VE X b fb) : VE X (.BinOp a .Mult b pos) (fBin gMul fa fb) := ve_op op_mulD bi_mul ha hb
theorem ve_fdv (ha : VE X a fa) (hb : VE X b fb) : VE X (.BinOp a .FloorDiv b pos) (fBin gFdv fa fb) := ve_op op_fdiv bi_fdv ha hb
theorem ve_mod (ha : VE X a fa) (hb : VE X b fb) : VE X (.BinOp a .Mod b pos) (fBin gMod fa fb) := ve_op op_mod bi_mod ha hb
theorem ve_pow (ha : VE X a fa) (hb : VE X b fb) : VE X (.BinOp a .Pow b pos) (fBin gPow fa fb) := ve_op op_pow bi_pow ha hb
theorem op_eqB (hu : X.A.units + 64 < cLine) : OpR X (compareOp .Eq) (rEqB X.K) := OpR.or op_eq (op_eqD hu)
theorem op_neB (hu : X.A.units + 64 < cLine) : OpR X (compareOp .NotEq) (rNeB X.K) := OpR.or op_ne (op_neD hu)
theorem op_inB (hu : X.A.units + 65 < cLine) : OpR X (compareOp .In) (rInB X.K) := OpR.or op_in_seq (op_inD hu)
theorem op_niB (hu : X.A.units + 65 < cLine) : OpR X (compareOp .NotIn) (rNiB X.K) := OpR.or op_notIn_seq (op_notInD hu)
theorem op_isD : OpR X (compareOp .Is) rIsD := OpR.or op_isN op_isBl
theorem op_itD : OpR X (compareOp .IsNot) rItD := OpR.or op_notN op_notBl
theorem room64 {k : Nat} {A : Around} (r : Room k A) : A.units + 64 < cLine := r.units
theorem room65 {k : Nat} {A : Around} (r : Room k A) : A.units + 65 < cLine := by have := r.un; omega
theorem ve_lt (ha : VE X a fa) (hb : VE X b fb) : VE X (.Compare a [.Lt] [b] pos) (fBin gLt fa fb) := ve_cmp op_lt bi_lt ha hb (nomark _)
theorem ve_le (ha : VE X a fa) (hb : VE X b fb) : VE X (.Compare a [.LtE] [b] pos) (fBin gLe fa fb) := ve_cmp op_le bi_le ha hb (nomark _)
theorem ve_gt (ha : VE X a fa) (hb : VE X b fb) : VE X (.Compare a [.Gt] [b] pos) (fBin gGt fa fb) := ve_cmp op_gt bi_gt ha hb (nomark _)
theorem ve_ge (ha : VE X a fa) (hb : VE X b fb) : VE X (.Compare a [.GtE] [b] pos) (fBin gGe fa fb) := ve_cmp op_ge bi_ge ha hb (nomark _)
theorem ve_eq {k : Nat} (hr : Room k X.A) (ha : VE X a fa) (hb : VE X b fb) : VE X (.Compare a [.Eq] [b] pos) (fBin gEq fa fb) := ve_cmp (op_eqB (room64 hr)) bi_eq ha hb (nomark _)
theorem ve_ne {k : Nat} (hr : Room k X.A) (ha : VE X a fa) (hb : VE X b fb) : VE X (.Compare a [.NotEq] [b] pos) (fBin gNe fa fb) := ve_cmp (op_neB (room64 hr)) bi_ne ha hb (nomark _)
theorem ve_in {k : Nat} (hr : Room k X.A) (ha : VE X a fa) (hb : VE X b fb) (hm : behindInMarks .In b = false := by rfl) : VE X (.Compare a [.In] [b] pos) (fBin gIn fa fb) := ve_cmp (op_inB (room65 hr)) bi_in ha hb hm
theorem ve_ni {k : Nat} (hr : Room k X.A) (ha : VE X a fa) (hb : VE X b fb) (hm : behindInMarks .NotIn b = false := by rfl) : VE X (.Compare a [.NotIn] [b] pos) (fBin gNi fa fb) := ve_cmp (op_niB (room65 hr)) bi_ni ha hb hm
theorem ve_is (ha : VE X a fa) (hb : VE X b fb) : VE X (.Compare a [.Is] [b] pos) (fBin gIs fa fb) := ve_cmp op_isD bi_is ha hb (nomark _)
theorem ve_it (ha : VE X a fa) (hb : VE X b fb) : VE X (.Compare a [.IsNot] [b] pos) (fBin gIt fa fb) := ve_cmp op_itD bi_it ha hb (nomark _)
theorem vt_lt (ha : VE X a fa) (hb : VE X b fb) : VT X (.Compare a [.Lt] [b] pos) (fTst (fBin gLt fa fb)) := vt_cmp op_lt bi_lt ha hb (nomark _)
theorem vt_le (ha : VE X a fa) (hb : VE X b fb) : VT X (.Compare a [.LtE] [b] pos) (fTst (fBin gLe fa fb)) := vt_cmp op_le bi_le ha hb (nomark _)
theorem vt_gt (ha : VE X a fa) (hb : VE X b fb) : VT X (.Compare a [.Gt] [b] pos) (fTst (fBin gGt fa fb)) := vt_cmp op_gt bi_gt ha hb (nomark _)
theorem vt_ge (ha : VE X a fa) (hb : VE X b fb) : VT X (.Compare a [.GtE] [b] pos) (fTst (fBin gGe fa fb)) := vt_cmp op_ge bi_ge ha hb (nomark _)
theorem vt_eq {k : Nat} (hr : Room k X.A) (ha : VE X a fa) (hb : VE X b fb) : VT X (.Compare a [.Eq] [b] pos) (fTst (fBin gEq fa fb)) := vt_cmp (op_eqB (room64 hr)) bi_eq ha hb (nomark _)
theorem vt_ne {k : Nat} (hr : Room k X.A) (ha : VE X a fa) (hb : VE X b fb) : VT X (.Compare a [.NotEq] [b] pos) (fTst (fBin gNe fa fb)) := vt_cmp (op_neB (room64 hr)) bi_ne ha hb (nomark _)
theorem vt_in {k : Nat} (hr : Room k X.A) (ha : VE X a fa) (hb : VE X b fb) (hm : behindInMarks .In b = false := by rfl) : VT X (.Compare a [.In] [b] pos) (fTst (fBin gIn fa fb)) := vt_cmp (op_inB (room65 hr)) bi_in ha hb hm
theorem vt_ni {k : Nat} (hr : Room k X.A) (ha : VE X a fa) (hb : VE X b fb) (hm : behindInMarks .NotIn b = false := by rfl) : VT X (.Compare a [.NotIn] [b] pos) (fTst (fBin gNi fa fb)) := vt_cmp (op_niB (room65 hr)) bi_ni ha hb hm
theorem vt_is (ha : VE X a fa) (hb : VE X b fb) : VT X (.Compare a [.Is] [b] pos) (fTst (fBin gIs fa fb)) := vt_cmp op_isD bi_is ha hb (nomark _)
theorem vt_it (ha : VE X a fa) (hb : VE X b fb) : VT X (.Compare a [.IsNot] [b] pos) (fTst (fBin gIt fa fb)) := vt_cmp op_itD bi_it ha hb (nomark _)

/-! ### not, and, or, if else, chains -/
def fNot (f : FE) : FE := fun env => bindM (f env) fun a => match a with
  | .im (.bool b) => retM (.im (.bool (!b)))
  | _ => failM
def fAnd (f g : FE) : FE := fun env => bindM (f env) fun a => match a with
  | .im (.bool b) => if b = true then g env else retM (.im (.bool false))
  | _ => failM
def fOr (f g : FE) : FE := fun env => bindM (f env) fun a => match a with
  | .im (.bool b) => if b = true then retM (.im (.bool true)) else g env
  | _ => failM
def fNotT (f : FT) : FT := fun env => bindM (f env) fun b => retM (!b)
def fAndT (f g : FT) : FT := fun env => bindM (f env) fun b => if b = true then g env else retM false
def fOrT (f g : FT) : FT := fun env => bindM (f env) fun b => if b = true then retM true else g env
def fIf (c : FT) (f g : FE) : FE := fun env => bindM (c env) fun b => if b = true then f env else g env
/-- a < b < c -/
def fChn (g g' : PyData → PyData → Option PyData) (fa fb fc : FE) : FE := fun env => bindM (fa env) fun a => bindM (fb env) fun b => bindM (rdV a) fun x => bindM (rdV b) fun y => bindM (liftO (g x y)) fun d => match d with
  | .bool k => if k = true then bindM (fc env) fun c => bindM (rdV b) fun y => bindM (rdV c) fun z => bindM (liftO (g' y z)) fun d => retM (.im d) else retM (.im (.bool false))
  | _ => failM
variable {K : PySem.W.Frag} {σ : L2.St} {H : Hp}
theorem ve_not (ha : VE X a fa) : VE X (.UnaryOp .Not a pos) (fNot fa) := PE.imp (pe_not ha) fun σ H Q h => by
  obtain ⟨Hi, ms, st, env, dv, st', h1, h2, h3, h4⟩ := h
  obtain ⟨a, s1, e1, k1⟩ := bindM_eq h3
  refine ⟨Hi, ms, st, env, a, s1, h1, h2, e1, fun Hi1 ms1 H1 ga q1 v1 r1 => ?_⟩
  split at k1
  · obtain ⟨rfl, rfl⟩ := retM_eq k1
    cases r1 with
    | im r1 => cases r1; exact ⟨_, rfl, (h4.on ga q1).here q1 (.im (.bl _))⟩
  · cases k1
theorem ve_one {op} (h : VE X a fa) : VE X (.BoolOp op [a] pos) fa := pe_one h
theorem ve_and {rest : List Expr} (ha : VE X a fa) (hb : VE X (.BoolOp .And (b :: rest) pos) fb) : VE X (.BoolOp .And (a :: b :: rest) pos) (fAnd fa fb) := PE.imp (pe_and ha hb) fun σ H Q h => by
  obtain ⟨Hi, ms, st, env, dv, st', h1, h2, h3, h4⟩ := h
  obtain ⟨a, s1, e1, k1⟩ := bindM_eq h3
  refine ⟨Hi, ms, st, env, a, s1, h1, h2, e1, fun Hi1 ms1 H1 ga q1 v1 r1 => ?_⟩
  split at k1
  · rename_i c
    cases r1 with
    | im r1 =>
      cases r1
      refine ⟨c, rfl, ?_⟩
      cases c with
      | true => exact ⟨Hi1, ms1, s1, env, dv, st', q1, h2.mono ga, k1, h4.on ga q1⟩
      | false =>
        obtain ⟨rfl, rfl⟩ := retM_eq k1
        exact (h4.on ga q1).here q1 (.im (.bl _))
  · cases k1
theorem ve_or {rest : List Expr} (ha : VE X a fa) (hb : VE X (.BoolOp .Or (b :: rest) pos) fb) : VE X (.BoolOp .Or (a :: b :: rest) pos) (fOr fa fb) := PE.imp (pe_or ha hb) fun σ H Q h => by
  obtain ⟨Hi, ms, st, env, dv, st', h1, h2, h3, h4⟩ := h
  obtain ⟨a, s1, e1, k1⟩ := bindM_eq h3
  refine ⟨Hi, ms, st, env, a, s1, h1, h2, e1, fun Hi1 ms1 H1 ga q1 v1 r1 => ?_⟩
  split at k1
  · rename_i c
    cases r1 with
    | im r1 =>
      cases r1
      refine ⟨c, rfl, ?_⟩
      cases c with
      | false => exact ⟨Hi1, ms1, s1, env, dv, st', q1, h2.mono ga, k1, h4.on ga q1⟩
      | true =>
        obtain ⟨rfl, rfl⟩ := retM_eq k1
        exact (h4.on ga q1).here q1 (.im (.bl _))
  · cases k1
theorem vt_not {f : FT} (ha : VT X a f) : VT X (.UnaryOp .Not a pos) (fNotT f) := PT.imp (pt_not ha) fun σ H Q h => by
  obtain ⟨Hi, ms, st, env, b, st', h1, h2, h3, h4⟩ := h
  obtain ⟨c, s1, e1, k1⟩ := bindM_eq h3
  obtain ⟨rfl, rfl⟩ := retM_eq k1
  exact ⟨Hi, ms, st, env, c, _, h1, h2, e1, fun Hi1 ms1 H1 ga q1 => h4 _ _ _ ga q1⟩
abbrev VW (X : Cx) (e : Expr) (f : FT) : Prop := PW X e (tT X.K f)
theorem PW.imp {e : Expr} {t t' : TT} (h : PW X e t) (w : ∀ σ H Q, t' σ H Q → t σ H Q) : PW X e t' := ⟨fun wh pins s σ H Q I q => h.run wh pins s σ H Q I (w σ H Q q)⟩
theorem vw_and1 {f : FT} (ha : VT X a f) : VW X (.BoolOp .And [a] pos) f := pw_and1 ha
theorem vw_or1 {f : FT} (ha : VT X a f) : VW X (.BoolOp .Or [a] pos) f := pw_or1 ha
theorem vw_and {rest : List Expr} {f g : FT} (ha : VT X a f) (hb : VW X (.BoolOp .And (b :: rest) pos) g) : VW X (.BoolOp .And (a :: b :: rest) pos) (fAndT f g) := PW.imp (pw_and ha hb) fun σ H Q h => by
  obtain ⟨Hi, ms, st, env, b, st', h1, h2, h3, h4⟩ := h
  obtain ⟨c, s1, e1, k1⟩ := bindM_eq h3
  refine ⟨Hi, ms, st, env, c, s1, h1, h2, e1, fun Hi1 ms1 H1 ga q1 => ?_⟩
  cases c with
  | true => exact ⟨Hi1, ms1, s1, env, b, st', q1, h2.mono ga, k1, Af.on h4 ga q1⟩
  | false =>
    obtain ⟨rfl, rfl⟩ := retM_eq k1
    exact h4 _ _ _ ga q1
theorem vw_or {rest : List Expr} {f g : FT} (ha : VT X a f) (hb : VW X (.BoolOp .Or (b :: rest) pos) g) : VW X (.BoolOp .Or (a :: b :: rest) pos) (fOrT f g) := PW.imp (pw_or ha hb) fun σ H Q h => by
  obtain ⟨Hi, ms, st, env, b, st', h1, h2, h3, h4⟩ := h
  obtain ⟨c, s1, e1, k1⟩ := bindM_eq h3
  refine ⟨Hi, ms, st, env, c, s1, h1, h2, e1, fun Hi1 ms1 H1 ga q1 => ?_⟩
  cases c with
  | false => exact ⟨Hi1, ms1, s1, env, b, st', q1, h2.mono ga, k1, Af.on h4 ga q1⟩
  | true =>
    obtain ⟨rfl, rfl⟩ := retM_eq k1
    exact h4 _ _ _ ga q1
theorem ve_ife {c : FT} {ce : Expr} (hc : VT X ce c) (ha : VE X a fa) (hb : VE X b fb) : VE X (.IfExp ce a b pos) (fIf c fa fb) := PE.imp (pe_ifExp hc ha hb) fun σ H Q h => by
  obtain ⟨Hi, ms, st, env, dv, st', h1, h2, h3, h4⟩ := h
  obtain ⟨c, s1, e1, k1⟩ := bindM_eq h3
  refine ⟨Hi, ms, st, env, c, s1, h1, h2, e1, fun Hi1 ms1 H1 ga q1 => ?_⟩
  cases c with
  | true => exact ⟨Hi1, ms1, s1, env, dv, st', q1, h2.mono ga, k1, h4.on ga q1⟩
  | false => exact ⟨Hi1, ms1, s1, env, dv, st', q1, h2.mono ga, k1, h4.on ga q1⟩
theorem chn_ok {r r' : R2} {g g' : PyData → PyData → Option PyData} (hr : BiOk K r g) (hr' : BiOk K r' g') {Q : VK} (h : tE K (fChn g g' fa fb fc) σ H Q) : tChain r r' (tE K fa) (tE K fb) (tE K fc) σ H Q := by
  obtain ⟨Hi, ms, st, env, dv, st', h1, h2, h3, h4⟩ := h
  obtain ⟨a, s1, e1, k1⟩ := bindM_eq h3
  obtain ⟨b, s2, e2, k2⟩ := bindM_eq k1
  obtain ⟨x, s3, e3, k3⟩ := bindM_eq k2
  obtain ⟨y, s4, e4, k4⟩ := bindM_eq k3
  obtain ⟨d, s5, e5, k5⟩ := bindM_eq k4
  obtain ⟨e6, rfl⟩ := liftO_eq e5
  refine ⟨Hi, ms, st, env, a, s1, h1, h2, e1, fun Hi1 ms1 H1 ga q1 v1 r1 => ?_⟩
  refine ⟨Hi1, ms1, s1, env, b, s2, q1, h2.mono ga, e2, fun Hi2 ms2 H2 gb q2 v2 r2 => ?_⟩
  obtain ⟨rfl, ra⟩ := q2.rd (r1.mono gb) e3
  obtain ⟨rfl, rb⟩ := q2.rd r2 e4
  refine hr Hi2 ms2 _ H2 v1 v2 x y d _ q2 ra rb e6 fun Hi3 ms3 H3 gc q3 v3 r3 => ?_
  have h5 := h4.on ((ga.trans q1 gb).trans q2 gc) q3
  split at k5
  · rename_i k
    cases r3 with
    | im r3 =>
      cases r3
      refine ⟨k, rfl, ?_⟩
      cases k with
      | true =>
        obtain ⟨c, s6, e7, k6⟩ := bindM_eq k5
        obtain ⟨y', s7, e8, k7⟩ := bindM_eq k6
        obtain ⟨z, s8, e9, k8⟩ := bindM_eq k7
        obtain ⟨d', s9, e10, k9⟩ := bindM_eq k8
        obtain ⟨e11, rfl⟩ := liftO_eq e10
        obtain ⟨rfl, rfl⟩ := retM_eq k9
        refine ⟨Hi3, ms3, _, env, c, s6, q3, h2.mono ((ga.trans q1 gb).trans q2 gc), e7, fun Hi4 ms4 H4 gd q4 v4 r4 => ?_⟩
        obtain ⟨rfl, rb'⟩ := q4.rd (r2.mono (gc.trans q3 gd)) e8
        obtain ⟨rfl, rc⟩ := q4.rd r4 e9
        exact hr' Hi4 ms4 _ H4 v2 v4 y' z d' Q q4 rb' rc e11 (h5.on gd q4)
      | false =>
        obtain ⟨rfl, rfl⟩ := retM_eq k5
        exact h5.here q3 (.im (.bl _))
  · cases k5
theorem ve_chnI {op op' : CmpOp} {g g' : Int → Int → Bool} (ho : OpR X (compareOp op) (rI0 fun i j => .bl (g i j))) (ho' : OpR X (compareOp op') (rI0 fun i j => .bl (g' i j))) (ha : VE X a fa) (hb : VE X b fb) (hc : VE X c fc)
    (hm : lastMarks [op, op'] [b, c] = false := by with_unfolding_all rfl) : VE X (.Compare a [op, op'] [b, c] pos) (fChn (gI0 fun i j => .bool (g i j)) (gI0 fun i j => .bool (g' i j)) fa fb fc) :=
  PE.imp (pe_chain ho ho' ha hb hc hm) fun _ _ _ h => chn_ok (bi_int0 fun _ _ _ => .bl _) (bi_int0 fun _ _ _ => .bl _) h
theorem vt_chnI {op op' : CmpOp} {g g' : Int → Int → Bool} (ho : OpR X (compareOp op) (rI0 fun i j => .bl (g i j))) (ho' : OpR X (compareOp op') (rI0 fun i j => .bl (g' i j))) (ha : VE X a fa) (hb : VE X b fb) (hc : VE X c fc)
    (hm : lastMarks [op, op'] [b, c] = false := by with_unfolding_all rfl) : VT X (.Compare a [op, op'] [b, c] pos) (fTst (fChn (gI0 fun i j => .bool (g i j)) (gI0 fun i j => .bool (g' i j)) fa fb fc)) :=
  PT.imp (pt_chain ho ho' ha hb hc hm) fun _ _ _ h => chn_ok (bi_int0 fun _ _ _ => .bl _) (bi_int0 fun _ _ _ => .bl _) (tT_tst h)
end
end DL
/-! ### a slice of a tuple that is the whole tuple; a list from behind -/
namespace HT
open PySem PySem.Spec PyProof.Rows
section
variable {prog : Program} {w : World} {A : Around} {E : Value → Shared → Prop} {s : Shared}
theorem getItem_tuple_whole {t sl : Addr} {items : Array Value} {vl vu : Value} {lo hi : Option Int} {Q : Value → Shared → Prop} (ht : IsTup s.heap t items) (hs : s.heap.IsSliceOf sl vl vu .none) (pl : IsPart vl lo) (pu : IsPart vu hi)
    (hw : sIx items.size 0 lo = 0 ∧ sIx items.size items.size hi = items.size)
    (h : Q (.ref t) s) : wpAny (model prog w) A (getItem (.ref t) (.ref sl)) Q E s := by
  obtain ⟨os, hos, hcs, hds⟩ := id hs
  have hTs : s.TypeIs (.ref sl) "slice" := ⟨os, hos, hcs⟩
  obtain ⟨ot, hot, hct, nt, hdt⟩ := id ht
  unfold getItem
  try with_reducible refine wpAny_holding ?_
  first | refine wpAny_bind (wpAny_pure ?_) | skip
  refine wpAny_bind (wpAny_sequenceKey ht.typeIs (by decide) ?_)
  refine wpAny_bind (wpAny_callSpecial?_slot (name := Str.ofString "__getitem__") ht.typeIs PyProof.Rows.slot_tuple_getitem
    (wpAny_call_entry PyProof.Rows.slot_tuple_getitem ht.typeIs entry_tuple_getitem ?_ (args_tuple_getitem _ _)))
  show wpAny _ _ (Builtin.Tuple.tupleItemsOf (.ref t) >>= _) _ _ s
  refine wpAny_bind (tupleItemsOf_ ht ?_)
  refine wpAny_bind (wpAny_typeOf hTs ?_)
  rw [if_pos (by decide)]
  refine wpAny_bind (sliceApplied_gen hs pl pu ?_)
  have hyes : (((sIx items.size 0 lo : Nat) : Int) == 0 && (1 : Int) == 1 && (sIx items.size items.size hi - sIx items.size 0 lo) == items.size) = true := by
    rw [hw.1, hw.2]; simp
  show wpAny _ _ (if (((sIx items.size 0 lo : Nat) : Int) == 0 && (1 : Int) == 1 && (sIx items.size items.size hi - sIx items.size 0 lo) == items.size) = true then _ else _) _ _ s
  rw [if_pos hyes]
  have hex : ∀ {A : Around} {Q : Bool → Shared → Prop}, Q true s → wpAny (model prog w) A (Builtin.Tuple.tupleIsExact (.ref t)) Q E s := fun {A Q} hq => by
    unfold Builtin.Tuple.tupleIsExact
    first
      | exact wpAny_bind (wpAny_typeOf ht.typeIs (wpAny_pure hq))
      | (refine wpAny_bind (wpAny_typeOf ht.typeIs ?_); exact wpAny_pure hq)
  refine wpAny_bind (hex ?_)
  rw [if_pos rfl]
  refine wpAny_bind (wpAny_rule ?_)
  first
    | exact wpAny_bind (wpAny_pure (wpAny_pure ⟨_, rfl, wpAny_pure h⟩))
    | exact wpAny_bind (wpAny_pure ⟨_, rfl, wpAny_pure h⟩)
    | exact wpAny_pure ⟨_, rfl, wpAny_pure h⟩
end
end HT
namespace L2
open PySem PySem.Spec PyProof.Rows
section
variable {X : Cx}
def rSlTw (K : PySem.W.Frag) : V → Option Int → Option Int → Hp → VK → Prop := fun x lo hi H Q => ∃ a xs, x = .ref a ∧ SqT K H a xs ∧
  (HT.sIx xs.length 0 lo = 0 ∧ HT.sIx xs.length xs.length hi = xs.length) ∧ Q (.ref a) H
theorem sl_tupw : SlR X (rSlTw X.K) := by
  intro pins s σ H x v vl vu lo hi sl Q I rx hs pl pu h
  obtain ⟨a, xs, rfl, hx, hw, q⟩ := h
  cases rx
  obtain ⟨its, r, ht, hz⟩ := I.tuple hx
  have hlen : its.toArray.size = xs.length := by rw [List.size_toArray]; exact r.length.symm
  refine ⟨"tuple", _, PyProof.Rows.slot_tuple_getitem.lookup, ht.typeIs, ?_⟩
  exact HT.getItem_tuple_whole ht hs pl pu (by rw [hlen]; exact hw) ⟨.ref a, H, I, rfl, q⟩
end
end L2
namespace DL
open PySem PySem.Spec PyProof.Rows L2

/-! ### arguments, displays -/
def fNil : FA := fun _ => retM []
def fCons (f : FE) (g : FA) : FA := fun env => bindM (f env) fun a => bindM (g env) fun as => retM (a :: as)
/-- a value's data; what may be written is written no more -/
def toD : DV → M PyData
  | .im d => retM d
  | .mu i => fun st => match st[i]? with
    | some (true, xs) => some (.list xs, st.set i (false, xs))
    | some (false, xs) => some (.list xs, st)
    | none => none
  | .ro _ => failM
def toDs : List DV → M (List PyData)
  | [] => retM []
  | a :: as => bindM (toD a) fun d => bindM (toDs as) fun ds => retM (d :: ds)
def mkT (ds : List PyData) : M DV := if ds.length ≤ 1000 then retM (.im (.tuple ds)) else failM
def mkL (ds : List PyData) : M DV := if ds.length ≤ 1000 then retM (.im (.list ds)) else failM
def newMu (ds : List PyData) : M DV := fun st => some (.mu st.length, st ++ [(true, ds)])
def mkM (ds : List PyData) : M DV := if ds.length ≤ 1000 then newMu ds else failM
def fTup (fa : FA) : FE := fun env => bindM (fa env) fun as => bindM (toDs as) mkT
def fLst (fa : FA) : FE := fun env => bindM (fa env) fun as => bindM (toDs as) mkL
def fLstM (fa : FA) : FE := fun env => bindM (fa env) fun as => bindM (toDs as) mkM
section
variable {K : PySem.W.Frag} {Hi Hi' H H' : Hp} {ms ms' : List Addr} {st st' : Sto} {v : V} {d : PyData} {dv : DV}
theorem Hold.toD (h : Hold K Hi ms st H) (r : RepV K Hi ms v dv) (e : toD dv st = some (d, st')) : ∃ Hi', Grow Hi ms H Hi' ms H ∧ Hold K Hi' ms st' H ∧ Rp K Hi' v d := by
  cases r with
  | im r =>
    obtain ⟨rfl, rfl⟩ := retM_eq e
    exact ⟨Hi, Grow.refl, h, r⟩
  | @mu i a e1 =>
    cases e2 : st[i]? with
    | none => simp only [DL.toD, e2, reduceCtorEq] at e
    | some c =>
      obtain ⟨b, xs⟩ := c
      cases b with
      | true =>
        simp only [DL.toD, e2, Option.some.injEq, Prod.mk.injEq] at e
        obtain ⟨rfl, rfl⟩ := e
        exact h.freeze e1 e2
      | false =>
        simp only [DL.toD, e2, Option.some.injEq, Prod.mk.injEq] at e
        obtain ⟨rfl, rfl⟩ := e
        exact ⟨Hi, Grow.refl, h, h.fz i a _ e1 e2⟩
  | ro _ => cases e
theorem Hold.toDs : ∀ {vs : List V} {dvs : List DV} {ds : List PyData} {Hi : Hp} {st st' : Sto}, Hold K Hi ms st H → RepVs K Hi ms vs dvs → toDs dvs st = some (ds, st') → ∃ Hi', Grow Hi ms H Hi' ms H ∧ Hold K Hi' ms st' H ∧ RpA K Hi' vs ds
  | _, _, _, _, _, _, h, .nil, e => by
    obtain ⟨rfl, rfl⟩ := retM_eq e
    exact ⟨_, Grow.refl, h, .nil⟩
  | _, _, _, _, _, _, h, .cons r rs, e => by
    obtain ⟨d, s1, e1, k1⟩ := bindM_eq e
    obtain ⟨ds, s2, e2, k2⟩ := bindM_eq k1
    obtain ⟨rfl, rfl⟩ := retM_eq k2
    obtain ⟨H1, sa, h1, r1⟩ := h.toD r e1
    obtain ⟨H2, sb, h2, r2⟩ := Hold.toDs h1 (rs.mono sa) e2
    exact ⟨H2, sa.trans h1 sb, h2, .cons (r1.mono sb.same) r2⟩
end
section
variable {X : Cx} {a b c : Expr} {pos : Pos} {fa fb fc : FE} {K : PySem.W.Frag} {σ : L2.St} {H : Hp}
theorem va_nil : VA X [] fNil := PA.imp pa_nil fun σ H Q h => by
  obtain ⟨Hi, ms, st, env, ds, st', h1, h2, h3, h4⟩ := h
  obtain ⟨rfl, rfl⟩ := retM_eq h3
  exact Af.here h4 h1 [] .nil
theorem va_cons {e : Expr} {es : List Expr} {f : FE} {g : FA} (ha : VE X e f) (hr : VA X es g) (hs : starEach (e :: es) X.env = (false, eval e X.env) :: starEach es X.env := by rfl) : VA X (e :: es) (fCons f g) := PA.imp (pa_cons ha hr hs) fun σ H Q h => by
  obtain ⟨Hi, ms, st, env, ds, st', h1, h2, h3, h4⟩ := h
  obtain ⟨a, s1, e1, k1⟩ := bindM_eq h3
  obtain ⟨as, s2, e2, k2⟩ := bindM_eq k1
  obtain ⟨rfl, rfl⟩ := retM_eq k2
  refine ⟨Hi, ms, st, env, a, s1, h1, h2, e1, fun Hi1 ms1 H1 ga q1 v1 r1 => ?_⟩
  refine ⟨Hi1, ms1, s1, env, as, _, q1, h2.mono ga, e2, fun Hi2 ms2 H2 gb q2 vs2 r2 => ?_⟩
  exact h4 _ _ _ (ga.trans q1 gb) q2 _ (.cons (r1.mono gb) r2)
theorem le1000 {n : Nat} (h : n ≤ 1000) : n ≤ sizeLine := by rw [sizeLine_eq]; omega
theorem ve_tup {x1} {es : List Expr} {g : FA} (h : VA X es g) : VE X (.Tuple es x1 pos) (fTup g) := PE.imp (pe_tup h) fun σ H Q h => by
  obtain ⟨Hi, ms, st, env, dv, st', h1, h2, h3, h4⟩ := h
  obtain ⟨as, s1, e1, k1⟩ := bindM_eq h3
  obtain ⟨ds, s2, e2, k2⟩ := bindM_eq k1
  refine ⟨Hi, ms, st, env, as, s1, h1, h2, e1, fun Hi1 ms1 H1 ga q1 vs r1 => ?_⟩
  obtain ⟨Hi2, sb, q2, r2⟩ := Hold.toDs q1 r1 e2
  unfold mkT at k2
  split at k2
  · rename_i hz
    obtain ⟨rfl, rfl⟩ := retM_eq k2
    have hz' : vs.length ≤ sizeLine := le1000 (by rw [r2.length]; exact hz)
    exact ⟨hz', fun p hp => (h4.on (ga.trans q1 sb) q2).tup q2 r2 hp hz'⟩
  · cases k2
theorem ve_lst {es : List Expr} {g : FA} (h : VA X es g) : VE X (.List es pos) (fLst g) := PE.imp (pe_lst h) fun σ H Q h => by
  obtain ⟨Hi, ms, st, env, dv, st', h1, h2, h3, h4⟩ := h
  obtain ⟨as, s1, e1, k1⟩ := bindM_eq h3
  obtain ⟨ds, s2, e2, k2⟩ := bindM_eq k1
  refine ⟨Hi, ms, st, env, as, s1, h1, h2, e1, fun Hi1 ms1 H1 ga q1 vs r1 => ?_⟩
  obtain ⟨Hi2, sb, q2, r2⟩ := Hold.toDs q1 r1 e2
  unfold mkL at k2
  split at k2
  · rename_i hz
    obtain ⟨rfl, rfl⟩ := retM_eq k2
    have hz' : vs.length ≤ sizeLine := le1000 (by rw [r2.length]; exact hz)
    exact ⟨hz', fun p hp => (h4.on (ga.trans q1 sb) q2).lst q2 r2 hp hz'⟩
  · cases k2
theorem Dl.mu {K : PySem.W.Frag} {Hi H : Hp} {ms : List Addr} {st : Sto} {Q : VK} {ds : List PyData} {vs : List V} {p : Addr} (h : Dl K Hi ms H (st ++ [(true, ds)]) (.mu st.length) Q) (q : Hold K Hi ms st H) (r : RpA K Hi vs ds) (hp : H p = none) (hz : vs.length ≤ sizeLine) : Q (.ref p) (upd H p (.lst vs)) := by
  obtain ⟨q', r'⟩ := q.newM hp r hz
  exact h _ _ _ (grow_mu hp) q' _ r'
theorem ve_lstM {es : List Expr} {g : FA} (h : VA X es g) : VE X (.List es pos) (fLstM g) := PE.imp (pe_lst h) fun σ H Q h => by
  obtain ⟨Hi, ms, st, env, dv, st', h1, h2, h3, h4⟩ := h
  obtain ⟨as, s1, e1, k1⟩ := bindM_eq h3
  obtain ⟨ds, s2, e2, k2⟩ := bindM_eq k1
  refine ⟨Hi, ms, st, env, as, s1, h1, h2, e1, fun Hi1 ms1 H1 ga q1 vs r1 => ?_⟩
  obtain ⟨Hi2, sb, q2, r2⟩ := Hold.toDs q1 r1 e2
  unfold mkM at k2
  split at k2
  · rename_i hz
    unfold newMu at k2
    cases k2
    have hz' : vs.length ≤ sizeLine := le1000 (by rw [r2.length]; exact hz)
    exact ⟨hz', fun p hp => (h4.on (ga.trans q1 sb) q2).mu q2 r2 hp hz'⟩
  · cases k2

/-! ### places, slices -/
def ixD : PyData → PyData → Option PyData
  | .list xs, .int i => atI xs i
  | .tuple xs, .int i => atI xs i
  | _, _ => none
def ixV (a b : DV) : M DV := bindM (rdV b) fun y => match a with
  | .ro ns => (match y with
    | .int i => bindM (liftO (atI ns i)) fun n => retM (.im (.int n))
    | _ => failM)
  | a => bindM (rdV a) fun x => bindM (liftO (ixD x y)) fun d => retM (.im d)
def fIx (fa fb : FE) : FE := fun env => bindM (fa env) fun a => bindM (fb env) fun b => ixV a b
theorem RpA.atI {K : PySem.W.Frag} {Hi : Hp} {ds : List PyData} {vs : List V} {i : Int} {d : PyData} (r : RpA K Hi vs ds) (e : atI ds i = some d) : ∃ v, L2.atI vs i = some v ∧ Rp K Hi v d := by
  unfold L2.atI at e ⊢
  rw [r.length]
  cases e1 : ixN ds.length i with
  | none => rw [e1] at e; cases e
  | some j =>
    rw [e1] at e
    exact r.get e
def rIxD (K : PySem.W.Frag) : R2 := fun x y H Q => rIxL K x y H Q ∨ rIxT K x y H Q
theorem ix_d : IxR X (rIxD X.K) := IxR.or ix_list ix_tup
theorem ve_ix (ha : VE X a fa) (hb : VE X b fb) (hs : PlainIx b := by intro _ _; rfl) : VE X (.Subscript a b pos) (fIx fa fb) := PE.imp (pe_ix ix_d ha hb hs) fun σ H Q h => by
  obtain ⟨Hi, ms, st, env, dv, st', h1, h2, h3, h4⟩ := h
  obtain ⟨a, s1, e1, k1⟩ := bindM_eq h3
  obtain ⟨b, s2, e2, k2⟩ := bindM_eq k1
  unfold ixV at k2
  obtain ⟨y, s3, e3, k3⟩ := bindM_eq k2
  refine ⟨Hi, ms, st, env, a, s1, h1, h2, e1, fun Hi1 ms1 H1 ga q1 v1 r1 => ?_⟩
  refine ⟨Hi1, ms1, s1, env, b, s2, q1, h2.mono ga, e2, fun Hi2 ms2 H2 gb q2 v2 r2 => ?_⟩
  obtain ⟨rfl, rb⟩ := q2.rd r2 e3
  have ra := r1.mono gb
  have h5 := h4.on (ga.trans q1 gb) q2
  split at k3
  · rename_i ns
    split at k3
    · rename_i i
      obtain ⟨n, s4, e4, k4⟩ := bindM_eq k3
      obtain ⟨e5, rfl⟩ := liftO_eq e4
      obtain ⟨rfl, rfl⟩ := retM_eq k4
      cases rb
      cases ra with
      | ro hq =>
        refine .inl ⟨_, _, _, .int n, rfl, rfl, q2.sub.seq hq, ?_, h5.here q2 (.im (.int _))⟩
        unfold L2.atI at e5 ⊢
        rw [List.length_map]
        cases e6 : ixN ns.length i with
        | none => rw [e6] at e5; cases e5
        | some j =>
          rw [e6] at e5
          show (ns.map V.int)[j]? = _
          rw [List.getElem?_map]
          rw [show ns[j]? = some n from e5]
          rfl
    · cases k3
  · obtain ⟨x, s4, e4, k4⟩ := bindM_eq k3
    obtain ⟨rfl, rx⟩ := q2.rd ra e4
    obtain ⟨d, s5, e5, k5⟩ := bindM_eq k4
    obtain ⟨e6, rfl⟩ := liftO_eq e5
    obtain ⟨rfl, rfl⟩ := retM_eq k5
    unfold ixD at e6
    split at e6
    · cases rb
      cases rx with
      | lst g1 g2 =>
        obtain ⟨v, z1, z2⟩ := g2.atI e6
        exact .inl ⟨_, _, _, v, rfl, rfl, SqL.of g1, z1, h5.here q2 (.im z2)⟩
    · cases rb
      cases rx with
      | tup g1 g2 =>
        obtain ⟨v, z1, z2⟩ := g2.atI e6
        exact .inr ⟨_, _, _, v, rfl, rfl, Same.seqT q2.sub g1, z1, h5.here q2 (.im z2)⟩
    · cases e6
abbrev FO := DEnv → M (Option Int)
def tO (K : PySem.W.Frag) (f : FO) : TO := fun σ H Q => ∃ Hi ms st env o st', Hold K Hi ms st H ∧ RepE K Hi ms σ env ∧ f env st = some (o, st') ∧ Af K Hi ms H st' fun _ _ H' => Q o H'
theorem PO.imp {e : Option Expr} {t t' : TO} (h : PO X e t) (w : ∀ σ H Q, t' σ H Q → t σ H Q) : PO X e t' := ⟨fun pins s σ H Q I q => h.run pins s σ H Q I (w σ H Q q)⟩
abbrev VO (X : Cx) (e : Option Expr) (f : FO) : Prop := PO X e (tO X.K f)
def fON : FO := fun _ => retM none
def fOS (f : FE) : FO := fun env => bindM (f env) fun a => match a with
  | .im (.int i) => retM (some i)
  | _ => failM
theorem vo_none : VO X none fON := PO.imp po_none fun σ H Q h => by
  obtain ⟨Hi, ms, st, env, o, st', h1, h2, h3, h4⟩ := h
  obtain ⟨rfl, rfl⟩ := retM_eq h3
  exact Af.here h4 h1
theorem vo_some (ha : VE X a fa) : VO X (some a) (fOS fa) := PO.imp (po_some ha) fun σ H Q h => by
  obtain ⟨Hi, ms, st, env, o, st', h1, h2, h3, h4⟩ := h
  obtain ⟨a, s1, e1, k1⟩ := bindM_eq h3
  refine ⟨Hi, ms, st, env, a, s1, h1, h2, e1, fun Hi1 ms1 H1 ga q1 v1 r1 => ?_⟩
  split at k1
  · rename_i i
    obtain ⟨rfl, rfl⟩ := retM_eq k1
    cases r1 with
    | im r1 => cases r1; exact ⟨i, rfl, h4 _ _ _ ga q1⟩
  · cases k1
def cutD {α : Type} (xs : List α) (lo hi : Option Int) : List α := (xs.drop (HT.sIx xs.length 0 lo)).take (HT.sIx xs.length xs.length hi - HT.sIx xs.length 0 lo)
theorem cutD_V (xs : List V) (lo hi : Option Int) : cutV xs lo hi = cutD xs lo hi := rfl
def slD (x : PyData) (lo hi : Option Int) : Option PyData := match x with
  | .list xs => some (.list (cutD xs lo hi))
  | .tuple xs => some (.tuple (cutD xs lo hi))
  | _ => none
def fSl (fa : FE) (fl fh : FO) : FE := fun env => bindM (fa env) fun a => bindM (fl env) fun lo => bindM (fh env) fun hi => bindM (rdV a) fun x => bindM (liftO (slD x lo hi)) fun d => retM (.im d)
theorem RpA.cut {K : PySem.W.Frag} {Hi : Hp} {ds : List PyData} {vs : List V} (r : RpA K Hi vs ds) (lo hi : Option Int) : RpA K Hi (cutD vs lo hi) (cutD ds lo hi) := by
  unfold cutD
  rw [r.length]
  exact (r.drop _).take _
def rSlD (K : PySem.W.Frag) : V → Option Int → Option Int → Hp → VK → Prop := fun x lo hi H Q => rSlL K x lo hi H Q ∨ (rSlT K x lo hi H Q ∨ rSlTw K x lo hi H Q)
theorem ve_sl {lo hi : Option Expr} {p2 : Pos} {fl fh : FO} (ha : VE X a fa) (hl : VO X lo fl) (hh : VO X hi fh) : VE X (.Subscript a (.Slice lo hi none p2) pos) (fSl fa fl fh) := PE.imp (pe_slice (SlR.or sl_list (SlR.or sl_tup sl_tupw)) ha hl hh) fun σ H Q h => by
  obtain ⟨Hi, ms, st, env, dv, st', h1, h2, h3, h4⟩ := h
  obtain ⟨a, s1, e1, k1⟩ := bindM_eq h3
  obtain ⟨l, s2, e2, k2⟩ := bindM_eq k1
  obtain ⟨u, s3, e3, k3⟩ := bindM_eq k2
  obtain ⟨x, s4, e4, k4⟩ := bindM_eq k3
  obtain ⟨d, s5, e5, k5⟩ := bindM_eq k4
  obtain ⟨e6, rfl⟩ := liftO_eq e5
  obtain ⟨rfl, rfl⟩ := retM_eq k5
  refine ⟨Hi, ms, st, env, a, s1, h1, h2, e1, fun Hi1 ms1 H1 ga q1 v1 r1 => ?_⟩
  refine ⟨Hi1, ms1, s1, env, l, s2, q1, h2.mono ga, e2, fun Hi2 ms2 H2 gb q2 => ?_⟩
  refine ⟨Hi2, ms2, s2, env, u, s3, q2, h2.mono (ga.trans q1 gb), e3, fun Hi3 ms3 H3 gc q3 => ?_⟩
  obtain ⟨rfl, rx⟩ := q3.rd (r1.mono (gb.trans q2 gc)) e4
  have h5 := h4.on ((ga.trans q1 gb).trans q2 gc) q3
  unfold slD at e6
  split at e6
  · cases e6
    cases rx with
    | @lst p xs ds g1 g2 =>
      refine .inl ⟨p, xs, rfl, SqL.of g1, fun q hq => ?_⟩
      rw [cutD_V]
      refine h5.lst q3 (g2.cut l u) hq (Nat.le_trans (cutV_length xs l u) (q3.sz p xs (.inl (SqL.of g1))))
  · cases e6
    cases rx with
    | @tup p xs ds g1 g2 =>
      have g1' := Same.seqT q3.sub g1
      have hz := q3.sz p xs (.inr g1')
      by_cases hw : HT.sIx xs.length 0 l = 0 ∧ HT.sIx xs.length xs.length u = xs.length
      · refine .inr (.inr ⟨p, xs, rfl, g1', hw, ?_⟩)
        have e : ∀ {ds : List PyData}, RpA X.K Hi3 xs ds → cutD ds l u = ds := fun {ds} g => by
          unfold cutD
          rw [← g.length, hw.1, hw.2]
          rw [List.drop_zero, Nat.sub_zero, g.length, List.take_length]
        rw [e g2] at h5
        exact h5.here q3 (.im (.tup g1 g2))
      · refine .inr (.inl ⟨p, xs, rfl, g1', hw, fun q hq => ?_⟩)
        rw [cutD_V]
        exact h5.tup q3 (g2.cut l u) hq (Nat.le_trans (cutV_length xs l u) hz)
  · cases e6
/-- xs[::-1] -/
def fRev (fa : FE) : FE := fun env => bindM (fa env) fun a => bindM (rdV a) fun x => match x with
  | .list xs => retM (.im (.list xs.reverse))
  | _ => failM
theorem ve_rev {k : Nat} {p1 p2 p3 : Pos} (ha : VE X a fa) : VE X (.Subscript a (.Slice none none (some (.UnaryOp .USub (.Constant (.int 1) k p1) p2)) p3) pos) (fRev fa) := PE.imp (pe_revL ha) fun σ H Q h => by
  obtain ⟨Hi, ms, st, env, dv, st', h1, h2, h3, h4⟩ := h
  obtain ⟨a, s1, e1, k1⟩ := bindM_eq h3
  obtain ⟨x, s2, e2, k2⟩ := bindM_eq k1
  refine ⟨Hi, ms, st, env, a, s1, h1, h2, e1, fun Hi1 ms1 H1 ga q1 v1 r1 => ?_⟩
  obtain ⟨rfl, rx⟩ := q1.rd r1 e2
  split at k2
  · obtain ⟨rfl, rfl⟩ := retM_eq k2
    cases rx with
    | @lst p xs ds g1 g2 =>
      exact ⟨p, xs, rfl, SqL.of g1, fun q hq => (h4.on ga q1).lst q1 g2.reverse hq (by rw [List.length_reverse]; exact q1.sz p xs (.inl (SqL.of g1)))⟩
  · cases k2
/-- - a -/
def fNeg (fa : FE) : FE := fun env => bindM (fa env) fun a => match a with
  | .im (.int i) => retM (.im (.int (-i)))
  | _ => failM
theorem ve_neg (ha : VE X a fa) : VE X (.UnaryOp .USub a pos) (fNeg fa) := PE.imp (pe_un un_neg ha) fun σ H Q h => by
  obtain ⟨Hi, ms, st, env, dv, st', h1, h2, h3, h4⟩ := h
  obtain ⟨a, s1, e1, k1⟩ := bindM_eq h3
  refine ⟨Hi, ms, st, env, a, s1, h1, h2, e1, fun Hi1 ms1 H1 ga q1 v1 r1 => ?_⟩
  split at k1
  · rename_i i
    obtain ⟨rfl, rfl⟩ := retM_eq k1
    cases r1 with
    | im r1 => cases r1; exact ⟨i, rfl, (h4.on ga q1).here q1 (.im (.int _))⟩
  · cases k1
end
end DL
namespace DL
open PySem PySem.Spec PyProof.Rows L2

/-! ### built-ins by values -/
abbrev G1 := List DV → M DV
def CaOk (K : PySem.W.Frag) (r : List V → Hp → VK → Prop) (g : G1) : Prop :=
  ∀ (Hi : Hp) (ms : List Addr) (st st' : Sto) (H : Hp) (vs : List V) (dvs : List DV) (dv : DV) (Q : VK), Hold K Hi ms st H → RepVs K Hi ms vs dvs → g dvs st = some (dv, st') → Dl K Hi ms H st' dv Q → r vs H Q
def fCa (g : G1) (fa : FA) : FE := fun env => bindM (fa env) g
section
variable {X : Cx} {K : PySem.W.Frag} {σ : L2.St} {H : Hp} {x : Str} {p pos : Pos} {e : Expr} {es : List Expr} {fa : FA} {id T : String} {r : List V → Hp → VK → Prop} {g : G1}
theorem tE_ca (hr : CaOk K r g) {Q : VK} (h : tE K (fCa g fa) σ H Q) : tCB r (tA K fa) σ H Q := by
  obtain ⟨Hi, ms, st, env, dv, st', h1, h2, h3, h4⟩ := h
  obtain ⟨as, s1, e1, k1⟩ := bindM_eq h3
  exact ⟨Hi, ms, st, env, as, s1, h1, h2, e1, fun Hi1 ms1 H1 ga q1 vs r1 => hr Hi1 ms1 s1 st' H1 vs as dv Q q1 r1 k1 (h4.on ga q1)⟩
theorem ve_callB (hc : CallR X (.builtin id) r) (hr : CaOk X.K r g) (hm : X.mg x = none) (hv : bootBuiltins x = some (.builtin id)) (ha : VA X (e :: es) fa) (hg : Gl X x := by rfl) (hn : x ≠ "__name__" := by decide) (hdb : (x == ("__debug__" : Str)) = false := by decide)
    (he : starEach (e :: es) X.env = (false, eval e X.env) :: starEach es X.env := by rfl) (hpl : (backTo pos (starEach es X.env)).any (·.1) = false := by rfl) : VE X (.Call (.Name x p) (e :: es) [] pos) (fCa g fa) :=
  PE.imp (pe_callB hc hg hm hv ha hn hdb he hpl) fun _ _ _ h => tE_ca hr h
theorem ve_callTy (hc : CallR X (.type T) r) (hr : CaOk X.K r g) (hm : X.mg x = none) (hv : bootBuiltins x = some (.type T)) (ha : VA X (e :: es) fa) (hg : Gl X x := by rfl) (hn : x ≠ "__name__" := by decide) (hdb : (x == ("__debug__" : Str)) = false := by decide)
    (he : starEach (e :: es) X.env = (false, eval e X.env) :: starEach es X.env := by rfl) (hpl : (backTo pos (starEach es X.env)).any (·.1) = false := by rfl) : VE X (.Call (.Name x p) (e :: es) [] pos) (fCa g fa) :=
  PE.imp (pe_callTy hc hg hm hv ha hn hdb he hpl) fun _ _ _ h => tE_ca hr h
end
/-- of data alone -/
def gD (g : List PyData → Option PyData) : G1 := fun as => bindM (rds as) fun xs => bindM (liftO (g xs)) fun d => retM (.im d)
where rds : List DV → M (List PyData)
  | [] => retM []
  | a :: as => bindM (rdV a) fun x => bindM (rds as) fun xs => retM (x :: xs)
inductive RdA (K : PySem.W.Frag) (Hi H : Hp) : List V → List PyData → Prop
  | nil : RdA K Hi H [] []
  | cons {v : V} {vs : List V} {d : PyData} {ds : List PyData} : Rd K Hi H v d → RdA K Hi H vs ds → RdA K Hi H (v :: vs) (d :: ds)
section
variable {K : PySem.W.Frag} {Hi Hi' H H' : Hp} {ms ms' : List Addr}
theorem Hold.rds : ∀ {vs : List V} {dvs : List DV} {ds : List PyData} {st st' : Sto}, Hold K Hi ms st H → RepVs K Hi ms vs dvs → gD.rds dvs st = some (ds, st') → st' = st ∧ RdA K Hi H vs ds
  | _, _, _, _, _, h, .nil, e => by
    obtain ⟨rfl, rfl⟩ := retM_eq e
    exact ⟨rfl, .nil⟩
  | _, _, _, _, _, h, .cons r rs, e => by
    obtain ⟨d, s1, e1, k1⟩ := bindM_eq e
    obtain ⟨ds, s2, e2, k2⟩ := bindM_eq k1
    obtain ⟨rfl, rfl⟩ := retM_eq k2
    obtain ⟨rfl, r1⟩ := h.rd r e1
    obtain ⟨rfl, r2⟩ := Hold.rds h rs e2
    exact ⟨rfl, .cons r1 r2⟩
theorem caOk_d {r : List V → Hp → VK → Prop} {g : List PyData → Option PyData}
    (h : ∀ (Hi : Hp) (ms : List Addr) (st : Sto) (H : Hp) (vs : List V) (ds : List PyData) (d : PyData) (Q : VK), Hold K Hi ms st H → RdA K Hi H vs ds → g ds = some d → Dl K Hi ms H st (.im d) Q → r vs H Q) : CaOk K r (gD g) := by
  intro Hi ms st st' H vs dvs dv Q q rr e k
  obtain ⟨ds, s1, e1, k1⟩ := bindM_eq e
  obtain ⟨d, s2, e2, k2⟩ := bindM_eq k1
  obtain ⟨e3, rfl⟩ := liftO_eq e2
  obtain ⟨rfl, rfl⟩ := retM_eq k2
  obtain ⟨rfl, r1⟩ := q.rds rr e1
  exact h Hi ms _ H vs ds d Q q r1 e3 k
end
/-! intsOf out of data -/
def intsOf : List PyData → Option (List Int)
  | [] => some []
  | .int i :: r => (intsOf r).map (i :: ·)
  | _ => none
def boolsOf : List PyData → Option (List Bool)
  | [] => some []
  | .bool i :: r => (boolsOf r).map (i :: ·)
  | _ => none
theorem intsOf_eq : ∀ {ds : List PyData} {ns : List Int}, intsOf ds = some ns → ds = ns.map .int
  | [], ns, h => by cases h; rfl
  | .int i :: r, ns, h => by
    simp only [intsOf] at h
    obtain ⟨ms, e, rfl⟩ := Option.map_eq_some_iff.mp h
    rw [intsOf_eq e]; rfl
  | .none :: r, ns, h => by cases h
  | .bool _ :: r, ns, h => by cases h
  | .str _ :: r, ns, h => by cases h
  | .list _ :: r, ns, h => by cases h
  | .tuple _ :: r, ns, h => by cases h
  | .dict _ :: r, ns, h => by cases h
theorem boolsOf_eq : ∀ {ds : List PyData} {ns : List Bool}, boolsOf ds = some ns → ds = ns.map .bool
  | [], ns, h => by cases h; rfl
  | .bool i :: r, ns, h => by
    simp only [boolsOf] at h
    obtain ⟨ms, e, rfl⟩ := Option.map_eq_some_iff.mp h
    rw [boolsOf_eq e]; rfl
  | .none :: r, ns, h => by cases h
  | .int _ :: r, ns, h => by cases h
  | .str _ :: r, ns, h => by cases h
  | .list _ :: r, ns, h => by cases h
  | .tuple _ :: r, ns, h => by cases h
  | .dict _ :: r, ns, h => by cases h
theorem intsOf_map : ∀ ns : List Int, intsOf (ns.map .int) = some ns
  | [] => rfl
  | n :: ns => by rw [List.map_cons, intsOf, intsOf_map ns]; rfl
theorem boolsOf_map : ∀ ns : List Bool, boolsOf (ns.map .bool) = some ns
  | [] => rfl
  | n :: ns => by rw [List.map_cons, boolsOf, boolsOf_map ns]; rfl
/-- sorting -/
def ins1 (x : Int) : List Int → List Int
  | [] => [x]
  | y :: r => if x ≤ y then x :: y :: r else y :: ins1 x r
def isort : List Int → List Int
  | [] => []
  | x :: r => ins1 x (isort r)
theorem ins1_perm (x : Int) : ∀ l : List Int, (ins1 x l).Perm (x :: l)
  | [] => .refl _
  | y :: r => by
    unfold ins1
    split
    · exact .refl _
    · exact ((ins1_perm x r).cons y).trans (.swap x y r)
theorem isort_perm : ∀ l : List Int, (isort l).Perm l
  | [] => .refl _
  | x :: r => (ins1_perm x (isort r)).trans ((isort_perm r).cons x)
theorem ins1_sorted (x : Int) : ∀ l : List Int, l.Pairwise (· ≤ ·) → (ins1 x l).Pairwise (· ≤ ·)
  | [], _ => by simp [ins1]
  | y :: r, h => by
    have h' := List.pairwise_cons.mp h
    unfold ins1
    split
    · rename_i hxy
      refine List.pairwise_cons.mpr ⟨fun z hz => ?_, h⟩
      rcases List.mem_cons.mp hz with rfl | hz
      · exact hxy
      · exact Int.le_trans hxy (h'.1 z hz)
    · rename_i hxy
      refine List.pairwise_cons.mpr ⟨fun z hz => ?_, ins1_sorted x r h'.2⟩
      rcases List.mem_cons.mp ((ins1_perm x r).mem_iff.mp hz) with rfl | hz
      · omega
      · exact h'.1 z hz
theorem isort_sorted : ∀ l : List Int, (isort l).Pairwise (· ≤ ·)
  | [] => .nil
  | x :: r => ins1_sorted x _ (isort_sorted r)
theorem isort_of {l m : List Int} (hp : m.Perm l) (hs : m.Pairwise (· ≤ ·)) : m = isort l :=
  PySem.W.ksm_same (hp.trans (isort_perm l).symm) hs (isort_sorted l)
def lmax : List Int → Option Int
  | [] => none
  | x :: r => some (r.foldl (fun a b => if a < b then b else a) x)
def lmin : List Int → Option Int
  | [] => none
  | x :: r => some (r.foldl (fun a b => if b < a then b else a) x)
theorem foldmax (r : List Int) : ∀ x : Int, ((r.foldl (fun a b => if a < b then b else a) x) = x ∨ (r.foldl (fun a b => if a < b then b else a) x) ∈ r) ∧ x ≤ (r.foldl (fun a b => if a < b then b else a) x) ∧ ∀ y ∈ r, y ≤ (r.foldl (fun a b => if a < b then b else a) x) := by
  induction r with
  | nil => intro x; exact ⟨.inl rfl, Int.le_refl _, fun _ h => nomatch h⟩
  | cons a r ih =>
    intro x
    rw [List.foldl_cons]
    obtain ⟨h1, h2, h3⟩ := ih (if x < a then a else x)
    by_cases hx : x < a
    · rw [if_pos hx] at h1 h2 h3 ⊢
      refine ⟨.inr ?_, by omega, fun y hy => ?_⟩
      · rcases h1 with h1 | h1
        · rw [h1]; exact List.mem_cons_self ..
        · exact List.mem_cons_of_mem _ h1
      · rcases List.mem_cons.mp hy with rfl | hy
        · exact h2
        · exact h3 y hy
    · rw [if_neg hx] at h1 h2 h3 ⊢
      refine ⟨h1.imp id (List.mem_cons_of_mem _), h2, fun y hy => ?_⟩
      rcases List.mem_cons.mp hy with rfl | hy
      · omega
      · exact h3 y hy
theorem foldmin (r : List Int) : ∀ x : Int, ((r.foldl (fun a b => if b < a then b else a) x) = x ∨ (r.foldl (fun a b => if b < a then b else a) x) ∈ r) ∧ (r.foldl (fun a b => if b < a then b else a) x) ≤ x ∧ ∀ y ∈ r, (r.foldl (fun a b => if b < a then b else a) x) ≤ y := by
  induction r with
  | nil => intro x; exact ⟨.inl rfl, Int.le_refl _, fun _ h => nomatch h⟩
  | cons a r ih =>
    intro x
    rw [List.foldl_cons]
    obtain ⟨h1, h2, h3⟩ := ih (if a < x then a else x)
    by_cases hx : a < x
    · rw [if_pos hx] at h1 h2 h3 ⊢
      refine ⟨.inr ?_, by omega, fun y hy => ?_⟩
      · rcases h1 with h1 | h1
        · rw [h1]; exact List.mem_cons_self ..
        · exact List.mem_cons_of_mem _ h1
      · rcases List.mem_cons.mp hy with rfl | hy
        · exact h2
        · exact h3 y hy
    · rw [if_neg hx] at h1 h2 h3 ⊢
      refine ⟨h1.imp id (List.mem_cons_of_mem _), h2, fun y hy => ?_⟩
      rcases List.mem_cons.mp hy with rfl | hy
      · omega
      · exact h3 y hy
theorem lmax_spec {l : List Int} {m : Int} (h : lmax l = some m) : m ∈ l ∧ ∀ y ∈ l, y ≤ m := by
  cases l with
  | nil => cases h
  | cons x r =>
    have e : r.foldl (fun a b => if a < b then b else a) x = m := Option.some.inj h
    obtain ⟨h1, h2, h3⟩ := foldmax r x
    rw [e] at h1 h2 h3
    refine ⟨?_, fun y hy => ?_⟩
    · rcases h1 with h1 | h1
      · rw [h1]; exact List.mem_cons_self ..
      · exact List.mem_cons_of_mem _ h1
    · rcases List.mem_cons.mp hy with rfl | hy
      · exact h2
      · exact h3 y hy
theorem lmin_spec {l : List Int} {m : Int} (h : lmin l = some m) : m ∈ l ∧ ∀ y ∈ l, m ≤ y := by
  cases l with
  | nil => cases h
  | cons x r =>
    have e : r.foldl (fun a b => if b < a then b else a) x = m := Option.some.inj h
    obtain ⟨h1, h2, h3⟩ := foldmin r x
    rw [e] at h1 h2 h3
    refine ⟨?_, fun y hy => ?_⟩
    · rcases h1 with h1 | h1
      · rw [h1]; exact List.mem_cons_self ..
      · exact List.mem_cons_of_mem _ h1
    · rcases List.mem_cons.mp hy with rfl | hy
      · exact h2
      · exact h3 y hy
theorem lmax_of {l : List Int} {m : Int} (h : m ∈ l) (g : ∀ y ∈ l, y ≤ m) : lmax l = some m := by
  cases e : lmax l with
  | none => cases l with
    | nil => cases h
    | cons _ _ => cases e
  | some k =>
    obtain ⟨h1, h2⟩ := lmax_spec e
    have := h2 m h
    have := g k h1
    exact congrArg _ (by omega)
theorem lmin_of {l : List Int} {m : Int} (h : m ∈ l) (g : ∀ y ∈ l, m ≤ y) : lmin l = some m := by
  cases e : lmin l with
  | none => cases l with
    | nil => cases h
    | cons _ _ => cases e
  | some k =>
    obtain ⟨h1, h2⟩ := lmin_spec e
    have := h2 m h
    have := g k h1
    exact congrArg _ (by omega)

/-! ### the size of what repr shows -/
mutual
def okr : PyData → Bool
  | .none => true
  | .bool _ => true
  | .int i => decide (i.natAbs < 2 ^ 64)
  | .str _ => false
  | .list xs => okrA xs
  | .tuple xs => okrA xs
  | .dict _ => false
def okrA : List PyData → Bool
  | [] => true
  | x :: r => okr x && okrA r
end
mutual
def wt : PyData → Nat
  | .list xs => 1 + wtA xs
  | .tuple xs => 1 + wtA xs
  | _ => 1
def wtA : List PyData → Nat
  | [] => 0
  | x :: r => wt x + wtA r
end
theorem log_small {n : Nat} (h : n < 2 ^ 64) : n.log2 < 64 := by
  by_cases h0 : n = 0
  · subst h0; decide
  · exact (Nat.log2_lt h0).mpr h
mutual
theorem okr_show : ∀ d : PyData, okr d = true → d.showable = true ∧ d.hasDict = false
  | .none, _ => ⟨rfl, rfl⟩
  | .bool _, _ => ⟨rfl, rfl⟩
  | .int i, h => by
    have h' : i.natAbs < 2 ^ 64 := of_decide_eq_true h
    exact ⟨decide_eq_true (Nat.lt_trans (log_small h') (by decide)), rfl⟩
  | .str _, h => by cases h
  | .list xs, h => by
    have h' := okrA_show xs h
    simpa only [PyData.showable, PyData.hasDict] using h'
  | .tuple xs, h => by
    have h' := okrA_show xs h
    simpa only [PyData.showable, PyData.hasDict] using h'
  | .dict _, h => by cases h
theorem okrA_show : ∀ ds : List PyData, okrA ds = true → PyData.showableAll ds = true ∧ PyData.hasDictAll ds = false
  | [], _ => ⟨rfl, rfl⟩
  | d :: ds, h => by
    unfold okrA at h
    rw [Bool.and_eq_true] at h
    obtain ⟨h1, h2⟩ := okr_show d h.1
    obtain ⟨h3, h4⟩ := okrA_show ds h.2
    simp only [PyData.showableAll, PyData.hasDictAll, h1, h2, h3, h4]
    exact ⟨rfl, rfl⟩
end
theorem shown_int_le {i : Int} (h : i.natAbs < 2 ^ 64) : (PyData.shown (.int i)).length ≤ 21 := by
  have e := int_text_length_le10 (a := i) (k := 20) (by decide) (Nat.lt_trans h (by decide))
  show (Str.ofString (toString i)).length ≤ 21
  rw [PySem.ofString_length]; exact e
theorem listText_le (ts : List Str) : (listText ts).length ≤ piled ts + 2 := by
  cases ts with
  | nil => decide +kernel
  | cons t r =>
    have h := textFrom_length_pos r 1 (("[" : Str) ++ (if (0 : Nat) > 0 then ", " else "" : String) ++ t) (Nat.succ_pos 0)
    have e : ((("[" : Str) ++ (if (0 : Nat) > 0 then ", " else "" : String) ++ t)).length = 1 + t.length := by
      rw [strLen_append, strLen_append]; rfl
    have hX : (listText (t :: r)).length = (textFrom 0 "[" (t :: r)).length + 1 := by
      show (textFrom 0 "[" (t :: r) ++ "]").length = _
      rw [strLen_append]; rfl
    have hY : (textFrom 0 "[" (t :: r)).length = (textFrom 1 (("[" : Str) ++ (if (0 : Nat) > 0 then ", " else "" : String) ++ t) r).length := rfl
    rw [hX, hY, h, e, piled_cons]; omega
theorem tupleText_le (ts : List Str) : (tupleText ts).length ≤ piled ts + 2 := by
  have e3 : (((if ts.length == 1 then ",)" else ")" : String) : Str)).length ≤ 2 := by split <;> decide +kernel
  have e1 : ((("(" : String) : Str)).length = 1 := rfl
  unfold tupleText
  rw [strLen_append, strLen_append, e1]
  by_cases h : ts = []
  · subst h
    decide +kernel
  · have := join_length_add ts h
    omega
mutual
theorem shown_le : ∀ d : PyData, okr d = true → d.shown.length + 2 ≤ 30 * wt d
  | .none, _ => by decide +kernel
  | .bool b, _ => by cases b <;> decide +kernel
  | .int i, h => by
    have := shown_int_le (of_decide_eq_true h : i.natAbs < 2 ^ 64)
    show _ ≤ 30 * 1
    omega
  | .str _, h => by cases h
  | .list xs, h => by
    have h1 := shownA_le xs h
    have h2 := listText_le (PyData.shownAll xs)
    show (listText (PyData.shownAll xs)).length + 2 ≤ 30 * (1 + wtA xs)
    omega
  | .tuple xs, h => by
    have h1 := shownA_le xs h
    have h2 := tupleText_le (PyData.shownAll xs)
    show (tupleText (PyData.shownAll xs)).length + 2 ≤ 30 * (1 + wtA xs)
    omega
  | .dict _, h => by cases h
theorem shownA_le : ∀ ds : List PyData, okrA ds = true → piled (PyData.shownAll ds) ≤ 30 * wtA ds
  | [], _ => Nat.zero_le _
  | d :: ds, h => by
    unfold okrA at h
    rw [Bool.and_eq_true] at h
    have h1 := shown_le d h.1
    have h2 := shownA_le ds h.2
    show piled (d.shown :: PyData.shownAll ds) ≤ 30 * (wt d + wtA ds)
    rw [piled_cons]
    omega
end
end DL
namespace DL
open PySem PySem.Spec PyProof.Rows L2
/-! ### the built-ins -/
def cLen : G1
  | [.ro ns] => retM (.im (.int ns.length))
  | [a] => bindM (rdV a) fun x => match x with
    | .list xs => retM (.im (.int xs.length))
    | .tuple xs => retM (.im (.int xs.length))
    | _ => failM
  | _ => failM
def c1 (g : PyData → Option PyData) : List PyData → Option PyData
  | [x] => g x
  | _ => none
def c2 (g : PyData → PyData → Option PyData) : List PyData → Option PyData
  | [x, y] => g x y
  | _ => none
def absD : PyData → Option PyData
  | .int i => some (.int (if i < 0 then -i else i))
  | _ => none
def intD : PyData → Option PyData
  | .int i => some (.int i)
  | .bool b => some (.int (if b then 1 else 0))
  | _ => none
def max2 : PyData → PyData → Option PyData := gI0 fun i j => .int (if j > i then j else i)
def min2 : PyData → PyData → Option PyData := gI0 fun i j => .int (if j < i then j else i)
def dmod : PyData → PyData → Option PyData := gI CDiv fun i j => .tuple [.int (i / j), .int (i % j)]
def maxD : PyData → Option PyData
  | .list xs => (intsOf xs).bind fun ns => (lmax ns).map .int
  | _ => none
def minD : PyData → Option PyData
  | .list xs => (intsOf xs).bind fun ns => (lmin ns).map .int
  | _ => none
def sumD : PyData → Option PyData
  | .list xs => (intsOf xs).map fun ns => .int ns.sum
  | _ => none
def allD : PyData → Option PyData
  | .list xs => (boolsOf xs).map fun ns => .bool (ns.all id)
  | _ => none
def anyD : PyData → Option PyData
  | .list xs => (boolsOf xs).map fun ns => .bool (ns.any id)
  | _ => none
def srtD : PyData → Option PyData
  | .list xs => (intsOf xs).map fun ns => .list ((isort ns).map .int)
  | .tuple xs => (intsOf xs).map fun ns => .list ((isort ns).map .int)
  | _ => none
def tupD : PyData → Option PyData
  | .list xs => some (.tuple xs)
  | .tuple xs => some (.tuple xs)
  | _ => none
def lstD : PyData → Option PyData
  | .list xs => some (.list xs)
  | .tuple xs => some (.list xs)
  | _ => none
def isSeq : PyData → Bool
  | .list _ => true
  | .tuple _ => true
  | _ => false
def repD (d : PyData) : Option PyData := if isSeq d = true ∧ okr d = true ∧ wt d ≤ 500000 ∧ d.depth ≤ 60 then some (.str d.shown) else none
section
variable {K : PySem.W.Frag}
theorem RdA.one {Hi H : Hp} {vs : List V} {d : PyData} (h : RdA K Hi H vs [d]) : ∃ v, vs = [v] ∧ Rd K Hi H v d := by
  cases h with
  | cons h1 h2 => cases h2; exact ⟨_, rfl, h1⟩
theorem RdA.two {Hi H : Hp} {vs : List V} {d e : PyData} (h : RdA K Hi H vs [d, e]) : ∃ v u, vs = [v, u] ∧ Rd K Hi H v d ∧ Rd K Hi H u e := by
  cases h with
  | cons h1 h2 =>
    cases h2 with
    | cons h2 h3 => cases h3; exact ⟨_, _, rfl, h1, h2⟩
theorem ca1 {r : List V → Hp → VK → Prop} {g : PyData → Option PyData}
    (h : ∀ (Hi : Hp) (ms : List Addr) (st : Sto) (H : Hp) (v : V) (x d : PyData) (Q : VK), Hold K Hi ms st H → Rd K Hi H v x → g x = some d → Dl K Hi ms H st (.im d) Q → r [v] H Q) : CaOk K r (gD (c1 g)) :=
  caOk_d fun Hi ms st H vs ds d Q q rr e k => by
    match ds, e with
    | [x], e =>
      obtain ⟨v, rfl, r1⟩ := rr.one
      exact h Hi ms st H v x d Q q r1 e k
theorem ca2 {r : List V → Hp → VK → Prop} {g : PyData → PyData → Option PyData}
    (h : ∀ (Hi : Hp) (ms : List Addr) (st : Sto) (H : Hp) (v u : V) (x y d : PyData) (Q : VK), Hold K Hi ms st H → Rd K Hi H v x → Rd K Hi H u y → g x y = some d → Dl K Hi ms H st (.im d) Q → r [v, u] H Q) : CaOk K r (gD (c2 g)) :=
  caOk_d fun Hi ms st H vs ds d Q q rr e k => by
    match ds, e with
    | [x, y], e =>
      obtain ⟨v, u, rfl, r1, r2⟩ := rr.two
      exact h Hi ms st H v u x y d Q q r1 r2 e k
theorem ca_abs : CaOk K (fun xs H Q => ∃ i, xs = [.int i] ∧ Q (.int (if i < 0 then -i else i)) H) (gD (c1 absD)) := ca1 fun Hi ms st H v x d Q q r e k => by
  cases r <;> simp only [absD, reduceCtorEq] at e
  cases e
  exact ⟨_, rfl, k.here q (.im (.int _))⟩
theorem ca_int : CaOk K (fun xs H Q => (∃ i, xs = [.int i] ∧ Q (.int i) H) ∨ ∃ k, xs = [.bl k] ∧ Q (.int (if k then 1 else 0)) H) (gD (c1 intD)) := ca1 fun Hi ms st H v x d Q q r e k => by
  cases r <;> simp only [intD, reduceCtorEq] at e
  · cases e; exact .inr ⟨_, rfl, k.here q (.im (.int _))⟩
  · cases e; exact .inl ⟨_, rfl, k.here q (.im (.int _))⟩
theorem ca_max2 : CaOk K (fun xs H Q => ∃ i j, xs = [.int i, .int j] ∧ Q (.int (if j > i then j else i)) H) (gD (c2 max2)) := ca2 fun Hi ms st H v u x y d Q q r1 r2 e k => by
  cases r1 <;> cases r2 <;> simp only [max2, gI0, reduceCtorEq] at e
  cases e
  exact ⟨_, _, rfl, k.here q (.im (.int _))⟩
theorem ca_min2 : CaOk K (fun xs H Q => ∃ i j, xs = [.int i, .int j] ∧ Q (.int (if j < i then j else i)) H) (gD (c2 min2)) := ca2 fun Hi ms st H v u x y d Q q r1 r2 e k => by
  cases r1 <;> cases r2 <;> simp only [min2, gI0, reduceCtorEq] at e
  cases e
  exact ⟨_, _, rfl, k.here q (.im (.int _))⟩
theorem ca_dmod : CaOk K (fun xs H Q => ∃ i j, xs = [.int i, .int j] ∧ CDiv i j ∧ ∀ p, H p = none → Q (.ref p) (upd H p (.tup [.int (i / j), .int (i % j)]))) (gD (c2 dmod)) := ca2 fun Hi ms st H v u x y d Q q r1 r2 e k => by
  cases r1 <;> cases r2 <;> simp only [dmod, gI, reduceCtorEq] at e
  split at e
  · rename_i hz
    cases e
    exact ⟨_, _, rfl, hz, fun p hp => k.tup q (.cons (.int _) (.cons (.int _) .nil)) hp (le1000 (by show 2 ≤ 1000; decide))⟩
  · cases e
theorem ca_max : CaOk K (rMax K) (gD (c1 maxD)) := ca1 fun Hi ms st H v x d Q q r e k => by
  cases r <;> simp only [maxD, reduceCtorEq] at e
  rename_i a xs ds g1 g2
  obtain ⟨ns, e1, e2⟩ := Option.bind_eq_some_iff.mp e
  obtain ⟨m, e3, rfl⟩ := Option.map_eq_some_iff.mp e2
  have := intsOf_eq e1
  subst this
  have := RpA.of_ints g2
  subst this
  obtain ⟨h1, h2⟩ := lmax_spec e3
  refine ⟨a, ns, rfl, SqL.of g1, List.length_pos_of_mem h1, fun m' hm hle => ?_⟩
  have e : m' = m := by have := hle m h1; have := h2 m' hm; omega
  subst e
  exact k.here q (.im (.int _))
theorem ca_min : CaOk K (rMin K) (gD (c1 minD)) := ca1 fun Hi ms st H v x d Q q r e k => by
  cases r <;> simp only [minD, reduceCtorEq] at e
  rename_i a xs ds g1 g2
  obtain ⟨ns, e1, e2⟩ := Option.bind_eq_some_iff.mp e
  obtain ⟨m, e3, rfl⟩ := Option.map_eq_some_iff.mp e2
  have := intsOf_eq e1
  subst this
  have := RpA.of_ints g2
  subst this
  obtain ⟨h1, h2⟩ := lmin_spec e3
  refine ⟨a, ns, rfl, SqL.of g1, List.length_pos_of_mem h1, fun m' hm hle => ?_⟩
  have e : m' = m := by have := hle m h1; have := h2 m' hm; omega
  subst e
  exact k.here q (.im (.int _))
theorem ca_sum : CaOk K (rSum K) (gD (c1 sumD)) := ca1 fun Hi ms st H v x d Q q r e k => by
  cases r <;> simp only [sumD, reduceCtorEq] at e
  rename_i a xs ds g1 g2
  obtain ⟨ns, e1, rfl⟩ := Option.map_eq_some_iff.mp e
  have := intsOf_eq e1
  subst this
  have := RpA.of_ints g2
  subst this
  exact ⟨a, ns, rfl, SqL.of g1, k.here q (.im (.int _))⟩
theorem ca_all : CaOk K (rAll K) (gD (c1 allD)) := ca1 fun Hi ms st H v x d Q q r e k => by
  cases r <;> simp only [allD, reduceCtorEq] at e
  rename_i a xs ds g1 g2
  obtain ⟨ns, e1, rfl⟩ := Option.map_eq_some_iff.mp e
  have := boolsOf_eq e1
  subst this
  have := RpA.of_bools g2
  subst this
  exact ⟨a, ns, rfl, SqL.of g1, k.here q (.im (.bl _))⟩
theorem ca_any : CaOk K (rAny K) (gD (c1 anyD)) := ca1 fun Hi ms st H v x d Q q r e k => by
  cases r <;> simp only [anyD, reduceCtorEq] at e
  rename_i a xs ds g1 g2
  obtain ⟨ns, e1, rfl⟩ := Option.map_eq_some_iff.mp e
  have := boolsOf_eq e1
  subst this
  have := RpA.of_bools g2
  subst this
  exact ⟨a, ns, rfl, SqL.of g1, k.here q (.im (.bl _))⟩
def rSrtD (K : PySem.W.Frag) : List V → Hp → VK → Prop := fun vs H Q => rSortedI K vs H Q ∨ rSortedIT K vs H Q
theorem ca_srt : CaOk K (rSrtD K) (gD (c1 srtD)) := ca1 fun Hi ms st H v x d Q q r e k => by
  cases r <;> simp only [srtD, reduceCtorEq] at e
  · rename_i a xs ds g1 g2
    obtain ⟨ns, e1, rfl⟩ := Option.map_eq_some_iff.mp e
    have := intsOf_eq e1
    subst this
    have := RpA.of_ints g2
    subst this
    refine .inl ⟨a, ns, rfl, SqL.of g1, fun ns' p hp hs hn => ?_⟩
    have := isort_of hp hs
    subst this
    refine k.lst q (RpA.ints _) hn ?_
    rw [List.length_map, hp.length_eq]
    have := q.sz a _ (.inl (SqL.of g1))
    rwa [List.length_map] at this
  · rename_i a xs ds g1 g2
    obtain ⟨ns, e1, rfl⟩ := Option.map_eq_some_iff.mp e
    have := intsOf_eq e1
    subst this
    have := RpA.of_ints g2
    subst this
    have g1' := Same.seqT q.sub g1
    refine .inr ⟨a, ns, rfl, g1', fun ns' p hp hs hn => ?_⟩
    have := isort_of hp hs
    subst this
    refine k.lst q (RpA.ints _) hn ?_
    rw [List.length_map, hp.length_eq]
    have := q.sz a _ (.inr g1')
    rwa [List.length_map] at this
theorem ca_tup : CaOk K (fun xs H Q => ∃ p ys, xs = [.ref p] ∧ ((SqL K H p ys ∧ ∀ l, H l = none → Q (.ref l) (upd H l (.tup ys))) ∨ (SqT K H p ys ∧ Q (.ref p) H))) (gD (c1 tupD)) := ca1 fun Hi ms st H v x d Q q r e k => by
  cases r <;> simp only [tupD, reduceCtorEq] at e
  · rename_i a xs ds g1 g2
    cases e
    exact ⟨a, xs, rfl, .inl ⟨SqL.of g1, fun l hl => k.tup q g2 hl (q.sz a _ (.inl (SqL.of g1)))⟩⟩
  · rename_i a xs ds g1 g2
    cases e
    exact ⟨a, xs, rfl, .inr ⟨Same.seqT q.sub g1, k.here q (.im (.tup g1 g2))⟩⟩
theorem ca_lst : CaOk K (fun xs H Q => ∃ p ys, xs = [.ref p] ∧ (SqL K H p ys ∨ SqT K H p ys) ∧ ∀ l, H l = none → Q (.ref l) (upd H l (.lst ys))) (gD (c1 lstD)) := ca1 fun Hi ms st H v x d Q q r e k => by
  cases r <;> simp only [lstD, reduceCtorEq] at e
  · rename_i a xs ds g1 g2
    cases e
    exact ⟨a, xs, rfl, .inl (SqL.of g1), fun l hl => k.lst q g2 hl (q.sz a _ (.inl (SqL.of g1)))⟩
  · rename_i a xs ds g1 g2
    cases e
    have g1' := Same.seqT q.sub g1
    exact ⟨a, xs, rfl, .inr g1', fun l hl => k.lst q g2 hl (q.sz a _ (.inr g1'))⟩
/-- .. a list that may be written -/
def gDM (g : PyData → Option (List PyData)) : G1
  | [a] => bindM (rdV a) fun x => bindM (liftO (g x)) newMu
  | _ => failM
def lstX : PyData → Option (List PyData)
  | .list xs => some xs
  | .tuple xs => some xs
  | _ => none
theorem RepVs.one {K : PySem.W.Frag} {Hi : Hp} {ms : List Addr} {vs : List V} {a : DV} (h : RepVs K Hi ms vs [a]) : ∃ v, vs = [v] ∧ RepV K Hi ms v a := by
  cases h with
  | cons h1 h2 => cases h2; exact ⟨_, rfl, h1⟩
theorem gDM_eq {g : PyData → Option (List PyData)} {dvs : List DV} {st : Sto} {r : DV × Sto} (e : gDM g dvs st = some r) : ∃ a, dvs = [a] ∧ bindM (rdV a) (fun x => bindM (liftO (g x)) newMu) st = some r := by
  match dvs with
  | [] => cases e
  | [a] => exact ⟨a, rfl, e⟩
  | _ :: _ :: _ => cases e
theorem ca_lstM : CaOk K (fun xs H Q => ∃ p ys, xs = [.ref p] ∧ (SqL K H p ys ∨ SqT K H p ys) ∧ ∀ l, H l = none → Q (.ref l) (upd H l (.lst ys))) (gDM lstX) := by
  intro Hi ms st st' H vs dvs dv Q q rr e k
  obtain ⟨a, rfl, e0⟩ := gDM_eq e
  obtain ⟨v, rfl, r⟩ := rr.one
  obtain ⟨x, s1, e1, k1⟩ := bindM_eq e0
  obtain ⟨d, s2, e2, k2⟩ := bindM_eq k1
  obtain ⟨e3, rfl⟩ := liftO_eq e2
  obtain ⟨rfl, r1⟩ := q.rd r e1
  unfold newMu at k2
  cases k2
  cases r1 <;> simp only [lstX, reduceCtorEq] at e3
  · rename_i a xs ds g1 g2
    cases e3
    exact ⟨a, xs, rfl, .inl (SqL.of g1), fun l hl => k.mu q g2 hl (q.sz a _ (.inl (SqL.of g1)))⟩
  · rename_i a xs ds g1 g2
    cases e3
    have g1' := Same.seqT q.sub g1
    exact ⟨a, xs, rfl, .inr g1', fun l hl => k.mu q g2 hl (q.sz a _ (.inr g1'))⟩
theorem ca_rep : CaOk K (rRepr K) (gD (c1 repD)) := ca1 fun Hi ms st H v x d Q q r e k => by
  unfold repD at e
  split at e
  · rename_i hz
    obtain ⟨z0, z1, z2, z3⟩ := hz
    cases e
    have r' := r.dp q.sub
    obtain ⟨s1, s2⟩ := okr_show x z1
    have s3 := shown_le x z1
    have s4 : x.shown.length ≤ sizeLine := by rw [sizeLine_eq]; omega
    cases r with
    | lst g1 g2 => exact ⟨_, _, rfl, r', s1, s2, z3, s4, k.here q (.im (.str _))⟩
    | tup g1 g2 => exact ⟨_, _, rfl, r', s1, s2, z3, s4, k.here q (.im (.str _))⟩
    | _ => cases z0
  · cases e
theorem cLen_eq {dvs : List DV} {st : Sto} {r : DV × Sto} (e : cLen dvs st = some r) : (∃ ns, dvs = [.ro ns] ∧ retM (DV.im (.int ns.length)) st = some r) ∨ ∃ a, dvs = [a] ∧ bindM (rdV a) (fun x => match x with
    | .list xs => retM (.im (.int xs.length))
    | .tuple xs => retM (.im (.int xs.length))
    | _ => failM) st = some r := by
  match dvs with
  | [] => cases e
  | [.ro ns] => exact .inl ⟨ns, rfl, e⟩
  | [.im d] => exact .inr ⟨_, rfl, e⟩
  | [.mu i] => exact .inr ⟨_, rfl, e⟩
  | .ro _ :: _ :: _ => cases e
  | .im _ :: _ :: _ => cases e
  | .mu _ :: _ :: _ => cases e
theorem ca_len : CaOk K (fun xs H Q => ∃ p ys, xs = [.ref p] ∧ (SqL K H p ys ∨ SqT K H p ys) ∧ Q (.int ys.length) H) cLen := by
  intro Hi ms st st' H vs dvs dv Q q rr e k
  rcases cLen_eq e with ⟨ns, rfl, e0⟩ | ⟨a, rfl, e0⟩
  · obtain ⟨v, rfl, r⟩ := rr.one
    obtain ⟨rfl, rfl⟩ := retM_eq e0
    cases r with
    | ro h =>
      refine ⟨_, _, rfl, .inl (q.sub.seq h), ?_⟩
      rw [List.length_map]
      exact k.here q (.im (.int _))
  · obtain ⟨v, rfl, r⟩ := rr.one
    obtain ⟨x, s1, e1, k1⟩ := bindM_eq e0
    obtain ⟨rfl, r1⟩ := q.rd r e1
    split at k1
    · obtain ⟨rfl, rfl⟩ := retM_eq k1
      cases r1 with
      | lst g1 g2 =>
        refine ⟨_, _, rfl, .inl (SqL.of g1), ?_⟩
        rw [g2.length]
        exact k.here q (.im (.int _))
    · obtain ⟨rfl, rfl⟩ := retM_eq k1
      cases r1 with
      | tup g1 g2 =>
        refine ⟨_, _, rfl, .inr (Same.seqT q.sub g1), ?_⟩
        rw [g2.length]
        exact k.here q (.im (.int _))
    · cases k1
end

/-! ### isinstance -/
def tyD : PyData → String
  | .none => "NoneType"
  | .bool _ => "bool"
  | .int _ => "int"
  | .str _ => "str"
  | .list _ => "list"
  | .tuple _ => "tuple"
  | .dict _ => "dict"
def isiD (T : String) (d : PyData) : Bool := tyD d == T || (T == "int" && tyD d == "bool")
/-- isinstance(e, T), T one of int, bool, str, list, tuple -/
def fIsi (T : String) (f : FE) : FE := fun env => bindM (f env) fun a => match a with
  | .ro _ => retM (.im (.bool (T == "list")))
  | a => bindM (rdV a) fun d => retM (.im (.bool (isiD T d)))
/-- isinstance(e, (S, T)) -/
def fIsi2 (S T : String) (f : FE) : FE := fun env => bindM (f env) fun a => match a with
  | .ro _ => retM (.im (.bool (S == "list" || T == "list")))
  | a => bindM (rdV a) fun d => retM (.im (.bool (isiD S d || isiD T d)))
def okTy (T : String) : Bool := T == "int" || T == "bool" || T == "str" || T == "list" || T == "tuple"
theorem kit_tab : ∀ T ∈ ["int", "bool", "str", "list", "tuple"], ∀ S ∈ ["NoneType", "bool", "int", "str", "list", "tuple"], kitB S T = some (S == T || (T == "int" && S == "bool")) := by decide +kernel
theorem okTy_mem {T : String} (h : okTy T = true) : T ∈ ["int", "bool", "str", "list", "tuple"] := by
  simp only [okTy, Bool.or_eq_true, beq_iff_eq] at h
  simp only [List.mem_cons, List.not_mem_nil, or_false]
  rcases h with (((h | h) | h) | h) | h <;> simp [h]
section
variable {K : PySem.W.Frag} {Hi H : Hp} {ms : List Addr} {st : Sto} {v : V} {d : PyData}
theorem SqT.tyx {a : Addr} {xs : List V} (h : SqT K H a xs) : TyX K H (.ref a) (.type "tuple") := by
  rcases h with (h | ⟨o, h⟩) | ⟨o, its, n, h1, h2, _⟩
  · exact .base (.tup h)
  · exact .fTuple h
  · exact .kTuple h1 h2
theorem SqL.tyx {a : Addr} {xs : List V} (h : SqL K H a xs) : TyX K H (.ref a) (.type "list") := by
  rcases h with (h | ⟨o, h⟩) | ⟨o, its, n, h1, h2, _⟩
  · exact .base (.lst h)
  · exact .base (.frz h)
  · exact .kList h1 h2
theorem Rd.tyx (s : Same Hi H) (h : Rd K Hi H v d) : TyX K H v (.type (tyD d)) ∧ tyD d ∈ ["NoneType", "bool", "int", "str", "list", "tuple"] := by
  cases h with
  | non => exact ⟨.base .non, by decide⟩
  | bl b => exact ⟨.base (.bl b), by show "bool" ∈ _; decide⟩
  | int i => exact ⟨.base (.int i), by show "int" ∈ _; decide⟩
  | str x => exact ⟨.base (.str x), by show "str" ∈ _; decide⟩
  | lst e a => exact ⟨.base (.lst e), by show "list" ∈ _; decide⟩
  | tup e a => exact ⟨SqT.tyx (Same.seqT s e), by show "tuple" ∈ _; decide⟩
theorem kit_d {T S : String} (hT : okTy T = true) (hS : S ∈ ["NoneType", "bool", "int", "str", "list", "tuple"]) : PySem.W.kitOne K (.type S) (.type T) = some (S == T || (T == "int" && S == "bool")) :=
  kit_ty (kit_tab T (okTy_mem hT) S hS)
end
section
variable {X : Cx} {e : Expr} {f : FE} {p p2 pos tpos : Pos} {n : Nat}
theorem tC_args {te : TE} {w : V} {σ : L2.St} {H : Hp} {Q : List V → Hp → Prop} (h : te σ H fun x H1 => Q [x, w] H1) (mono : ∀ Q Q' : VK, (∀ v H, Q v H → Q' v H) → te σ H Q → te σ H Q') : tCons te (tCons (tC w) tNil) σ H Q := h
theorem ve_isi {T : Str} {T' : String} (hT : okTy T' = true) (hm : X.mg "isinstance" = none) (hm2 : X.mg T = none) (hv : bootBuiltins T = some (.type T')) (ha : VE X e f) (hg : Gl X "isinstance" := by rfl) (hg2 : Gl X T := by rfl) (hn : T ≠ "__name__" := by decide) (hd : (T == ("__debug__" : Str)) = false := by decide)
    (hs : starEach [e, .Name T p2] X.env = (false, eval e X.env) :: starEach [.Name T p2] X.env := by rfl) (hs2 : starEach [.Name T p2] X.env = (false, eval (.Name T p2) X.env) :: starEach [] X.env := by rfl) (hpl : (backTo pos (starEach [.Name T p2] X.env)).any (·.1) = false := by rfl) :
    VE X (.Call (.Name "isinstance" p) [e, .Name T p2] [] pos) (fIsi T' f) :=
  PE.imp (pe_callB call_isi hg hm PyProof.Rows.boot_isinstance (pa_cons ha (pa_cons (pe_bltn (v := .ty T') hg2 hm2 hv rfl hn hd) pa_nil hs2) hs) (by decide) (by decide) hs hpl) fun σ H Q h => by
    obtain ⟨Hi, ms, st, env, dv, st', h1, h2, h3, h4⟩ := h
    obtain ⟨a, s1, e1, k1⟩ := bindM_eq h3
    refine ⟨Hi, ms, st, env, a, s1, h1, h2, e1, fun Hi1 ms1 H1 ga q1 v1 r1 => ?_⟩
    have h5 := h4.on ga q1
    split at k1
    · obtain ⟨rfl, rfl⟩ := retM_eq k1
      cases r1 with
      | ro hq =>
        refine ⟨_, .ty T', .type "list", .type T', _, rfl, .ty T', SqL.tyx (q1.sub.seq hq), kit_d hT (by decide), ?_⟩
        have e : (("list" : String) == T' || (T' == "int" && ("list" : String) == "bool")) = (T' == "list") := by
          rw [show (("list" : String) == "bool") = false by decide, Bool.and_false, Bool.or_false]
          exact BEq.comm
        rw [e]
        exact h5.here q1 (.im (.bl _))
    · obtain ⟨d, s2, e2, k2⟩ := bindM_eq k1
      obtain ⟨rfl, rfl⟩ := retM_eq k2
      obtain ⟨rfl, rd⟩ := q1.rd r1 e2
      obtain ⟨t1, t2⟩ := rd.tyx q1.sub
      exact ⟨v1, .ty T', .type (tyD d), .type T', _, rfl, .ty T', t1, kit_d hT t2, h5.here q1 (.im (.bl _))⟩
theorem ve_isi2 {S T : Str} {S' T' : String} {pS pT : Pos} (hS : okTy S' = true) (hT : okTy T' = true) (hm : X.mg "isinstance" = none) (hm1 : X.mg S = none) (hm2 : X.mg T = none) (hv1 : bootBuiltins S = some (.type S')) (hv2 : bootBuiltins T = some (.type T')) (ha : VE X e f)
    (hg : Gl X "isinstance" := by rfl) (hg1 : Gl X S := by rfl) (hg2 : Gl X T := by rfl) (hn1 : S ≠ "__name__" := by decide) (hd1 : (S == ("__debug__" : Str)) = false := by decide) (hn : T ≠ "__name__" := by decide) (hd : (T == ("__debug__" : Str)) = false := by decide)
    (hs : starEach [e, .Tuple [.Name S pS, .Name T pT] n tpos] X.env = (false, eval e X.env) :: starEach [.Tuple [.Name S pS, .Name T pT] n tpos] X.env := by rfl)
    (hs2 : starEach [.Tuple [.Name S pS, .Name T pT] n tpos] X.env = (false, eval (.Tuple [.Name S pS, .Name T pT] n tpos) X.env) :: starEach [] X.env := by rfl) (hpl : (backTo pos (starEach [.Tuple [.Name S pS, .Name T pT] n tpos] X.env)).any (·.1) = false := by rfl)
    (hs3 : starEach [.Name S pS, .Name T pT] X.env = (false, eval (.Name S pS) X.env) :: starEach [.Name T pT] X.env := by rfl) (hs4 : starEach [.Name T pT] X.env = (false, eval (.Name T pT) X.env) :: starEach [] X.env := by rfl) :
    VE X (.Call (.Name "isinstance" p) [e, .Tuple [.Name S pS, .Name T pT] n tpos] [] pos) (fIsi2 S' T' f) :=
  PE.imp (pe_callB call_isiT hg hm PyProof.Rows.boot_isinstance (pa_cons ha (pa_cons (pe_tup (pa_cons (pe_bltn (v := .ty S') hg1 hm1 hv1 rfl hn1 hd1) (pa_cons (pe_bltn (v := .ty T') hg2 hm2 hv2 rfl hn hd) pa_nil hs4) hs3)) pa_nil hs2) hs) (by decide) (by decide) hs hpl) fun σ H Q h => by
    obtain ⟨Hi, ms, st, env, dv, st', h1, h2, h3, h4⟩ := h
    obtain ⟨a, s1, e1, k1⟩ := bindM_eq h3
    refine ⟨Hi, ms, st, env, a, s1, h1, h2, e1, fun Hi1 ms1 H1 ga q1 v1 r1 => ?_⟩
    refine ⟨le1000 (by show 2 ≤ 1000; decide), fun tp htp => ?_⟩
    have h5 := h4.on ga q1
    obtain ⟨q2, sx, _⟩ := q1.newT htp (vs := []) (ds := []) .nil (by simp)
    -- the tuple of classes is not data: it is tracked, no more
    have q3 : Hold X.K Hi1 ms1 s1 (upd H1 tp (.tup [.ty S', .ty T'])) := by
      refine ⟨same_upd2 q1.sub (Same.none_of q1.sub htp), q1.len, q1.nd, fun i a xs e1 e2 => ?_, q1.fz, sz_tup q1 (le1000 (by show 2 ≤ 1000; decide))⟩
      obtain ⟨n1, us, q, rr⟩ := q1.wr i a xs e1 e2
      exact ⟨n1, us, by rw [upd_ne (ne_of_none q htp)]; exact q, rr⟩
    have h5 := h5.on (grow_tr (o := .tup [.ty S', .ty T']) htp) q3
    have any2 : ∀ {ty : String}, ty ∈ ["NoneType", "bool", "int", "str", "list", "tuple"] → PySem.W.kitAny X.K (.type ty) [.type S', .type T'] = some ((ty == S' || (S' == "int" && ty == "bool")) || (ty == T' || (T' == "int" && ty == "bool"))) := fun {ty} hty => by
      refine kitAny_cons (kit_d hS hty) (fun e => ?_) (fun e => by rw [e]; rfl)
      rw [e, Bool.false_or]
      refine kitAny_cons (kit_d hT hty) (fun e => ?_) (fun e => by rw [e])
      rw [e]
      exact kitAny_nil
    split at k1
    · obtain ⟨rfl, rfl⟩ := retM_eq k1
      cases r1 with
      | ro hq =>
        refine ⟨_, tp, _, .type "list", [.type S', .type T'], _, rfl, upd_same, .cons (.ty _) (.cons (.ty _) .nil), SqL.tyx (q3.sub.seq hq), any2 (by decide), ?_⟩
        have e : ((("list" : String) == S' || (S' == "int" && ("list" : String) == "bool")) || (("list" : String) == T' || (T' == "int" && ("list" : String) == "bool"))) = (S' == "list" || T' == "list") := by
          rw [show (("list" : String) == "bool") = false by decide, Bool.and_false, Bool.and_false, Bool.or_false, Bool.or_false]
          rw [show (("list" : String) == S') = (S' == "list") from BEq.comm, show (("list" : String) == T') = (T' == "list") from BEq.comm]
        rw [e]
        exact h5.here q3 (.im (.bl _))
    · obtain ⟨d, s2, e2, k2⟩ := bindM_eq k1
      obtain ⟨rfl, rfl⟩ := retM_eq k2
      obtain ⟨rfl, rd⟩ := q3.rd r1 e2
      obtain ⟨t1, t2⟩ := rd.tyx q3.sub
      exact ⟨v1, tp, _, .type (tyD d), [.type S', .type T'], _, rfl, upd_same, .cons (.ty _) (.cons (.ty _) .nil), t1, any2 t2, h5.here q3 (.im (.bl _))⟩
end
end DL
/-! ### enumerate and zip of lists and tuples in any mix -/
namespace DL
open PySem PySem.Spec PyProof.Rows L2
def SqB (b : Bool) (K : PySem.W.Frag) (H : Hp) (a : Addr) (xs : List V) : Prop := match b with
  | true => SqL K H a xs
  | false => SqT K H a xs
def IterAt (b : Bool) (h : Heap) (it a : Addr) (i : Nat) : Prop := match b with
  | true => h.IsListIter it a i
  | false => h.IsTupleIter it a i
def SeqObj (b : Bool) (h : Heap) (a : Addr) (items : Array Value) : Prop := match b with
  | true => h.IsList a items
  | false => h.IsTuple a items
def itObj (b : Bool) (a : Addr) : Obj := match b with
  | true => { cls := .type "list_iterator", data := .fields #[.ref a, .int 0 0] }
  | false => { cls := .type "tuple_iterator", data := .fields #[.ref a, .int 0 0] }
theorem draws_b (b : Bool) {prog : Program} {w : World} {A : Around} (hh : A.handled = none) (it l : Addr) (hne : l ≠ it) (items : Array Value) :
    Draws prog w A it [it, l] items.size (fun i v => items[i]? = some v) (fun i h => IterAt b h it l i ∧ SeqObj b h l items) := by
  cases b with
  | true => exact Draws.list hh it l hne items
  | false => exact Draws.tuple hh it l hne items
theorem begins_b (b : Bool) (a : Addr) (items : Array Value) : Begins (.ref a) (itObj b a) (fun h => SeqObj b h a items) := by
  cases b with
  | true => exact begins_list a items
  | false => exact begins_tuple a items
theorem iterAt_new {b : Bool} {h : Heap} {it a : Addr} (e : h.get? it = some (itObj b a)) : IterAt b h it a 0 := by
  cases b with
  | true => exact ⟨_, e, rfl, rfl⟩
  | false => exact ⟨_, e, rfl, rfl⟩
theorem IterAt.obj {b : Bool} {h : Heap} {it a : Addr} {i : Nat} (e : IterAt b h it a i) : ∃ o, h.get? it = some o ∧ ∀ v, o.data ≠ .cell v := by
  cases b with
  | true => obtain ⟨o, h1, _, h2⟩ := e; exact ⟨o, h1, fun v z => by rw [h2] at z; cases z⟩
  | false => obtain ⟨o, h1, _, h2⟩ := e; exact ⟨o, h1, fun v z => by rw [h2] at z; cases z⟩
theorem IterAt.keep {b : Bool} {h h' : Heap} {it a : Addr} {i : Nat} (e : IterAt b h it a i) (k : ∀ o, h.get? it = some o → h'.get? it = some o) : IterAt b h' it a i := by
  cases b with
  | true => obtain ⟨o, h1, h2⟩ := e; exact ⟨o, k o h1, h2⟩
  | false => obtain ⟨o, h1, h2⟩ := e; exact ⟨o, k o h1, h2⟩
section
variable {X : Cx} {pins : List (Addr × Obj)} {σ : L2.St} {H : Hp} {s : Shared} {a : Addr} {xs ys : List V} {b : Bool}
theorem inv_seqB (I : Inv X pins σ H s) (h : SqB b X.K H a xs) : ∃ its : List Value, Vals xs its ∧ SeqObj b s.heap a its.toArray ∧ a < s.heap.objs.size := by
  cases b with
  | true =>
    obtain ⟨its, r, p, _⟩ := I.list h
    exact ⟨its, r, p.isList, p.lt⟩
  | false =>
    obtain ⟨its, r, p, _⟩ := I.tuple h
    exact ⟨its, r, p, p.lt⟩
theorem inv_seqB_inj (I : Inv X pins σ H s) (h : SqB b X.K H a xs) (h' : SqB b X.K H a ys) : xs = ys := by
  cases b with
  | true => exact I.list_inj h h'
  | false => exact I.tuple_inj h h'
end
/-- the things at a in pairs with their places -/
def IteB (b : Bool) (K : PySem.W.Frag) (a : Addr) : It :=
  ⟨fun i H => ∃ (xs : List V) (x : V), SqB b K H a xs ∧ xs[i]? = some x, fun i H v H' => ∃ T x, v = .ref T ∧ H T = none ∧ H' = upd H T (.tup [.int (i : Nat), x]) ∧ ∀ xs, SqB b K H a xs → xs[i]? = some x, fun i H => ∃ xs : List V, SqB b K H a xs ∧ xs.length ≤ i⟩
/-- how an iterator over a stands at its turn -/
theorem turn_enumB (b : Bool) {P : Program} {w : World} {K : PySem.W.Frag} {elts : List Expr} {kk : Nat} {tpos : Pos} (a e it : Addr) :
    Turn P w K (.Tuple elts kk tpos) ({ IteB b K a with stop := fun i H => (∃ xs : List V, SqB b K H a xs ∧ xs.length = i) }) [e, it] e (fun i h => (∃ old, IsEnum h e it ((i : Nat) : Int) old) ∧ IterAt b h it a i ∧ e ≠ it ∧ a ≠ it ∧ e ≠ a) where
  mem := by simp
  obj := fun i h st c hc => by
    obtain ⟨⟨old, he⟩, hi, _⟩ := st
    have e' : c = e ∨ c = it := by simpa using hc
    rcases e' with z | z
    · rw [z]; exact ⟨_, he, fun v q => nomatch q⟩
    · rw [z]; exact hi.obj
  keep := fun i h h' st k => let ⟨⟨old, he⟩, hi, hne, h2⟩ := st; ⟨⟨old, k e (by simp) _ he⟩, hi.keep fun o q => k it (by simp) o q, hne, h2⟩
  item := by
    intro X hP hw hK hc i pins s σ H E I hf st hg
    subst hP hw hK
    obtain ⟨⟨old, he⟩, hit, hne, hai, hea⟩ := st
    obtain ⟨xs, x, hq, hx⟩ := hg
    obtain ⟨its, rv, p, hal⟩ := inv_seqB I hq
    obtain ⟨u, hu, ru⟩ := rv.get hx
    have hel : e < s.heap.objs.size := Heap.lt_size he
    have hil : it < s.heap.objs.size := by obtain ⟨_, q, _⟩ := hit.obj; exact Heap.lt_size q
    have hlt : i < its.toArray.size := by simpa using (List.getElem?_eq_some_iff.mp hu).1
    refine wpAny_pyNext_enum_itemD (draws_b b (A := X.A.in1) (I.ok.hd hc) it a hai its.toArray) he ⟨hit, p⟩ hlt hne (by simp [hne, hea]) fun y h' tk hy ho st' hT hsz hk => ?_
    have ey : y = u := by
      have : its[i]? = some y := by simpa using hy
      rw [hu] at this; exact (Option.some.inj this).symm
    subst ey
    refine ⟨_, rfl, wpAny_letOwnedTupleGo_enum (s := { s with heap := h', toks := tk + 1 }) ho fun h'' he' sb => ?_⟩
    have hT2 : h''.get? s.heap.objs.size = some { cls := .type "tuple", data := .seq #[.int i tk, y] } := (sb.2 _ (Nat.ne_of_gt hel)).trans hT
    have new : ObjOk X.prog X.w (upd H s.heap.objs.size (.tup [.int (i : Nat), x])) h'' s.heap.objs.size (.tup [.int (i : Nat), x]) :=
      ⟨by show 2 ≤ sizeLine; decide, [.int i tk, y], .cons ⟨_, rfl⟩ (.cons ru .nil), ⟨_, hT2, rfl, _, rfl⟩⟩
    have I1 : Inv X pins σ (upd H s.heap.objs.size (.tup [.int (i : Nat), x])) { s with heap := h'', toks := tk + 1 } :=
      I.turnedNew (ch := [e, it]) (fun b ob hb q => (sb.2 b (fun z => hb (by simp [z]))).trans (hk b ob (fun z => hb (by simp [z])) (fun z => hb (by simp [z])) q)) hf (Nat.le_refl _) new
    refine ⟨.ref s.heap.objs.size, _, I1, rfl, ⟨_, x, rfl, I.hok.fresh (Nat.le_refl _), rfl, fun ys hy => by rw [inv_seqB_inj I hy hq]; exact hx⟩, ⟨⟨y, ?_⟩, st'.1.keep fun o q => (sb.2 it (Ne.symm hne)).trans q, hne, hai, hea⟩, fun b hb => ?_⟩
    · have e1 : ((i + 1 : Nat) : Int) = (i : Int) + 1 := by omega
      rw [e1]; exact he'
    · have hb' : b < s.heap.objs.size := by
        have e' : b = e ∨ b = it := by simpa using hb
        rcases e' with z | z
        · rw [z]; exact hel
        · rw [z]; exact hil
      rw [upd_ne (Nat.ne_of_lt hb')]
      exact (hf b hb).1
  done := by
    intro X hP hw hK hc i pins s σ H E I hf st hg
    subst hP hw hK
    obtain ⟨⟨old, he⟩, hit, hne, hai, hea⟩ := st
    obtain ⟨xs, hq, hx⟩ := hg
    obtain ⟨its, rv, p, hal⟩ := inv_seqB I hq
    obtain ⟨f0, f1, f2, f3, f4, f5⟩ := hf it (by simp)
    have hl := rv.length
    have hn : its.toArray.size = i := by rw [List.size_toArray, ← hl, hx]
    exact wpAny_pyNext_enum_endD (draws_b b (A := X.A.in1) (I.ok.hd hc) it a hai its.toArray) he ⟨by rw [hn]; exact hit, p⟩ fun h' eb => ⟨rfl, I.turned (t' := s.toks) (fun b o hb q => eb b o hb q) f0 f1 f3 f4 f5⟩
  self := fun A i s Q E st h => let ⟨⟨_, he⟩, _⟩ := st; wpAny_pyIter_enum he h
set_option maxHeartbeats 2000000 in
theorem meets_enumerate_newB1 {v : Value} {o : Obj} {H : Heap → Prop} (B : Begins v o H) :
    Meets (Builtin.«enumerate.__new__» ⟨[.type "enumerate", v], []⟩) (fun _ R s => H s.heap ∧
      R (.ok (.ret (.ref (s.heap.push o).objs.size))) { s with heap := (s.heap.push o).push { cls := .type "enumerate", data := .fields #[.none, .bool false, .ref s.heap.objs.size, rawInt 0, .none, .none] } }) :=
  .of_wp fun prog w A R s h => by
    obtain ⟨hp, g, d, tk, os⟩ := s; obtain ⟨h1, h⟩ := h
    have hsub := sub_enumerate
    have q1 : ∀ {A' : Around} {E : Value → Shared → Prop} {Q : Value → Shared → Prop}, Q (.ref hp.objs.size) ⟨hp.push o, g, d, tk, os⟩ → wpAny (model prog w) A' (pyIter v) Q E ⟨hp, g, d, tk, os⟩ :=
      fun q => B.iter prog w _ _ ⟨hp, g, d, tk, os⟩ _ h1 q
    wp_walk using q1
    refine wpAny_stack_any fun st => wpAny_pure ?_
    split
    · rename_i c _ _ _ _ _
      cases (c == Value.type "enumerate")
      · wp_walk using q1
        exact ⟨_, rfl, h⟩
      · wp_walk using q1
        exact ⟨_, rfl, h⟩
    · wp_walk using q1
      exact ⟨_, rfl, h⟩
section
variable {prog : Program} {w : World} {A : Around} {E : Value → Shared → Prop} {s : Shared}
theorem enum_begins1 {v : Value} {o : Obj} {H : Heap → Prop} {Q : Value → Shared → Prop} (B : Begins v o H) (h1 : H s.heap)
    (h : ∀ h', IsEnum h' (s.heap.objs.size + 1) s.heap.objs.size 0 .none → h'.get? s.heap.objs.size = some o → h'.objs.size = s.heap.objs.size + 2 →
      (∀ b o, s.heap.get? b = some o → h'.get? b = some o) → Q (.ref (s.heap.objs.size + 1)) { s with heap := h' }) :
    wpAny (model prog w) A (call (.type "enumerate") [v]) Q E s := by
  refine callType_new F.called_enumerate (by decide) (F.typeCall_enumerate_1 _) (F.newCall_enumerate_1 _) (fun obj => F.args_object_init_2 obj _) F.entry_enumerate_new
    (meets_enumerate_newB1 B) ⟨h1, ?_⟩
  have hz : (s.heap.push o).objs.size = s.heap.objs.size + 1 := Heap.size_push ..
  show _ ∧ _
  rw [hz]
  have he : IsEnum ((s.heap.push o).push { cls := .type "enumerate", data := .fields #[.none, .bool false, .ref s.heap.objs.size, rawInt 0, .none, .none] }) (s.heap.objs.size + 1) s.heap.objs.size 0 .none := by
    have := Heap.get?_push_size (s.heap.push o) (o := { cls := .type "enumerate", data := .fields #[.none, .bool false, .ref s.heap.objs.size, rawInt 0, .none, .none] }) rfl
    rw [hz] at this; exact this
  refine ⟨⟨_, he, rfl⟩, h _ he (Heap.get?_push_of_some _ (Heap.get?_push_size _ B.free)) (by rw [Heap.size_push, hz]) fun b o x => Heap.get?_push_of_some _ (Heap.get?_push_of_some _ x)⟩
end
abbrev IteE (b : Bool) (K : PySem.W.Frag) (a : Addr) : It := { IteB b K a with stop := fun i H => (∃ xs : List V, SqB b K H a xs ∧ xs.length = i) }
def iEnumB (K : PySem.W.Frag) (ta : TA) : TI := fun σ H R => ta σ H fun vs H1 => ∃ a b xs, vs = [.ref a] ∧ SqB b K H1 a xs ∧ R (IteE b K a) H1
theorem pi_enumB {X : Cx} {e : Expr} {ta : TA} {p pos tpos : Pos} {elts : List Expr} {kk : Nat} (hg : Gl X "enumerate") (hm : X.mg "enumerate" = none) (ha : PA X [e] ta) (hs : starEach [e] X.env = [(false, eval e X.env)] := by rfl) :
    PI X (.Tuple elts kk tpos) (.Call (.Name "enumerate" p) [e] [] pos) (iEnumB X.K ta) := by
  refine ⟨fun pins s σ H R I h => ?_⟩
  refine Call_ (ld_blt I hg hm boot_enumerate (PyProof.Rows.callWith_type1 (thn (ha.run pos pins s σ H _ I h) fun us s1 ⟨vs, H1, I1, r1, q1⟩ => ?_) hs rfl))
  obtain ⟨a, b, xs, ex, hq, q⟩ := q1
  subst ex
  cases r1 with
  | cons r rr =>
    cases rr
    cases r
    obtain ⟨its, rv, p', hal⟩ := inv_seqB I1 hq
    refine enum_begins1 (begins_b b a its.toArray) p' fun h' he hit hsz hk => wpAny_pyIter_enum he ?_
    have I2 : Inv X pins σ H1 { s1 with heap := h' } := I1.kept (t' := s1.toks) hk
    refine ⟨s1.heap.objs.size + 1, [s1.heap.objs.size + 1, s1.heap.objs.size], _, _, H1, rfl, I2, turn_enumB b a (s1.heap.objs.size + 1) s1.heap.objs.size, ⟨⟨.none, he⟩, iterAt_new hit, Nat.succ_ne_self _, Nat.ne_of_lt hal, Nat.ne_of_gt (Nat.lt_succ_of_lt hal)⟩, fun c hb => ?_, q⟩
    have e' : c = s1.heap.objs.size + 1 ∨ c = s1.heap.objs.size := by simpa using hb
    have hle : s1.heap.objs.size ≤ c := by
      rcases e' with z | z
      · rw [z]; exact Nat.le_succ _
      · rw [z]; exact Nat.le_refl _
    exact I1.fpOk hle (I1.hok.fresh hle)

/-- two things walked side by side -/
def ItzB (b1 b2 : Bool) (K : PySem.W.Frag) (a b : Addr) : It :=
  ⟨fun i H => ∃ (xs ys : List V) (x y : V), SqB b1 K H a xs ∧ SqB b2 K H b ys ∧ xs[i]? = some x ∧ ys[i]? = some y,
    fun i H v H' => ∃ T x y, v = .ref T ∧ H T = none ∧ H' = upd H T (.tup [x, y]) ∧ (∀ xs, SqB b1 K H a xs → xs[i]? = some x) ∧ ∀ ys, SqB b2 K H b ys → ys[i]? = some y,
    fun i H => ∃ xs ys : List V, SqB b1 K H a xs ∧ SqB b2 K H b ys ∧ i = min xs.length ys.length⟩
theorem turn_zipB (b1 b2 : Bool) {P : Program} {w : World} {K : PySem.W.Frag} {elts : List Expr} {kk : Nat} {tpos : Pos} {a b z TI TO i1 i2 : Addr} (S : ZipSep2 z TI TO i1 i2 [i1, a] [i2, b]) (n1 : a ≠ i1) (n2 : b ≠ i2) :
    Turn P w K (.Tuple elts kk tpos) (ItzB b1 b2 K a b) [z, TI, TO, i1, i2] z (fun i h => IsZip h z TI TO .none ∧ IsTupOf2 h TI (.ref i1) (.ref i2) ∧ (∃ x y, IsTupOf2 h TO x y) ∧ IterAt b1 h i1 a i ∧ IterAt b2 h i2 b i) where
  mem := by simp
  obj := fun i h st c hc => by
    obtain ⟨hz, hTI, ⟨x, y, hTO⟩, h1, h2⟩ := st
    have e' : c = z ∨ c = TI ∨ c = TO ∨ c = i1 ∨ c = i2 := by simpa using hc
    rcases e' with q | q | q | q | q
    · rw [q]; exact ⟨_, hz, fun v q => nomatch q⟩
    · rw [q]; exact ⟨_, hTI, fun v q => nomatch q⟩
    · rw [q]; exact ⟨_, hTO, fun v q => nomatch q⟩
    · rw [q]; exact h1.obj
    · rw [q]; exact h2.obj
  keep := fun i h h' st k => by
    obtain ⟨hz, hTI, ⟨x, y, hTO⟩, h1, h2⟩ := st
    exact ⟨k z (by simp) _ hz, k TI (by simp) _ hTI, ⟨x, y, k TO (by simp) _ hTO⟩, h1.keep fun o q => k i1 (by simp) o q, h2.keep fun o q => k i2 (by simp) o q⟩
  item := by
    intro X hP hw hK hc i pins s σ H E I hf st hg
    subst hP hw hK
    obtain ⟨hz, hTI, ⟨x0, y0, hTO⟩, h1, h2⟩ := st
    obtain ⟨xs, ys, x, y, hqx, hqy, hx, hy⟩ := hg
    obtain ⟨its, rv, p, _⟩ := inv_seqB I hqx
    obtain ⟨its2, rv2, p2, _⟩ := inv_seqB I hqy
    obtain ⟨u, hu, ru⟩ := rv.get hx
    obtain ⟨u2, hu2, ru2⟩ := rv2.get hy
    have hzl : z < s.heap.objs.size := Heap.lt_size hz
    have l1 : i < its.toArray.size := by simpa using (List.getElem?_eq_some_iff.mp hu).1
    have l2 : i < its2.toArray.size := by simpa using (List.getElem?_eq_some_iff.mp hu2).1
    refine wpAny_pyNext_zipD2_item S (draws_b b1 (A := X.A.in1) (I.ok.hd hc) i1 a n1 its.toArray) (draws_b b2 (A := X.A.in1) (I.ok.hd hc) i2 b n2 its2.toArray) hz hTI hTO ⟨h1, p⟩ ⟨h2, p2⟩ l1 l2 fun y1 y2 h' tk e1 e2 z' TO' h1' h2' hT hsz hk => ?_
    have ey1 : y1 = u := by
      have : its[i]? = some y1 := by simpa using e1
      rw [hu] at this; exact (Option.some.inj this).symm
    have ey2 : y2 = u2 := by
      have : its2[i]? = some y2 := by simpa using e2
      rw [hu2] at this; exact (Option.some.inj this).symm
    subst ey1 ey2
    refine ⟨_, rfl, wpAny_letOwnedTupleGo_zip (s := { s with heap := h', toks := tk }) z' fun h'' z'' sb => ?_⟩
    have hT2 : h''.get? s.heap.objs.size = some { cls := .type "tuple", data := .seq #[y1, y2] } := (sb.2 _ (Nat.ne_of_gt hzl)).trans hT
    have new : ObjOk X.prog X.w (upd H s.heap.objs.size (.tup [x, y])) h'' s.heap.objs.size (.tup [x, y]) :=
      ⟨by show 2 ≤ sizeLine; decide, [y1, y2], .cons ru (.cons ru2 .nil), ⟨_, hT2, rfl, _, rfl⟩⟩
    have I1 : Inv X pins σ (upd H s.heap.objs.size (.tup [x, y])) { s with heap := h'', toks := tk } :=
      I.turnedNew (t' := tk) (ch := [z, TI, TO, i1, i2]) (fun c o hb q => (sb.2 c (fun q' => hb (by simp [q']))).trans (hk c o (fun q' => hb (by simp [q'])) (fun q' => hb (by simp [q'])) (fun q' => hb (by simp [q'])) (fun q' => hb (by simp [q'])) q)) hf (Nat.le_refl _) new
    refine ⟨.ref s.heap.objs.size, _, I1, rfl, ⟨_, x, y, rfl, I.hok.fresh (Nat.le_refl _), rfl, fun l hl => by rw [inv_seqB_inj I hl hqx]; exact hx, fun l hl => by rw [inv_seqB_inj I hl hqy]; exact hy⟩, ⟨z'', ?_, ⟨y1, y2, ?_⟩, ?_, ?_⟩, fun c hcm => ?_⟩
    · exact (sb.2 _ S.TIz).trans (hk _ _ S.TIz S.TITO S.TIi1 S.TIi2 hTI)
    · exact (sb.2 _ S.TOz).trans TO'
    · exact h1'.1.keep fun o q => (sb.2 _ (Ne.symm S.zi1)).trans q
    · exact h2'.1.keep fun o q => (sb.2 _ (Ne.symm S.zi2)).trans q
    · have hlt : c < s.heap.objs.size := by
        have e' : c = z ∨ c = TI ∨ c = TO ∨ c = i1 ∨ c = i2 := by simpa using hcm
        rcases e' with q | q | q | q | q
        · rw [q]; exact hzl
        · rw [q]; exact Heap.lt_size hTI
        · rw [q]; exact Heap.lt_size hTO
        · rw [q]; obtain ⟨_, e1, _⟩ := h1.obj; exact Heap.lt_size e1
        · rw [q]; obtain ⟨_, e2, _⟩ := h2.obj; exact Heap.lt_size e2
      rw [upd_ne (Nat.ne_of_lt hlt)]
      exact (hf c hcm).1
  done := by
    intro X hP hw hK hc i pins s σ H E I hf st hg
    subst hP hw hK
    obtain ⟨hz, hTI, ⟨x0, y0, hTO⟩, h1, h2⟩ := st
    obtain ⟨xs, ys, hqx, hqy, hend⟩ := hg
    obtain ⟨its, rv, p, _⟩ := inv_seqB I hqx
    obtain ⟨its2, rv2, p2, _⟩ := inv_seqB I hqy
    have l1 := rv.length
    have l2 := rv2.length
    have s1 : its.toArray.size = xs.length := by rw [List.size_toArray, ← l1]
    have s2 : its2.toArray.size = ys.length := by rw [List.size_toArray, ← l2]
    refine wpAny_pyNext_zipD2_end S (draws_b b1 (A := X.A.in1) (I.ok.hd hc) i1 a n1 its.toArray) (draws_b b2 (A := X.A.in1) (I.ok.hd hc) i2 b n2 its2.toArray) hz hTI hTO ⟨h1, p⟩ ⟨h2, p2⟩ (by omega) (by omega) (by omega) fun h' tk hk => ⟨rfl, I.turnedL (t' := tk) (ch := [z, TI, TO, i1, i2]) (fun c o hb q =>
      hk c o (fun q' => hb (by simp [q'])) (fun q' => hb (by simp [q'])) (fun q' => hb (by simp [q'])) (fun q' => hb (by simp [q'])) q) hf⟩
  self := fun A i s Q E st h => wpAny_pyIter_zip st.1 h
def iZipB (K : PySem.W.Frag) (ta : TA) : TI := fun σ H R => ta σ H fun vs H1 => ∃ a b b1 b2 xs ys, vs = [.ref a, .ref b] ∧ SqB b1 K H1 a xs ∧ SqB b2 K H1 b ys ∧ R (ItzB b1 b2 K a b) H1
theorem pi_zipB {X : Cx} {e e2 : Expr} {ta : TA} {p pos tpos : Pos} {elts : List Expr} {kk : Nat} (hg : Gl X "zip") (hm : X.mg "zip" = none) (ha : PA X [e, e2] ta)
    (hs : starEach [e, e2] X.env = (false, eval e X.env) :: starEach [e2] X.env := by rfl) (hpl : (backTo pos (starEach [e2] X.env)).any (·.1) = false := by rfl) :
    PI X (.Tuple elts kk tpos) (.Call (.Name "zip" p) [e, e2] [] pos) (iZipB X.K ta) := by
  refine ⟨fun pins s σ H R I h => ?_⟩
  refine Call_ (ld_blt I hg hm PyProof.Rows.boot_zip (PyProof.Rows.callWith_type1 (thn (ha.run pos pins s σ H _ I h) fun us s1 ⟨vs, H1, I1, r1, q1⟩ => ?_) hs hpl))
  obtain ⟨a, b, b1, b2, xs, ys, ex, hqx, hqy, q⟩ := q1
  subst ex
  cases r1 with
  | cons r rr =>
    cases rr with
    | cons r' rr =>
      cases rr
      cases r
      cases r'
      have fresh5 : ∀ c, c ∈ [s1.heap.objs.size + 4, s1.heap.objs.size + 2, s1.heap.objs.size + 3, s1.heap.objs.size, s1.heap.objs.size + 1] → FpOk X pins H1 c := fun c hcm => by
        have e' : c = s1.heap.objs.size + 4 ∨ c = s1.heap.objs.size + 2 ∨ c = s1.heap.objs.size + 3 ∨ c = s1.heap.objs.size ∨ c = s1.heap.objs.size + 1 := by simpa using hcm
        have hle : s1.heap.objs.size ≤ c := by
          rcases e' with z | z | z | z | z
          · rw [z]; exact Nat.le_add_right _ _
          · rw [z]; exact Nat.le_add_right _ _
          · rw [z]; exact Nat.le_add_right _ _
          · rw [z]; exact Nat.le_refl _
          · rw [z]; exact Nat.le_add_right _ _
        exact I1.fpOk hle (I1.hok.fresh hle)
      obtain ⟨its, rv, p1, ha1⟩ := inv_seqB I1 hqx
      obtain ⟨its2, rv2, p2, ha2⟩ := inv_seqB I1 hqy
      refine zip_begins2 (begins_b b1 a its.toArray) (begins_b b2 b its2.toArray) p1 p2 fun h' hz hTI hTO h1 h2 hsz hk => wpAny_pyIter_zip hz ?_
      have I2 : Inv X pins σ H1 { s1 with heap := h' } := I1.kept (t' := s1.toks) hk
      have S := zip_sep2 (N := s1.heap.objs.size) (fp1 := [a]) (fp2 := [b]) (fun c hc => by rw [List.mem_singleton.mp hc]; exact ha1) (fun c hc => by rw [List.mem_singleton.mp hc]; exact ha2)
      exact ⟨s1.heap.objs.size + 4, [s1.heap.objs.size + 4, s1.heap.objs.size + 2, s1.heap.objs.size + 3, s1.heap.objs.size, s1.heap.objs.size + 1], _, _, H1, rfl, I2, turn_zipB b1 b2 S (Nat.ne_of_lt ha1) (Nat.ne_of_lt (Nat.lt_succ_of_lt ha2)), ⟨hz, hTI, ⟨_, _, hTO⟩, iterAt_new h1, iterAt_new h2⟩, fresh5, q⟩
/-- a list or a tuple, as it comes -/
def ItB (b : Bool) (K : PySem.W.Frag) (a : Addr) : It := match b with
  | true => Itl K a
  | false => Itt K a
def iSeqB (K : PySem.W.Frag) (tl : TE) : TI := fun σ H R => tl σ H fun x H1 => ∃ a b xs, x = .ref a ∧ SqB b K H1 a xs ∧ R (ItB b K a) H1
theorem pi_seqB {X : Cx} {tg l : Expr} {tl : TE} (hl : PE X l tl) : PI X tg l (iSeqB X.K tl) := by
  refine ⟨fun pins s σ H R I h => ?_⟩
  refine thn (hl.run pins s σ H _ I h) fun v s1 ⟨x, H1, I1, r1, q1⟩ => ?_
  obtain ⟨a, b, xs, e, hq, q⟩ := q1
  subst e
  cases r1
  cases b with
  | true =>
    obtain ⟨its, rv, p, hz⟩ := I1.list hq
    refine wpAny_pyIter_list p.isList ?_
    refine ⟨s1.heap.objs.size, [s1.heap.objs.size], _, _, H1, rfl, I1.kept (t' := s1.toks) fun b o e => Heap.get?_push_of_some _ e, turn_list a _, ⟨_, Heap.get?_push_size _ rfl, rfl, rfl⟩, fun b hb => ?_, q⟩
    have e : b = s1.heap.objs.size := by simpa using hb
    subst e
    exact I1.fpOk (Nat.le_refl _) (I1.hok.fresh (Nat.le_refl _))
  | false =>
    obtain ⟨its, rv, p, hz⟩ := I1.tuple hq
    refine wpAny_pyIter_tuple (show s1.heap.IsTuple a its.toArray from p) ?_
    refine ⟨s1.heap.objs.size, [s1.heap.objs.size], _, _, H1, rfl, I1.kept (t' := s1.toks) fun b o e => Heap.get?_push_of_some _ e, turn_tuple a _, ⟨_, Heap.get?_push_size _ rfl, rfl, rfl⟩, fun b hb => ?_, q⟩
    have e : b = s1.heap.objs.size := by simpa using hb
    subst e
    exact I1.fpOk (Nat.le_refl _) (I1.hok.fresh (Nat.le_refl _))
end DL
/-! ### what a loop walks, at the data level -/
namespace DL
open PySem PySem.Spec PyProof.Rows L2
abbrev Dep := List (Nat × List PyData)
/-- the cells that a walk reads stand as they stood -/
def Live (dep : Dep) (st : Sto) : Prop := ∀ p ∈ dep, ∃ b, st[p.1]? = some (b, p.2)
theorem live_nil {st : Sto} : Live [] st := fun _ h => nomatch h
structure SrcOk (K : PySem.W.Frag) (Hi : Hp) (ms : List Addr) (H : Hp) (J : It) (items : List PyData) (dep : Dep) : Prop where
  go : ∀ Hi' ms' H' st', Grow Hi ms H Hi' ms' H' → Hold K Hi' ms' st' H' → Live dep st' → ∀ i d, items[i]? = some d →
    J.go i H' ∧ ∀ v H2, J.yld i H' v H2 → ∃ Hi2, Grow Hi' ms' H' Hi2 ms' H2 ∧ Hold K Hi2 ms' st' H2 ∧ Rp K Hi2 v d
  stop : ∀ Hi' ms' H' st', Grow Hi ms H Hi' ms' H' → Hold K Hi' ms' st' H' → Live dep st' → J.stop items.length H'
abbrev FI := DEnv → M (List PyData × Dep)
def tI (K : PySem.W.Frag) (f : FI) : TI := fun σ H R => ∃ Hi ms st env it st', Hold K Hi ms st H ∧ RepE K Hi ms σ env ∧ f env st = some (it, st') ∧ Af K Hi ms H st' fun Hi' ms' H' => ∀ J, SrcOk K Hi' ms' H' J it.1 it.2 → R J H'
abbrev VI (X : Cx) (tg e : Expr) (f : FI) : Prop := PI X tg e (tI X.K f)
theorem PI.imp {X : Cx} {tg e : Expr} {t t' : TI} (h : PI X tg e t) (w : ∀ σ H R, t' σ H R → t σ H R) : PI X tg e t' := ⟨fun pins s σ H R I q => h.run pins s σ H R I (w σ H R q)⟩
/-- a value walked -/
def seqV : DV → M (List PyData × Dep)
  | .im (.list ds) => retM (ds, [])
  | .im (.tuple ds) => retM (ds, [])
  | .im _ => failM
  | .mu i => fun st => match st[i]? with
    | some (_, xs) => some ((xs, [(i, xs)]), st)
    | none => none
  | .ro ns => retM (ns.map .int, [])
/-- where a walked value stands, now and later -/
def SeqR (K : PySem.W.Frag) (Hi : Hp) (ms : List Addr) (H : Hp) (b : Bool) (a : Addr) (ds : List PyData) (dep : Dep) : Prop :=
  ∀ Hi' ms' H' st', Grow Hi ms H Hi' ms' H' → Hold K Hi' ms' st' H' → Live dep st' → ∃ vs, SqB b K H' a vs ∧ RpA K Hi' vs ds
section
variable {K : PySem.W.Frag} {Hi Hi' H H' : Hp} {ms ms' : List Addr} {st st' : Sto} {v : V} {dv : DV} {ds : List PyData} {dep : Dep} {a : Addr} {b : Bool}
theorem seqV_live {it : List PyData × Dep} (e : seqV dv st = some (it, st')) : st' = st ∧ Live it.2 st := by
  cases dv with
  | im d =>
    cases d <;> first
      | (obtain ⟨rfl, rfl⟩ := retM_eq e; exact ⟨rfl, live_nil⟩)
      | cases e
  | mu i =>
    cases e2 : st[i]? with
    | none => simp only [seqV, e2, reduceCtorEq] at e
    | some c =>
      obtain ⟨w, xs⟩ := c
      simp only [seqV, e2, Option.some.injEq, Prod.mk.injEq] at e
      obtain ⟨rfl, rfl⟩ := e
      exact ⟨rfl, fun p hp => by
        have : p = (i, xs) := by simpa using hp
        subst this; exact ⟨w, e2⟩⟩
  | ro ns => obtain ⟨rfl, rfl⟩ := retM_eq e; exact ⟨rfl, live_nil⟩
theorem seqV_ok {it : List PyData × Dep} (r : RepV K Hi ms v dv) (e : seqV dv st = some (it, st')) : ∃ a b, v = .ref a ∧ SeqR K Hi ms H b a it.1 it.2 := by
  cases r with
  | im r =>
    cases r <;> try cases e
    · rename_i a xs ds q r
      exact ⟨a, true, rfl, fun Hi' ms' H' st' g h _ => ⟨xs, SqL.of (h.sub _ _ (g.same _ _ q)), r.mono g.same⟩⟩
    · rename_i a xs ds q r
      exact ⟨a, false, rfl, fun Hi' ms' H' st' g h _ => ⟨xs, Same.seqT h.sub (Same.seqT g.same q), r.mono g.same⟩⟩
  | @mu i a e1 =>
    cases e2 : st[i]? with
    | none => simp only [seqV, e2, reduceCtorEq] at e
    | some c =>
      obtain ⟨w, xs⟩ := c
      simp only [seqV, e2, Option.some.injEq, Prod.mk.injEq] at e
      obtain ⟨rfl, rfl⟩ := e
      refine ⟨a, true, rfl, fun Hi' ms' H' st' g h lv => ?_⟩
      obtain ⟨w', e3⟩ := lv (i, xs) (by simp)
      cases w' with
      | true => obtain ⟨_, vs, q, r⟩ := h.wr i a xs (g.p.get e1) e3; exact ⟨vs, SqL.of q, r⟩
      | false =>
        cases h.fz i a xs (g.p.get e1) e3 with
        | lst q r => exact ⟨_, SqL.of (h.sub _ _ q), r⟩
  | @ro a ns q =>
    obtain ⟨rfl, rfl⟩ := retM_eq e
    exact ⟨a, true, rfl, fun Hi' ms' H' st' g h _ => ⟨ns.map V.int, h.sub.seq (g.same.seq q), RpA.ints ns⟩⟩
theorem Grow.toLater (g : Grow Hi ms H Hi' ms' H') (q : Hold K Hi' ms' st' H') (h : SeqR K Hi ms H b a ds dep) : SeqR K Hi' ms' H' b a ds dep :=
  fun Hi2 ms2 H2 st2 g2 h2 lv => h Hi2 ms2 H2 st2 (g.trans q g2) h2 lv
theorem src_seq (h : SeqR K Hi ms H b a ds dep) : SrcOk K Hi ms H (ItB b K a) ds dep where
  go := fun Hi' ms' H' st' g q lv i d e => by
    obtain ⟨vs, hs, hr⟩ := h Hi' ms' H' st' g q lv
    obtain ⟨x, hx, rx⟩ := hr.get e
    cases b with
    | true => exact ⟨⟨vs, x, hs, hx⟩, fun v H2 y => by
        obtain ⟨rfl, y⟩ := y
        have := y vs hs
        rw [hx] at this; cases this
        exact ⟨Hi', Grow.refl, q, rx⟩⟩
    | false => exact ⟨⟨vs, x, hs, hx⟩, fun v H2 y => by
        obtain ⟨rfl, y⟩ := y
        have := y vs hs
        rw [hx] at this; cases this
        exact ⟨Hi', Grow.refl, q, rx⟩⟩
  stop := fun Hi' ms' H' st' g q lv => by
    obtain ⟨vs, hs, hr⟩ := h Hi' ms' H' st' g q lv
    have hl := hr.length
    cases b with
    | true => exact ⟨vs, hs, by rw [hl]; exact Nat.le_refl _⟩
    | false => exact ⟨vs, hs, by rw [hl]; exact Nat.le_refl _⟩
def enumD (ds : List PyData) : List PyData := ds.mapIdx fun i d => .tuple [.int (i : Nat), d]
theorem enumD_length {ds : List PyData} : (enumD ds).length = ds.length := by simp [enumD]
theorem src_enum (h : SeqR K Hi ms H b a ds dep) : SrcOk K Hi ms H (IteE b K a) (enumD ds) dep where
  go := fun Hi' ms' H' st' g q lv i d e => by
    obtain ⟨vs, hs, hr⟩ := h Hi' ms' H' st' g q lv
    rw [enumD, List.getElem?_mapIdx] at e
    cases e1 : ds[i]? with
    | none => rw [e1] at e; cases e
    | some d0 =>
      rw [e1] at e
      cases e
      obtain ⟨x, hx, rx⟩ := hr.get e1
      refine ⟨⟨vs, x, hs, hx⟩, fun v H2 y => ?_⟩
      obtain ⟨T, x', rfl, hT, rfl, y⟩ := y
      have := y vs hs
      rw [hx] at this; cases this
      obtain ⟨q2, s2, r2⟩ := q.newT hT (vs := [.int (i : Nat), x]) (ds := [.int (i : Nat), d0]) (.cons (.int _) (.cons rx .nil)) (by show 2 ≤ sizeLine; decide)
      exact ⟨_, grow_new hT (Same.none_of q.sub hT), q2, r2⟩
  stop := fun Hi' ms' H' st' g q lv => by
    obtain ⟨vs, hs, hr⟩ := h Hi' ms' H' st' g q lv
    exact ⟨vs, hs, by rw [enumD_length, hr.length]⟩
def zipD (xs ys : List PyData) : List PyData := List.zipWith (fun x y => .tuple [x, y]) xs ys
theorem src_zip {b2 : Bool} {a2 : Addr} {es : List PyData} {dep2 : Dep} (h : SeqR K Hi ms H b a ds dep) (h2 : SeqR K Hi ms H b2 a2 es dep2) : SrcOk K Hi ms H (ItzB b b2 K a a2) (zipD ds es) (dep ++ dep2) where
  go := fun Hi' ms' H' st' g q lv i d e => by
    obtain ⟨vs, hs, hr⟩ := h Hi' ms' H' st' g q (fun p hp => lv p (List.mem_append_left _ hp))
    obtain ⟨us, hs2, hr2⟩ := h2 Hi' ms' H' st' g q (fun p hp => lv p (List.mem_append_right _ hp))
    rw [zipD, List.getElem?_zipWith] at e
    cases e1 : ds[i]? with
    | none => rw [e1] at e; cases e
    | some d0 =>
      cases e2 : es[i]? with
      | none => rw [e1, e2] at e; cases e
      | some d1 =>
        rw [e1, e2] at e
        cases e
        obtain ⟨x, hx, rx⟩ := hr.get e1
        obtain ⟨x2, hx2, rx2⟩ := hr2.get e2
        refine ⟨⟨vs, us, x, x2, hs, hs2, hx, hx2⟩, fun v H2 y => ?_⟩
        obtain ⟨T, x', y', rfl, hT, rfl, y1, y2⟩ := y
        have z1 := y1 vs hs
        rw [hx] at z1; cases z1
        have z2 := y2 us hs2
        rw [hx2] at z2; cases z2
        obtain ⟨q2, s2, r2⟩ := q.newT hT (vs := [x, x2]) (ds := [d0, d1]) (.cons rx (.cons rx2 .nil)) (by show 2 ≤ sizeLine; decide)
        exact ⟨_, grow_new hT (Same.none_of q.sub hT), q2, r2⟩
  stop := fun Hi' ms' H' st' g q lv => by
    obtain ⟨vs, hs, hr⟩ := h Hi' ms' H' st' g q (fun p hp => lv p (List.mem_append_left _ hp))
    obtain ⟨us, hs2, hr2⟩ := h2 Hi' ms' H' st' g q (fun p hp => lv p (List.mem_append_right _ hp))
    exact ⟨vs, us, hs, hs2, by rw [zipD, List.length_zipWith, hr.length, hr2.length]⟩
def rangeD (lo : Int) (n : Nat) : List PyData := (List.range n).map fun k => .int (lo + (k : Nat))
theorem src_range {lo : Int} {n : Nat} : SrcOk K Hi ms H (Itr lo n) (rangeD lo n) [] where
  go := fun Hi' ms' H' st' g q lv i d e => by
    rw [rangeD, List.getElem?_map] at e
    cases e1 : (List.range n)[i]? with
    | none => rw [e1] at e; cases e
    | some k =>
      rw [e1] at e
      cases e
      have hk : i < n ∧ k = i := by
        by_cases hi : i < n
        · rw [List.getElem?_range hi] at e1; cases e1; exact ⟨hi, rfl⟩
        · rw [List.getElem?_eq_none (by simpa using hi)] at e1; cases e1
      obtain ⟨hi, rfl⟩ := hk
      refine ⟨hi, fun v H2 y => ?_⟩
      obtain ⟨rfl, rfl⟩ := y
      exact ⟨Hi', Grow.refl, q, .int _⟩
  stop := fun Hi' ms' H' st' g q lv => by
    show n ≤ (rangeD lo n).length
    simp [rangeD]
end
section
variable {X : Cx} {tg l e e1 e2 : Expr} {f f2 : FE} {fa : FA}
/-- over a list or a tuple -/
def fSeq (f : FE) : FI := fun env => bindM (f env) seqV
theorem vi_seq (h : VE X l f) : VI X tg l (fSeq f) := PI.imp (pi_seqB h) fun σ H R h => by
  obtain ⟨Hi, ms, st, env, it, st', h1, h2, h3, h4⟩ := h
  obtain ⟨a, s1, e1, k1⟩ := bindM_eq h3
  refine ⟨Hi, ms, st, env, a, s1, h1, h2, e1, fun Hi1 ms1 H1 ga q1 v1 r1 => ?_⟩
  obtain ⟨rfl, lv⟩ := seqV_live k1
  obtain ⟨A, b, rfl, sr⟩ := seqV_ok (H := H1) r1 k1
  obtain ⟨vs, hs, _⟩ := sr Hi1 ms1 H1 _ Grow.refl q1 lv
  exact ⟨A, b, vs, rfl, hs, h4 _ _ _ ga q1 _ (src_seq sr)⟩
/-- enumerate(..) -/
def fEnum (f : FA) : FI := fun env => bindM (f env) fun as => match as with
  | [a] => bindM (seqV a) fun it => retM (enumD it.1, it.2)
  | _ => failM
theorem vi_enum {p pos tpos : Pos} {elts : List Expr} {kk : Nat} (ha : VA X [e] fa) (hg : Gl X "enumerate" := by rfl) (hm : X.mg "enumerate" = none := by rfl) (hs : starEach [e] X.env = [(false, eval e X.env)] := by rfl) :
    VI X (.Tuple elts kk tpos) (.Call (.Name "enumerate" p) [e] [] pos) (fEnum fa) := PI.imp (pi_enumB hg hm ha hs) fun σ H R h => by
  obtain ⟨Hi, ms, st, env, it, st', h1, h2, h3, h4⟩ := h
  obtain ⟨as, s1, e1, k1⟩ := bindM_eq h3
  refine ⟨Hi, ms, st, env, as, s1, h1, h2, e1, fun Hi1 ms1 H1 ga q1 vs r1 => ?_⟩
  split at k1
  · rename_i a
    cases r1 with
    | cons r rr =>
      cases rr
      obtain ⟨it', s2, e2, k2⟩ := bindM_eq k1
      obtain ⟨rfl, rfl⟩ := retM_eq k2
      obtain ⟨rfl, lv⟩ := seqV_live e2
      obtain ⟨A, b, rfl, sr⟩ := seqV_ok (H := H1) r e2
      obtain ⟨vs, hs, _⟩ := sr Hi1 ms1 H1 _ Grow.refl q1 lv
      exact ⟨A, b, vs, rfl, hs, h4 _ _ _ ga q1 _ (src_enum sr)⟩
  · cases k1
/-- zip(.., ..) -/
def fZip (f : FA) : FI := fun env => bindM (f env) fun as => match as with
  | [a, b] => bindM (seqV a) fun it => bindM (seqV b) fun it2 => retM (zipD it.1 it2.1, it.2 ++ it2.2)
  | _ => failM
theorem vi_zip {p pos tpos : Pos} {elts : List Expr} {kk : Nat} (ha : VA X [e1, e2] fa) (hg : Gl X "zip" := by rfl) (hm : X.mg "zip" = none := by rfl)
    (hs : starEach [e1, e2] X.env = (false, eval e1 X.env) :: starEach [e2] X.env := by rfl) (hpl : (backTo pos (starEach [e2] X.env)).any (·.1) = false := by rfl) :
    VI X (.Tuple elts kk tpos) (.Call (.Name "zip" p) [e1, e2] [] pos) (fZip fa) := PI.imp (pi_zipB hg hm ha hs hpl) fun σ H R h => by
  obtain ⟨Hi, ms, st, env, it, st', h1, h2, h3, h4⟩ := h
  obtain ⟨as, s1, e1, k1⟩ := bindM_eq h3
  refine ⟨Hi, ms, st, env, as, s1, h1, h2, e1, fun Hi1 ms1 H1 ga q1 vs r1 => ?_⟩
  split at k1
  · rename_i a b
    cases r1 with
    | cons ra rr =>
      cases rr with
      | cons rb rr =>
        cases rr
        obtain ⟨it', s2, e2, k2⟩ := bindM_eq k1
        obtain ⟨it2, s3, e3, k3⟩ := bindM_eq k2
        obtain ⟨rfl, rfl⟩ := retM_eq k3
        obtain ⟨rfl, lv⟩ := seqV_live e2
        obtain ⟨rfl, lv2⟩ := seqV_live e3
        obtain ⟨A, b, rfl, sr⟩ := seqV_ok (H := H1) ra e2
        obtain ⟨A2, b2, rfl, sr2⟩ := seqV_ok (H := H1) rb e3
        obtain ⟨vs, hs, _⟩ := sr Hi1 ms1 H1 _ Grow.refl q1 lv
        obtain ⟨us, hs2, _⟩ := sr2 Hi1 ms1 H1 _ Grow.refl q1 lv2
        exact ⟨A, A2, b, b2, vs, us, rfl, hs, hs2, h4 _ _ _ ga q1 _ (src_zip sr sr2)⟩
  · cases k1
/-- range(n), range(m, n) -/
def fRng1 (f : FA) : FI := fun env => bindM (f env) fun as => match as with
  | [.im (.int j)] => if -(2 ^ 62) ≤ j ∧ j < 2 ^ 62 then retM (rangeD 0 j.toNat, []) else failM
  | _ => failM
def fRng2 (f : FA) : FI := fun env => bindM (f env) fun as => match as with
  | [.im (.int i), .im (.int j)] => if -(2 ^ 62) ≤ i ∧ i < 2 ^ 62 ∧ -(2 ^ 62) ≤ j ∧ j < 2 ^ 62 then retM (rangeD i (j - i).toNat, []) else failM
  | _ => failM
theorem vi_rng1 {p pos : Pos} (ha : VA X [e] fa) (hg : Gl X "range" := by rfl) (hm : X.mg "range" = none := by rfl) (hs : starEach [e] X.env = [(false, eval e X.env)] := by rfl) :
    VI X tg (.Call (.Name "range" p) [e] [] pos) (fRng1 fa) := PI.imp (pi_range1 hg hm ha hs) fun σ H R h => by
  obtain ⟨Hi, ms, st, env, it, st', h1, h2, h3, h4⟩ := h
  obtain ⟨as, s1, e1, k1⟩ := bindM_eq h3
  refine ⟨Hi, ms, st, env, as, s1, h1, h2, e1, fun Hi1 ms1 H1 ga q1 vs r1 => ?_⟩
  split at k1
  · rename_i j
    cases r1 with
    | cons ra rr =>
      cases rr
      cases ra with
      | im ra =>
        cases ra
        split at k1
        · rename_i hb
          obtain ⟨rfl, rfl⟩ := retM_eq k1
          exact ⟨j, rfl, hb.1, hb.2, h4 _ _ _ ga q1 _ src_range⟩
        · cases k1
  · cases k1
theorem vi_rng2 {p pos : Pos} (ha : VA X [e1, e2] fa) (hg : Gl X "range" := by rfl) (hm : X.mg "range" = none := by rfl) (hs : starEach [e1, e2] X.env = [(false, eval e1 X.env), (false, eval e2 X.env)] := by rfl) (hs2 : starEach [e2] X.env = [(false, eval e2 X.env)] := by rfl) :
    VI X tg (.Call (.Name "range" p) [e1, e2] [] pos) (fRng2 fa) := PI.imp (pi_range2 hg hm ha hs hs2) fun σ H R h => by
  obtain ⟨Hi, ms, st, env, it, st', h1, h2, h3, h4⟩ := h
  obtain ⟨as, s1, e1, k1⟩ := bindM_eq h3
  refine ⟨Hi, ms, st, env, as, s1, h1, h2, e1, fun Hi1 ms1 H1 ga q1 vs r1 => ?_⟩
  split at k1
  · rename_i i j
    cases r1 with
    | cons ra rr =>
      cases rr with
      | cons rb rr =>
        cases rr
        cases ra with
        | im ra =>
          cases ra
          cases rb with
          | im rb =>
            cases rb
            split at k1
            · rename_i hb
              obtain ⟨rfl, rfl⟩ := retM_eq k1
              exact ⟨i, j, rfl, hb, h4 _ _ _ ga q1 _ src_range⟩
            · cases k1
  · cases k1
end
end DL
/-! ### targets, statements, loops, at the data level -/
namespace DL
open PySem PySem.Spec PyProof.Rows L2
abbrev FG := DV → DEnv → M DEnv
abbrev FGs := List DV → DEnv → M DEnv
def tG (K : PySem.W.Frag) (vs : List Nat) (g : FG) : TG := fun v σ H Q => ∃ Hi ms st env dv env' st', Hold K Hi ms st H ∧ RepE K Hi ms σ env ∧ RepV K Hi ms v dv ∧ g dv env st = some (env', st') ∧
  Af K Hi ms H st' fun Hi' ms' H' => ∀ σ', RepE K Hi' ms' σ' env' → (∀ j, j ∉ vs → σ'[j]? = σ[j]?) → σ'.length = σ.length → Q σ' H'
def tGs (K : PySem.W.Frag) (vs : List Nat) (g : FGs) : TGs := fun us σ H Q => ∃ Hi ms st env dvs env' st', Hold K Hi ms st H ∧ RepE K Hi ms σ env ∧ RepVs K Hi ms us dvs ∧ g dvs env st = some (env', st') ∧
  Af K Hi ms H st' fun Hi' ms' H' => ∀ σ', RepE K Hi' ms' σ' env' → (∀ j, j ∉ vs → σ'[j]? = σ[j]?) → σ'.length = σ.length → Q σ' H'
abbrev VG (X : Cx) (e : Expr) (vs : List Nat) (g : FG) : Prop := PG X e (tG X.K vs g)
abbrev VGs (X : Cx) (es : List Expr) (vs : List Nat) (g : FGs) : Prop := PGs X es (tGs X.K vs g)
theorem PG.imp {X : Cx} {e : Expr} {t t' : TG} (h : PG X e t) (w : ∀ v σ H Q, t' v σ H Q → t v σ H Q) : PG X e t' := ⟨fun pins s σ H v u Q I r q => h.run pins s σ H v u Q I r (w v σ H Q q)⟩
theorem PGs.imp {X : Cx} {es : List Expr} {t t' : TGs} (h : PGs X es t) (w : ∀ v σ H Q, t' v σ H Q → t v σ H Q) : PGs X es t' := ⟨fun pins s σ H vs us Q I r q => h.run pins s σ H vs us Q I r (w vs σ H Q q)⟩
def gtName (i : Nat) : FG := fun d env => retM (env.set i (some d))
def gtNil : FGs := fun ds env => match ds with
  | [] => retM env
  | _ => failM
def gtCons (g : FG) (h : FGs) : FGs := fun ds env => match ds with
  | d :: r => bindM (g d env) fun e => h r e
  | [] => failM
/-- a tuple taken apart; a list too, where the code may meet one -/
def gtTup (n : Nat) (g : FGs) : FG := fun d env => match d with
  | .im (.tuple ds) => if ds.length = n then g (ds.map .im) env else failM
  | _ => failM
section
variable {K : PySem.W.Frag} {Hi Hi' H H' : Hp} {ms ms' : List Addr} {st st' : Sto}
theorem RpA.ims {xs : List V} {ds : List PyData} (h : RpA K Hi xs ds) : RepVs K Hi ms xs (ds.map .im) := by
  induction ds generalizing xs with
  | nil => cases h; exact .nil
  | cons d ds ih =>
    cases h with
    | cons h1 h2 => exact .cons (.im h1) (ih h2)
end
section
variable {X : Cx} {pos : Pos}
theorem vg_name (i : Nat) {x : Str} (hN : X.N.Nodup) (hi : X.N[i]? = some x := by rfl) (hx : Loc X.env.scope x := by first | exact Or.inl rfl | exact Or.inr rfl) (hf : X.fn x = true ∨ X.env.scope.names.lookup x = some .local := by first | exact .inl rfl | exact .inr rfl) : VG X (.Name x pos) [i] (gtName i) :=
  PG.imp (pg_name hN hi hx hf) fun v σ H Q h => by
    obtain ⟨Hi, ms, st, env, dv, env', st', h1, h2, h3, h4, h5⟩ := h
    obtain ⟨rfl, rfl⟩ := retM_eq h4
    exact Af.here h5 h1 _ (h2.set h3) (fun j hj => List.getElem?_set_ne (fun e => hj (by simp [e]))) (by simp)
theorem vgs_nil : VGs X [] [] gtNil := PGs.imp pgs_nil fun vs σ H Q h => by
  obtain ⟨Hi, ms, st, env, dvs, env', st', h1, h2, h3, h4, h5⟩ := h
  cases h3 with
  | nil =>
    obtain ⟨rfl, rfl⟩ := retM_eq h4
    exact ⟨rfl, Af.here h5 h1 _ h2 (fun _ _ => rfl) rfl⟩
  | cons _ _ => cases h4
theorem vgs_cons {e : Expr} {es : List Expr} {vs us : List Nat} {g : FG} {gs : FGs} (h1 : VG X e vs g) (h2 : VGs X es us gs) (hs : (assignEach (e :: es) X.env).map (·.2) = assign e X.env :: (assignEach es X.env).map (·.2) := by rfl) :
    VGs X (e :: es) (vs ++ us) (gtCons g gs) := PGs.imp (pgs_cons h1 h2 hs) fun xs σ H Q h => by
  obtain ⟨Hi, ms, st, env, dvs, env', st', h1, h2, h3, h4, h5⟩ := h
  cases h3 with
  | nil => cases h4
  | cons r rs =>
    obtain ⟨e1, s1, k1, k2⟩ := bindM_eq h4
    refine ⟨_, _, rfl, Hi, ms, st, env, _, e1, s1, h1, h2, r, k1, fun Hi1 ms1 H1 ga q1 σ1 p1 o1 l1 => ?_⟩
    refine ⟨Hi1, ms1, s1, e1, _, env', st', q1, p1, rs.mono ga, k2, fun Hi2 ms2 H2 gb q2 σ2 p2 o2 l2 => ?_⟩
    exact h5 _ _ _ (ga.trans q1 gb) q2 σ2 p2 (fun j hj => (o2 j fun z => hj (List.mem_append_right _ z)).trans (o1 j fun z => hj (List.mem_append_left _ z))) (l2.trans l1)
theorem vg_tup {es : List Expr} {k n : Nat} {vs : List Nat} {g : FGs} (hc : X.calm = true) (h : VGs X es vs g)
    (hn : (assignEach es X.env).length = n := by rfl) (hst : (assignEach es X.env).findIdx? (·.1) = none := by rfl) : VG X (.Tuple es k pos) vs (gtTup n g) := PG.imp (pg_tup hc h hn hst) fun v σ H Q h => by
  obtain ⟨Hi, ms, st, env, dv, env', st', h1, h2, h3, h4, h5⟩ := h
  unfold gtTup at h4
  split at h4
  · rename_i ds
    split at h4
    · rename_i hl
      cases h3 with
      | im r =>
        cases r with
        | tup q r =>
          exact ⟨_, _, rfl, Same.seqT h1.sub q, by rw [r.length]; exact hl, Hi, ms, st, env, _, env', st', h1, h2, r.ims, h4, h5⟩
    · cases h4
  · cases h4
end

/-! ### statements -/
def OutOk (K : PySem.W.Frag) (D : Ends) (o : Out) (Hi : Hp) (ms : List Addr) (H : Hp) : Prop := match o with
  | .nx env => ∀ σ', RepE K Hi ms σ' env → D.nx σ' H
  | .rt d => ∀ v, RepV K Hi ms v d → D.rt v H
  | .bk env => ∀ σ', RepE K Hi ms σ' env → D.bk σ' H
  | .ct env => ∀ σ', RepE K Hi ms σ' env → D.ct σ' H
def tS (K : PySem.W.Frag) (f : FS) : TS := fun D σ H => ∃ Hi ms st env o st', Hold K Hi ms st H ∧ RepE K Hi ms σ env ∧ f env st = some (o, st') ∧ Af K Hi ms H st' (OutOk K D o)
abbrev VS (X : Cx) (s : Stmt) (f : FS) : Prop := PS X s (tS X.K f)
abbrev VSs (X : Cx) (s : List Stmt) (f : FS) : Prop := PSs X s (tS X.K f)
def fEnd : FS := fun env => retM (.nx env)
def fThen (f g : FS) : FS := fun env => bindM (f env) fun o => match o with
  | .nx e => g e
  | o => retM o
def fSet (i : Nat) (f : FE) : FS := fun env => bindM (f env) fun d => retM (.nx (env.set i (some d)))
def fAsg (g : FG) (f : FE) : FS := fun env => bindM (f env) fun d => bindM (g d env) fun e => retM (.nx e)
def fPar (i j : Nat) (f : FA) : FS := fun env => bindM (f env) fun as => match as with
  | [a, b] => retM (.nx ((env.set i (some a)).set j (some b)))
  | _ => failM
def fPar3 (i j l : Nat) (f : FA) : FS := fun env => bindM (f env) fun as => match as with
  | [a, b, c] => retM (.nx (((env.set i (some a)).set j (some b)).set l (some c)))
  | _ => failM
def fIfS (c : FT) (f g : FS) : FS := fun env => bindM (c env) fun b => if b = true then f env else g env
def fRet (f : FE) : FS := fun env => bindM (f env) fun d => retM (.rt d)
def fDrop (f : FE) : FS := fun env => bindM (f env) fun _ => retM (.nx env)
def fBrk : FS := fun env => retM (.bk env)
def fCnt : FS := fun env => retM (.ct env)
def fNo : FS := fun _ => failM
section
variable {X : Cx} {pos : Pos} {K : PySem.W.Frag}
theorem vss_nil : VSs X [] fEnd := PSs.imp pss_nil fun D σ H h => by
  obtain ⟨Hi, ms, st, env, o, st', h1, h2, h3, h4⟩ := h
  obtain ⟨rfl, rfl⟩ := retM_eq h3
  exact Af.here h4 h1 _ h2
theorem vss_cons {s : Stmt} {r : List Stmt} {f g : FS} (h : VS X s f) (hr : VSs X r g) : VSs X (s :: r) (fThen f g) := PSs.imp (pss_cons h hr) fun D σ H h => by
  obtain ⟨Hi, ms, st, env, o, st', h1, h2, h3, h4⟩ := h
  obtain ⟨o1, s1, e1, k1⟩ := bindM_eq h3
  refine ⟨Hi, ms, st, env, o1, s1, h1, h2, e1, fun Hi1 ms1 H1 ga q1 => ?_⟩
  cases o1 with
  | nx e => exact fun σ' p => ⟨Hi1, ms1, s1, e, o, st', q1, p, k1, Af.on h4 ga q1⟩
  | rt d => obtain ⟨rfl, rfl⟩ := retM_eq k1; exact h4 _ _ _ ga q1
  | bk e => obtain ⟨rfl, rfl⟩ := retM_eq k1; exact h4 _ _ _ ga q1
  | ct e => obtain ⟨rfl, rfl⟩ := retM_eq k1; exact h4 _ _ _ ga q1
theorem vss_one {s : Stmt} {f : FS} (h : VS X s f) : VSs X [s] f := pss_one h
theorem vs_no {s : Stmt} : VS X s fNo := PS.imp ps_never fun D σ H h => by
  obtain ⟨Hi, ms, st, env, o, st', h1, h2, h3, h4⟩ := h
  cases h3
theorem vss_no {s : List Stmt} : VSs X s fNo := PSs.imp pss_never fun D σ H h => by
  obtain ⟨Hi, ms, st, env, o, st', h1, h2, h3, h4⟩ := h
  cases h3
theorem vs_set (i : Nat) {x : Str} {e : Expr} {pos' : Pos} {f : FE} (he : VE X e f) (hN : X.N.Nodup) (hi : X.N[i]? = some x := by rfl) (hx : Loc X.env.scope x := by first | exact Or.inl rfl | exact Or.inr rfl) (hs : swapsWith e (some (.Name x pos')) pos.line X.env = pure false := by rfl) (hf : X.fn x = true ∨ X.env.scope.names.lookup x = some .local := by first | exact .inl rfl | exact .inr rfl) :
    VS X (.Assign [.Name x pos'] e pos) (fSet i f) := PS.imp (ps_set hN hi hx he hs hf) fun D σ H h => by
  obtain ⟨Hi, ms, st, env, o, st', h1, h2, h3, h4⟩ := h
  obtain ⟨d, s1, e1, k1⟩ := bindM_eq h3
  obtain ⟨rfl, rfl⟩ := retM_eq k1
  exact ⟨Hi, ms, st, env, d, _, h1, h2, e1, fun Hi1 ms1 H1 ga q1 v r => h4 _ _ _ ga q1 _ ((h2.mono ga).set r)⟩
theorem vs_asg {tg e : Expr} {vs : List Nat} {g : FG} {f : FE} (he : VE X e f) (hg : VG X tg vs g) (hs : swapsWithSole [tg] e pos.line X.env = pure false := by rfl) (hw : swappedStores [tg] e X.env = pure none := by rfl)
    (h1 : (assignEach [tg] X.env).map (·.2) = [assign tg X.env] := by rfl) : VS X (.Assign [tg] e pos) (fAsg g f) := PS.imp (ps_asg he hg hs hw h1) fun D σ H h => by
  obtain ⟨Hi, ms, st, env, o, st', h1, h2, h3, h4⟩ := h
  obtain ⟨d, s1, e1, k1⟩ := bindM_eq h3
  obtain ⟨e2, s2, e3, k2⟩ := bindM_eq k1
  obtain ⟨rfl, rfl⟩ := retM_eq k2
  refine ⟨Hi, ms, st, env, d, s1, h1, h2, e1, fun Hi1 ms1 H1 ga q1 v r => ?_⟩
  exact ⟨Hi1, ms1, s1, env, d, e2, _, q1, h2.mono ga, r, e3, fun Hi2 ms2 H2 gb q2 σ' p _ _ => h4 _ _ _ (ga.trans q1 gb) q2 σ' p⟩
theorem vs_par (i j : Nat) {x y : Str} {a b : Expr} {fa : FA} {px py pt : Pos} {kt k2 pt2} (ha : VA X [a, b] fa) (hN : X.N.Nodup) (hc : X.calm = true) (hi : X.N[i]? = some x := by rfl) (hj : X.N[j]? = some y := by rfl) (hij : i ≠ j := by decide)
    (hx : X.env.scope.names.lookup x = some .local := by rfl) (hy : X.env.scope.names.lookup y = some .local := by rfl)
    (hw : swappedStores [.Tuple [.Name x px, .Name y py] kt pt] (.Tuple [a, b] k2 pt2) X.env = pure (some [x, y]) := by rfl)
    (hs : swapsWithSole [.Tuple [.Name x px, .Name y py] kt pt] (.Tuple [a, b] k2 pt2) pos.line X.env = pure false := by rfl) :
    VS X (.Assign [.Tuple [.Name x px, .Name y py] kt pt] (.Tuple [a, b] k2 pt2) pos) (fPar i j fa) := PS.imp (ps_par hc hN hi hj hij hx hy ha hw hs) fun D σ H h => by
  obtain ⟨Hi, ms, st, env, o, st', h1, h2, h3, h4⟩ := h
  obtain ⟨as, s1, e1, k1⟩ := bindM_eq h3
  refine ⟨Hi, ms, st, env, as, s1, h1, h2, e1, fun Hi1 ms1 H1 ga q1 vs r => ?_⟩
  split at k1
  · cases r with
    | cons ra rr =>
      cases rr with
      | cons rb rr =>
        cases rr
        obtain ⟨rfl, rfl⟩ := retM_eq k1
        exact ⟨_, _, rfl, h4 _ _ _ ga q1 _ (((h2.mono ga).set ra).set rb)⟩
  · cases k1
theorem vs_par3 (i j l : Nat) {x y z : Str} {a b c : Expr} {fa : FA} {px py pz pt : Pos} {kt k2 pt2} (ha : VA X [a, b, c] fa) (hN : X.N.Nodup) (hc : X.calm = true) (hi : X.N[i]? = some x := by rfl) (hj : X.N[j]? = some y := by rfl) (hl : X.N[l]? = some z := by rfl) (hij : i ≠ j := by decide) (hil : i ≠ l := by decide) (hjl : j ≠ l := by decide)
    (hx : X.env.scope.names.lookup x = some .local := by rfl) (hy : X.env.scope.names.lookup y = some .local := by rfl) (hz : X.env.scope.names.lookup z = some .local := by rfl)
    (hw : swappedStores [.Tuple [.Name x px, .Name y py, .Name z pz] kt pt] (.Tuple [a, b, c] k2 pt2) X.env = pure (some [x, y, z]) := by rfl)
    (hs : swapsWithSole [.Tuple [.Name x px, .Name y py, .Name z pz] kt pt] (.Tuple [a, b, c] k2 pt2) pos.line X.env = pure false := by rfl) :
    VS X (.Assign [.Tuple [.Name x px, .Name y py, .Name z pz] kt pt] (.Tuple [a, b, c] k2 pt2) pos) (fPar3 i j l fa) := PS.imp (ps_par3 hc hN hi hj hl hij hil hjl hx hy hz ha hw hs) fun D σ H h => by
  obtain ⟨Hi, ms, st, env, o, st', h1, h2, h3, h4⟩ := h
  obtain ⟨as, s1, e1, k1⟩ := bindM_eq h3
  refine ⟨Hi, ms, st, env, as, s1, h1, h2, e1, fun Hi1 ms1 H1 ga q1 vs r => ?_⟩
  split at k1
  · cases r with
    | cons ra rr =>
      cases rr with
      | cons rb rr =>
        cases rr with
        | cons rc rr =>
          cases rr
          obtain ⟨rfl, rfl⟩ := retM_eq k1
          exact ⟨_, _, _, rfl, h4 _ _ _ ga q1 _ ((((h2.mono ga).set ra).set rb).set rc)⟩
  · cases k1
theorem vs_if {c : Expr} {a b : List Stmt} {fc : FT} {f g : FS} (hc : VT X c fc) (ha : VSs X a f) (hb : VSs X b g) : VS X (.If c a b pos) (fIfS fc f g) := PS.imp (ps_if hc ha hb) fun D σ H h => by
  obtain ⟨Hi, ms, st, env, o, st', h1, h2, h3, h4⟩ := h
  obtain ⟨k, s1, e1, k1⟩ := bindM_eq h3
  refine ⟨Hi, ms, st, env, k, s1, h1, h2, e1, fun Hi1 ms1 H1 ga q1 => ?_⟩
  cases k with
  | true =>
    rw [if_pos rfl] at k1 ⊢
    exact ⟨Hi1, ms1, s1, env, o, st', q1, h2.mono ga, k1, Af.on h4 ga q1⟩
  | false =>
    rw [if_neg Bool.false_ne_true] at k1 ⊢
    exact ⟨Hi1, ms1, s1, env, o, st', q1, h2.mono ga, k1, Af.on h4 ga q1⟩
theorem vs_ret {e : Expr} {f : FE} (he : VE X e f) : VS X (.Return (some e) pos) (fRet f) := PS.imp (ps_ret he) fun D σ H h => by
  obtain ⟨Hi, ms, st, env, o, st', h1, h2, h3, h4⟩ := h
  obtain ⟨d, s1, e1, k1⟩ := bindM_eq h3
  obtain ⟨rfl, rfl⟩ := retM_eq k1
  exact ⟨Hi, ms, st, env, d, _, h1, h2, e1, fun Hi1 ms1 H1 ga q1 v r => h4 _ _ _ ga q1 _ r⟩
theorem vs_expr {e : Expr} {f : FE} (he : VE X e f) (hs : swapsWith e none pos.line X.env = pure false := by rfl) : VS X (.Expr e pos) (fDrop f) := PS.imp (ps_expr he hs) fun D σ H h => by
  obtain ⟨Hi, ms, st, env, o, st', h1, h2, h3, h4⟩ := h
  obtain ⟨d, s1, e1, k1⟩ := bindM_eq h3
  obtain ⟨rfl, rfl⟩ := retM_eq k1
  exact ⟨Hi, ms, st, env, d, _, h1, h2, e1, fun Hi1 ms1 H1 ga q1 v r => h4 _ _ _ ga q1 _ (h2.mono ga)⟩
theorem vs_brk : VS X (.Break pos) fBrk := PS.imp ps_break fun D σ H h => by
  obtain ⟨Hi, ms, st, env, o, st', h1, h2, h3, h4⟩ := h
  obtain ⟨rfl, rfl⟩ := retM_eq h3
  exact Af.here h4 h1 _ h2
theorem vs_cnt : VS X (.Continue pos) fCnt := PS.imp ps_continue fun D σ H h => by
  obtain ⟨Hi, ms, st, env, o, st', h1, h2, h3, h4⟩ := h
  obtain ⟨rfl, rfl⟩ := retM_eq h3
  exact Af.here h4 h1 _ h2
end

/-! ### loops -/
open Classical in
noncomputable def forM (dep : Dep) (body : PyData → FS) : List PyData → FS
  | [], env => fun st => if Live dep st then some (.nx env, st) else none
  | d :: ds, env => fun st => if Live dep st then bindM (body d env) (fun o => match o with
    | .nx e => forM dep body ds e
    | .ct e => forM dep body ds e
    | .bk e => retM (.nx e)
    | .rt d => retM (.rt d)) st else none
theorem forM_nil {dep : Dep} {body : PyData → FS} {env : DEnv} {st : Sto} (h : Live dep st) : forM dep body [] env st = some (.nx env, st) := by
  simp only [forM, if_pos h]
theorem forM_cons {dep : Dep} {body : PyData → FS} {env : DEnv} {st : Sto} {d : PyData} {ds : List PyData} (h : Live dep st) : forM dep body (d :: ds) env st = bindM (body d env) (fun o => match o with
    | .nx e => forM dep body ds e
    | .ct e => forM dep body ds e
    | .bk e => retM (.nx e)
    | .rt d => retM (.rt d)) st := by
  simp only [forM, if_pos h]
theorem forM_live {dep : Dep} {body : PyData → FS} {l : List PyData} {env : DEnv} {st : Sto} {r : Out × Sto} (h : forM dep body l env st = some r) : Live dep st := by
  by_cases z : Live dep st
  · exact z
  · cases l <;> simp only [forM, if_neg z, reduceCtorEq] at h
noncomputable def fFor (fi : FI) (g : FG) (fb : FS) : FS := fun env => bindM (fi env) fun it => forM it.2 (fun d env => bindM (g (.im d) env) fb) it.1 env
def whileM (c : FT) (b : FS) : Nat → FS
  | 0, _ => failM
  | n + 1, env => bindM (c env) fun k => if k = true then bindM (b env) fun o => match o with
    | .nx e => whileM c b n e
    | .ct e => whileM c b n e
    | .bk e => retM (.nx e)
    | .rt d => retM (.rt d) else retM (.nx env)
open Classical in
noncomputable def fWhile (c : FT) (b : FS) : FS := fun env st => if h : ∃ r n, whileM c b n env st = some r then some h.choose else none
theorem whileM_more {c : FT} {b : FS} : ∀ {n m : Nat} {env : DEnv} {st : Sto} {r : Out × Sto}, whileM c b n env st = some r → n ≤ m → whileM c b m env st = some r
  | 0, _, _, _, _, h, _ => by cases h
  | n + 1, 0, _, _, _, _, hl => absurd hl (Nat.not_succ_le_zero n)
  | n + 1, m + 1, env, st, r, h, hl => by
    unfold whileM at h ⊢
    obtain ⟨k, s1, e1, k1⟩ := bindM_eq h
    simp only [bindM, e1]
    cases k with
    | false => exact k1
    | true =>
      rw [if_pos rfl] at k1 ⊢
      obtain ⟨o, s2, e2, k2⟩ := bindM_eq k1
      simp only [bindM, e2]
      cases o with
      | nx e => exact whileM_more (n := n) k2 (Nat.le_of_succ_le_succ hl)
      | ct e => exact whileM_more (n := n) k2 (Nat.le_of_succ_le_succ hl)
      | bk e => exact k2
      | rt e => exact k2
theorem fWhile_eq {c : FT} {b : FS} {n : Nat} {env : DEnv} {st : Sto} {r : Out × Sto} (h : whileM c b n env st = some r) : fWhile c b env st = some r := by
  unfold fWhile
  have ex : ∃ r n, whileM c b n env st = some r := ⟨r, n, h⟩
  rw [dif_pos ex]
  obtain ⟨m, hm⟩ := ex.choose_spec
  have a := whileM_more hm (Nat.le_max_left m n)
  have b' := whileM_more h (Nat.le_max_right m n)
  rw [a] at b'
  exact b'
theorem fWhile_of {c : FT} {b : FS} {env : DEnv} {st : Sto} {r : Out × Sto} (h : fWhile c b env st = some r) : ∃ n, whileM c b n env st = some r := by
  unfold fWhile at h
  split at h
  · rename_i ex
    obtain ⟨m, hm⟩ := ex.choose_spec
    cases h
    exact ⟨m, hm⟩
  · cases h
section
variable {X : Cx} {pos : Pos}
theorem vs_for {tg iter : Expr} {body : List Stmt} {vs : List Nat} {fi : FI} {g : FG} {fb : FS} (hp : PassesOwn (model X.prog X.w) X.A X.env X.xe) (hc : X.calm = true) (hi : VI X tg iter fi) (hg : VG X tg vs g) (hb : VSs X body fb)
    (hs : ∀ x, foldedSetIterable iter X.env x = pure x := by intro _; rfl) : VS X (.For tg iter body [] pos) (fFor fi g fb) := PS.imp (ps_for hp hc hi hg hb hs) fun D σ H h => by
  obtain ⟨Hi, ms, st, env, o, st', h1, h2, h3, h4⟩ := h
  obtain ⟨it, s1, e1, k1⟩ := bindM_eq h3
  refine ⟨Hi, ms, st, env, it, s1, h1, h2, e1, fun Hi1 ms1 H1 ga q1 J sJ => ?_⟩
  refine ⟨fun i m σ' H' => m = it.1.length - i ∧ i ≤ it.1.length ∧ ∃ Hi' ms' st1 env1, Grow Hi1 ms1 H1 Hi' ms' H' ∧ Hold X.K Hi' ms' st1 H' ∧ RepE X.K Hi' ms' σ' env1 ∧ forM it.2 (fun d env => bindM (g (.im d) env) fb) (it.1.drop i) env1 st1 = some (o, st'),
    ⟨_, rfl, Nat.zero_le _, Hi1, ms1, s1, env, Grow.refl, q1, h2.mono ga, k1⟩, ?_⟩
  rintro i m σ' H' ⟨rfl, hle, Hi', ms', st1, env1, gb, q2, p2, k2⟩
  by_cases hlt : i < it.1.length
  · have hd : it.1.drop i = it.1[i] :: it.1.drop (i + 1) := List.drop_eq_getElem_cons hlt
    rw [hd] at k2
    have lv : Live it.2 st1 := forM_live k2
    rw [forM_cons lv] at k2
    obtain ⟨o1, s2, e2, k3⟩ := bindM_eq k2
    obtain ⟨env2, s3, e3, k4⟩ := bindM_eq e2
    obtain ⟨jg, jy⟩ := sJ.go Hi' ms' H' st1 gb q2 lv i it.1[i] (by simp [hlt])
    refine .inr ⟨jg, fun σ3 H3 => ∃ Hi3 ms3 st3 env3, Grow Hi1 ms1 H1 Hi3 ms3 H3 ∧ Hold X.K Hi3 ms3 st3 H3 ∧ RepE X.K Hi3 ms3 σ3 env3 ∧ forM it.2 (fun d env => bindM (g (.im d) env) fb) (it.1.drop (i + 1)) env3 st3 = some (o, st'),
      fun σ3 H3 n3 => ⟨it.1.length - (i + 1), by omega, rfl, hlt, n3⟩, fun v H2 y => ?_⟩
    obtain ⟨Hi2, gc, q3, r3⟩ := jy v H2 y
    have gd := gb.trans q2 gc
    refine ⟨Hi2, ms', st1, env1, _, env2, s3, q3, p2.mono gc, .im r3, e3, fun Hi4 ms4 H4 ge q4 σ4 p4 _ _ => ?_⟩
    have gf := gd.trans q3 ge
    refine ⟨Hi4, ms4, s3, env2, o1, s2, q4, p4, k4, fun Hi5 ms5 H5 gh q5 => ?_⟩
    have gi := gf.trans q4 gh
    cases o1 with
    | nx e => exact fun σ5 p5 => ⟨Hi5, ms5, s2, e, gi, q5, p5, k3⟩
    | ct e => exact fun σ5 p5 => ⟨Hi5, ms5, s2, e, gi, q5, p5, k3⟩
    | bk e =>
      obtain ⟨rfl, rfl⟩ := retM_eq k3
      exact fun σ5 p5 => h4 _ _ _ (ga.trans q1 gi) q5 σ5 p5
    | rt d =>
      obtain ⟨rfl, rfl⟩ := retM_eq k3
      exact fun v5 r5 => h4 _ _ _ (ga.trans q1 gi) q5 v5 r5
  · have e : i = it.1.length := by omega
    subst e
    rw [List.drop_length] at k2
    have lv : Live it.2 st1 := forM_live k2
    rw [forM_nil lv] at k2
    cases k2
    exact .inl ⟨sJ.stop Hi' ms' H' _ gb q2 lv, h4 _ _ _ (ga.trans q1 gb) q2 _ p2⟩
theorem vs_while {c : Expr} {body : List Stmt} {fc : FT} {fb : FS} (hp : PassesOwn (model X.prog X.w) X.A X.env X.xe) (hc : VT X c fc) (hb : VSs X body fb) : VS X (.While c body [] pos) (fWhile fc fb) := PS.imp (ps_while hp hc hb) fun D σ H h => by
  obtain ⟨Hi, ms, st, env, o, st', h1, h2, h3, h4⟩ := h
  obtain ⟨n, h3⟩ := fWhile_of h3
  refine ⟨fun m σ' H' => ∃ Hi' ms' st1 env1, Grow Hi ms H Hi' ms' H' ∧ Hold X.K Hi' ms' st1 H' ∧ RepE X.K Hi' ms' σ' env1 ∧ whileM fc fb m env1 st1 = some (o, st'), ⟨n, Hi, ms, st, env, Grow.refl, h1, h2, h3⟩, ?_⟩
  rintro m σ' H' ⟨Hi1, ms1, st1, env1, ga, q1, p1, k1⟩
  cases m with
  | zero => cases k1
  | succ m =>
    unfold whileM at k1
    obtain ⟨k, s2, e2, k2⟩ := bindM_eq k1
    refine ⟨Hi1, ms1, st1, env1, k, s2, q1, p1, e2, fun Hi2 ms2 H2 gb q2 => ?_⟩
    have gc := ga.trans q1 gb
    cases k with
    | true =>
      rw [if_pos rfl] at k2
      show if true = true then _ else _
      rw [if_pos rfl]
      obtain ⟨o1, s3, e3, k3⟩ := bindM_eq k2
      refine ⟨fun σ3 H3 => ∃ Hi' ms' st1 env1, Grow Hi ms H Hi' ms' H3 ∧ Hold X.K Hi' ms' st1 H3 ∧ RepE X.K Hi' ms' σ3 env1 ∧ whileM fc fb m env1 st1 = some (o, st'), fun σ3 H3 n3 => ⟨m, Nat.lt_succ_self _, n3⟩, ?_⟩
      refine ⟨Hi2, ms2, s2, env1, o1, s3, q2, p1.mono gb, e3, fun Hi5 ms5 H5 gh q5 => ?_⟩
      have gi := gc.trans q2 gh
      cases o1 with
      | nx e => exact fun σ5 p5 => ⟨Hi5, ms5, s3, e, gi, q5, p5, k3⟩
      | ct e => exact fun σ5 p5 => ⟨Hi5, ms5, s3, e, gi, q5, p5, k3⟩
      | bk e =>
        obtain ⟨rfl, rfl⟩ := retM_eq k3
        exact fun σ5 p5 => h4 _ _ _ gi q5 σ5 p5
      | rt d =>
        obtain ⟨rfl, rfl⟩ := retM_eq k3
        exact fun v5 r5 => h4 _ _ _ gi q5 v5 r5
    | false =>
      rw [if_neg Bool.false_ne_true] at k2
      show if false = true then _ else _
      rw [if_neg Bool.false_ne_true]
      obtain ⟨rfl, rfl⟩ := retM_eq k2
      exact h4 _ _ _ gc q2 _ (p1.mono gb)
end
end DL
/-! ### calls at the data level -/
namespace DL
open PySem PySem.Spec PyProof.Rows L2
/-- room, and no object is being shown -/
structure RoomG (k : Nat) (A : Around) : Prop where
  rm : Room k A
  gd : A.guards = some []
theorem RoomG.mono {j k : Nat} {A : Around} (r : RoomG k A) (h : j ≤ k) : RoomG j A := ⟨r.rm.mono h, r.gd⟩
theorem RoomG.deeper {k : Nat} {A : Around} (r : RoomG (k + 1) A) (env : Env) : RoomG k (A.deeper env) := ⟨r.rm.deeper env, r.gd⟩

/-- a function's promise: F says what it answers, and what it leaves of the cells -/
def spD (K : PySem.W.Frag) (F : List DV → M DV) (vs : List V) (H : Hp) (Q : VK) : Prop :=
  ∃ Hi ms st dvs dv st', Hold K Hi ms st H ∧ RepVs K Hi ms vs dvs ∧ F dvs st = some (dv, st') ∧ Dl K Hi ms H st' dv Q
structure FnG (P : Program) (w : World) (K : PySem.W.Frag) (mg : Str → Option Value) (base : Heap) (k : Nat) (f : Addr) (fd : FuncData) (ps : List Str) (F : List DV → M DV) : Prop where
  run : ∀ (A : Around) (outer : List Env) (s : Shared) (H : Hp) (args : Args) (us : List Value) (vs : List V) (Q : VK), RoomG k A → Env0 P w K mg base A outer s H → BindsTo s fd args (ps.zip us) → Vals vs us → vs.length = ps.length → spD K F vs H Q →
    codeAny (model P w) A (.call (.ref f) args) (CR CX0 outer P w H s Q E0) s
theorem FnG.mono {P : Program} {w : World} {K : PySem.W.Frag} {mg : Str → Option Value} {base : Heap} {j k : Nat} {f : Addr} {fd : FuncData} {ps : List Str} {F : List DV → M DV} (h : FnG P w K mg base j f fd ps F) (hl : j ≤ k) : FnG P w K mg base k f fd ps F :=
  ⟨fun A outer s H args us vs Q hr => h.run A outer s H args us vs Q (hr.mono hl)⟩

/-! ### a body's answer -/
def startD (n : Nat) (dvs : List DV) : DEnv := dvs.map some ++ List.replicate (n - dvs.length) none
def outD : Out → M PyData
  | .rt d => toD d
  | .nx _ => retM .none
  | _ => failM
/-- the answer is data; the cells that the call has made go -/
def callD (n : Nat) (b : FS) (dvs : List DV) : M DV := fun st => match bindM (b (startD n dvs)) outD st with
  | some (d, st') => some (.im d, st'.take st.length)
  | none => none
theorem callD_eq {n : Nat} {b : FS} {dvs : List DV} {st st' : Sto} {dv : DV} (h : callD n b dvs st = some (dv, st')) : ∃ o s1 d s2, b (startD n dvs) st = some (o, s1) ∧ outD o s1 = some (d, s2) ∧ dv = .im d ∧ st' = s2.take st.length := by
  unfold callD at h
  split at h
  · rename_i d s2 e
    obtain ⟨o, s1, e1, e2⟩ := bindM_eq e
    cases h
    exact ⟨o, s1, d, s2, e1, e2, rfl, rfl⟩
  · cases h
/-- the answer is a new list that the caller may write -/
def callM (n : Nat) (b : FS) (dvs : List DV) : M DV := fun st => match b (startD n dvs) st with
  | some (.rt (.mu i), s1) => if st.length ≤ i then (match s1[i]? with
    | some (true, xs) => some (.mu st.length, s1.take st.length ++ [(true, xs)])
    | _ => none) else none
  | _ => none
theorem callM_eq {n : Nat} {b : FS} {dvs : List DV} {st st' : Sto} {dv : DV} (h : callM n b dvs st = some (dv, st')) : ∃ i s1 xs, b (startD n dvs) st = some (.rt (.mu i), s1) ∧ st.length ≤ i ∧ s1[i]? = some (true, xs) ∧ dv = .mu st.length ∧ st' = s1.take st.length ++ [(true, xs)] := by
  unfold callM at h
  split at h
  · rename_i i s1 e
    split at h
    · rename_i hl
      split at h
      · rename_i xs e2
        cases h
        exact ⟨i, s1, xs, e, hl, e2, rfl, rfl⟩
      · cases h
    · cases h
  · cases h
section
variable {K : PySem.W.Frag} {Hi Hi' H H' : Hp} {ms ms' : List Addr} {st st' : Sto}
theorem Grow.cut (g : Grow Hi ms H Hi' ms' H') : Grow Hi ms H Hi' ms H' := ⟨g.same, ⟨[], by simp, fun _ h => nomatch h⟩, g.fr, g.no⟩
theorem repE_start {N : List Str} {vs : List V} {dvs : List DV} (r : RepVs K Hi ms vs dvs) : RepE K Hi ms (start N vs) (startD N.length dvs) := by
  have hl := r.length
  refine ⟨by simp [L2.start, startD, hl], fun i d e => ?_⟩
  have key : ∀ {vs : List V} {dvs : List DV}, RepVs K Hi ms vs dvs → ∀ {i : Nat} {d : DV} {r1 : L2.St} {r2 : DEnv}, (∀ (j : Nat) (d : DV), r2[j]? ≠ some (some d)) → (dvs.map some ++ r2)[i]? = some (some d) → ∃ v, (vs.map some ++ r1)[i]? = some (some v) ∧ RepV K Hi ms v d := by
    intro vs dvs r
    induction r with
    | nil => intro i d r1 r2 hn e; exact absurd e (hn _ _)
    | cons r _ ih =>
      intro i d r1 r2 hn e
      cases i with
      | zero => simp at e; subst e; exact ⟨_, rfl, r⟩
      | succ i => exact ih hn (by simpa using e)
  exact key r (fun j d e => by
    obtain ⟨h1, h2⟩ := List.getElem?_eq_some_iff.mp e
    simp at h2) e
/-- what a call leaves where it hands out a new list -/
theorem Hold.cutKeep (h : Hold K Hi ms' st' H) {r : List Addr} (er : ms' = ms ++ r) {i : Nat} {a : Addr} {xs : List PyData} (hi : ms.length ≤ i) (e1 : ms'[i]? = some a) (e2 : st'[i]? = some (true, xs)) : Hold K Hi (ms ++ [a]) (st'.take ms.length ++ [(true, xs)]) H := by
  subst er
  have c := h.cut ⟨r, rfl⟩
  have ha : a ∉ ms := fun hm => by
    obtain ⟨j, hj⟩ := List.mem_iff_getElem?.mp hm
    have hl : j < ms.length := (List.getElem?_eq_some_iff.mp hj).1
    have := nd_ix h.nd e1 (by rw [List.getElem?_append_left hl]; exact hj)
    omega
  have ct : (st'.take ms.length).length = ms.length := c.len.symm
  refine ⟨c.sub, by simp [← c.len], List.nodup_append.mpr ⟨c.nd, by simp, fun b hb d hd => by
    have : d = a := by simpa using hd
    subst this
    exact fun z => ha (z ▸ hb)⟩, fun j b ys f1 f2 => ?_, fun j b ys f1 f2 => ?_, c.sz⟩
  · by_cases hj : j < ms.length
    · rw [List.getElem?_append_left hj] at f1
      rw [List.getElem?_append_left (by rw [ct]; exact hj)] at f2
      exact c.wr j b ys f1 f2
    · have hj' : ms.length ≤ j := Nat.le_of_not_lt hj
      rw [List.getElem?_append_right hj'] at f1
      rw [List.getElem?_append_right (by rw [ct]; exact hj')] at f2
      have j0 : j - ms.length = 0 := by
        have := (List.getElem?_eq_some_iff.mp f1).1
        simp at this; omega
      rw [j0] at f1
      rw [ct, j0] at f2
      simp at f1 f2
      subst f1 f2
      exact h.wr i a xs e1 e2
  · by_cases hj : j < ms.length
    · rw [List.getElem?_append_left hj] at f1
      rw [List.getElem?_append_left (by rw [ct]; exact hj)] at f2
      exact c.fz j b ys f1 f2
    · have hj' : ms.length ≤ j := Nat.le_of_not_lt hj
      rw [List.getElem?_append_right hj'] at f1
      rw [List.getElem?_append_right (by rw [ct]; exact hj')] at f2
      have j0 : j - ms.length = 0 := by
        have := (List.getElem?_eq_some_iff.mp f1).1
        simp at this; omega
      rw [ct, j0] at f2
      simp at f2
end

/-! ### a def keeps its promise -/
section
variable {P : Program} {w : World} {K : PySem.W.Frag} {mg : Str → Option Value} {base : Heap}
/-- a call by a body whose end is the wish's -/
theorem run_body {x qual : Str} {st : Stmt} {f : Addr} {fd : FuncData} {N ps : List Str} {k : Nat} {b : FS} (F : Fun K x qual st f fd) (S : FnScope N ps (defScope st))
    (hbody : ∀ (cdv : Value) (A : Around) (outer : List Env) (s : Shared) (H : Hp), RoomG k (A.deeper (envOfC qual (defScope st) s.heap.objs.size f cdv)) →
      VSs (cxOf CX0 P w K mg base N qual (defScope st) f cdv A outer s H E0).nox (defBody st) b)
    {A : Around} {outer : List Env} {s : Shared} {H : Hp} {args : Args} {us : List Value} {vs : List V} {Q : VK} (hr : RoomG (k + 1) A) (e0 : Env0 P w K mg base A outer s H) (hb : BindsTo s fd args (ps.zip us)) (r : Vals vs us) (hl : vs.length = ps.length)
    (hq : tS K b { nx := fun _ H' => Q .non H', rt := Q } (start N vs) H) : codeAny (model P w) A (.call (.ref f) args) (CR CX0 outer P w H s Q E0) s := by
  obtain ⟨oc, od, kV, doc, pm, an, cdv, ct, osl, rfl, lk, hcd⟩ := F.ex
  have KX : K.In s.heap := e0.mod.kin.keeps fun b o e => (e0.bs b o e).1
  have lim : s.heap.NoLimit := e0.mod.nolimit.keeps fun b o e => (e0.bs b o e).1
  have hkind : ∀ y ∈ ps.zip us, (defScope st).names.lookup y.1 = some .local ∨ ((defScope st).names.lookup y.1 = some .cell ∧ ((cellsFrom (s.heap.objs.size + 1) (defScope st).names []).lookup y.1).isSome = true) := fun ⟨n, v⟩ hy => by
    rcases S.par n (List.of_mem_zip hy).1 with q | q
    · exact .inl q
    · exact .inr ⟨q, PySem.W.cellsFrom_some _ _ _ (.inl q)⟩
  refine codeAny_call_function hr.rm.depth (KX _ _ lk) rfl S.co S.gen rfl (PySem.W.codeRec_of KX hcd) (hb _ _ _ _ ?_)
  refine wpAny_newFunctionEnv_cells S.kind hkind fun env he s1 x => ?_
  subst he
  refine ⟨lim.keeps x.toInCall.keep, codeAny_func ?_⟩
  have I : Inv (cxOf CX0 P w K mg base N qual (defScope st) f cdv A outer s H E0) [] (start N vs) H s1 := inv_start S hr.rm.hd e0 hl r x
  refine wpAny_mono ((hbody cdv A outer s H (hr.deeper _)).nox.run [] s1 (start N vs) H _ I hq) (fun fl s' hs => ?_) fun e s' hs => hs
  have fin : ∀ {σ' : L2.St} {H' : Hp} {v : V} {u : Value}, Inv (cxOf CX0 P w K mg base N qual (defScope st) f cdv A outer s H E0) [] σ' H' s' → RelV v u → Q v H' → CE outer P w H s Q u s' :=
    fun {σ' H' v u} J rv q => ⟨v, H', J.os, J.bare, J.base, J.hok, rv, q⟩
  cases fl with
  | ret u =>
    obtain ⟨v, σ', H', J, rv, q⟩ := hs
    exact fin J rv q
  | next =>
    obtain ⟨σ', H', J, q⟩ := hs
    exact fin (v := V.non) (u := Value.none) J rfl q
  | brk =>
    obtain ⟨_, _, _, q⟩ := hs
    exact False.elim q
  | cont =>
    obtain ⟨_, _, _, q⟩ := hs
    exact False.elim q
theorem okD {x qual : Str} {st : Stmt} {f : Addr} {fd : FuncData} {N ps : List Str} {k : Nat} {b : FS} (F : Fun K x qual st f fd) (S : FnScope N ps (defScope st))
    (hbody : ∀ (cdv : Value) (A : Around) (outer : List Env) (s : Shared) (H : Hp), RoomG k (A.deeper (envOfC qual (defScope st) s.heap.objs.size f cdv)) →
      VSs (cxOf CX0 P w K mg base N qual (defScope st) f cdv A outer s H E0).nox (defBody st) b) : FnG P w K mg base (k + 1) f fd ps (callD N.length b) := by
  refine ⟨fun A outer s H args us vs Q hr e0 hb r hl hsp => run_body F S hbody hr e0 hb r hl ?_⟩
  obtain ⟨Hi, ms, st0, dvs, dv, st', h1, h2, h3, h4⟩ := hsp
  obtain ⟨o, s1, d, s2, e1, e2, rfl, rfl⟩ := callD_eq h3
  refine ⟨Hi, ms, st0, _, o, s1, h1, repE_start h2, e1, fun Hi1 ms1 H1 ga q1 => ?_⟩
  cases o with
  | rt dv =>
    intro v rv
    obtain ⟨Hi2, gb, q2, r2⟩ := q1.toD rv e2
    have c := q2.cut (ga.trans q1 gb).p
    rw [h1.len] at c
    exact h4 Hi2 ms H1 (ga.trans q1 gb).cut c v (.im r2)
  | nx env =>
    intro σ' _
    obtain ⟨rfl, rfl⟩ := retM_eq e2
    have c := q1.cut ga.p
    rw [h1.len] at c
    exact h4 Hi1 ms H1 ga.cut c _ (.im .non)
  | bk env => cases e2
  | ct env => cases e2
theorem okM {x qual : Str} {st : Stmt} {f : Addr} {fd : FuncData} {N ps : List Str} {k : Nat} {b : FS} (F : Fun K x qual st f fd) (S : FnScope N ps (defScope st))
    (hbody : ∀ (cdv : Value) (A : Around) (outer : List Env) (s : Shared) (H : Hp), RoomG k (A.deeper (envOfC qual (defScope st) s.heap.objs.size f cdv)) →
      VSs (cxOf CX0 P w K mg base N qual (defScope st) f cdv A outer s H E0).nox (defBody st) b) : FnG P w K mg base (k + 1) f fd ps (callM N.length b) := by
  refine ⟨fun A outer s H args us vs Q hr e0 hb r hl hsp => run_body F S hbody hr e0 hb r hl ?_⟩
  obtain ⟨Hi, ms, st0, dvs, dv, st', h1, h2, h3, h4⟩ := hsp
  obtain ⟨i, s1, xs, e1, hi, e2, rfl, rfl⟩ := callM_eq h3
  refine ⟨Hi, ms, st0, _, _, s1, h1, repE_start h2, e1, fun Hi1 ms1 H1 ga q1 v rv => ?_⟩
  cases rv with
  | @mu i a e =>
    obtain ⟨rr, er, hn⟩ := ga.pre
    have c := q1.cutKeep er (by rw [h1.len]; exact hi) e e2
    rw [h1.len] at c
    have hr : a ∈ rr := by
      rw [er] at e
      rw [List.getElem?_append_right (by rw [h1.len]; exact hi)] at e
      exact List.mem_of_getElem? e
    refine h4 Hi1 (ms ++ [a]) H1 ⟨ga.same, ⟨[a], rfl, fun p hp => by rw [List.mem_singleton.mp hp]; exact hn a hr⟩, ga.fr, ga.no⟩ c _ (.mu ?_)
    rw [← h1.len]; simp
end

/-! ### the calls -/
def fCall (n : Nat) (F : List DV → M DV) (fa : FA) : FE := fun env => bindM (fa env) fun as => if as.length = n then F as else failM
/-- with keywords: g puts the values in the parameters' order -/
def fCallK (n : Nat) (F : List DV → M DV) (g : List DV → List DV → List DV) (fa fk : FA) : FE := fun env => bindM (fa env) fun as => bindM (fk env) fun bs => if (g as bs).length = n then F (g as bs) else failM
abbrev VK' (X : Cx) (kws : List Keyword) (f : FA) : Prop := PK X kws (tA X.K f)
theorem PK.imp {X : Cx} {es : List Keyword} {t t' : TA} (h : PK X es t) (w : ∀ σ H Q, t' σ H Q → t σ H Q) : PK X es t' := ⟨fun pos pins s σ H Q I q => h.run pos pins s σ H Q I (w σ H Q q)⟩
/-- how keywords bind, by a word that does not look at the values -/
structure KB (K : PySem.W.Frag) (fd : FuncData) (ps ks : List Str) (g : {α : Type} → List α → List α → List α) : Prop where
  to : ∀ (s : Shared) (us ws : List Value), K.In s.heap → (g us ws).length = ps.length → BindsTo s fd ⟨us, ks.zip ws⟩ (ps.zip (g us ws))
  rel : ∀ {vs : List V} {us : List Value} {zs : List V} {ws : List Value}, Vals vs us → Vals zs ws → Vals (g vs zs) (g us ws)
  rep : ∀ {Hi : Hp} {ms : List Addr} {vs zs : List V} {as bs : List DV}, RepVs K Hi ms vs as → RepVs K Hi ms zs bs → RepVs K Hi ms (g vs zs) (g as bs)
section
variable {X : Cx} {k : Nat} {f : Addr} {fd : FuncData} {ps ks : List Str} {x : Str} {p pos kpos : Pos} {e : Expr} {es : List Expr} {kws : List Keyword} {F : List DV → M DV} {fa fk : FA} {fe : FE} {nm : Option Str} {n : Nat}
theorem run_fnG {pins : List (Addr × Obj)} {σ : L2.St} {H : Hp} {s : Shared} {Q : VK} {args : Args} {us : List Value} {vs : List V} (G : FnG X.prog X.w X.K X.mg X.base k f fd ps F) (hr : RoomG k X.A)
    (hb : BindsTo s fd args (ps.zip us)) (I : Inv X pins σ H s) (r : Vals vs us) (hl : vs.length = ps.length) (h : spD X.K F vs H Q) : codeAny (model X.prog X.w) X.A (.call (.ref f) args) (fun r s' => match r with
      | .ok (.ret u) => EP X pins σ Q u s'
      | .ok _ => False
      | .error e => X.xe e s') s := by
  refine codeAny_mono (G.run X.A X.stack s H args us vs Q hr I.env0 hb r hl h) fun r s' hq => ?_
  cases r with
  | error e => exact False.elim hq
  | ok fl =>
    cases fl with
    | ret u => exact I.after hq
    | next => exact False.elim hq
    | brk => exact False.elim hq
    | cont => exact False.elim hq
theorem ve_call (G : FnG X.prog X.w X.K X.mg X.base k f fd ps F) (hr : RoomG k X.A) (hm : X.mg x = some (.ref f)) (hk : PySem.W.keepIn X.K (.ref f) = true) (hb : Binds X.K fd ps []) (ha : VA X (e :: es) fa) (hn : ps.length = n := by rfl) (hg : Gl X x := by rfl)
    (hdb : (x == ("__debug__" : Str)) = false := by decide) (he : starEach (e :: es) X.env = (false, eval e X.env) :: starEach es X.env := by rfl) (hpl : (backTo pos (starEach es X.env)).any (·.1) = false := by rfl) :
    VE X (.Call (.Name x p) (e :: es) [] pos) (fCall n F fa) := by
  subst hn
  refine ⟨fun pins s σ H Q I h => ?_⟩
  obtain ⟨Hi, ms, st, env, dv, st', h1, h2, h3, h4⟩ := h
  obtain ⟨as, s1, e1, k1⟩ := bindM_eq h3
  split at k1
  · rename_i hl
    refine wpAny_Call_Name_kw (ld_glob I hg hm ?_ hdb)
    refine PySem.W.callWith_K (h₀ := X.base) I.ok.mod.kin hk (thn (ha.run pos pins s σ H (fun vs H1 => vs.length = ps.length ∧ spD X.K F vs H1 Q) I ⟨Hi, ms, st, env, as, s1, h1, h2, e1, fun Hi1 ms1 H1 ga q1 vs r => ?_⟩) fun us s1 ⟨vs, H1, I1, r, hl', q⟩ => ⟨I1.kIn, ?_⟩) he hpl
    · exact ⟨by rw [r.length]; exact hl, Hi1, ms1, s1, as, dv, st', q1, r, k1, h4.on ga q1⟩
    · have hb' := hb s1 us I1.kIn (by rw [List.append_nil, ← r.length]; exact hl')
      rw [List.append_nil] at hb'
      refine wpAny_call (codeAny_mono (run_fnG G hr hb' I1 r hl' q) fun r s' hq => ?_)
      cases r with
      | error e => exact hq
      | ok fl => cases fl <;> exact hq
  · cases k1
theorem vk_nil : VK' X [] fNil := PK.imp pk_nil fun σ H Q h => by
  obtain ⟨Hi, ms, st, env, ds, st', h1, h2, h3, h4⟩ := h
  obtain ⟨rfl, rfl⟩ := retM_eq h3
  exact Af.here h4 h1 [] .nil
theorem vk_cons (ha : VE X e fe) (hr : VK' X kws fk) : VK' X (⟨nm, e, kpos⟩ :: kws) (fCons fe fk) := PK.imp (pk_cons ha hr) fun σ H Q h => by
  obtain ⟨Hi, ms, st, env, ds, st', h1, h2, h3, h4⟩ := h
  obtain ⟨a, s1, e1, k1⟩ := bindM_eq h3
  obtain ⟨as, s2, e2, k2⟩ := bindM_eq k1
  obtain ⟨rfl, rfl⟩ := retM_eq k2
  refine ⟨Hi, ms, st, env, a, s1, h1, h2, e1, fun Hi1 ms1 H1 ga q1 v1 r1 => ?_⟩
  refine ⟨Hi1, ms1, s1, env, as, _, q1, h2.mono ga, e2, fun Hi2 ms2 H2 gb q2 vs2 r2 => ?_⟩
  exact h4 _ _ _ (ga.trans q1 gb) q2 _ (.cons (r1.mono gb) r2)
variable {g : {α : Type} → List α → List α → List α}
theorem ve_callK (G : FnG X.prog X.w X.K X.mg X.base k f fd ps F) (hr : RoomG k X.A) (hm : X.mg x = some (.ref f)) (hk : PySem.W.keepIn X.K (.ref f) = true) (hb : KB X.K fd ps ks g) (ha : VA X (e :: es) fa) (hkw : VK' X kws fk) (hn : ps.length = n := by rfl) (hg : Gl X x := by rfl)
    (hall : (backToKw pos (keywordEach kws X.env)).all (·.1.isSome) = true := by rfl) (hks : (backToKw pos (keywordEach kws X.env)).filterMap (·.1) = ks := by rfl)
    (hdb : (x == ("__debug__" : Str)) = false := by decide) (he : starEach (e :: es) X.env = (false, eval e X.env) :: starEach es X.env := by rfl)
    (hpl : ((backTo pos (starEach (e :: es) X.env)).any (·.1) || (backToKw pos (keywordEach kws X.env)).any (·.1.isNone)) = false := by rfl) :
    VE X (.Call (.Name x p) (e :: es) kws pos) (fCallK n F g fa fk) := by
  subst hn
  refine ⟨fun pins s σ H Q I h => ?_⟩
  obtain ⟨Hi, ms, st, env, dv, st', h1, h2, h3, h4⟩ := h
  obtain ⟨as, s1, e1, k1⟩ := bindM_eq h3
  obtain ⟨bs, s2, e2, k2⟩ := bindM_eq k1
  split at k2
  · rename_i hl
    refine wpAny_Call_Name_kw (ld_glob I hg hm ?_ hdb)
    refine PySem.W.callWith_KW (h₀ := X.base) I.ok.mod.kin hk hall (thn (ha.run pos pins s σ H (fun vs H1 => tA X.K fk σ H1 fun zs H2 => (g vs zs).length = ps.length ∧ spD X.K F (g vs zs) H2 Q) I ⟨Hi, ms, st, env, as, s1, h1, h2, e1, fun Hi1 ms1 H1 ga q1 vs r => ?_⟩) fun us s1 ⟨vs, H1, I1, r, q⟩ => ?_) hpl he
    · refine ⟨Hi1, ms1, s1, env, bs, s2, q1, h2.mono ga, e2, fun Hi2 ms2 H2 gb q2 zs r2 => ?_⟩
      have rr := hb.rep (r.mono gb) r2
      exact ⟨by rw [rr.length]; exact hl, Hi2, ms2, s2, _, dv, st', q2, rr, k2, h4.on (ga.trans q1 gb) q2⟩
    · refine thn (hkw.run pos pins s1 σ H1 _ I1 q) fun ws s2 ⟨zs, H2, I2, rz, hl', q2⟩ => ⟨I2.kIn, ?_⟩
      rw [hks]
      have r2 := hb.rel r rz
      refine wpAny_call (codeAny_mono (run_fnG G hr (hb.to s2 us ws I2.kIn (by rw [← r2.length]; exact hl')) I2 r2 hl' q2) fun r s' hq => ?_)
      cases r with
      | error e => exact hq
      | ok fl => cases fl <;> exact hq
  · cases k2
theorem ve_callK0 (G : FnG X.prog X.w X.K X.mg X.base k f fd ps F) (hr : RoomG k X.A) (hm : X.mg x = some (.ref f)) (hk : PySem.W.keepIn X.K (.ref f) = true) (hb : KB X.K fd ps ks g) (hkw : VK' X kws fk) (hn : ps.length = n := by rfl) (hg : Gl X x := by rfl)
    (hall : (backToKw pos (keywordEach kws X.env)).all (·.1.isSome) = true := by rfl) (hks : (backToKw pos (keywordEach kws X.env)).filterMap (·.1) = ks := by rfl)
    (hdb : (x == ("__debug__" : Str)) = false := by decide)
    (hpl : ((backTo pos (starEach [] X.env)).any (·.1) || (backToKw pos (keywordEach kws X.env)).any (·.1.isNone)) = false := by rfl) :
    VE X (.Call (.Name x p) [] kws pos) (fCallK n F g fNil fk) := by
  subst hn
  refine ⟨fun pins s σ H Q I h => ?_⟩
  obtain ⟨Hi, ms, st, env, dv, st', h1, h2, h3, h4⟩ := h
  obtain ⟨as, s1, e1, k1⟩ := bindM_eq h3
  obtain ⟨rfl, rfl⟩ := retM_eq e1
  obtain ⟨bs, s2, e2, k2⟩ := bindM_eq k1
  split at k2
  · rename_i hl
    refine wpAny_Call_Name_kw (ld_glob I hg hm ?_ hdb)
    refine PySem.W.callWith_KW0 (h₀ := X.base) I.ok.mod.kin hk hall (thn (hkw.run pos pins s σ H (fun zs H2 => (g [] zs).length = ps.length ∧ spD X.K F (g [] zs) H2 Q) I ⟨Hi, ms, _, env, bs, s2, h1, h2, e2, fun Hi2 ms2 H2 gb q2 zs r2 => ?_⟩) fun ws s2 ⟨zs, H2, I2, rz, hl', q2⟩ => ⟨I2.kIn, ?_⟩) hpl
    · have rr := hb.rep (.nil : RepVs X.K Hi2 ms2 [] []) r2
      exact ⟨by rw [rr.length]; exact hl, Hi2, ms2, s2, _, dv, st', q2, rr, k2, h4.on gb q2⟩
    · rw [hks]
      have r2 := hb.rel (.nil : Vals [] []) rz
      refine wpAny_call (codeAny_mono (run_fnG G hr (hb.to s2 [] ws I2.kIn (by rw [← r2.length]; exact hl')) I2 r2 hl' q2) fun r s' hq => ?_)
      cases r with
      | error e => exact hq
      | ok fl => cases fl <;> exact hq
  · cases k2
end
end DL
/-! ### list comprehensions at the data level -/
namespace DL
open PySem PySem.Spec PyProof.Rows L2
abbrev VTs (X : Cx) (ifs : List Expr) (f : FT) : Prop := PTs X ifs (tT X.K f)
theorem PTs.imp {X : Cx} {es : List Expr} {t t' : TT} (h : PTs X es t) (w : ∀ σ H Q, t' σ H Q → t σ H Q) : PTs X es t' := ⟨fun pins s σ H Q I q => h.run pins s σ H Q I (w σ H Q q)⟩
def fYes : FT := fun _ => retM true
theorem vts_nil {X : Cx} : VTs X [] fYes := PTs.imp pts_nil fun σ H Q h => by
  obtain ⟨Hi, ms, st, env, b, st', h1, h2, h3, h4⟩ := h
  obtain ⟨rfl, rfl⟩ := retM_eq h3
  exact Af.here h4 h1
theorem vts_one {X : Cx} {c : Expr} {f : FT} (h : VT X c f) : VTs X [c] f := pts_one h
def wipeD (env : DEnv) : List Nat → DEnv
  | [] => env
  | v :: vs => (wipeD env vs).set v none
open Classical in
noncomputable def lcM (dep : Dep) (body : PyData → M (Option DV)) : List PyData → M (List PyData)
  | [] => fun st => if Live dep st then some ([], st) else none
  | d :: ds => fun st => if Live dep st then bindM (body d) (fun r => match r with
    | none => lcM dep body ds
    | some v => bindM (toD v) fun x => bindM (lcM dep body ds) fun xs => retM (x :: xs)) st else none
theorem lcM_nil {dep : Dep} {body : PyData → M (Option DV)} {st : Sto} (h : Live dep st) : lcM dep body [] st = some ([], st) := by
  simp only [lcM, if_pos h]
theorem lcM_cons {dep : Dep} {body : PyData → M (Option DV)} {st : Sto} {d : PyData} {ds : List PyData} (h : Live dep st) : lcM dep body (d :: ds) st = bindM (body d) (fun r => match r with
    | none => lcM dep body ds
    | some v => bindM (toD v) fun x => bindM (lcM dep body ds) fun xs => retM (x :: xs)) st := by
  simp only [lcM, if_pos h]
theorem lcM_live {dep : Dep} {body : PyData → M (Option DV)} {l : List PyData} {st : Sto} {r : List PyData × Sto} (h : lcM dep body l st = some r) : Live dep st := by
  by_cases z : Live dep st
  · exact z
  · cases l <;> simp only [lcM, if_neg z, reduceCtorEq] at h
def lcBody (g : FG) (ft : FT) (fe : FE) (env : DEnv) (d : PyData) : M (Option DV) := bindM (g (.im d) env) fun e => bindM (ft e) fun b => if b = true then bindM (fe e) fun v => retM (some v) else retM none
noncomputable def fLcW (mk : List PyData → M DV) (fi : FI) (g : FG) (ft : FT) (fe : FE) (vs : List Nat) : FE := fun env => bindM (fi env) fun it => bindM (lcM it.2 (lcBody g ft fe (wipeD env vs)) it.1) mk
/-- a comprehension whose list is never written -/
noncomputable abbrev fLc := fLcW mkL
/-- .. whose list may be written -/
noncomputable abbrev fLcM := fLcW mkM
section
variable {K : PySem.W.Frag} {Hi Hi' H H' : Hp} {ms ms' : List Addr} {st st' : Sto} {σ : L2.St} {env : DEnv}
theorem wipeD_length : ∀ vs : List Nat, (wipeD env vs).length = env.length
  | [] => rfl
  | v :: vs => by unfold wipeD; rw [List.length_set, wipeD_length vs]
theorem RepE.wipe (h : RepE K Hi ms σ env) : ∀ vs : List Nat, RepE K Hi ms (L2.wipe σ vs) (wipeD env vs)
  | [] => h
  | v :: vs => by
    have ih := RepE.wipe h vs
    refine ⟨by rw [wipe_length, wipeD_length]; exact h.len, fun i d e => ?_⟩
    unfold wipeD at e
    unfold L2.wipe
    by_cases hi : v = i
    · subst hi
      by_cases hl : v < (wipeD env vs).length
      · rw [List.getElem?_set_self hl] at e; cases e
      · rw [List.getElem?_eq_none (by simpa using hl)] at e; cases e
    · rw [List.getElem?_set_ne hi] at e ⊢
      exact ih.at_ i d e
theorem wipe_at (σ : L2.St) : ∀ (vs : List Nat) (i : Nat), (L2.wipe σ vs)[i]? = if i ∈ vs then (if i < σ.length then some none else none) else σ[i]?
  | [], i => by simp [L2.wipe]
  | v :: vs, i => by
    unfold L2.wipe
    by_cases hi : v = i
    · subst hi
      rw [if_pos (by simp)]
      by_cases hl : v < σ.length
      · rw [if_pos hl, List.getElem?_set_self (by rw [wipe_length]; exact hl)]
      · rw [if_neg hl, List.getElem?_eq_none (by rw [List.length_set, wipe_length]; exact Nat.le_of_not_lt hl)]
    · rw [List.getElem?_set_ne hi, wipe_at σ vs i]
      have : (i ∈ v :: vs) ↔ i ∈ vs := by simp [Ne.symm hi]
      simp only [this]
theorem wipe_same {σ σ2 : L2.St} {vs : List Nat} (h : ∀ j, j ∉ vs → σ2[j]? = (L2.wipe σ vs)[j]?) (hl : σ2.length = (L2.wipe σ vs).length) : L2.wipe σ2 vs = L2.wipe σ vs := by
  apply List.ext_getElem?
  intro i
  rw [wipe_at]
  by_cases hi : i ∈ vs
  · rw [if_pos hi, wipe_at, if_pos hi, hl, wipe_length]
  · rw [if_neg hi, h i hi]
/-- the list that a comprehension fills stands apart -/
structure Own (Hi : Hp) (ms : List Addr) (H : Hp) (D : Addr) (acc : List V) : Prop where
  at_ : H D = some (.lst acc)
  no : Hi D = none
  out : D ∉ ms
theorem Own.grow {D : Addr} {acc : List V} (o : Own Hi ms H D acc) (g : Grow Hi ms H Hi' ms' H') : Own Hi' ms' H' D acc := by
  obtain ⟨r, rfl, hr⟩ := g.pre
  refine ⟨g.fr D _ o.out o.at_, g.no D _ o.out o.at_ o.no, fun hm => ?_⟩
  rcases List.mem_append.mp hm with hm | hm
  · exact o.out hm
  · have := hr D hm
    rw [o.at_] at this; cases this
theorem Hold.own {D : Addr} {vs : List V} (h : Hold K Hi ms st H) (hn : Hi D = none) (ho : D ∉ ms) (hz : vs.length ≤ sizeLine) : Hold K Hi ms st (upd H D (.lst vs)) :=
  ⟨same_upd2 h.sub hn, h.len, h.nd, fun i a xs e1 e2 => by
    obtain ⟨n, us, q, r⟩ := h.wr i a xs e1 e2
    exact ⟨n, us, by rw [upd_ne (fun z => ho (by rw [← z]; exact List.mem_of_getElem? e1))]; exact q, r⟩, h.fz, sz_lst h hz⟩
theorem Hold.adopt {D : Addr} {acc : List V} {ds : List PyData} (h : Hold K Hi ms st H) (o : Own Hi ms H D acc) (r : RpA K Hi acc ds) :
    Hold K (upd Hi D (.lst acc)) ms st H ∧ Same Hi (upd Hi D (.lst acc)) ∧ Rp K (upd Hi D (.lst acc)) (.ref D) (.list ds) := by
  have s1 : Same Hi (upd Hi D (.lst acc)) := same_upd o.no
  refine ⟨⟨fun b u e => ?_, h.len, h.nd, fun i a xs e1 e2 => ?_, fun i a xs e1 e2 => (h.fz i a xs e1 e2).mono s1, h.sz⟩, s1, .lst upd_same (r.mono s1)⟩
  · by_cases hb : b = D
    · subst hb; rw [upd_same] at e; cases e; exact o.at_
    · rw [upd_ne hb] at e; exact h.sub _ _ e
  · obtain ⟨n, us, q, rr⟩ := h.wr i a xs e1 e2
    have ne : a ≠ D := fun z => o.out (by rw [← z]; exact List.mem_of_getElem? e1)
    exact ⟨by rw [upd_ne ne]; exact n, us, q, rr.mono s1⟩
theorem Hold.adoptM {D : Addr} {acc : List V} {ds : List PyData} (h : Hold K Hi ms st H) (o : Own Hi ms H D acc) (r : RpA K Hi acc ds) :
    Hold K Hi (ms ++ [D]) (st ++ [(true, ds)]) H ∧ RepV K Hi (ms ++ [D]) (.ref D) (.mu st.length) := by
  refine ⟨⟨h.sub, by simp [h.len], List.nodup_append.mpr ⟨h.nd, by simp, fun a ha b hb => by
      have : b = D := by simpa using hb
      subst this
      exact fun z => o.out (z ▸ ha)⟩, fun i a xs e1 e2 => ?_, fun i a xs e1 e2 => ?_, h.sz⟩, .mu (by rw [← h.len]; simp)⟩
  · by_cases hi : i < ms.length
    · rw [List.getElem?_append_left hi] at e1
      rw [List.getElem?_append_left (by rw [← h.len]; exact hi)] at e2
      exact h.wr i a xs e1 e2
    · have hi' : ms.length ≤ i := Nat.le_of_not_lt hi
      rw [List.getElem?_append_right hi'] at e1
      rw [List.getElem?_append_right (by rw [← h.len]; exact hi')] at e2
      have i0 : i - ms.length = 0 := by
        have := (List.getElem?_eq_some_iff.mp e1).1
        simp at this; omega
      rw [i0] at e1
      rw [← h.len, i0] at e2
      simp at e1 e2
      subst e1 e2
      exact ⟨o.no, acc, o.at_, r⟩
  · by_cases hi : i < ms.length
    · rw [List.getElem?_append_left hi] at e1
      rw [List.getElem?_append_left (by rw [← h.len]; exact hi)] at e2
      exact h.fz i a xs e1 e2
    · have hi' : ms.length ≤ i := Nat.le_of_not_lt hi
      rw [List.getElem?_append_right hi'] at e1
      rw [List.getElem?_append_right (by rw [← h.len]; exact hi')] at e2
      have i0 : i - ms.length = 0 := by
        have := (List.getElem?_eq_some_iff.mp e1).1
        simp at this; omega
      rw [← h.len, i0] at e2
      simp at e2
theorem grow_ne {D : Addr} (g : Grow Hi ms H Hi' ms' H') (h0 : H D = none) {o : HO} : Grow Hi ms H Hi' ms' (upd H' D o) :=
  ⟨g.same, g.pre, fun a u ha e => by rw [upd_ne (ne_of_none e h0)]; exact g.fr a u ha e, g.no⟩
theorem grow_adopt {D : Addr} (g : Grow Hi ms H Hi' ms' H') (h0 : H D = none) (hn : Hi' D = none) {o : HO} : Grow Hi ms H (upd Hi' D o) ms' H' :=
  ⟨g.same.trans (same_upd hn), g.pre, g.fr, fun a u ha e n => by rw [upd_ne (ne_of_none e h0)]; exact g.no a u ha e n⟩
theorem grow_adoptM {D : Addr} (g : Grow Hi ms H Hi' ms' H') (h0 : H D = none) : Grow Hi ms H Hi' (ms' ++ [D]) H' := by
  obtain ⟨r, rfl, hr⟩ := g.pre
  refine ⟨g.same, ⟨r ++ [D], by simp, fun p hp => ?_⟩, g.fr, g.no⟩
  rcases List.mem_append.mp hp with hp | hp
  · exact hr p hp
  · rw [List.mem_singleton.mp hp]; exact h0
/-- how the list is taken over at the end -/
def MkOk (mk : List PyData → M DV) : Prop := ∀ (K : PySem.W.Frag) (ds : List PyData) (st st' : Sto) (dv : DV), mk ds st = some (dv, st') → ds.length ≤ 1000 ∧
  ∀ (Hi0 : Hp) (ms0 : List Addr) (H0 Hi : Hp) (ms : List Addr) (H : Hp) (D : Addr) (acc : List V), Hold K Hi ms st H → Own Hi ms H D acc → RpA K Hi acc ds → Grow Hi0 ms0 H0 Hi ms H → H0 D = none →
    ∃ Hi' ms', Hold K Hi' ms' st' H ∧ Grow Hi0 ms0 H0 Hi' ms' H ∧ RepV K Hi' ms' (.ref D) dv
theorem mkL_ok : MkOk mkL := fun K ds st st' dv e => by
  unfold mkL at e
  split at e
  · rename_i hz
    obtain ⟨rfl, rfl⟩ := retM_eq e
    refine ⟨hz, fun Hi0 ms0 H0 Hi ms H D acc h o r g h0 => ?_⟩
    obtain ⟨q, _, rr⟩ := h.adopt o r
    exact ⟨_, _, q, grow_adopt g h0 o.no, .im rr⟩
  · cases e
theorem mkM_ok : MkOk mkM := fun K ds st st' dv e => by
  unfold mkM at e
  split at e
  · rename_i hz
    unfold newMu at e
    cases e
    refine ⟨hz, fun Hi0 ms0 H0 Hi ms H D acc h o r g h0 => ?_⟩
    obtain ⟨q, rr⟩ := h.adoptM o r
    exact ⟨_, _, q, grow_adoptM g h0, rr⟩
  · cases e
end
section
variable {X : Cx} {fi : FI} {g : FG} {ft : FT} {fe : FE} {vs vg : List Nat} {mk : List PyData → M DV}
theorem tE_lc (hm : MkOk mk) (hsub : ∀ j ∈ vg, j ∈ vs) {σ : L2.St} {H : Hp} {Q : VK} (h : tE X.K (fLcW mk fi g ft fe vs) σ H Q) : tLc (tI X.K fi) (tG X.K vg g) (tT X.K ft) (tE X.K fe) vs σ H Q := by
  obtain ⟨Hi, ms, st, env, dv, st', h1, h2, h3, h4⟩ := h
  obtain ⟨it, s1, e1, k1⟩ := bindM_eq h3
  obtain ⟨xs, s2, e2, k2⟩ := bindM_eq k1
  obtain ⟨hz, hfin⟩ := hm X.K xs s2 st' dv k2
  refine ⟨Hi, ms, st, env, it, s1, h1, h2, e1, fun Hi1 ms1 H1 ga q1 J sJ D hD => ?_⟩
  have p1 : RepE X.K Hi1 ms1 (L2.wipe σ vs) (wipeD env vs) := (h2.mono ga).wipe vs
  have hDi : Hi1 D = none := Same.none_of q1.sub hD
  have sl : (1000 : Nat) < sizeLine := by rw [sizeLine_eq]; decide
  refine ⟨fun i m H' => m = it.1.length - i ∧ i ≤ it.1.length ∧ ∃ Hi' ms' st1 acc ad rest, Grow Hi1 ms1 H1 Hi' ms' H' ∧ Hold X.K Hi' ms' st1 H' ∧ Own Hi' ms' H' D acc ∧ RpA X.K Hi' acc ad ∧
      lcM it.2 (lcBody g ft fe (wipeD env vs)) (it.1.drop i) st1 = some (rest, s2) ∧ ad ++ rest = xs,
    ⟨_, rfl, Nat.zero_le _, Hi1, ms1, s1, [], [], xs, grow_tr hD, q1.own hDi (q1.fresh_ms hD) (Nat.zero_le _), ⟨upd_same, hDi, q1.fresh_ms hD⟩, .nil, e2, rfl⟩, ?_⟩
  rintro i m H' ⟨rfl, hle, Hi', ms', st1, acc, ad, rest, gb, q2, ow, ra, k3, hx⟩
  have lv : Live it.2 st1 := lcM_live k3
  by_cases hlt : i < it.1.length
  · have hd : it.1.drop i = it.1[i] :: it.1.drop (i + 1) := List.drop_eq_getElem_cons hlt
    rw [hd, lcM_cons lv] at k3
    obtain ⟨o1, s3, e3, k4⟩ := bindM_eq k3
    obtain ⟨env2, s4, e4, k5⟩ := bindM_eq e3
    obtain ⟨b, s5, e5, k6⟩ := bindM_eq k5
    obtain ⟨jg, jy⟩ := sJ.go Hi' ms' H' st1 gb q2 lv i it.1[i] (by simp [hlt])
    refine .inr ⟨jg, fun H3 => ∃ Hi' ms' st1 acc ad rest, Grow Hi1 ms1 H1 Hi' ms' H3 ∧ Hold X.K Hi' ms' st1 H3 ∧ Own Hi' ms' H3 D acc ∧ RpA X.K Hi' acc ad ∧
      lcM it.2 (lcBody g ft fe (wipeD env vs)) (it.1.drop (i + 1)) st1 = some (rest, s2) ∧ ad ++ rest = xs, fun H3 n3 => ⟨it.1.length - (i + 1), by omega, rfl, hlt, n3⟩, fun v H2 y => ?_⟩
    obtain ⟨Hi2, gc, q3, r3⟩ := jy v H2 y
    have gd := gb.trans q2 gc
    have ow2 := ow.grow gc
    refine ⟨Hi2, ms', st1, wipeD env vs, _, env2, s4, q3, p1.mono gd, .im r3, e4, fun Hi4 ms4 H4 ge q4 σ4 p4 o4 l4 => ⟨wipe_same (fun j hj => o4 j fun z => hj (hsub j z)) l4, ?_⟩⟩
    have gf := gd.trans q3 ge
    have ow4 := ow2.grow ge
    refine ⟨Hi4, ms4, s4, env2, b, s5, q4, p4, e5, fun Hi5 ms5 H5 gh q5 => ?_⟩
    have gi := gf.trans q4 gh
    have ow5 := ow4.grow gh
    have ra5 := ((ra.mono gc.same).mono ge.same).mono gh.same
    cases b with
    | true =>
      show if true = true then _ else _
      rw [if_pos rfl] at k6 ⊢
      obtain ⟨w, s6, e6, k7⟩ := bindM_eq k6
      obtain ⟨rfl, rfl⟩ := retM_eq k7
      obtain ⟨x, s7, e7, k8⟩ := bindM_eq k4
      obtain ⟨rs, s8, e8, k9⟩ := bindM_eq k8
      obtain ⟨rfl, rfl⟩ := retM_eq k9
      refine ⟨Hi5, ms5, s5, env2, w, _, q5, p4.mono gh, e6, fun Hi6 ms6 H6 gj q6 v6 r6 => ?_⟩
      obtain ⟨Hi7, gk, q7, r7⟩ := q6.toD r6 e7
      have gl := (gi.trans q5 gj).trans q6 gk
      have ow7 := (ow5.grow gj).grow gk
      have ra7 := (ra5.mono gj.same).mono gk.same
      have hlen : acc.length < sizeLine := by
        have := ra.length
        have h9 : ad.length < xs.length := by rw [← hx, List.length_append, List.length_cons]; omega
        omega
      refine ⟨acc, ow7.at_, hlen, Hi7, ms6, s7, acc ++ [v6], ad ++ [x], rs, grow_ne gl hD, q7.own ow7.no ow7.out (by rw [List.length_append, List.length_singleton]; omega), ⟨upd_same, ow7.no, ow7.out⟩, ra7.append (.one r7), e8, by rw [List.append_assoc]; exact hx⟩
    | false =>
      show if false = true then _ else _
      rw [if_neg Bool.false_ne_true] at k6 ⊢
      obtain ⟨rfl, rfl⟩ := retM_eq k6
      exact ⟨Hi5, ms5, _, acc, ad, rest, gi, q5, ow5, ra5, k4, hx⟩
  · have e : i = it.1.length := by omega
    subst e
    rw [List.drop_length, lcM_nil lv] at k3
    cases k3
    rw [List.append_nil] at hx
    subst hx
    refine .inl ⟨sJ.stop Hi' ms' H' _ gb q2 lv, ?_⟩
    obtain ⟨Hi8, ms8, q8, g8, r8⟩ := hfin Hi1 ms1 H1 Hi' ms' H' D acc q2 ow ra gb hD
    exact h4 Hi8 ms8 H' (ga.trans q1 g8) q8 _ r8
theorem ve_lcW (hm : MkOk mk) {elt tg iter : Expr} {ifs : List Expr} {scope : Scope} {own : List (Str × Nat)} {pos : Pos} (ok : BlkOk X.N X.env.scope scope own) (hN : X.N.Nodup) (hc : X.calm = true) (hi : VI X tg iter fi)
    (hg : ∀ (s : Shared) (H : Hp) (C : Addr) (cl : List (Str × Addr)) (fp : List Addr), VG (X.blk s H scope (compEnvC scope cl C X.env) fp) tg vg g)
    (ht : ∀ (s : Shared) (H : Hp) (C : Addr) (cl : List (Str × Addr)) (fp : List Addr), VTs (X.blk s H scope (compEnvC scope cl C X.env) fp) ifs ft)
    (he : ∀ (s : Shared) (H : Hp) (C : Addr) (cl : List (Str × Addr)) (fp : List Addr), VE (X.blk s H scope (compEnvC scope cl C X.env) fp) elt fe) (hsub : ∀ j ∈ vg, j ∈ own.map (·.2) := by decide) (hs : ∀ x, foldedSetIterable iter X.env x = pure x := by intro _; rfl) :
    VE X (.ListComp elt [⟨tg, iter, ifs, 0⟩] scope pos) (fLcW mk fi g ft fe (own.map (·.2))) := PE.imp (pe_lc hc hN hi ok hg ht he hs) fun σ H Q h => tE_lc hm hsub h
theorem vs_setLcW (hm : MkOk mk) (i : Nat) {y : Str} {py : Pos} {elt tg iter : Expr} {ifs : List Expr} {scope : Scope} {own : List (Str × Nat)} {pos spos : Pos} (ok : BlkOk X.N X.env.scope scope own) (hN : X.N.Nodup) (hc : X.calm = true) (hi : VI X tg iter fi)
    (hg : ∀ (s : Shared) (H : Hp) (C : Addr) (cl : List (Str × Addr)) (fp : List Addr), VG (X.blk s H scope (compEnvC scope cl C X.env) fp) tg vg g)
    (ht : ∀ (s : Shared) (H : Hp) (C : Addr) (cl : List (Str × Addr)) (fp : List Addr), VTs (X.blk s H scope (compEnvC scope cl C X.env) fp) ifs ft)
    (he : ∀ (s : Shared) (H : Hp) (C : Addr) (cl : List (Str × Addr)) (fp : List Addr), VE (X.blk s H scope (compEnvC scope cl C X.env) fp) elt fe)
    (hsw : swapsWith (.ListComp elt [⟨tg, iter, ifs, 0⟩] scope pos) (some (.Name y py)) spos.line X.env = pure true)
    (hsub : ∀ j ∈ vg, j ∈ own.map (·.2) := by decide) (hy : X.N[i]? = some y := by rfl) (hyl : X.env.scope.names.lookup y = some .local := by rfl) (hs : ∀ x, foldedSetIterable iter X.env x = pure x := by intro _; rfl) :
    VS X (.Assign [.Name y py] (.ListComp elt [⟨tg, iter, ifs, 0⟩] scope pos) spos) (fSet i (fLcW mk fi g ft fe (own.map (·.2)))) := PS.imp (ps_setLc hc hN hy hyl hsw hi ok hg ht he hs) fun D σ H h => by
  obtain ⟨Hi, ms, st, env, o, st', h1, h2, h3, h4⟩ := h
  obtain ⟨d, s1, e1, k1⟩ := bindM_eq h3
  obtain ⟨rfl, rfl⟩ := retM_eq k1
  exact tE_lc hm hsub ⟨Hi, ms, st, env, d, _, h1, h2, e1, fun Hi1 ms1 H1 ga q1 v r => h4 _ _ _ ga q1 _ ((h2.mono ga).set r)⟩
end
end DL
/-! ### stores into lists, methods of lists, list(range(..)) at the data level -/
namespace DL
open PySem PySem.Spec PyProof.Rows L2
/-- the items of a list that may be written -/
def getM (i : Nat) : M (List PyData) := fun st => match st[i]? with
  | some (true, xs) => some (xs, st)
  | _ => none
def putM (i : Nat) (xs : List PyData) : M Unit := fun st => some ((), st.set i (true, xs))
theorem getM_eq {i : Nat} {st st' : Sto} {xs : List PyData} (h : getM i st = some (xs, st')) : st[i]? = some (true, xs) ∧ st' = st := by
  unfold getM at h
  split at h
  · rename_i ys e
    cases h; exact ⟨e, rfl⟩
  · cases h
theorem getM_of {i : Nat} {st : Sto} {xs : List PyData} (h : st[i]? = some (true, xs)) : getM i st = some (xs, st) := by
  unfold getM; rw [h]
def setV (d o i : DV) : M Unit := match o, i with
  | .mu c, .im (.int k) => bindM (toD d) fun x => bindM (getM c) fun xs => bindM (liftO (ixN xs.length k)) fun j => putM c (xs.set j x)
  | _, _ => failM
theorem setV_eq {d o i : DV} {st : Sto} {r : Unit × Sto} (h : setV d o i st = some r) : ∃ c k, o = .mu c ∧ i = .im (.int k) ∧ bindM (toD d) (fun x => bindM (getM c) fun xs => bindM (liftO (ixN xs.length k)) fun j => putM c (xs.set j x)) st = some r := by
  unfold setV at h
  split at h
  · exact ⟨_, _, rfl, rfl, h⟩
  · cases h
def gtSub (fo fi : FE) : FG := fun d env => bindM (fo env) fun o => bindM (fi env) fun i => bindM (setV d o i) fun _ => retM env
section
variable {K : PySem.W.Frag} {Hi Hi' H H' : Hp} {ms ms' : List Addr} {st st' : Sto}
theorem Hold.getM (h : Hold K Hi ms st H) {c : Nat} {v : V} {xs : List PyData} (r : RepV K Hi ms v (.mu c)) (e : DL.getM c st = some (xs, st')) : st' = st ∧ ∃ a vs, v = .ref a ∧ ms[c]? = some a ∧ st[c]? = some (true, xs) ∧ H a = some (.lst vs) ∧ RpA K Hi vs xs ∧ vs.length ≤ sizeLine := by
  obtain ⟨e1, rfl⟩ := getM_eq e
  cases r with
  | @mu _ a e2 =>
    obtain ⟨_, vs, q, ra⟩ := h.wr c a xs e2 e1
    exact ⟨rfl, a, vs, rfl, e2, e1, q, ra, h.sz a vs (.inl (SqL.of q))⟩
end
section
variable {X : Cx} {o i e : Expr} {es : List Expr} {fo fi fe : FE} {fa : FA} {pos apos cpos p : Pos} {name : Str}
theorem vg_sub (ho : VE X o fo) (hi : VE X i fi) (ha : ∀ v, assign (.Subscript o i pos) X.env v = (do
      let ov ← holding [v] (eval o X.env)
      let iv ← holding [v, ov] (eval i X.env)
      standAt pos
      holding [v, ov, iv] (setItem ov iv v)
      release [v, ov, iv] []) := by intro _; rfl) : VG X (.Subscript o i pos) [] (gtSub fo fi) := PG.imp (pg_sub ho hi set_list ha) fun v σ H Q h => by
  obtain ⟨Hi, ms, st, env, dv, env', st', h1, h2, h3, h4, h5⟩ := h
  obtain ⟨a, s1, e1, k1⟩ := bindM_eq h4
  obtain ⟨b, s2, e2, k2⟩ := bindM_eq k1
  obtain ⟨u, s3, e3, k3⟩ := bindM_eq k2
  obtain ⟨rfl, rfl⟩ := retM_eq k3
  obtain ⟨c, k, rfl, rfl, e4⟩ := setV_eq e3
  obtain ⟨x, s4, e5, k5⟩ := bindM_eq e4
  obtain ⟨xs, s5, e6, k6⟩ := bindM_eq k5
  obtain ⟨j, s6, e7, k7⟩ := bindM_eq k6
  obtain ⟨e8, rfl⟩ := liftO_eq e7
  unfold putM at k7
  cases k7
  refine ⟨Hi, ms, st, env', _, s1, h1, h2, e1, fun Hi1 ms1 H1 ga q1 v1 r1 => ?_⟩
  refine ⟨Hi1, ms1, s1, env', _, s2, q1, h2.mono ga, e2, fun Hi2 ms2 H2 gb q2 v2 r2 => ?_⟩
  obtain ⟨Hi3, gc, q3, r3⟩ := q2.toD ((h3.mono ga).mono gb) e5
  obtain ⟨rfl, A, vs, rfl, m1, m2, m3, ra, hz⟩ := q3.getM ((r1.mono gb).mono gc) e6
  cases r2 with
  | im r2 =>
    cases r2
    have gd := (ga.trans q1 gb).trans q2 gc
    have ge := gd.trans q3 (grow_wr (H := H2) (Hi := Hi3) (o := .lst (vs.set j v)) m1)
    refine ⟨A, vs, k, j, rfl, rfl, m3, by rw [ra.length]; exact e8, ?_⟩
    exact h5 _ _ _ ge (q3.write m1 m2 (ra.set j r3) (by rw [List.length_set]; exact hz)) σ (h2.mono ge) (fun _ _ => rfl) rfl

/-! ### methods -/
theorem tyL {H : Hp} {a : Addr} {xs : List V} (h : SqL X.K H a xs) : tyV X.K "list" (.ref a) H := .inl ⟨rfl, xs, h⟩
def appV (o d : DV) : M DV := match o with
  | .mu c => bindM (toD d) fun x => bindM (getM c) fun xs => if xs.length < 1000 then bindM (putM c (xs ++ [x])) fun _ => retM (.im .none) else failM
  | _ => failM
def fApp (fo fe : FE) : FE := fun env => bindM (fo env) fun o => bindM (fe env) fun d => appV o d
theorem ve_append (ho : VE X o fo) (he : VE X e fe) (hbase : attributeBase o "append" X.env (eval o X.env) = eval o X.env := by rfl)
    (hfew : ((backTo cpos (starEach [e] X.env)).all (fun x => !x.1) && (backToKw cpos (keywordEach [] X.env)).all (fun x => x.1.isSome)
      && decide (([e] : List Expr).length + ([] : List Keyword).length + (if ([] : List Keyword).isEmpty then 0 else 1) < 30)) = true := by rfl)
    (hline : (apos.endLine == cpos.line) = true := by rfl) (hs : starEach [e] X.env = (false, eval e X.env) :: starEach [] X.env := by rfl) (hplain : (backTo cpos (starEach [] X.env)).any (·.1) = false := by rfl) :
    VE X (.Call (.Attribute o "append" apos) [e] [] cpos) (fApp fo fe) :=
  PE.imp (pe_bm PySem.F.plainAttrs_list PySem.F.slot_list_append PySem.F.type_list_append mt_append ho (pa_cons he pa_nil hs) hbase hfew hline hs hplain) fun σ H Q h => by
  obtain ⟨Hi, ms, st, env, dv, st', h1, h2, h3, h4⟩ := h
  obtain ⟨a, s1, e1, k1⟩ := bindM_eq h3
  obtain ⟨d, s2, e2, k2⟩ := bindM_eq k1
  unfold appV at k2
  split at k2
  · rename_i c
    obtain ⟨x, s3, e3, k3⟩ := bindM_eq k2
    obtain ⟨xs, s4, e4, k4⟩ := bindM_eq k3
    split at k4
    · rename_i hl
      obtain ⟨u, s5, e5, k5⟩ := bindM_eq k4
      obtain ⟨rfl, rfl⟩ := retM_eq k5
      unfold putM at e5
      cases e5
      refine ⟨Hi, ms, st, env, _, s1, h1, h2, e1, fun Hi1 ms1 H1 ga q1 v1 r1 => ⟨?_, ?_⟩⟩
      · cases r1 with
        | mu m =>
          obtain ⟨vs, q⟩ := q1.cell_some m
          exact tyL (SqL.of q)
      · refine ⟨Hi1, ms1, s1, env, d, s2, q1, h2.mono ga, e2, fun Hi2 ms2 H2 gb q2 v2 r2 => ?_⟩
        obtain ⟨Hi3, gc, q3, r3⟩ := q2.toD r2 e3
        obtain ⟨rfl, A, vs, rfl, m1, m2, m3, ra, hz⟩ := q3.getM ((r1.mono gb).mono gc) e4
        have gd := (ga.trans q1 gb).trans q2 gc
        have ge := gd.trans q3 (grow_wr (H := H2) (Hi := Hi3) (o := .lst (vs ++ [v2])) m1)
        have hs24 : vs.length < 1000 := by rw [ra.length]; exact hl
        refine ⟨A, vs, v2, rfl, rfl, m3, Nat.lt_of_lt_of_le hs24 (le1000 (Nat.le_refl _)), ?_⟩
        exact h4 _ _ _ ge (q3.write m1 m2 (ra.append (.one r3)) (le1000 (by rw [List.length_append, List.length_singleton]; omega))) _ (.im .non)
    · cases k4
  · cases k2
def extV (o d : DV) : M DV := match o, d with
  | .mu c, .im (.list ys) => bindM (getM c) fun xs => if xs.length + ys.length ≤ 1000 then bindM (putM c (xs ++ ys)) fun _ => retM (.im .none) else failM
  | _, _ => failM
def fExt (fo fe : FE) : FE := fun env => bindM (fo env) fun o => bindM (fe env) fun d => extV o d
theorem ve_extend (ho : VE X o fo) (he : VE X e fe) (hbase : attributeBase o "extend" X.env (eval o X.env) = eval o X.env := by rfl)
    (hfew : ((backTo cpos (starEach [e] X.env)).all (fun x => !x.1) && (backToKw cpos (keywordEach [] X.env)).all (fun x => x.1.isSome)
      && decide (([e] : List Expr).length + ([] : List Keyword).length + (if ([] : List Keyword).isEmpty then 0 else 1) < 30)) = true := by rfl)
    (hline : (apos.endLine == cpos.line) = true := by rfl) (hs : starEach [e] X.env = (false, eval e X.env) :: starEach [] X.env := by rfl) (hplain : (backTo cpos (starEach [] X.env)).any (·.1) = false := by rfl) :
    VE X (.Call (.Attribute o "extend" apos) [e] [] cpos) (fExt fo fe) :=
  PE.imp (pe_bm PySem.F.plainAttrs_list PySem.F.slot_list_extend PySem.F.type_list_extend mt_extend ho (pa_cons he pa_nil hs) hbase hfew hline hs hplain) fun σ H Q h => by
  obtain ⟨Hi, ms, st, env, dv, st', h1, h2, h3, h4⟩ := h
  obtain ⟨a, s1, e1, k1⟩ := bindM_eq h3
  obtain ⟨d, s2, e2, k2⟩ := bindM_eq k1
  unfold extV at k2
  split at k2
  · rename_i c ys
    obtain ⟨xs, s4, e4, k4⟩ := bindM_eq k2
    split at k4
    · rename_i hl
      obtain ⟨u, s5, e5, k5⟩ := bindM_eq k4
      obtain ⟨rfl, rfl⟩ := retM_eq k5
      unfold putM at e5
      cases e5
      refine ⟨Hi, ms, st, env, _, s1, h1, h2, e1, fun Hi1 ms1 H1 ga q1 v1 r1 => ⟨?_, ?_⟩⟩
      · cases r1 with
        | mu m =>
          obtain ⟨vs, q⟩ := q1.cell_some m
          exact tyL (SqL.of q)
      · refine ⟨Hi1, ms1, s1, env, _, s2, q1, h2.mono ga, e2, fun Hi2 ms2 H2 gb q2 v2 r2 => ?_⟩
        obtain ⟨rfl, A, vs, rfl, m1, m2, m3, ra, hz⟩ := q2.getM (r1.mono gb) e4
        cases r2 with
        | im r2 =>
          cases r2 with
          | lst g1 g2 =>
            have gd := ga.trans q1 gb
            have hl2 := g2.length
            have hl3 := ra.length
            refine ⟨A, _, vs, _, rfl, rfl, m3, q2.sub _ _ g1, le1000 (by omega), ?_⟩
            exact h4 _ _ _ (gd.trans q2 (grow_wr m1)) (q2.write m1 m2 (ra.append g2) (le1000 (by rw [List.length_append]; omega))) _ (.im .non)
    · cases k4
  · cases k2
def popV (o d : DV) : M DV := match o, d with
  | .mu c, .im (.int i) => bindM (getM c) fun xs => bindM (liftO (if -(2 ^ 63) ≤ i ∧ i < 2 ^ 63 then seqIndex? i xs.length else none)) fun k => bindM (liftO xs[k]?) fun y => bindM (putM c (xs.eraseIdx k)) fun _ => retM (.im y)
  | _, _ => failM
def fPopAt (fo fe : FE) : FE := fun env => bindM (fo env) fun o => bindM (fe env) fun d => popV o d
theorem ve_popAt (ho : VE X o fo) (he : VE X e fe) (hbase : attributeBase o "pop" X.env (eval o X.env) = eval o X.env := by rfl)
    (hfew : ((backTo cpos (starEach [e] X.env)).all (fun x => !x.1) && (backToKw cpos (keywordEach [] X.env)).all (fun x => x.1.isSome)
      && decide (([e] : List Expr).length + ([] : List Keyword).length + (if ([] : List Keyword).isEmpty then 0 else 1) < 30)) = true := by rfl)
    (hline : (apos.endLine == cpos.line) = true := by rfl) (hs : starEach [e] X.env = (false, eval e X.env) :: starEach [] X.env := by rfl) (hplain : (backTo cpos (starEach [] X.env)).any (·.1) = false := by rfl) :
    VE X (.Call (.Attribute o "pop" apos) [e] [] cpos) (fPopAt fo fe) :=
  PE.imp (pe_bm PySem.F.plainAttrs_list PySem.F.slot_list_pop PySem.F.type_list_pop mt_popAt ho (pa_cons he pa_nil hs) hbase hfew hline hs hplain) fun σ H Q h => by
  obtain ⟨Hi, ms, st, env, dv, st', h1, h2, h3, h4⟩ := h
  obtain ⟨a, s1, e1, k1⟩ := bindM_eq h3
  obtain ⟨d, s2, e2, k2⟩ := bindM_eq k1
  unfold popV at k2
  split at k2
  · rename_i c i
    obtain ⟨xs, s4, e4, k4⟩ := bindM_eq k2
    obtain ⟨k, s5, e5, k5⟩ := bindM_eq k4
    obtain ⟨e6, rfl⟩ := liftO_eq e5
    obtain ⟨y, s6, e7, k7⟩ := bindM_eq k5
    obtain ⟨e8, rfl⟩ := liftO_eq e7
    obtain ⟨u, s7, e9, k9⟩ := bindM_eq k7
    obtain ⟨rfl, rfl⟩ := retM_eq k9
    unfold putM at e9
    cases e9
    split at e6
    · rename_i hb
      refine ⟨Hi, ms, st, env, _, s1, h1, h2, e1, fun Hi1 ms1 H1 ga q1 v1 r1 => ⟨?_, ?_⟩⟩
      · cases r1 with
        | mu m =>
          obtain ⟨vs, q⟩ := q1.cell_some m
          exact tyL (SqL.of q)
      · refine ⟨Hi1, ms1, s1, env, _, s2, q1, h2.mono ga, e2, fun Hi2 ms2 H2 gb q2 v2 r2 => ?_⟩
        obtain ⟨rfl, A, vs, rfl, m1, m2, m3, ra, hz⟩ := q2.getM (r1.mono gb) e4
        cases r2 with
        | im r2 =>
          cases r2
          obtain ⟨w, hw, rw'⟩ := ra.get e8
          have gd := ga.trans q1 gb
          refine ⟨A, vs, i, k, w, rfl, rfl, m3, hb.1, hb.2, by rw [ra.length]; exact e6, hw, ?_⟩
          refine h4 _ _ _ (gd.trans q2 (grow_wr m1)) (q2.write m1 m2 (ra.eraseIdx k) (Nat.le_trans (List.length_eraseIdx_le _ _) hz)) _ (.im rw')
    · cases e6
  · cases k2
/-- the first place of an equal one -/
def findD (d : PyData) : List PyData → Option Nat
  | [] => none
  | z :: zs => if PyData.eqv z d = true then some 0 else (findD d zs).map (· + 1)
theorem findD_spec {d : PyData} : ∀ {ds : List PyData} {j : Nat}, findD d ds = some j → ∃ z, ds[j]? = some z ∧ PyData.eqv z d = true ∧ ∀ (m : Nat) (z' : PyData), m < j → ds[m]? = some z' → PyData.eqv z' d = false
  | [], _, h => by cases h
  | z :: zs, j, h => by
    unfold findD at h
    split at h
    · rename_i e
      cases h
      exact ⟨z, rfl, e, fun m z' hm => absurd hm (Nat.not_lt_zero _)⟩
    · rename_i e
      cases q : findD d zs with
      | none => rw [q] at h; cases h
      | some k =>
        rw [q] at h
        cases h
        obtain ⟨z1, h1, h2, h3⟩ := findD_spec q
        refine ⟨z1, by simpa using h1, h2, fun m z' hm hz => ?_⟩
        cases m with
        | zero => simp at hz; subst hz; simpa using e
        | succ m => exact h3 m z' (Nat.lt_of_succ_lt_succ hm) (by simpa using hz)
def idxD (x d : PyData) : Option PyData := match x with
  | .list ds => if SeqAt.shaped (.list ds) = true ∧ SeqAt.shaped d = true then (findD d ds).map fun j => .int (j : Nat) else none
  | _ => none
def fIdx (fo fe : FE) : FE := fun env => bindM (fo env) fun o => bindM (fe env) fun d => bindM (rdV o) fun x => bindM (rdV d) fun y => bindM (liftO (idxD x y)) fun r => retM (.im r)
theorem ve_index {k : Nat} (hr : Room k X.A) (ho : VE X o fo) (he : VE X e fe) (hbase : attributeBase o "index" X.env (eval o X.env) = eval o X.env := by rfl)
    (hfew : ((backTo cpos (starEach [e] X.env)).all (fun x => !x.1) && (backToKw cpos (keywordEach [] X.env)).all (fun x => x.1.isSome)
      && decide (([e] : List Expr).length + ([] : List Keyword).length + (if ([] : List Keyword).isEmpty then 0 else 1) < 30)) = true := by rfl)
    (hline : (apos.endLine == cpos.line) = true := by rfl) (hs : starEach [e] X.env = (false, eval e X.env) :: starEach [] X.env := by rfl) (hplain : (backTo cpos (starEach [] X.env)).any (·.1) = false := by rfl) :
    VE X (.Call (.Attribute o "index" apos) [e] [] cpos) (fIdx fo fe) :=
  PE.imp (pe_bm PySem.F.plainAttrs_list PySem.F.slot_list_index PySem.F.type_list_index (mt_indexD (room65 hr)) ho (pa_cons he pa_nil hs) hbase hfew hline hs hplain) fun σ H Q h => by
  obtain ⟨Hi, ms, st, env, dv, st', h1, h2, h3, h4⟩ := h
  obtain ⟨a, s1, e1, k1⟩ := bindM_eq h3
  obtain ⟨d, s2, e2, k2⟩ := bindM_eq k1
  obtain ⟨x, s3, e3, k3⟩ := bindM_eq k2
  obtain ⟨y, s4, e4, k4⟩ := bindM_eq k3
  obtain ⟨r, s5, e5, k5⟩ := bindM_eq k4
  obtain ⟨e6, rfl⟩ := liftO_eq e5
  obtain ⟨rfl, rfl⟩ := retM_eq k5
  unfold idxD at e6
  split at e6
  · rename_i ds
    split at e6
    · rename_i hsh
      cases e7 : findD y ds with
      | none => rw [e7] at e6; cases e6
      | some j =>
        rw [e7] at e6
        cases e6
        obtain ⟨z, z1, z2, z3⟩ := findD_spec e7
        refine ⟨Hi, ms, st, env, _, s1, h1, h2, e1, fun Hi1 ms1 H1 ga q1 v1 r1 => ⟨?_, ?_⟩⟩
        · cases r1 with
          | im r1 =>
            obtain ⟨rfl, rfl⟩ := retM_eq e3
            cases r1 with
            | lst g1 g2 => exact tyL (SqL.of (q1.sub _ _ g1))
          | mu m =>
            obtain ⟨vs, q⟩ := q1.cell_some m
            exact tyL (SqL.of q)
          | ro q => cases e3
        · refine ⟨Hi1, ms1, s1, env, d, s2, q1, h2.mono ga, e2, fun Hi2 ms2 H2 gb q2 v2 r2 => ?_⟩
          obtain ⟨rfl, ra⟩ := q2.rd (r1.mono gb) e3
          obtain ⟨rfl, rb⟩ := q2.rd r2 e4
          cases ra with
          | lst g1 g2 =>
            exact ⟨_, v2, y, ds, j, z, rfl, rfl, (Rd.lst g1 g2).dp q2.sub, rb.dp q2.sub, hsh.1, hsh.2, z1, z2, z3, Af.here (h4.on (ga.trans q1 gb) q2) q2 _ (.im (.int _))⟩
    · cases e6
  · cases e6

/-! ### list(range(..)), tuple(range(..)) -/
def rgOf1 : DV → Option (Int × Int)
  | .im (.int n) => some (0, n)
  | _ => none
def rgOf2 : DV → DV → Option (Int × Int)
  | .im (.int i), .im (.int j) => some (i, j)
  | _, _ => none
def rgMk (mk : List PyData → M DV) (r : Int × Int) : M DV := if -(2 ^ 62) ≤ r.1 ∧ r.1 < 2 ^ 62 ∧ -(2 ^ 62) ≤ r.2 ∧ r.2 < 2 ^ 62 then mk (rangeD r.1 (r.2 - r.1).toNat) else failM
def fRgl1 (mk : List PyData → M DV) (f : FE) : FE := fun env => bindM (f env) fun a => bindM (liftO (rgOf1 a)) (rgMk mk)
def fRgl2 (mk : List PyData → M DV) (f g : FE) : FE := fun env => bindM (f env) fun a => bindM (g env) fun b => bindM (liftO (rgOf2 a b)) (rgMk mk)
/-- how a new list or tuple of these values is taken over -/
def TakeOk (K : PySem.W.Frag) (ob : List V → HO) (mk : List PyData → M DV) : Prop := ∀ (Hi : Hp) (ms : List Addr) (st st' : Sto) (H : Hp) (vs : List V) (ds : List PyData) (dv : DV) (Q : VK), Hold K Hi ms st H → RpA K Hi vs ds → mk ds st = some (dv, st') → Dl K Hi ms H st' dv Q →
  vs.length ≤ 1000 ∧ ∀ p, H p = none → Q (.ref p) (upd H p (ob vs))
theorem take_L {K : PySem.W.Frag} : TakeOk K .lst mkL := fun Hi ms st st' H vs ds dv Q q r e k => by
  unfold mkL at e
  split at e
  · rename_i hz
    obtain ⟨rfl, rfl⟩ := retM_eq e
    have hz' : vs.length ≤ 1000 := by rw [r.length]; exact hz
    exact ⟨hz', fun p hp => k.lst q r hp (le1000 hz')⟩
  · cases e
theorem take_M {K : PySem.W.Frag} : TakeOk K .lst mkM := fun Hi ms st st' H vs ds dv Q q r e k => by
  unfold mkM at e
  split at e
  · rename_i hz
    unfold newMu at e
    cases e
    have hz' : vs.length ≤ 1000 := by rw [r.length]; exact hz
    exact ⟨hz', fun p hp => k.mu q r hp (le1000 hz')⟩
  · cases e
theorem take_T {K : PySem.W.Frag} : TakeOk K .tup mkT := fun Hi ms st st' H vs ds dv Q q r e k => by
  unfold mkT at e
  split at e
  · rename_i hz
    obtain ⟨rfl, rfl⟩ := retM_eq e
    have hz' : vs.length ≤ 1000 := by rw [r.length]; exact hz
    exact ⟨hz', fun p hp => k.tup q r hp (le1000 hz')⟩
  · cases e
theorem RpA.rgs {K : PySem.W.Frag} {Hi : Hp} {a : Int} : ∀ (l : List Nat), RpA K Hi (l.map fun i => V.int (a + (i : Nat))) (l.map fun i => PyData.int (a + (i : Nat)))
  | [] => .nil
  | _ :: l => .cons (.int _) (RpA.rgs l)
theorem rgMk_ok {K : PySem.W.Frag} {ob : List V → HO} {mk : List PyData → M DV} (tk : TakeOk K ob mk) {Hi : Hp} {ms : List Addr} {st st' : Sto} {H : Hp} {a b : Int} {dv : DV} {Q : VK} (q : Hold K Hi ms st H) (e : rgMk mk (a, b) st = some (dv, st')) (k : Dl K Hi ms H st' dv Q) :
    RgOk a b ∧ ∀ p, H p = none → Q (.ref p) (upd H p (ob (rgV a b))) := by
  unfold rgMk at e
  split at e
  · rename_i hb
    obtain ⟨z1, z2⟩ := tk Hi ms st st' H (rgV a b) (rangeD a (b - a).toNat) dv Q q (RpA.rgs _) e k
    rw [rgV_length] at z1
    exact ⟨⟨hb.1, hb.2.1, hb.2.2.1, hb.2.2.2, by omega⟩, z2⟩
  · cases e
theorem tRg1_ok {K : PySem.W.Frag} {ob : List V → HO} {mk : List PyData → M DV} (tk : TakeOk K ob mk) {f : FE} {σ : L2.St} {H : Hp} {Q : VK} (h : tE K (fRgl1 mk f) σ H Q) : tRg1 (tE K f) σ H fun a b H1 => RgOk a b ∧ ∀ q, H1 q = none → Q (.ref q) (upd H1 q (ob (rgV a b))) := by
  obtain ⟨Hi, ms, st, env, dv, st', h1, h2, h3, h4⟩ := h
  obtain ⟨a, s1, e1, k1⟩ := bindM_eq h3
  obtain ⟨r, s2, e2, k2⟩ := bindM_eq k1
  obtain ⟨e3, rfl⟩ := liftO_eq e2
  unfold rgOf1 at e3
  split at e3
  · rename_i n
    cases e3
    refine ⟨Hi, ms, st, env, _, _, h1, h2, e1, fun Hi1 ms1 H1 ga q1 v1 r1 => ?_⟩
    cases r1 with
    | im r1 =>
      cases r1
      exact ⟨n, rfl, rgMk_ok tk q1 k2 (h4.on ga q1)⟩
  · cases e3
theorem tRg2_ok {K : PySem.W.Frag} {ob : List V → HO} {mk : List PyData → M DV} (tk : TakeOk K ob mk) {f g : FE} {σ : L2.St} {H : Hp} {Q : VK} (h : tE K (fRgl2 mk f g) σ H Q) : tRg2 (tE K f) (tE K g) σ H fun a b H1 => RgOk a b ∧ ∀ q, H1 q = none → Q (.ref q) (upd H1 q (ob (rgV a b))) := by
  obtain ⟨Hi, ms, st, env, dv, st', h1, h2, h3, h4⟩ := h
  obtain ⟨a, s1, e1, k1⟩ := bindM_eq h3
  obtain ⟨b, s2, e2, k2⟩ := bindM_eq k1
  obtain ⟨r, s3, e3, k3⟩ := bindM_eq k2
  obtain ⟨e4, rfl⟩ := liftO_eq e3
  unfold rgOf2 at e4
  split at e4
  · rename_i i j
    cases e4
    refine ⟨Hi, ms, st, env, _, _, h1, h2, e1, fun Hi1 ms1 H1 ga q1 v1 r1 => ?_⟩
    refine ⟨Hi1, ms1, _, env, _, _, q1, h2.mono ga, e2, fun Hi2 ms2 H2 gb q2 v2 r2 => ?_⟩
    cases r1 with
    | im r1 =>
      cases r1
      cases r2 with
      | im r2 =>
        cases r2
        exact ⟨i, j, rfl, rfl, rgMk_ok tk q2 k3 (h4.on (ga.trans q1 gb) q2)⟩
  · cases e4
section
variable {a b : Expr} {fb : FE} {p1 p2 : Pos} {mk : List PyData → M DV}
theorem ve_lrg1 (tk : TakeOk X.K .lst mk) (hc : X.calm = true) (hm : X.mg "list" = none) (hm2 : X.mg "range" = none) (ha : VE X a fo) (hg : Gl X "list" := by rfl) (hg2 : Gl X "range" := by rfl) (n2 : starEach [a] X.env = (false, eval a X.env) :: starEach [] X.env := by rfl)
    (na : starEach [Expr.Call (.Name "range" p1) [a] [] p2] X.env = (false, eval (.Call (.Name "range" p1) [a] [] p2) X.env) :: starEach [] X.env := by rfl) : VE X (.Call (.Name "list" p) [.Call (.Name "range" p1) [a] [] p2] [] pos) (fRgl1 mk fo) :=
  PE.imp (pe_listRg hc hg hm (prg_1 hg2 hm2 ha n2) na) fun σ H Q h => tRg1_ok tk h
theorem ve_trg1 (hc : X.calm = true) (hm : X.mg "tuple" = none) (hm2 : X.mg "range" = none) (ha : VE X a fo) (hg : Gl X "tuple" := by rfl) (hg2 : Gl X "range" := by rfl) (n2 : starEach [a] X.env = (false, eval a X.env) :: starEach [] X.env := by rfl)
    (na : starEach [Expr.Call (.Name "range" p1) [a] [] p2] X.env = (false, eval (.Call (.Name "range" p1) [a] [] p2) X.env) :: starEach [] X.env := by rfl) : VE X (.Call (.Name "tuple" p) [.Call (.Name "range" p1) [a] [] p2] [] pos) (fRgl1 mkT fo) :=
  PE.imp (pe_tupRg hc hg hm (prg_1 hg2 hm2 ha n2) na) fun σ H Q h => tRg1_ok take_T h
theorem ve_lrg2 (tk : TakeOk X.K .lst mk) (hc : X.calm = true) (hm : X.mg "list" = none) (hm2 : X.mg "range" = none) (ha : VE X a fo) (hb : VE X b fb) (hg : Gl X "list" := by rfl) (hg2 : Gl X "range" := by rfl) (n2 : starEach [a, b] X.env = (false, eval a X.env) :: starEach [b] X.env := by rfl) (n3 : starEach [b] X.env = (false, eval b X.env) :: starEach [] X.env := by rfl) (hp : (backTo p2 (starEach [b] X.env)).any (·.1) = false := by rfl)
    (na : starEach [Expr.Call (.Name "range" p1) [a, b] [] p2] X.env = (false, eval (.Call (.Name "range" p1) [a, b] [] p2) X.env) :: starEach [] X.env := by rfl) : VE X (.Call (.Name "list" p) [.Call (.Name "range" p1) [a, b] [] p2] [] pos) (fRgl2 mk fo fb) :=
  PE.imp (pe_listRg hc hg hm (prg_2 hg2 hm2 ha hb n2 n3 hp) na) fun σ H Q h => tRg2_ok tk h
end
end
end DL
/-! ### the end of a row at the data level -/
namespace DL
open PySem PySem.Spec PyProof.Rows L2
section
variable {P : Program} {w : World} {K : PySem.W.Frag}
/-- the first hold: nothing but the script -/
theorem hold0 {H : Hp} {h : Heap} (ho : Only H) (ok : HOk P w H h) : Hold K H [] [] H where
  sub := Same.refl H
  len := rfl
  nd := List.nodup_nil
  wr := fun i a xs e _ => by simp at e
  fz := fun i a xs e _ => by simp at e
  sz := fun a xs q => by
    rcases q with q | q
    · rcases q with (q | ⟨o, q⟩) | ⟨o, its, n, _, _, _, _, z, r⟩
      · exact (ok a _ q).1
      · exact (ok a _ q).2.1
      · have := r.length; simp at this; omega
    · rcases q with (q | ⟨o, q⟩) | ⟨o, its, n, _, _, _, z, r⟩
      · exact (ok a _ q).1
      · exact (ok a _ q).2.1
      · have := r.length; simp at this; omega
/-- the law's call, at the heap behind the top -/
theorem law_callG {mg mb : Str → Option Value} {k : Nat} {fa a : Addr} {fd : FuncData} {x : Str} {F : List DV → M DV} {s₁ : Shared} {vs : List Value} {ns : List Int}
    (KX : K.In s₁.heap) (hns : s₁.heap.Ns mainGlobals mg) (hb : s₁.heap.Ns builtinsNs mb) (hbb : ∀ x : Str, x ≠ "__name__" → mb x = bootBuiltins x) (hlim : s₁.heap.NoLimit) (hg : s₁.gens = #[])
    (ha : s₁.heap.get? a = some { cls := .type "list", data := .seq vs.toArray }) (hi : IntsAre vs ns) (hl : ns.length ≤ sizeLine) (hr : RoomG k callerA)
    (hF : ∀ base : Heap, K.In base → base.Ns mainGlobals mg → FnG P w K mg base k fa fd [x] F) (hbind : ∀ (s : Shared) (u : Value), BindsTo s fd ⟨[u], []⟩ [(x, u)])
    (hsp : ∃ st', F [.ro ns] [] = some (.im (.bool true), st')) :
    codeAny (model P w) callerA (.call (.ref fa) ⟨[.ref a], []⟩) (fun r s' => r = .ok (.ret (.bool true)) ∧ OldK s₁.heap s'.heap ∧ s'.os = s₁.os ∧ AllBare s'.gens) s₁ := by
  have rv := vals_ints hi
  have lenV := hi.length
  have core : ∀ H : Hp, Only H → SqL K H a (ns.map V.int) → HOk P w H s₁.heap → (∀ b, H b ≠ none → b = a) → (H a ≠ none → K.lookup a = none) →
      codeAny (model P w) callerA (.call (.ref fa) ⟨[.ref a], []⟩) (fun r s' => r = .ok (.ret (.bool true)) ∧ OldK s₁.heap s'.heap ∧ s'.os = s₁.os ∧ AllBare s'.gens) s₁ := by
    intro H hO hS hok hA hK
    have only : ∀ {b : Addr} {u : HO}, H b = some u → b = a := fun {b u} q => hA b (by rw [q]; intro z; cases z)
    have noA : ∀ {b : Addr} {o : Obj}, s₁.heap.get? b = some o → (b = a → False) → H b = none := fun {b o} _ n => by
      cases q : H b with
      | none => rfl
      | some u => exact (n (only q)).elim
    have dictNo : ∀ {b : Addr} {o : Obj} {es : Array DictEntry} {ep : Nat}, s₁.heap.get? b = some o → o.data = .dict es ep → H b = none := fun {b o es ep} e d => noA e fun z => by
      rw [z, ha] at e
      cases e
      cases d
    have nsK : ∀ {b : Addr} {m : Str → Option Value}, s₁.heap.Ns b m → (hidT s₁.heap H).Ns b m := fun {b m} n => by
      obtain ⟨o, es, ep, e, d, r⟩ := n
      exact ⟨o, es, ep, hidT_get e (dictNo e d), d, r⟩
    have hKb : K.In (hidT s₁.heap H) := fun b o e => hidT_get (KX b o e) (by
      cases q : H b with
      | none => rfl
      | some u =>
        have z := only q
        rw [z] at e q
        rw [hK (by rw [q]; intro y; cases y)] at e
        cases e)
    obtain ⟨mc, lim1, lim2⟩ := hlim
    have hM : Mod K mg (hidT s₁.heap H) := ⟨hKb, nsK hns, ⟨mb, nsK hb, hbb⟩, ⟨mc, nsK lim1, lim2⟩⟩
    have e0 : Env0 P w K mg (hidT s₁.heap H) callerA [] s₁ H :=
      { frames := rfl, mod := hM, bs := fun b o e => of_hidT e, bsz := Nat.le_of_eq (hidT_size _ _), funs := trivial, frf := fun b hb => (nomatch hb), hok := hok, bare := .of_eq hg }
    obtain ⟨st', hF'⟩ := hsp
    have sp : spD K F [.ref a] H (fun v _ => v = .bl true) :=
      ⟨H, [], [], [.ro ns], .im (.bool true), st', hold0 hO hok, .cons (.ro hS) .nil, hF', fun Hi' ms' H' _ _ v r => by cases r with | im r => cases r; rfl⟩
    refine codeAny_mono ((hF _ hKb (nsK hns)).run callerA [] s₁ H ⟨[.ref a], []⟩ [.ref a] [.ref a] _ hr e0 (hbind s₁ (.ref a)) (.cons rfl .nil) rfl sp) fun r s' h => ?_
    match r, h with
    | .ok (.ret u), h =>
      obtain ⟨v, H', os, bare, un, hok', r', q⟩ := h
      have q' : v = .bl true := q
      rw [q'] at r'
      have r2 : u = Value.bool true := r'
      refine ⟨by rw [r2], OldK.of_keep fun b o e => ?_, os, bare⟩
      cases q : H b with
      | none => exact un.keep b o e q (fun z => nomatch z) (fun z => nomatch z)
      | some u =>
        rcases hO b with z | ⟨ob, xs, z⟩
        · rw [q] at z; cases z
        · have e1 := (hok b _ z).1
          have e2 := (hok' b _ (un.frzs b ob _ z)).1
          rw [e] at e1
          cases e1
          exact e2
  cases hk : K.lookup a with
  | some o =>
    have e := KX a o hk
    rw [ha] at e
    cases e
    refine core (fun _ => none) (fun _ => .inl rfl) (.inr ⟨_, vs.toArray, _, hk, rfl, rfl, rfl, by rw [List.size_toArray, lenV]; exact hl, by simpa using rv⟩) (fun b u z => nomatch z) (fun b z => (z rfl).elim) fun z => (z rfl).elim
  | none =>
    have at_ : ∀ b, (if b = a then some (HO.frz { cls := .type "list", data := .seq vs.toArray } (.lst (ns.map V.int))) else none) ≠ none → b = a := fun b z => by
      by_cases hb : b = a
      · exact hb
      · exact (z (if_neg hb)).elim
    refine core (fun b => if b = a then some (.frz { cls := .type "list", data := .seq vs.toArray } (.lst (ns.map V.int))) else none) (fun b => ?_) (.inl (.inr ⟨{ cls := .type "list", data := .seq vs.toArray }, if_pos rfl⟩)) (fun b u z => ?_) at_ fun _ => hk
    · by_cases hb : b = a
      · exact .inr ⟨_, _, if_pos hb⟩
      · exact .inl (if_neg hb)
    · obtain rfl : b = a := at_ b fun y => by
        have z2 := y.symm.trans z
        cases z2
      have z' := (if_pos rfl).symm.trans z
      cases z'
      exact ⟨ha, by rw [List.length_map]; exact hl, vs, _, rv, ha⟩
end
/-- what is left of a row behind its head -/
theorem walk_G {l : PySem.W.OpenLaw} {n k : Nat} {q : Program} {loose : List Str} {XP : (Str → Option Value) → Heap → Prop} {YP : World → Heap → Prop} {d : DefRec} {K : Params → PySem.W.Frag} {x : Str} {F : List DV → M DV}
    (hn : l.most = some n) (hn2 : n ≤ sizeLine) (hdf : d.params.defaults = []) (hr : Room k callerA) (hY : ∀ (w : World) (h : Heap), YP w h → (K w.params).In h)
    (hF : ∀ (w : World) (mg : Str → Option Value) (fa : Addr) (h : Heap), (K w.params).In h → h.Ns mainGlobals mg → mg d.name = some (.ref fa) →
      ∃ fd : FuncData, (∀ (s : Shared) (u : Value), BindsTo s fd ⟨[u], []⟩ [(x, u)]) ∧ ∀ base : Heap, (K w.params).In base → base.Ns mainGlobals mg → FnG l.prog w (K w.params) mg base k fa fd [x] F)
    (hsp : ∀ ns : List Int, ns.length ≤ n → ∃ st', F [.ro ns] [] = some (.im (.bool true), st')) :
    PySem.W.WalkO q loose XP YP l.row.toRowW d [] (fun f vs => PySem.call f vs) := by
  refine Att.attach_call hn hdf fun w s₀ s₁ mg mb fa o pm cd doc a vs ns G Y ho hd hcd hmg hobj hints hlen hg => ?_
  have KX := hY w _ Y
  obtain ⟨fd, hb, hF'⟩ := hF w mg fa _ KX G.T.g hmg
  exact law_callG KX G.T.g G.T.b G.T.builtins G.T.nolimit hg hobj hints (Nat.le_trans hlen hn2) ⟨hr, rfl⟩ hF' hb (hsp ns hlen)
end DL
/-! ### the built-ins by name -/
namespace DL
open PySem PySem.Spec PyProof.Rows L2
theorem bt_len : bootBuiltins "len" = some (.builtin "len") := by decide +kernel
theorem bt_abs : bootBuiltins "abs" = some (.builtin "abs") := by decide +kernel
theorem bt_max : bootBuiltins "max" = some (.builtin "max") := by decide +kernel
theorem bt_min : bootBuiltins "min" = some (.builtin "min") := by decide +kernel
theorem bt_sum : bootBuiltins "sum" = some (.builtin "sum") := by decide +kernel
theorem bt_all : bootBuiltins "all" = some (.builtin "all") := by decide +kernel
theorem bt_any : bootBuiltins "any" = some (.builtin "any") := by decide +kernel
theorem bt_sorted : bootBuiltins "sorted" = some (.builtin "sorted") := by decide +kernel
theorem bt_repr : bootBuiltins "repr" = some (.builtin "repr") := by decide +kernel
theorem bt_divmod : bootBuiltins "divmod" = some (.builtin "divmod") := by decide +kernel
theorem bt_int : bootBuiltins "int" = some (.type "int") := by decide +kernel
theorem bt_bool : bootBuiltins "bool" = some (.type "bool") := by decide +kernel
theorem bt_str : bootBuiltins "str" = some (.type "str") := by decide +kernel
theorem bt_list : bootBuiltins "list" = some (.type "list") := by decide +kernel
theorem bt_tuple : bootBuiltins "tuple" = some (.type "tuple") := by decide +kernel
theorem CallR.or {X : Cx} {f : Value} {r r' : List V → Hp → VK → Prop} (h : CallR X f r) (h' : CallR X f r') : CallR X f (fun xs H Q => r xs H Q ∨ r' xs H Q) := by
  intro pins s σ H xs us Q I rx q
  rcases q with q | q
  · exact h pins s σ H xs us Q I rx q
  · exact h' pins s σ H xs us Q I rx q
section
variable {X : Cx} {e e2 : Expr} {fa : FA} {p pos : Pos} {k : Nat}
theorem ve_len (hm : X.mg "len" = none) (ha : VA X [e] fa) (hg : Gl X "len" := by rfl) (he : starEach [e] X.env = (false, eval e X.env) :: starEach [] X.env := by rfl) (hpl : (backTo pos (starEach [] X.env)).any (·.1) = false := by rfl) :
    VE X (.Call (.Name "len" p) [e] [] pos) (fCa cLen fa) := ve_callB call_len_seq ca_len hm bt_len ha hg (by decide) (by decide) he hpl
theorem ve_abs (hm : X.mg "abs" = none) (ha : VA X [e] fa) (hg : Gl X "abs" := by rfl) (he : starEach [e] X.env = (false, eval e X.env) :: starEach [] X.env := by rfl) (hpl : (backTo pos (starEach [] X.env)).any (·.1) = false := by rfl) :
    VE X (.Call (.Name "abs" p) [e] [] pos) (fCa (gD (c1 absD)) fa) := ve_callB call_abs ca_abs hm bt_abs ha hg (by decide) (by decide) he hpl
theorem ve_max2 (hc : X.calm = true) (hm : X.mg "max" = none) (ha : VA X [e, e2] fa) (hg : Gl X "max" := by rfl) (he : starEach [e, e2] X.env = (false, eval e X.env) :: starEach [e2] X.env := by rfl) (hpl : (backTo pos (starEach [e2] X.env)).any (·.1) = false := by rfl) :
    VE X (.Call (.Name "max" p) [e, e2] [] pos) (fCa (gD (c2 max2)) fa) := ve_callB (call_max2 hc) ca_max2 hm bt_max ha hg (by decide) (by decide) he hpl
theorem ve_min2 (hc : X.calm = true) (hm : X.mg "min" = none) (ha : VA X [e, e2] fa) (hg : Gl X "min" := by rfl) (he : starEach [e, e2] X.env = (false, eval e X.env) :: starEach [e2] X.env := by rfl) (hpl : (backTo pos (starEach [e2] X.env)).any (·.1) = false := by rfl) :
    VE X (.Call (.Name "min" p) [e, e2] [] pos) (fCa (gD (c2 min2)) fa) := ve_callB (call_min2 hc) ca_min2 hm bt_min ha hg (by decide) (by decide) he hpl
theorem ve_max1 (hc : X.calm = true) (hm : X.mg "max" = none) (ha : VA X [e] fa) (hg : Gl X "max" := by rfl) (he : starEach [e] X.env = (false, eval e X.env) :: starEach [] X.env := by rfl) (hpl : (backTo pos (starEach [] X.env)).any (·.1) = false := by rfl) :
    VE X (.Call (.Name "max" p) [e] [] pos) (fCa (gD (c1 maxD)) fa) := ve_callB (cr_max hc) ca_max hm bt_max ha hg (by decide) (by decide) he hpl
theorem ve_min1 (hc : X.calm = true) (hm : X.mg "min" = none) (ha : VA X [e] fa) (hg : Gl X "min" := by rfl) (he : starEach [e] X.env = (false, eval e X.env) :: starEach [] X.env := by rfl) (hpl : (backTo pos (starEach [] X.env)).any (·.1) = false := by rfl) :
    VE X (.Call (.Name "min" p) [e] [] pos) (fCa (gD (c1 minD)) fa) := ve_callB (cr_min hc) ca_min hm bt_min ha hg (by decide) (by decide) he hpl
theorem ve_sum (hc : X.calm = true) (hm : X.mg "sum" = none) (ha : VA X [e] fa) (hg : Gl X "sum" := by rfl) (he : starEach [e] X.env = (false, eval e X.env) :: starEach [] X.env := by rfl) (hpl : (backTo pos (starEach [] X.env)).any (·.1) = false := by rfl) :
    VE X (.Call (.Name "sum" p) [e] [] pos) (fCa (gD (c1 sumD)) fa) := ve_callB (cr_sum hc) ca_sum hm bt_sum ha hg (by decide) (by decide) he hpl
theorem ve_all (hc : X.calm = true) (hm : X.mg "all" = none) (ha : VA X [e] fa) (hg : Gl X "all" := by rfl) (he : starEach [e] X.env = (false, eval e X.env) :: starEach [] X.env := by rfl) (hpl : (backTo pos (starEach [] X.env)).any (·.1) = false := by rfl) :
    VE X (.Call (.Name "all" p) [e] [] pos) (fCa (gD (c1 allD)) fa) := ve_callB (cr_all hc) ca_all hm bt_all ha hg (by decide) (by decide) he hpl
theorem ve_any (hc : X.calm = true) (hm : X.mg "any" = none) (ha : VA X [e] fa) (hg : Gl X "any" := by rfl) (he : starEach [e] X.env = (false, eval e X.env) :: starEach [] X.env := by rfl) (hpl : (backTo pos (starEach [] X.env)).any (·.1) = false := by rfl) :
    VE X (.Call (.Name "any" p) [e] [] pos) (fCa (gD (c1 anyD)) fa) := ve_callB (cr_any hc) ca_any hm bt_any ha hg (by decide) (by decide) he hpl
theorem ve_sorted (hm : X.mg "sorted" = none) (ha : VA X [e] fa) (hg : Gl X "sorted" := by rfl) (he : starEach [e] X.env = (false, eval e X.env) :: starEach [] X.env := by rfl) (hpl : (backTo pos (starEach [] X.env)).any (·.1) = false := by rfl) :
    VE X (.Call (.Name "sorted" p) [e] [] pos) (fCa (gD (c1 srtD)) fa) := ve_callB (CallR.or cr_sortedI cr_sortedIT) ca_srt hm bt_sorted ha hg (by decide) (by decide) he hpl
theorem ve_repr (hr : RoomG k X.A) (hm : X.mg "repr" = none) (ha : VA X [e] fa) (hg : Gl X "repr" := by rfl) (he : starEach [e] X.env = (false, eval e X.env) :: starEach [] X.env := by rfl) (hpl : (backTo pos (starEach [] X.env)).any (·.1) = false := by rfl) :
    VE X (.Call (.Name "repr" p) [e] [] pos) (fCa (gD (c1 repD)) fa) := ve_callB (cr_repr hr.rm.units hr.gd) ca_rep hm bt_repr ha hg (by decide) (by decide) he hpl
theorem ve_divmod (hm : X.mg "divmod" = none) (ha : VA X [e, e2] fa) (hg : Gl X "divmod" := by rfl) (he : starEach [e, e2] X.env = (false, eval e X.env) :: starEach [e2] X.env := by rfl) (hpl : (backTo pos (starEach [e2] X.env)).any (·.1) = false := by rfl) :
    VE X (.Call (.Name "divmod" p) [e, e2] [] pos) (fCa (gD (c2 dmod)) fa) := ve_callB call_divmod ca_dmod hm bt_divmod ha hg (by decide) (by decide) he hpl
theorem ve_toInt (hm : X.mg "int" = none) (ha : VA X [e] fa) (hg : Gl X "int" := by rfl) (he : starEach [e] X.env = (false, eval e X.env) :: starEach [] X.env := by rfl) (hpl : (backTo pos (starEach [] X.env)).any (·.1) = false := by rfl) :
    VE X (.Call (.Name "int" p) [e] [] pos) (fCa (gD (c1 intD)) fa) := ve_callTy call_int1 ca_int hm bt_int ha hg (by decide) (by decide) he hpl
theorem ve_toTup (hm : X.mg "tuple" = none) (ha : VA X [e] fa) (hg : Gl X "tuple" := by rfl) (he : starEach [e] X.env = (false, eval e X.env) :: starEach [] X.env := by rfl) (hpl : (backTo pos (starEach [] X.env)).any (·.1) = false := by rfl) :
    VE X (.Call (.Name "tuple" p) [e] [] pos) (fCa (gD (c1 tupD)) fa) := ve_callTy call_tuple_of ca_tup hm bt_tuple ha hg (by decide) (by decide) he hpl
theorem ve_toLst (hm : X.mg "list" = none) (ha : VA X [e] fa) (hg : Gl X "list" := by rfl) (he : starEach [e] X.env = (false, eval e X.env) :: starEach [] X.env := by rfl) (hpl : (backTo pos (starEach [] X.env)).any (·.1) = false := by rfl) :
    VE X (.Call (.Name "list" p) [e] [] pos) (fCa (gD (c1 lstD)) fa) := ve_callTy call_list_of ca_lst hm bt_list ha hg (by decide) (by decide) he hpl
theorem ve_toLstM (hm : X.mg "list" = none) (ha : VA X [e] fa) (hg : Gl X "list" := by rfl) (he : starEach [e] X.env = (false, eval e X.env) :: starEach [] X.env := by rfl) (hpl : (backTo pos (starEach [] X.env)).any (·.1) = false := by rfl) :
    VE X (.Call (.Name "list" p) [e] [] pos) (fCa (gDM lstX) fa) := ve_callTy call_list_of ca_lstM hm bt_list ha hg (by decide) (by decide) he hpl
end
end DL
/-! ### keywords; a repeated list that may be written -/
namespace DL
open PySem PySem.Spec PyProof.Rows L2
/-- values put in the parameters' order -/
def gsel (na nk : Nat) (idx : List Nat) {α : Type} (us ws : List α) : List α := if us.length = na ∧ ws.length = nk then idx.filterMap (fun i => (us ++ ws)[i]?) else []
theorem vals_sel {vs : List V} {us : List Value} (r : Vals vs us) : ∀ idx : List Nat, Vals (idx.filterMap fun i => vs[i]?) (idx.filterMap fun i => us[i]?)
  | [] => .nil
  | i :: idx => by
    cases e : vs[i]? with
    | none =>
      rw [List.filterMap_cons_none e, List.filterMap_cons_none (r.none_of e)]
      exact vals_sel r idx
    | some x =>
      obtain ⟨u, h1, h2⟩ := r.get e
      rw [List.filterMap_cons_some e, List.filterMap_cons_some h1]
      exact .cons h2 (vals_sel r idx)
theorem RepVs.append {K : PySem.W.Frag} {Hi : Hp} {ms : List Addr} : ∀ {vs us : List V} {as bs : List DV}, RepVs K Hi ms vs as → RepVs K Hi ms us bs → RepVs K Hi ms (vs ++ us) (as ++ bs)
  | _, _, _, _, .nil, h => h
  | _, _, _, _, .cons h t, g => .cons h (RepVs.append t g)
theorem RepVs.nth {K : PySem.W.Frag} {Hi : Hp} {ms : List Addr} : ∀ {vs : List V} {as : List DV} (i : Nat), RepVs K Hi ms vs as → (vs[i]? = none ∧ as[i]? = none) ∨ ∃ v a, vs[i]? = some v ∧ as[i]? = some a ∧ RepV K Hi ms v a
  | _, _, _, .nil => .inl ⟨by simp, by simp⟩
  | _, _, 0, .cons h _ => .inr ⟨_, _, rfl, rfl, h⟩
  | _, _, i + 1, .cons _ t => by simpa using RepVs.nth i t
theorem reps_sel {K : PySem.W.Frag} {Hi : Hp} {ms : List Addr} {vs : List V} {as : List DV} (r : RepVs K Hi ms vs as) : ∀ idx : List Nat, RepVs K Hi ms (idx.filterMap fun i => vs[i]?) (idx.filterMap fun i => as[i]?)
  | [] => .nil
  | i :: idx => by
    rcases r.nth i with ⟨h1, h2⟩ | ⟨v, a, h1, h2, h3⟩
    · rw [List.filterMap_cons_none h1, List.filterMap_cons_none h2]
      exact reps_sel r idx
    · rw [List.filterMap_cons_some h1, List.filterMap_cons_some h2]
      exact .cons h3 (reps_sel r idx)
theorem kb_mk {K : PySem.W.Frag} {x qual : Str} {st : Stmt} {f : Addr} {fd : FuncData} {ps ks : List Str} (na nk : Nat) (idx : List Nat) (F : Fun K x qual st f fd) (hn : ps.length ≠ 0)
    (h : ∀ (kV doc pm : Value) (an : Option Addr) (cdv ct : Value) (us ws : List Value), us.length = na → ws.length = nk → bindArgs (PySem.W.fnOf x qual (defArgs st) (defBody st) (defScope st) .none kV doc pm an cdv ct) ⟨us, ks.zip ws⟩ = pure (ps.zip (gsel na nk idx us ws))) :
    KB K fd ps ks (gsel na nk idx) where
  to := fun s us ws _ hl => by
    obtain ⟨oc, od, kV, doc, pm, an, cdv, ct, osl, rfl, lk, hcd⟩ := F.ex
    by_cases hz : us.length = na ∧ ws.length = nk
    · exact .of_eq (h kV doc pm an cdv ct us ws hz.1 hz.2)
    · unfold gsel at hl
      rw [if_neg hz] at hl
      exact absurd hl.symm hn
  rel := fun {vs us zs ws} r rz => by
    unfold gsel
    rw [r.length, rz.length]
    split
    · exact vals_sel (r.append rz) idx
    · exact .nil
  rep := fun {Hi ms vs zs as bs} r rz => by
    unfold gsel
    rw [r.length, rz.length]
    split
    · exact reps_sel (r.append rz) idx
    · exact .nil
/-- xs * n, n * xs never: a repeated list that may be written -/
def mulX : PyData → PyData → Option (List PyData)
  | .list xs, .int k => if -(2 ^ 63) ≤ k ∧ k < 2 ^ 63 ∧ xs.length * k.toNat ≤ 1000 then some (List.replicate k.toNat xs).flatten else none
  | _, _ => none
def fMulM (fa fb : FE) : FE := fun env => bindM (fa env) fun a => bindM (fb env) fun b => bindM (rdV a) fun x => bindM (rdV b) fun y => bindM (liftO (mulX x y)) mkM
theorem ve_mulM {X : Cx} {a b : Expr} {fa fb : FE} {pos : Pos} (ha : VE X a fa) (hb : VE X b fb) : VE X (.BinOp a .Mult b pos) (fMulM fa fb) := PE.imp (pe_op op_rep ha hb) fun σ H Q h => by
  obtain ⟨Hi, ms, st, env, dv, st', h1, h2, h3, h4⟩ := h
  obtain ⟨a, s1, e1, k1⟩ := bindM_eq h3
  obtain ⟨b, s2, e2, k2⟩ := bindM_eq k1
  obtain ⟨x, s3, e3, k3⟩ := bindM_eq k2
  obtain ⟨y, s4, e4, k4⟩ := bindM_eq k3
  obtain ⟨d, s5, e5, k5⟩ := bindM_eq k4
  obtain ⟨e6, rfl⟩ := liftO_eq e5
  refine ⟨Hi, ms, st, env, a, s1, h1, h2, e1, fun Hi1 ms1 H1 ga q1 v1 r1 => ?_⟩
  refine ⟨Hi1, ms1, s1, env, b, s2, q1, h2.mono ga, e2, fun Hi2 ms2 H2 gb q2 v2 r2 => ?_⟩
  obtain ⟨rfl, ra⟩ := q2.rd (r1.mono gb) e3
  obtain ⟨rfl, rb⟩ := q2.rd r2 e4
  cases ra <;> cases rb <;> simp only [mulX, reduceCtorEq] at e6
  rename_i A xs ds g1 g2 k
  split at e6
  · rename_i hz
    cases e6
    have rr := g2.rep k.toNat
    obtain ⟨z1, z2⟩ := take_M Hi2 ms2 _ _ H2 _ _ dv Q q2 rr k5 (h4.on (ga.trans q1 gb) q2)
    exact ⟨A, k, xs, rfl, rfl, g1, hz.1, hz.2.1, le1000 (by rw [g2.length]; exact hz.2.2), z2⟩
  · cases e6
end DL
/-! ### the module's constants -/
namespace DL
open PySem PySem.Spec PyProof.Rows L2
section
variable {K : PySem.W.Frag} {mg : Str → Option Value} {x : Str}
theorem GlC.int {i : Int} {t : Tok} (h : mg x = some (.int i t)) : GlC K mg x (.int i) := ⟨.int i, _, h, ⟨t, rfl⟩, fun _ => .int i⟩
theorem GlC.bl {b : Bool} (h : mg x = some (.bool b)) : GlC K mg x (.bool b) := ⟨.bl b, _, h, rfl, fun _ => .bl b⟩
theorem GlC.str {s : Str} {t : Tok} (h : mg x = some (.str s t)) : GlC K mg x (.str s) := ⟨.str s, _, h, ⟨t, rfl⟩, fun _ => .str s⟩
theorem GlC.tup {a : Addr} {its : Array Value} {n : Nat} {y : Option Addr} {w : Array (Option Value)} {ns : List Int} (h : mg x = some (.ref a)) (l : K.lookup a = some ⟨.type "tuple", y, .seq its n, w⟩) (hz : its.size ≤ sizeLine) (r : Vals (ns.map V.int) its.toList) :
    GlC K mg x (.tuple (ns.map .int)) := ⟨.ref a, _, h, rfl, fun _ => .tup (.inr ⟨_, its, n, l, rfl, rfl, hz, r⟩) (RpA.ints ns)⟩
theorem RpA.strs {H : Hp} : ∀ (ns : List Str), RpA K H (ns.map V.str) (ns.map PyData.str)
  | [] => .nil
  | n :: ns => .cons (.str n) (RpA.strs ns)
theorem GlC.tupS {a : Addr} {its : Array Value} {n : Nat} {y : Option Addr} {w : Array (Option Value)} {ns : List Str} (h : mg x = some (.ref a)) (l : K.lookup a = some ⟨.type "tuple", y, .seq its n, w⟩) (hz : its.size ≤ sizeLine) (r : Vals (ns.map V.str) its.toList) :
    GlC K mg x (.tuple (ns.map .str)) := ⟨.ref a, _, h, rfl, fun _ => .tup (.inr ⟨_, its, n, l, rfl, rfl, hz, r⟩) (RpA.strs ns)⟩
end
end DL
/-! ### what a mirror answers: a calculus -/
namespace DL
open PySem PySem.Spec PyProof.Rows L2
def Ok {α : Type} (m : M α) (st : Sto) (Q : α → Sto → Prop) : Prop := ∃ a st', m st = some (a, st') ∧ Q a st'
section
variable {α β : Type} {st : Sto} {Q : α → Sto → Prop}
theorem ok_ret {a : α} : Ok (retM a) st Q ↔ Q a st := ⟨fun ⟨b, s, e, q⟩ => by obtain ⟨rfl, rfl⟩ := retM_eq e; exact q, fun q => ⟨a, st, rfl, q⟩⟩
theorem ok_bind {m : M β} {k : β → M α} : Ok (bindM m k) st Q ↔ Ok m st fun b s => Ok (k b) s Q := by
  constructor
  · rintro ⟨a, s, e, q⟩
    obtain ⟨b, s1, e1, e2⟩ := bindM_eq e
    exact ⟨b, s1, e1, a, s, e2, q⟩
  · rintro ⟨b, s1, e1, a, s, e2, q⟩
    exact ⟨a, s, by unfold bindM; rw [e1]; exact e2, q⟩
theorem ok_fail : Ok (failM : M α) st Q ↔ False := ⟨fun ⟨_, _, e, _⟩ => (nomatch e), False.elim⟩
theorem ok_some {a : α} : Ok (liftO (some a)) st Q ↔ Q a st := ⟨fun ⟨b, s, e, q⟩ => by obtain ⟨e1, rfl⟩ := liftO_eq e; cases e1; exact q, fun q => ⟨a, st, rfl, q⟩⟩
theorem ok_none : Ok (liftO (none : Option α)) st Q ↔ False := ⟨fun ⟨_, _, e, _⟩ => (nomatch e), False.elim⟩
theorem ok_if {c : Prop} [Decidable c] {m n : M α} : Ok (if c then m else n) st Q ↔ (c → Ok m st Q) ∧ (¬ c → Ok n st Q) := by
  by_cases h : c
  · rw [if_pos h]; exact ⟨fun q => ⟨fun _ => q, fun z => absurd h z⟩, fun q => q.1 h⟩
  · rw [if_neg h]; exact ⟨fun q => ⟨fun z => absurd z h, fun _ => q⟩, fun q => q.2 h⟩
theorem ok_ifF {c : Prop} [Decidable c] {m : M α} : Ok (if c then m else failM) st Q ↔ c ∧ Ok m st Q := by
  by_cases h : c
  · rw [if_pos h]; exact ⟨fun q => ⟨h, q⟩, fun q => q.2⟩
  · rw [if_neg h, ok_fail]; exact ⟨False.elim, fun q => h q.1⟩
theorem ok_lif {c : Prop} [Decidable c] {a : α} : Ok (liftO (if c then some a else none)) st Q ↔ c ∧ Q a st := by
  by_cases h : c
  · rw [if_pos h, ok_some]; exact ⟨fun q => ⟨h, q⟩, fun q => q.2⟩
  · rw [if_neg h, ok_none]; exact ⟨False.elim, fun q => h q.1⟩
theorem ok_mono {m : M α} {Q' : α → Sto → Prop} (h : Ok m st Q) (w : ∀ a s, Q a s → Q' a s) : Ok m st Q' := let ⟨a, s, e, q⟩ := h; ⟨a, s, e, w a s q⟩
theorem ok_eq {m : M α} {a : α} {s : Sto} (h : m st = some (a, s)) : Ok m st Q ↔ Q a s := ⟨fun ⟨b, s', e, q⟩ => by rw [h] at e; cases e; exact q, fun q => ⟨a, s, h, q⟩⟩
theorem eq_ok {m : M α} {a : α} {s : Sto} (h : Ok m st fun b s' => b = a ∧ s' = s) : m st = some (a, s) := by
  obtain ⟨b, s', e, rfl, rfl⟩ := h; exact e
theorem ok_var {i : Nat} {env : DEnv} {Q : DV → Sto → Prop} : Ok (fVar i env) st Q ↔ match env[i]? with
    | some (some d) => Q d st
    | _ => False := by
  unfold fVar
  cases h : env[i]? with
  | none => exact ⟨fun ⟨_, _, e, _⟩ => by simp only [h, reduceCtorEq] at e, False.elim⟩
  | some o =>
    cases o with
    | none => exact ⟨fun ⟨_, _, e, _⟩ => by simp only [h, reduceCtorEq] at e, False.elim⟩
    | some d => exact ⟨fun ⟨_, _, e, q⟩ => by simp only [h] at e; cases e; exact q, fun q => ⟨d, st, by simp only [h], q⟩⟩
theorem ok_C {d : PyData} {env : DEnv} {Q : DV → Sto → Prop} : Ok (fC d env) st Q ↔ Q (.im d) st := ok_ret
theorem ok_rdim {d : PyData} {Q : PyData → Sto → Prop} : Ok (rdV (.im d)) st Q ↔ Q d st := ok_ret
theorem ok_toim {d : PyData} {Q : PyData → Sto → Prop} : Ok (toD (.im d)) st Q ↔ Q d st := ok_ret
theorem ok_bin {g : PyData → PyData → Option PyData} {fa fb : FE} {env : DEnv} {Q : DV → Sto → Prop} : Ok (fBin g fa fb env) st Q ↔ Ok (fa env) st fun a s => Ok (fb env) s fun b s => Ok (rdV a) s fun x s => Ok (rdV b) s fun y s => Ok (liftO (g x y)) s fun d s => Q (.im d) s := by
  simp only [fBin, ok_bind, ok_ret]
theorem ok_rdmu {i : Nat} {Q : PyData → Sto → Prop} : Ok (rdV (.mu i)) st Q ↔ ∃ b xs, st[i]? = some (b, xs) ∧ Q (.list xs) st := by
  constructor
  · rintro ⟨a, s, e, q⟩
    cases h : st[i]? with
    | none => simp only [rdV, h, reduceCtorEq] at e
    | some c =>
      obtain ⟨b, xs⟩ := c
      simp only [rdV, h] at e
      cases e
      exact ⟨b, xs, rfl, q⟩
  · rintro ⟨b, xs, h, q⟩
    exact ⟨_, _, by simp only [rdV, h], q⟩
/-- a call: the cells made within go -/
theorem ok_callD {n : Nat} {b : FS} {dvs : List DV} {Q : DV → Sto → Prop} : Ok (callD n b dvs) st Q ↔ Ok (b (startD n dvs)) st fun o s => Ok (outD o) s fun d s => Q (.im d) (s.take st.length) := by
  constructor
  · rintro ⟨a, s, e, q⟩
    obtain ⟨o, s1, d, s2, e1, e2, rfl, rfl⟩ := callD_eq e
    exact ⟨o, s1, e1, d, s2, e2, q⟩
  · rintro ⟨o, s1, e1, d, s2, e2, q⟩
    refine ⟨_, _, ?_, q⟩
    unfold callD bindM
    simp only [e1, e2]
end

/-! ### loops -/
section
variable {α : Type} {st : Sto}
theorem ok_for0 {body : PyData → FS} {env : DEnv} {Q : Out → Sto → Prop} : Ok (forM [] body [] env) st Q ↔ Q (.nx env) st := ok_eq (forM_nil live_nil)
theorem ok_forM {dep : Dep} {body : PyData → FS} {d : PyData} {ds : List PyData} {env : DEnv} {Q : Out → Sto → Prop} (h : Live dep st) : Ok (forM dep body (d :: ds) env) st Q ↔ Ok (body d env) st fun o s => Ok (match o with
    | .nx e => forM dep body ds e
    | .ct e => forM dep body ds e
    | .bk e => retM (.nx e)
    | .rt d => retM (.rt d)) s Q := by
  unfold Ok
  rw [forM_cons h]
  exact ok_bind
/-- the rule for a loop over a list that stands: I, by what is left to do -/
theorem ok_loop {body : PyData → FS} {Q : Out → Sto → Prop} (I : List PyData → DEnv → Sto → Prop)
    (hs : ∀ d ds env s, I (d :: ds) env s → Ok (body d env) s fun o s' => match o with
      | .nx e => I ds e s'
      | .ct e => I ds e s'
      | .bk e => Q (.nx e) s'
      | .rt d => Q (.rt d) s')
    (hd : ∀ env s, I [] env s → Q (.nx env) s) : ∀ (ds : List PyData) (env : DEnv) (s : Sto), I ds env s → Ok (forM [] body ds env) s Q
  | [], env, s, h => ok_for0.mpr (hd env s h)
  | d :: ds, env, s, h => by
    rw [ok_forM live_nil]
    refine ok_mono (hs d ds env s h) fun o s' q => ?_
    cases o with
    | nx e => exact ok_loop I hs hd ds e s' q
    | ct e => exact ok_loop I hs hd ds e s' q
    | bk e => exact ok_ret.mpr q
    | rt d => exact ok_ret.mpr q
theorem ok_lc0 {body : PyData → M (Option DV)} {Q : List PyData → Sto → Prop} : Ok (lcM [] body []) st Q ↔ Q [] st := ok_eq (lcM_nil live_nil)
theorem ok_lcM {dep : Dep} {body : PyData → M (Option DV)} {d : PyData} {ds : List PyData} {Q : List PyData → Sto → Prop} (h : Live dep st) : Ok (lcM dep body (d :: ds)) st Q ↔ Ok (body d) st fun r s => Ok (match r with
    | none => lcM dep body ds
    | some v => bindM (toD v) fun x => bindM (lcM dep body ds) fun xs => retM (x :: xs)) s Q := by
  unfold Ok
  rw [lcM_cons h]
  exact ok_bind
/-- a comprehension whose turns leave the cells as they are: each turn answers F -/
theorem lc_pure {body : PyData → M (Option DV)} {s : Sto} (F : PyData → Option PyData) : ∀ (ds : List PyData), (∀ d ∈ ds, body d s = some ((F d).map .im, s)) → lcM [] body ds s = some (ds.filterMap F, s)
  | [], _ => lcM_nil live_nil
  | d :: ds, h => by
    rw [lcM_cons live_nil]
    have e := h d (by simp)
    have ih := lc_pure F ds fun x hx => h x (by simp [hx])
    cases q : F d with
    | none =>
      rw [q] at e
      simp only [Option.map_none] at e
      simp only [bindM, e]
      rw [List.filterMap_cons_none q]
      exact ih
    | some x =>
      rw [q] at e
      simp only [Option.map_some] at e
      simp only [bindM, e, toD, retM, ih]
      rw [List.filterMap_cons_some q]
theorem lc_map {body : PyData → M (Option DV)} {s : Sto} (F : PyData → PyData) (ds : List PyData) (h : ∀ d ∈ ds, body d s = some (some (.im (F d)), s)) : lcM [] body ds s = some (ds.map F, s) := by
  rw [lc_pure (fun d => some (F d)) ds h, List.filterMap_eq_map']
/-- .. and where the cells change -/
theorem ok_lcloop {body : PyData → M (Option DV)} {Q : List PyData → Sto → Prop} (I : List PyData → List PyData → Sto → Prop)
    (hs : ∀ d ds acc s, I (d :: ds) acc s → Ok (body d) s fun r s' => match r with
      | none => I ds acc s'
      | some v => Ok (toD v) s' fun x s'' => I ds (acc ++ [x]) s'')
    (hd : ∀ acc s, I [] acc s → Q acc s) : ∀ (ds acc : List PyData) (s : Sto), I ds acc s → Ok (lcM [] body ds) s fun xs s' => Q (acc ++ xs) s'
  | [], acc, s, h => ok_lc0.mpr (by rw [List.append_nil]; exact hd acc s h)
  | d :: ds, acc, s, h => by
    rw [ok_lcM live_nil]
    refine ok_mono (hs d ds acc s h) fun r s' q => ?_
    cases r with
    | none => exact ok_lcloop I hs hd ds acc s' q
    | some v =>
      refine ok_bind.mpr (ok_mono q fun x s'' q' => ok_bind.mpr (ok_mono (ok_lcloop I hs hd ds (acc ++ [x]) s'' q') fun xs s3 q3 => ok_ret.mpr ?_))
      rw [List.append_assoc] at q3
      exact q3
/-- while: a measure that falls -/
theorem ok_while {c : FT} {b : FS} {Q : Out → Sto → Prop} (I : Nat → DEnv → Sto → Prop)
    (hs : ∀ m env s, I m env s → Ok (c env) s fun k s1 => if k = true then Ok (b env) s1 fun o s' => match o with
      | .nx e => ∃ m', m' < m ∧ I m' e s'
      | .ct e => ∃ m', m' < m ∧ I m' e s'
      | .bk e => Q (.nx e) s'
      | .rt d => Q (.rt d) s' else Q (.nx env) s1) {m : Nat} {env : DEnv} {s : Sto} (h : I m env s) : Ok (fWhile c b env) s Q := by
  have key : ∀ (m : Nat) (env : DEnv) (s : Sto), I m env s → ∃ n o s', whileM c b n env s = some (o, s') ∧ Q o s' := by
    intro m
    induction m using Nat.strongRecOn with
    | _ m ih =>
      intro env s h
      obtain ⟨k, s1, e1, q1⟩ := hs m env s h
      cases k with
      | false => exact ⟨1, .nx env, s1, by simp only [whileM, bindM, e1]; rfl, q1⟩
      | true =>
        obtain ⟨o, s2, e2, q2⟩ := q1
        have step : ∀ (e : DEnv) (s2 : Sto), (∃ m', m' < m ∧ I m' e s2) → ∃ n o s', whileM c b n e s2 = some (o, s') ∧ Q o s' := fun e s2 ⟨m', hm, hi⟩ => ih m' hm e s2 hi
        cases o with
        | nx e =>
          obtain ⟨n, o, s3, e3, q3⟩ := step e s2 q2
          exact ⟨n + 1, o, s3, by simp only [whileM, bindM, e1, e2, if_true]; exact e3, q3⟩
        | ct e =>
          obtain ⟨n, o, s3, e3, q3⟩ := step e s2 q2
          exact ⟨n + 1, o, s3, by simp only [whileM, bindM, e1, e2, if_true]; exact e3, q3⟩
        | bk e => exact ⟨1, .nx e, s2, by simp only [whileM, bindM, e1, e2, if_true]; rfl, q2⟩
        | rt d => exact ⟨1, .rt d, s2, by simp only [whileM, bindM, e1, e2, if_true]; rfl, q2⟩
  obtain ⟨n, o, s', e, q⟩ := key m env s h
  exact ⟨o, s', fWhile_eq e, q⟩
end
end DL
/-! ### .. of the tests and the operators -/
namespace DL
open PySem PySem.Spec PyProof.Rows L2
section
variable {st : Sto} {env : DEnv}
theorem ok_fTst {f : FE} {Q : Bool → Sto → Prop} : Ok (fTst f env) st Q ↔ Ok (f env) st fun a s => match a with
    | .im (.bool b) => Q b s
    | _ => False := by
  unfold fTst
  rw [ok_bind]
  constructor
  · refine fun h => ok_mono h fun a s q => ?_
    split at q
    · exact ok_ret.mp q
    · exact (ok_fail.mp q).elim
  · refine fun h => ok_mono h fun a s q => ?_
    split at q
    · exact ok_ret.mpr q
    · exact q.elim
theorem ok_fNot {f : FE} {Q : DV → Sto → Prop} : Ok (fNot f env) st Q ↔ Ok (f env) st fun a s => match a with
    | .im (.bool b) => Q (.im (.bool (!b))) s
    | _ => False := by
  unfold fNot
  rw [ok_bind]
  constructor
  · refine fun h => ok_mono h fun a s q => ?_
    split at q
    · exact ok_ret.mp q
    · exact (ok_fail.mp q).elim
  · refine fun h => ok_mono h fun a s q => ?_
    split at q
    · exact ok_ret.mpr q
    · exact q.elim
theorem ok_fAnd {f g : FE} {Q : DV → Sto → Prop} : Ok (fAnd f g env) st Q ↔ Ok (f env) st fun a s => match a with
    | .im (.bool b) => if b = true then Ok (g env) s Q else Q (.im (.bool false)) s
    | _ => False := by
  unfold fAnd
  rw [ok_bind]
  constructor
  · refine fun h => ok_mono h fun a s q => ?_
    split at q
    · rename_i b
      cases b
      · exact ok_ret.mp q
      · exact q
    · exact (ok_fail.mp q).elim
  · refine fun h => ok_mono h fun a s q => ?_
    split at q
    · rename_i b
      cases b
      · exact ok_ret.mpr q
      · exact q
    · exact q.elim
theorem ok_fOr {f g : FE} {Q : DV → Sto → Prop} : Ok (fOr f g env) st Q ↔ Ok (f env) st fun a s => match a with
    | .im (.bool b) => if b = true then Q (.im (.bool true)) s else Ok (g env) s Q
    | _ => False := by
  unfold fOr
  rw [ok_bind]
  constructor
  · refine fun h => ok_mono h fun a s q => ?_
    split at q
    · rename_i b
      cases b
      · exact q
      · exact ok_ret.mp q
    · exact (ok_fail.mp q).elim
  · refine fun h => ok_mono h fun a s q => ?_
    split at q
    · rename_i b
      cases b
      · exact q
      · exact ok_ret.mpr q
    · exact q.elim
theorem ok_chn {g g' : PyData → PyData → Option PyData} {fa fb fc : FE} {Q : DV → Sto → Prop} : Ok (fChn g g' fa fb fc env) st Q ↔ Ok (fa env) st fun a s => Ok (fb env) s fun b s => Ok (rdV a) s fun x s => Ok (rdV b) s fun y s => Ok (liftO (g x y)) s fun d s => match d with
    | .bool k => if k = true then Ok (fc env) s fun c s => Ok (rdV b) s fun y s => Ok (rdV c) s fun z s => Ok (liftO (g' y z)) s fun d s => Q (.im d) s else Q (.im (.bool false)) s
    | _ => False := by
  unfold fChn
  simp only [ok_bind]
  constructor
  · refine fun h => ok_mono h fun a s h => ok_mono h fun b s h => ok_mono h fun x s h => ok_mono h fun y s h => ok_mono h fun d s q => ?_
    split at q
    · rename_i k
      cases k
      · exact ok_ret.mp q
      · simpa only [if_true, ok_bind, ok_ret] using q
    · exact (ok_fail.mp q).elim
  · refine fun h => ok_mono h fun a s h => ok_mono h fun b s h => ok_mono h fun x s h => ok_mono h fun y s h => ok_mono h fun d s q => ?_
    split at q
    · rename_i k
      cases k
      · exact ok_ret.mpr q
      · simpa only [if_true, ok_bind, ok_ret] using q
    · exact q.elim
theorem ok_len1 {d : PyData} {Q : DV → Sto → Prop} : Ok (cLen [.im d]) st Q ↔ match d with
    | .list xs => Q (.im (.int xs.length)) st
    | .tuple xs => Q (.im (.int xs.length)) st
    | _ => False := by
  cases d <;> first | exact ok_ret | exact ok_fail
theorem eqv_int {a b : Int} : PyData.eqv (.int a) (.int b) = decide (a = b) := by
  first | rfl | (unfold PyData.eqv; rfl) | (simp [PyData.eqv]; done)
theorem gEq_int {a b : Int} : gEq (.int a) (.int b) = some (.bool (decide (a = b))) := by
  show (if SeqAt.shaped (.int a) = true ∧ SeqAt.shaped (.int b) = true then some (PyData.eqv (.int a) (.int b)) else none).map PyData.bool = _
  rw [if_pos ⟨rfl, rfl⟩, eqv_int]; rfl
theorem gNe_int {a b : Int} : gNe (.int a) (.int b) = some (.bool (!decide (a = b))) := by
  show ((if SeqAt.shaped (.int a) = true ∧ SeqAt.shaped (.int b) = true then some (PyData.eqv (.int a) (.int b)) else none).map fun b => PyData.bool (!b)) = _
  rw [if_pos ⟨rfl, rfl⟩, eqv_int]; rfl
theorem gNe_str {a b : Str} : gNe (.str a) (.str b) = some (.bool (!(a == b))) := rfl
theorem gEq_str {a b : Str} : gEq (.str a) (.str b) = some (.bool (a == b)) := rfl
end
end DL
/-! ### rules for comprehensions and loops -/
namespace DL
open PySem
abbrev L2CMul := L2.CMul
section
variable {st : Sto} {fi : FI} {g : FG} {ft : FT} {fe : FE} {vs : List Nat} {env : DEnv}
theorem ok_lc {mk : List PyData → M DV} {Q : DV → Sto → Prop} : Ok (fLcW mk fi g ft fe vs env) st Q ↔ Ok (fi env) st fun it s => Ok (lcM it.2 (lcBody g ft fe (wipeD env vs)) it.1) s fun xs s => Ok (mk xs) s Q := by
  unfold fLcW
  simp only [ok_bind]
theorem ok_lcBody {d : PyData} {Q : Option DV → Sto → Prop} : Ok (lcBody g ft fe env d) st Q ↔ Ok (g (.im d) env) st fun e s => Ok (ft e) s fun b s => if b = true then Ok (fe e) s fun v s => Q (some v) s else Q none s := by
  unfold lcBody
  simp only [ok_bind]
  constructor
  · refine fun h => ok_mono h fun a s h => ok_mono h fun b s h => ?_
    cases b
    · exact ok_ret.mp h
    · simpa only [if_true, ok_bind, ok_ret] using h
  · refine fun h => ok_mono h fun a s h => ok_mono h fun b s h => ?_
    cases b
    · exact ok_ret.mpr h
    · simpa only [if_true, ok_bind, ok_ret] using h
theorem ok_for {fb : FS} {Q : Out → Sto → Prop} : Ok (fFor fi g fb env) st Q ↔ Ok (fi env) st fun it s => Ok (forM it.2 (fun d e => bindM (g (.im d) e) fb) it.1 env) s Q := by
  unfold fFor
  simp only [ok_bind]
theorem ok_newM {ds : List PyData} {Q : DV → Sto → Prop} : Ok (newMu ds) st Q ↔ Q (.mu st.length) (st ++ [(true, ds)]) := ok_eq rfl
/-- items of any kind, no cell touched -/
theorem lc_pureA {α : Type} {body : PyData → M (Option DV)} {s : Sto} (enc : α → PyData) (F : α → Option PyData) : ∀ (l : List α), (∀ x ∈ l, Ok (body (enc x)) s fun r s' => r = (F x).map .im ∧ s' = s) → lcM [] body (l.map enc) s = some (l.filterMap F, s)
  | [], _ => lcM_nil live_nil
  | x :: l, h => by
    rw [List.map_cons, lcM_cons live_nil]
    obtain ⟨r, s', e, rfl, rfl⟩ := h x (by simp)
    have ih := lc_pureA enc F l fun y hy => h y (by simp [hy])
    cases q : F x with
    | none =>
      rw [q] at e
      simp only [Option.map_none] at e
      simp only [bindM, e]
      rw [List.filterMap_cons_none q]
      exact ih
    | some y =>
      rw [q] at e
      simp only [Option.map_some] at e
      simp only [bindM, e, toD, retM, ih]
      rw [List.filterMap_cons_some q]
theorem lc_mapA {α : Type} {body : PyData → M (Option DV)} {s : Sto} (enc : α → PyData) (F : α → PyData) (l : List α) (h : ∀ x ∈ l, Ok (body (enc x)) s fun r s' => r = some (.im (F x)) ∧ s' = s) : lcM [] body (l.map enc) s = some (l.map F, s) := by
  rw [lc_pureA enc (fun x => some (F x)) l h, List.filterMap_eq_map']
/-- ints, each with its word P; the cells keep J -/
theorem lc_rel {β : Type} {body : PyData → M (Option DV)} (dec : β → PyData) (J : Sto → Prop) (P : PyData → β → Prop) : ∀ (ds : List PyData), (∀ d ∈ ds, ∀ s, J s → Ok (body d) s fun r s' => ∃ x, r = some (.im (dec x)) ∧ P d x ∧ J s') → ∀ s, J s →
    Ok (lcM [] body ds) s fun xs s' => ∃ ws : List β, xs = ws.map dec ∧ ws.length = ds.length ∧ (∀ (j : Nat) d x, ds[j]? = some d → ws[j]? = some x → P d x) ∧ J s'
  | [], _, s, hj => ok_lc0.mpr ⟨[], rfl, rfl, fun j d x e => by simp at e, hj⟩
  | d :: ds, h, s, hj => by
    rw [ok_lcM live_nil]
    refine ok_mono (h d (by simp) s hj) fun r s' ⟨x, hr, hp, hj'⟩ => ?_
    subst hr
    refine ok_bind.mpr (ok_toim.mpr (ok_bind.mpr (ok_mono (lc_rel dec J P ds (fun y hy => h y (by simp [hy])) s' hj') fun xs s'' ⟨ws, e, hl, hw, hj''⟩ => ok_ret.mpr ⟨x :: ws, by rw [e]; rfl, by simp [hl], fun j d' x' e1 e2 => ?_, hj''⟩)))
    cases j with
    | zero =>
      simp at e1 e2
      subst e1 e2
      exact hp
    | succ j => exact hw j d' x' (by simpa using e1) (by simpa using e2)
/-- .. some of them -/
theorem lc_relF {β : Type} {body : PyData → M (Option DV)} (dec : β → PyData) (J : Sto → Prop) (P : β → Prop) : ∀ (ds : List PyData), (∀ d ∈ ds, ∀ s, J s → Ok (body d) s fun r s' => (r = none ∨ ∃ x, r = some (.im (dec x)) ∧ P x) ∧ J s') → ∀ s, J s →
    Ok (lcM [] body ds) s fun xs s' => ∃ ws : List β, xs = ws.map dec ∧ ws.length ≤ ds.length ∧ (∀ x ∈ ws, P x) ∧ J s'
  | [], _, s, hj => ok_lc0.mpr ⟨[], rfl, Nat.le_refl _, fun x e => (nomatch e), hj⟩
  | d :: ds, h, s, hj => by
    rw [ok_lcM live_nil]
    refine ok_mono (h d (by simp) s hj) fun r s' ⟨hr, hj'⟩ => ?_
    have ih := lc_relF dec J P ds (fun y hy => h y (by simp [hy])) s' hj'
    rcases hr with rfl | ⟨x, rfl, hp⟩
    · exact ok_mono ih fun xs s'' ⟨ws, e, hl, hw, hj''⟩ => ⟨ws, e, Nat.le_succ_of_le hl, hw, hj''⟩
    · refine ok_bind.mpr (ok_toim.mpr (ok_bind.mpr (ok_mono ih fun xs s'' ⟨ws, e, hl, hw, hj''⟩ => ok_ret.mpr ⟨x :: ws, by rw [e]; rfl, Nat.succ_le_succ hl, fun y hy => ?_, hj''⟩)))
      rcases List.mem_cons.mp hy with rfl | hy
      · exact hp
      · exact hw y hy
/-- a loop whose turns only keep I -/
theorem loop_keep {body : PyData → FS} {Q : Out → Sto → Prop} (I : DEnv → Sto → Prop) (ds : List PyData)
    (hs : ∀ d ∈ ds, ∀ env s, I env s → Ok (body d env) s fun o s' => match o with
      | .nx e => I e s'
      | .ct e => I e s'
      | .bk e => Q (.nx e) s'
      | .rt d => Q (.rt d) s')
    (hd : ∀ env s, I env s → Q (.nx env) s) (env : DEnv) (s : Sto) (h : I env s) : Ok (forM [] body ds env) s Q := by
  refine ok_loop (fun l e s => (∀ x ∈ l, x ∈ ds) ∧ I e s) (fun d l e s ⟨hm, hi⟩ => ?_) (fun e s ⟨_, hi⟩ => hd e s hi) ds env s ⟨fun _ h => h, h⟩
  refine ok_mono (hs d (hm d (by simp)) e s hi) fun o s' q => ?_
  cases o with
  | nx e => exact ⟨fun x hx => hm x (by simp [hx]), q⟩
  | ct e => exact ⟨fun x hx => hm x (by simp [hx]), q⟩
  | bk e => exact q
  | rt d => exact q
end
/-! ### sums, tests of all, of any -/
theorem sumD_map {ns : List Int} : sumD (.list (ns.map .int)) = some (.int ns.sum) := by simp only [sumD, intsOf_map, Option.map_some]
theorem allD_map {ns : List Bool} : allD (.list (ns.map .bool)) = some (.bool (ns.all id)) := by simp only [allD, boolsOf_map, Option.map_some]
theorem anyD_map {ns : List Bool} : anyD (.list (ns.map .bool)) = some (.bool (ns.any id)) := by simp only [anyD, boolsOf_map, Option.map_some]
theorem srtD_map {ns : List Int} : srtD (.list (ns.map .int)) = some (.list ((isort ns).map .int)) := by simp only [srtD, intsOf_map, Option.map_some]
theorem srtD_mapT {ns : List Int} : srtD (.tuple (ns.map .int)) = some (.list ((isort ns).map .int)) := by simp only [srtD, intsOf_map, Option.map_some]
theorem maxD_map {ns : List Int} : maxD (.list (ns.map .int)) = (lmax ns).map .int := by simp only [maxD, intsOf_map, Option.bind_some]
theorem minD_map {ns : List Int} : minD (.list (ns.map .int)) = (lmin ns).map .int := by simp only [minD, intsOf_map, Option.bind_some]
theorem ok_lenL {xs : List PyData} {st : Sto} {Q : DV → Sto → Prop} : Ok (cLen [.im (.list xs)]) st Q ↔ Q (.im (.int xs.length)) st := ok_len1
theorem ok_lenT {xs : List PyData} {st : Sto} {Q : DV → Sto → Prop} : Ok (cLen [.im (.tuple xs)]) st Q ↔ Q (.im (.int xs.length)) st := ok_len1
theorem ok_seqL {xs : List PyData} {st : Sto} {Q : List PyData × Dep → Sto → Prop} : Ok (seqV (.im (.list xs))) st Q ↔ Q (xs, []) st := ok_ret
theorem ok_seqT {xs : List PyData} {st : Sto} {Q : List PyData × Dep → Sto → Prop} : Ok (seqV (.im (.tuple xs))) st Q ↔ Q (xs, []) st := ok_ret
theorem ok_seqR {ns : List Int} {st : Sto} {Q : List PyData × Dep → Sto → Prop} : Ok (seqV (.ro ns)) st Q ↔ Q (ns.map .int, []) st := ok_ret
theorem ok_seqM {i : Nat} {b : Bool} {xs : List PyData} {st : Sto} {Q : List PyData × Dep → Sto → Prop} (h : st[i]? = some (b, xs)) : Ok (seqV (.mu i)) st Q ↔ Q (xs, [(i, xs)]) st := ok_eq (by simp only [seqV, h])
theorem allD_mapF {α : Type} {l : List α} {f : α → Bool} : allD (.list (l.map fun x => .bool (f x))) = some (.bool (l.all f)) := by
  have e : (l.map fun x => PyData.bool (f x)) = (l.map f).map .bool := by rw [List.map_map]; rfl
  rw [e, allD_map, List.all_map]; rfl
theorem anyD_mapF {α : Type} {l : List α} {f : α → Bool} : anyD (.list (l.map fun x => .bool (f x))) = some (.bool (l.any f)) := by
  have e : (l.map fun x => PyData.bool (f x)) = (l.map f).map .bool := by rw [List.map_map]; rfl
  rw [e, anyD_map, List.any_map]; rfl
theorem sumD_mapF {α : Type} {l : List α} {f : α → Int} : sumD (.list (l.map fun x => .int (f x))) = some (.int (l.map f).sum) := by
  have e : (l.map fun x => PyData.int (f x)) = (l.map f).map .int := by rw [List.map_map]; rfl
  rw [e, sumD_map]
theorem cut_from {α : Type} {xs : List α} {k : Nat} {i : Int} (h : i = k) : cutD xs (some i) none = xs.drop k := by
  subst h
  unfold cutD
  rw [show HT.sIx xs.length 0 (some (k : Int)) = min k xs.length from HT.sIx_nat xs.length 0 k, HT.sIx_none]
  by_cases hk : k ≤ xs.length
  · rw [Nat.min_eq_left hk, List.take_of_length_le (by rw [List.length_drop]; omega)]
  · rw [Nat.min_eq_right (by omega), List.drop_length, List.take_nil, List.drop_of_length_le (by omega)]
theorem cut1 {α : Type} {xs : List α} : cutD xs (some 1) none = xs.drop 1 := cut_from (k := 1) rfl
theorem cut_to {α : Type} {xs : List α} {k : Nat} {i : Int} (h : i = k) : cutD xs none (some i) = xs.take k := by
  subst h
  unfold cutD
  rw [show HT.sIx xs.length xs.length (some (k : Int)) = min k xs.length from HT.sIx_nat xs.length xs.length k, HT.sIx_none]
  rw [List.drop_zero, Nat.sub_zero]
  by_cases hk : k ≤ xs.length
  · rw [Nat.min_eq_left hk]
  · rw [Nat.min_eq_right (by omega), List.take_length, List.take_of_length_le (by omega)]
theorem ixD_l {xs : List PyData} {i : Int} : ixD (.list xs) (.int i) = L2.atI xs i := rfl
theorem ixD_t {xs : List PyData} {i : Int} : ixD (.tuple xs) (.int i) = L2.atI xs i := rfl
theorem ok_getM {i : Nat} {xs : List PyData} {st : Sto} {Q : List PyData → Sto → Prop} (h : st[i]? = some (true, xs)) : Ok (getM i) st Q ↔ Q xs st := ok_eq (getM_of h)
theorem ok_putM {i : Nat} {xs : List PyData} {st : Sto} {Q : Unit → Sto → Prop} : Ok (putM i xs) st Q ↔ Q () (st.set i (true, xs)) := ok_eq rfl
theorem get_last {st : Sto} {x : Cell} : (st ++ [x])[st.length]? = some x := by simp
theorem set_last {st : Sto} {x y : Cell} : (st ++ [x]).set st.length y = st ++ [y] := by simp
theorem take_last {st : Sto} {x : Cell} : (st ++ [x]).take st.length = st := by simp
theorem gAdd_int {i j : Int} : gAdd (.int i) (.int j) = some (.int (i + j)) := rfl
theorem ok_callM {n : Nat} {b : FS} {dvs : List DV} {st : Sto} {Q : DV → Sto → Prop} : Ok (callM n b dvs) st Q ↔ Ok (b (startD n dvs)) st fun o s => ∃ i xs, o = .rt (.mu i) ∧ st.length ≤ i ∧ s[i]? = some (true, xs) ∧ Q (.mu st.length) (s.take st.length ++ [(true, xs)]) := by
  constructor
  · rintro ⟨a, s, e, q⟩
    obtain ⟨i, s1, xs, e1, hi, e2, rfl, rfl⟩ := callM_eq e
    exact ⟨_, s1, e1, i, xs, rfl, hi, e2, q⟩
  · rintro ⟨o, s1, e1, i, xs, rfl, hi, e2, q⟩
    refine ⟨_, _, ?_, q⟩
    unfold callM
    simp only [e1, if_pos hi, e2]
theorem ok_lenR {ns : List Int} {st : Sto} {Q : DV → Sto → Prop} : Ok (cLen [.ro ns]) st Q ↔ Q (.im (.int ns.length)) st := ok_ret
theorem ok_ixR {ns : List Int} {i : Int} {st : Sto} {Q : DV → Sto → Prop} : Ok (ixV (.ro ns) (.im (.int i))) st Q ↔ Ok (liftO (L2.atI ns i)) st fun n s => Q (.im (.int n)) s := by
  simp only [ixV, ok_bind, ok_rdim, ok_ret]
theorem ok_ixI {d : PyData} {i : Int} {st : Sto} {Q : DV → Sto → Prop} : Ok (ixV (.im d) (.im (.int i))) st Q ↔ Ok (liftO (ixD d (.int i))) st fun n s => Q (.im n) s := by
  simp only [ixV, ok_bind, ok_rdim, ok_ret]
theorem ok_ixM {c : Nat} {b : Bool} {xs : List PyData} {i : Int} {st : Sto} {Q : DV → Sto → Prop} (h : st[c]? = some (b, xs)) : Ok (ixV (.mu c) (.im (.int i))) st Q ↔ Ok (liftO (L2.atI xs i)) st fun n s => Q (.im n) s := by
  simp only [ixV, ok_bind, ok_rdim, ok_ret, ok_rdmu, h]
  constructor
  · rintro ⟨b', xs', e, q⟩
    cases e
    exact q
  · exact fun q => ⟨_, _, rfl, q⟩
theorem ok_lenM {c : Nat} {b : Bool} {xs : List PyData} {st : Sto} {Q : DV → Sto → Prop} (h : st[c]? = some (b, xs)) : Ok (cLen [.mu c]) st Q ↔ Q (.im (.int xs.length)) st := by
  show Ok (bindM (rdV (.mu c)) _) st Q ↔ _
  rw [ok_bind, ok_rdmu]
  constructor
  · rintro ⟨b', xs', e, q⟩
    rw [h] at e
    cases e
    exact ok_ret.mp q
  · exact fun q => ⟨_, _, h, ok_ret.mpr q⟩
theorem ok_set {d o i : DV} {st : Sto} {Q : Unit → Sto → Prop} {c : Nat} {k : Int} (ho : o = .mu c) (hi : i = .im (.int k)) : Ok (setV d o i) st Q ↔ Ok (toD d) st fun x s => Ok (getM c) s fun xs s => Ok (liftO (L2.ixN xs.length k)) s fun j s => Q () (s.set c (true, xs.set j x)) := by
  subst ho hi
  show Ok (bindM (toD d) fun x => bindM (getM c) fun xs => bindM (liftO (L2.ixN xs.length k)) fun j => putM c (xs.set j x)) st Q ↔ _
  simp only [ok_bind, ok_putM]
theorem gMul_int {i j : Int} : gMul (.int i) (.int j) = if L2.CMul i j then some (.int (i * j)) else none := rfl
theorem take_set {st : Sto} {i : Nat} {c : Cell} : (st.set i c).take st.length = st.set i c := List.take_of_length_le (by simp)
theorem ixn20 : L2.ixN 2 0 = some 0 := rfl
theorem ixn21 : L2.ixN 2 1 = some 1 := rfl
theorem rng_len {lo : Int} {n : Nat} : (rangeD lo n).length = n := by simp [rangeD]
theorem rng_at {n k : Nat} (h : k < n) : (rangeD 0 n)[k]? = some (.int (k : Nat)) := by
  unfold rangeD
  rw [List.getElem?_map, List.getElem?_range h]
  show some (PyData.int (0 + (k : Int))) = _
  rw [Int.zero_add]
theorem rng_map (n : Nat) : rangeD 0 n = (List.range n).map fun t => PyData.int (t : Nat) := by
  unfold rangeD
  exact List.map_congr_left fun k _ => by rw [Int.zero_add]
theorem rng_mem {n : Nat} {d : PyData} (h : d ∈ rangeD 0 n) : ∃ k : Nat, k < n ∧ d = .int (k : Nat) := by
  rw [rng_map] at h
  obtain ⟨k, hk, rfl⟩ := List.mem_map.mp h
  exact ⟨k, List.mem_range.mp hk, rfl⟩
/-- a loop over items by their places -/
theorem loop_at {body : PyData → FS} {Q : Out → Sto → Prop} {ds : List PyData} (I : Nat → DEnv → Sto → Prop)
    (hs : ∀ k d env s, ds[k]? = some d → I k env s → Ok (body d env) s fun o s' => match o with
      | .nx e => I (k + 1) e s'
      | .ct e => I (k + 1) e s'
      | .bk e => Q (.nx e) s'
      | .rt d => Q (.rt d) s')
    (hd : ∀ env s, I ds.length env s → Q (.nx env) s) {env : DEnv} {s : Sto} (h : I 0 env s) : Ok (forM [] body ds env) s Q := by
  refine ok_loop (fun l e s => ∃ k, l = ds.drop k ∧ k ≤ ds.length ∧ I k e s) ?_ ?_ ds env s ⟨0, rfl, Nat.zero_le _, h⟩
  · rintro d l e s ⟨k, hk, hl, hi⟩
    have hlt : k < ds.length := by
      by_cases z : k < ds.length
      · exact z
      · rw [List.drop_of_length_le (by omega)] at hk; cases hk
    rw [List.drop_eq_getElem_cons hlt] at hk
    obtain ⟨rfl, rfl⟩ := List.cons.inj hk
    refine ok_mono (hs k _ e s (List.getElem?_eq_getElem hlt) hi) fun o s' q => ?_
    cases o with
    | nx e => exact ⟨k + 1, rfl, hlt, q⟩
    | ct e => exact ⟨k + 1, rfl, hlt, q⟩
    | bk e => exact q
    | rt d => exact q
  · rintro e s ⟨k, hk, hl, hi⟩
    have : k = ds.length := by
      have := congrArg List.length hk
      simp at this
      omega
    subst this
    exact hd e s hi
theorem loop_nat {body : PyData → FS} {Q : Out → Sto → Prop} {n : Nat} (I : Nat → DEnv → Sto → Prop)
    (hs : ∀ k env s, k < n → I k env s → Ok (body (.int (k : Nat)) env) s fun o s' => match o with
      | .nx e => I (k + 1) e s'
      | .ct e => I (k + 1) e s'
      | .bk e => Q (.nx e) s'
      | .rt d => Q (.rt d) s')
    (hd : ∀ env s, I n env s → Q (.nx env) s) {env : DEnv} {s : Sto} (h : I 0 env s) : Ok (forM [] body (rangeD 0 n) env) s Q := by
  refine loop_at I (fun k d e s hk hi => ?_) (fun e s hi => hd e s (by rw [rng_len] at hi; exact hi)) h
  have hlt : k < n := by
    have := (List.getElem?_eq_some_iff.mp hk).1
    rw [rng_len] at this
    exact this
  rw [rng_at hlt] at hk
  cases hk
  exact hs k e s hlt hi
theorem at0 {α : Type} {x : α} {xs : List α} : L2.atI (x :: xs) 0 = some x := by
  unfold L2.atI L2.ixN
  rw [if_pos (Int.le_refl 0), if_pos (by rw [List.length_cons]; omega)]
  rfl
theorem atI_nat {α : Type} {xs : List α} {j : Nat} {i : Int} (h : i = j) : L2.atI xs i = xs[j]? := by
  subst h
  unfold L2.atI L2.ixN
  rw [if_pos (by omega)]
  by_cases hl : j < xs.length
  · rw [if_pos (by omega)]; rfl
  · rw [if_neg (by omega), List.getElem?_eq_none (by omega)]; rfl
theorem at1 {α : Type} {x y : α} {xs : List α} : L2.atI (x :: y :: xs) 1 = some y := atI_nat (j := 1) rfl
theorem at2 {α : Type} {x y z : α} {xs : List α} : L2.atI (x :: y :: z :: xs) 2 = some z := atI_nat (j := 2) rfl
theorem at3 {α : Type} {x y z u : α} {xs : List α} : L2.atI (x :: y :: z :: u :: xs) 3 = some u := atI_nat (j := 3) rfl
end DL
namespace G11
open PySem PySem.Spec PyProof.Rows L2 DL
def topS (i : Nat) : Stmt := PySem.Challenge.pw_lessandless_k11_whole_lots_worths_and_pr.main.body.getD i (.Pass ⟨0, 0, 0, 0⟩)
abbrev c_MOST_DIGITS : PyData := .int 1000000000000
abbrev c_MOST_PRICE : PyData := .int 999
abbrev c_MOST_THINGS : PyData := .int 5
abbrev c_MOST_WORTH : PyData := .int 99
abbrev c_NOUGHT : PyData := .tuple [.int 0, .int 1]
abbrev c_POWERS : PyData := .tuple [.int 1, .int 2, .int 4, .int 8, .int 16, .int 32]
abbrev s__law_pot : Stmt := topS 46
abbrev N__law_pot : List Str := ["script", "k", "cell"]
theorem sc__law_pot : FnScope N__law_pot ["script", "k"] (defScope s__law_pot) := ⟨rfl, rfl, rfl, by decide +kernel, rfl, by decide +kernel, by decide +kernel⟩
abbrev s_is_integer : Stmt := topS 9
abbrev N_is_integer : List Str := ["value"]
theorem sc_is_integer : FnScope N_is_integer ["value"] (defScope s_is_integer) := ⟨rfl, rfl, rfl, by decide +kernel, rfl, by decide +kernel, by decide +kernel⟩
abbrev s_is_within : Stmt := topS 10
abbrev N_is_within : List Str := ["value", "least", "most"]
theorem sc_is_within : FnScope N_is_within ["value", "least", "most"] (defScope s_is_within) := ⟨rfl, rfl, rfl, by decide +kernel, rfl, by decide +kernel, by decide +kernel⟩
abbrev s_is_list : Stmt := topS 11
abbrev N_is_list : List Str := ["value"]
theorem sc_is_list : FnScope N_is_list ["value"] (defScope s_is_list) := ⟨rfl, rfl, rfl, by decide +kernel, rfl, by decide +kernel, by decide +kernel⟩
abbrev s_is_table_of : Stmt := topS 26
abbrev N_is_table_of : List Str := ["value", "one"]
theorem sc_is_table_of : FnScope N_is_table_of ["value"] (defScope s_is_table_of) := ⟨rfl, rfl, rfl, by decide +kernel, rfl, by decide +kernel, by decide +kernel⟩
abbrev s_is_table : Stmt := topS 39
abbrev N_is_table : List Str := ["value"]
theorem sc_is_table : FnScope N_is_table ["value"] (defScope s_is_table) := ⟨rfl, rfl, rfl, by decide +kernel, rfl, by decide +kernel, by decide +kernel⟩
abbrev s_check_table : Stmt := topS 27
abbrev N_check_table : List Str := ["value"]
theorem sc_check_table : FnScope N_check_table ["value"] (defScope s_check_table) := ⟨rfl, rfl, rfl, by decide +kernel, rfl, by decide +kernel, by decide +kernel⟩
abbrev s_is_lot_of : Stmt := topS 28
abbrev N_is_lot_of : List Str := ["many", "value", "one", "late"]
theorem sc_is_lot_of : FnScope N_is_lot_of ["many", "value"] (defScope s_is_lot_of) := ⟨rfl, rfl, rfl, by decide +kernel, rfl, by decide +kernel, by decide +kernel⟩
abbrev s_check_lot : Stmt := topS 29
abbrev N_check_lot : List Str := ["table", "value"]
theorem sc_check_lot : FnScope N_check_lot ["table", "value"] (defScope s_check_lot) := ⟨rfl, rfl, rfl, by decide +kernel, rfl, by decide +kernel, by decide +kernel⟩
abbrev s_number_by : Stmt := topS 33
abbrev N_number_by : List Str := ["lot", "thing"]
theorem sc_number_by : FnScope N_number_by ["lot"] (defScope s_number_by) := ⟨rfl, rfl, rfl, by decide +kernel, rfl, by decide +kernel, by decide +kernel⟩
abbrev s_number_of : Stmt := topS 40
abbrev N_number_of : List Str := ["table", "lot"]
theorem sc_number_of : FnScope N_number_of ["table", "lot"] (defScope s_number_of) := ⟨rfl, rfl, rfl, by decide +kernel, rfl, by decide +kernel, by decide +kernel⟩
abbrev s_lot_by : Stmt := topS 34
abbrev N_lot_by : List Str := ["number", "found", "thing"]
theorem sc_lot_by : FnScope N_lot_by ["number"] (defScope s_lot_by) := ⟨rfl, rfl, rfl, by decide +kernel, rfl, by decide +kernel, by decide +kernel⟩
abbrev s_lot_of : Stmt := topS 41
abbrev N_lot_of : List Str := ["table", "number"]
theorem sc_lot_of : FnScope N_lot_of ["table", "number"] (defScope s_lot_of) := ⟨rfl, rfl, rfl, by decide +kernel, rfl, by decide +kernel, by decide +kernel⟩
abbrev s_worth_of : Stmt := topS 36
abbrev N_worth_of : List Str := ["table", "lot"]
theorem sc_worth_of : FnScope N_worth_of ["table", "lot"] (defScope s_worth_of) := ⟨rfl, rfl, rfl, by decide +kernel, rfl, by decide +kernel, by decide +kernel⟩
abbrev s_worth : Stmt := topS 42
abbrev N_worth : List Str := ["table", "lot"]
theorem sc_worth : FnScope N_worth ["table", "lot"] (defScope s_worth) := ⟨rfl, rfl, rfl, by decide +kernel, rfl, by decide +kernel, by decide +kernel⟩
abbrev s_check_thing : Stmt := topS 30
abbrev N_check_thing : List Str := ["table", "value"]
theorem sc_check_thing : FnScope N_check_thing ["table", "value"] (defScope s_check_thing) := ⟨rfl, rfl, rfl, by decide +kernel, rfl, by decide +kernel, by decide +kernel⟩
abbrev s_lot_with : Stmt := topS 35
abbrev N_lot_with : List Str := ["lot", "thing"]
theorem sc_lot_with : FnScope N_lot_with ["lot", "thing"] (defScope s_lot_with) := ⟨rfl, rfl, rfl, by decide +kernel, rfl, by decide +kernel, by decide +kernel⟩
abbrev s_gain_of : Stmt := topS 37
abbrev N_gain_of : List Str := ["table", "lot", "thing"]
theorem sc_gain_of : FnScope N_gain_of ["table", "lot", "thing"] (defScope s_gain_of) := ⟨rfl, rfl, rfl, by decide +kernel, rfl, by decide +kernel, by decide +kernel⟩
abbrev s_adds : Stmt := topS 43
abbrev N_adds : List Str := ["table", "lot", "thing"]
theorem sc_adds : FnScope N_adds ["table", "lot", "thing"] (defScope s_adds) := ⟨rfl, rfl, rfl, by decide +kernel, rfl, by decide +kernel, by decide +kernel⟩
abbrev s_divisor : Stmt := topS 12
abbrev N_divisor : List Str := ["one", "late"]
theorem sc_divisor : FnScope N_divisor ["one", "late"] (defScope s_divisor) := ⟨rfl, rfl, rfl, by decide +kernel, rfl, by decide +kernel, by decide +kernel⟩
abbrev s_is_fraction_of : Stmt := topS 13
abbrev N_is_fraction_of : List Str := ["value"]
theorem sc_is_fraction_of : FnScope N_is_fraction_of ["value"] (defScope s_is_fraction_of) := ⟨rfl, rfl, rfl, by decide +kernel, rfl, by decide +kernel, by decide +kernel⟩
abbrev s_is_short : Stmt := topS 14
abbrev N_is_short : List Str := ["value"]
theorem sc_is_short : FnScope N_is_short ["value"] (defScope s_is_short) := ⟨rfl, rfl, rfl, by decide +kernel, rfl, by decide +kernel, by decide +kernel⟩
abbrev s_is_below : Stmt := topS 19
abbrev N_is_below : List Str := ["one", "late"]
theorem sc_is_below : FnScope N_is_below ["one", "late"] (defScope s_is_below) := ⟨rfl, rfl, rfl, by decide +kernel, rfl, by decide +kernel, by decide +kernel⟩
abbrev s_are_prices_of : Stmt := topS 31
abbrev N_are_prices_of : List Str := ["many", "value", "one"]
theorem sc_are_prices_of : FnScope N_are_prices_of ["many", "value"] (defScope s_are_prices_of) := ⟨rfl, rfl, rfl, by decide +kernel, rfl, by decide +kernel, by decide +kernel⟩
abbrev s_check_prices : Stmt := topS 32
abbrev N_check_prices : List Str := ["many", "value", "one"]
theorem sc_check_prices : FnScope N_check_prices ["many", "value"] (defScope s_check_prices) := ⟨rfl, rfl, rfl, by decide +kernel, rfl, by decide +kernel, by decide +kernel⟩
abbrev s_reduced : Stmt := topS 17
abbrev N_reduced : List Str := ["top", "bottom", "common"]
theorem sc_reduced : FnScope N_reduced ["top", "bottom"] (defScope s_reduced) := ⟨rfl, rfl, rfl, by decide +kernel, rfl, by decide +kernel, by decide +kernel⟩
abbrev s_add : Stmt := topS 18
abbrev N_add : List Str := ["one", "late"]
theorem sc_add : FnScope N_add ["one", "late"] (defScope s_add) := ⟨rfl, rfl, rfl, by decide +kernel, rfl, by decide +kernel, by decide +kernel⟩
abbrev s_total : Stmt := topS 20
abbrev N_total : List Str := ["some", "found", "one"]
theorem sc_total : FnScope N_total ["some"] (defScope s_total) := ⟨rfl, rfl, rfl, by decide +kernel, rfl, by decide +kernel, by decide +kernel⟩
abbrev s_price_by : Stmt := topS 38
abbrev N_price_by : List Str := ["prices", "lot", "thing"]
theorem sc_price_by : FnScope N_price_by ["prices", "lot"] (defScope s_price_by) := ⟨rfl, rfl, rfl, by decide +kernel, rfl, by decide +kernel, by decide +kernel⟩
abbrev s_price_of : Stmt := topS 44
abbrev N_price_of : List Str := ["table", "lot", "prices"]
theorem sc_price_of : FnScope N_price_of ["table", "lot", "prices"] (defScope s_price_of) := ⟨rfl, rfl, rfl, by decide +kernel, rfl, by decide +kernel, by decide +kernel⟩
abbrev s__law_draw : Stmt := topS 47
abbrev N__law_draw : List Str := ["pot", "many", "digit"]
theorem sc__law_draw : FnScope N__law_draw ["pot", "many"] (defScope s__law_draw) := ⟨rfl, rfl, rfl, by decide +kernel, rfl, by decide +kernel, by decide +kernel⟩
abbrev s__law_lots : Stmt := topS 49
abbrev N__law_lots : List Str := ["many", "found", "thing", "lot"]
theorem sc__law_lots : FnScope N__law_lots ["many"] (defScope s__law_lots) := ⟨rfl, rfl, rfl, by decide +kernel, rfl, by decide +kernel, by decide +kernel⟩
abbrev s__law_pick : Stmt := topS 48
abbrev N__law_pick : List Str := ["pot", "some"]
theorem sc__law_pick : FnScope N__law_pick ["pot", "some"] (defScope s__law_pick) := ⟨rfl, rfl, rfl, by decide +kernel, rfl, by decide +kernel, by decide +kernel⟩
abbrev s__law_table : Stmt := topS 50
abbrev N__law_table : List Str := ["pot", "most", "many", "way", "lots", "far", "worths", "turn", "weight", "some", "steps", "first", "at", "lot", "thing", "one", "late"]
theorem sc__law_table : FnScope N__law_table ["pot", "most"] (defScope s__law_table) := ⟨rfl, rfl, rfl, by decide +kernel, rfl, by decide +kernel, by decide +kernel⟩
abbrev s__law_cut : Stmt := topS 51
abbrev N__law_cut : List Str := ["top", "bottom", "one", "late"]
theorem sc__law_cut : FnScope N__law_cut ["top", "bottom"] (defScope s__law_cut) := ⟨rfl, rfl, rfl, by decide +kernel, rfl, by decide +kernel, by decide +kernel⟩
abbrev s__law_right : Stmt := topS 52
abbrev N__law_right : List Str := ["pot", "table", "many", "worths", "lots", "shown", "prices", "number", "lot", "top", "bottom", "thing", "due", "turn", "left", "here", "told", "late"]
theorem sc__law_right : FnScope N__law_right ["pot"] (defScope s__law_right) := ⟨rfl, rfl, rfl, by decide +kernel, rfl, by decide +kernel, by decide +kernel⟩
abbrev s_law : Stmt := topS 53
abbrev N_law : List Str := ["script", "k"]
theorem sc_law : FnScope N_law ["script"] (defScope s_law) := ⟨rfl, rfl, rfl, by decide +kernel, rfl, by decide +kernel, by decide +kernel⟩
abbrev g_adds_0_thing_lot_table {α : Type} : List α → List α → List α := gsel 0 3 [2, 1, 0]
abbrev g_lot_of_0_number_table {α : Type} : List α → List α → List α := gsel 0 2 [1, 0]
abbrev g_number_of_0_lot_table {α : Type} : List α → List α → List α := gsel 0 2 [1, 0]
abbrev g_price_of_0_prices_lot_table {α : Type} : List α → List α → List α := gsel 0 3 [2, 1, 0]
abbrev g_worth_0_lot_table {α : Type} : List α → List α → List α := gsel 0 2 [1, 0]
noncomputable def b__law_pot : FS := fThen (fSet 2 (fIf (fTst (fBin gLt (fVar 1) (fCa (cLen) (fCons (fVar 0) (fNil))))) (fCa (gD (c1 absD)) (fCons (fIx (fVar 0) (fVar 1)) (fNil))) (fBin gAdd (fBin gMul (fC (.int 4007)) (fVar 1)) (fC (.int 3329))))) (fRet (fLstM (fCons (fCa (gD (c2 max2)) (fCons (fC (.int 0)) (fCons (fBin gSub (fVar 2) (fBin gPow (fC (.int 10)) (fC (.int 18)))) (fNil)))) (fCons (fBin gAdd (fBin gMod (fCa (gD (c1 intD)) (fCons (fBin gAdd (fBin gAdd (fBin gMul (fBin gMod (fCa (gD (c1 intD)) (fCons (fVar 2) (fNil))) (fC (.int 2147483549))) (fC (.int 40487))) (fBin gMul (fC (.int 37907)) (fVar 1))) (fC (.int 2591))) (fNil))) (fC (.int 2147483563))) (fC (.int 1))) (fNil)))))
noncomputable def f__law_pot : List DV → M DV := callM 3 b__law_pot
noncomputable def b_is_integer : FS := fRet (fAnd (fIsi "int" (fVar 0)) (fNot (fIsi "bool" (fVar 0))))
noncomputable def f_is_integer : List DV → M DV := callD 1 b_is_integer
noncomputable def b_is_within : FS := fRet (fAnd (fCall 1 f_is_integer (fCons (fVar 0) (fNil))) (fChn gLe gLe (fVar 1) (fVar 0) (fVar 2)))
noncomputable def f_is_within : List DV → M DV := callD 3 b_is_within
noncomputable def b_is_list : FS := fRet (fIsi2 "list" "tuple" (fVar 0))
noncomputable def f_is_list : List DV → M DV := callD 1 b_is_list
noncomputable def b_is_table_of : FS := fThen (fIfS (fOrT (fNotT (fTst (fIsi "tuple" (fVar 0)))) (fOrT (fTst (fBin gNe (fCa (cLen) (fCons (fVar 0) (fNil))) (fC (.int 2)))) (fNotT (fTst (fCall 3 f_is_within (fCons (fIx (fVar 0) (fC (.int 0))) (fCons (fC (.int 1)) (fCons (fC c_MOST_THINGS) (fNil))))))))) (fRet (fC (.bool false))) (fEnd)) (fThen (fIfS (fOrT (fNotT (fTst (fCall 1 f_is_list (fCons (fIx (fVar 0) (fC (.int 1))) (fNil))))) (fTst (fBin gNe (fCa (cLen) (fCons (fIx (fVar 0) (fC (.int 1))) (fNil))) (fIx (fC c_POWERS) (fIx (fVar 0) (fC (.int 0))))))) (fRet (fC (.bool false))) (fEnd)) (fRet (fCa (gD (c1 allD)) (fCons (fLcW mkL (fSeq (fIx (fVar 0) (fC (.int 1)))) (gtName 1) (fYes) (fCall 3 f_is_within (fCons (fVar 1) (fCons (fBin gSub (fC (.int 0)) (fC c_MOST_WORTH)) (fCons (fC c_MOST_WORTH) (fNil))))) [1]) (fNil)))))
noncomputable def f_is_table_of : List DV → M DV := callD 2 b_is_table_of
noncomputable def b_is_table : FS := fRet (fCall 1 f_is_table_of (fCons (fVar 0) (fNil)))
noncomputable def f_is_table : List DV → M DV := callD 1 b_is_table
noncomputable def b_check_table : FS := fIfS (fNotT (fTst (fCall 1 f_is_table_of (fCons (fVar 0) (fNil))))) (fNo) (fEnd)
noncomputable def f_check_table : List DV → M DV := callD 1 b_check_table
noncomputable def b_is_lot_of : FS := fThen (fIfS (fOrT (fNotT (fTst (fIsi "tuple" (fVar 1)))) (fNotT (fTst (fCa (gD (c1 allD)) (fCons (fLcW mkL (fSeq (fVar 1)) (gtName 2) (fYes) (fCall 3 f_is_within (fCons (fVar 2) (fCons (fC (.int 0)) (fCons (fBin gSub (fVar 0) (fC (.int 1))) (fNil))))) [2]) (fNil)))))) (fRet (fC (.bool false))) (fEnd)) (fRet (fCa (gD (c1 allD)) (fCons (fLcW mkL (fZip (fCons (fVar 1) (fCons (fSl (fVar 1) (fOS (fC (.int 1))) (fON)) (fNil)))) (gtTup 2 (gtCons (gtName 2) (gtCons (gtName 3) (gtNil)))) (fYes) (fBin gLt (fVar 2) (fVar 3)) [2, 3]) (fNil))))
noncomputable def f_is_lot_of : List DV → M DV := callD 4 b_is_lot_of
noncomputable def b_check_lot : FS := fIfS (fNotT (fTst (fCall 2 f_is_lot_of (fCons (fIx (fVar 0) (fC (.int 0))) (fCons (fVar 1) (fNil)))))) (fNo) (fEnd)
noncomputable def f_check_lot : List DV → M DV := callD 2 b_check_lot
noncomputable def b_number_by : FS := fRet (fCa (gD (c1 sumD)) (fCons (fLcW mkL (fSeq (fVar 0)) (gtName 1) (fYes) (fIx (fC c_POWERS) (fVar 1)) [1]) (fNil)))
noncomputable def f_number_by : List DV → M DV := callD 2 b_number_by
noncomputable def b_number_of : FS := fThen (fDrop (fCall 1 f_check_table (fCons (fVar 0) (fNil)))) (fThen (fDrop (fCall 2 f_check_lot (fCons (fVar 0) (fCons (fVar 1) (fNil))))) (fRet (fCall 1 f_number_by (fCons (fVar 1) (fNil)))))
noncomputable def f_number_of : List DV → M DV := callD 2 b_number_of
noncomputable def b_lot_by : FS := fThen (fPar 1 2 (fCons (fLstM (fNil)) (fCons (fC (.int 0)) (fNil)))) (fThen (fWhile (fTst (fBin gGt (fVar 0) (fC (.int 0)))) (fThen (fIfS (fTst (fBin gEq (fBin gMod (fCa (gD (c1 intD)) (fCons (fVar 0) (fNil))) (fC (.int 2))) (fC (.int 1)))) (fDrop (fApp (fVar 1) (fVar 2))) (fEnd)) (fPar 0 2 (fCons (fBin gFdv (fVar 0) (fC (.int 2))) (fCons (fBin gAdd (fVar 2) (fC (.int 1))) (fNil)))))) (fRet (fCa (gD (c1 tupD)) (fCons (fVar 1) (fNil)))))
noncomputable def f_lot_by : List DV → M DV := callD 3 b_lot_by
noncomputable def b_lot_of : FS := fThen (fDrop (fCall 1 f_check_table (fCons (fVar 0) (fNil)))) (fThen (fIfS (fNotT (fTst (fCall 3 f_is_within (fCons (fVar 1) (fCons (fC (.int 0)) (fCons (fBin gSub (fIx (fC c_POWERS) (fIx (fVar 0) (fC (.int 0)))) (fC (.int 1))) (fNil))))))) (fNo) (fEnd)) (fRet (fCall 1 f_lot_by (fCons (fVar 1) (fNil)))))
noncomputable def f_lot_of : List DV → M DV := callD 2 b_lot_of
noncomputable def b_worth_of : FS := fRet (fIx (fIx (fVar 0) (fC (.int 1))) (fCall 1 f_number_by (fCons (fVar 1) (fNil))))
noncomputable def f_worth_of : List DV → M DV := callD 2 b_worth_of
noncomputable def b_worth : FS := fThen (fDrop (fCall 1 f_check_table (fCons (fVar 0) (fNil)))) (fThen (fDrop (fCall 2 f_check_lot (fCons (fVar 0) (fCons (fVar 1) (fNil))))) (fRet (fCall 2 f_worth_of (fCons (fVar 0) (fCons (fVar 1) (fNil))))))
noncomputable def f_worth : List DV → M DV := callD 2 b_worth
noncomputable def b_check_thing : FS := fIfS (fNotT (fTst (fCall 3 f_is_within (fCons (fVar 1) (fCons (fC (.int 0)) (fCons (fBin gSub (fIx (fVar 0) (fC (.int 0))) (fC (.int 1))) (fNil))))))) (fNo) (fEnd)
noncomputable def f_check_thing : List DV → M DV := callD 2 b_check_thing
noncomputable def b_lot_with : FS := fRet (fCa (gD (c1 tupD)) (fCons (fCa (gD (c1 srtD)) (fCons (fBin gAdd (fVar 0) (fTup (fCons (fVar 1) (fNil)))) (fNil))) (fNil)))
noncomputable def f_lot_with : List DV → M DV := callD 2 b_lot_with
noncomputable def b_gain_of : FS := fRet (fBin gSub (fCall 2 f_worth_of (fCons (fVar 0) (fCons (fCall 2 f_lot_with (fCons (fVar 1) (fCons (fVar 2) (fNil)))) (fNil)))) (fCall 2 f_worth_of (fCons (fVar 0) (fCons (fVar 1) (fNil)))))
noncomputable def f_gain_of : List DV → M DV := callD 3 b_gain_of
noncomputable def b_adds : FS := fThen (fDrop (fCall 1 f_check_table (fCons (fVar 0) (fNil)))) (fThen (fDrop (fCall 2 f_check_lot (fCons (fVar 0) (fCons (fVar 1) (fNil))))) (fThen (fDrop (fCall 2 f_check_thing (fCons (fVar 0) (fCons (fVar 2) (fNil))))) (fThen (fIfS (fTst (fBin gIn (fVar 2) (fVar 1))) (fNo) (fEnd)) (fRet (fCall 3 f_gain_of (fCons (fVar 0) (fCons (fVar 1) (fCons (fVar 2) (fNil)))))))))
noncomputable def f_adds : List DV → M DV := callD 3 b_adds
noncomputable def b_divisor : FS := fThen (fWhile (fTst (fBin gGt (fVar 1) (fC (.int 0)))) (fPar 0 1 (fCons (fVar 1) (fCons (fBin gMod (fCa (gD (c1 intD)) (fCons (fVar 0) (fNil))) (fVar 1)) (fNil))))) (fRet (fVar 0))
noncomputable def f_divisor : List DV → M DV := callD 2 b_divisor
noncomputable def b_is_fraction_of : FS := fThen (fIfS (fOrT (fNotT (fTst (fIsi "tuple" (fVar 0)))) (fOrT (fTst (fBin gNe (fCa (cLen) (fCons (fVar 0) (fNil))) (fC (.int 2)))) (fOrT (fNotT (fTst (fCall 1 f_is_integer (fCons (fIx (fVar 0) (fC (.int 0))) (fNil))))) (fNotT (fTst (fCall 1 f_is_integer (fCons (fIx (fVar 0) (fC (.int 1))) (fNil)))))))) (fRet (fC (.bool false))) (fEnd)) (fRet (fAnd (fBin gGe (fIx (fVar 0) (fC (.int 1))) (fC (.int 1))) (fBin gEq (fCall 2 f_divisor (fCons (fCa (gD (c1 absD)) (fCons (fIx (fVar 0) (fC (.int 0))) (fNil))) (fCons (fIx (fVar 0) (fC (.int 1))) (fNil)))) (fC (.int 1)))))
noncomputable def f_is_fraction_of : List DV → M DV := callD 1 b_is_fraction_of
noncomputable def b_is_short : FS := fRet (fAnd (fCall 1 f_is_fraction_of (fCons (fVar 0) (fNil))) (fAnd (fBin gLt (fCa (gD (c1 absD)) (fCons (fIx (fVar 0) (fC (.int 0))) (fNil))) (fC c_MOST_DIGITS)) (fBin gLt (fIx (fVar 0) (fC (.int 1))) (fC c_MOST_DIGITS))))
noncomputable def f_is_short : List DV → M DV := callD 1 b_is_short
noncomputable def b_is_below : FS := fRet (fBin gLt (fBin gMul (fIx (fVar 0) (fC (.int 0))) (fIx (fVar 1) (fC (.int 1)))) (fBin gMul (fIx (fVar 1) (fC (.int 0))) (fIx (fVar 0) (fC (.int 1)))))
noncomputable def f_is_below : List DV → M DV := callD 2 b_is_below
noncomputable def b_are_prices_of : FS := fRet (fAnd (fCall 1 f_is_list (fCons (fVar 1) (fNil))) (fAnd (fBin gEq (fCa (cLen) (fCons (fVar 1) (fNil))) (fVar 0)) (fCa (gD (c1 allD)) (fCons (fLcW mkL (fSeq (fVar 1)) (gtName 2) (fYes) (fCall 1 f_is_fraction_of (fCons (fVar 2) (fNil))) [2]) (fNil)))))
noncomputable def f_are_prices_of : List DV → M DV := callD 3 b_are_prices_of
noncomputable def b_check_prices : FS := fThen (fIfS (fOrT (fNotT (fTst (fCall 2 f_are_prices_of (fCons (fVar 0) (fCons (fVar 1) (fNil)))))) (fNotT (fTst (fCa (gD (c1 allD)) (fCons (fLcW mkL (fSeq (fVar 1)) (gtName 2) (fYes) (fCall 1 f_is_short (fCons (fVar 2) (fNil))) [2]) (fNil)))))) (fNo) (fEnd)) (fIfS (fTst (fCa (gD (c1 anyD)) (fCons (fLcW mkL (fSeq (fVar 1)) (gtName 2) (fYes) (fCall 2 f_is_below (fCons (fTup (fCons (fC c_MOST_PRICE) (fCons (fC (.int 1)) (fNil)))) (fCons (fTup (fCons (fCa (gD (c1 absD)) (fCons (fIx (fVar 2) (fC (.int 0))) (fNil))) (fCons (fIx (fVar 2) (fC (.int 1))) (fNil)))) (fNil)))) [2]) (fNil)))) (fNo) (fEnd))
noncomputable def f_check_prices : List DV → M DV := callD 3 b_check_prices
noncomputable def b_reduced : FS := fThen (fIfS (fTst (fBin gLt (fVar 1) (fC (.int 0)))) (fPar 0 1 (fCons (fBin gSub (fC (.int 0)) (fVar 0)) (fCons (fBin gSub (fC (.int 0)) (fVar 1)) (fNil)))) (fEnd)) (fThen (fSet 2 (fCall 2 f_divisor (fCons (fCa (gD (c1 absD)) (fCons (fVar 0) (fNil))) (fCons (fVar 1) (fNil))))) (fRet (fTup (fCons (fBin gFdv (fVar 0) (fVar 2)) (fCons (fBin gFdv (fVar 1) (fVar 2)) (fNil))))))
noncomputable def f_reduced : List DV → M DV := callD 3 b_reduced
noncomputable def b_add : FS := fRet (fCall 2 f_reduced (fCons (fBin gAdd (fBin gMul (fIx (fVar 0) (fC (.int 0))) (fIx (fVar 1) (fC (.int 1)))) (fBin gMul (fIx (fVar 1) (fC (.int 0))) (fIx (fVar 0) (fC (.int 1))))) (fCons (fBin gMul (fIx (fVar 0) (fC (.int 1))) (fIx (fVar 1) (fC (.int 1)))) (fNil))))
noncomputable def f_add : List DV → M DV := callD 2 b_add
noncomputable def b_total : FS := fThen (fSet 1 (fC c_NOUGHT)) (fThen (fFor (fSeq (fVar 0)) (gtName 2) (fSet 1 (fCall 2 f_add (fCons (fVar 1) (fCons (fVar 2) (fNil)))))) (fRet (fVar 1)))
noncomputable def f_total : List DV → M DV := callD 3 b_total
noncomputable def b_price_by : FS := fRet (fCall 1 f_total (fCons (fLcW mkL (fSeq (fVar 1)) (gtName 2) (fYes) (fIx (fVar 0) (fVar 2)) [2]) (fNil)))
noncomputable def f_price_by : List DV → M DV := callD 3 b_price_by
noncomputable def b_price_of : FS := fThen (fDrop (fCall 1 f_check_table (fCons (fVar 0) (fNil)))) (fThen (fDrop (fCall 2 f_check_lot (fCons (fVar 0) (fCons (fVar 1) (fNil))))) (fThen (fDrop (fCall 2 f_check_prices (fCons (fIx (fVar 0) (fC (.int 0))) (fCons (fVar 2) (fNil))))) (fRet (fCall 2 f_price_by (fCons (fVar 2) (fCons (fVar 1) (fNil)))))))
noncomputable def f_price_of : List DV → M DV := callD 3 b_price_of
noncomputable def b__law_draw : FS := fThen (fIfS (fTst (fBin gGt (fIx (fVar 0) (fC (.int 0))) (fC (.int 0)))) (fThen (fAsg (gtTup 2 (gtCons (gtSub (fVar 0) (fC (.int 0))) (gtCons (gtName 2) (gtNil)))) (fCa (gD (c2 dmod)) (fCons (fIx (fVar 0) (fC (.int 0))) (fCons (fVar 1) (fNil))))) (fRet (fVar 2))) (fEnd)) (fThen (fAsg (gtSub (fVar 0) (fC (.int 1))) (fBin gMod (fCa (gD (c1 intD)) (fCons (fBin gAdd (fBin gMul (fIx (fVar 0) (fC (.int 1))) (fC (.int 40692))) (fC (.int 12041))) (fNil))) (fC (.int 2147483563)))) (fRet (fBin gMod (fCa (gD (c1 intD)) (fCons (fBin gFdv (fBin gMod (fCa (gD (c1 intD)) (fCons (fBin gMul (fIx (fVar 0) (fC (.int 1))) (fIx (fVar 0) (fC (.int 1)))) (fNil))) (fC (.int 2147483549))) (fC (.int 19))) (fNil))) (fVar 1))))
noncomputable def f__law_draw : List DV → M DV := callD 3 b__law_draw
noncomputable def b__law_lots : FS := fThen (fSet 1 (fLst (fCons (fTup (fNil)) (fNil)))) (fThen (fFor (fRng1 (fCons (fVar 0) (fNil))) (gtName 2) (fSet 1 (fBin gAdd (fVar 1) (fLcW mkL (fSeq (fVar 1)) (gtName 3) (fYes) (fBin gAdd (fVar 3) (fTup (fCons (fVar 2) (fNil)))) [3])))) (fRet (fVar 1)))
noncomputable def f__law_lots : List DV → M DV := callD 4 b__law_lots
noncomputable def b__law_pick : FS := fRet (fIx (fVar 1) (fCall 2 f__law_draw (fCons (fVar 0) (fCons (fCa (cLen) (fCons (fVar 1) (fNil))) (fNil)))))
noncomputable def f__law_pick : List DV → M DV := callD 2 b__law_pick
noncomputable def b__law_table_loop1 : FS := fThen (fAsg (gtTup 2 (gtCons (gtName 8) (gtCons (gtName 9) (gtNil)))) (fTup (fCons (fBin gAdd (fC (.int 1)) (fCall 2 f__law_draw (fCons (fVar 0) (fCons (fC (.int 4)) (fNil))))) (fCons (fLcW mkL (fRng1 (fCons (fVar 2) (fNil))) (gtName 14) (fTst (fBin gEq (fCall 2 f__law_draw (fCons (fVar 0) (fCons (fC (.int 2)) (fNil)))) (fC (.int 0)))) (fVar 14) [14]) (fNil))))) (fSet 6 (fLcW mkL (fZip (fCons (fVar 6) (fCons (fVar 4) (fNil)))) (gtTup 2 (gtCons (gtName 15) (gtCons (gtName 13) (gtNil)))) (fYes) (fBin gAdd (fVar 15) (fBin gMul (fVar 8) (fCa (gD (c1 intD)) (fCons (fCa (gD (c1 anyD)) (fCons (fLcW mkL (fSeq (fVar 13)) (gtName 14) (fYes) (fBin gIn (fVar 14) (fVar 9)) [14]) (fNil))) (fNil))))) [15, 13]))
noncomputable def b__law_table_7 : FS := fIfS (fTst (fBin gEq (fVar 3) (fC (.int 5)))) (fThen (fSet 10 (fLcW mkL (fRng1 (fCons (fBin gAdd (fVar 2) (fC (.int 1))) (fNil))) (gtName 15) (fYes) (fBin gSub (fC (.int 4)) (fVar 15)) [15])) (fThen (fSet 6 (fLcW mkM (fSeq (fVar 4)) (gtName 13) (fYes) (fCa (gD (c1 sumD)) (fCons (fSl (fVar 10) (fON) (fOS (fCa (cLen) (fCons (fVar 13) (fNil))))) (fNil))) [13])) (fThen (fSet 12 (fCall 2 f__law_draw (fCons (fVar 0) (fCons (fCa (cLen) (fCons (fVar 6) (fNil))) (fNil))))) (fAsg (gtSub (fVar 6) (fVar 12)) (fBin gSub (fBin gAdd (fIx (fVar 6) (fVar 12)) (fCall 2 f__law_draw (fCons (fVar 0) (fCons (fC (.int 3)) (fNil))))) (fC (.int 1))))))) (fEnd)
noncomputable def b__law_table_6 : FS := fIfS (fTst (fBin gEq (fVar 3) (fC (.int 2)))) (fThen (fSet 10 (fLcW mkL (fRng1 (fCons (fVar 2) (fNil))) (gtName 14) (fYes) (fBin gSub (fCall 2 f__law_draw (fCons (fVar 0) (fCons (fC (.int 5)) (fNil)))) (fC (.int 3))) [14])) (fSet 6 (fLcW mkL (fZip (fCons (fVar 6) (fCons (fVar 4) (fNil)))) (gtTup 2 (gtCons (gtName 15) (gtCons (gtName 13) (gtNil)))) (fYes) (fBin gAdd (fVar 15) (fCa (gD (c1 sumD)) (fCons (fLcW mkL (fSeq (fVar 13)) (gtName 14) (fYes) (fIx (fVar 10) (fVar 14)) [14]) (fNil)))) [15, 13]))) (fEnd)
noncomputable def b__law_table_5 : FS := fIfS (fTst (fBin gEq (fVar 3) (fC (.int 4)))) (fThen (fAsg (gtTup 2 (gtCons (gtName 10) (gtCons (gtName 11) (gtNil)))) (fTup (fCons (fLcW mkL (fRng1 (fCons (fVar 2) (fNil))) (gtName 14) (fYes) (fBin gSub (fCall 2 f__law_draw (fCons (fVar 0) (fCons (fC (.int 9)) (fNil)))) (fC (.int 4))) [14]) (fCons (fBin gSub (fCall 2 f__law_draw (fCons (fVar 0) (fCons (fC (.int 5)) (fNil)))) (fC (.int 2))) (fNil))))) (fSet 6 (fLcW mkL (fSeq (fVar 4)) (gtName 13) (fYes) (fBin gAdd (fVar 11) (fCa (gD (c1 sumD)) (fCons (fLcW mkL (fSeq (fVar 13)) (gtName 14) (fYes) (fIx (fVar 10) (fVar 14)) [14]) (fNil)))) [13]))) (fEnd)
noncomputable def b__law_table_4 : FS := fIfS (fTst (fBin gEq (fVar 3) (fC (.int 3)))) (fSet 6 (fLcW mkL (fZip (fCons (fVar 6) (fCons (fRev (fVar 6)) (fNil)))) (gtTup 2 (gtCons (gtName 15) (gtCons (gtName 16) (gtNil)))) (fYes) (fBin gSub (fBin gAdd (fVar 15) (fVar 16)) (fIx (fVar 6) (fNeg (fC (.int 1))))) [15, 16])) (fEnd)
noncomputable def b__law_table_3 : FS := fIfS (fTst (fBin gIn (fVar 3) (fTup (fCons (fC (.int 1)) (fCons (fC (.int 2)) (fCons (fC (.int 3)) (fNil))))))) (fThen (fSet 6 (fBin gMul (fLst (fCons (fC (.int 0)) (fNil))) (fCa (cLen) (fCons (fVar 4) (fNil))))) (fFor (fRng1 (fCons (fBin gAdd (fC (.int 1)) (fCall 2 f__law_draw (fCons (fVar 0) (fCons (fC (.int 4)) (fNil))))) (fNil))) (gtName 7) (b__law_table_loop1))) (fEnd)
noncomputable def b__law_table : FS := fThen (fPar 2 3 (fCons (fBin gAdd (fC (.int 1)) (fCall 2 f__law_draw (fCons (fVar 0) (fCons (fVar 1) (fNil))))) (fCons (fCall 2 f__law_draw (fCons (fVar 0) (fCons (fC (.int 6)) (fNil)))) (fNil)))) (fThen (fAsg (gtTup 2 (gtCons (gtName 4) (gtCons (gtName 5) (gtNil)))) (fTup (fCons (fCall 1 f__law_lots (fCons (fVar 2) (fNil))) (fCons (fCall 2 f__law_pick (fCons (fVar 0) (fCons (fLst (fCons (fC (.int 2)) (fCons (fC (.int 5)) (fNil)))) (fNil)))) (fNil))))) (fThen (fSet 6 (fLcW mkL (fSeq (fVar 4)) (gtName 13) (fYes) (fBin gSub (fCall 2 f__law_draw (fCons (fVar 0) (fCons (fBin gAdd (fBin gMul (fC (.int 2)) (fVar 5)) (fC (.int 1))) (fNil)))) (fVar 5)) [13])) (fThen (b__law_table_3) (fThen (b__law_table_4) (fThen (b__law_table_5) (fThen (b__law_table_6) (fThen (b__law_table_7) (fRet (fTup (fCons (fVar 2) (fCons (fVar 6) (fNil))))))))))))
noncomputable def f__law_table : List DV → M DV := callD 17 b__law_table
noncomputable def b__law_cut : FS := fThen (fPar 2 3 (fCons (fCa (gD (c1 absD)) (fCons (fVar 0) (fNil))) (fCons (fVar 1) (fNil)))) (fThen (fWhile (fTst (fBin gGt (fVar 3) (fC (.int 0)))) (fPar 2 3 (fCons (fVar 3) (fCons (fBin gMod (fCa (gD (c1 intD)) (fCons (fVar 2) (fNil))) (fVar 3)) (fNil))))) (fRet (fTup (fCons (fBin gFdv (fVar 0) (fVar 2)) (fCons (fBin gFdv (fVar 1) (fVar 2)) (fNil))))))
noncomputable def f__law_cut : List DV → M DV := callD 4 b__law_cut
noncomputable def b__law_right_loop1 : FS := fPar 9 10 (fCons (fBin gAdd (fBin gMul (fVar 9) (fIx (fIx (fVar 6) (fVar 11)) (fC (.int 1)))) (fBin gMul (fIx (fIx (fVar 6) (fVar 11)) (fC (.int 0))) (fVar 10))) (fCons (fBin gMul (fVar 10) (fIx (fIx (fVar 6) (fVar 11)) (fC (.int 1)))) (fNil)))
noncomputable def b__law_right_loop2 : FS := fThen (fIfS (fTst (fBin gNe (fCa (gD (c1 repD)) (fCons (fLst (fCons (fCall 2 f_lot_of (fCons (fVar 1) (fCons (fVar 7) (fNil)))) (fCons (fCallK 2 f_lot_of g_lot_of_0_number_table fNil (fCons (fVar 7) (fCons (fVar 1) (fNil)))) (fNil)))) (fNil))) (fCa (gD (c1 repD)) (fCons (fLst (fCons (fVar 8) (fCons (fVar 8) (fNil)))) (fNil))))) (fRet (fC (.bool false))) (fEnd)) (fThen (fIfS (fOrT (fTst (fBin gNe (fCa (gD (c1 repD)) (fCons (fLst (fCons (fCall 2 f_number_of (fCons (fVar 1) (fCons (fVar 8) (fNil)))) (fCons (fCallK 2 f_number_of g_number_of_0_lot_table fNil (fCons (fVar 8) (fCons (fVar 1) (fNil)))) (fNil)))) (fNil))) (fCa (gD (c1 repD)) (fCons (fLst (fCons (fVar 7) (fCons (fVar 7) (fNil)))) (fNil))))) (fTst (fBin gNe (fVar 7) (fCa (gD (c1 sumD)) (fCons (fLcW mkL (fSeq (fVar 8)) (gtName 11) (fYes) (fIx (fLst (fCons (fC (.int 1)) (fCons (fC (.int 2)) (fCons (fC (.int 4)) (fCons (fC (.int 8)) (fCons (fC (.int 16)) (fNil))))))) (fVar 11)) [11]) (fNil)))))) (fRet (fC (.bool false))) (fEnd)) (fThen (fIfS (fTst (fBin gNe (fCa (gD (c1 repD)) (fCons (fLst (fCons (fCall 2 f_worth (fCons (fVar 1) (fCons (fVar 8) (fNil)))) (fCons (fCallK 2 f_worth g_worth_0_lot_table fNil (fCons (fVar 8) (fCons (fTup (fCons (fVar 2) (fCons (fCa (gD (c1 tupD)) (fCons (fVar 3) (fNil))) (fNil)))) (fNil)))) (fNil)))) (fNil))) (fCa (gD (c1 repD)) (fCons (fBin gMul (fLst (fCons (fIx (fVar 3) (fVar 7)) (fNil))) (fC (.int 2))) (fNil))))) (fRet (fC (.bool false))) (fEnd)) (fThen (fAsg (gtTup 2 (gtCons (gtName 9) (gtCons (gtName 10) (gtNil)))) (fTup (fCons (fC (.int 0)) (fCons (fC (.int 1)) (fNil))))) (fThen (fFor (fSeq (fVar 8)) (gtName 11) (b__law_right_loop1)) (fThen (fSet 12 (fCall 2 f__law_cut (fCons (fVar 9) (fCons (fVar 10) (fNil))))) (fIfS (fTst (fBin gNe (fCa (gD (c1 repD)) (fCons (fLst (fCons (fCall 3 f_price_of (fCons (fVar 1) (fCons (fVar 8) (fCons (fVar 6) (fNil))))) (fCons (fCallK 3 f_price_of g_price_of_0_prices_lot_table fNil (fCons (fCa (gD (c1 tupD)) (fCons (fVar 6) (fNil))) (fCons (fVar 8) (fCons (fVar 1) (fNil))))) (fNil)))) (fNil))) (fCa (gD (c1 repD)) (fCons (fLst (fCons (fVar 12) (fCons (fVar 12) (fNil)))) (fNil))))) (fRet (fC (.bool false))) (fEnd)))))))
noncomputable def b__law_right_loop3 : FS := fThen (fSet 11 (fPopAt (fVar 14) (fCall 2 f__law_draw (fCons (fVar 0) (fCons (fCa (cLen) (fCons (fVar 14) (fNil))) (fNil)))))) (fThen (fSet 17 (fCa (gD (c1 tupD)) (fCons (fCa (gD (c1 srtD)) (fCons (fBin gAdd (fVar 15) (fTup (fCons (fVar 11) (fNil)))) (fNil))) (fNil)))) (fThen (fSet 12 (fBin gSub (fIx (fVar 3) (fIdx (fVar 4) (fVar 17))) (fIx (fVar 3) (fIdx (fVar 4) (fVar 15))))) (fThen (fIfS (fTst (fBin gNe (fCa (gD (c1 repD)) (fCons (fLst (fCons (fCall 3 f_adds (fCons (fVar 1) (fCons (fVar 15) (fCons (fVar 11) (fNil))))) (fCons (fCallK 3 f_adds g_adds_0_thing_lot_table fNil (fCons (fVar 11) (fCons (fVar 15) (fCons (fVar 1) (fNil))))) (fNil)))) (fNil))) (fCa (gD (c1 repD)) (fCons (fLst (fCons (fVar 12) (fCons (fVar 12) (fNil)))) (fNil))))) (fRet (fC (.bool false))) (fEnd)) (fThen (fPar 16 15 (fCons (fBin gAdd (fVar 16) (fVar 12)) (fCons (fVar 17) (fNil)))) (fIfS (fTst (fBin gNe (fCall 2 f_worth (fCons (fVar 1) (fCons (fVar 15) (fNil)))) (fVar 16))) (fRet (fC (.bool false))) (fEnd))))))
noncomputable def b__law_right_loop4 : FS := fThen (fPar3 14 15 16 (fCons (fRgl1 mkM (fVar 2)) (fCons (fTup (fNil)) (fCons (fIx (fVar 3) (fC (.int 0))) (fNil))))) (fWhile (fTst (fBin gNe (fVar 14) (fLst (fNil)))) (b__law_right_loop3))
noncomputable def b__law_right_6 : FS := fFor (fRng1 (fCons (fC (.int 3)) (fNil))) (gtName 13) (b__law_right_loop4)
noncomputable def b__law_right_5 : FS := fFor (fEnum (fCons (fVar 4) (fNil))) (gtTup 2 (gtCons (gtName 7) (gtCons (gtName 8) (gtNil)))) (b__law_right_loop2)
noncomputable def b__law_right_3 : FS := fIfS (fOrT (fTst (fBin gIt (fCall 1 f_is_table (fCons (fVar 1) (fNil))) (fC (.bool true)))) (fTst (fBin gIt (fCall 1 f_is_table (fCons (fTup (fCons (fVar 2) (fCons (fCa (gD (c1 tupD)) (fCons (fVar 3) (fNil))) (fNil)))) (fNil))) (fC (.bool true))))) (fRet (fC (.bool false))) (fEnd)
noncomputable def b__law_right : FS := fThen (fSet 1 (fCall 2 f__law_table (fCons (fVar 0) (fCons (fC (.int 5)) (fNil))))) (fThen (fAsg (gtTup 2 (gtCons (gtName 2) (gtCons (gtName 3) (gtNil)))) (fVar 1)) (fThen (fPar 4 5 (fCons (fCall 1 f__law_lots (fCons (fVar 2) (fNil))) (fCons (fCa (gD (c1 repD)) (fCons (fVar 1) (fNil))) (fNil)))) (fThen (b__law_right_3) (fThen (fSet 6 (fLcW mkL (fRng1 (fCons (fVar 2) (fNil))) (gtName 11) (fYes) (fCall 2 f__law_cut (fCons (fBin gSub (fCall 2 f__law_draw (fCons (fVar 0) (fCons (fC (.int 41)) (fNil)))) (fC (.int 20))) (fCons (fBin gAdd (fC (.int 1)) (fCall 2 f__law_draw (fCons (fVar 0) (fCons (fC (.int 6)) (fNil))))) (fNil)))) [11])) (fThen (b__law_right_5) (fThen (b__law_right_6) (fRet (fBin gEq (fCa (gD (c1 repD)) (fCons (fVar 1) (fNil))) (fVar 5)))))))))
noncomputable def f__law_right : List DV → M DV := callD 18 b__law_right
noncomputable def b_law : FS := fRet (fCa (gD (c1 allD)) (fCons (fLcW mkL (fRng1 (fCons (fCa (gD (c2 max2)) (fCons (fC (.int 1)) (fCons (fCa (gD (c2 min2)) (fCons (fC (.int 2)) (fCons (fCa (cLen) (fCons (fVar 0) (fNil))) (fNil)))) (fNil)))) (fNil))) (gtName 1) (fYes) (fCall 1 f__law_right (fCons (fCall 2 f__law_pot (fCons (fVar 0) (fCons (fVar 1) (fNil)))) (fNil))) [1]) (fNil)))
noncomputable def f_law : List DV → M DV := callD 2 b_law
/-- the text behind the top -/
structure Tx (K : PySem.W.Frag) (mg : Str → Option Value) where
  a__law_pot : Addr
  d__law_pot : FuncData
  F__law_pot : Fun K "_law_pot" "_law_pot" s__law_pot a__law_pot d__law_pot
  m__law_pot : mg "_law_pot" = some (.ref a__law_pot)
  a_is_integer : Addr
  d_is_integer : FuncData
  F_is_integer : Fun K "is_integer" "is_integer" s_is_integer a_is_integer d_is_integer
  m_is_integer : mg "is_integer" = some (.ref a_is_integer)
  a_is_within : Addr
  d_is_within : FuncData
  F_is_within : Fun K "is_within" "is_within" s_is_within a_is_within d_is_within
  m_is_within : mg "is_within" = some (.ref a_is_within)
  a_is_list : Addr
  d_is_list : FuncData
  F_is_list : Fun K "is_list" "is_list" s_is_list a_is_list d_is_list
  m_is_list : mg "is_list" = some (.ref a_is_list)
  a_is_table_of : Addr
  d_is_table_of : FuncData
  F_is_table_of : Fun K "is_table_of" "is_table_of" s_is_table_of a_is_table_of d_is_table_of
  m_is_table_of : mg "is_table_of" = some (.ref a_is_table_of)
  a_is_table : Addr
  d_is_table : FuncData
  F_is_table : Fun K "is_table" "is_table" s_is_table a_is_table d_is_table
  m_is_table : mg "is_table" = some (.ref a_is_table)
  a_check_table : Addr
  d_check_table : FuncData
  F_check_table : Fun K "check_table" "check_table" s_check_table a_check_table d_check_table
  m_check_table : mg "check_table" = some (.ref a_check_table)
  a_is_lot_of : Addr
  d_is_lot_of : FuncData
  F_is_lot_of : Fun K "is_lot_of" "is_lot_of" s_is_lot_of a_is_lot_of d_is_lot_of
  m_is_lot_of : mg "is_lot_of" = some (.ref a_is_lot_of)
  a_check_lot : Addr
  d_check_lot : FuncData
  F_check_lot : Fun K "check_lot" "check_lot" s_check_lot a_check_lot d_check_lot
  m_check_lot : mg "check_lot" = some (.ref a_check_lot)
  a_number_by : Addr
  d_number_by : FuncData
  F_number_by : Fun K "number_by" "number_by" s_number_by a_number_by d_number_by
  m_number_by : mg "number_by" = some (.ref a_number_by)
  a_number_of : Addr
  d_number_of : FuncData
  F_number_of : Fun K "number_of" "number_of" s_number_of a_number_of d_number_of
  m_number_of : mg "number_of" = some (.ref a_number_of)
  a_lot_by : Addr
  d_lot_by : FuncData
  F_lot_by : Fun K "lot_by" "lot_by" s_lot_by a_lot_by d_lot_by
  m_lot_by : mg "lot_by" = some (.ref a_lot_by)
  a_lot_of : Addr
  d_lot_of : FuncData
  F_lot_of : Fun K "lot_of" "lot_of" s_lot_of a_lot_of d_lot_of
  m_lot_of : mg "lot_of" = some (.ref a_lot_of)
  a_worth_of : Addr
  d_worth_of : FuncData
  F_worth_of : Fun K "worth_of" "worth_of" s_worth_of a_worth_of d_worth_of
  m_worth_of : mg "worth_of" = some (.ref a_worth_of)
  a_worth : Addr
  d_worth : FuncData
  F_worth : Fun K "worth" "worth" s_worth a_worth d_worth
  m_worth : mg "worth" = some (.ref a_worth)
  a_check_thing : Addr
  d_check_thing : FuncData
  F_check_thing : Fun K "check_thing" "check_thing" s_check_thing a_check_thing d_check_thing
  m_check_thing : mg "check_thing" = some (.ref a_check_thing)
  a_lot_with : Addr
  d_lot_with : FuncData
  F_lot_with : Fun K "lot_with" "lot_with" s_lot_with a_lot_with d_lot_with
  m_lot_with : mg "lot_with" = some (.ref a_lot_with)
  a_gain_of : Addr
  d_gain_of : FuncData
  F_gain_of : Fun K "gain_of" "gain_of" s_gain_of a_gain_of d_gain_of
  m_gain_of : mg "gain_of" = some (.ref a_gain_of)
  a_adds : Addr
  d_adds : FuncData
  F_adds : Fun K "adds" "adds" s_adds a_adds d_adds
  m_adds : mg "adds" = some (.ref a_adds)
  a_divisor : Addr
  d_divisor : FuncData
  F_divisor : Fun K "divisor" "divisor" s_divisor a_divisor d_divisor
  m_divisor : mg "divisor" = some (.ref a_divisor)
  a_is_fraction_of : Addr
  d_is_fraction_of : FuncData
  F_is_fraction_of : Fun K "is_fraction_of" "is_fraction_of" s_is_fraction_of a_is_fraction_of d_is_fraction_of
  m_is_fraction_of : mg "is_fraction_of" = some (.ref a_is_fraction_of)
  a_is_short : Addr
  d_is_short : FuncData
  F_is_short : Fun K "is_short" "is_short" s_is_short a_is_short d_is_short
  m_is_short : mg "is_short" = some (.ref a_is_short)
  a_is_below : Addr
  d_is_below : FuncData
  F_is_below : Fun K "is_below" "is_below" s_is_below a_is_below d_is_below
  m_is_below : mg "is_below" = some (.ref a_is_below)
  a_are_prices_of : Addr
  d_are_prices_of : FuncData
  F_are_prices_of : Fun K "are_prices_of" "are_prices_of" s_are_prices_of a_are_prices_of d_are_prices_of
  m_are_prices_of : mg "are_prices_of" = some (.ref a_are_prices_of)
  a_check_prices : Addr
  d_check_prices : FuncData
  F_check_prices : Fun K "check_prices" "check_prices" s_check_prices a_check_prices d_check_prices
  m_check_prices : mg "check_prices" = some (.ref a_check_prices)
  a_reduced : Addr
  d_reduced : FuncData
  F_reduced : Fun K "reduced" "reduced" s_reduced a_reduced d_reduced
  m_reduced : mg "reduced" = some (.ref a_reduced)
  a_add : Addr
  d_add : FuncData
  F_add : Fun K "add" "add" s_add a_add d_add
  m_add : mg "add" = some (.ref a_add)
  a_total : Addr
  d_total : FuncData
  F_total : Fun K "total" "total" s_total a_total d_total
  m_total : mg "total" = some (.ref a_total)
  a_price_by : Addr
  d_price_by : FuncData
  F_price_by : Fun K "price_by" "price_by" s_price_by a_price_by d_price_by
  m_price_by : mg "price_by" = some (.ref a_price_by)
  a_price_of : Addr
  d_price_of : FuncData
  F_price_of : Fun K "price_of" "price_of" s_price_of a_price_of d_price_of
  m_price_of : mg "price_of" = some (.ref a_price_of)
  a__law_draw : Addr
  d__law_draw : FuncData
  F__law_draw : Fun K "_law_draw" "_law_draw" s__law_draw a__law_draw d__law_draw
  m__law_draw : mg "_law_draw" = some (.ref a__law_draw)
  a__law_lots : Addr
  d__law_lots : FuncData
  F__law_lots : Fun K "_law_lots" "_law_lots" s__law_lots a__law_lots d__law_lots
  m__law_lots : mg "_law_lots" = some (.ref a__law_lots)
  a__law_pick : Addr
  d__law_pick : FuncData
  F__law_pick : Fun K "_law_pick" "_law_pick" s__law_pick a__law_pick d__law_pick
  m__law_pick : mg "_law_pick" = some (.ref a__law_pick)
  a__law_table : Addr
  d__law_table : FuncData
  F__law_table : Fun K "_law_table" "_law_table" s__law_table a__law_table d__law_table
  m__law_table : mg "_law_table" = some (.ref a__law_table)
  a__law_cut : Addr
  d__law_cut : FuncData
  F__law_cut : Fun K "_law_cut" "_law_cut" s__law_cut a__law_cut d__law_cut
  m__law_cut : mg "_law_cut" = some (.ref a__law_cut)
  a__law_right : Addr
  d__law_right : FuncData
  F__law_right : Fun K "_law_right" "_law_right" s__law_right a__law_right d__law_right
  m__law_right : mg "_law_right" = some (.ref a__law_right)
  a_law : Addr
  d_law : FuncData
  F_law : Fun K "law" "law" s_law a_law d_law
  m_law : mg "law" = some (.ref a_law)
  n_abs : mg "abs" = none
  n_all : mg "all" = none
  n_any : mg "any" = none
  n_bool : mg "bool" = none
  n_divmod : mg "divmod" = none
  n_enumerate : mg "enumerate" = none
  n_int : mg "int" = none
  n_isinstance : mg "isinstance" = none
  n_len : mg "len" = none
  n_list : mg "list" = none
  n_max : mg "max" = none
  n_min : mg "min" = none
  n_range : mg "range" = none
  n_repr : mg "repr" = none
  n_sorted : mg "sorted" = none
  n_sum : mg "sum" = none
  n_tuple : mg "tuple" = none
  n_zip : mg "zip" = none
  c_MOST_DIGITS : GlC K mg "MOST_DIGITS" c_MOST_DIGITS
  c_MOST_PRICE : GlC K mg "MOST_PRICE" c_MOST_PRICE
  c_MOST_THINGS : GlC K mg "MOST_THINGS" c_MOST_THINGS
  c_MOST_WORTH : GlC K mg "MOST_WORTH" c_MOST_WORTH
  c_NOUGHT : GlC K mg "NOUGHT" c_NOUGHT
  c_POWERS : GlC K mg "POWERS" c_POWERS
section
variable {P : Program} {w : World} {K : PySem.W.Frag} {mg : Str → Option Value} {base : Heap}
theorem bi__law_pot (T : Tx K mg) : Binds K T.d__law_pot ["script", "k"] [] := T.F__law_pot.binds fun _ _ _ _ _ _ us hl => match us, hl with | [_, _], _ => rfl
theorem bi_is_integer (T : Tx K mg) : Binds K T.d_is_integer ["value"] [] := T.F_is_integer.binds fun _ _ _ _ _ _ us hl => match us, hl with | [_], _ => rfl
theorem bi_is_within (T : Tx K mg) : Binds K T.d_is_within ["value", "least", "most"] [] := T.F_is_within.binds fun _ _ _ _ _ _ us hl => match us, hl with | [_, _, _], _ => rfl
theorem bi_is_list (T : Tx K mg) : Binds K T.d_is_list ["value"] [] := T.F_is_list.binds fun _ _ _ _ _ _ us hl => match us, hl with | [_], _ => rfl
theorem bi_is_table_of (T : Tx K mg) : Binds K T.d_is_table_of ["value"] [] := T.F_is_table_of.binds fun _ _ _ _ _ _ us hl => match us, hl with | [_], _ => rfl
theorem bi_is_table (T : Tx K mg) : Binds K T.d_is_table ["value"] [] := T.F_is_table.binds fun _ _ _ _ _ _ us hl => match us, hl with | [_], _ => rfl
theorem bi_check_table (T : Tx K mg) : Binds K T.d_check_table ["value"] [] := T.F_check_table.binds fun _ _ _ _ _ _ us hl => match us, hl with | [_], _ => rfl
theorem bi_is_lot_of (T : Tx K mg) : Binds K T.d_is_lot_of ["many", "value"] [] := T.F_is_lot_of.binds fun _ _ _ _ _ _ us hl => match us, hl with | [_, _], _ => rfl
theorem bi_check_lot (T : Tx K mg) : Binds K T.d_check_lot ["table", "value"] [] := T.F_check_lot.binds fun _ _ _ _ _ _ us hl => match us, hl with | [_, _], _ => rfl
theorem bi_number_by (T : Tx K mg) : Binds K T.d_number_by ["lot"] [] := T.F_number_by.binds fun _ _ _ _ _ _ us hl => match us, hl with | [_], _ => rfl
theorem bi_number_of (T : Tx K mg) : Binds K T.d_number_of ["table", "lot"] [] := T.F_number_of.binds fun _ _ _ _ _ _ us hl => match us, hl with | [_, _], _ => rfl
theorem bi_lot_by (T : Tx K mg) : Binds K T.d_lot_by ["number"] [] := T.F_lot_by.binds fun _ _ _ _ _ _ us hl => match us, hl with | [_], _ => rfl
theorem bi_lot_of (T : Tx K mg) : Binds K T.d_lot_of ["table", "number"] [] := T.F_lot_of.binds fun _ _ _ _ _ _ us hl => match us, hl with | [_, _], _ => rfl
theorem bi_worth_of (T : Tx K mg) : Binds K T.d_worth_of ["table", "lot"] [] := T.F_worth_of.binds fun _ _ _ _ _ _ us hl => match us, hl with | [_, _], _ => rfl
theorem bi_worth (T : Tx K mg) : Binds K T.d_worth ["table", "lot"] [] := T.F_worth.binds fun _ _ _ _ _ _ us hl => match us, hl with | [_, _], _ => rfl
theorem bi_check_thing (T : Tx K mg) : Binds K T.d_check_thing ["table", "value"] [] := T.F_check_thing.binds fun _ _ _ _ _ _ us hl => match us, hl with | [_, _], _ => rfl
theorem bi_lot_with (T : Tx K mg) : Binds K T.d_lot_with ["lot", "thing"] [] := T.F_lot_with.binds fun _ _ _ _ _ _ us hl => match us, hl with | [_, _], _ => rfl
theorem bi_gain_of (T : Tx K mg) : Binds K T.d_gain_of ["table", "lot", "thing"] [] := T.F_gain_of.binds fun _ _ _ _ _ _ us hl => match us, hl with | [_, _, _], _ => rfl
theorem bi_adds (T : Tx K mg) : Binds K T.d_adds ["table", "lot", "thing"] [] := T.F_adds.binds fun _ _ _ _ _ _ us hl => match us, hl with | [_, _, _], _ => rfl
theorem bi_divisor (T : Tx K mg) : Binds K T.d_divisor ["one", "late"] [] := T.F_divisor.binds fun _ _ _ _ _ _ us hl => match us, hl with | [_, _], _ => rfl
theorem bi_is_fraction_of (T : Tx K mg) : Binds K T.d_is_fraction_of ["value"] [] := T.F_is_fraction_of.binds fun _ _ _ _ _ _ us hl => match us, hl with | [_], _ => rfl
theorem bi_is_short (T : Tx K mg) : Binds K T.d_is_short ["value"] [] := T.F_is_short.binds fun _ _ _ _ _ _ us hl => match us, hl with | [_], _ => rfl
theorem bi_is_below (T : Tx K mg) : Binds K T.d_is_below ["one", "late"] [] := T.F_is_below.binds fun _ _ _ _ _ _ us hl => match us, hl with | [_, _], _ => rfl
theorem bi_are_prices_of (T : Tx K mg) : Binds K T.d_are_prices_of ["many", "value"] [] := T.F_are_prices_of.binds fun _ _ _ _ _ _ us hl => match us, hl with | [_, _], _ => rfl
theorem bi_check_prices (T : Tx K mg) : Binds K T.d_check_prices ["many", "value"] [] := T.F_check_prices.binds fun _ _ _ _ _ _ us hl => match us, hl with | [_, _], _ => rfl
theorem bi_reduced (T : Tx K mg) : Binds K T.d_reduced ["top", "bottom"] [] := T.F_reduced.binds fun _ _ _ _ _ _ us hl => match us, hl with | [_, _], _ => rfl
theorem bi_add (T : Tx K mg) : Binds K T.d_add ["one", "late"] [] := T.F_add.binds fun _ _ _ _ _ _ us hl => match us, hl with | [_, _], _ => rfl
theorem bi_total (T : Tx K mg) : Binds K T.d_total ["some"] [] := T.F_total.binds fun _ _ _ _ _ _ us hl => match us, hl with | [_], _ => rfl
theorem bi_price_by (T : Tx K mg) : Binds K T.d_price_by ["prices", "lot"] [] := T.F_price_by.binds fun _ _ _ _ _ _ us hl => match us, hl with | [_, _], _ => rfl
theorem bi_price_of (T : Tx K mg) : Binds K T.d_price_of ["table", "lot", "prices"] [] := T.F_price_of.binds fun _ _ _ _ _ _ us hl => match us, hl with | [_, _, _], _ => rfl
theorem bi__law_draw (T : Tx K mg) : Binds K T.d__law_draw ["pot", "many"] [] := T.F__law_draw.binds fun _ _ _ _ _ _ us hl => match us, hl with | [_, _], _ => rfl
theorem bi__law_lots (T : Tx K mg) : Binds K T.d__law_lots ["many"] [] := T.F__law_lots.binds fun _ _ _ _ _ _ us hl => match us, hl with | [_], _ => rfl
theorem bi__law_pick (T : Tx K mg) : Binds K T.d__law_pick ["pot", "some"] [] := T.F__law_pick.binds fun _ _ _ _ _ _ us hl => match us, hl with | [_, _], _ => rfl
theorem bi__law_table (T : Tx K mg) : Binds K T.d__law_table ["pot", "most"] [] := T.F__law_table.binds fun _ _ _ _ _ _ us hl => match us, hl with | [_, _], _ => rfl
theorem bi__law_cut (T : Tx K mg) : Binds K T.d__law_cut ["top", "bottom"] [] := T.F__law_cut.binds fun _ _ _ _ _ _ us hl => match us, hl with | [_, _], _ => rfl
theorem bi__law_right (T : Tx K mg) : Binds K T.d__law_right ["pot"] [] := T.F__law_right.binds fun _ _ _ _ _ _ us hl => match us, hl with | [_], _ => rfl
theorem bi_law (T : Tx K mg) : Binds K T.d_law ["script"] [] := T.F_law.binds fun _ _ _ _ _ _ us hl => match us, hl with | [_], _ => rfl
theorem kb_adds_0_thing_lot_table (T : Tx K mg) : KB K T.d_adds ["table", "lot", "thing"] ["thing", "lot", "table"] (gsel 0 3 [2, 1, 0]) := kb_mk 0 3 [2, 1, 0] T.F_adds (by decide) fun _ _ _ _ _ _ us ws h1 h2 => match us, ws, h1, h2 with | [], [_, _, _], _, _ => rfl
theorem kb_lot_of_0_number_table (T : Tx K mg) : KB K T.d_lot_of ["table", "number"] ["number", "table"] (gsel 0 2 [1, 0]) := kb_mk 0 2 [1, 0] T.F_lot_of (by decide) fun _ _ _ _ _ _ us ws h1 h2 => match us, ws, h1, h2 with | [], [_, _], _, _ => rfl
theorem kb_number_of_0_lot_table (T : Tx K mg) : KB K T.d_number_of ["table", "lot"] ["lot", "table"] (gsel 0 2 [1, 0]) := kb_mk 0 2 [1, 0] T.F_number_of (by decide) fun _ _ _ _ _ _ us ws h1 h2 => match us, ws, h1, h2 with | [], [_, _], _, _ => rfl
theorem kb_price_of_0_prices_lot_table (T : Tx K mg) : KB K T.d_price_of ["table", "lot", "prices"] ["prices", "lot", "table"] (gsel 0 3 [2, 1, 0]) := kb_mk 0 3 [2, 1, 0] T.F_price_of (by decide) fun _ _ _ _ _ _ us ws h1 h2 => match us, ws, h1, h2 with | [], [_, _, _], _, _ => rfl
theorem kb_worth_0_lot_table (T : Tx K mg) : KB K T.d_worth ["table", "lot"] ["lot", "table"] (gsel 0 2 [1, 0]) := kb_mk 0 2 [1, 0] T.F_worth (by decide) fun _ _ _ _ _ _ us ws h1 h2 => match us, ws, h1, h2 with | [], [_, _], _, _ => rfl
theorem ok__law_pot (T : Tx K mg) : FnG P w K mg base 1 T.a__law_pot T.d__law_pot ["script", "k"] f__law_pot := okM T.F__law_pot sc__law_pot fun cdv A outer s H hr =>
  vss_cons (vs_set 2 (ve_ife (vt_lt (ve_var 1) (ve_len T.n_len (va_cons (ve_var 0) (va_nil)))) (ve_abs T.n_abs (va_cons (ve_ix (ve_var 0) (ve_var 1)) (va_nil))) (ve_add (ve_mul (ve_int) (ve_var 1)) (ve_int))) sc__law_pot.nd) (vss_one (vs_ret (ve_lstM (va_cons (ve_max2 rfl T.n_max (va_cons (ve_int) (va_cons (ve_sub (ve_var 2) (ve_pow (ve_int) (ve_int))) (va_nil)))) (va_cons (ve_add (ve_mod (ve_toInt T.n_int (va_cons (ve_add (ve_add (ve_mul (ve_mod (ve_toInt T.n_int (va_cons (ve_var 2) (va_nil))) (ve_int)) (ve_int)) (ve_mul (ve_int) (ve_var 1))) (ve_int)) (va_nil))) (ve_int)) (ve_int)) (va_nil))))))
theorem ok_is_integer (T : Tx K mg) : FnG P w K mg base 1 T.a_is_integer T.d_is_integer ["value"] f_is_integer := okD T.F_is_integer sc_is_integer fun cdv A outer s H hr =>
  vss_one (vs_ret (ve_and (ve_isi rfl T.n_isinstance T.n_int bt_int (ve_var 0)) (ve_one (ve_not (ve_isi rfl T.n_isinstance T.n_bool bt_bool (ve_var 0))))))
theorem ok_is_within (T : Tx K mg) : FnG P w K mg base 2 T.a_is_within T.d_is_within ["value", "least", "most"] f_is_within := okD T.F_is_within sc_is_within fun cdv A outer s H hr =>
  vss_one (vs_ret (ve_and (ve_call ((ok_is_integer T).mono (by decide)) hr T.m_is_integer T.F_is_integer.kp (bi_is_integer T) (va_cons (ve_var 0) (va_nil))) (ve_one (ve_chnI op_le op_le (ve_var 1) (ve_var 0) (ve_var 2)))))
theorem ok_is_list (T : Tx K mg) : FnG P w K mg base 1 T.a_is_list T.d_is_list ["value"] f_is_list := okD T.F_is_list sc_is_list fun cdv A outer s H hr =>
  vss_one (vs_ret (ve_isi2 rfl rfl T.n_isinstance T.n_list T.n_tuple bt_list bt_tuple (ve_var 0)))
theorem ok_is_table_of (T : Tx K mg) : FnG P w K mg base 3 T.a_is_table_of T.d_is_table_of ["value"] f_is_table_of := okD T.F_is_table_of sc_is_table_of fun cdv A outer s H hr =>
  vss_cons (vs_if (PW.pt (vw_or (vt_not (vt_val (ve_isi rfl T.n_isinstance T.n_tuple bt_tuple (ve_var 0)))) (vw_or (vt_ne hr.rm (ve_len T.n_len (va_cons (ve_var 0) (va_nil))) (ve_int)) (vw_or1 (vt_not (vt_val (ve_call ((ok_is_within T).mono (by decide)) hr T.m_is_within T.F_is_within.kp (bi_is_within T) (va_cons (ve_ix (ve_var 0) (ve_int)) (va_cons (ve_int) (va_cons (ve_glob T.c_MOST_THINGS) (va_nil))))))))))) (vss_one (vs_ret (ve_bl))) (vss_nil)) (vss_cons (vs_if (PW.pt (vw_or (vt_not (vt_val (ve_call ((ok_is_list T).mono (by decide)) hr T.m_is_list T.F_is_list.kp (bi_is_list T) (va_cons (ve_ix (ve_var 0) (ve_int)) (va_nil))))) (vw_or1 (vt_ne hr.rm (ve_len T.n_len (va_cons (ve_ix (ve_var 0) (ve_int)) (va_nil))) (ve_ix (ve_glob T.c_POWERS) (ve_ix (ve_var 0) (ve_int))))))) (vss_one (vs_ret (ve_bl))) (vss_nil)) (vss_one (vs_ret (ve_all rfl T.n_all (va_cons (ve_lcW (own := [("one", 1)]) mkL_ok (blkOk_by (by kernel_rfl)) sc_is_table_of.nd rfl (vi_seq (ve_ix (ve_var 0) (ve_int))) (fun _ _ _ _ _ => vg_name 1 sc_is_table_of.nd) (fun _ _ _ _ _ => vts_nil) (fun _ _ _ _ _ => ve_call ((ok_is_within T).mono (by decide)) hr T.m_is_within T.F_is_within.kp (bi_is_within T) (va_cons (ve_var 1) (va_cons (ve_sub (ve_int) (ve_glob T.c_MOST_WORTH)) (va_cons (ve_glob T.c_MOST_WORTH) (va_nil)))))) (va_nil))))))
theorem ok_is_table (T : Tx K mg) : FnG P w K mg base 4 T.a_is_table T.d_is_table ["value"] f_is_table := okD T.F_is_table sc_is_table fun cdv A outer s H hr =>
  vss_one (vs_ret (ve_call ((ok_is_table_of T).mono (by decide)) hr T.m_is_table_of T.F_is_table_of.kp (bi_is_table_of T) (va_cons (ve_var 0) (va_nil))))
theorem ok_check_table (T : Tx K mg) : FnG P w K mg base 4 T.a_check_table T.d_check_table ["value"] f_check_table := okD T.F_check_table sc_check_table fun cdv A outer s H hr =>
  vss_one (vs_if (vt_not (vt_val (ve_call ((ok_is_table_of T).mono (by decide)) hr T.m_is_table_of T.F_is_table_of.kp (bi_is_table_of T) (va_cons (ve_var 0) (va_nil))))) (vss_no) (vss_nil))
theorem ok_is_lot_of (T : Tx K mg) : FnG P w K mg base 3 T.a_is_lot_of T.d_is_lot_of ["many", "value"] f_is_lot_of := okD T.F_is_lot_of sc_is_lot_of fun cdv A outer s H hr =>
  vss_cons (vs_if (PW.pt (vw_or (vt_not (vt_val (ve_isi rfl T.n_isinstance T.n_tuple bt_tuple (ve_var 1)))) (vw_or1 (vt_not (vt_val (ve_all rfl T.n_all (va_cons (ve_lcW (own := [("one", 2)]) mkL_ok (blkOk_by (by kernel_rfl)) sc_is_lot_of.nd rfl (vi_seq (ve_var 1)) (fun _ _ _ _ _ => vg_name 2 sc_is_lot_of.nd) (fun _ _ _ _ _ => vts_nil) (fun _ _ _ _ _ => ve_call ((ok_is_within T).mono (by decide)) hr T.m_is_within T.F_is_within.kp (bi_is_within T) (va_cons (ve_var 2) (va_cons (ve_int) (va_cons (ve_sub (ve_var 0) (ve_int)) (va_nil)))))) (va_nil)))))))) (vss_one (vs_ret (ve_bl))) (vss_nil)) (vss_one (vs_ret (ve_all rfl T.n_all (va_cons (ve_lcW (own := [("one", 2), ("late", 3)]) mkL_ok (blkOk_by (by kernel_rfl)) sc_is_lot_of.nd rfl (vi_zip (va_cons (ve_var 1) (va_cons (ve_sl (ve_var 1) (vo_some (ve_int)) (vo_none)) (va_nil))) rfl T.n_zip) (fun _ _ _ _ _ => vg_tup rfl (vgs_cons (vg_name 2 sc_is_lot_of.nd) (vgs_cons (vg_name 3 sc_is_lot_of.nd) (vgs_nil)))) (fun _ _ _ _ _ => vts_nil) (fun _ _ _ _ _ => ve_lt (ve_var 2) (ve_var 3))) (va_nil)))))
theorem ok_check_lot (T : Tx K mg) : FnG P w K mg base 4 T.a_check_lot T.d_check_lot ["table", "value"] f_check_lot := okD T.F_check_lot sc_check_lot fun cdv A outer s H hr =>
  vss_one (vs_if (vt_not (vt_val (ve_call ((ok_is_lot_of T).mono (by decide)) hr T.m_is_lot_of T.F_is_lot_of.kp (bi_is_lot_of T) (va_cons (ve_ix (ve_var 0) (ve_int)) (va_cons (ve_var 1) (va_nil)))))) (vss_no) (vss_nil))
theorem ok_number_by (T : Tx K mg) : FnG P w K mg base 1 T.a_number_by T.d_number_by ["lot"] f_number_by := okD T.F_number_by sc_number_by fun cdv A outer s H hr =>
  vss_one (vs_ret (ve_sum rfl T.n_sum (va_cons (ve_lcW (own := [("thing", 1)]) mkL_ok (blkOk_by (by kernel_rfl)) sc_number_by.nd rfl (vi_seq (ve_var 0)) (fun _ _ _ _ _ => vg_name 1 sc_number_by.nd) (fun _ _ _ _ _ => vts_nil) (fun _ _ _ _ _ => ve_ix (ve_glob T.c_POWERS) (ve_var 1))) (va_nil))))
theorem ok_number_of (T : Tx K mg) : FnG P w K mg base 5 T.a_number_of T.d_number_of ["table", "lot"] f_number_of := okD T.F_number_of sc_number_of fun cdv A outer s H hr =>
  vss_cons (vs_expr (ve_call ((ok_check_table T).mono (by decide)) hr T.m_check_table T.F_check_table.kp (bi_check_table T) (va_cons (ve_var 0) (va_nil)))) (vss_cons (vs_expr (ve_call ((ok_check_lot T).mono (by decide)) hr T.m_check_lot T.F_check_lot.kp (bi_check_lot T) (va_cons (ve_var 0) (va_cons (ve_var 1) (va_nil))))) (vss_one (vs_ret (ve_call ((ok_number_by T).mono (by decide)) hr T.m_number_by T.F_number_by.kp (bi_number_by T) (va_cons (ve_var 1) (va_nil))))))
theorem ok_lot_by (T : Tx K mg) : FnG P w K mg base 1 T.a_lot_by T.d_lot_by ["number"] f_lot_by := okD T.F_lot_by sc_lot_by fun cdv A outer s H hr =>
  vss_cons (vs_par 1 2 (va_cons (ve_lstM (va_nil)) (va_cons (ve_int) (va_nil))) sc_lot_by.nd rfl) (vss_cons (vs_while PassesOwn.never (vt_gt (ve_var 0) (ve_int)) (vss_cons (vs_if (vt_eq hr.rm (ve_mod (ve_toInt T.n_int (va_cons (ve_var 0) (va_nil))) (ve_int)) (ve_int)) (vss_one (vs_expr (ve_append (ve_var 1) (ve_var 2)))) (vss_nil)) (vss_one (vs_par 0 2 (va_cons (ve_fdv (ve_var 0) (ve_int)) (va_cons (ve_add (ve_var 2) (ve_int)) (va_nil))) sc_lot_by.nd rfl)))) (vss_one (vs_ret (ve_toTup T.n_tuple (va_cons (ve_var 1) (va_nil))))))
theorem ok_lot_of (T : Tx K mg) : FnG P w K mg base 5 T.a_lot_of T.d_lot_of ["table", "number"] f_lot_of := okD T.F_lot_of sc_lot_of fun cdv A outer s H hr =>
  vss_cons (vs_expr (ve_call ((ok_check_table T).mono (by decide)) hr T.m_check_table T.F_check_table.kp (bi_check_table T) (va_cons (ve_var 0) (va_nil)))) (vss_cons (vs_if (vt_not (vt_val (ve_call ((ok_is_within T).mono (by decide)) hr T.m_is_within T.F_is_within.kp (bi_is_within T) (va_cons (ve_var 1) (va_cons (ve_int) (va_cons (ve_sub (ve_ix (ve_glob T.c_POWERS) (ve_ix (ve_var 0) (ve_int))) (ve_int)) (va_nil))))))) (vss_no) (vss_nil)) (vss_one (vs_ret (ve_call ((ok_lot_by T).mono (by decide)) hr T.m_lot_by T.F_lot_by.kp (bi_lot_by T) (va_cons (ve_var 1) (va_nil))))))
theorem ok_worth_of (T : Tx K mg) : FnG P w K mg base 2 T.a_worth_of T.d_worth_of ["table", "lot"] f_worth_of := okD T.F_worth_of sc_worth_of fun cdv A outer s H hr =>
  vss_one (vs_ret (ve_ix (ve_ix (ve_var 0) (ve_int)) (ve_call ((ok_number_by T).mono (by decide)) hr T.m_number_by T.F_number_by.kp (bi_number_by T) (va_cons (ve_var 1) (va_nil)))))
theorem ok_worth (T : Tx K mg) : FnG P w K mg base 5 T.a_worth T.d_worth ["table", "lot"] f_worth := okD T.F_worth sc_worth fun cdv A outer s H hr =>
  vss_cons (vs_expr (ve_call ((ok_check_table T).mono (by decide)) hr T.m_check_table T.F_check_table.kp (bi_check_table T) (va_cons (ve_var 0) (va_nil)))) (vss_cons (vs_expr (ve_call ((ok_check_lot T).mono (by decide)) hr T.m_check_lot T.F_check_lot.kp (bi_check_lot T) (va_cons (ve_var 0) (va_cons (ve_var 1) (va_nil))))) (vss_one (vs_ret (ve_call ((ok_worth_of T).mono (by decide)) hr T.m_worth_of T.F_worth_of.kp (bi_worth_of T) (va_cons (ve_var 0) (va_cons (ve_var 1) (va_nil)))))))
theorem ok_check_thing (T : Tx K mg) : FnG P w K mg base 3 T.a_check_thing T.d_check_thing ["table", "value"] f_check_thing := okD T.F_check_thing sc_check_thing fun cdv A outer s H hr =>
  vss_one (vs_if (vt_not (vt_val (ve_call ((ok_is_within T).mono (by decide)) hr T.m_is_within T.F_is_within.kp (bi_is_within T) (va_cons (ve_var 1) (va_cons (ve_int) (va_cons (ve_sub (ve_ix (ve_var 0) (ve_int)) (ve_int)) (va_nil))))))) (vss_no) (vss_nil))
theorem ok_lot_with (T : Tx K mg) : FnG P w K mg base 1 T.a_lot_with T.d_lot_with ["lot", "thing"] f_lot_with := okD T.F_lot_with sc_lot_with fun cdv A outer s H hr =>
  vss_one (vs_ret (ve_toTup T.n_tuple (va_cons (ve_sorted T.n_sorted (va_cons (ve_add (ve_var 0) (ve_tup (va_cons (ve_var 1) (va_nil)))) (va_nil))) (va_nil))))
theorem ok_gain_of (T : Tx K mg) : FnG P w K mg base 3 T.a_gain_of T.d_gain_of ["table", "lot", "thing"] f_gain_of := okD T.F_gain_of sc_gain_of fun cdv A outer s H hr =>
  vss_one (vs_ret (ve_sub (ve_call ((ok_worth_of T).mono (by decide)) hr T.m_worth_of T.F_worth_of.kp (bi_worth_of T) (va_cons (ve_var 0) (va_cons (ve_call ((ok_lot_with T).mono (by decide)) hr T.m_lot_with T.F_lot_with.kp (bi_lot_with T) (va_cons (ve_var 1) (va_cons (ve_var 2) (va_nil)))) (va_nil)))) (ve_call ((ok_worth_of T).mono (by decide)) hr T.m_worth_of T.F_worth_of.kp (bi_worth_of T) (va_cons (ve_var 0) (va_cons (ve_var 1) (va_nil))))))
theorem ok_adds (T : Tx K mg) : FnG P w K mg base 5 T.a_adds T.d_adds ["table", "lot", "thing"] f_adds := okD T.F_adds sc_adds fun cdv A outer s H hr =>
  vss_cons (vs_expr (ve_call ((ok_check_table T).mono (by decide)) hr T.m_check_table T.F_check_table.kp (bi_check_table T) (va_cons (ve_var 0) (va_nil)))) (vss_cons (vs_expr (ve_call ((ok_check_lot T).mono (by decide)) hr T.m_check_lot T.F_check_lot.kp (bi_check_lot T) (va_cons (ve_var 0) (va_cons (ve_var 1) (va_nil))))) (vss_cons (vs_expr (ve_call ((ok_check_thing T).mono (by decide)) hr T.m_check_thing T.F_check_thing.kp (bi_check_thing T) (va_cons (ve_var 0) (va_cons (ve_var 2) (va_nil))))) (vss_cons (vs_if (vt_in hr.rm (ve_var 2) (ve_var 1)) (vss_no) (vss_nil)) (vss_one (vs_ret (ve_call ((ok_gain_of T).mono (by decide)) hr T.m_gain_of T.F_gain_of.kp (bi_gain_of T) (va_cons (ve_var 0) (va_cons (ve_var 1) (va_cons (ve_var 2) (va_nil))))))))))
theorem ok_divisor (T : Tx K mg) : FnG P w K mg base 1 T.a_divisor T.d_divisor ["one", "late"] f_divisor := okD T.F_divisor sc_divisor fun cdv A outer s H hr =>
  vss_cons (vs_while PassesOwn.never (vt_gt (ve_var 1) (ve_int)) (vss_one (vs_par 0 1 (va_cons (ve_var 1) (va_cons (ve_mod (ve_toInt T.n_int (va_cons (ve_var 0) (va_nil))) (ve_var 1)) (va_nil))) sc_divisor.nd rfl))) (vss_one (vs_ret (ve_var 0)))
theorem ok_is_fraction_of (T : Tx K mg) : FnG P w K mg base 2 T.a_is_fraction_of T.d_is_fraction_of ["value"] f_is_fraction_of := okD T.F_is_fraction_of sc_is_fraction_of fun cdv A outer s H hr =>
  vss_cons (vs_if (PW.pt (vw_or (vt_not (vt_val (ve_isi rfl T.n_isinstance T.n_tuple bt_tuple (ve_var 0)))) (vw_or (vt_ne hr.rm (ve_len T.n_len (va_cons (ve_var 0) (va_nil))) (ve_int)) (vw_or (vt_not (vt_val (ve_call ((ok_is_integer T).mono (by decide)) hr T.m_is_integer T.F_is_integer.kp (bi_is_integer T) (va_cons (ve_ix (ve_var 0) (ve_int)) (va_nil))))) (vw_or1 (vt_not (vt_val (ve_call ((ok_is_integer T).mono (by decide)) hr T.m_is_integer T.F_is_integer.kp (bi_is_integer T) (va_cons (ve_ix (ve_var 0) (ve_int)) (va_nil)))))))))) (vss_one (vs_ret (ve_bl))) (vss_nil)) (vss_one (vs_ret (ve_and (ve_ge (ve_ix (ve_var 0) (ve_int)) (ve_int)) (ve_one (ve_eq hr.rm (ve_call ((ok_divisor T).mono (by decide)) hr T.m_divisor T.F_divisor.kp (bi_divisor T) (va_cons (ve_abs T.n_abs (va_cons (ve_ix (ve_var 0) (ve_int)) (va_nil))) (va_cons (ve_ix (ve_var 0) (ve_int)) (va_nil)))) (ve_int))))))
theorem ok_is_short (T : Tx K mg) : FnG P w K mg base 3 T.a_is_short T.d_is_short ["value"] f_is_short := okD T.F_is_short sc_is_short fun cdv A outer s H hr =>
  vss_one (vs_ret (ve_and (ve_call ((ok_is_fraction_of T).mono (by decide)) hr T.m_is_fraction_of T.F_is_fraction_of.kp (bi_is_fraction_of T) (va_cons (ve_var 0) (va_nil))) (ve_and (ve_lt (ve_abs T.n_abs (va_cons (ve_ix (ve_var 0) (ve_int)) (va_nil))) (ve_glob T.c_MOST_DIGITS)) (ve_one (ve_lt (ve_ix (ve_var 0) (ve_int)) (ve_glob T.c_MOST_DIGITS))))))
theorem ok_is_below (T : Tx K mg) : FnG P w K mg base 1 T.a_is_below T.d_is_below ["one", "late"] f_is_below := okD T.F_is_below sc_is_below fun cdv A outer s H hr =>
  vss_one (vs_ret (ve_lt (ve_mul (ve_ix (ve_var 0) (ve_int)) (ve_ix (ve_var 1) (ve_int))) (ve_mul (ve_ix (ve_var 1) (ve_int)) (ve_ix (ve_var 0) (ve_int)))))
theorem ok_are_prices_of (T : Tx K mg) : FnG P w K mg base 3 T.a_are_prices_of T.d_are_prices_of ["many", "value"] f_are_prices_of := okD T.F_are_prices_of sc_are_prices_of fun cdv A outer s H hr =>
  vss_one (vs_ret (ve_and (ve_call ((ok_is_list T).mono (by decide)) hr T.m_is_list T.F_is_list.kp (bi_is_list T) (va_cons (ve_var 1) (va_nil))) (ve_and (ve_eq hr.rm (ve_len T.n_len (va_cons (ve_var 1) (va_nil))) (ve_var 0)) (ve_one (ve_all rfl T.n_all (va_cons (ve_lcW (own := [("one", 2)]) mkL_ok (blkOk_by (by kernel_rfl)) sc_are_prices_of.nd rfl (vi_seq (ve_var 1)) (fun _ _ _ _ _ => vg_name 2 sc_are_prices_of.nd) (fun _ _ _ _ _ => vts_nil) (fun _ _ _ _ _ => ve_call ((ok_is_fraction_of T).mono (by decide)) hr T.m_is_fraction_of T.F_is_fraction_of.kp (bi_is_fraction_of T) (va_cons (ve_var 2) (va_nil)))) (va_nil)))))))
theorem ok_check_prices (T : Tx K mg) : FnG P w K mg base 4 T.a_check_prices T.d_check_prices ["many", "value"] f_check_prices := okD T.F_check_prices sc_check_prices fun cdv A outer s H hr =>
  vss_cons (vs_if (PW.pt (vw_or (vt_not (vt_val (ve_call ((ok_are_prices_of T).mono (by decide)) hr T.m_are_prices_of T.F_are_prices_of.kp (bi_are_prices_of T) (va_cons (ve_var 0) (va_cons (ve_var 1) (va_nil)))))) (vw_or1 (vt_not (vt_val (ve_all rfl T.n_all (va_cons (ve_lcW (own := [("one", 2)]) mkL_ok (blkOk_by (by kernel_rfl)) sc_check_prices.nd rfl (vi_seq (ve_var 1)) (fun _ _ _ _ _ => vg_name 2 sc_check_prices.nd) (fun _ _ _ _ _ => vts_nil) (fun _ _ _ _ _ => ve_call ((ok_is_short T).mono (by decide)) hr T.m_is_short T.F_is_short.kp (bi_is_short T) (va_cons (ve_var 2) (va_nil)))) (va_nil)))))))) (vss_no) (vss_nil)) (vss_one (vs_if (vt_val (ve_any rfl T.n_any (va_cons (ve_lcW (own := [("one", 2)]) mkL_ok (blkOk_by (by kernel_rfl)) sc_check_prices.nd rfl (vi_seq (ve_var 1)) (fun _ _ _ _ _ => vg_name 2 sc_check_prices.nd) (fun _ _ _ _ _ => vts_nil) (fun _ _ _ _ _ => ve_call ((ok_is_below T).mono (by decide)) hr T.m_is_below T.F_is_below.kp (bi_is_below T) (va_cons (ve_tup (va_cons (ve_glob T.c_MOST_PRICE) (va_cons (ve_int) (va_nil)))) (va_cons (ve_tup (va_cons (ve_abs T.n_abs (va_cons (ve_ix (ve_var 2) (ve_int)) (va_nil))) (va_cons (ve_ix (ve_var 2) (ve_int)) (va_nil)))) (va_nil))))) (va_nil)))) (vss_no) (vss_nil)))
theorem ok_reduced (T : Tx K mg) : FnG P w K mg base 2 T.a_reduced T.d_reduced ["top", "bottom"] f_reduced := okD T.F_reduced sc_reduced fun cdv A outer s H hr =>
  vss_cons (vs_if (vt_lt (ve_var 1) (ve_int)) (vss_one (vs_par 0 1 (va_cons (ve_sub (ve_int) (ve_var 0)) (va_cons (ve_sub (ve_int) (ve_var 1)) (va_nil))) sc_reduced.nd rfl)) (vss_nil)) (vss_cons (vs_set 2 (ve_call ((ok_divisor T).mono (by decide)) hr T.m_divisor T.F_divisor.kp (bi_divisor T) (va_cons (ve_abs T.n_abs (va_cons (ve_var 0) (va_nil))) (va_cons (ve_var 1) (va_nil)))) sc_reduced.nd) (vss_one (vs_ret (ve_tup (va_cons (ve_fdv (ve_var 0) (ve_var 2)) (va_cons (ve_fdv (ve_var 1) (ve_var 2)) (va_nil)))))))
theorem ok_add (T : Tx K mg) : FnG P w K mg base 3 T.a_add T.d_add ["one", "late"] f_add := okD T.F_add sc_add fun cdv A outer s H hr =>
  vss_one (vs_ret (ve_call ((ok_reduced T).mono (by decide)) hr T.m_reduced T.F_reduced.kp (bi_reduced T) (va_cons (ve_add (ve_mul (ve_ix (ve_var 0) (ve_int)) (ve_ix (ve_var 1) (ve_int))) (ve_mul (ve_ix (ve_var 1) (ve_int)) (ve_ix (ve_var 0) (ve_int)))) (va_cons (ve_mul (ve_ix (ve_var 0) (ve_int)) (ve_ix (ve_var 1) (ve_int))) (va_nil)))))
theorem ok_total (T : Tx K mg) : FnG P w K mg base 4 T.a_total T.d_total ["some"] f_total := okD T.F_total sc_total fun cdv A outer s H hr =>
  vss_cons (vs_set 1 (ve_glob T.c_NOUGHT) sc_total.nd) (vss_cons (vs_for PassesOwn.never rfl (vi_seq (ve_var 0)) (vg_name 2 sc_total.nd) (vss_one (vs_set 1 (ve_call ((ok_add T).mono (by decide)) hr T.m_add T.F_add.kp (bi_add T) (va_cons (ve_var 1) (va_cons (ve_var 2) (va_nil)))) sc_total.nd))) (vss_one (vs_ret (ve_var 1))))
theorem ok_price_by (T : Tx K mg) : FnG P w K mg base 5 T.a_price_by T.d_price_by ["prices", "lot"] f_price_by := okD T.F_price_by sc_price_by fun cdv A outer s H hr =>
  vss_one (vs_ret (ve_call ((ok_total T).mono (by decide)) hr T.m_total T.F_total.kp (bi_total T) (va_cons (ve_lcW (own := [("thing", 2)]) mkL_ok (blkOk_by (by kernel_rfl)) sc_price_by.nd rfl (vi_seq (ve_var 1)) (fun _ _ _ _ _ => vg_name 2 sc_price_by.nd) (fun _ _ _ _ _ => vts_nil) (fun _ _ _ _ _ => ve_ix (ve_var 0) (ve_var 2))) (va_nil))))
theorem ok_price_of (T : Tx K mg) : FnG P w K mg base 6 T.a_price_of T.d_price_of ["table", "lot", "prices"] f_price_of := okD T.F_price_of sc_price_of fun cdv A outer s H hr =>
  vss_cons (vs_expr (ve_call ((ok_check_table T).mono (by decide)) hr T.m_check_table T.F_check_table.kp (bi_check_table T) (va_cons (ve_var 0) (va_nil)))) (vss_cons (vs_expr (ve_call ((ok_check_lot T).mono (by decide)) hr T.m_check_lot T.F_check_lot.kp (bi_check_lot T) (va_cons (ve_var 0) (va_cons (ve_var 1) (va_nil))))) (vss_cons (vs_expr (ve_call ((ok_check_prices T).mono (by decide)) hr T.m_check_prices T.F_check_prices.kp (bi_check_prices T) (va_cons (ve_ix (ve_var 0) (ve_int)) (va_cons (ve_var 2) (va_nil))))) (vss_one (vs_ret (ve_call ((ok_price_by T).mono (by decide)) hr T.m_price_by T.F_price_by.kp (bi_price_by T) (va_cons (ve_var 2) (va_cons (ve_var 1) (va_nil))))))))
theorem ok__law_draw (T : Tx K mg) : FnG P w K mg base 1 T.a__law_draw T.d__law_draw ["pot", "many"] f__law_draw := okD T.F__law_draw sc__law_draw fun cdv A outer s H hr =>
  vss_cons (vs_if (vt_gt (ve_ix (ve_var 0) (ve_int)) (ve_int)) (vss_cons (vs_asg (ve_divmod T.n_divmod (va_cons (ve_ix (ve_var 0) (ve_int)) (va_cons (ve_var 1) (va_nil)))) (vg_tup rfl (vgs_cons (vg_sub (ve_var 0) (ve_int)) (vgs_cons (vg_name 2 sc__law_draw.nd) (vgs_nil))))) (vss_one (vs_ret (ve_var 2)))) (vss_nil)) (vss_cons (vs_asg (ve_mod (ve_toInt T.n_int (va_cons (ve_add (ve_mul (ve_ix (ve_var 0) (ve_int)) (ve_int)) (ve_int)) (va_nil))) (ve_int)) (vg_sub (ve_var 0) (ve_int))) (vss_one (vs_ret (ve_mod (ve_toInt T.n_int (va_cons (ve_fdv (ve_mod (ve_toInt T.n_int (va_cons (ve_mul (ve_ix (ve_var 0) (ve_int)) (ve_ix (ve_var 0) (ve_int))) (va_nil))) (ve_int)) (ve_int)) (va_nil))) (ve_var 1)))))
theorem ok__law_lots (T : Tx K mg) : FnG P w K mg base 1 T.a__law_lots T.d__law_lots ["many"] f__law_lots := okD T.F__law_lots sc__law_lots fun cdv A outer s H hr =>
  vss_cons (vs_set 1 (ve_lst (va_cons (ve_tup (va_nil)) (va_nil))) sc__law_lots.nd) (vss_cons (vs_for PassesOwn.never rfl (vi_rng1 (va_cons (ve_var 0) (va_nil)) rfl T.n_range) (vg_name 2 sc__law_lots.nd) (vss_one (vs_set 1 (ve_add (ve_var 1) (ve_lcW (own := [("lot", 3)]) mkL_ok (blkOk_by (by kernel_rfl)) sc__law_lots.nd rfl (vi_seq (ve_var 1)) (fun _ _ _ _ _ => vg_name 3 sc__law_lots.nd) (fun _ _ _ _ _ => vts_nil) (fun _ _ _ _ _ => ve_add (ve_var 3) (ve_tup (va_cons (ve_var 2) (va_nil)))))) sc__law_lots.nd))) (vss_one (vs_ret (ve_var 1))))
theorem ok__law_pick (T : Tx K mg) : FnG P w K mg base 2 T.a__law_pick T.d__law_pick ["pot", "some"] f__law_pick := okD T.F__law_pick sc__law_pick fun cdv A outer s H hr =>
  vss_one (vs_ret (ve_ix (ve_var 1) (ve_call ((ok__law_draw T).mono (by decide)) hr T.m__law_draw T.F__law_draw.kp (bi__law_draw T) (va_cons (ve_var 0) (va_cons (ve_len T.n_len (va_cons (ve_var 1) (va_nil))) (va_nil))))))
theorem ok__law_table (T : Tx K mg) : FnG P w K mg base 3 T.a__law_table T.d__law_table ["pot", "most"] f__law_table := okD T.F__law_table sc__law_table fun cdv A outer s H hr =>
  vss_cons (vs_par 2 3 (va_cons (ve_add (ve_int) (ve_call ((ok__law_draw T).mono (by decide)) hr T.m__law_draw T.F__law_draw.kp (bi__law_draw T) (va_cons (ve_var 0) (va_cons (ve_var 1) (va_nil))))) (va_cons (ve_call ((ok__law_draw T).mono (by decide)) hr T.m__law_draw T.F__law_draw.kp (bi__law_draw T) (va_cons (ve_var 0) (va_cons (ve_int) (va_nil)))) (va_nil))) sc__law_table.nd rfl) (vss_cons (vs_asg (ve_tup (va_cons (ve_call ((ok__law_lots T).mono (by decide)) hr T.m__law_lots T.F__law_lots.kp (bi__law_lots T) (va_cons (ve_var 2) (va_nil))) (va_cons (ve_call ((ok__law_pick T).mono (by decide)) hr T.m__law_pick T.F__law_pick.kp (bi__law_pick T) (va_cons (ve_var 0) (va_cons (ve_lst (va_cons (ve_int) (va_cons (ve_int) (va_nil)))) (va_nil)))) (va_nil)))) (vg_tup rfl (vgs_cons (vg_name 4 sc__law_table.nd) (vgs_cons (vg_name 5 sc__law_table.nd) (vgs_nil))))) (vss_cons (vs_set 6 (ve_lcW (own := [("lot", 13)]) mkL_ok (blkOk_by (by kernel_rfl)) sc__law_table.nd rfl (vi_seq (ve_var 4)) (fun _ _ _ _ _ => vg_name 13 sc__law_table.nd) (fun _ _ _ _ _ => vts_nil) (fun _ _ _ _ _ => ve_sub (ve_call ((ok__law_draw T).mono (by decide)) hr T.m__law_draw T.F__law_draw.kp (bi__law_draw T) (va_cons (ve_var 0) (va_cons (ve_add (ve_mul (ve_int) (ve_var 5)) (ve_int)) (va_nil)))) (ve_var 5))) sc__law_table.nd) (vss_cons (vs_if (vt_in hr.rm (ve_var 3) (ve_tup (va_cons (ve_int) (va_cons (ve_int) (va_cons (ve_int) (va_nil)))))) (vss_cons (vs_set 6 (ve_mul (ve_lst (va_cons (ve_int) (va_nil))) (ve_len T.n_len (va_cons (ve_var 4) (va_nil)))) sc__law_table.nd) (vss_one (vs_for PassesOwn.never rfl (vi_rng1 (va_cons (ve_add (ve_int) (ve_call ((ok__law_draw T).mono (by decide)) hr T.m__law_draw T.F__law_draw.kp (bi__law_draw T) (va_cons (ve_var 0) (va_cons (ve_int) (va_nil))))) (va_nil)) rfl T.n_range) (vg_name 7 sc__law_table.nd) (vss_cons (vs_asg (ve_tup (va_cons (ve_add (ve_int) (ve_call ((ok__law_draw T).mono (by decide)) hr T.m__law_draw T.F__law_draw.kp (bi__law_draw T) (va_cons (ve_var 0) (va_cons (ve_int) (va_nil))))) (va_cons (ve_lcW (own := [("thing", 14)]) mkL_ok (blkOk_by (by kernel_rfl)) sc__law_table.nd rfl (vi_rng1 (va_cons (ve_var 2) (va_nil)) rfl T.n_range) (fun _ _ _ _ _ => vg_name 14 sc__law_table.nd) (fun _ _ _ _ _ => vts_one (vt_eq hr.rm (ve_call ((ok__law_draw T).mono (by decide)) hr T.m__law_draw T.F__law_draw.kp (bi__law_draw T) (va_cons (ve_var 0) (va_cons (ve_int) (va_nil)))) (ve_int))) (fun _ _ _ _ _ => ve_var 14)) (va_nil)))) (vg_tup rfl (vgs_cons (vg_name 8 sc__law_table.nd) (vgs_cons (vg_name 9 sc__law_table.nd) (vgs_nil))))) (vss_one (vs_set 6 (ve_lcW (own := [("one", 15), ("lot", 13)]) mkL_ok (blkOk_by (by kernel_rfl)) sc__law_table.nd rfl (vi_zip (va_cons (ve_var 6) (va_cons (ve_var 4) (va_nil))) rfl T.n_zip) (fun _ _ _ _ _ => vg_tup rfl (vgs_cons (vg_name 15 sc__law_table.nd) (vgs_cons (vg_name 13 sc__law_table.nd) (vgs_nil)))) (fun _ _ _ _ _ => vts_nil) (fun _ _ _ _ _ => ve_add (ve_var 15) (ve_mul (ve_var 8) (ve_toInt T.n_int (va_cons (ve_any rfl T.n_any (va_cons (ve_lcW (own := [("thing", 14)]) mkL_ok (blkOk_by (by kernel_rfl)) sc__law_table.nd rfl (vi_seq (ve_var 13)) (fun _ _ _ _ _ => vg_name 14 sc__law_table.nd) (fun _ _ _ _ _ => vts_nil) (fun _ _ _ _ _ => ve_in hr.rm (ve_var 14) (ve_var 9))) (va_nil))) (va_nil)))))) sc__law_table.nd)))))) (vss_nil)) (vss_cons (vs_if (vt_eq hr.rm (ve_var 3) (ve_int)) (vss_one (vs_set 6 (ve_lcW (own := [("one", 15), ("late", 16)]) mkL_ok (blkOk_by (by kernel_rfl)) sc__law_table.nd rfl (vi_zip (va_cons (ve_var 6) (va_cons (ve_rev (ve_var 6)) (va_nil))) rfl T.n_zip) (fun _ _ _ _ _ => vg_tup rfl (vgs_cons (vg_name 15 sc__law_table.nd) (vgs_cons (vg_name 16 sc__law_table.nd) (vgs_nil)))) (fun _ _ _ _ _ => vts_nil) (fun _ _ _ _ _ => ve_sub (ve_add (ve_var 15) (ve_var 16)) (ve_ix (ve_var 6) (ve_neg (ve_int))))) sc__law_table.nd)) (vss_nil)) (vss_cons (vs_if (vt_eq hr.rm (ve_var 3) (ve_int)) (vss_cons (vs_asg (ve_tup (va_cons (ve_lcW (own := [("thing", 14)]) mkL_ok (blkOk_by (by kernel_rfl)) sc__law_table.nd rfl (vi_rng1 (va_cons (ve_var 2) (va_nil)) rfl T.n_range) (fun _ _ _ _ _ => vg_name 14 sc__law_table.nd) (fun _ _ _ _ _ => vts_nil) (fun _ _ _ _ _ => ve_sub (ve_call ((ok__law_draw T).mono (by decide)) hr T.m__law_draw T.F__law_draw.kp (bi__law_draw T) (va_cons (ve_var 0) (va_cons (ve_int) (va_nil)))) (ve_int))) (va_cons (ve_sub (ve_call ((ok__law_draw T).mono (by decide)) hr T.m__law_draw T.F__law_draw.kp (bi__law_draw T) (va_cons (ve_var 0) (va_cons (ve_int) (va_nil)))) (ve_int)) (va_nil)))) (vg_tup rfl (vgs_cons (vg_name 10 sc__law_table.nd) (vgs_cons (vg_name 11 sc__law_table.nd) (vgs_nil))))) (vss_one (vs_set 6 (ve_lcW (own := [("lot", 13)]) mkL_ok (blkOk_by (by kernel_rfl)) sc__law_table.nd rfl (vi_seq (ve_var 4)) (fun _ _ _ _ _ => vg_name 13 sc__law_table.nd) (fun _ _ _ _ _ => vts_nil) (fun _ _ _ _ _ => ve_add (ve_var 11) (ve_sum rfl T.n_sum (va_cons (ve_lcW (own := [("thing", 14)]) mkL_ok (blkOk_by (by kernel_rfl)) sc__law_table.nd rfl (vi_seq (ve_var 13)) (fun _ _ _ _ _ => vg_name 14 sc__law_table.nd) (fun _ _ _ _ _ => vts_nil) (fun _ _ _ _ _ => ve_ix (ve_var 10) (ve_var 14))) (va_nil))))) sc__law_table.nd))) (vss_nil)) (vss_cons (vs_if (vt_eq hr.rm (ve_var 3) (ve_int)) (vss_cons (vs_set 10 (ve_lcW (own := [("thing", 14)]) mkL_ok (blkOk_by (by kernel_rfl)) sc__law_table.nd rfl (vi_rng1 (va_cons (ve_var 2) (va_nil)) rfl T.n_range) (fun _ _ _ _ _ => vg_name 14 sc__law_table.nd) (fun _ _ _ _ _ => vts_nil) (fun _ _ _ _ _ => ve_sub (ve_call ((ok__law_draw T).mono (by decide)) hr T.m__law_draw T.F__law_draw.kp (bi__law_draw T) (va_cons (ve_var 0) (va_cons (ve_int) (va_nil)))) (ve_int))) sc__law_table.nd) (vss_one (vs_set 6 (ve_lcW (own := [("one", 15), ("lot", 13)]) mkL_ok (blkOk_by (by kernel_rfl)) sc__law_table.nd rfl (vi_zip (va_cons (ve_var 6) (va_cons (ve_var 4) (va_nil))) rfl T.n_zip) (fun _ _ _ _ _ => vg_tup rfl (vgs_cons (vg_name 15 sc__law_table.nd) (vgs_cons (vg_name 13 sc__law_table.nd) (vgs_nil)))) (fun _ _ _ _ _ => vts_nil) (fun _ _ _ _ _ => ve_add (ve_var 15) (ve_sum rfl T.n_sum (va_cons (ve_lcW (own := [("thing", 14)]) mkL_ok (blkOk_by (by kernel_rfl)) sc__law_table.nd rfl (vi_seq (ve_var 13)) (fun _ _ _ _ _ => vg_name 14 sc__law_table.nd) (fun _ _ _ _ _ => vts_nil) (fun _ _ _ _ _ => ve_ix (ve_var 10) (ve_var 14))) (va_nil))))) sc__law_table.nd))) (vss_nil)) (vss_cons (vs_if (vt_eq hr.rm (ve_var 3) (ve_int)) (vss_cons (vs_set 10 (ve_lcW (own := [("one", 15)]) mkL_ok (blkOk_by (by kernel_rfl)) sc__law_table.nd rfl (vi_rng1 (va_cons (ve_add (ve_var 2) (ve_int)) (va_nil)) rfl T.n_range) (fun _ _ _ _ _ => vg_name 15 sc__law_table.nd) (fun _ _ _ _ _ => vts_nil) (fun _ _ _ _ _ => ve_sub (ve_int) (ve_var 15))) sc__law_table.nd) (vss_cons (vs_set 6 (ve_lcW (own := [("lot", 13)]) mkM_ok (blkOk_by (by kernel_rfl)) sc__law_table.nd rfl (vi_seq (ve_var 4)) (fun _ _ _ _ _ => vg_name 13 sc__law_table.nd) (fun _ _ _ _ _ => vts_nil) (fun _ _ _ _ _ => ve_sum rfl T.n_sum (va_cons (ve_sl (ve_var 10) (vo_none) (vo_some (ve_len T.n_len (va_cons (ve_var 13) (va_nil))))) (va_nil)))) sc__law_table.nd) (vss_cons (vs_set 12 (ve_call ((ok__law_draw T).mono (by decide)) hr T.m__law_draw T.F__law_draw.kp (bi__law_draw T) (va_cons (ve_var 0) (va_cons (ve_len T.n_len (va_cons (ve_var 6) (va_nil))) (va_nil)))) sc__law_table.nd) (vss_one (vs_asg (ve_sub (ve_add (ve_ix (ve_var 6) (ve_var 12)) (ve_call ((ok__law_draw T).mono (by decide)) hr T.m__law_draw T.F__law_draw.kp (bi__law_draw T) (va_cons (ve_var 0) (va_cons (ve_int) (va_nil))))) (ve_int)) (vg_sub (ve_var 6) (ve_var 12))))))) (vss_nil)) (vss_one (vs_ret (ve_tup (va_cons (ve_var 2) (va_cons (ve_var 6) (va_nil)))))))))))))
theorem ok__law_cut (T : Tx K mg) : FnG P w K mg base 1 T.a__law_cut T.d__law_cut ["top", "bottom"] f__law_cut := okD T.F__law_cut sc__law_cut fun cdv A outer s H hr =>
  vss_cons (vs_par 2 3 (va_cons (ve_abs T.n_abs (va_cons (ve_var 0) (va_nil))) (va_cons (ve_var 1) (va_nil))) sc__law_cut.nd rfl) (vss_cons (vs_while PassesOwn.never (vt_gt (ve_var 3) (ve_int)) (vss_one (vs_par 2 3 (va_cons (ve_var 3) (va_cons (ve_mod (ve_toInt T.n_int (va_cons (ve_var 2) (va_nil))) (ve_var 3)) (va_nil))) sc__law_cut.nd rfl))) (vss_one (vs_ret (ve_tup (va_cons (ve_fdv (ve_var 0) (ve_var 2)) (va_cons (ve_fdv (ve_var 1) (ve_var 2)) (va_nil)))))))
theorem ok__law_right (T : Tx K mg) : FnG P w K mg base 7 T.a__law_right T.d__law_right ["pot"] f__law_right := okD T.F__law_right sc__law_right fun cdv A outer s H hr =>
  vss_cons (vs_set 1 (ve_call ((ok__law_table T).mono (by decide)) hr T.m__law_table T.F__law_table.kp (bi__law_table T) (va_cons (ve_var 0) (va_cons (ve_int) (va_nil)))) sc__law_right.nd) (vss_cons (vs_asg (ve_var 1) (vg_tup rfl (vgs_cons (vg_name 2 sc__law_right.nd) (vgs_cons (vg_name 3 sc__law_right.nd) (vgs_nil))))) (vss_cons (vs_par 4 5 (va_cons (ve_call ((ok__law_lots T).mono (by decide)) hr T.m__law_lots T.F__law_lots.kp (bi__law_lots T) (va_cons (ve_var 2) (va_nil))) (va_cons (ve_repr hr T.n_repr (va_cons (ve_var 1) (va_nil))) (va_nil))) sc__law_right.nd rfl) (vss_cons (vs_if (PW.pt (vw_or (vt_it (ve_call ((ok_is_table T).mono (by decide)) hr T.m_is_table T.F_is_table.kp (bi_is_table T) (va_cons (ve_var 1) (va_nil))) (ve_bl)) (vw_or1 (vt_it (ve_call ((ok_is_table T).mono (by decide)) hr T.m_is_table T.F_is_table.kp (bi_is_table T) (va_cons (ve_tup (va_cons (ve_var 2) (va_cons (ve_toTup T.n_tuple (va_cons (ve_var 3) (va_nil))) (va_nil)))) (va_nil))) (ve_bl))))) (vss_one (vs_ret (ve_bl))) (vss_nil)) (vss_cons (vs_setLcW (own := [("thing", 11)]) mkL_ok 6 (blkOk_by (by kernel_rfl)) sc__law_right.nd rfl (vi_rng1 (va_cons (ve_var 2) (va_nil)) rfl T.n_range) (fun _ _ _ _ _ => vg_name 11 sc__law_right.nd) (fun _ _ _ _ _ => vts_nil) (fun _ _ _ _ _ => ve_call ((ok__law_cut T).mono (by decide)) hr T.m__law_cut T.F__law_cut.kp (bi__law_cut T) (va_cons (ve_sub (ve_call ((ok__law_draw T).mono (by decide)) hr T.m__law_draw T.F__law_draw.kp (bi__law_draw T) (va_cons (ve_var 0) (va_cons (ve_int) (va_nil)))) (ve_int)) (va_cons (ve_add (ve_int) (ve_call ((ok__law_draw T).mono (by decide)) hr T.m__law_draw T.F__law_draw.kp (bi__law_draw T) (va_cons (ve_var 0) (va_cons (ve_int) (va_nil))))) (va_nil)))) (sw_true rfl rfl rfl rfl)) (vss_cons (vs_for PassesOwn.never rfl (vi_enum (va_cons (ve_var 4) (va_nil)) rfl T.n_enumerate) (vg_tup rfl (vgs_cons (vg_name 7 sc__law_right.nd) (vgs_cons (vg_name 8 sc__law_right.nd) (vgs_nil)))) (vss_cons (vs_if (vt_ne hr.rm (ve_repr hr T.n_repr (va_cons (ve_lst (va_cons (ve_call ((ok_lot_of T).mono (by decide)) hr T.m_lot_of T.F_lot_of.kp (bi_lot_of T) (va_cons (ve_var 1) (va_cons (ve_var 7) (va_nil)))) (va_cons (ve_callK0 ((ok_lot_of T).mono (by decide)) hr T.m_lot_of T.F_lot_of.kp (kb_lot_of_0_number_table T) (vk_cons (ve_var 7) (vk_cons (ve_var 1) (vk_nil)))) (va_nil)))) (va_nil))) (ve_repr hr T.n_repr (va_cons (ve_lst (va_cons (ve_var 8) (va_cons (ve_var 8) (va_nil)))) (va_nil)))) (vss_one (vs_ret (ve_bl))) (vss_nil)) (vss_cons (vs_if (PW.pt (vw_or (vt_ne hr.rm (ve_repr hr T.n_repr (va_cons (ve_lst (va_cons (ve_call ((ok_number_of T).mono (by decide)) hr T.m_number_of T.F_number_of.kp (bi_number_of T) (va_cons (ve_var 1) (va_cons (ve_var 8) (va_nil)))) (va_cons (ve_callK0 ((ok_number_of T).mono (by decide)) hr T.m_number_of T.F_number_of.kp (kb_number_of_0_lot_table T) (vk_cons (ve_var 8) (vk_cons (ve_var 1) (vk_nil)))) (va_nil)))) (va_nil))) (ve_repr hr T.n_repr (va_cons (ve_lst (va_cons (ve_var 7) (va_cons (ve_var 7) (va_nil)))) (va_nil)))) (vw_or1 (vt_ne hr.rm (ve_var 7) (ve_sum rfl T.n_sum (va_cons (ve_lcW (own := [("thing", 11)]) mkL_ok (blkOk_by (by kernel_rfl)) sc__law_right.nd rfl (vi_seq (ve_var 8)) (fun _ _ _ _ _ => vg_name 11 sc__law_right.nd) (fun _ _ _ _ _ => vts_nil) (fun _ _ _ _ _ => ve_ix (ve_lst (va_cons (ve_int) (va_cons (ve_int) (va_cons (ve_int) (va_cons (ve_int) (va_cons (ve_int) (va_nil))))))) (ve_var 11))) (va_nil))))))) (vss_one (vs_ret (ve_bl))) (vss_nil)) (vss_cons (vs_if (vt_ne hr.rm (ve_repr hr T.n_repr (va_cons (ve_lst (va_cons (ve_call ((ok_worth T).mono (by decide)) hr T.m_worth T.F_worth.kp (bi_worth T) (va_cons (ve_var 1) (va_cons (ve_var 8) (va_nil)))) (va_cons (ve_callK0 ((ok_worth T).mono (by decide)) hr T.m_worth T.F_worth.kp (kb_worth_0_lot_table T) (vk_cons (ve_var 8) (vk_cons (ve_tup (va_cons (ve_var 2) (va_cons (ve_toTup T.n_tuple (va_cons (ve_var 3) (va_nil))) (va_nil)))) (vk_nil)))) (va_nil)))) (va_nil))) (ve_repr hr T.n_repr (va_cons (ve_mul (ve_lst (va_cons (ve_ix (ve_var 3) (ve_var 7)) (va_nil))) (ve_int)) (va_nil)))) (vss_one (vs_ret (ve_bl))) (vss_nil)) (vss_cons (vs_asg (ve_tup (va_cons (ve_int) (va_cons (ve_int) (va_nil)))) (vg_tup rfl (vgs_cons (vg_name 9 sc__law_right.nd) (vgs_cons (vg_name 10 sc__law_right.nd) (vgs_nil))))) (vss_cons (vs_for PassesOwn.never rfl (vi_seq (ve_var 8)) (vg_name 11 sc__law_right.nd) (vss_one (vs_par 9 10 (va_cons (ve_add (ve_mul (ve_var 9) (ve_ix (ve_ix (ve_var 6) (ve_var 11)) (ve_int))) (ve_mul (ve_ix (ve_ix (ve_var 6) (ve_var 11)) (ve_int)) (ve_var 10))) (va_cons (ve_mul (ve_var 10) (ve_ix (ve_ix (ve_var 6) (ve_var 11)) (ve_int))) (va_nil))) sc__law_right.nd rfl))) (vss_cons (vs_set 12 (ve_call ((ok__law_cut T).mono (by decide)) hr T.m__law_cut T.F__law_cut.kp (bi__law_cut T) (va_cons (ve_var 9) (va_cons (ve_var 10) (va_nil)))) sc__law_right.nd) (vss_one (vs_if (vt_ne hr.rm (ve_repr hr T.n_repr (va_cons (ve_lst (va_cons (ve_call ((ok_price_of T).mono (by decide)) hr T.m_price_of T.F_price_of.kp (bi_price_of T) (va_cons (ve_var 1) (va_cons (ve_var 8) (va_cons (ve_var 6) (va_nil))))) (va_cons (ve_callK0 ((ok_price_of T).mono (by decide)) hr T.m_price_of T.F_price_of.kp (kb_price_of_0_prices_lot_table T) (vk_cons (ve_toTup T.n_tuple (va_cons (ve_var 6) (va_nil))) (vk_cons (ve_var 8) (vk_cons (ve_var 1) (vk_nil))))) (va_nil)))) (va_nil))) (ve_repr hr T.n_repr (va_cons (ve_lst (va_cons (ve_var 12) (va_cons (ve_var 12) (va_nil)))) (va_nil)))) (vss_one (vs_ret (ve_bl))) (vss_nil)))))))))) (vss_cons (vs_for PassesOwn.never rfl (vi_rng1 (va_cons (ve_int) (va_nil)) rfl T.n_range) (vg_name 13 sc__law_right.nd) (vss_cons (vs_par3 14 15 16 (va_cons (ve_lrg1 take_M rfl T.n_list T.n_range (ve_var 2)) (va_cons (ve_tup (va_nil)) (va_cons (ve_ix (ve_var 3) (ve_int)) (va_nil)))) sc__law_right.nd rfl) (vss_one (vs_while PassesOwn.never (vt_ne hr.rm (ve_var 14) (ve_lst (va_nil))) (vss_cons (vs_set 11 (ve_popAt (ve_var 14) (ve_call ((ok__law_draw T).mono (by decide)) hr T.m__law_draw T.F__law_draw.kp (bi__law_draw T) (va_cons (ve_var 0) (va_cons (ve_len T.n_len (va_cons (ve_var 14) (va_nil))) (va_nil))))) sc__law_right.nd) (vss_cons (vs_set 17 (ve_toTup T.n_tuple (va_cons (ve_sorted T.n_sorted (va_cons (ve_add (ve_var 15) (ve_tup (va_cons (ve_var 11) (va_nil)))) (va_nil))) (va_nil))) sc__law_right.nd) (vss_cons (vs_set 12 (ve_sub (ve_ix (ve_var 3) (ve_index hr.rm (ve_var 4) (ve_var 17))) (ve_ix (ve_var 3) (ve_index hr.rm (ve_var 4) (ve_var 15)))) sc__law_right.nd) (vss_cons (vs_if (vt_ne hr.rm (ve_repr hr T.n_repr (va_cons (ve_lst (va_cons (ve_call ((ok_adds T).mono (by decide)) hr T.m_adds T.F_adds.kp (bi_adds T) (va_cons (ve_var 1) (va_cons (ve_var 15) (va_cons (ve_var 11) (va_nil))))) (va_cons (ve_callK0 ((ok_adds T).mono (by decide)) hr T.m_adds T.F_adds.kp (kb_adds_0_thing_lot_table T) (vk_cons (ve_var 11) (vk_cons (ve_var 15) (vk_cons (ve_var 1) (vk_nil))))) (va_nil)))) (va_nil))) (ve_repr hr T.n_repr (va_cons (ve_lst (va_cons (ve_var 12) (va_cons (ve_var 12) (va_nil)))) (va_nil)))) (vss_one (vs_ret (ve_bl))) (vss_nil)) (vss_cons (vs_par 16 15 (va_cons (ve_add (ve_var 16) (ve_var 12)) (va_cons (ve_var 17) (va_nil))) sc__law_right.nd rfl) (vss_one (vs_if (vt_ne hr.rm (ve_call ((ok_worth T).mono (by decide)) hr T.m_worth T.F_worth.kp (bi_worth T) (va_cons (ve_var 1) (va_cons (ve_var 15) (va_nil)))) (ve_var 16)) (vss_one (vs_ret (ve_bl))) (vss_nil)))))))))))) (vss_one (vs_ret (ve_eq hr.rm (ve_repr hr T.n_repr (va_cons (ve_var 1) (va_nil))) (ve_var 5))))))))))
theorem ok_law (T : Tx K mg) : FnG P w K mg base 8 T.a_law T.d_law ["script"] f_law := okD T.F_law sc_law fun cdv A outer s H hr =>
  vss_one (vs_ret (ve_all rfl T.n_all (va_cons (ve_lcW (own := [("k", 1)]) mkL_ok (blkOk_by (by kernel_rfl)) sc_law.nd rfl (vi_rng1 (va_cons (ve_max2 rfl T.n_max (va_cons (ve_int) (va_cons (ve_min2 rfl T.n_min (va_cons (ve_int) (va_cons (ve_len T.n_len (va_cons (ve_var 0) (va_nil))) (va_nil)))) (va_nil)))) (va_nil)) rfl T.n_range) (fun _ _ _ _ _ => vg_name 1 sc_law.nd) (fun _ _ _ _ _ => vts_nil) (fun _ _ _ _ _ => ve_call ((ok__law_right T).mono (by decide)) hr T.m__law_right T.F__law_right.kp (bi__law_right T) (va_cons (ve_call ((ok__law_pot T).mono (by decide)) hr T.m__law_pot T.F__law_pot.kp (bi__law_pot T) (va_cons (ve_var 0) (va_cons (ve_var 1) (va_nil)))) (va_nil)))) (va_nil))))
end
end G11

namespace G11
open PySem DL
theorem integer_ok {v : Int} {st : Sto} {Q : DV → Sto → Prop} : Ok (f_is_integer [.im (.int v)]) st Q ↔ Q (.im (.bool true)) st := ok_eq (eq_ok (by
  unfold f_is_integer b_is_integer
  simp only [ok_callD, ok_bind, ok_ret, ok_some, ok_none, ok_fail, ok_ifF, ok_lif, ok_var, ok_C, ok_rdim, ok_toim, ok_bin, ok_fTst, ok_fAnd, ok_fOr, ok_fNot, ok_chn, startD, outD, fThen, fSet, fAsg, fPar, fPar3, fIfS, fRet, fDrop, fEnd, fBrk, fCnt, fNotT, fAndT, fOrT, fIf, fIsi, fIsi2, fCall, fCallK, fCons, fNil, fCa, fTup, fLst, fLstM, mkM, fApp, appV, ok_putM, get_last, set_last, take_last, gAdd_int, L2.CDiv, L2.CMul, L2.CPow, fIx, ok_ixR, ok_ixI, ok_lenR, ok_callM, fNeg, fRev, fSl, slD, cut1, fON, fOS, fYes, ok_lc, ok_lcBody, ok_for, ok_newM, wipeD, ok_seqL, ok_seqT, ok_seqR, allD_mapF, anyD_mapF, sumD_mapF, List.all_map, fSeq, fRng1, fRng2, fEnum, fZip, gtName, gtSub, gtNil, gtCons, gtTup, mkT, mkL, toDs, DL.gD, gD.rds, c1, c2, ok_lenL, ok_lenT, eq_self, DL.gSub, gMul_int, take_set, ixn20, Int.toNat_natCast, ixn21, List.set_set, gFdv, gMod, gPow, gI, gI0, gLt, gLe, gGt, gGe, gIs, gIt, isN, absD, DL.intD, max2, min2, dmod, ixD_l, ixD_t, isiD, tyD, gsel, gEq_int, gNe_int, gEq_str, gNe_str, List.filterMap_cons, List.filterMap_nil, and_self, or_self, List.map_cons, List.map_nil, List.length_cons, List.length_nil, List.cons_append, List.nil_append, List.append_nil, List.replicate_succ, List.replicate_zero, Nat.reduceAdd, Nat.reduceSub, Nat.reduceLeDiff, Nat.reduceEqDiff, List.take_length, List.length_map, List.length_append, List.take_left', List.take_append_of_le_length, Nat.le_refl, Nat.zero_add, Nat.add_zero, and_true, true_and, true_or, or_true, Int.mul_one, Int.one_mul, Nat.one_mul, Nat.mul_one, and_false, false_and, if_pos, if_neg, reduceIte, reduceCtorEq, not_true_eq_false, not_false_eq_true, Bool.not_true, Bool.not_false, beq_self_eq_true, Bool.or_true, Bool.true_or, Bool.or_false, Bool.false_or, Bool.and_true, Bool.true_and, Bool.and_false, Bool.false_and, String.reduceBEq, at0, at1, at2, at3, Int.cast_ofNat_Int, decide_true, decide_false, decide_eq_true_eq, decide_eq_false_iff_not, Bool.not_eq_true', Bool.not_eq_eq_eq_not, Int.reduceSub, Int.reduceNeg, Int.reduceAdd, Int.reduceMul, Int.reduceLT, Int.reduceLE, Int.reduceEq, Int.reducePow, Int.reduceToNat, sumD_map, allD_map, anyD_map, srtD_map, srtD_mapT, tupD, lstD, List.getElem?_cons_zero, List.getElem?_cons_succ, List.set_cons_zero, List.set_cons_succ, Option.some.injEq, Option.map_some, Option.map_none, Bool.false_eq_true, if_true, if_false]))
theorem within_ok {v a b : Int} {st : Sto} {Q : DV → Sto → Prop} : Ok (f_is_within [.im (.int v), .im (.int a), .im (.int b)]) st Q ↔ Q (.im (.bool (decide (a ≤ v) && decide (v ≤ b)))) st := ok_eq (eq_ok (by
  unfold f_is_within b_is_within
  simp only [ok_callD, ok_bind, ok_ret, ok_some, ok_none, ok_fail, ok_ifF, ok_lif, ok_var, ok_C, ok_rdim, ok_toim, ok_bin, ok_fTst, ok_fAnd, ok_fOr, ok_fNot, ok_chn, startD, outD, fThen, fSet, fAsg, fPar, fPar3, fIfS, fRet, fDrop, fEnd, fBrk, fCnt, fNotT, fAndT, fOrT, fIf, fIsi, fIsi2, fCall, fCallK, fCons, fNil, fCa, fTup, fLst, fLstM, mkM, fApp, appV, ok_putM, get_last, set_last, take_last, gAdd_int, L2.CDiv, L2.CMul, L2.CPow, fIx, ok_ixR, ok_ixI, ok_lenR, ok_callM, fNeg, fRev, fSl, slD, cut1, fON, fOS, fYes, ok_lc, ok_lcBody, ok_for, ok_newM, wipeD, ok_seqL, ok_seqT, ok_seqR, allD_mapF, anyD_mapF, sumD_mapF, List.all_map, fSeq, fRng1, fRng2, fEnum, fZip, gtName, gtSub, gtNil, gtCons, gtTup, mkT, mkL, toDs, DL.gD, gD.rds, c1, c2, ok_lenL, ok_lenT, eq_self, DL.gSub, gMul_int, take_set, ixn20, Int.toNat_natCast, ixn21, List.set_set, gFdv, gMod, gPow, gI, gI0, gLt, gLe, gGt, gGe, gIs, gIt, isN, absD, DL.intD, max2, min2, dmod, ixD_l, ixD_t, isiD, tyD, gsel, gEq_int, gNe_int, gEq_str, gNe_str, List.filterMap_cons, List.filterMap_nil, and_self, or_self, List.map_cons, List.map_nil, List.length_cons, List.length_nil, List.cons_append, List.nil_append, List.append_nil, List.replicate_succ, List.replicate_zero, Nat.reduceAdd, Nat.reduceSub, Nat.reduceLeDiff, Nat.reduceEqDiff, List.take_length, List.length_map, List.length_append, List.take_left', List.take_append_of_le_length, Nat.le_refl, Nat.zero_add, Nat.add_zero, and_true, true_and, true_or, or_true, Int.mul_one, Int.one_mul, Nat.one_mul, Nat.mul_one, and_false, false_and, if_pos, if_neg, reduceIte, reduceCtorEq, not_true_eq_false, not_false_eq_true, Bool.not_true, Bool.not_false, beq_self_eq_true, Bool.or_true, Bool.true_or, Bool.or_false, Bool.false_or, Bool.and_true, Bool.true_and, Bool.and_false, Bool.false_and, String.reduceBEq, at0, at1, at2, at3, Int.cast_ofNat_Int, decide_true, decide_false, decide_eq_true_eq, decide_eq_false_iff_not, Bool.not_eq_true', Bool.not_eq_eq_eq_not, Int.reduceSub, Int.reduceNeg, Int.reduceAdd, Int.reduceMul, Int.reduceLT, Int.reduceLE, Int.reduceEq, Int.reducePow, Int.reduceToNat, sumD_map, allD_map, anyD_map, srtD_map, srtD_mapT, tupD, lstD, List.getElem?_cons_zero, List.getElem?_cons_succ, List.set_cons_zero, List.set_cons_succ, Option.some.injEq, Option.map_some, Option.map_none, Bool.false_eq_true, if_true, if_false, integer_ok]
  by_cases h : a ≤ v <;> simp [h]))
def seqD (l : Bool) (xs : List PyData) : PyData := if l then .list xs else .tuple xs
theorem seq_ok {l : Bool} {xs : List PyData} {st : Sto} {Q : DV → Sto → Prop} : Ok (f_is_list [.im (seqD l xs)]) st Q ↔ Q (.im (.bool true)) st := ok_eq (eq_ok (by
  unfold f_is_list b_is_list seqD
  cases l <;> simp only [ok_callD, ok_bind, ok_ret, ok_some, ok_none, ok_fail, ok_ifF, ok_lif, ok_var, ok_C, ok_rdim, ok_toim, ok_bin, ok_fTst, ok_fAnd, ok_fOr, ok_fNot, ok_chn, startD, outD, fThen, fSet, fAsg, fPar, fPar3, fIfS, fRet, fDrop, fEnd, fBrk, fCnt, fNotT, fAndT, fOrT, fIf, fIsi, fIsi2, fCall, fCallK, fCons, fNil, fCa, fTup, fLst, fLstM, mkM, fApp, appV, ok_putM, get_last, set_last, take_last, gAdd_int, L2.CDiv, L2.CMul, L2.CPow, fIx, ok_ixR, ok_ixI, ok_lenR, ok_callM, fNeg, fRev, fSl, slD, cut1, fON, fOS, fYes, ok_lc, ok_lcBody, ok_for, ok_newM, wipeD, ok_seqL, ok_seqT, ok_seqR, allD_mapF, anyD_mapF, sumD_mapF, List.all_map, fSeq, fRng1, fRng2, fEnum, fZip, gtName, gtSub, gtNil, gtCons, gtTup, mkT, mkL, toDs, DL.gD, gD.rds, c1, c2, ok_lenL, ok_lenT, eq_self, DL.gSub, gMul_int, take_set, ixn20, Int.toNat_natCast, ixn21, List.set_set, gFdv, gMod, gPow, gI, gI0, gLt, gLe, gGt, gGe, gIs, gIt, isN, absD, DL.intD, max2, min2, dmod, ixD_l, ixD_t, isiD, tyD, gsel, gEq_int, gNe_int, gEq_str, gNe_str, List.filterMap_cons, List.filterMap_nil, and_self, or_self, List.map_cons, List.map_nil, List.length_cons, List.length_nil, List.cons_append, List.nil_append, List.append_nil, List.replicate_succ, List.replicate_zero, Nat.reduceAdd, Nat.reduceSub, Nat.reduceLeDiff, Nat.reduceEqDiff, List.take_length, List.length_map, List.length_append, List.take_left', List.take_append_of_le_length, Nat.le_refl, Nat.zero_add, Nat.add_zero, and_true, true_and, true_or, or_true, Int.mul_one, Int.one_mul, Nat.one_mul, Nat.mul_one, and_false, false_and, if_pos, if_neg, reduceIte, reduceCtorEq, not_true_eq_false, not_false_eq_true, Bool.not_true, Bool.not_false, beq_self_eq_true, Bool.or_true, Bool.true_or, Bool.or_false, Bool.false_or, Bool.and_true, Bool.true_and, Bool.and_false, Bool.false_and, String.reduceBEq, at0, at1, at2, at3, Int.cast_ofNat_Int, decide_true, decide_false, decide_eq_true_eq, decide_eq_false_iff_not, Bool.not_eq_true', Bool.not_eq_eq_eq_not, Int.reduceSub, Int.reduceNeg, Int.reduceAdd, Int.reduceMul, Int.reduceLT, Int.reduceLE, Int.reduceEq, Int.reducePow, Int.reduceToNat, sumD_map, allD_map, anyD_map, srtD_map, srtD_mapT, tupD, lstD, List.getElem?_cons_zero, List.getElem?_cons_succ, List.set_cons_zero, List.set_cons_succ, Option.some.injEq, Option.map_some, Option.map_none, Bool.false_eq_true, if_true, if_false]))
theorem len_seq {l : Bool} {xs : List PyData} {st : Sto} {Q : DV → Sto → Prop} : Ok (cLen [.im (seqD l xs)]) st Q ↔ Q (.im (.int xs.length)) st := by
  cases l <;> exact ok_len1
theorem ix_seq {l : Bool} {xs : List PyData} {i : Int} : ixD (seqD l xs) (.int i) = L2.atI xs i := by cases l <;> rfl
theorem walk_seq {l : Bool} {xs : List PyData} {st : Sto} {Q : List PyData × Dep → Sto → Prop} : Ok (seqV (.im (seqD l xs))) st Q ↔ Q (xs, []) st := by cases l <;> exact ok_ret
def tabD (l : Bool) (many : Nat) (ws : List Int) : PyData := .tuple [.int many, seqD l (ws.map .int)]
theorem tab0 {l : Bool} {m : Nat} {ws : List Int} : ixD (tabD l m ws) (.int 0) = some (.int m) := at0
theorem tab1 {l : Bool} {m : Nat} {ws : List Int} : ixD (tabD l m ws) (.int 1) = some (seqD l (ws.map .int)) := at1
structure Tab (many : Nat) (ws : List Int) : Prop where
  lo : 1 ≤ many
  hi : many ≤ 5
  len : ws.length = 2 ^ many
  bd : ∀ w ∈ ws, -99 ≤ w ∧ w ≤ 99
theorem pow_at {many : Nat} (h : many ≤ 5) : L2.atI [PyData.int 1, .int 2, .int 4, .int 8, .int 16, .int 32] (many : Int) = some (.int ((2 ^ many : Nat) : Int)) := by
  match many, h with
  | 0, _ => rfl
  | 1, _ => rfl
  | 2, _ => rfl
  | 3, _ => rfl
  | 4, _ => rfl
  | 5, _ => rfl
theorem table_ok {l : Bool} {many : Nat} {ws : List Int} (t : Tab many ws) {st : Sto} {Q : DV → Sto → Prop} : Ok (f_is_table_of [.im (tabD l many ws)]) st Q ↔ Q (.im (.bool true)) st := ok_eq (eq_ok (by
  unfold f_is_table_of b_is_table_of tabD
  have h1 := t.lo
  have h2 := t.hi
  have d1 : decide ((1 : Int) ≤ (many : Int)) = true := by simp; omega
  have d2 : decide ((many : Int) ≤ 5) = true := by simp; omega
  simp only [ok_callD, ok_bind, ok_ret, ok_some, ok_none, ok_fail, ok_ifF, ok_lif, ok_var, ok_C, ok_rdim, ok_toim, ok_bin, ok_fTst, ok_fAnd, ok_fOr, ok_fNot, ok_chn, startD, outD, fThen, fSet, fAsg, fPar, fPar3, fIfS, fRet, fDrop, fEnd, fBrk, fCnt, fNotT, fAndT, fOrT, fIf, fIsi, fIsi2, fCall, fCallK, fCons, fNil, fCa, fTup, fLst, fLstM, mkM, fApp, appV, ok_putM, get_last, set_last, take_last, gAdd_int, L2.CDiv, L2.CMul, L2.CPow, fIx, ok_ixR, ok_ixI, ok_lenR, ok_callM, fNeg, fRev, fSl, slD, cut1, fON, fOS, fYes, ok_lc, ok_lcBody, ok_for, ok_newM, wipeD, ok_seqL, ok_seqT, ok_seqR, allD_mapF, anyD_mapF, sumD_mapF, List.all_map, fSeq, fRng1, fRng2, fEnum, fZip, gtName, gtSub, gtNil, gtCons, gtTup, mkT, mkL, toDs, DL.gD, gD.rds, c1, c2, ok_lenL, ok_lenT, eq_self, DL.gSub, gMul_int, take_set, ixn20, Int.toNat_natCast, ixn21, List.set_set, gFdv, gMod, gPow, gI, gI0, gLt, gLe, gGt, gGe, gIs, gIt, isN, absD, DL.intD, max2, min2, dmod, ixD_l, ixD_t, isiD, tyD, gsel, gEq_int, gNe_int, gEq_str, gNe_str, List.filterMap_cons, List.filterMap_nil, and_self, or_self, List.map_cons, List.map_nil, List.length_cons, List.length_nil, List.cons_append, List.nil_append, List.append_nil, List.replicate_succ, List.replicate_zero, Nat.reduceAdd, Nat.reduceSub, Nat.reduceLeDiff, Nat.reduceEqDiff, List.take_length, List.length_map, List.length_append, List.take_left', List.take_append_of_le_length, Nat.le_refl, Nat.zero_add, Nat.add_zero, and_true, true_and, true_or, or_true, Int.mul_one, Int.one_mul, Nat.one_mul, Nat.mul_one, and_false, false_and, if_pos, if_neg, reduceIte, reduceCtorEq, not_true_eq_false, not_false_eq_true, Bool.not_true, Bool.not_false, beq_self_eq_true, Bool.or_true, Bool.true_or, Bool.or_false, Bool.false_or, Bool.and_true, Bool.true_and, Bool.and_false, Bool.false_and, String.reduceBEq, at0, at1, at2, at3, Int.cast_ofNat_Int, decide_true, decide_false, decide_eq_true_eq, decide_eq_false_iff_not, Bool.not_eq_true', Bool.not_eq_eq_eq_not, Int.reduceSub, Int.reduceNeg, Int.reduceAdd, Int.reduceMul, Int.reduceLT, Int.reduceLE, Int.reduceEq, Int.reducePow, Int.reduceToNat, sumD_map, allD_map, anyD_map, srtD_map, srtD_mapT, tupD, lstD, List.getElem?_cons_zero, List.getElem?_cons_succ, List.set_cons_zero, List.set_cons_succ, Option.some.injEq, Option.map_some, Option.map_none, Bool.false_eq_true, if_true, if_false, within_ok, d1, d2, seq_ok, len_seq, ix_seq, walk_seq, pow_at h2, t.len]
  refine (ok_eq (lc_mapA PyData.int (fun w => PyData.bool (decide (-99 ≤ w) && decide (w ≤ 99))) ws fun w hw => ?_)).mpr ?_
  · simp only [ok_callD, ok_bind, ok_ret, ok_some, ok_none, ok_fail, ok_ifF, ok_lif, ok_var, ok_C, ok_rdim, ok_toim, ok_bin, ok_fTst, ok_fAnd, ok_fOr, ok_fNot, ok_chn, startD, outD, fThen, fSet, fAsg, fPar, fPar3, fIfS, fRet, fDrop, fEnd, fBrk, fCnt, fNotT, fAndT, fOrT, fIf, fIsi, fIsi2, fCall, fCallK, fCons, fNil, fCa, fTup, fLst, fLstM, mkM, fApp, appV, ok_putM, get_last, set_last, take_last, gAdd_int, L2.CDiv, L2.CMul, L2.CPow, fIx, ok_ixR, ok_ixI, ok_lenR, ok_callM, fNeg, fRev, fSl, slD, cut1, fON, fOS, fYes, ok_lc, ok_lcBody, ok_for, ok_newM, wipeD, ok_seqL, ok_seqT, ok_seqR, allD_mapF, anyD_mapF, sumD_mapF, List.all_map, fSeq, fRng1, fRng2, fEnum, fZip, gtName, gtSub, gtNil, gtCons, gtTup, mkT, mkL, toDs, DL.gD, gD.rds, c1, c2, ok_lenL, ok_lenT, eq_self, DL.gSub, gMul_int, take_set, ixn20, Int.toNat_natCast, ixn21, List.set_set, gFdv, gMod, gPow, gI, gI0, gLt, gLe, gGt, gGe, gIs, gIt, isN, absD, DL.intD, max2, min2, dmod, ixD_l, ixD_t, isiD, tyD, gsel, gEq_int, gNe_int, gEq_str, gNe_str, List.filterMap_cons, List.filterMap_nil, and_self, or_self, List.map_cons, List.map_nil, List.length_cons, List.length_nil, List.cons_append, List.nil_append, List.append_nil, List.replicate_succ, List.replicate_zero, Nat.reduceAdd, Nat.reduceSub, Nat.reduceLeDiff, Nat.reduceEqDiff, List.take_length, List.length_map, List.length_append, List.take_left', List.take_append_of_le_length, Nat.le_refl, Nat.zero_add, Nat.add_zero, and_true, true_and, true_or, or_true, Int.mul_one, Int.one_mul, Nat.one_mul, Nat.mul_one, and_false, false_and, if_pos, if_neg, reduceIte, reduceCtorEq, not_true_eq_false, not_false_eq_true, Bool.not_true, Bool.not_false, beq_self_eq_true, Bool.or_true, Bool.true_or, Bool.or_false, Bool.false_or, Bool.and_true, Bool.true_and, Bool.and_false, Bool.false_and, String.reduceBEq, at0, at1, at2, at3, Int.cast_ofNat_Int, decide_true, decide_false, decide_eq_true_eq, decide_eq_false_iff_not, Bool.not_eq_true', Bool.not_eq_eq_eq_not, Int.reduceSub, Int.reduceNeg, Int.reduceAdd, Int.reduceMul, Int.reduceLT, Int.reduceLE, Int.reduceEq, Int.reducePow, Int.reduceToNat, sumD_map, allD_map, anyD_map, srtD_map, srtD_mapT, tupD, lstD, List.getElem?_cons_zero, List.getElem?_cons_succ, List.set_cons_zero, List.set_cons_succ, Option.some.injEq, Option.map_some, Option.map_none, Bool.false_eq_true, if_true, if_false, within_ok]
  · have hz : ws.length ≤ 1000 := by
      rw [t.len]
      exact Nat.le_trans (Nat.pow_le_pow_right (by omega) h2) (by decide)
    have ha : (ws.all fun w => decide (-99 ≤ w) && decide (w ≤ 99)) = true := List.all_eq_true.mpr fun w hw => by
      have := t.bd w hw
      simp [this.1, this.2]
    simp only [ok_callD, ok_bind, ok_ret, ok_some, ok_none, ok_fail, ok_ifF, ok_lif, ok_var, ok_C, ok_rdim, ok_toim, ok_bin, ok_fTst, ok_fAnd, ok_fOr, ok_fNot, ok_chn, startD, outD, fThen, fSet, fAsg, fPar, fPar3, fIfS, fRet, fDrop, fEnd, fBrk, fCnt, fNotT, fAndT, fOrT, fIf, fIsi, fIsi2, fCall, fCallK, fCons, fNil, fCa, fTup, fLst, fLstM, mkM, fApp, appV, ok_putM, get_last, set_last, take_last, gAdd_int, L2.CDiv, L2.CMul, L2.CPow, fIx, ok_ixR, ok_ixI, ok_lenR, ok_callM, fNeg, fRev, fSl, slD, cut1, fON, fOS, fYes, ok_lc, ok_lcBody, ok_for, ok_newM, wipeD, ok_seqL, ok_seqT, ok_seqR, allD_mapF, anyD_mapF, sumD_mapF, List.all_map, fSeq, fRng1, fRng2, fEnum, fZip, gtName, gtSub, gtNil, gtCons, gtTup, mkT, mkL, toDs, DL.gD, gD.rds, c1, c2, ok_lenL, ok_lenT, eq_self, DL.gSub, gMul_int, take_set, ixn20, Int.toNat_natCast, ixn21, List.set_set, gFdv, gMod, gPow, gI, gI0, gLt, gLe, gGt, gGe, gIs, gIt, isN, absD, DL.intD, max2, min2, dmod, ixD_l, ixD_t, isiD, tyD, gsel, gEq_int, gNe_int, gEq_str, gNe_str, List.filterMap_cons, List.filterMap_nil, and_self, or_self, List.map_cons, List.map_nil, List.length_cons, List.length_nil, List.cons_append, List.nil_append, List.append_nil, List.replicate_succ, List.replicate_zero, Nat.reduceAdd, Nat.reduceSub, Nat.reduceLeDiff, Nat.reduceEqDiff, List.take_length, List.length_map, List.length_append, List.take_left', List.take_append_of_le_length, Nat.le_refl, Nat.zero_add, Nat.add_zero, and_true, true_and, true_or, or_true, Int.mul_one, Int.one_mul, Nat.one_mul, Nat.mul_one, and_false, false_and, if_pos, if_neg, reduceIte, reduceCtorEq, not_true_eq_false, not_false_eq_true, Bool.not_true, Bool.not_false, beq_self_eq_true, Bool.or_true, Bool.true_or, Bool.or_false, Bool.false_or, Bool.and_true, Bool.true_and, Bool.and_false, Bool.false_and, String.reduceBEq, at0, at1, at2, at3, Int.cast_ofNat_Int, decide_true, decide_false, decide_eq_true_eq, decide_eq_false_iff_not, Bool.not_eq_true', Bool.not_eq_eq_eq_not, Int.reduceSub, Int.reduceNeg, Int.reduceAdd, Int.reduceMul, Int.reduceLT, Int.reduceLE, Int.reduceEq, Int.reducePow, Int.reduceToNat, sumD_map, allD_map, anyD_map, srtD_map, srtD_mapT, tupD, lstD, List.getElem?_cons_zero, List.getElem?_cons_succ, List.set_cons_zero, List.set_cons_succ, Option.some.injEq, Option.map_some, Option.map_none, Bool.false_eq_true, if_true, if_false, ha, hz]))
theorem is_table_ok {l : Bool} {many : Nat} {ws : List Int} (t : Tab many ws) {st : Sto} {Q : DV → Sto → Prop} : Ok (f_is_table [.im (tabD l many ws)]) st Q ↔ Q (.im (.bool true)) st := ok_eq (eq_ok (by
  unfold f_is_table b_is_table
  simp only [ok_callD, ok_bind, ok_ret, ok_some, ok_none, ok_fail, ok_ifF, ok_lif, ok_var, ok_C, ok_rdim, ok_toim, ok_bin, ok_fTst, ok_fAnd, ok_fOr, ok_fNot, ok_chn, startD, outD, fThen, fSet, fAsg, fPar, fPar3, fIfS, fRet, fDrop, fEnd, fBrk, fCnt, fNotT, fAndT, fOrT, fIf, fIsi, fIsi2, fCall, fCallK, fCons, fNil, fCa, fTup, fLst, fLstM, mkM, fApp, appV, ok_putM, get_last, set_last, take_last, gAdd_int, L2.CDiv, L2.CMul, L2.CPow, fIx, ok_ixR, ok_ixI, ok_lenR, ok_callM, fNeg, fRev, fSl, slD, cut1, fON, fOS, fYes, ok_lc, ok_lcBody, ok_for, ok_newM, wipeD, ok_seqL, ok_seqT, ok_seqR, allD_mapF, anyD_mapF, sumD_mapF, List.all_map, fSeq, fRng1, fRng2, fEnum, fZip, gtName, gtSub, gtNil, gtCons, gtTup, mkT, mkL, toDs, DL.gD, gD.rds, c1, c2, ok_lenL, ok_lenT, eq_self, DL.gSub, gMul_int, take_set, ixn20, Int.toNat_natCast, ixn21, List.set_set, gFdv, gMod, gPow, gI, gI0, gLt, gLe, gGt, gGe, gIs, gIt, isN, absD, DL.intD, max2, min2, dmod, ixD_l, ixD_t, isiD, tyD, gsel, gEq_int, gNe_int, gEq_str, gNe_str, List.filterMap_cons, List.filterMap_nil, and_self, or_self, List.map_cons, List.map_nil, List.length_cons, List.length_nil, List.cons_append, List.nil_append, List.append_nil, List.replicate_succ, List.replicate_zero, Nat.reduceAdd, Nat.reduceSub, Nat.reduceLeDiff, Nat.reduceEqDiff, List.take_length, List.length_map, List.length_append, List.take_left', List.take_append_of_le_length, Nat.le_refl, Nat.zero_add, Nat.add_zero, and_true, true_and, true_or, or_true, Int.mul_one, Int.one_mul, Nat.one_mul, Nat.mul_one, and_false, false_and, if_pos, if_neg, reduceIte, reduceCtorEq, not_true_eq_false, not_false_eq_true, Bool.not_true, Bool.not_false, beq_self_eq_true, Bool.or_true, Bool.true_or, Bool.or_false, Bool.false_or, Bool.and_true, Bool.true_and, Bool.and_false, Bool.false_and, String.reduceBEq, at0, at1, at2, at3, Int.cast_ofNat_Int, decide_true, decide_false, decide_eq_true_eq, decide_eq_false_iff_not, Bool.not_eq_true', Bool.not_eq_eq_eq_not, Int.reduceSub, Int.reduceNeg, Int.reduceAdd, Int.reduceMul, Int.reduceLT, Int.reduceLE, Int.reduceEq, Int.reducePow, Int.reduceToNat, sumD_map, allD_map, anyD_map, srtD_map, srtD_mapT, tupD, lstD, List.getElem?_cons_zero, List.getElem?_cons_succ, List.set_cons_zero, List.set_cons_succ, Option.some.injEq, Option.map_some, Option.map_none, Bool.false_eq_true, if_true, if_false, table_ok t]))
theorem check_table_ok {l : Bool} {many : Nat} {ws : List Int} (t : Tab many ws) {st : Sto} {Q : DV → Sto → Prop} : Ok (f_check_table [.im (tabD l many ws)]) st Q ↔ Q (.im .none) st := ok_eq (eq_ok (by
  unfold f_check_table b_check_table
  simp only [ok_callD, ok_bind, ok_ret, ok_some, ok_none, ok_fail, ok_ifF, ok_lif, ok_var, ok_C, ok_rdim, ok_toim, ok_bin, ok_fTst, ok_fAnd, ok_fOr, ok_fNot, ok_chn, startD, outD, fThen, fSet, fAsg, fPar, fPar3, fIfS, fRet, fDrop, fEnd, fBrk, fCnt, fNotT, fAndT, fOrT, fIf, fIsi, fIsi2, fCall, fCallK, fCons, fNil, fCa, fTup, fLst, fLstM, mkM, fApp, appV, ok_putM, get_last, set_last, take_last, gAdd_int, L2.CDiv, L2.CMul, L2.CPow, fIx, ok_ixR, ok_ixI, ok_lenR, ok_callM, fNeg, fRev, fSl, slD, cut1, fON, fOS, fYes, ok_lc, ok_lcBody, ok_for, ok_newM, wipeD, ok_seqL, ok_seqT, ok_seqR, allD_mapF, anyD_mapF, sumD_mapF, List.all_map, fSeq, fRng1, fRng2, fEnum, fZip, gtName, gtSub, gtNil, gtCons, gtTup, mkT, mkL, toDs, DL.gD, gD.rds, c1, c2, ok_lenL, ok_lenT, eq_self, DL.gSub, gMul_int, take_set, ixn20, Int.toNat_natCast, ixn21, List.set_set, gFdv, gMod, gPow, gI, gI0, gLt, gLe, gGt, gGe, gIs, gIt, isN, absD, DL.intD, max2, min2, dmod, ixD_l, ixD_t, isiD, tyD, gsel, gEq_int, gNe_int, gEq_str, gNe_str, List.filterMap_cons, List.filterMap_nil, and_self, or_self, List.map_cons, List.map_nil, List.length_cons, List.length_nil, List.cons_append, List.nil_append, List.append_nil, List.replicate_succ, List.replicate_zero, Nat.reduceAdd, Nat.reduceSub, Nat.reduceLeDiff, Nat.reduceEqDiff, List.take_length, List.length_map, List.length_append, List.take_left', List.take_append_of_le_length, Nat.le_refl, Nat.zero_add, Nat.add_zero, and_true, true_and, true_or, or_true, Int.mul_one, Int.one_mul, Nat.one_mul, Nat.mul_one, and_false, false_and, if_pos, if_neg, reduceIte, reduceCtorEq, not_true_eq_false, not_false_eq_true, Bool.not_true, Bool.not_false, beq_self_eq_true, Bool.or_true, Bool.true_or, Bool.or_false, Bool.false_or, Bool.and_true, Bool.true_and, Bool.and_false, Bool.false_and, String.reduceBEq, at0, at1, at2, at3, Int.cast_ofNat_Int, decide_true, decide_false, decide_eq_true_eq, decide_eq_false_iff_not, Bool.not_eq_true', Bool.not_eq_eq_eq_not, Int.reduceSub, Int.reduceNeg, Int.reduceAdd, Int.reduceMul, Int.reduceLT, Int.reduceLE, Int.reduceEq, Int.reducePow, Int.reduceToNat, sumD_map, allD_map, anyD_map, srtD_map, srtD_mapT, tupD, lstD, List.getElem?_cons_zero, List.getElem?_cons_succ, List.set_cons_zero, List.set_cons_succ, Option.some.injEq, Option.map_some, Option.map_none, Bool.false_eq_true, if_true, if_false, table_ok t]))
/-! ### lots -/
def lotD (lot : List Nat) : PyData := .tuple (lot.map fun t => .int (t : Nat))
def lots : Nat → List (List Nat)
  | 0 => [[]]
  | n + 1 => lots n ++ (lots n).map (· ++ [n])
def ups : List Nat → Bool
  | [] => true
  | [_] => true
  | x :: y :: r => decide (x < y) && ups (y :: r)
structure Lot (many : Nat) (lot : List Nat) : Prop where
  lt : ∀ t ∈ lot, t < many
  up : ups lot = true
  hi : many ≤ 5
theorem zip_ups : ∀ lot : List Nat, (zipD (lot.map fun t => PyData.int (t : Nat)) ((lot.drop 1).map fun t => PyData.int (t : Nat))) = (lot.zip (lot.drop 1)).map fun p => .tuple [.int (p.1 : Nat), .int (p.2 : Nat)] := by
  intro lot
  unfold zipD
  rw [List.zipWith_map, List.zip, List.map_zipWith]
theorem ups_all : ∀ lot : List Nat, (lot.zip (lot.drop 1)).all (fun p => decide (p.1 < p.2)) = ups lot
  | [] => rfl
  | [_] => rfl
  | x :: y :: r => by
    have ih := ups_all (y :: r)
    simp only [List.drop_succ_cons, List.drop_zero, List.zip_cons_cons, List.all_cons] at ih ⊢
    rw [ih, ups]
theorem ups_len : ∀ (lot : List Nat), ups lot = true → ∀ {m : Nat}, (∀ t ∈ lot, t < m) → lot.length ≤ m := by
  have key : ∀ (lot : List Nat) (a m : Nat), ups (a :: lot) = true → (∀ t ∈ a :: lot, t < m) → (a :: lot).length + a ≤ m := by
    intro lot
    induction lot with
    | nil => intro a m _ h; have := h a (by simp); simp; omega
    | cons b r ih =>
      intro a m hu h
      simp only [ups, Bool.and_eq_true, decide_eq_true_eq] at hu
      have := ih b m hu.2 fun t ht => h t (by simp [List.mem_cons.mp ht])
      simp only [List.length_cons] at this ⊢
      omega
  intro lot hu m h
  cases lot with
  | nil => simp
  | cons a r => have := key r a m hu h; omega
theorem lot_ok {many : Nat} {lot : List Nat} (h : Lot many lot) {st : Sto} {Q : DV → Sto → Prop} : Ok (f_is_lot_of [.im (.int (many : Nat)), .im (lotD lot)]) st Q ↔ Q (.im (.bool true)) st := ok_eq (eq_ok (by
  unfold f_is_lot_of b_is_lot_of lotD
  simp only [ok_callD, ok_bind, ok_ret, ok_some, ok_none, ok_fail, ok_ifF, ok_lif, ok_var, ok_C, ok_rdim, ok_toim, ok_bin, ok_fTst, ok_fAnd, ok_fOr, ok_fNot, ok_chn, startD, outD, fThen, fSet, fAsg, fPar, fPar3, fIfS, fRet, fDrop, fEnd, fBrk, fCnt, fNotT, fAndT, fOrT, fIf, fIsi, fIsi2, fCall, fCallK, fCons, fNil, fCa, fTup, fLst, fLstM, mkM, fApp, appV, ok_putM, get_last, set_last, take_last, gAdd_int, L2.CDiv, L2.CMul, L2.CPow, fIx, ok_ixR, ok_ixI, ok_lenR, ok_callM, fNeg, fRev, fSl, slD, cut1, fON, fOS, fYes, ok_lc, ok_lcBody, ok_for, ok_newM, wipeD, ok_seqL, ok_seqT, ok_seqR, allD_mapF, anyD_mapF, sumD_mapF, List.all_map, fSeq, fRng1, fRng2, fEnum, fZip, gtName, gtSub, gtNil, gtCons, gtTup, mkT, mkL, toDs, DL.gD, gD.rds, c1, c2, ok_lenL, ok_lenT, eq_self, DL.gSub, gMul_int, take_set, ixn20, Int.toNat_natCast, ixn21, List.set_set, gFdv, gMod, gPow, gI, gI0, gLt, gLe, gGt, gGe, gIs, gIt, isN, absD, DL.intD, max2, min2, dmod, ixD_l, ixD_t, isiD, tyD, gsel, gEq_int, gNe_int, gEq_str, gNe_str, List.filterMap_cons, List.filterMap_nil, and_self, or_self, List.map_cons, List.map_nil, List.length_cons, List.length_nil, List.cons_append, List.nil_append, List.append_nil, List.replicate_succ, List.replicate_zero, Nat.reduceAdd, Nat.reduceSub, Nat.reduceLeDiff, Nat.reduceEqDiff, List.take_length, List.length_map, List.length_append, List.take_left', List.take_append_of_le_length, Nat.le_refl, Nat.zero_add, Nat.add_zero, and_true, true_and, true_or, or_true, Int.mul_one, Int.one_mul, Nat.one_mul, Nat.mul_one, and_false, false_and, if_pos, if_neg, reduceIte, reduceCtorEq, not_true_eq_false, not_false_eq_true, Bool.not_true, Bool.not_false, beq_self_eq_true, Bool.or_true, Bool.true_or, Bool.or_false, Bool.false_or, Bool.and_true, Bool.true_and, Bool.and_false, Bool.false_and, String.reduceBEq, at0, at1, at2, at3, Int.cast_ofNat_Int, decide_true, decide_false, decide_eq_true_eq, decide_eq_false_iff_not, Bool.not_eq_true', Bool.not_eq_eq_eq_not, Int.reduceSub, Int.reduceNeg, Int.reduceAdd, Int.reduceMul, Int.reduceLT, Int.reduceLE, Int.reduceEq, Int.reducePow, Int.reduceToNat, sumD_map, allD_map, anyD_map, srtD_map, srtD_mapT, tupD, lstD, List.getElem?_cons_zero, List.getElem?_cons_succ, List.set_cons_zero, List.set_cons_succ, Option.some.injEq, Option.map_some, Option.map_none, Bool.false_eq_true, if_true, if_false]
  have hlen : lot.length ≤ 1000 := by
    have := h.hi
    have := ups_len lot h.up h.lt
    omega
  refine (ok_eq (lc_mapA (fun t => PyData.int (t : Nat)) (fun (t : Nat) => PyData.bool (decide ((0 : Int) ≤ t) && decide ((t : Int) ≤ (many : Int) - 1))) lot fun t ht => ?_)).mpr ?_
  · simp only [ok_callD, ok_bind, ok_ret, ok_some, ok_none, ok_fail, ok_ifF, ok_lif, ok_var, ok_C, ok_rdim, ok_toim, ok_bin, ok_fTst, ok_fAnd, ok_fOr, ok_fNot, ok_chn, startD, outD, fThen, fSet, fAsg, fPar, fPar3, fIfS, fRet, fDrop, fEnd, fBrk, fCnt, fNotT, fAndT, fOrT, fIf, fIsi, fIsi2, fCall, fCallK, fCons, fNil, fCa, fTup, fLst, fLstM, mkM, fApp, appV, ok_putM, get_last, set_last, take_last, gAdd_int, L2.CDiv, L2.CMul, L2.CPow, fIx, ok_ixR, ok_ixI, ok_lenR, ok_callM, fNeg, fRev, fSl, slD, cut1, fON, fOS, fYes, ok_lc, ok_lcBody, ok_for, ok_newM, wipeD, ok_seqL, ok_seqT, ok_seqR, allD_mapF, anyD_mapF, sumD_mapF, List.all_map, fSeq, fRng1, fRng2, fEnum, fZip, gtName, gtSub, gtNil, gtCons, gtTup, mkT, mkL, toDs, DL.gD, gD.rds, c1, c2, ok_lenL, ok_lenT, eq_self, DL.gSub, gMul_int, take_set, ixn20, Int.toNat_natCast, ixn21, List.set_set, gFdv, gMod, gPow, gI, gI0, gLt, gLe, gGt, gGe, gIs, gIt, isN, absD, DL.intD, max2, min2, dmod, ixD_l, ixD_t, isiD, tyD, gsel, gEq_int, gNe_int, gEq_str, gNe_str, List.filterMap_cons, List.filterMap_nil, and_self, or_self, List.map_cons, List.map_nil, List.length_cons, List.length_nil, List.cons_append, List.nil_append, List.append_nil, List.replicate_succ, List.replicate_zero, Nat.reduceAdd, Nat.reduceSub, Nat.reduceLeDiff, Nat.reduceEqDiff, List.take_length, List.length_map, List.length_append, List.take_left', List.take_append_of_le_length, Nat.le_refl, Nat.zero_add, Nat.add_zero, and_true, true_and, true_or, or_true, Int.mul_one, Int.one_mul, Nat.one_mul, Nat.mul_one, and_false, false_and, if_pos, if_neg, reduceIte, reduceCtorEq, not_true_eq_false, not_false_eq_true, Bool.not_true, Bool.not_false, beq_self_eq_true, Bool.or_true, Bool.true_or, Bool.or_false, Bool.false_or, Bool.and_true, Bool.true_and, Bool.and_false, Bool.false_and, String.reduceBEq, at0, at1, at2, at3, Int.cast_ofNat_Int, decide_true, decide_false, decide_eq_true_eq, decide_eq_false_iff_not, Bool.not_eq_true', Bool.not_eq_eq_eq_not, Int.reduceSub, Int.reduceNeg, Int.reduceAdd, Int.reduceMul, Int.reduceLT, Int.reduceLE, Int.reduceEq, Int.reducePow, Int.reduceToNat, sumD_map, allD_map, anyD_map, srtD_map, srtD_mapT, tupD, lstD, List.getElem?_cons_zero, List.getElem?_cons_succ, List.set_cons_zero, List.set_cons_succ, Option.some.injEq, Option.map_some, Option.map_none, Bool.false_eq_true, if_true, if_false, within_ok]
  · have ha : (lot.all fun (t : Nat) => decide ((0 : Int) ≤ t) && decide ((t : Int) ≤ (many : Int) - 1)) = true := List.all_eq_true.mpr fun t ht => by
      have := h.lt t ht
      simp; omega
    simp only [ok_callD, ok_bind, ok_ret, ok_some, ok_none, ok_fail, ok_ifF, ok_lif, ok_var, ok_C, ok_rdim, ok_toim, ok_bin, ok_fTst, ok_fAnd, ok_fOr, ok_fNot, ok_chn, startD, outD, fThen, fSet, fAsg, fPar, fPar3, fIfS, fRet, fDrop, fEnd, fBrk, fCnt, fNotT, fAndT, fOrT, fIf, fIsi, fIsi2, fCall, fCallK, fCons, fNil, fCa, fTup, fLst, fLstM, mkM, fApp, appV, ok_putM, get_last, set_last, take_last, gAdd_int, L2.CDiv, L2.CMul, L2.CPow, fIx, ok_ixR, ok_ixI, ok_lenR, ok_callM, fNeg, fRev, fSl, slD, cut1, fON, fOS, fYes, ok_lc, ok_lcBody, ok_for, ok_newM, wipeD, ok_seqL, ok_seqT, ok_seqR, allD_mapF, anyD_mapF, sumD_mapF, List.all_map, fSeq, fRng1, fRng2, fEnum, fZip, gtName, gtSub, gtNil, gtCons, gtTup, mkT, mkL, toDs, DL.gD, gD.rds, c1, c2, ok_lenL, ok_lenT, eq_self, DL.gSub, gMul_int, take_set, ixn20, Int.toNat_natCast, ixn21, List.set_set, gFdv, gMod, gPow, gI, gI0, gLt, gLe, gGt, gGe, gIs, gIt, isN, absD, DL.intD, max2, min2, dmod, ixD_l, ixD_t, isiD, tyD, gsel, gEq_int, gNe_int, gEq_str, gNe_str, List.filterMap_cons, List.filterMap_nil, and_self, or_self, List.map_cons, List.map_nil, List.length_cons, List.length_nil, List.cons_append, List.nil_append, List.append_nil, List.replicate_succ, List.replicate_zero, Nat.reduceAdd, Nat.reduceSub, Nat.reduceLeDiff, Nat.reduceEqDiff, List.take_length, List.length_map, List.length_append, List.take_left', List.take_append_of_le_length, Nat.le_refl, Nat.zero_add, Nat.add_zero, and_true, true_and, true_or, or_true, Int.mul_one, Int.one_mul, Nat.one_mul, Nat.mul_one, and_false, false_and, if_pos, if_neg, reduceIte, reduceCtorEq, not_true_eq_false, not_false_eq_true, Bool.not_true, Bool.not_false, beq_self_eq_true, Bool.or_true, Bool.true_or, Bool.or_false, Bool.false_or, Bool.and_true, Bool.true_and, Bool.and_false, Bool.false_and, String.reduceBEq, at0, at1, at2, at3, Int.cast_ofNat_Int, decide_true, decide_false, decide_eq_true_eq, decide_eq_false_iff_not, Bool.not_eq_true', Bool.not_eq_eq_eq_not, Int.reduceSub, Int.reduceNeg, Int.reduceAdd, Int.reduceMul, Int.reduceLT, Int.reduceLE, Int.reduceEq, Int.reducePow, Int.reduceToNat, sumD_map, allD_map, anyD_map, srtD_map, srtD_mapT, tupD, lstD, List.getElem?_cons_zero, List.getElem?_cons_succ, List.set_cons_zero, List.set_cons_succ, Option.some.injEq, Option.map_some, Option.map_none, Bool.false_eq_true, if_true, if_false, ha, hlen]
    rw [← List.map_drop, zip_ups]
    refine (ok_eq (lc_mapA (fun (p : Nat × Nat) => PyData.tuple [.int (p.1 : Nat), .int (p.2 : Nat)]) (fun p => PyData.bool (decide (p.1 < p.2))) _ fun p hp => ?_)).mpr ?_
    · simp only [ok_callD, ok_bind, ok_ret, ok_some, ok_none, ok_fail, ok_ifF, ok_lif, ok_var, ok_C, ok_rdim, ok_toim, ok_bin, ok_fTst, ok_fAnd, ok_fOr, ok_fNot, ok_chn, startD, outD, fThen, fSet, fAsg, fPar, fPar3, fIfS, fRet, fDrop, fEnd, fBrk, fCnt, fNotT, fAndT, fOrT, fIf, fIsi, fIsi2, fCall, fCallK, fCons, fNil, fCa, fTup, fLst, fLstM, mkM, fApp, appV, ok_putM, get_last, set_last, take_last, gAdd_int, L2.CDiv, L2.CMul, L2.CPow, fIx, ok_ixR, ok_ixI, ok_lenR, ok_callM, fNeg, fRev, fSl, slD, cut1, fON, fOS, fYes, ok_lc, ok_lcBody, ok_for, ok_newM, wipeD, ok_seqL, ok_seqT, ok_seqR, allD_mapF, anyD_mapF, sumD_mapF, List.all_map, fSeq, fRng1, fRng2, fEnum, fZip, gtName, gtSub, gtNil, gtCons, gtTup, mkT, mkL, toDs, DL.gD, gD.rds, c1, c2, ok_lenL, ok_lenT, eq_self, DL.gSub, gMul_int, take_set, ixn20, Int.toNat_natCast, ixn21, List.set_set, gFdv, gMod, gPow, gI, gI0, gLt, gLe, gGt, gGe, gIs, gIt, isN, absD, DL.intD, max2, min2, dmod, ixD_l, ixD_t, isiD, tyD, gsel, gEq_int, gNe_int, gEq_str, gNe_str, List.filterMap_cons, List.filterMap_nil, and_self, or_self, List.map_cons, List.map_nil, List.length_cons, List.length_nil, List.cons_append, List.nil_append, List.append_nil, List.replicate_succ, List.replicate_zero, Nat.reduceAdd, Nat.reduceSub, Nat.reduceLeDiff, Nat.reduceEqDiff, List.take_length, List.length_map, List.length_append, List.take_left', List.take_append_of_le_length, Nat.le_refl, Nat.zero_add, Nat.add_zero, and_true, true_and, true_or, or_true, Int.mul_one, Int.one_mul, Nat.one_mul, Nat.mul_one, and_false, false_and, if_pos, if_neg, reduceIte, reduceCtorEq, not_true_eq_false, not_false_eq_true, Bool.not_true, Bool.not_false, beq_self_eq_true, Bool.or_true, Bool.true_or, Bool.or_false, Bool.false_or, Bool.and_true, Bool.true_and, Bool.and_false, Bool.false_and, String.reduceBEq, at0, at1, at2, at3, Int.cast_ofNat_Int, decide_true, decide_false, decide_eq_true_eq, decide_eq_false_iff_not, Bool.not_eq_true', Bool.not_eq_eq_eq_not, Int.reduceSub, Int.reduceNeg, Int.reduceAdd, Int.reduceMul, Int.reduceLT, Int.reduceLE, Int.reduceEq, Int.reducePow, Int.reduceToNat, sumD_map, allD_map, anyD_map, srtD_map, srtD_mapT, tupD, lstD, List.getElem?_cons_zero, List.getElem?_cons_succ, List.set_cons_zero, List.set_cons_succ, Option.some.injEq, Option.map_some, Option.map_none, Bool.false_eq_true, if_true, if_false, Int.ofNat_lt]
    · have hz : (lot.zip (lot.drop 1)).length ≤ 1000 := by rw [List.length_zip]; omega
      simp only [ok_callD, ok_bind, ok_ret, ok_some, ok_none, ok_fail, ok_ifF, ok_lif, ok_var, ok_C, ok_rdim, ok_toim, ok_bin, ok_fTst, ok_fAnd, ok_fOr, ok_fNot, ok_chn, startD, outD, fThen, fSet, fAsg, fPar, fPar3, fIfS, fRet, fDrop, fEnd, fBrk, fCnt, fNotT, fAndT, fOrT, fIf, fIsi, fIsi2, fCall, fCallK, fCons, fNil, fCa, fTup, fLst, fLstM, mkM, fApp, appV, ok_putM, get_last, set_last, take_last, gAdd_int, L2.CDiv, L2.CMul, L2.CPow, fIx, ok_ixR, ok_ixI, ok_lenR, ok_callM, fNeg, fRev, fSl, slD, cut1, fON, fOS, fYes, ok_lc, ok_lcBody, ok_for, ok_newM, wipeD, ok_seqL, ok_seqT, ok_seqR, allD_mapF, anyD_mapF, sumD_mapF, List.all_map, fSeq, fRng1, fRng2, fEnum, fZip, gtName, gtSub, gtNil, gtCons, gtTup, mkT, mkL, toDs, DL.gD, gD.rds, c1, c2, ok_lenL, ok_lenT, eq_self, DL.gSub, gMul_int, take_set, ixn20, Int.toNat_natCast, ixn21, List.set_set, gFdv, gMod, gPow, gI, gI0, gLt, gLe, gGt, gGe, gIs, gIt, isN, absD, DL.intD, max2, min2, dmod, ixD_l, ixD_t, isiD, tyD, gsel, gEq_int, gNe_int, gEq_str, gNe_str, List.filterMap_cons, List.filterMap_nil, and_self, or_self, List.map_cons, List.map_nil, List.length_cons, List.length_nil, List.cons_append, List.nil_append, List.append_nil, List.replicate_succ, List.replicate_zero, Nat.reduceAdd, Nat.reduceSub, Nat.reduceLeDiff, Nat.reduceEqDiff, List.take_length, List.length_map, List.length_append, List.take_left', List.take_append_of_le_length, Nat.le_refl, Nat.zero_add, Nat.add_zero, and_true, true_and, true_or, or_true, Int.mul_one, Int.one_mul, Nat.one_mul, Nat.mul_one, and_false, false_and, if_pos, if_neg, reduceIte, reduceCtorEq, not_true_eq_false, not_false_eq_true, Bool.not_true, Bool.not_false, beq_self_eq_true, Bool.or_true, Bool.true_or, Bool.or_false, Bool.false_or, Bool.and_true, Bool.true_and, Bool.and_false, Bool.false_and, String.reduceBEq, at0, at1, at2, at3, Int.cast_ofNat_Int, decide_true, decide_false, decide_eq_true_eq, decide_eq_false_iff_not, Bool.not_eq_true', Bool.not_eq_eq_eq_not, Int.reduceSub, Int.reduceNeg, Int.reduceAdd, Int.reduceMul, Int.reduceLT, Int.reduceLE, Int.reduceEq, Int.reducePow, Int.reduceToNat, sumD_map, allD_map, anyD_map, srtD_map, srtD_mapT, tupD, lstD, List.getElem?_cons_zero, List.getElem?_cons_succ, List.set_cons_zero, List.set_cons_succ, Option.some.injEq, Option.map_some, Option.map_none, Bool.false_eq_true, if_true, if_false, hz, ups_all, h.up]))
theorem check_lot_ok {l : Bool} {many : Nat} {ws : List Int} {lot : List Nat} (h : Lot many lot) {st : Sto} {Q : DV → Sto → Prop} : Ok (f_check_lot [.im (tabD l many ws), .im (lotD lot)]) st Q ↔ Q (.im .none) st := ok_eq (eq_ok (by
  unfold f_check_lot b_check_lot tabD
  simp only [ok_callD, ok_bind, ok_ret, ok_some, ok_none, ok_fail, ok_ifF, ok_lif, ok_var, ok_C, ok_rdim, ok_toim, ok_bin, ok_fTst, ok_fAnd, ok_fOr, ok_fNot, ok_chn, startD, outD, fThen, fSet, fAsg, fPar, fPar3, fIfS, fRet, fDrop, fEnd, fBrk, fCnt, fNotT, fAndT, fOrT, fIf, fIsi, fIsi2, fCall, fCallK, fCons, fNil, fCa, fTup, fLst, fLstM, mkM, fApp, appV, ok_putM, get_last, set_last, take_last, gAdd_int, L2.CDiv, L2.CMul, L2.CPow, fIx, ok_ixR, ok_ixI, ok_lenR, ok_callM, fNeg, fRev, fSl, slD, cut1, fON, fOS, fYes, ok_lc, ok_lcBody, ok_for, ok_newM, wipeD, ok_seqL, ok_seqT, ok_seqR, allD_mapF, anyD_mapF, sumD_mapF, List.all_map, fSeq, fRng1, fRng2, fEnum, fZip, gtName, gtSub, gtNil, gtCons, gtTup, mkT, mkL, toDs, DL.gD, gD.rds, c1, c2, ok_lenL, ok_lenT, eq_self, DL.gSub, gMul_int, take_set, ixn20, Int.toNat_natCast, ixn21, List.set_set, gFdv, gMod, gPow, gI, gI0, gLt, gLe, gGt, gGe, gIs, gIt, isN, absD, DL.intD, max2, min2, dmod, ixD_l, ixD_t, isiD, tyD, gsel, gEq_int, gNe_int, gEq_str, gNe_str, List.filterMap_cons, List.filterMap_nil, and_self, or_self, List.map_cons, List.map_nil, List.length_cons, List.length_nil, List.cons_append, List.nil_append, List.append_nil, List.replicate_succ, List.replicate_zero, Nat.reduceAdd, Nat.reduceSub, Nat.reduceLeDiff, Nat.reduceEqDiff, List.take_length, List.length_map, List.length_append, List.take_left', List.take_append_of_le_length, Nat.le_refl, Nat.zero_add, Nat.add_zero, and_true, true_and, true_or, or_true, Int.mul_one, Int.one_mul, Nat.one_mul, Nat.mul_one, and_false, false_and, if_pos, if_neg, reduceIte, reduceCtorEq, not_true_eq_false, not_false_eq_true, Bool.not_true, Bool.not_false, beq_self_eq_true, Bool.or_true, Bool.true_or, Bool.or_false, Bool.false_or, Bool.and_true, Bool.true_and, Bool.and_false, Bool.false_and, String.reduceBEq, at0, at1, at2, at3, Int.cast_ofNat_Int, decide_true, decide_false, decide_eq_true_eq, decide_eq_false_iff_not, Bool.not_eq_true', Bool.not_eq_eq_eq_not, Int.reduceSub, Int.reduceNeg, Int.reduceAdd, Int.reduceMul, Int.reduceLT, Int.reduceLE, Int.reduceEq, Int.reducePow, Int.reduceToNat, sumD_map, allD_map, anyD_map, srtD_map, srtD_mapT, tupD, lstD, List.getElem?_cons_zero, List.getElem?_cons_succ, List.set_cons_zero, List.set_cons_succ, Option.some.injEq, Option.map_some, Option.map_none, Bool.false_eq_true, if_true, if_false, lot_ok h]))
def numI (lot : List Nat) : Nat := (lot.map (2 ^ ·)).sum
theorem number_by_ok {lot : List Nat} (h : ∀ t ∈ lot, t < 5) (hl : lot.length ≤ 1000) {st : Sto} {Q : DV → Sto → Prop} : Ok (f_number_by [.im (lotD lot)]) st Q ↔ Q (.im (.int (numI lot : Nat))) st := ok_eq (eq_ok (by
  unfold f_number_by b_number_by lotD
  simp only [ok_callD, ok_bind, ok_ret, ok_some, ok_none, ok_fail, ok_ifF, ok_lif, ok_var, ok_C, ok_rdim, ok_toim, ok_bin, ok_fTst, ok_fAnd, ok_fOr, ok_fNot, ok_chn, startD, outD, fThen, fSet, fAsg, fPar, fPar3, fIfS, fRet, fDrop, fEnd, fBrk, fCnt, fNotT, fAndT, fOrT, fIf, fIsi, fIsi2, fCall, fCallK, fCons, fNil, fCa, fTup, fLst, fLstM, mkM, fApp, appV, ok_putM, get_last, set_last, take_last, gAdd_int, L2.CDiv, L2.CMul, L2.CPow, fIx, ok_ixR, ok_ixI, ok_lenR, ok_callM, fNeg, fRev, fSl, slD, cut1, fON, fOS, fYes, ok_lc, ok_lcBody, ok_for, ok_newM, wipeD, ok_seqL, ok_seqT, ok_seqR, allD_mapF, anyD_mapF, sumD_mapF, List.all_map, fSeq, fRng1, fRng2, fEnum, fZip, gtName, gtSub, gtNil, gtCons, gtTup, mkT, mkL, toDs, DL.gD, gD.rds, c1, c2, ok_lenL, ok_lenT, eq_self, DL.gSub, gMul_int, take_set, ixn20, Int.toNat_natCast, ixn21, List.set_set, gFdv, gMod, gPow, gI, gI0, gLt, gLe, gGt, gGe, gIs, gIt, isN, absD, DL.intD, max2, min2, dmod, ixD_l, ixD_t, isiD, tyD, gsel, gEq_int, gNe_int, gEq_str, gNe_str, List.filterMap_cons, List.filterMap_nil, and_self, or_self, List.map_cons, List.map_nil, List.length_cons, List.length_nil, List.cons_append, List.nil_append, List.append_nil, List.replicate_succ, List.replicate_zero, Nat.reduceAdd, Nat.reduceSub, Nat.reduceLeDiff, Nat.reduceEqDiff, List.take_length, List.length_map, List.length_append, List.take_left', List.take_append_of_le_length, Nat.le_refl, Nat.zero_add, Nat.add_zero, and_true, true_and, true_or, or_true, Int.mul_one, Int.one_mul, Nat.one_mul, Nat.mul_one, and_false, false_and, if_pos, if_neg, reduceIte, reduceCtorEq, not_true_eq_false, not_false_eq_true, Bool.not_true, Bool.not_false, beq_self_eq_true, Bool.or_true, Bool.true_or, Bool.or_false, Bool.false_or, Bool.and_true, Bool.true_and, Bool.and_false, Bool.false_and, String.reduceBEq, at0, at1, at2, at3, Int.cast_ofNat_Int, decide_true, decide_false, decide_eq_true_eq, decide_eq_false_iff_not, Bool.not_eq_true', Bool.not_eq_eq_eq_not, Int.reduceSub, Int.reduceNeg, Int.reduceAdd, Int.reduceMul, Int.reduceLT, Int.reduceLE, Int.reduceEq, Int.reducePow, Int.reduceToNat, sumD_map, allD_map, anyD_map, srtD_map, srtD_mapT, tupD, lstD, List.getElem?_cons_zero, List.getElem?_cons_succ, List.set_cons_zero, List.set_cons_succ, Option.some.injEq, Option.map_some, Option.map_none, Bool.false_eq_true, if_true, if_false]
  refine (ok_eq (lc_mapA (fun t => PyData.int (t : Nat)) (fun (t : Nat) => PyData.int ((2 ^ t : Nat) : Int)) lot fun t ht => ?_)).mpr ?_
  · simp only [ok_callD, ok_bind, ok_ret, ok_some, ok_none, ok_fail, ok_ifF, ok_lif, ok_var, ok_C, ok_rdim, ok_toim, ok_bin, ok_fTst, ok_fAnd, ok_fOr, ok_fNot, ok_chn, startD, outD, fThen, fSet, fAsg, fPar, fPar3, fIfS, fRet, fDrop, fEnd, fBrk, fCnt, fNotT, fAndT, fOrT, fIf, fIsi, fIsi2, fCall, fCallK, fCons, fNil, fCa, fTup, fLst, fLstM, mkM, fApp, appV, ok_putM, get_last, set_last, take_last, gAdd_int, L2.CDiv, L2.CMul, L2.CPow, fIx, ok_ixR, ok_ixI, ok_lenR, ok_callM, fNeg, fRev, fSl, slD, cut1, fON, fOS, fYes, ok_lc, ok_lcBody, ok_for, ok_newM, wipeD, ok_seqL, ok_seqT, ok_seqR, allD_mapF, anyD_mapF, sumD_mapF, List.all_map, fSeq, fRng1, fRng2, fEnum, fZip, gtName, gtSub, gtNil, gtCons, gtTup, mkT, mkL, toDs, DL.gD, gD.rds, c1, c2, ok_lenL, ok_lenT, eq_self, DL.gSub, gMul_int, take_set, ixn20, Int.toNat_natCast, ixn21, List.set_set, gFdv, gMod, gPow, gI, gI0, gLt, gLe, gGt, gGe, gIs, gIt, isN, absD, DL.intD, max2, min2, dmod, ixD_l, ixD_t, isiD, tyD, gsel, gEq_int, gNe_int, gEq_str, gNe_str, List.filterMap_cons, List.filterMap_nil, and_self, or_self, List.map_cons, List.map_nil, List.length_cons, List.length_nil, List.cons_append, List.nil_append, List.append_nil, List.replicate_succ, List.replicate_zero, Nat.reduceAdd, Nat.reduceSub, Nat.reduceLeDiff, Nat.reduceEqDiff, List.take_length, List.length_map, List.length_append, List.take_left', List.take_append_of_le_length, Nat.le_refl, Nat.zero_add, Nat.add_zero, and_true, true_and, true_or, or_true, Int.mul_one, Int.one_mul, Nat.one_mul, Nat.mul_one, and_false, false_and, if_pos, if_neg, reduceIte, reduceCtorEq, not_true_eq_false, not_false_eq_true, Bool.not_true, Bool.not_false, beq_self_eq_true, Bool.or_true, Bool.true_or, Bool.or_false, Bool.false_or, Bool.and_true, Bool.true_and, Bool.and_false, Bool.false_and, String.reduceBEq, at0, at1, at2, at3, Int.cast_ofNat_Int, decide_true, decide_false, decide_eq_true_eq, decide_eq_false_iff_not, Bool.not_eq_true', Bool.not_eq_eq_eq_not, Int.reduceSub, Int.reduceNeg, Int.reduceAdd, Int.reduceMul, Int.reduceLT, Int.reduceLE, Int.reduceEq, Int.reducePow, Int.reduceToNat, sumD_map, allD_map, anyD_map, srtD_map, srtD_mapT, tupD, lstD, List.getElem?_cons_zero, List.getElem?_cons_succ, List.set_cons_zero, List.set_cons_succ, Option.some.injEq, Option.map_some, Option.map_none, Bool.false_eq_true, if_true, if_false, pow_at (Nat.le_of_lt (h t ht))]
  · have e : (lot.map fun (t : Nat) => ((2 ^ t : Nat) : Int)).sum = ((numI lot : Nat) : Int) := by
      unfold numI
      induction lot with
      | nil => rfl
      | cons a r ih =>
        have := ih (fun t ht => h t (by simp [ht])) (by simp at hl; omega)
        simp only [List.map_cons, List.sum_cons, this]
        omega
    simp only [ok_callD, ok_bind, ok_ret, ok_some, ok_none, ok_fail, ok_ifF, ok_lif, ok_var, ok_C, ok_rdim, ok_toim, ok_bin, ok_fTst, ok_fAnd, ok_fOr, ok_fNot, ok_chn, startD, outD, fThen, fSet, fAsg, fPar, fPar3, fIfS, fRet, fDrop, fEnd, fBrk, fCnt, fNotT, fAndT, fOrT, fIf, fIsi, fIsi2, fCall, fCallK, fCons, fNil, fCa, fTup, fLst, fLstM, mkM, fApp, appV, ok_putM, get_last, set_last, take_last, gAdd_int, L2.CDiv, L2.CMul, L2.CPow, fIx, ok_ixR, ok_ixI, ok_lenR, ok_callM, fNeg, fRev, fSl, slD, cut1, fON, fOS, fYes, ok_lc, ok_lcBody, ok_for, ok_newM, wipeD, ok_seqL, ok_seqT, ok_seqR, allD_mapF, anyD_mapF, sumD_mapF, List.all_map, fSeq, fRng1, fRng2, fEnum, fZip, gtName, gtSub, gtNil, gtCons, gtTup, mkT, mkL, toDs, DL.gD, gD.rds, c1, c2, ok_lenL, ok_lenT, eq_self, DL.gSub, gMul_int, take_set, ixn20, Int.toNat_natCast, ixn21, List.set_set, gFdv, gMod, gPow, gI, gI0, gLt, gLe, gGt, gGe, gIs, gIt, isN, absD, DL.intD, max2, min2, dmod, ixD_l, ixD_t, isiD, tyD, gsel, gEq_int, gNe_int, gEq_str, gNe_str, List.filterMap_cons, List.filterMap_nil, and_self, or_self, List.map_cons, List.map_nil, List.length_cons, List.length_nil, List.cons_append, List.nil_append, List.append_nil, List.replicate_succ, List.replicate_zero, Nat.reduceAdd, Nat.reduceSub, Nat.reduceLeDiff, Nat.reduceEqDiff, List.take_length, List.length_map, List.length_append, List.take_left', List.take_append_of_le_length, Nat.le_refl, Nat.zero_add, Nat.add_zero, and_true, true_and, true_or, or_true, Int.mul_one, Int.one_mul, Nat.one_mul, Nat.mul_one, and_false, false_and, if_pos, if_neg, reduceIte, reduceCtorEq, not_true_eq_false, not_false_eq_true, Bool.not_true, Bool.not_false, beq_self_eq_true, Bool.or_true, Bool.true_or, Bool.or_false, Bool.false_or, Bool.and_true, Bool.true_and, Bool.and_false, Bool.false_and, String.reduceBEq, at0, at1, at2, at3, Int.cast_ofNat_Int, decide_true, decide_false, decide_eq_true_eq, decide_eq_false_iff_not, Bool.not_eq_true', Bool.not_eq_eq_eq_not, Int.reduceSub, Int.reduceNeg, Int.reduceAdd, Int.reduceMul, Int.reduceLT, Int.reduceLE, Int.reduceEq, Int.reducePow, Int.reduceToNat, sumD_map, allD_map, anyD_map, srtD_map, srtD_mapT, tupD, lstD, List.getElem?_cons_zero, List.getElem?_cons_succ, List.set_cons_zero, List.set_cons_succ, Option.some.injEq, Option.map_some, Option.map_none, Bool.false_eq_true, if_true, if_false, hl, e]))
theorem worth_of_ok {l : Bool} {many : Nat} {ws : List Int} {lot : List Nat} (h : ∀ t ∈ lot, t < 5) (hl : lot.length ≤ 1000) {w : Int} (hw : ws[numI lot]? = some w) {st : Sto} {Q : DV → Sto → Prop} :
    Ok (f_worth_of [.im (tabD l many ws), .im (lotD lot)]) st Q ↔ Q (.im (.int w)) st := ok_eq (eq_ok (by
  unfold f_worth_of b_worth_of tabD
  simp only [ok_callD, ok_bind, ok_ret, ok_some, ok_none, ok_fail, ok_ifF, ok_lif, ok_var, ok_C, ok_rdim, ok_toim, ok_bin, ok_fTst, ok_fAnd, ok_fOr, ok_fNot, ok_chn, startD, outD, fThen, fSet, fAsg, fPar, fPar3, fIfS, fRet, fDrop, fEnd, fBrk, fCnt, fNotT, fAndT, fOrT, fIf, fIsi, fIsi2, fCall, fCallK, fCons, fNil, fCa, fTup, fLst, fLstM, mkM, fApp, appV, ok_putM, get_last, set_last, take_last, gAdd_int, L2.CDiv, L2.CMul, L2.CPow, fIx, ok_ixR, ok_ixI, ok_lenR, ok_callM, fNeg, fRev, fSl, slD, cut1, fON, fOS, fYes, ok_lc, ok_lcBody, ok_for, ok_newM, wipeD, ok_seqL, ok_seqT, ok_seqR, allD_mapF, anyD_mapF, sumD_mapF, List.all_map, fSeq, fRng1, fRng2, fEnum, fZip, gtName, gtSub, gtNil, gtCons, gtTup, mkT, mkL, toDs, DL.gD, gD.rds, c1, c2, ok_lenL, ok_lenT, eq_self, DL.gSub, gMul_int, take_set, ixn20, Int.toNat_natCast, ixn21, List.set_set, gFdv, gMod, gPow, gI, gI0, gLt, gLe, gGt, gGe, gIs, gIt, isN, absD, DL.intD, max2, min2, dmod, ixD_l, ixD_t, isiD, tyD, gsel, gEq_int, gNe_int, gEq_str, gNe_str, List.filterMap_cons, List.filterMap_nil, and_self, or_self, List.map_cons, List.map_nil, List.length_cons, List.length_nil, List.cons_append, List.nil_append, List.append_nil, List.replicate_succ, List.replicate_zero, Nat.reduceAdd, Nat.reduceSub, Nat.reduceLeDiff, Nat.reduceEqDiff, List.take_length, List.length_map, List.length_append, List.take_left', List.take_append_of_le_length, Nat.le_refl, Nat.zero_add, Nat.add_zero, and_true, true_and, true_or, or_true, Int.mul_one, Int.one_mul, Nat.one_mul, Nat.mul_one, and_false, false_and, if_pos, if_neg, reduceIte, reduceCtorEq, not_true_eq_false, not_false_eq_true, Bool.not_true, Bool.not_false, beq_self_eq_true, Bool.or_true, Bool.true_or, Bool.or_false, Bool.false_or, Bool.and_true, Bool.true_and, Bool.and_false, Bool.false_and, String.reduceBEq, at0, at1, at2, at3, Int.cast_ofNat_Int, decide_true, decide_false, decide_eq_true_eq, decide_eq_false_iff_not, Bool.not_eq_true', Bool.not_eq_eq_eq_not, Int.reduceSub, Int.reduceNeg, Int.reduceAdd, Int.reduceMul, Int.reduceLT, Int.reduceLE, Int.reduceEq, Int.reducePow, Int.reduceToNat, sumD_map, allD_map, anyD_map, srtD_map, srtD_mapT, tupD, lstD, List.getElem?_cons_zero, List.getElem?_cons_succ, List.set_cons_zero, List.set_cons_succ, Option.some.injEq, Option.map_some, Option.map_none, Bool.false_eq_true, if_true, if_false, number_by_ok h hl, ix_seq]
  rw [atI_nat (j := numI lot) rfl, List.getElem?_map, hw]
  simp only [ok_callD, ok_bind, ok_ret, ok_some, ok_none, ok_fail, ok_ifF, ok_lif, ok_var, ok_C, ok_rdim, ok_toim, ok_bin, ok_fTst, ok_fAnd, ok_fOr, ok_fNot, ok_chn, startD, outD, fThen, fSet, fAsg, fPar, fPar3, fIfS, fRet, fDrop, fEnd, fBrk, fCnt, fNotT, fAndT, fOrT, fIf, fIsi, fIsi2, fCall, fCallK, fCons, fNil, fCa, fTup, fLst, fLstM, mkM, fApp, appV, ok_putM, get_last, set_last, take_last, gAdd_int, L2.CDiv, L2.CMul, L2.CPow, fIx, ok_ixR, ok_ixI, ok_lenR, ok_callM, fNeg, fRev, fSl, slD, cut1, fON, fOS, fYes, ok_lc, ok_lcBody, ok_for, ok_newM, wipeD, ok_seqL, ok_seqT, ok_seqR, allD_mapF, anyD_mapF, sumD_mapF, List.all_map, fSeq, fRng1, fRng2, fEnum, fZip, gtName, gtSub, gtNil, gtCons, gtTup, mkT, mkL, toDs, DL.gD, gD.rds, c1, c2, ok_lenL, ok_lenT, eq_self, DL.gSub, gMul_int, take_set, ixn20, Int.toNat_natCast, ixn21, List.set_set, gFdv, gMod, gPow, gI, gI0, gLt, gLe, gGt, gGe, gIs, gIt, isN, absD, DL.intD, max2, min2, dmod, ixD_l, ixD_t, isiD, tyD, gsel, gEq_int, gNe_int, gEq_str, gNe_str, List.filterMap_cons, List.filterMap_nil, and_self, or_self, List.map_cons, List.map_nil, List.length_cons, List.length_nil, List.cons_append, List.nil_append, List.append_nil, List.replicate_succ, List.replicate_zero, Nat.reduceAdd, Nat.reduceSub, Nat.reduceLeDiff, Nat.reduceEqDiff, List.take_length, List.length_map, List.length_append, List.take_left', List.take_append_of_le_length, Nat.le_refl, Nat.zero_add, Nat.add_zero, and_true, true_and, true_or, or_true, Int.mul_one, Int.one_mul, Nat.one_mul, Nat.mul_one, and_false, false_and, if_pos, if_neg, reduceIte, reduceCtorEq, not_true_eq_false, not_false_eq_true, Bool.not_true, Bool.not_false, beq_self_eq_true, Bool.or_true, Bool.true_or, Bool.or_false, Bool.false_or, Bool.and_true, Bool.true_and, Bool.and_false, Bool.false_and, String.reduceBEq, at0, at1, at2, at3, Int.cast_ofNat_Int, decide_true, decide_false, decide_eq_true_eq, decide_eq_false_iff_not, Bool.not_eq_true', Bool.not_eq_eq_eq_not, Int.reduceSub, Int.reduceNeg, Int.reduceAdd, Int.reduceMul, Int.reduceLT, Int.reduceLE, Int.reduceEq, Int.reducePow, Int.reduceToNat, sumD_map, allD_map, anyD_map, srtD_map, srtD_mapT, tupD, lstD, List.getElem?_cons_zero, List.getElem?_cons_succ, List.set_cons_zero, List.set_cons_succ, Option.some.injEq, Option.map_some, Option.map_none, Bool.false_eq_true, if_true, if_false]))
theorem Lot.five {many : Nat} {lot : List Nat} (h : Lot many lot) : (∀ t ∈ lot, t < 5) ∧ lot.length ≤ 1000 := by
  have h5 := h.hi
  refine ⟨fun t ht => by have := h.lt t ht; omega, ?_⟩
  have := ups_len lot h.up h.lt
  omega
theorem number_of_ok {l : Bool} {many : Nat} {ws : List Int} {lot : List Nat} (t : Tab many ws) (h : Lot many lot) {st : Sto} {Q : DV → Sto → Prop} : Ok (f_number_of [.im (tabD l many ws), .im (lotD lot)]) st Q ↔ Q (.im (.int (numI lot : Nat))) st := ok_eq (eq_ok (by
  unfold f_number_of b_number_of
  simp only [ok_callD, ok_bind, ok_ret, ok_some, ok_none, ok_fail, ok_ifF, ok_lif, ok_var, ok_C, ok_rdim, ok_toim, ok_bin, ok_fTst, ok_fAnd, ok_fOr, ok_fNot, ok_chn, startD, outD, fThen, fSet, fAsg, fPar, fPar3, fIfS, fRet, fDrop, fEnd, fBrk, fCnt, fNotT, fAndT, fOrT, fIf, fIsi, fIsi2, fCall, fCallK, fCons, fNil, fCa, fTup, fLst, fLstM, mkM, fApp, appV, ok_putM, get_last, set_last, take_last, gAdd_int, L2.CDiv, L2.CMul, L2.CPow, fIx, ok_ixR, ok_ixI, ok_lenR, ok_callM, fNeg, fRev, fSl, slD, cut1, fON, fOS, fYes, ok_lc, ok_lcBody, ok_for, ok_newM, wipeD, ok_seqL, ok_seqT, ok_seqR, allD_mapF, anyD_mapF, sumD_mapF, List.all_map, fSeq, fRng1, fRng2, fEnum, fZip, gtName, gtSub, gtNil, gtCons, gtTup, mkT, mkL, toDs, DL.gD, gD.rds, c1, c2, ok_lenL, ok_lenT, eq_self, DL.gSub, gMul_int, take_set, ixn20, Int.toNat_natCast, ixn21, List.set_set, gFdv, gMod, gPow, gI, gI0, gLt, gLe, gGt, gGe, gIs, gIt, isN, absD, DL.intD, max2, min2, dmod, ixD_l, ixD_t, isiD, tyD, gsel, gEq_int, gNe_int, gEq_str, gNe_str, List.filterMap_cons, List.filterMap_nil, and_self, or_self, List.map_cons, List.map_nil, List.length_cons, List.length_nil, List.cons_append, List.nil_append, List.append_nil, List.replicate_succ, List.replicate_zero, Nat.reduceAdd, Nat.reduceSub, Nat.reduceLeDiff, Nat.reduceEqDiff, List.take_length, List.length_map, List.length_append, List.take_left', List.take_append_of_le_length, Nat.le_refl, Nat.zero_add, Nat.add_zero, and_true, true_and, true_or, or_true, Int.mul_one, Int.one_mul, Nat.one_mul, Nat.mul_one, and_false, false_and, if_pos, if_neg, reduceIte, reduceCtorEq, not_true_eq_false, not_false_eq_true, Bool.not_true, Bool.not_false, beq_self_eq_true, Bool.or_true, Bool.true_or, Bool.or_false, Bool.false_or, Bool.and_true, Bool.true_and, Bool.and_false, Bool.false_and, String.reduceBEq, at0, at1, at2, at3, Int.cast_ofNat_Int, decide_true, decide_false, decide_eq_true_eq, decide_eq_false_iff_not, Bool.not_eq_true', Bool.not_eq_eq_eq_not, Int.reduceSub, Int.reduceNeg, Int.reduceAdd, Int.reduceMul, Int.reduceLT, Int.reduceLE, Int.reduceEq, Int.reducePow, Int.reduceToNat, sumD_map, allD_map, anyD_map, srtD_map, srtD_mapT, tupD, lstD, List.getElem?_cons_zero, List.getElem?_cons_succ, List.set_cons_zero, List.set_cons_succ, Option.some.injEq, Option.map_some, Option.map_none, Bool.false_eq_true, if_true, if_false, check_table_ok t, check_lot_ok h, number_by_ok h.five.1 h.five.2]))
theorem worth_ok {l : Bool} {many : Nat} {ws : List Int} {lot : List Nat} (t : Tab many ws) (h : Lot many lot) {w : Int} (hw : ws[numI lot]? = some w) {st : Sto} {Q : DV → Sto → Prop} : Ok (f_worth [.im (tabD l many ws), .im (lotD lot)]) st Q ↔ Q (.im (.int w)) st := ok_eq (eq_ok (by
  unfold f_worth b_worth
  simp only [ok_callD, ok_bind, ok_ret, ok_some, ok_none, ok_fail, ok_ifF, ok_lif, ok_var, ok_C, ok_rdim, ok_toim, ok_bin, ok_fTst, ok_fAnd, ok_fOr, ok_fNot, ok_chn, startD, outD, fThen, fSet, fAsg, fPar, fPar3, fIfS, fRet, fDrop, fEnd, fBrk, fCnt, fNotT, fAndT, fOrT, fIf, fIsi, fIsi2, fCall, fCallK, fCons, fNil, fCa, fTup, fLst, fLstM, mkM, fApp, appV, ok_putM, get_last, set_last, take_last, gAdd_int, L2.CDiv, L2.CMul, L2.CPow, fIx, ok_ixR, ok_ixI, ok_lenR, ok_callM, fNeg, fRev, fSl, slD, cut1, fON, fOS, fYes, ok_lc, ok_lcBody, ok_for, ok_newM, wipeD, ok_seqL, ok_seqT, ok_seqR, allD_mapF, anyD_mapF, sumD_mapF, List.all_map, fSeq, fRng1, fRng2, fEnum, fZip, gtName, gtSub, gtNil, gtCons, gtTup, mkT, mkL, toDs, DL.gD, gD.rds, c1, c2, ok_lenL, ok_lenT, eq_self, DL.gSub, gMul_int, take_set, ixn20, Int.toNat_natCast, ixn21, List.set_set, gFdv, gMod, gPow, gI, gI0, gLt, gLe, gGt, gGe, gIs, gIt, isN, absD, DL.intD, max2, min2, dmod, ixD_l, ixD_t, isiD, tyD, gsel, gEq_int, gNe_int, gEq_str, gNe_str, List.filterMap_cons, List.filterMap_nil, and_self, or_self, List.map_cons, List.map_nil, List.length_cons, List.length_nil, List.cons_append, List.nil_append, List.append_nil, List.replicate_succ, List.replicate_zero, Nat.reduceAdd, Nat.reduceSub, Nat.reduceLeDiff, Nat.reduceEqDiff, List.take_length, List.length_map, List.length_append, List.take_left', List.take_append_of_le_length, Nat.le_refl, Nat.zero_add, Nat.add_zero, and_true, true_and, true_or, or_true, Int.mul_one, Int.one_mul, Nat.one_mul, Nat.mul_one, and_false, false_and, if_pos, if_neg, reduceIte, reduceCtorEq, not_true_eq_false, not_false_eq_true, Bool.not_true, Bool.not_false, beq_self_eq_true, Bool.or_true, Bool.true_or, Bool.or_false, Bool.false_or, Bool.and_true, Bool.true_and, Bool.and_false, Bool.false_and, String.reduceBEq, at0, at1, at2, at3, Int.cast_ofNat_Int, decide_true, decide_false, decide_eq_true_eq, decide_eq_false_iff_not, Bool.not_eq_true', Bool.not_eq_eq_eq_not, Int.reduceSub, Int.reduceNeg, Int.reduceAdd, Int.reduceMul, Int.reduceLT, Int.reduceLE, Int.reduceEq, Int.reducePow, Int.reduceToNat, sumD_map, allD_map, anyD_map, srtD_map, srtD_mapT, tupD, lstD, List.getElem?_cons_zero, List.getElem?_cons_succ, List.set_cons_zero, List.set_cons_succ, Option.some.injEq, Option.map_some, Option.map_none, Bool.false_eq_true, if_true, if_false, check_table_ok t, check_lot_ok h, worth_of_ok h.five.1 h.five.2 hw]))
/-! ### a number's lot -/
def bl : Nat → Nat → Nat → List Nat
  | 0, _, _ => []
  | f + 1, n, t => if n = 0 then [] else (if n % 2 = 1 then [t] else []) ++ bl f (n / 2) (t + 1)
theorem lot_by_ok {n : Nat} (h : n < 32) {st : Sto} {Q : DV → Sto → Prop} : Ok (f_lot_by [.im (.int (n : Nat))]) st Q ↔ Q (.im (lotD (bl 5 n 0))) st := ok_eq (eq_ok (by
  unfold f_lot_by b_lot_by lotD
  simp only [ok_callD, ok_bind, ok_ret, ok_some, ok_none, ok_fail, ok_ifF, ok_lif, ok_var, ok_C, ok_rdim, ok_toim, ok_bin, ok_fTst, ok_fAnd, ok_fOr, ok_fNot, ok_chn, startD, outD, fThen, fSet, fAsg, fPar, fPar3, fIfS, fRet, fDrop, fEnd, fBrk, fCnt, fNotT, fAndT, fOrT, fIf, fIsi, fIsi2, fCall, fCallK, fCons, fNil, fCa, fTup, fLst, fLstM, mkM, fApp, appV, ok_putM, get_last, set_last, take_last, gAdd_int, L2.CDiv, L2.CMul, L2.CPow, fIx, ok_ixR, ok_ixI, ok_lenR, ok_callM, fNeg, fRev, fSl, slD, cut1, fON, fOS, fYes, ok_lc, ok_lcBody, ok_for, ok_newM, wipeD, ok_seqL, ok_seqT, ok_seqR, allD_mapF, anyD_mapF, sumD_mapF, List.all_map, fSeq, fRng1, fRng2, fEnum, fZip, gtName, gtSub, gtNil, gtCons, gtTup, mkT, mkL, toDs, DL.gD, gD.rds, c1, c2, ok_lenL, ok_lenT, eq_self, DL.gSub, gMul_int, take_set, ixn20, Int.toNat_natCast, ixn21, List.set_set, gFdv, gMod, gPow, gI, gI0, gLt, gLe, gGt, gGe, gIs, gIt, isN, absD, DL.intD, max2, min2, dmod, ixD_l, ixD_t, isiD, tyD, gsel, gEq_int, gNe_int, gEq_str, gNe_str, List.filterMap_cons, List.filterMap_nil, and_self, or_self, List.map_cons, List.map_nil, List.length_cons, List.length_nil, List.cons_append, List.nil_append, List.append_nil, List.replicate_succ, List.replicate_zero, Nat.reduceAdd, Nat.reduceSub, Nat.reduceLeDiff, Nat.reduceEqDiff, List.take_length, List.length_map, List.length_append, List.take_left', List.take_append_of_le_length, Nat.le_refl, Nat.zero_add, Nat.add_zero, and_true, true_and, true_or, or_true, Int.mul_one, Int.one_mul, Nat.one_mul, Nat.mul_one, and_false, false_and, if_pos, if_neg, reduceIte, reduceCtorEq, not_true_eq_false, not_false_eq_true, Bool.not_true, Bool.not_false, beq_self_eq_true, Bool.or_true, Bool.true_or, Bool.or_false, Bool.false_or, Bool.and_true, Bool.true_and, Bool.and_false, Bool.false_and, String.reduceBEq, at0, at1, at2, at3, Int.cast_ofNat_Int, decide_true, decide_false, decide_eq_true_eq, decide_eq_false_iff_not, Bool.not_eq_true', Bool.not_eq_eq_eq_not, Int.reduceSub, Int.reduceNeg, Int.reduceAdd, Int.reduceMul, Int.reduceLT, Int.reduceLE, Int.reduceEq, Int.reducePow, Int.reduceToNat, sumD_map, allD_map, anyD_map, srtD_map, srtD_mapT, tupD, lstD, List.getElem?_cons_zero, List.getElem?_cons_succ, List.set_cons_zero, List.set_cons_succ, Option.some.injEq, Option.map_some, Option.map_none, Bool.false_eq_true, if_true, if_false]
  refine ok_while (fun m env s => ∃ (f t : Nat) (acc : List Nat), m < 2 ^ f ∧ env = [some (.im (.int (m : Nat))), some (.mu st.length), some (.im (.int (t : Nat)))] ∧ s = st ++ [(true, acc.map fun t => .int (t : Nat))] ∧ acc.length + f ≤ 5 ∧ acc ++ bl f m t = bl 5 n 0) ?_
    (m := n) ⟨5, 0, [], h, rfl, rfl, by decide, rfl⟩
  rintro m env s ⟨f, t, acc, hm, rfl, rfl, hf, hb⟩
  by_cases h0 : m = 0
  · subst h0
    have hb' : acc = bl 5 n 0 := by
      rw [← hb]
      cases f <;> simp [bl]
    simp only [ok_callD, ok_bind, ok_ret, ok_some, ok_none, ok_fail, ok_ifF, ok_lif, ok_var, ok_C, ok_rdim, ok_toim, ok_bin, ok_fTst, ok_fAnd, ok_fOr, ok_fNot, ok_chn, startD, outD, fThen, fSet, fAsg, fPar, fPar3, fIfS, fRet, fDrop, fEnd, fBrk, fCnt, fNotT, fAndT, fOrT, fIf, fIsi, fIsi2, fCall, fCallK, fCons, fNil, fCa, fTup, fLst, fLstM, mkM, fApp, appV, ok_putM, get_last, set_last, take_last, gAdd_int, L2.CDiv, L2.CMul, L2.CPow, fIx, ok_ixR, ok_ixI, ok_lenR, ok_callM, fNeg, fRev, fSl, slD, cut1, fON, fOS, fYes, ok_lc, ok_lcBody, ok_for, ok_newM, wipeD, ok_seqL, ok_seqT, ok_seqR, allD_mapF, anyD_mapF, sumD_mapF, List.all_map, fSeq, fRng1, fRng2, fEnum, fZip, gtName, gtSub, gtNil, gtCons, gtTup, mkT, mkL, toDs, DL.gD, gD.rds, c1, c2, ok_lenL, ok_lenT, eq_self, DL.gSub, gMul_int, take_set, ixn20, Int.toNat_natCast, ixn21, List.set_set, gFdv, gMod, gPow, gI, gI0, gLt, gLe, gGt, gGe, gIs, gIt, isN, absD, DL.intD, max2, min2, dmod, ixD_l, ixD_t, isiD, tyD, gsel, gEq_int, gNe_int, gEq_str, gNe_str, List.filterMap_cons, List.filterMap_nil, and_self, or_self, List.map_cons, List.map_nil, List.length_cons, List.length_nil, List.cons_append, List.nil_append, List.append_nil, List.replicate_succ, List.replicate_zero, Nat.reduceAdd, Nat.reduceSub, Nat.reduceLeDiff, Nat.reduceEqDiff, List.take_length, List.length_map, List.length_append, List.take_left', List.take_append_of_le_length, Nat.le_refl, Nat.zero_add, Nat.add_zero, and_true, true_and, true_or, or_true, Int.mul_one, Int.one_mul, Nat.one_mul, Nat.mul_one, and_false, false_and, if_pos, if_neg, reduceIte, reduceCtorEq, not_true_eq_false, not_false_eq_true, Bool.not_true, Bool.not_false, beq_self_eq_true, Bool.or_true, Bool.true_or, Bool.or_false, Bool.false_or, Bool.and_true, Bool.true_and, Bool.and_false, Bool.false_and, String.reduceBEq, at0, at1, at2, at3, Int.cast_ofNat_Int, decide_true, decide_false, decide_eq_true_eq, decide_eq_false_iff_not, Bool.not_eq_true', Bool.not_eq_eq_eq_not, Int.reduceSub, Int.reduceNeg, Int.reduceAdd, Int.reduceMul, Int.reduceLT, Int.reduceLE, Int.reduceEq, Int.reducePow, Int.reduceToNat, sumD_map, allD_map, anyD_map, srtD_map, srtD_mapT, tupD, lstD, List.getElem?_cons_zero, List.getElem?_cons_succ, List.set_cons_zero, List.set_cons_succ, Option.some.injEq, Option.map_some, Option.map_none, Bool.false_eq_true, if_true, if_false, ok_rdmu, hb']
    refine ⟨_, _, rfl, ?_⟩
    simp only [ok_callD, ok_bind, ok_ret, ok_some, ok_none, ok_fail, ok_ifF, ok_lif, ok_var, ok_C, ok_rdim, ok_toim, ok_bin, ok_fTst, ok_fAnd, ok_fOr, ok_fNot, ok_chn, startD, outD, fThen, fSet, fAsg, fPar, fPar3, fIfS, fRet, fDrop, fEnd, fBrk, fCnt, fNotT, fAndT, fOrT, fIf, fIsi, fIsi2, fCall, fCallK, fCons, fNil, fCa, fTup, fLst, fLstM, mkM, fApp, appV, ok_putM, get_last, set_last, take_last, gAdd_int, L2.CDiv, L2.CMul, L2.CPow, fIx, ok_ixR, ok_ixI, ok_lenR, ok_callM, fNeg, fRev, fSl, slD, cut1, fON, fOS, fYes, ok_lc, ok_lcBody, ok_for, ok_newM, wipeD, ok_seqL, ok_seqT, ok_seqR, allD_mapF, anyD_mapF, sumD_mapF, List.all_map, fSeq, fRng1, fRng2, fEnum, fZip, gtName, gtSub, gtNil, gtCons, gtTup, mkT, mkL, toDs, DL.gD, gD.rds, c1, c2, ok_lenL, ok_lenT, eq_self, DL.gSub, gMul_int, take_set, ixn20, Int.toNat_natCast, ixn21, List.set_set, gFdv, gMod, gPow, gI, gI0, gLt, gLe, gGt, gGe, gIs, gIt, isN, absD, DL.intD, max2, min2, dmod, ixD_l, ixD_t, isiD, tyD, gsel, gEq_int, gNe_int, gEq_str, gNe_str, List.filterMap_cons, List.filterMap_nil, and_self, or_self, List.map_cons, List.map_nil, List.length_cons, List.length_nil, List.cons_append, List.nil_append, List.append_nil, List.replicate_succ, List.replicate_zero, Nat.reduceAdd, Nat.reduceSub, Nat.reduceLeDiff, Nat.reduceEqDiff, List.take_length, List.length_map, List.length_append, List.take_left', List.take_append_of_le_length, Nat.le_refl, Nat.zero_add, Nat.add_zero, and_true, true_and, true_or, or_true, Int.mul_one, Int.one_mul, Nat.one_mul, Nat.mul_one, and_false, false_and, if_pos, if_neg, reduceIte, reduceCtorEq, not_true_eq_false, not_false_eq_true, Bool.not_true, Bool.not_false, beq_self_eq_true, Bool.or_true, Bool.true_or, Bool.or_false, Bool.false_or, Bool.and_true, Bool.true_and, Bool.and_false, Bool.false_and, String.reduceBEq, at0, at1, at2, at3, Int.cast_ofNat_Int, decide_true, decide_false, decide_eq_true_eq, decide_eq_false_iff_not, Bool.not_eq_true', Bool.not_eq_eq_eq_not, Int.reduceSub, Int.reduceNeg, Int.reduceAdd, Int.reduceMul, Int.reduceLT, Int.reduceLE, Int.reduceEq, Int.reducePow, Int.reduceToNat, sumD_map, allD_map, anyD_map, srtD_map, srtD_mapT, tupD, lstD, List.getElem?_cons_zero, List.getElem?_cons_succ, List.set_cons_zero, List.set_cons_succ, Option.some.injEq, Option.map_some, Option.map_none, Bool.false_eq_true, if_true, if_false]
  · obtain ⟨f, rfl⟩ : ∃ f', f = f' + 1 := by
      cases f with
      | zero => simp at hm; omega
      | succ f => exact ⟨f, rfl⟩
    have p1 : (0 : Int) < (m : Int) := by omega
    have e2 : (m : Int) / 2 = ((m / 2 : Nat) : Int) := by omega
    have hm2 : m / 2 < 2 ^ f := by rw [Nat.pow_succ] at hm; omega
    have hal : acc.length < 1000 := by omega
    rw [bl, if_neg h0] at hb
    by_cases ho : m % 2 = 1
    · have o1 : (m : Int) % 2 = 1 := by omega
      rw [if_pos ho] at hb
      simp only [ok_callD, ok_bind, ok_ret, ok_some, ok_none, ok_fail, ok_ifF, ok_lif, ok_var, ok_C, ok_rdim, ok_toim, ok_bin, ok_fTst, ok_fAnd, ok_fOr, ok_fNot, ok_chn, startD, outD, fThen, fSet, fAsg, fPar, fPar3, fIfS, fRet, fDrop, fEnd, fBrk, fCnt, fNotT, fAndT, fOrT, fIf, fIsi, fIsi2, fCall, fCallK, fCons, fNil, fCa, fTup, fLst, fLstM, mkM, fApp, appV, ok_putM, get_last, set_last, take_last, gAdd_int, L2.CDiv, L2.CMul, L2.CPow, fIx, ok_ixR, ok_ixI, ok_lenR, ok_callM, fNeg, fRev, fSl, slD, cut1, fON, fOS, fYes, ok_lc, ok_lcBody, ok_for, ok_newM, wipeD, ok_seqL, ok_seqT, ok_seqR, allD_mapF, anyD_mapF, sumD_mapF, List.all_map, fSeq, fRng1, fRng2, fEnum, fZip, gtName, gtSub, gtNil, gtCons, gtTup, mkT, mkL, toDs, DL.gD, gD.rds, c1, c2, ok_lenL, ok_lenT, eq_self, DL.gSub, gMul_int, take_set, ixn20, Int.toNat_natCast, ixn21, List.set_set, gFdv, gMod, gPow, gI, gI0, gLt, gLe, gGt, gGe, gIs, gIt, isN, absD, DL.intD, max2, min2, dmod, ixD_l, ixD_t, isiD, tyD, gsel, gEq_int, gNe_int, gEq_str, gNe_str, List.filterMap_cons, List.filterMap_nil, and_self, or_self, List.map_cons, List.map_nil, List.length_cons, List.length_nil, List.cons_append, List.nil_append, List.append_nil, List.replicate_succ, List.replicate_zero, Nat.reduceAdd, Nat.reduceSub, Nat.reduceLeDiff, Nat.reduceEqDiff, List.take_length, List.length_map, List.length_append, List.take_left', List.take_append_of_le_length, Nat.le_refl, Nat.zero_add, Nat.add_zero, and_true, true_and, true_or, or_true, Int.mul_one, Int.one_mul, Nat.one_mul, Nat.mul_one, and_false, false_and, if_pos, if_neg, reduceIte, reduceCtorEq, not_true_eq_false, not_false_eq_true, Bool.not_true, Bool.not_false, beq_self_eq_true, Bool.or_true, Bool.true_or, Bool.or_false, Bool.false_or, Bool.and_true, Bool.true_and, Bool.and_false, Bool.false_and, String.reduceBEq, at0, at1, at2, at3, Int.cast_ofNat_Int, decide_true, decide_false, decide_eq_true_eq, decide_eq_false_iff_not, Bool.not_eq_true', Bool.not_eq_eq_eq_not, Int.reduceSub, Int.reduceNeg, Int.reduceAdd, Int.reduceMul, Int.reduceLT, Int.reduceLE, Int.reduceEq, Int.reducePow, Int.reduceToNat, sumD_map, allD_map, anyD_map, srtD_map, srtD_mapT, tupD, lstD, List.getElem?_cons_zero, List.getElem?_cons_succ, List.set_cons_zero, List.set_cons_succ, Option.some.injEq, Option.map_some, Option.map_none, Bool.false_eq_true, if_true, if_false, p1, o1, e2, ok_getM get_last, hal]
      exact ⟨m / 2, by omega, f, t + 1, acc ++ [t], hm2, rfl, by simp, by simp; omega, by rw [List.append_assoc]; exact hb⟩
    · have o1 : ¬ (m : Int) % 2 = 1 := by omega
      rw [if_neg ho] at hb
      simp only [ok_callD, ok_bind, ok_ret, ok_some, ok_none, ok_fail, ok_ifF, ok_lif, ok_var, ok_C, ok_rdim, ok_toim, ok_bin, ok_fTst, ok_fAnd, ok_fOr, ok_fNot, ok_chn, startD, outD, fThen, fSet, fAsg, fPar, fPar3, fIfS, fRet, fDrop, fEnd, fBrk, fCnt, fNotT, fAndT, fOrT, fIf, fIsi, fIsi2, fCall, fCallK, fCons, fNil, fCa, fTup, fLst, fLstM, mkM, fApp, appV, ok_putM, get_last, set_last, take_last, gAdd_int, L2.CDiv, L2.CMul, L2.CPow, fIx, ok_ixR, ok_ixI, ok_lenR, ok_callM, fNeg, fRev, fSl, slD, cut1, fON, fOS, fYes, ok_lc, ok_lcBody, ok_for, ok_newM, wipeD, ok_seqL, ok_seqT, ok_seqR, allD_mapF, anyD_mapF, sumD_mapF, List.all_map, fSeq, fRng1, fRng2, fEnum, fZip, gtName, gtSub, gtNil, gtCons, gtTup, mkT, mkL, toDs, DL.gD, gD.rds, c1, c2, ok_lenL, ok_lenT, eq_self, DL.gSub, gMul_int, take_set, ixn20, Int.toNat_natCast, ixn21, List.set_set, gFdv, gMod, gPow, gI, gI0, gLt, gLe, gGt, gGe, gIs, gIt, isN, absD, DL.intD, max2, min2, dmod, ixD_l, ixD_t, isiD, tyD, gsel, gEq_int, gNe_int, gEq_str, gNe_str, List.filterMap_cons, List.filterMap_nil, and_self, or_self, List.map_cons, List.map_nil, List.length_cons, List.length_nil, List.cons_append, List.nil_append, List.append_nil, List.replicate_succ, List.replicate_zero, Nat.reduceAdd, Nat.reduceSub, Nat.reduceLeDiff, Nat.reduceEqDiff, List.take_length, List.length_map, List.length_append, List.take_left', List.take_append_of_le_length, Nat.le_refl, Nat.zero_add, Nat.add_zero, and_true, true_and, true_or, or_true, Int.mul_one, Int.one_mul, Nat.one_mul, Nat.mul_one, and_false, false_and, if_pos, if_neg, reduceIte, reduceCtorEq, not_true_eq_false, not_false_eq_true, Bool.not_true, Bool.not_false, beq_self_eq_true, Bool.or_true, Bool.true_or, Bool.or_false, Bool.false_or, Bool.and_true, Bool.true_and, Bool.and_false, Bool.false_and, String.reduceBEq, at0, at1, at2, at3, Int.cast_ofNat_Int, decide_true, decide_false, decide_eq_true_eq, decide_eq_false_iff_not, Bool.not_eq_true', Bool.not_eq_eq_eq_not, Int.reduceSub, Int.reduceNeg, Int.reduceAdd, Int.reduceMul, Int.reduceLT, Int.reduceLE, Int.reduceEq, Int.reducePow, Int.reduceToNat, sumD_map, allD_map, anyD_map, srtD_map, srtD_mapT, tupD, lstD, List.getElem?_cons_zero, List.getElem?_cons_succ, List.set_cons_zero, List.set_cons_succ, Option.some.injEq, Option.map_some, Option.map_none, Bool.false_eq_true, if_true, if_false, p1, o1, e2]
      exact ⟨m / 2, by omega, f, t + 1, acc, hm2, rfl, rfl, by omega, hb⟩))
end G11
namespace G11
open PySem DL
def lt5 (i : Nat) : List Nat := (lots 5).getD i []
theorem fin1 : ∀ m, m < 6 → (lots m).length = 2 ^ m ∧ ∀ i, i < 2 ^ m → (lots m)[i]? = some (lt5 i) := by decide +kernel
theorem fin2 : ∀ i, i < 32 → bl 5 i 0 = lt5 i ∧ numI (lt5 i) = i ∧ ups (lt5 i) = true := by decide +kernel
theorem fin3 : ∀ m, m < 6 → ∀ i, i < 2 ^ m → ∀ t ∈ lt5 i, t < m := by decide +kernel
def ck4 : Bool := (List.range 6).all fun m => (List.range (2 ^ m)).all fun i => (List.range m).all fun t => (lt5 i).contains t || (decide (i + 2 ^ t < 2 ^ m) && decide (isort ((lt5 i ++ [t]).map Int.ofNat) = (lt5 (i + 2 ^ t)).map Int.ofNat))
theorem ck4_ok : ck4 = true := by decide +kernel
theorem fin4 (m : Nat) (hm : m < 6) (i : Nat) (hi : i < 2 ^ m) (t : Nat) (ht : t < m) : t ∈ lt5 i ∨ (i + 2 ^ t < 2 ^ m ∧ isort ((lt5 i ++ [t]).map Int.ofNat) = (lt5 (i + 2 ^ t)).map Int.ofNat) := by
  have h := ck4_ok
  unfold ck4 at h
  have h1 := List.all_eq_true.mp h m (List.mem_range.mpr hm)
  have h2 := List.all_eq_true.mp h1 i (List.mem_range.mpr hi)
  have h3 := List.all_eq_true.mp h2 t (List.mem_range.mpr ht)
  simpa only [Bool.or_eq_true, Bool.and_eq_true, decide_eq_true_eq, List.contains_iff_mem] using h3
theorem pow32 {m : Nat} (h : m < 6) : 2 ^ m ≤ 32 := Nat.le_trans (Nat.pow_le_pow_right (by decide) (Nat.le_of_lt_succ h)) (by decide)
theorem lot_i {m i : Nat} (hm : m ≤ 5) (hi : i < 2 ^ m) : Lot m (lt5 i) :=
  ⟨fin3 m (by omega) i hi, (fin2 i (by have := pow32 (m := m) (by omega); omega)).2.2, hm⟩
theorem num_i {m i : Nat} (hm : m ≤ 5) (hi : i < 2 ^ m) : numI (lt5 i) = i := (fin2 i (by have := pow32 (m := m) (by omega); omega)).2.1
theorem lotD_int (lot : List Nat) : lotD lot = .tuple ((lot.map Int.ofNat).map .int) := by unfold lotD; rw [List.map_map]; rfl
theorem lot_with_ok {m i t : Nat} (hm : m ≤ 5) (hi : i < 2 ^ m) (ht : t < m) (hn : t ∉ lt5 i) {st : Sto} {Q : DV → Sto → Prop} : Ok (f_lot_with [.im (lotD (lt5 i)), .im (.int (t : Nat))]) st Q ↔ Q (.im (lotD (lt5 (i + 2 ^ t)))) st := ok_eq (eq_ok (by
  unfold f_lot_with b_lot_with
  rw [lotD_int, lotD_int]
  have e1 : ((lt5 i).map Int.ofNat).map PyData.int ++ [PyData.int (t : Nat)] = ((lt5 i ++ [t]).map Int.ofNat).map PyData.int := by simp
  have e2 := ((fin4 m (by omega) i hi t ht).resolve_left hn).2
  have hl : (lt5 i).length ≤ 1000 := (lot_i hm hi).five.2
  have hz : (((lt5 i).map Int.ofNat).map PyData.int).length + [PyData.int (t : Nat)].length ≤ 16777216 := by simp; omega
  simp only [ok_callD, ok_bind, ok_ret, ok_some, ok_none, ok_fail, ok_ifF, ok_lif, ok_var, ok_C, ok_rdim, ok_toim, ok_bin, ok_fTst, ok_fAnd, ok_fOr, ok_fNot, ok_chn, startD, outD, fThen, fSet, fAsg, fPar, fPar3, fIfS, fRet, fDrop, fEnd, fBrk, fCnt, fNotT, fAndT, fOrT, fIf, fIsi, fIsi2, fCall, fCallK, fCons, fNil, fCa, fTup, fLst, fLstM, mkM, fApp, appV, ok_putM, get_last, set_last, take_last, gAdd_int, L2.CDiv, L2.CMul, L2.CPow, fIx, ok_ixR, ok_ixI, ok_lenR, ok_callM, fNeg, fRev, fSl, slD, cut1, fON, fOS, fYes, ok_lc, ok_lcBody, ok_for, ok_newM, wipeD, ok_seqL, ok_seqT, ok_seqR, allD_mapF, anyD_mapF, sumD_mapF, List.all_map, fSeq, fRng1, fRng2, fEnum, fZip, gtName, gtSub, gtNil, gtCons, gtTup, mkT, mkL, toDs, DL.gD, gD.rds, c1, c2, ok_lenL, ok_lenT, eq_self, DL.gSub, gMul_int, take_set, ixn20, Int.toNat_natCast, ixn21, List.set_set, gFdv, gMod, gPow, gI, gI0, gLt, gLe, gGt, gGe, gIs, gIt, isN, absD, DL.intD, max2, min2, dmod, ixD_l, ixD_t, isiD, tyD, gsel, gEq_int, gNe_int, gEq_str, gNe_str, List.map_cons, List.map_nil, List.length_cons, List.length_nil, List.cons_append, List.nil_append, List.append_nil, List.replicate_succ, List.replicate_zero, Nat.reduceAdd, Nat.reduceSub, Nat.reduceLeDiff, Nat.reduceEqDiff, List.take_length, List.length_map, List.length_append, List.take_left', List.take_append_of_le_length, Nat.le_refl, Nat.zero_add, Nat.add_zero, and_true, true_and, true_or, or_true, Int.mul_one, Int.one_mul, Nat.one_mul, Nat.mul_one, and_false, false_and, if_pos, if_neg, reduceIte, reduceCtorEq, not_true_eq_false, not_false_eq_true, Bool.not_true, Bool.not_false, beq_self_eq_true, Bool.or_true, Bool.true_or, Bool.or_false, Bool.false_or, Bool.and_true, Bool.true_and, Bool.and_false, Bool.false_and, String.reduceBEq, at0, at1, at2, at3, Int.cast_ofNat_Int, decide_true, decide_false, decide_eq_true_eq, decide_eq_false_iff_not, Bool.not_eq_true', Bool.not_eq_eq_eq_not, Int.reduceSub, Int.reduceNeg, Int.reduceAdd, Int.reduceMul, Int.reduceLT, Int.reduceLE, Int.reduceEq, Int.reducePow, Int.reduceToNat, sumD_map, allD_map, anyD_map, srtD_map, srtD_mapT, tupD, lstD, List.getElem?_cons_zero, List.getElem?_cons_succ, List.set_cons_zero, List.set_cons_succ, Option.some.injEq, Option.map_some, Option.map_none, Bool.false_eq_true, if_true, if_false, gAdd, e1, e2]
  omega))
theorem up_i {m i t : Nat} (hm : m ≤ 5) (hi : i < 2 ^ m) (ht : t < m) (hn : t ∉ lt5 i) : i + 2 ^ t < 2 ^ m := ((fin4 m (by omega) i hi t ht).resolve_left hn).1
theorem lot_of_ok {l : Bool} {m i : Nat} {ws : List Int} (t : Tab m ws) (hi : i < 2 ^ m) {st : Sto} {Q : DV → Sto → Prop} : Ok (f_lot_of [.im (tabD l m ws), .im (.int (i : Nat))]) st Q ↔ Q (.im (lotD (lt5 i))) st := ok_eq (eq_ok (by
  unfold f_lot_of b_lot_of
  have h32 := pow32 (m := m) (by have := t.hi; omega)
  have e := (fin2 i (by omega)).1
  have hc : (i : Int) ≤ ((2 ^ m : Nat) : Int) - 1 := by omega
  have h0 : (0 : Int) ≤ (i : Int) := by omega
  simp only [ok_callD, ok_bind, ok_ret, ok_some, ok_none, ok_fail, ok_ifF, ok_lif, ok_var, ok_C, ok_rdim, ok_toim, ok_bin, ok_fTst, ok_fAnd, ok_fOr, ok_fNot, ok_chn, startD, outD, fThen, fSet, fAsg, fPar, fPar3, fIfS, fRet, fDrop, fEnd, fBrk, fCnt, fNotT, fAndT, fOrT, fIf, fIsi, fIsi2, fCall, fCallK, fCons, fNil, fCa, fTup, fLst, fLstM, mkM, fApp, appV, ok_putM, get_last, set_last, take_last, gAdd_int, L2.CDiv, L2.CMul, L2.CPow, fIx, ok_ixR, ok_ixI, ok_lenR, ok_callM, fNeg, fRev, fSl, slD, cut1, fON, fOS, fYes, ok_lc, ok_lcBody, ok_for, ok_newM, wipeD, ok_seqL, ok_seqT, ok_seqR, allD_mapF, anyD_mapF, sumD_mapF, List.all_map, fSeq, fRng1, fRng2, fEnum, fZip, gtName, gtSub, gtNil, gtCons, gtTup, mkT, mkL, toDs, DL.gD, gD.rds, c1, c2, ok_lenL, ok_lenT, eq_self, DL.gSub, gMul_int, take_set, ixn20, Int.toNat_natCast, ixn21, List.set_set, gFdv, gMod, gPow, gI, gI0, gLt, gLe, gGt, gGe, gIs, gIt, isN, absD, DL.intD, max2, min2, dmod, ixD_l, ixD_t, isiD, tyD, gsel, gEq_int, gNe_int, gEq_str, gNe_str, List.map_cons, List.map_nil, List.length_cons, List.length_nil, List.cons_append, List.nil_append, List.append_nil, List.replicate_succ, List.replicate_zero, Nat.reduceAdd, Nat.reduceSub, Nat.reduceLeDiff, Nat.reduceEqDiff, List.take_length, List.length_map, List.length_append, List.take_left', List.take_append_of_le_length, Nat.le_refl, Nat.zero_add, Nat.add_zero, and_true, true_and, true_or, or_true, Int.mul_one, Int.one_mul, Nat.one_mul, Nat.mul_one, and_false, false_and, if_pos, if_neg, reduceIte, reduceCtorEq, not_true_eq_false, not_false_eq_true, Bool.not_true, Bool.not_false, beq_self_eq_true, Bool.or_true, Bool.true_or, Bool.or_false, Bool.false_or, Bool.and_true, Bool.true_and, Bool.and_false, Bool.false_and, String.reduceBEq, at0, at1, at2, at3, Int.cast_ofNat_Int, decide_true, decide_false, decide_eq_true_eq, decide_eq_false_iff_not, Bool.not_eq_true', Bool.not_eq_eq_eq_not, Int.reduceSub, Int.reduceNeg, Int.reduceAdd, Int.reduceMul, Int.reduceLT, Int.reduceLE, Int.reduceEq, Int.reducePow, Int.reduceToNat, sumD_map, allD_map, anyD_map, srtD_map, srtD_mapT, tupD, lstD, List.getElem?_cons_zero, List.getElem?_cons_succ, List.set_cons_zero, List.set_cons_succ, Option.some.injEq, Option.map_some, Option.map_none, Bool.false_eq_true, if_true, if_false, check_table_ok t, tab0, pow_at t.hi, within_ok, lot_by_ok (show i < 32 by omega), e, hc, h0]))
theorem gain_ok {l : Bool} {m i t : Nat} {ws : List Int} (h : Tab m ws) (hi : i < 2 ^ m) (ht : t < m) (hn : t ∉ lt5 i) {a b : Int} (ha : ws[i + 2 ^ t]? = some a) (hb : ws[i]? = some b) {st : Sto} {Q : DV → Sto → Prop} :
    Ok (f_gain_of [.im (tabD l m ws), .im (lotD (lt5 i)), .im (.int (t : Nat))]) st Q ↔ Q (.im (.int (a - b))) st := ok_eq (eq_ok (by
  unfold f_gain_of b_gain_of
  have hu := up_i h.hi hi ht hn
  have l1 := (lot_i h.hi hi).five
  have l2 := (lot_i h.hi hu).five
  simp only [ok_callD, ok_bind, ok_ret, ok_some, ok_none, ok_fail, ok_ifF, ok_lif, ok_var, ok_C, ok_rdim, ok_toim, ok_bin, ok_fTst, ok_fAnd, ok_fOr, ok_fNot, ok_chn, startD, outD, fThen, fSet, fAsg, fPar, fPar3, fIfS, fRet, fDrop, fEnd, fBrk, fCnt, fNotT, fAndT, fOrT, fIf, fIsi, fIsi2, fCall, fCallK, fCons, fNil, fCa, fTup, fLst, fLstM, mkM, fApp, appV, ok_putM, get_last, set_last, take_last, gAdd_int, L2.CDiv, L2.CMul, L2.CPow, fIx, ok_ixR, ok_ixI, ok_lenR, ok_callM, fNeg, fRev, fSl, slD, cut1, fON, fOS, fYes, ok_lc, ok_lcBody, ok_for, ok_newM, wipeD, ok_seqL, ok_seqT, ok_seqR, allD_mapF, anyD_mapF, sumD_mapF, List.all_map, fSeq, fRng1, fRng2, fEnum, fZip, gtName, gtSub, gtNil, gtCons, gtTup, mkT, mkL, toDs, DL.gD, gD.rds, c1, c2, ok_lenL, ok_lenT, eq_self, DL.gSub, gMul_int, take_set, ixn20, Int.toNat_natCast, ixn21, List.set_set, gFdv, gMod, gPow, gI, gI0, gLt, gLe, gGt, gGe, gIs, gIt, isN, absD, DL.intD, max2, min2, dmod, ixD_l, ixD_t, isiD, tyD, gsel, gEq_int, gNe_int, gEq_str, gNe_str, List.map_cons, List.map_nil, List.length_cons, List.length_nil, List.cons_append, List.nil_append, List.append_nil, List.replicate_succ, List.replicate_zero, Nat.reduceAdd, Nat.reduceSub, Nat.reduceLeDiff, Nat.reduceEqDiff, List.take_length, List.length_map, List.length_append, List.take_left', List.take_append_of_le_length, Nat.le_refl, Nat.zero_add, Nat.add_zero, and_true, true_and, true_or, or_true, Int.mul_one, Int.one_mul, Nat.one_mul, Nat.mul_one, and_false, false_and, if_pos, if_neg, reduceIte, reduceCtorEq, not_true_eq_false, not_false_eq_true, Bool.not_true, Bool.not_false, beq_self_eq_true, Bool.or_true, Bool.true_or, Bool.or_false, Bool.false_or, Bool.and_true, Bool.true_and, Bool.and_false, Bool.false_and, String.reduceBEq, at0, at1, at2, at3, Int.cast_ofNat_Int, decide_true, decide_false, decide_eq_true_eq, decide_eq_false_iff_not, Bool.not_eq_true', Bool.not_eq_eq_eq_not, Int.reduceSub, Int.reduceNeg, Int.reduceAdd, Int.reduceMul, Int.reduceLT, Int.reduceLE, Int.reduceEq, Int.reducePow, Int.reduceToNat, sumD_map, allD_map, anyD_map, srtD_map, srtD_mapT, tupD, lstD, List.getElem?_cons_zero, List.getElem?_cons_succ, List.set_cons_zero, List.set_cons_succ, Option.some.injEq, Option.map_some, Option.map_none, Bool.false_eq_true, if_true, if_false, lot_with_ok h.hi hi ht hn, worth_of_ok l2.1 l2.2 (by rw [num_i h.hi hu]; exact ha), worth_of_ok l1.1 l1.2 (by rw [num_i h.hi hi]; exact hb)]))
theorem eqv_nat {a b : Nat} : PyData.eqv (.int (a : Nat)) (.int (b : Nat)) = decide (a = b) := by
  rw [eqv_int]; by_cases h : a = b <;> simp [h]; omega
theorem any_nat {t : Nat} : ∀ {lot : List Nat}, ((lot.map fun t => PyData.int (t : Nat)).any fun z => PyData.eqv z (.int (t : Nat))) = decide (t ∈ lot)
  | [] => rfl
  | a :: r => by
    rw [List.map_cons, List.any_cons, any_nat, eqv_nat]
    by_cases h : a = t
    · simp [h]
    · have h2 : ¬ t = a := fun e => h e.symm
      simp [h, h2]
theorem flat_nat : ∀ {lot : List Nat}, (lot.map fun t => PyData.int (t : Nat)).all flatD = true
  | [] => rfl
  | a :: r => by rw [List.map_cons, List.all_cons, flat_nat]; rfl
theorem in_lot {t : Nat} {lot : List Nat} : gIn (.int (t : Nat)) (lotD lot) = some (.bool (decide (t ∈ lot))) := by
  show (if flatD (.int (t : Nat)) = true ∧ (lot.map fun t => PyData.int (t : Nat)).all flatD = true then some ((lot.map fun t => PyData.int (t : Nat)).any fun z => PyData.eqv z (.int (t : Nat))) else none).map PyData.bool = _
  rw [if_pos ⟨rfl, flat_nat⟩, any_nat]
  rfl
theorem check_thing_ok {l : Bool} {m t : Nat} {ws : List Int} (ht : t < m) {st : Sto} {Q : DV → Sto → Prop} : Ok (f_check_thing [.im (tabD l m ws), .im (.int (t : Nat))]) st Q ↔ Q (.im .none) st := ok_eq (eq_ok (by
  unfold f_check_thing b_check_thing
  have hc : (t : Int) ≤ (m : Int) - 1 := by omega
  have h0 : (0 : Int) ≤ (t : Int) := by omega
  simp only [ok_callD, ok_bind, ok_ret, ok_some, ok_none, ok_fail, ok_ifF, ok_lif, ok_var, ok_C, ok_rdim, ok_toim, ok_bin, ok_fTst, ok_fAnd, ok_fOr, ok_fNot, ok_chn, startD, outD, fThen, fSet, fAsg, fPar, fPar3, fIfS, fRet, fDrop, fEnd, fBrk, fCnt, fNotT, fAndT, fOrT, fIf, fIsi, fIsi2, fCall, fCallK, fCons, fNil, fCa, fTup, fLst, fLstM, mkM, fApp, appV, ok_putM, get_last, set_last, take_last, gAdd_int, L2.CDiv, L2.CMul, L2.CPow, fIx, ok_ixR, ok_ixI, ok_lenR, ok_callM, fNeg, fRev, fSl, slD, cut1, fON, fOS, fYes, ok_lc, ok_lcBody, ok_for, ok_newM, wipeD, ok_seqL, ok_seqT, ok_seqR, allD_mapF, anyD_mapF, sumD_mapF, List.all_map, fSeq, fRng1, fRng2, fEnum, fZip, gtName, gtSub, gtNil, gtCons, gtTup, mkT, mkL, toDs, DL.gD, gD.rds, c1, c2, ok_lenL, ok_lenT, eq_self, DL.gSub, gMul_int, take_set, ixn20, Int.toNat_natCast, ixn21, List.set_set, gFdv, gMod, gPow, gI, gI0, gLt, gLe, gGt, gGe, gIs, gIt, isN, absD, DL.intD, max2, min2, dmod, ixD_l, ixD_t, isiD, tyD, gsel, gEq_int, gNe_int, gEq_str, gNe_str, List.map_cons, List.map_nil, List.length_cons, List.length_nil, List.cons_append, List.nil_append, List.append_nil, List.replicate_succ, List.replicate_zero, Nat.reduceAdd, Nat.reduceSub, Nat.reduceLeDiff, Nat.reduceEqDiff, List.take_length, List.length_map, List.length_append, List.take_left', List.take_append_of_le_length, Nat.le_refl, Nat.zero_add, Nat.add_zero, and_true, true_and, true_or, or_true, Int.mul_one, Int.one_mul, Nat.one_mul, Nat.mul_one, and_false, false_and, if_pos, if_neg, reduceIte, reduceCtorEq, not_true_eq_false, not_false_eq_true, Bool.not_true, Bool.not_false, beq_self_eq_true, Bool.or_true, Bool.true_or, Bool.or_false, Bool.false_or, Bool.and_true, Bool.true_and, Bool.and_false, Bool.false_and, String.reduceBEq, at0, at1, at2, at3, Int.cast_ofNat_Int, decide_true, decide_false, decide_eq_true_eq, decide_eq_false_iff_not, Bool.not_eq_true', Bool.not_eq_eq_eq_not, Int.reduceSub, Int.reduceNeg, Int.reduceAdd, Int.reduceMul, Int.reduceLT, Int.reduceLE, Int.reduceEq, Int.reducePow, Int.reduceToNat, sumD_map, allD_map, anyD_map, srtD_map, srtD_mapT, tupD, lstD, List.getElem?_cons_zero, List.getElem?_cons_succ, List.set_cons_zero, List.set_cons_succ, Option.some.injEq, Option.map_some, Option.map_none, Bool.false_eq_true, if_true, if_false, tab0, within_ok, hc, h0]))
theorem adds_ok {l : Bool} {m i t : Nat} {ws : List Int} (h : Tab m ws) (hi : i < 2 ^ m) (ht : t < m) (hn : t ∉ lt5 i) {a b : Int} (ha : ws[i + 2 ^ t]? = some a) (hb : ws[i]? = some b) {st : Sto} {Q : DV → Sto → Prop} :
    Ok (f_adds [.im (tabD l m ws), .im (lotD (lt5 i)), .im (.int (t : Nat))]) st Q ↔ Q (.im (.int (a - b))) st := ok_eq (eq_ok (by
  unfold f_adds b_adds
  simp only [ok_callD, ok_bind, ok_ret, ok_some, ok_none, ok_fail, ok_ifF, ok_lif, ok_var, ok_C, ok_rdim, ok_toim, ok_bin, ok_fTst, ok_fAnd, ok_fOr, ok_fNot, ok_chn, startD, outD, fThen, fSet, fAsg, fPar, fPar3, fIfS, fRet, fDrop, fEnd, fBrk, fCnt, fNotT, fAndT, fOrT, fIf, fIsi, fIsi2, fCall, fCallK, fCons, fNil, fCa, fTup, fLst, fLstM, mkM, fApp, appV, ok_putM, get_last, set_last, take_last, gAdd_int, L2.CDiv, L2.CMul, L2.CPow, fIx, ok_ixR, ok_ixI, ok_lenR, ok_callM, fNeg, fRev, fSl, slD, cut1, fON, fOS, fYes, ok_lc, ok_lcBody, ok_for, ok_newM, wipeD, ok_seqL, ok_seqT, ok_seqR, allD_mapF, anyD_mapF, sumD_mapF, List.all_map, fSeq, fRng1, fRng2, fEnum, fZip, gtName, gtSub, gtNil, gtCons, gtTup, mkT, mkL, toDs, DL.gD, gD.rds, c1, c2, ok_lenL, ok_lenT, eq_self, DL.gSub, gMul_int, take_set, ixn20, Int.toNat_natCast, ixn21, List.set_set, gFdv, gMod, gPow, gI, gI0, gLt, gLe, gGt, gGe, gIs, gIt, isN, absD, DL.intD, max2, min2, dmod, ixD_l, ixD_t, isiD, tyD, gsel, gEq_int, gNe_int, gEq_str, gNe_str, List.map_cons, List.map_nil, List.length_cons, List.length_nil, List.cons_append, List.nil_append, List.append_nil, List.replicate_succ, List.replicate_zero, Nat.reduceAdd, Nat.reduceSub, Nat.reduceLeDiff, Nat.reduceEqDiff, List.take_length, List.length_map, List.length_append, List.take_left', List.take_append_of_le_length, Nat.le_refl, Nat.zero_add, Nat.add_zero, and_true, true_and, true_or, or_true, Int.mul_one, Int.one_mul, Nat.one_mul, Nat.mul_one, and_false, false_and, if_pos, if_neg, reduceIte, reduceCtorEq, not_true_eq_false, not_false_eq_true, Bool.not_true, Bool.not_false, beq_self_eq_true, Bool.or_true, Bool.true_or, Bool.or_false, Bool.false_or, Bool.and_true, Bool.true_and, Bool.and_false, Bool.false_and, String.reduceBEq, at0, at1, at2, at3, Int.cast_ofNat_Int, decide_true, decide_false, decide_eq_true_eq, decide_eq_false_iff_not, Bool.not_eq_true', Bool.not_eq_eq_eq_not, Int.reduceSub, Int.reduceNeg, Int.reduceAdd, Int.reduceMul, Int.reduceLT, Int.reduceLE, Int.reduceEq, Int.reducePow, Int.reduceToNat, sumD_map, allD_map, anyD_map, srtD_map, srtD_mapT, tupD, lstD, List.getElem?_cons_zero, List.getElem?_cons_succ, List.set_cons_zero, List.set_cons_succ, Option.some.injEq, Option.map_some, Option.map_none, Bool.false_eq_true, if_true, if_false, check_table_ok h, check_lot_ok (lot_i h.hi hi), check_thing_ok ht, in_lot, hn, gain_ok h hi ht hn ha hb]))
/-! ### fractions -/
abbrev Fr := Int × Nat
def frD (p : Fr) : PyData := .tuple [.int p.1, .int (p.2 : Nat)]
def red (t : Int) (b : Nat) : Fr := (t / (Nat.gcd t.natAbs b : Nat), b / Nat.gcd t.natAbs b)
theorem abs_nat (t : Int) : (if t < 0 then -t else t) = (t.natAbs : Int) := by split <;> omega
theorem divisor_ok {a b : Nat} {st : Sto} {Q : DV → Sto → Prop} : Ok (f_divisor [.im (.int (a : Nat)), .im (.int (b : Nat))]) st Q ↔ Q (.im (.int (Nat.gcd a b : Nat))) st := ok_eq (eq_ok (by
  unfold f_divisor b_divisor
  simp only [ok_callD, ok_bind, ok_ret, ok_some, ok_none, ok_fail, ok_ifF, ok_lif, ok_var, ok_C, ok_rdim, ok_toim, ok_bin, ok_fTst, ok_fAnd, ok_fOr, ok_fNot, ok_chn, startD, outD, fThen, fSet, fAsg, fPar, fPar3, fIfS, fRet, fDrop, fEnd, fBrk, fCnt, fNotT, fAndT, fOrT, fIf, fIsi, fIsi2, fCall, fCallK, fCons, fNil, fCa, fTup, fLst, fLstM, mkM, fApp, appV, ok_putM, get_last, set_last, take_last, gAdd_int, L2.CDiv, L2.CMul, L2.CPow, fIx, ok_ixR, ok_ixI, ok_lenR, ok_callM, fNeg, fRev, fSl, slD, cut1, fON, fOS, fYes, ok_lc, ok_lcBody, ok_for, ok_newM, wipeD, ok_seqL, ok_seqT, ok_seqR, allD_mapF, anyD_mapF, sumD_mapF, List.all_map, fSeq, fRng1, fRng2, fEnum, fZip, gtName, gtSub, gtNil, gtCons, gtTup, mkT, mkL, toDs, DL.gD, gD.rds, c1, c2, ok_lenL, ok_lenT, eq_self, DL.gSub, gMul_int, take_set, ixn20, Int.toNat_natCast, ixn21, List.set_set, gFdv, gMod, gPow, gI, gI0, gLt, gLe, gGt, gGe, gIs, gIt, isN, absD, DL.intD, max2, min2, dmod, ixD_l, ixD_t, isiD, tyD, gsel, gEq_int, gNe_int, gEq_str, gNe_str, List.map_cons, List.map_nil, List.length_cons, List.length_nil, List.cons_append, List.nil_append, List.append_nil, List.replicate_succ, List.replicate_zero, Nat.reduceAdd, Nat.reduceSub, Nat.reduceLeDiff, Nat.reduceEqDiff, List.take_length, List.length_map, List.length_append, List.take_left', List.take_append_of_le_length, Nat.le_refl, Nat.zero_add, Nat.add_zero, and_true, true_and, true_or, or_true, Int.mul_one, Int.one_mul, Nat.one_mul, Nat.mul_one, and_false, false_and, if_pos, if_neg, reduceIte, reduceCtorEq, not_true_eq_false, not_false_eq_true, Bool.not_true, Bool.not_false, beq_self_eq_true, Bool.or_true, Bool.true_or, Bool.or_false, Bool.false_or, Bool.and_true, Bool.true_and, Bool.and_false, Bool.false_and, String.reduceBEq, at0, at1, at2, at3, Int.cast_ofNat_Int, decide_true, decide_false, decide_eq_true_eq, decide_eq_false_iff_not, Bool.not_eq_true', Bool.not_eq_eq_eq_not, Int.reduceSub, Int.reduceNeg, Int.reduceAdd, Int.reduceMul, Int.reduceLT, Int.reduceLE, Int.reduceEq, Int.reducePow, Int.reduceToNat, sumD_map, allD_map, anyD_map, srtD_map, srtD_mapT, tupD, lstD, List.getElem?_cons_zero, List.getElem?_cons_succ, List.set_cons_zero, List.set_cons_succ, Option.some.injEq, Option.map_some, Option.map_none, Bool.false_eq_true, if_true, if_false]
  refine ok_while (fun m env s => ∃ x : Nat, env = [some (.im (.int (x : Nat))), some (.im (.int (m : Nat)))] ∧ s = st ∧ Nat.gcd x m = Nat.gcd a b) ?_ (m := b) ⟨a, rfl, rfl, rfl⟩
  rintro m env s ⟨x, rfl, rfl, hg⟩
  by_cases h0 : m = 0
  · subst h0
    rw [Nat.gcd_zero_right] at hg
    simp only [ok_callD, ok_bind, ok_ret, ok_some, ok_none, ok_fail, ok_ifF, ok_lif, ok_var, ok_C, ok_rdim, ok_toim, ok_bin, ok_fTst, ok_fAnd, ok_fOr, ok_fNot, ok_chn, startD, outD, fThen, fSet, fAsg, fPar, fPar3, fIfS, fRet, fDrop, fEnd, fBrk, fCnt, fNotT, fAndT, fOrT, fIf, fIsi, fIsi2, fCall, fCallK, fCons, fNil, fCa, fTup, fLst, fLstM, mkM, fApp, appV, ok_putM, get_last, set_last, take_last, gAdd_int, L2.CDiv, L2.CMul, L2.CPow, fIx, ok_ixR, ok_ixI, ok_lenR, ok_callM, fNeg, fRev, fSl, slD, cut1, fON, fOS, fYes, ok_lc, ok_lcBody, ok_for, ok_newM, wipeD, ok_seqL, ok_seqT, ok_seqR, allD_mapF, anyD_mapF, sumD_mapF, List.all_map, fSeq, fRng1, fRng2, fEnum, fZip, gtName, gtSub, gtNil, gtCons, gtTup, mkT, mkL, toDs, DL.gD, gD.rds, c1, c2, ok_lenL, ok_lenT, eq_self, DL.gSub, gMul_int, take_set, ixn20, Int.toNat_natCast, ixn21, List.set_set, gFdv, gMod, gPow, gI, gI0, gLt, gLe, gGt, gGe, gIs, gIt, isN, absD, DL.intD, max2, min2, dmod, ixD_l, ixD_t, isiD, tyD, gsel, gEq_int, gNe_int, gEq_str, gNe_str, List.map_cons, List.map_nil, List.length_cons, List.length_nil, List.cons_append, List.nil_append, List.append_nil, List.replicate_succ, List.replicate_zero, Nat.reduceAdd, Nat.reduceSub, Nat.reduceLeDiff, Nat.reduceEqDiff, List.take_length, List.length_map, List.length_append, List.take_left', List.take_append_of_le_length, Nat.le_refl, Nat.zero_add, Nat.add_zero, and_true, true_and, true_or, or_true, Int.mul_one, Int.one_mul, Nat.one_mul, Nat.mul_one, and_false, false_and, if_pos, if_neg, reduceIte, reduceCtorEq, not_true_eq_false, not_false_eq_true, Bool.not_true, Bool.not_false, beq_self_eq_true, Bool.or_true, Bool.true_or, Bool.or_false, Bool.false_or, Bool.and_true, Bool.true_and, Bool.and_false, Bool.false_and, String.reduceBEq, at0, at1, at2, at3, Int.cast_ofNat_Int, decide_true, decide_false, decide_eq_true_eq, decide_eq_false_iff_not, Bool.not_eq_true', Bool.not_eq_eq_eq_not, Int.reduceSub, Int.reduceNeg, Int.reduceAdd, Int.reduceMul, Int.reduceLT, Int.reduceLE, Int.reduceEq, Int.reducePow, Int.reduceToNat, sumD_map, allD_map, anyD_map, srtD_map, srtD_mapT, tupD, lstD, List.getElem?_cons_zero, List.getElem?_cons_succ, List.set_cons_zero, List.set_cons_succ, Option.some.injEq, Option.map_some, Option.map_none, Bool.false_eq_true, if_true, if_false, hg]
  · have p1 : (0 : Int) < (m : Int) := by omega
    have e2 : (x : Int) % (m : Int) = ((x % m : Nat) : Int) := by omega
    simp only [ok_callD, ok_bind, ok_ret, ok_some, ok_none, ok_fail, ok_ifF, ok_lif, ok_var, ok_C, ok_rdim, ok_toim, ok_bin, ok_fTst, ok_fAnd, ok_fOr, ok_fNot, ok_chn, startD, outD, fThen, fSet, fAsg, fPar, fPar3, fIfS, fRet, fDrop, fEnd, fBrk, fCnt, fNotT, fAndT, fOrT, fIf, fIsi, fIsi2, fCall, fCallK, fCons, fNil, fCa, fTup, fLst, fLstM, mkM, fApp, appV, ok_putM, get_last, set_last, take_last, gAdd_int, L2.CDiv, L2.CMul, L2.CPow, fIx, ok_ixR, ok_ixI, ok_lenR, ok_callM, fNeg, fRev, fSl, slD, cut1, fON, fOS, fYes, ok_lc, ok_lcBody, ok_for, ok_newM, wipeD, ok_seqL, ok_seqT, ok_seqR, allD_mapF, anyD_mapF, sumD_mapF, List.all_map, fSeq, fRng1, fRng2, fEnum, fZip, gtName, gtSub, gtNil, gtCons, gtTup, mkT, mkL, toDs, DL.gD, gD.rds, c1, c2, ok_lenL, ok_lenT, eq_self, DL.gSub, gMul_int, take_set, ixn20, Int.toNat_natCast, ixn21, List.set_set, gFdv, gMod, gPow, gI, gI0, gLt, gLe, gGt, gGe, gIs, gIt, isN, absD, DL.intD, max2, min2, dmod, ixD_l, ixD_t, isiD, tyD, gsel, gEq_int, gNe_int, gEq_str, gNe_str, List.map_cons, List.map_nil, List.length_cons, List.length_nil, List.cons_append, List.nil_append, List.append_nil, List.replicate_succ, List.replicate_zero, Nat.reduceAdd, Nat.reduceSub, Nat.reduceLeDiff, Nat.reduceEqDiff, List.take_length, List.length_map, List.length_append, List.take_left', List.take_append_of_le_length, Nat.le_refl, Nat.zero_add, Nat.add_zero, and_true, true_and, true_or, or_true, Int.mul_one, Int.one_mul, Nat.one_mul, Nat.mul_one, and_false, false_and, if_pos, if_neg, reduceIte, reduceCtorEq, not_true_eq_false, not_false_eq_true, Bool.not_true, Bool.not_false, beq_self_eq_true, Bool.or_true, Bool.true_or, Bool.or_false, Bool.false_or, Bool.and_true, Bool.true_and, Bool.and_false, Bool.false_and, String.reduceBEq, at0, at1, at2, at3, Int.cast_ofNat_Int, decide_true, decide_false, decide_eq_true_eq, decide_eq_false_iff_not, Bool.not_eq_true', Bool.not_eq_eq_eq_not, Int.reduceSub, Int.reduceNeg, Int.reduceAdd, Int.reduceMul, Int.reduceLT, Int.reduceLE, Int.reduceEq, Int.reducePow, Int.reduceToNat, sumD_map, allD_map, anyD_map, srtD_map, srtD_mapT, tupD, lstD, List.getElem?_cons_zero, List.getElem?_cons_succ, List.set_cons_zero, List.set_cons_succ, Option.some.injEq, Option.map_some, Option.map_none, Bool.false_eq_true, if_true, if_false, p1, e2]
    exact ⟨x % m, Nat.mod_lt _ (by omega), m, rfl, by rw [← hg, Nat.gcd_comm x m, Nat.gcd_rec m x, Nat.gcd_comm]⟩))
theorem gcd_pos {t : Int} {b : Nat} (hb : 0 < b) : 0 < Nat.gcd t.natAbs b ∧ Nat.gcd t.natAbs b ≤ b := ⟨Nat.gcd_pos_of_pos_right _ hb, Nat.gcd_le_right _ hb⟩
theorem reduced_ok {t : Int} {b : Nat} (hb : 0 < b) (hb2 : b < 1073741824) {st : Sto} {Q : DV → Sto → Prop} : Ok (f_reduced [.im (.int t), .im (.int (b : Nat))]) st Q ↔ Q (.im (frD (red t b))) st := ok_eq (eq_ok (by
  unfold f_reduced b_reduced
  have n0 : ¬ (b : Int) < 0 := by omega
  obtain ⟨g1, g2⟩ := gcd_pos (t := t) hb
  have p1 : (0 : Int) < (Nat.gcd t.natAbs b : Nat) := by omega
  have p2 : ((Nat.gcd t.natAbs b : Nat) : Int) < 1073741824 := by omega
  have e3 : (b : Int) / ((Nat.gcd t.natAbs b : Nat) : Int) = ((b / Nat.gcd t.natAbs b : Nat) : Int) := by omega
  simp only [ok_callD, ok_bind, ok_ret, ok_some, ok_none, ok_fail, ok_ifF, ok_lif, ok_var, ok_C, ok_rdim, ok_toim, ok_bin, ok_fTst, ok_fAnd, ok_fOr, ok_fNot, ok_chn, startD, outD, fThen, fSet, fAsg, fPar, fPar3, fIfS, fRet, fDrop, fEnd, fBrk, fCnt, fNotT, fAndT, fOrT, fIf, fIsi, fIsi2, fCall, fCallK, fCons, fNil, fCa, fTup, fLst, fLstM, mkM, fApp, appV, ok_putM, get_last, set_last, take_last, gAdd_int, L2.CDiv, L2.CMul, L2.CPow, fIx, ok_ixR, ok_ixI, ok_lenR, ok_callM, fNeg, fRev, fSl, slD, cut1, fON, fOS, fYes, ok_lc, ok_lcBody, ok_for, ok_newM, wipeD, ok_seqL, ok_seqT, ok_seqR, allD_mapF, anyD_mapF, sumD_mapF, List.all_map, fSeq, fRng1, fRng2, fEnum, fZip, gtName, gtSub, gtNil, gtCons, gtTup, mkT, mkL, toDs, DL.gD, gD.rds, c1, c2, ok_lenL, ok_lenT, eq_self, DL.gSub, gMul_int, take_set, ixn20, Int.toNat_natCast, ixn21, List.set_set, gFdv, gMod, gPow, gI, gI0, gLt, gLe, gGt, gGe, gIs, gIt, isN, absD, DL.intD, max2, min2, dmod, ixD_l, ixD_t, isiD, tyD, gsel, gEq_int, gNe_int, gEq_str, gNe_str, List.map_cons, List.map_nil, List.length_cons, List.length_nil, List.cons_append, List.nil_append, List.append_nil, List.replicate_succ, List.replicate_zero, Nat.reduceAdd, Nat.reduceSub, Nat.reduceLeDiff, Nat.reduceEqDiff, List.take_length, List.length_map, List.length_append, List.take_left', List.take_append_of_le_length, Nat.le_refl, Nat.zero_add, Nat.add_zero, and_true, true_and, true_or, or_true, Int.mul_one, Int.one_mul, Nat.one_mul, Nat.mul_one, and_false, false_and, if_pos, if_neg, reduceIte, reduceCtorEq, not_true_eq_false, not_false_eq_true, Bool.not_true, Bool.not_false, beq_self_eq_true, Bool.or_true, Bool.true_or, Bool.or_false, Bool.false_or, Bool.and_true, Bool.true_and, Bool.and_false, Bool.false_and, String.reduceBEq, at0, at1, at2, at3, Int.cast_ofNat_Int, decide_true, decide_false, decide_eq_true_eq, decide_eq_false_iff_not, Bool.not_eq_true', Bool.not_eq_eq_eq_not, Int.reduceSub, Int.reduceNeg, Int.reduceAdd, Int.reduceMul, Int.reduceLT, Int.reduceLE, Int.reduceEq, Int.reducePow, Int.reduceToNat, sumD_map, allD_map, anyD_map, srtD_map, srtD_mapT, tupD, lstD, List.getElem?_cons_zero, List.getElem?_cons_succ, List.set_cons_zero, List.set_cons_succ, Option.some.injEq, Option.map_some, Option.map_none, Bool.false_eq_true, if_true, if_false, n0, abs_nat, divisor_ok, p1, p2, e3, frD, red]))
theorem red_scale {t : Int} {b k : Nat} (hk : 0 < k) : red (t * k) (b * k) = red t b := by
  unfold red
  have e1 : (t * (k : Int)).natAbs = t.natAbs * k := by rw [Int.natAbs_mul]; rfl
  have e2 : Nat.gcd (t.natAbs * k) (b * k) = Nat.gcd t.natAbs b * k := Nat.gcd_mul_right _ _ _
  have hk' : (0 : Int) < (k : Int) := by omega
  rw [e1, e2]
  congr 1
  · push_cast
    exact Int.mul_ediv_mul_of_pos_left t _ hk'
  · exact Nat.mul_div_mul_right _ _ hk
theorem red_ok {t : Int} {b : Nat} (hb : 0 < b) : 0 < (red t b).2 ∧ (red t b).2 ≤ b ∧ Nat.gcd (red t b).1.natAbs (red t b).2 = 1 ∧ (red t b).1.natAbs ≤ t.natAbs ∧ (red t b).1 * (Nat.gcd t.natAbs b : Nat) = t ∧ (red t b).2 * Nat.gcd t.natAbs b = b := by
  obtain ⟨g1, g2⟩ := gcd_pos (t := t) hb
  have d1 : ((Nat.gcd t.natAbs b : Nat) : Int) ∣ t := Int.ofNat_dvd_left.mpr (Nat.gcd_dvd_left _ _)
  have d2 := Nat.gcd_dvd_right t.natAbs b
  have m1 : (red t b).1 * (Nat.gcd t.natAbs b : Nat) = t := Int.ediv_mul_cancel d1
  have m2 : (red t b).2 * Nat.gcd t.natAbs b = b := Nat.div_mul_cancel d2
  have a1 : (red t b).1.natAbs = t.natAbs / Nat.gcd t.natAbs b := by
    unfold red
    rw [Int.natAbs_ediv_of_dvd d1]
    rfl
  refine ⟨Nat.div_pos g2 g1, Nat.div_le_self _ _, ?_, ?_, m1, m2⟩
  · rw [a1]
    show Nat.gcd (t.natAbs / _) (b / _) = 1
    rw [Nat.gcd_div (Nat.gcd_dvd_left _ _) d2, Nat.div_self g1]
  · rw [a1]; exact Nat.div_le_self _ _
/-! ### prices -/
structure Pr (p : Fr) : Prop where
  pos : 1 ≤ p.2
  six : p.2 ≤ 6
  top : p.1.natAbs ≤ 20
  low : Nat.gcd p.1.natAbs p.2 = 1
theorem fraction_ok {p : Fr} (h : Pr p) {st : Sto} {Q : DV → Sto → Prop} : Ok (f_is_fraction_of [.im (frD p)]) st Q ↔ Q (.im (.bool true)) st := ok_eq (eq_ok (by
  unfold f_is_fraction_of b_is_fraction_of frD
  have h1 : (1 : Int) ≤ (p.2 : Int) := by have := h.pos; omega
  simp only [ok_callD, ok_bind, ok_ret, ok_some, ok_none, ok_fail, ok_ifF, ok_lif, ok_var, ok_C, ok_rdim, ok_toim, ok_bin, ok_fTst, ok_fAnd, ok_fOr, ok_fNot, ok_chn, startD, outD, fThen, fSet, fAsg, fPar, fPar3, fIfS, fRet, fDrop, fEnd, fBrk, fCnt, fNotT, fAndT, fOrT, fIf, fIsi, fIsi2, fCall, fCallK, fCons, fNil, fCa, fTup, fLst, fLstM, mkM, fApp, appV, ok_putM, get_last, set_last, take_last, gAdd_int, L2.CDiv, L2.CMul, L2.CPow, fIx, ok_ixR, ok_ixI, ok_lenR, ok_callM, fNeg, fRev, fSl, slD, cut1, fON, fOS, fYes, ok_lc, ok_lcBody, ok_for, ok_newM, wipeD, ok_seqL, ok_seqT, ok_seqR, allD_mapF, anyD_mapF, sumD_mapF, List.all_map, fSeq, fRng1, fRng2, fEnum, fZip, gtName, gtSub, gtNil, gtCons, gtTup, mkT, mkL, toDs, DL.gD, gD.rds, c1, c2, ok_lenL, ok_lenT, eq_self, DL.gSub, gMul_int, take_set, ixn20, Int.toNat_natCast, ixn21, List.set_set, gFdv, gMod, gPow, gI, gI0, gLt, gLe, gGt, gGe, gIs, gIt, isN, absD, DL.intD, max2, min2, dmod, ixD_l, ixD_t, isiD, tyD, gsel, gEq_int, gNe_int, gEq_str, gNe_str, List.map_cons, List.map_nil, List.length_cons, List.length_nil, List.cons_append, List.nil_append, List.append_nil, List.replicate_succ, List.replicate_zero, Nat.reduceAdd, Nat.reduceSub, Nat.reduceLeDiff, Nat.reduceEqDiff, List.take_length, List.length_map, List.length_append, List.take_left', List.take_append_of_le_length, Nat.le_refl, Nat.zero_add, Nat.add_zero, and_true, true_and, true_or, or_true, Int.mul_one, Int.one_mul, Nat.one_mul, Nat.mul_one, and_false, false_and, if_pos, if_neg, reduceIte, reduceCtorEq, not_true_eq_false, not_false_eq_true, Bool.not_true, Bool.not_false, beq_self_eq_true, Bool.or_true, Bool.true_or, Bool.or_false, Bool.false_or, Bool.and_true, Bool.true_and, Bool.and_false, Bool.false_and, String.reduceBEq, at0, at1, at2, at3, Int.cast_ofNat_Int, decide_true, decide_false, decide_eq_true_eq, decide_eq_false_iff_not, Bool.not_eq_true', Bool.not_eq_eq_eq_not, Int.reduceSub, Int.reduceNeg, Int.reduceAdd, Int.reduceMul, Int.reduceLT, Int.reduceLE, Int.reduceEq, Int.reducePow, Int.reduceToNat, sumD_map, allD_map, anyD_map, srtD_map, srtD_mapT, tupD, lstD, List.getElem?_cons_zero, List.getElem?_cons_succ, List.set_cons_zero, List.set_cons_succ, Option.some.injEq, Option.map_some, Option.map_none, Bool.false_eq_true, if_true, if_false, integer_ok, abs_nat, divisor_ok, h.low, h1]))
theorem short_ok {p : Fr} (h : Pr p) {st : Sto} {Q : DV → Sto → Prop} : Ok (f_is_short [.im (frD p)]) st Q ↔ Q (.im (.bool true)) st := ok_eq (eq_ok (by
  unfold f_is_short b_is_short
  have h1 : (p.1.natAbs : Int) < 1000000000000 := by have := h.top; omega
  have h2 : (p.2 : Int) < 1000000000000 := by have := h.six; omega
  simp only [ok_callD, ok_bind, ok_ret, ok_some, ok_none, ok_fail, ok_ifF, ok_lif, ok_var, ok_C, ok_rdim, ok_toim, ok_bin, ok_fTst, ok_fAnd, ok_fOr, ok_fNot, ok_chn, startD, outD, fThen, fSet, fAsg, fPar, fPar3, fIfS, fRet, fDrop, fEnd, fBrk, fCnt, fNotT, fAndT, fOrT, fIf, fIsi, fIsi2, fCall, fCallK, fCons, fNil, fCa, fTup, fLst, fLstM, mkM, fApp, appV, ok_putM, get_last, set_last, take_last, gAdd_int, L2.CDiv, L2.CMul, L2.CPow, fIx, ok_ixR, ok_ixI, ok_lenR, ok_callM, fNeg, fRev, fSl, slD, cut1, fON, fOS, fYes, ok_lc, ok_lcBody, ok_for, ok_newM, wipeD, ok_seqL, ok_seqT, ok_seqR, allD_mapF, anyD_mapF, sumD_mapF, List.all_map, fSeq, fRng1, fRng2, fEnum, fZip, gtName, gtSub, gtNil, gtCons, gtTup, mkT, mkL, toDs, DL.gD, gD.rds, c1, c2, ok_lenL, ok_lenT, eq_self, DL.gSub, gMul_int, take_set, ixn20, Int.toNat_natCast, ixn21, List.set_set, gFdv, gMod, gPow, gI, gI0, gLt, gLe, gGt, gGe, gIs, gIt, isN, absD, DL.intD, max2, min2, dmod, ixD_l, ixD_t, isiD, tyD, gsel, gEq_int, gNe_int, gEq_str, gNe_str, List.map_cons, List.map_nil, List.length_cons, List.length_nil, List.cons_append, List.nil_append, List.append_nil, List.replicate_succ, List.replicate_zero, Nat.reduceAdd, Nat.reduceSub, Nat.reduceLeDiff, Nat.reduceEqDiff, List.take_length, List.length_map, List.length_append, List.take_left', List.take_append_of_le_length, Nat.le_refl, Nat.zero_add, Nat.add_zero, and_true, true_and, true_or, or_true, Int.mul_one, Int.one_mul, Nat.one_mul, Nat.mul_one, and_false, false_and, if_pos, if_neg, reduceIte, reduceCtorEq, not_true_eq_false, not_false_eq_true, Bool.not_true, Bool.not_false, beq_self_eq_true, Bool.or_true, Bool.true_or, Bool.or_false, Bool.false_or, Bool.and_true, Bool.true_and, Bool.and_false, Bool.false_and, String.reduceBEq, at0, at1, at2, at3, Int.cast_ofNat_Int, decide_true, decide_false, decide_eq_true_eq, decide_eq_false_iff_not, Bool.not_eq_true', Bool.not_eq_eq_eq_not, Int.reduceSub, Int.reduceNeg, Int.reduceAdd, Int.reduceMul, Int.reduceLT, Int.reduceLE, Int.reduceEq, Int.reducePow, Int.reduceToNat, sumD_map, allD_map, anyD_map, srtD_map, srtD_mapT, tupD, lstD, List.getElem?_cons_zero, List.getElem?_cons_succ, List.set_cons_zero, List.set_cons_succ, Option.some.injEq, Option.map_some, Option.map_none, Bool.false_eq_true, if_true, if_false, fraction_ok h]
  unfold frD
  simp only [ok_callD, ok_bind, ok_ret, ok_some, ok_none, ok_fail, ok_ifF, ok_lif, ok_var, ok_C, ok_rdim, ok_toim, ok_bin, ok_fTst, ok_fAnd, ok_fOr, ok_fNot, ok_chn, startD, outD, fThen, fSet, fAsg, fPar, fPar3, fIfS, fRet, fDrop, fEnd, fBrk, fCnt, fNotT, fAndT, fOrT, fIf, fIsi, fIsi2, fCall, fCallK, fCons, fNil, fCa, fTup, fLst, fLstM, mkM, fApp, appV, ok_putM, get_last, set_last, take_last, gAdd_int, L2.CDiv, L2.CMul, L2.CPow, fIx, ok_ixR, ok_ixI, ok_lenR, ok_callM, fNeg, fRev, fSl, slD, cut1, fON, fOS, fYes, ok_lc, ok_lcBody, ok_for, ok_newM, wipeD, ok_seqL, ok_seqT, ok_seqR, allD_mapF, anyD_mapF, sumD_mapF, List.all_map, fSeq, fRng1, fRng2, fEnum, fZip, gtName, gtSub, gtNil, gtCons, gtTup, mkT, mkL, toDs, DL.gD, gD.rds, c1, c2, ok_lenL, ok_lenT, eq_self, DL.gSub, gMul_int, take_set, ixn20, Int.toNat_natCast, ixn21, List.set_set, gFdv, gMod, gPow, gI, gI0, gLt, gLe, gGt, gGe, gIs, gIt, isN, absD, DL.intD, max2, min2, dmod, ixD_l, ixD_t, isiD, tyD, gsel, gEq_int, gNe_int, gEq_str, gNe_str, List.map_cons, List.map_nil, List.length_cons, List.length_nil, List.cons_append, List.nil_append, List.append_nil, List.replicate_succ, List.replicate_zero, Nat.reduceAdd, Nat.reduceSub, Nat.reduceLeDiff, Nat.reduceEqDiff, List.take_length, List.length_map, List.length_append, List.take_left', List.take_append_of_le_length, Nat.le_refl, Nat.zero_add, Nat.add_zero, and_true, true_and, true_or, or_true, Int.mul_one, Int.one_mul, Nat.one_mul, Nat.mul_one, and_false, false_and, if_pos, if_neg, reduceIte, reduceCtorEq, not_true_eq_false, not_false_eq_true, Bool.not_true, Bool.not_false, beq_self_eq_true, Bool.or_true, Bool.true_or, Bool.or_false, Bool.false_or, Bool.and_true, Bool.true_and, Bool.and_false, Bool.false_and, String.reduceBEq, at0, at1, at2, at3, Int.cast_ofNat_Int, decide_true, decide_false, decide_eq_true_eq, decide_eq_false_iff_not, Bool.not_eq_true', Bool.not_eq_eq_eq_not, Int.reduceSub, Int.reduceNeg, Int.reduceAdd, Int.reduceMul, Int.reduceLT, Int.reduceLE, Int.reduceEq, Int.reducePow, Int.reduceToNat, sumD_map, allD_map, anyD_map, srtD_map, srtD_mapT, tupD, lstD, List.getElem?_cons_zero, List.getElem?_cons_succ, List.set_cons_zero, List.set_cons_succ, Option.some.injEq, Option.map_some, Option.map_none, Bool.false_eq_true, if_true, if_false, abs_nat, h1, h2]))
theorem below_ok {p : Fr} (h : Pr p) {st : Sto} {Q : DV → Sto → Prop} : Ok (f_is_below [.im (.tuple [.int 999, .int 1]), .im (.tuple [.int p.1.natAbs, .int (p.2 : Nat)])]) st Q ↔ Q (.im (.bool false)) st := ok_eq (eq_ok (by
  unfold f_is_below b_is_below
  have h1 := h.top
  have h2 := h.pos
  have h3 : ¬ (999 * (p.2 : Int) < (p.1.natAbs : Int)) := by omega
  simp only [ok_callD, ok_bind, ok_ret, ok_some, ok_none, ok_fail, ok_ifF, ok_lif, ok_var, ok_C, ok_rdim, ok_toim, ok_bin, ok_fTst, ok_fAnd, ok_fOr, ok_fNot, ok_chn, startD, outD, fThen, fSet, fAsg, fPar, fPar3, fIfS, fRet, fDrop, fEnd, fBrk, fCnt, fNotT, fAndT, fOrT, fIf, fIsi, fIsi2, fCall, fCallK, fCons, fNil, fCa, fTup, fLst, fLstM, mkM, fApp, appV, ok_putM, get_last, set_last, take_last, gAdd_int, L2.CDiv, L2.CMul, L2.CPow, fIx, ok_ixR, ok_ixI, ok_lenR, ok_callM, fNeg, fRev, fSl, slD, cut1, fON, fOS, fYes, ok_lc, ok_lcBody, ok_for, ok_newM, wipeD, ok_seqL, ok_seqT, ok_seqR, allD_mapF, anyD_mapF, sumD_mapF, List.all_map, fSeq, fRng1, fRng2, fEnum, fZip, gtName, gtSub, gtNil, gtCons, gtTup, mkT, mkL, toDs, DL.gD, gD.rds, c1, c2, ok_lenL, ok_lenT, eq_self, DL.gSub, gMul_int, take_set, ixn20, Int.toNat_natCast, ixn21, List.set_set, gFdv, gMod, gPow, gI, gI0, gLt, gLe, gGt, gGe, gIs, gIt, isN, absD, DL.intD, max2, min2, dmod, ixD_l, ixD_t, isiD, tyD, gsel, gEq_int, gNe_int, gEq_str, gNe_str, List.map_cons, List.map_nil, List.length_cons, List.length_nil, List.cons_append, List.nil_append, List.append_nil, List.replicate_succ, List.replicate_zero, Nat.reduceAdd, Nat.reduceSub, Nat.reduceLeDiff, Nat.reduceEqDiff, List.take_length, List.length_map, List.length_append, List.take_left', List.take_append_of_le_length, Nat.le_refl, Nat.zero_add, Nat.add_zero, and_true, true_and, true_or, or_true, Int.mul_one, Int.one_mul, Nat.one_mul, Nat.mul_one, and_false, false_and, if_pos, if_neg, reduceIte, reduceCtorEq, not_true_eq_false, not_false_eq_true, Bool.not_true, Bool.not_false, beq_self_eq_true, Bool.or_true, Bool.true_or, Bool.or_false, Bool.false_or, Bool.and_true, Bool.true_and, Bool.and_false, Bool.false_and, String.reduceBEq, at0, at1, at2, at3, Int.cast_ofNat_Int, decide_true, decide_false, decide_eq_true_eq, decide_eq_false_iff_not, Bool.not_eq_true', Bool.not_eq_eq_eq_not, Int.reduceSub, Int.reduceNeg, Int.reduceAdd, Int.reduceMul, Int.reduceLT, Int.reduceLE, Int.reduceEq, Int.reducePow, Int.reduceToNat, sumD_map, allD_map, anyD_map, srtD_map, srtD_mapT, tupD, lstD, List.getElem?_cons_zero, List.getElem?_cons_succ, List.set_cons_zero, List.set_cons_succ, Option.some.injEq, Option.map_some, Option.map_none, Bool.false_eq_true, if_true, if_false, h3]))
theorem prices_ok {l : Bool} {m : Nat} {ps : List Fr} (hm : ps.length = m) (hm5 : m ≤ 5) (h : ∀ p ∈ ps, Pr p) {st : Sto} {Q : DV → Sto → Prop} : Ok (f_check_prices [.im (.int (m : Nat)), .im (seqD l (ps.map frD))]) st Q ↔ Q (.im .none) st := ok_eq (eq_ok (by
  have hz : ps.length ≤ 1000 := by omega
  have ar : ∀ {st : Sto} {Q : DV → Sto → Prop}, Ok (f_are_prices_of [.im (.int (m : Nat)), .im (seqD l (ps.map frD))]) st Q ↔ Q (.im (.bool true)) st := ok_eq (eq_ok (by
    unfold f_are_prices_of b_are_prices_of
    simp only [ok_callD, ok_bind, ok_ret, ok_some, ok_none, ok_fail, ok_ifF, ok_lif, ok_var, ok_C, ok_rdim, ok_toim, ok_bin, ok_fTst, ok_fAnd, ok_fOr, ok_fNot, ok_chn, startD, outD, fThen, fSet, fAsg, fPar, fPar3, fIfS, fRet, fDrop, fEnd, fBrk, fCnt, fNotT, fAndT, fOrT, fIf, fIsi, fIsi2, fCall, fCallK, fCons, fNil, fCa, fTup, fLst, fLstM, mkM, fApp, appV, ok_putM, get_last, set_last, take_last, gAdd_int, L2.CDiv, L2.CMul, L2.CPow, fIx, ok_ixR, ok_ixI, ok_lenR, ok_callM, fNeg, fRev, fSl, slD, cut1, fON, fOS, fYes, ok_lc, ok_lcBody, ok_for, ok_newM, wipeD, ok_seqL, ok_seqT, ok_seqR, allD_mapF, anyD_mapF, sumD_mapF, List.all_map, fSeq, fRng1, fRng2, fEnum, fZip, gtName, gtSub, gtNil, gtCons, gtTup, mkT, mkL, toDs, DL.gD, gD.rds, c1, c2, ok_lenL, ok_lenT, eq_self, DL.gSub, gMul_int, take_set, ixn20, Int.toNat_natCast, ixn21, List.set_set, gFdv, gMod, gPow, gI, gI0, gLt, gLe, gGt, gGe, gIs, gIt, isN, absD, DL.intD, max2, min2, dmod, ixD_l, ixD_t, isiD, tyD, gsel, gEq_int, gNe_int, gEq_str, gNe_str, List.map_cons, List.map_nil, List.length_cons, List.length_nil, List.cons_append, List.nil_append, List.append_nil, List.replicate_succ, List.replicate_zero, Nat.reduceAdd, Nat.reduceSub, Nat.reduceLeDiff, Nat.reduceEqDiff, List.take_length, List.length_map, List.length_append, List.take_left', List.take_append_of_le_length, Nat.le_refl, Nat.zero_add, Nat.add_zero, and_true, true_and, true_or, or_true, Int.mul_one, Int.one_mul, Nat.one_mul, Nat.mul_one, and_false, false_and, if_pos, if_neg, reduceIte, reduceCtorEq, not_true_eq_false, not_false_eq_true, Bool.not_true, Bool.not_false, beq_self_eq_true, Bool.or_true, Bool.true_or, Bool.or_false, Bool.false_or, Bool.and_true, Bool.true_and, Bool.and_false, Bool.false_and, String.reduceBEq, at0, at1, at2, at3, Int.cast_ofNat_Int, decide_true, decide_false, decide_eq_true_eq, decide_eq_false_iff_not, Bool.not_eq_true', Bool.not_eq_eq_eq_not, Int.reduceSub, Int.reduceNeg, Int.reduceAdd, Int.reduceMul, Int.reduceLT, Int.reduceLE, Int.reduceEq, Int.reducePow, Int.reduceToNat, sumD_map, allD_map, anyD_map, srtD_map, srtD_mapT, tupD, lstD, List.getElem?_cons_zero, List.getElem?_cons_succ, List.set_cons_zero, List.set_cons_succ, Option.some.injEq, Option.map_some, Option.map_none, Bool.false_eq_true, if_true, if_false, seq_ok, len_seq, hm, walk_seq]
    refine (ok_eq (lc_mapA frD (fun _ => PyData.bool true) ps fun p hp => ?_)).mpr ?_
    · simp only [ok_callD, ok_bind, ok_ret, ok_some, ok_none, ok_fail, ok_ifF, ok_lif, ok_var, ok_C, ok_rdim, ok_toim, ok_bin, ok_fTst, ok_fAnd, ok_fOr, ok_fNot, ok_chn, startD, outD, fThen, fSet, fAsg, fPar, fPar3, fIfS, fRet, fDrop, fEnd, fBrk, fCnt, fNotT, fAndT, fOrT, fIf, fIsi, fIsi2, fCall, fCallK, fCons, fNil, fCa, fTup, fLst, fLstM, mkM, fApp, appV, ok_putM, get_last, set_last, take_last, gAdd_int, L2.CDiv, L2.CMul, L2.CPow, fIx, ok_ixR, ok_ixI, ok_lenR, ok_callM, fNeg, fRev, fSl, slD, cut1, fON, fOS, fYes, ok_lc, ok_lcBody, ok_for, ok_newM, wipeD, ok_seqL, ok_seqT, ok_seqR, allD_mapF, anyD_mapF, sumD_mapF, List.all_map, fSeq, fRng1, fRng2, fEnum, fZip, gtName, gtSub, gtNil, gtCons, gtTup, mkT, mkL, toDs, DL.gD, gD.rds, c1, c2, ok_lenL, ok_lenT, eq_self, DL.gSub, gMul_int, take_set, ixn20, Int.toNat_natCast, ixn21, List.set_set, gFdv, gMod, gPow, gI, gI0, gLt, gLe, gGt, gGe, gIs, gIt, isN, absD, DL.intD, max2, min2, dmod, ixD_l, ixD_t, isiD, tyD, gsel, gEq_int, gNe_int, gEq_str, gNe_str, List.map_cons, List.map_nil, List.length_cons, List.length_nil, List.cons_append, List.nil_append, List.append_nil, List.replicate_succ, List.replicate_zero, Nat.reduceAdd, Nat.reduceSub, Nat.reduceLeDiff, Nat.reduceEqDiff, List.take_length, List.length_map, List.length_append, List.take_left', List.take_append_of_le_length, Nat.le_refl, Nat.zero_add, Nat.add_zero, and_true, true_and, true_or, or_true, Int.mul_one, Int.one_mul, Nat.one_mul, Nat.mul_one, and_false, false_and, if_pos, if_neg, reduceIte, reduceCtorEq, not_true_eq_false, not_false_eq_true, Bool.not_true, Bool.not_false, beq_self_eq_true, Bool.or_true, Bool.true_or, Bool.or_false, Bool.false_or, Bool.and_true, Bool.true_and, Bool.and_false, Bool.false_and, String.reduceBEq, at0, at1, at2, at3, Int.cast_ofNat_Int, decide_true, decide_false, decide_eq_true_eq, decide_eq_false_iff_not, Bool.not_eq_true', Bool.not_eq_eq_eq_not, Int.reduceSub, Int.reduceNeg, Int.reduceAdd, Int.reduceMul, Int.reduceLT, Int.reduceLE, Int.reduceEq, Int.reducePow, Int.reduceToNat, sumD_map, allD_map, anyD_map, srtD_map, srtD_mapT, tupD, lstD, List.getElem?_cons_zero, List.getElem?_cons_succ, List.set_cons_zero, List.set_cons_succ, Option.some.injEq, Option.map_some, Option.map_none, Bool.false_eq_true, if_true, if_false, fraction_ok (h p hp)]
    · simp only [ok_callD, ok_bind, ok_ret, ok_some, ok_none, ok_fail, ok_ifF, ok_lif, ok_var, ok_C, ok_rdim, ok_toim, ok_bin, ok_fTst, ok_fAnd, ok_fOr, ok_fNot, ok_chn, startD, outD, fThen, fSet, fAsg, fPar, fPar3, fIfS, fRet, fDrop, fEnd, fBrk, fCnt, fNotT, fAndT, fOrT, fIf, fIsi, fIsi2, fCall, fCallK, fCons, fNil, fCa, fTup, fLst, fLstM, mkM, fApp, appV, ok_putM, get_last, set_last, take_last, gAdd_int, L2.CDiv, L2.CMul, L2.CPow, fIx, ok_ixR, ok_ixI, ok_lenR, ok_callM, fNeg, fRev, fSl, slD, cut1, fON, fOS, fYes, ok_lc, ok_lcBody, ok_for, ok_newM, wipeD, ok_seqL, ok_seqT, ok_seqR, allD_mapF, anyD_mapF, sumD_mapF, List.all_map, fSeq, fRng1, fRng2, fEnum, fZip, gtName, gtSub, gtNil, gtCons, gtTup, mkT, mkL, toDs, DL.gD, gD.rds, c1, c2, ok_lenL, ok_lenT, eq_self, DL.gSub, gMul_int, take_set, ixn20, Int.toNat_natCast, ixn21, List.set_set, gFdv, gMod, gPow, gI, gI0, gLt, gLe, gGt, gGe, gIs, gIt, isN, absD, DL.intD, max2, min2, dmod, ixD_l, ixD_t, isiD, tyD, gsel, gEq_int, gNe_int, gEq_str, gNe_str, List.map_cons, List.map_nil, List.length_cons, List.length_nil, List.cons_append, List.nil_append, List.append_nil, List.replicate_succ, List.replicate_zero, Nat.reduceAdd, Nat.reduceSub, Nat.reduceLeDiff, Nat.reduceEqDiff, List.take_length, List.length_map, List.length_append, List.take_left', List.take_append_of_le_length, Nat.le_refl, Nat.zero_add, Nat.add_zero, and_true, true_and, true_or, or_true, Int.mul_one, Int.one_mul, Nat.one_mul, Nat.mul_one, and_false, false_and, if_pos, if_neg, reduceIte, reduceCtorEq, not_true_eq_false, not_false_eq_true, Bool.not_true, Bool.not_false, beq_self_eq_true, Bool.or_true, Bool.true_or, Bool.or_false, Bool.false_or, Bool.and_true, Bool.true_and, Bool.and_false, Bool.false_and, String.reduceBEq, at0, at1, at2, at3, Int.cast_ofNat_Int, decide_true, decide_false, decide_eq_true_eq, decide_eq_false_iff_not, Bool.not_eq_true', Bool.not_eq_eq_eq_not, Int.reduceSub, Int.reduceNeg, Int.reduceAdd, Int.reduceMul, Int.reduceLT, Int.reduceLE, Int.reduceEq, Int.reducePow, Int.reduceToNat, sumD_map, allD_map, anyD_map, srtD_map, srtD_mapT, tupD, lstD, List.getElem?_cons_zero, List.getElem?_cons_succ, List.set_cons_zero, List.set_cons_succ, Option.some.injEq, Option.map_some, Option.map_none, Bool.false_eq_true, if_true, if_false, hz]
      simp))
  unfold f_check_prices b_check_prices
  simp only [ok_callD, ok_bind, ok_ret, ok_some, ok_none, ok_fail, ok_ifF, ok_lif, ok_var, ok_C, ok_rdim, ok_toim, ok_bin, ok_fTst, ok_fAnd, ok_fOr, ok_fNot, ok_chn, startD, outD, fThen, fSet, fAsg, fPar, fPar3, fIfS, fRet, fDrop, fEnd, fBrk, fCnt, fNotT, fAndT, fOrT, fIf, fIsi, fIsi2, fCall, fCallK, fCons, fNil, fCa, fTup, fLst, fLstM, mkM, fApp, appV, ok_putM, get_last, set_last, take_last, gAdd_int, L2.CDiv, L2.CMul, L2.CPow, fIx, ok_ixR, ok_ixI, ok_lenR, ok_callM, fNeg, fRev, fSl, slD, cut1, fON, fOS, fYes, ok_lc, ok_lcBody, ok_for, ok_newM, wipeD, ok_seqL, ok_seqT, ok_seqR, allD_mapF, anyD_mapF, sumD_mapF, List.all_map, fSeq, fRng1, fRng2, fEnum, fZip, gtName, gtSub, gtNil, gtCons, gtTup, mkT, mkL, toDs, DL.gD, gD.rds, c1, c2, ok_lenL, ok_lenT, eq_self, DL.gSub, gMul_int, take_set, ixn20, Int.toNat_natCast, ixn21, List.set_set, gFdv, gMod, gPow, gI, gI0, gLt, gLe, gGt, gGe, gIs, gIt, isN, absD, DL.intD, max2, min2, dmod, ixD_l, ixD_t, isiD, tyD, gsel, gEq_int, gNe_int, gEq_str, gNe_str, List.map_cons, List.map_nil, List.length_cons, List.length_nil, List.cons_append, List.nil_append, List.append_nil, List.replicate_succ, List.replicate_zero, Nat.reduceAdd, Nat.reduceSub, Nat.reduceLeDiff, Nat.reduceEqDiff, List.take_length, List.length_map, List.length_append, List.take_left', List.take_append_of_le_length, Nat.le_refl, Nat.zero_add, Nat.add_zero, and_true, true_and, true_or, or_true, Int.mul_one, Int.one_mul, Nat.one_mul, Nat.mul_one, and_false, false_and, if_pos, if_neg, reduceIte, reduceCtorEq, not_true_eq_false, not_false_eq_true, Bool.not_true, Bool.not_false, beq_self_eq_true, Bool.or_true, Bool.true_or, Bool.or_false, Bool.false_or, Bool.and_true, Bool.true_and, Bool.and_false, Bool.false_and, String.reduceBEq, at0, at1, at2, at3, Int.cast_ofNat_Int, decide_true, decide_false, decide_eq_true_eq, decide_eq_false_iff_not, Bool.not_eq_true', Bool.not_eq_eq_eq_not, Int.reduceSub, Int.reduceNeg, Int.reduceAdd, Int.reduceMul, Int.reduceLT, Int.reduceLE, Int.reduceEq, Int.reducePow, Int.reduceToNat, sumD_map, allD_map, anyD_map, srtD_map, srtD_mapT, tupD, lstD, List.getElem?_cons_zero, List.getElem?_cons_succ, List.set_cons_zero, List.set_cons_succ, Option.some.injEq, Option.map_some, Option.map_none, Bool.false_eq_true, if_true, if_false, ar, walk_seq]
  refine (ok_eq (lc_mapA frD (fun _ => PyData.bool true) ps fun p hp => ?_)).mpr ?_
  · simp only [ok_callD, ok_bind, ok_ret, ok_some, ok_none, ok_fail, ok_ifF, ok_lif, ok_var, ok_C, ok_rdim, ok_toim, ok_bin, ok_fTst, ok_fAnd, ok_fOr, ok_fNot, ok_chn, startD, outD, fThen, fSet, fAsg, fPar, fPar3, fIfS, fRet, fDrop, fEnd, fBrk, fCnt, fNotT, fAndT, fOrT, fIf, fIsi, fIsi2, fCall, fCallK, fCons, fNil, fCa, fTup, fLst, fLstM, mkM, fApp, appV, ok_putM, get_last, set_last, take_last, gAdd_int, L2.CDiv, L2.CMul, L2.CPow, fIx, ok_ixR, ok_ixI, ok_lenR, ok_callM, fNeg, fRev, fSl, slD, cut1, fON, fOS, fYes, ok_lc, ok_lcBody, ok_for, ok_newM, wipeD, ok_seqL, ok_seqT, ok_seqR, allD_mapF, anyD_mapF, sumD_mapF, List.all_map, fSeq, fRng1, fRng2, fEnum, fZip, gtName, gtSub, gtNil, gtCons, gtTup, mkT, mkL, toDs, DL.gD, gD.rds, c1, c2, ok_lenL, ok_lenT, eq_self, DL.gSub, gMul_int, take_set, ixn20, Int.toNat_natCast, ixn21, List.set_set, gFdv, gMod, gPow, gI, gI0, gLt, gLe, gGt, gGe, gIs, gIt, isN, absD, DL.intD, max2, min2, dmod, ixD_l, ixD_t, isiD, tyD, gsel, gEq_int, gNe_int, gEq_str, gNe_str, List.map_cons, List.map_nil, List.length_cons, List.length_nil, List.cons_append, List.nil_append, List.append_nil, List.replicate_succ, List.replicate_zero, Nat.reduceAdd, Nat.reduceSub, Nat.reduceLeDiff, Nat.reduceEqDiff, List.take_length, List.length_map, List.length_append, List.take_left', List.take_append_of_le_length, Nat.le_refl, Nat.zero_add, Nat.add_zero, and_true, true_and, true_or, or_true, Int.mul_one, Int.one_mul, Nat.one_mul, Nat.mul_one, and_false, false_and, if_pos, if_neg, reduceIte, reduceCtorEq, not_true_eq_false, not_false_eq_true, Bool.not_true, Bool.not_false, beq_self_eq_true, Bool.or_true, Bool.true_or, Bool.or_false, Bool.false_or, Bool.and_true, Bool.true_and, Bool.and_false, Bool.false_and, String.reduceBEq, at0, at1, at2, at3, Int.cast_ofNat_Int, decide_true, decide_false, decide_eq_true_eq, decide_eq_false_iff_not, Bool.not_eq_true', Bool.not_eq_eq_eq_not, Int.reduceSub, Int.reduceNeg, Int.reduceAdd, Int.reduceMul, Int.reduceLT, Int.reduceLE, Int.reduceEq, Int.reducePow, Int.reduceToNat, sumD_map, allD_map, anyD_map, srtD_map, srtD_mapT, tupD, lstD, List.getElem?_cons_zero, List.getElem?_cons_succ, List.set_cons_zero, List.set_cons_succ, Option.some.injEq, Option.map_some, Option.map_none, Bool.false_eq_true, if_true, if_false, short_ok (h p hp)]
  · have ha : (ps.all fun _ => true) = true := by simp
    simp only [ok_callD, ok_bind, ok_ret, ok_some, ok_none, ok_fail, ok_ifF, ok_lif, ok_var, ok_C, ok_rdim, ok_toim, ok_bin, ok_fTst, ok_fAnd, ok_fOr, ok_fNot, ok_chn, startD, outD, fThen, fSet, fAsg, fPar, fPar3, fIfS, fRet, fDrop, fEnd, fBrk, fCnt, fNotT, fAndT, fOrT, fIf, fIsi, fIsi2, fCall, fCallK, fCons, fNil, fCa, fTup, fLst, fLstM, mkM, fApp, appV, ok_putM, get_last, set_last, take_last, gAdd_int, L2.CDiv, L2.CMul, L2.CPow, fIx, ok_ixR, ok_ixI, ok_lenR, ok_callM, fNeg, fRev, fSl, slD, cut1, fON, fOS, fYes, ok_lc, ok_lcBody, ok_for, ok_newM, wipeD, ok_seqL, ok_seqT, ok_seqR, allD_mapF, anyD_mapF, sumD_mapF, List.all_map, fSeq, fRng1, fRng2, fEnum, fZip, gtName, gtSub, gtNil, gtCons, gtTup, mkT, mkL, toDs, DL.gD, gD.rds, c1, c2, ok_lenL, ok_lenT, eq_self, DL.gSub, gMul_int, take_set, ixn20, Int.toNat_natCast, ixn21, List.set_set, gFdv, gMod, gPow, gI, gI0, gLt, gLe, gGt, gGe, gIs, gIt, isN, absD, DL.intD, max2, min2, dmod, ixD_l, ixD_t, isiD, tyD, gsel, gEq_int, gNe_int, gEq_str, gNe_str, List.map_cons, List.map_nil, List.length_cons, List.length_nil, List.cons_append, List.nil_append, List.append_nil, List.replicate_succ, List.replicate_zero, Nat.reduceAdd, Nat.reduceSub, Nat.reduceLeDiff, Nat.reduceEqDiff, List.take_length, List.length_map, List.length_append, List.take_left', List.take_append_of_le_length, Nat.le_refl, Nat.zero_add, Nat.add_zero, and_true, true_and, true_or, or_true, Int.mul_one, Int.one_mul, Nat.one_mul, Nat.mul_one, and_false, false_and, if_pos, if_neg, reduceIte, reduceCtorEq, not_true_eq_false, not_false_eq_true, Bool.not_true, Bool.not_false, beq_self_eq_true, Bool.or_true, Bool.true_or, Bool.or_false, Bool.false_or, Bool.and_true, Bool.true_and, Bool.and_false, Bool.false_and, String.reduceBEq, at0, at1, at2, at3, Int.cast_ofNat_Int, decide_true, decide_false, decide_eq_true_eq, decide_eq_false_iff_not, Bool.not_eq_true', Bool.not_eq_eq_eq_not, Int.reduceSub, Int.reduceNeg, Int.reduceAdd, Int.reduceMul, Int.reduceLT, Int.reduceLE, Int.reduceEq, Int.reducePow, Int.reduceToNat, sumD_map, allD_map, anyD_map, srtD_map, srtD_mapT, tupD, lstD, List.getElem?_cons_zero, List.getElem?_cons_succ, List.set_cons_zero, List.set_cons_succ, Option.some.injEq, Option.map_some, Option.map_none, Bool.false_eq_true, if_true, if_false, hz, ha, walk_seq]
    refine (ok_eq (lc_mapA frD (fun _ => PyData.bool false) ps fun p hp => ?_)).mpr ?_
    · unfold frD
      simp only [ok_callD, ok_bind, ok_ret, ok_some, ok_none, ok_fail, ok_ifF, ok_lif, ok_var, ok_C, ok_rdim, ok_toim, ok_bin, ok_fTst, ok_fAnd, ok_fOr, ok_fNot, ok_chn, startD, outD, fThen, fSet, fAsg, fPar, fPar3, fIfS, fRet, fDrop, fEnd, fBrk, fCnt, fNotT, fAndT, fOrT, fIf, fIsi, fIsi2, fCall, fCallK, fCons, fNil, fCa, fTup, fLst, fLstM, mkM, fApp, appV, ok_putM, get_last, set_last, take_last, gAdd_int, L2.CDiv, L2.CMul, L2.CPow, fIx, ok_ixR, ok_ixI, ok_lenR, ok_callM, fNeg, fRev, fSl, slD, cut1, fON, fOS, fYes, ok_lc, ok_lcBody, ok_for, ok_newM, wipeD, ok_seqL, ok_seqT, ok_seqR, allD_mapF, anyD_mapF, sumD_mapF, List.all_map, fSeq, fRng1, fRng2, fEnum, fZip, gtName, gtSub, gtNil, gtCons, gtTup, mkT, mkL, toDs, DL.gD, gD.rds, c1, c2, ok_lenL, ok_lenT, eq_self, DL.gSub, gMul_int, take_set, ixn20, Int.toNat_natCast, ixn21, List.set_set, gFdv, gMod, gPow, gI, gI0, gLt, gLe, gGt, gGe, gIs, gIt, isN, absD, DL.intD, max2, min2, dmod, ixD_l, ixD_t, isiD, tyD, gsel, gEq_int, gNe_int, gEq_str, gNe_str, List.map_cons, List.map_nil, List.length_cons, List.length_nil, List.cons_append, List.nil_append, List.append_nil, List.replicate_succ, List.replicate_zero, Nat.reduceAdd, Nat.reduceSub, Nat.reduceLeDiff, Nat.reduceEqDiff, List.take_length, List.length_map, List.length_append, List.take_left', List.take_append_of_le_length, Nat.le_refl, Nat.zero_add, Nat.add_zero, and_true, true_and, true_or, or_true, Int.mul_one, Int.one_mul, Nat.one_mul, Nat.mul_one, and_false, false_and, if_pos, if_neg, reduceIte, reduceCtorEq, not_true_eq_false, not_false_eq_true, Bool.not_true, Bool.not_false, beq_self_eq_true, Bool.or_true, Bool.true_or, Bool.or_false, Bool.false_or, Bool.and_true, Bool.true_and, Bool.and_false, Bool.false_and, String.reduceBEq, at0, at1, at2, at3, Int.cast_ofNat_Int, decide_true, decide_false, decide_eq_true_eq, decide_eq_false_iff_not, Bool.not_eq_true', Bool.not_eq_eq_eq_not, Int.reduceSub, Int.reduceNeg, Int.reduceAdd, Int.reduceMul, Int.reduceLT, Int.reduceLE, Int.reduceEq, Int.reducePow, Int.reduceToNat, sumD_map, allD_map, anyD_map, srtD_map, srtD_mapT, tupD, lstD, List.getElem?_cons_zero, List.getElem?_cons_succ, List.set_cons_zero, List.set_cons_succ, Option.some.injEq, Option.map_some, Option.map_none, Bool.false_eq_true, if_true, if_false, abs_nat, below_ok (h p hp)]
    · have hb : (ps.any fun _ => false) = false := by simp
      simp only [ok_callD, ok_bind, ok_ret, ok_some, ok_none, ok_fail, ok_ifF, ok_lif, ok_var, ok_C, ok_rdim, ok_toim, ok_bin, ok_fTst, ok_fAnd, ok_fOr, ok_fNot, ok_chn, startD, outD, fThen, fSet, fAsg, fPar, fPar3, fIfS, fRet, fDrop, fEnd, fBrk, fCnt, fNotT, fAndT, fOrT, fIf, fIsi, fIsi2, fCall, fCallK, fCons, fNil, fCa, fTup, fLst, fLstM, mkM, fApp, appV, ok_putM, get_last, set_last, take_last, gAdd_int, L2.CDiv, L2.CMul, L2.CPow, fIx, ok_ixR, ok_ixI, ok_lenR, ok_callM, fNeg, fRev, fSl, slD, cut1, fON, fOS, fYes, ok_lc, ok_lcBody, ok_for, ok_newM, wipeD, ok_seqL, ok_seqT, ok_seqR, allD_mapF, anyD_mapF, sumD_mapF, List.all_map, fSeq, fRng1, fRng2, fEnum, fZip, gtName, gtSub, gtNil, gtCons, gtTup, mkT, mkL, toDs, DL.gD, gD.rds, c1, c2, ok_lenL, ok_lenT, eq_self, DL.gSub, gMul_int, take_set, ixn20, Int.toNat_natCast, ixn21, List.set_set, gFdv, gMod, gPow, gI, gI0, gLt, gLe, gGt, gGe, gIs, gIt, isN, absD, DL.intD, max2, min2, dmod, ixD_l, ixD_t, isiD, tyD, gsel, gEq_int, gNe_int, gEq_str, gNe_str, List.map_cons, List.map_nil, List.length_cons, List.length_nil, List.cons_append, List.nil_append, List.append_nil, List.replicate_succ, List.replicate_zero, Nat.reduceAdd, Nat.reduceSub, Nat.reduceLeDiff, Nat.reduceEqDiff, List.take_length, List.length_map, List.length_append, List.take_left', List.take_append_of_le_length, Nat.le_refl, Nat.zero_add, Nat.add_zero, and_true, true_and, true_or, or_true, Int.mul_one, Int.one_mul, Nat.one_mul, Nat.mul_one, and_false, false_and, if_pos, if_neg, reduceIte, reduceCtorEq, not_true_eq_false, not_false_eq_true, Bool.not_true, Bool.not_false, beq_self_eq_true, Bool.or_true, Bool.true_or, Bool.or_false, Bool.false_or, Bool.and_true, Bool.true_and, Bool.and_false, Bool.false_and, String.reduceBEq, at0, at1, at2, at3, Int.cast_ofNat_Int, decide_true, decide_false, decide_eq_true_eq, decide_eq_false_iff_not, Bool.not_eq_true', Bool.not_eq_eq_eq_not, Int.reduceSub, Int.reduceNeg, Int.reduceAdd, Int.reduceMul, Int.reduceLT, Int.reduceLE, Int.reduceEq, Int.reducePow, Int.reduceToNat, sumD_map, allD_map, anyD_map, srtD_map, srtD_mapT, tupD, lstD, List.getElem?_cons_zero, List.getElem?_cons_succ, List.set_cons_zero, List.set_cons_succ, Option.some.injEq, Option.map_some, Option.map_none, Bool.false_eq_true, if_true, if_false, hz, hb]))
def addF (f p : Fr) : Fr := red (f.1 * p.2 + p.1 * f.2) (f.2 * p.2)
def rawF (f p : Fr) : Fr := (f.1 * p.2 + p.1 * f.2, f.2 * p.2)
theorem addF_red {f p : Fr} (hf : 0 < f.2) : addF (red f.1 f.2) p = red (rawF f p).1 (rawF f p).2 := by
  obtain ⟨g1, g2⟩ := gcd_pos (t := f.1) hf
  obtain ⟨_, _, _, _, m1, m2⟩ := red_ok (t := f.1) hf
  unfold addF rawF
  rw [← red_scale (k := Nat.gcd f.1.natAbs f.2) g1]
  have e1 : (((red f.1 f.2).1 * (p.2 : Int) + p.1 * ((red f.1 f.2).2 : Int)) * ((Nat.gcd f.1.natAbs f.2 : Nat) : Int)) = f.1 * p.2 + p.1 * f.2 := by
    have m2' : ((red f.1 f.2).2 : Int) * ((Nat.gcd f.1.natAbs f.2 : Nat) : Int) = (f.2 : Int) := by rw [← Int.natCast_mul, m2]
    rw [Int.add_mul, Int.mul_right_comm, m1, Int.mul_assoc, m2']
  have e2 : (red f.1 f.2).2 * p.2 * Nat.gcd f.1.natAbs f.2 = f.2 * p.2 := by rw [Nat.mul_right_comm, m2]
  rw [e1, e2]
theorem fold_red : ∀ (ps : List Fr) (f : Fr), 0 < f.2 → (∀ p ∈ ps, 1 ≤ p.2) → ps.foldl addF (red f.1 f.2) = red (ps.foldl rawF f).1 (ps.foldl rawF f).2
  | [], _, _, _ => rfl
  | p :: ps, f, hf, h => by
    rw [List.foldl_cons, List.foldl_cons, addF_red hf]
    exact fold_red ps (rawF f p) (Nat.mul_pos hf (h p (by simp))) fun q hq => h q (by simp [hq])
theorem add_ok {f p : Fr} (hf : 0 < f.2) (hf2 : f.2 ≤ 1296) (h : Pr p) {st : Sto} {Q : DV → Sto → Prop} : Ok (f_add [.im (frD f), .im (frD p)]) st Q ↔ Q (.im (frD (addF f p))) st := ok_eq (eq_ok (by
  unfold f_add b_add
  have h1 := h.pos
  have h2 := h.six
  have h3 := h.top
  have hm : f.2 * p.2 < 1073741824 := Nat.lt_of_le_of_lt (Nat.mul_le_mul hf2 h2) (by decide)
  have hp := Nat.mul_pos hf h1
  have c1 : (-18446744073709551616 < (p.2 : Int) ∧ (p.2 : Int) < 18446744073709551616) := by omega
  have c2 : (-18446744073709551616 < p.1 ∧ p.1 < 18446744073709551616) := by omega
  have e : (f.2 : Int) * (p.2 : Int) = ((f.2 * p.2 : Nat) : Int) := by rw [Int.natCast_mul]
  simp only [ok_callD, ok_bind, ok_ret, ok_some, ok_none, ok_fail, ok_ifF, ok_lif, ok_var, ok_C, ok_rdim, ok_toim, ok_bin, ok_fTst, ok_fAnd, ok_fOr, ok_fNot, ok_chn, startD, outD, fThen, fSet, fAsg, fPar, fPar3, fIfS, fRet, fDrop, fEnd, fBrk, fCnt, fNotT, fAndT, fOrT, fIf, fIsi, fIsi2, fCall, fCallK, fCons, fNil, fCa, fTup, fLst, fLstM, mkM, fApp, appV, ok_putM, get_last, set_last, take_last, gAdd_int, L2.CDiv, L2.CMul, L2.CPow, fIx, ok_ixR, ok_ixI, ok_lenR, ok_callM, fNeg, fRev, fSl, slD, cut1, fON, fOS, fYes, ok_lc, ok_lcBody, ok_for, ok_newM, wipeD, ok_seqL, ok_seqT, ok_seqR, allD_mapF, anyD_mapF, sumD_mapF, List.all_map, fSeq, fRng1, fRng2, fEnum, fZip, gtName, gtSub, gtNil, gtCons, gtTup, mkT, mkL, toDs, DL.gD, gD.rds, c1, c2, ok_lenL, ok_lenT, eq_self, DL.gSub, gMul_int, take_set, ixn20, Int.toNat_natCast, ixn21, List.set_set, gFdv, gMod, gPow, gI, gI0, gLt, gLe, gGt, gGe, gIs, gIt, isN, absD, DL.intD, max2, min2, dmod, ixD_l, ixD_t, isiD, tyD, gsel, gEq_int, gNe_int, gEq_str, gNe_str, List.map_cons, List.map_nil, List.length_cons, List.length_nil, List.cons_append, List.nil_append, List.append_nil, List.replicate_succ, List.replicate_zero, Nat.reduceAdd, Nat.reduceSub, Nat.reduceLeDiff, Nat.reduceEqDiff, List.take_length, List.length_map, List.length_append, List.take_left', List.take_append_of_le_length, Nat.le_refl, Nat.zero_add, Nat.add_zero, and_true, true_and, true_or, or_true, Int.mul_one, Int.one_mul, Nat.one_mul, Nat.mul_one, and_false, false_and, if_pos, if_neg, reduceIte, reduceCtorEq, not_true_eq_false, not_false_eq_true, Bool.not_true, Bool.not_false, beq_self_eq_true, Bool.or_true, Bool.true_or, Bool.or_false, Bool.false_or, Bool.and_true, Bool.true_and, Bool.and_false, Bool.false_and, String.reduceBEq, at0, at1, at2, at3, Int.cast_ofNat_Int, decide_true, decide_false, decide_eq_true_eq, decide_eq_false_iff_not, Bool.not_eq_true', Bool.not_eq_eq_eq_not, Int.reduceSub, Int.reduceNeg, Int.reduceAdd, Int.reduceMul, Int.reduceLT, Int.reduceLE, Int.reduceEq, Int.reducePow, Int.reduceToNat, sumD_map, allD_map, anyD_map, srtD_map, srtD_mapT, tupD, lstD, List.getElem?_cons_zero, List.getElem?_cons_succ, List.set_cons_zero, List.set_cons_succ, Option.some.injEq, Option.map_some, Option.map_none, Bool.false_eq_true, if_true, if_false, frD, c1, c2, e]
  rw [reduced_ok hp hm]
  unfold addF frD
  simp only [ok_callD, ok_bind, ok_ret, ok_some, ok_none, ok_fail, ok_ifF, ok_lif, ok_var, ok_C, ok_rdim, ok_toim, ok_bin, ok_fTst, ok_fAnd, ok_fOr, ok_fNot, ok_chn, startD, outD, fThen, fSet, fAsg, fPar, fPar3, fIfS, fRet, fDrop, fEnd, fBrk, fCnt, fNotT, fAndT, fOrT, fIf, fIsi, fIsi2, fCall, fCallK, fCons, fNil, fCa, fTup, fLst, fLstM, mkM, fApp, appV, ok_putM, get_last, set_last, take_last, gAdd_int, L2.CDiv, L2.CMul, L2.CPow, fIx, ok_ixR, ok_ixI, ok_lenR, ok_callM, fNeg, fRev, fSl, slD, cut1, fON, fOS, fYes, ok_lc, ok_lcBody, ok_for, ok_newM, wipeD, ok_seqL, ok_seqT, ok_seqR, allD_mapF, anyD_mapF, sumD_mapF, List.all_map, fSeq, fRng1, fRng2, fEnum, fZip, gtName, gtSub, gtNil, gtCons, gtTup, mkT, mkL, toDs, DL.gD, gD.rds, c1, c2, ok_lenL, ok_lenT, eq_self, DL.gSub, gMul_int, take_set, ixn20, Int.toNat_natCast, ixn21, List.set_set, gFdv, gMod, gPow, gI, gI0, gLt, gLe, gGt, gGe, gIs, gIt, isN, absD, DL.intD, max2, min2, dmod, ixD_l, ixD_t, isiD, tyD, gsel, gEq_int, gNe_int, gEq_str, gNe_str, List.map_cons, List.map_nil, List.length_cons, List.length_nil, List.cons_append, List.nil_append, List.append_nil, List.replicate_succ, List.replicate_zero, Nat.reduceAdd, Nat.reduceSub, Nat.reduceLeDiff, Nat.reduceEqDiff, List.take_length, List.length_map, List.length_append, List.take_left', List.take_append_of_le_length, Nat.le_refl, Nat.zero_add, Nat.add_zero, and_true, true_and, true_or, or_true, Int.mul_one, Int.one_mul, Nat.one_mul, Nat.mul_one, and_false, false_and, if_pos, if_neg, reduceIte, reduceCtorEq, not_true_eq_false, not_false_eq_true, Bool.not_true, Bool.not_false, beq_self_eq_true, Bool.or_true, Bool.true_or, Bool.or_false, Bool.false_or, Bool.and_true, Bool.true_and, Bool.and_false, Bool.false_and, String.reduceBEq, at0, at1, at2, at3, Int.cast_ofNat_Int, decide_true, decide_false, decide_eq_true_eq, decide_eq_false_iff_not, Bool.not_eq_true', Bool.not_eq_eq_eq_not, Int.reduceSub, Int.reduceNeg, Int.reduceAdd, Int.reduceMul, Int.reduceLT, Int.reduceLE, Int.reduceEq, Int.reducePow, Int.reduceToNat, sumD_map, allD_map, anyD_map, srtD_map, srtD_mapT, tupD, lstD, List.getElem?_cons_zero, List.getElem?_cons_succ, List.set_cons_zero, List.set_cons_succ, Option.some.injEq, Option.map_some, Option.map_none, Bool.false_eq_true, if_true, if_false]))
theorem addF_ok {f p : Fr} (hf : 0 < f.2) (h : Pr p) : 0 < (addF f p).2 ∧ (addF f p).2 ≤ f.2 * 6 := by
  obtain ⟨r1, r2, _⟩ := red_ok (t := f.1 * p.2 + p.1 * f.2) (Nat.mul_pos hf h.pos)
  exact ⟨r1, Nat.le_trans r2 (Nat.mul_le_mul_left _ h.six)⟩
theorem total_ok {ps : List Fr} (hl : ps.length ≤ 5) (h : ∀ p ∈ ps, Pr p) {st : Sto} {Q : DV → Sto → Prop} : Ok (f_total [.im (.list (ps.map frD))]) st Q ↔ Q (.im (frD (ps.foldl addF (0, 1)))) st := ok_eq (eq_ok (by
  unfold f_total b_total
  simp only [ok_callD, ok_bind, ok_ret, ok_some, ok_none, ok_fail, ok_ifF, ok_lif, ok_var, ok_C, ok_rdim, ok_toim, ok_bin, ok_fTst, ok_fAnd, ok_fOr, ok_fNot, ok_chn, startD, outD, fThen, fSet, fAsg, fPar, fPar3, fIfS, fRet, fDrop, fEnd, fBrk, fCnt, fNotT, fAndT, fOrT, fIf, fIsi, fIsi2, fCall, fCallK, fCons, fNil, fCa, fTup, fLst, fLstM, mkM, fApp, appV, ok_putM, get_last, set_last, take_last, gAdd_int, L2.CDiv, L2.CMul, L2.CPow, fIx, ok_ixR, ok_ixI, ok_lenR, ok_callM, fNeg, fRev, fSl, slD, cut1, fON, fOS, fYes, ok_lc, ok_lcBody, ok_for, ok_newM, wipeD, ok_seqL, ok_seqT, ok_seqR, allD_mapF, anyD_mapF, sumD_mapF, List.all_map, fSeq, fRng1, fRng2, fEnum, fZip, gtName, gtSub, gtNil, gtCons, gtTup, mkT, mkL, toDs, DL.gD, gD.rds, c1, c2, ok_lenL, ok_lenT, eq_self, DL.gSub, gMul_int, take_set, ixn20, Int.toNat_natCast, ixn21, List.set_set, gFdv, gMod, gPow, gI, gI0, gLt, gLe, gGt, gGe, gIs, gIt, isN, absD, DL.intD, max2, min2, dmod, ixD_l, ixD_t, isiD, tyD, gsel, gEq_int, gNe_int, gEq_str, gNe_str, List.map_cons, List.map_nil, List.length_cons, List.length_nil, List.cons_append, List.nil_append, List.append_nil, List.replicate_succ, List.replicate_zero, Nat.reduceAdd, Nat.reduceSub, Nat.reduceLeDiff, Nat.reduceEqDiff, List.take_length, List.length_map, List.length_append, List.take_left', List.take_append_of_le_length, Nat.le_refl, Nat.zero_add, Nat.add_zero, and_true, true_and, true_or, or_true, Int.mul_one, Int.one_mul, Nat.one_mul, Nat.mul_one, and_false, false_and, if_pos, if_neg, reduceIte, reduceCtorEq, not_true_eq_false, not_false_eq_true, Bool.not_true, Bool.not_false, beq_self_eq_true, Bool.or_true, Bool.true_or, Bool.or_false, Bool.false_or, Bool.and_true, Bool.true_and, Bool.and_false, Bool.false_and, String.reduceBEq, at0, at1, at2, at3, Int.cast_ofNat_Int, decide_true, decide_false, decide_eq_true_eq, decide_eq_false_iff_not, Bool.not_eq_true', Bool.not_eq_eq_eq_not, Int.reduceSub, Int.reduceNeg, Int.reduceAdd, Int.reduceMul, Int.reduceLT, Int.reduceLE, Int.reduceEq, Int.reducePow, Int.reduceToNat, sumD_map, allD_map, anyD_map, srtD_map, srtD_mapT, tupD, lstD, List.getElem?_cons_zero, List.getElem?_cons_succ, List.set_cons_zero, List.set_cons_succ, Option.some.injEq, Option.map_some, Option.map_none, Bool.false_eq_true, if_true, if_false]
  refine ok_loop (fun ds env s => ∃ (f : Fr) (x : Option DV) (rs : List Fr), ds = rs.map frD ∧ env = [some (.im (.list (ps.map frD))), some (.im (frD f)), x] ∧ s = st ∧ 0 < f.2 ∧ f.2 * 6 ^ rs.length ≤ 7776 ∧ (∀ p ∈ rs, Pr p) ∧ rs.foldl addF f = ps.foldl addF (0, 1)) ?_ ?_ _ _ _
    ⟨(0, 1), none, ps, rfl, rfl, rfl, by decide, by rw [Nat.one_mul]; exact Nat.le_trans (Nat.pow_le_pow_right (by decide) hl) (by decide), h, rfl⟩
  · rintro d ds env s ⟨f, x, rs, hd, rfl, rfl, hf, hb, hp, ht⟩
    cases rs with
    | nil => cases hd
    | cons p rs =>
      cases hd
      have hpp := hp p (by simp)
      obtain ⟨a1, a2⟩ := addF_ok hf hpp
      have e6 : f.2 * 6 * 6 ^ rs.length ≤ 7776 := by
        rw [List.length_cons, Nat.pow_succ, Nat.mul_comm (6 ^ rs.length) 6, ← Nat.mul_assoc] at hb
        exact hb
      have hp6 : 1 ≤ 6 ^ rs.length := Nat.pos_of_ne_zero (by simp)
      have hf2 : f.2 ≤ 1296 := by
        have := Nat.le_trans (Nat.le_mul_of_pos_right (f.2 * 6) hp6) e6
        omega
      simp only [ok_callD, ok_bind, ok_ret, ok_some, ok_none, ok_fail, ok_ifF, ok_lif, ok_var, ok_C, ok_rdim, ok_toim, ok_bin, ok_fTst, ok_fAnd, ok_fOr, ok_fNot, ok_chn, startD, outD, fThen, fSet, fAsg, fPar, fPar3, fIfS, fRet, fDrop, fEnd, fBrk, fCnt, fNotT, fAndT, fOrT, fIf, fIsi, fIsi2, fCall, fCallK, fCons, fNil, fCa, fTup, fLst, fLstM, mkM, fApp, appV, ok_putM, get_last, set_last, take_last, gAdd_int, L2.CDiv, L2.CMul, L2.CPow, fIx, ok_ixR, ok_ixI, ok_lenR, ok_callM, fNeg, fRev, fSl, slD, cut1, fON, fOS, fYes, ok_lc, ok_lcBody, ok_for, ok_newM, wipeD, ok_seqL, ok_seqT, ok_seqR, allD_mapF, anyD_mapF, sumD_mapF, List.all_map, fSeq, fRng1, fRng2, fEnum, fZip, gtName, gtSub, gtNil, gtCons, gtTup, mkT, mkL, toDs, DL.gD, gD.rds, c1, c2, ok_lenL, ok_lenT, eq_self, DL.gSub, gMul_int, take_set, ixn20, Int.toNat_natCast, ixn21, List.set_set, gFdv, gMod, gPow, gI, gI0, gLt, gLe, gGt, gGe, gIs, gIt, isN, absD, DL.intD, max2, min2, dmod, ixD_l, ixD_t, isiD, tyD, gsel, gEq_int, gNe_int, gEq_str, gNe_str, List.map_cons, List.map_nil, List.length_cons, List.length_nil, List.cons_append, List.nil_append, List.append_nil, List.replicate_succ, List.replicate_zero, Nat.reduceAdd, Nat.reduceSub, Nat.reduceLeDiff, Nat.reduceEqDiff, List.take_length, List.length_map, List.length_append, List.take_left', List.take_append_of_le_length, Nat.le_refl, Nat.zero_add, Nat.add_zero, and_true, true_and, true_or, or_true, Int.mul_one, Int.one_mul, Nat.one_mul, Nat.mul_one, and_false, false_and, if_pos, if_neg, reduceIte, reduceCtorEq, not_true_eq_false, not_false_eq_true, Bool.not_true, Bool.not_false, beq_self_eq_true, Bool.or_true, Bool.true_or, Bool.or_false, Bool.false_or, Bool.and_true, Bool.true_and, Bool.and_false, Bool.false_and, String.reduceBEq, at0, at1, at2, at3, Int.cast_ofNat_Int, decide_true, decide_false, decide_eq_true_eq, decide_eq_false_iff_not, Bool.not_eq_true', Bool.not_eq_eq_eq_not, Int.reduceSub, Int.reduceNeg, Int.reduceAdd, Int.reduceMul, Int.reduceLT, Int.reduceLE, Int.reduceEq, Int.reducePow, Int.reduceToNat, sumD_map, allD_map, anyD_map, srtD_map, srtD_mapT, tupD, lstD, List.getElem?_cons_zero, List.getElem?_cons_succ, List.set_cons_zero, List.set_cons_succ, Option.some.injEq, Option.map_some, Option.map_none, Bool.false_eq_true, if_true, if_false, add_ok hf hf2 hpp]
      exact ⟨addF f p, _, rs, rfl, rfl, a1, Nat.le_trans (Nat.mul_le_mul_right _ a2) e6, fun q hq => hp q (by simp [hq]), ht⟩
  · rintro env s ⟨f, x, rs, hd, rfl, rfl, hf, hb, hp, ht⟩
    cases rs with
    | cons p rs => cases hd
    | nil =>
      rw [← ht]
      simp only [ok_callD, ok_bind, ok_ret, ok_some, ok_none, ok_fail, ok_ifF, ok_lif, ok_var, ok_C, ok_rdim, ok_toim, ok_bin, ok_fTst, ok_fAnd, ok_fOr, ok_fNot, ok_chn, startD, outD, fThen, fSet, fAsg, fPar, fPar3, fIfS, fRet, fDrop, fEnd, fBrk, fCnt, fNotT, fAndT, fOrT, fIf, fIsi, fIsi2, fCall, fCallK, fCons, fNil, fCa, fTup, fLst, fLstM, mkM, fApp, appV, ok_putM, get_last, set_last, take_last, gAdd_int, L2.CDiv, L2.CMul, L2.CPow, fIx, ok_ixR, ok_ixI, ok_lenR, ok_callM, fNeg, fRev, fSl, slD, cut1, fON, fOS, fYes, ok_lc, ok_lcBody, ok_for, ok_newM, wipeD, ok_seqL, ok_seqT, ok_seqR, allD_mapF, anyD_mapF, sumD_mapF, List.all_map, fSeq, fRng1, fRng2, fEnum, fZip, gtName, gtSub, gtNil, gtCons, gtTup, mkT, mkL, toDs, DL.gD, gD.rds, c1, c2, ok_lenL, ok_lenT, eq_self, DL.gSub, gMul_int, take_set, ixn20, Int.toNat_natCast, ixn21, List.set_set, gFdv, gMod, gPow, gI, gI0, gLt, gLe, gGt, gGe, gIs, gIt, isN, absD, DL.intD, max2, min2, dmod, ixD_l, ixD_t, isiD, tyD, gsel, gEq_int, gNe_int, gEq_str, gNe_str, List.map_cons, List.map_nil, List.length_cons, List.length_nil, List.cons_append, List.nil_append, List.append_nil, List.replicate_succ, List.replicate_zero, Nat.reduceAdd, Nat.reduceSub, Nat.reduceLeDiff, Nat.reduceEqDiff, List.take_length, List.length_map, List.length_append, List.take_left', List.take_append_of_le_length, Nat.le_refl, Nat.zero_add, Nat.add_zero, and_true, true_and, true_or, or_true, Int.mul_one, Int.one_mul, Nat.one_mul, Nat.mul_one, and_false, false_and, if_pos, if_neg, reduceIte, reduceCtorEq, not_true_eq_false, not_false_eq_true, Bool.not_true, Bool.not_false, beq_self_eq_true, Bool.or_true, Bool.true_or, Bool.or_false, Bool.false_or, Bool.and_true, Bool.true_and, Bool.and_false, Bool.false_and, String.reduceBEq, at0, at1, at2, at3, Int.cast_ofNat_Int, decide_true, decide_false, decide_eq_true_eq, decide_eq_false_iff_not, Bool.not_eq_true', Bool.not_eq_eq_eq_not, Int.reduceSub, Int.reduceNeg, Int.reduceAdd, Int.reduceMul, Int.reduceLT, Int.reduceLE, Int.reduceEq, Int.reducePow, Int.reduceToNat, sumD_map, allD_map, anyD_map, srtD_map, srtD_mapT, tupD, lstD, List.getElem?_cons_zero, List.getElem?_cons_succ, List.set_cons_zero, List.set_cons_succ, Option.some.injEq, Option.map_some, Option.map_none, Bool.false_eq_true, if_true, if_false]
      simp))
def prs (ps : List Fr) (lot : List Nat) : List Fr := lot.map fun t => ps.getD t (0, 1)
theorem price_by_ok {l : Bool} {m : Nat} {ps : List Fr} (hm : ps.length = m) (hm5 : m ≤ 5) (h : ∀ p ∈ ps, Pr p) {lot : List Nat} (hl : Lot m lot) {st : Sto} {Q : DV → Sto → Prop} :
    Ok (f_price_by [.im (seqD l (ps.map frD)), .im (lotD lot)]) st Q ↔ Q (.im (frD ((prs ps lot).foldl addF (0, 1)))) st := ok_eq (eq_ok (by
  unfold f_price_by b_price_by lotD
  have hz := hl.five.2
  have hll : (prs ps lot).length ≤ 5 := by
    unfold prs
    rw [List.length_map]
    have := ups_len lot hl.up hl.lt
    omega
  have get : ∀ t ∈ lot, ps[t]? = some (ps.getD t (0, 1)) := fun t ht => by
    have := hl.lt t ht
    rw [List.getD_eq_getElem?_getD, List.getElem?_eq_getElem (by omega)]
    rfl
  simp only [ok_callD, ok_bind, ok_ret, ok_some, ok_none, ok_fail, ok_ifF, ok_lif, ok_var, ok_C, ok_rdim, ok_toim, ok_bin, ok_fTst, ok_fAnd, ok_fOr, ok_fNot, ok_chn, startD, outD, fThen, fSet, fAsg, fPar, fPar3, fIfS, fRet, fDrop, fEnd, fBrk, fCnt, fNotT, fAndT, fOrT, fIf, fIsi, fIsi2, fCall, fCallK, fCons, fNil, fCa, fTup, fLst, fLstM, mkM, fApp, appV, ok_putM, get_last, set_last, take_last, gAdd_int, L2.CDiv, L2.CMul, L2.CPow, fIx, ok_ixR, ok_ixI, ok_lenR, ok_callM, fNeg, fRev, fSl, slD, cut1, fON, fOS, fYes, ok_lc, ok_lcBody, ok_for, ok_newM, wipeD, ok_seqL, ok_seqT, ok_seqR, allD_mapF, anyD_mapF, sumD_mapF, List.all_map, fSeq, fRng1, fRng2, fEnum, fZip, gtName, gtSub, gtNil, gtCons, gtTup, mkT, mkL, toDs, DL.gD, gD.rds, c1, c2, ok_lenL, ok_lenT, eq_self, DL.gSub, gMul_int, take_set, ixn20, Int.toNat_natCast, ixn21, List.set_set, gFdv, gMod, gPow, gI, gI0, gLt, gLe, gGt, gGe, gIs, gIt, isN, absD, DL.intD, max2, min2, dmod, ixD_l, ixD_t, isiD, tyD, gsel, gEq_int, gNe_int, gEq_str, gNe_str, List.map_cons, List.map_nil, List.length_cons, List.length_nil, List.cons_append, List.nil_append, List.append_nil, List.replicate_succ, List.replicate_zero, Nat.reduceAdd, Nat.reduceSub, Nat.reduceLeDiff, Nat.reduceEqDiff, List.take_length, List.length_map, List.length_append, List.take_left', List.take_append_of_le_length, Nat.le_refl, Nat.zero_add, Nat.add_zero, and_true, true_and, true_or, or_true, Int.mul_one, Int.one_mul, Nat.one_mul, Nat.mul_one, and_false, false_and, if_pos, if_neg, reduceIte, reduceCtorEq, not_true_eq_false, not_false_eq_true, Bool.not_true, Bool.not_false, beq_self_eq_true, Bool.or_true, Bool.true_or, Bool.or_false, Bool.false_or, Bool.and_true, Bool.true_and, Bool.and_false, Bool.false_and, String.reduceBEq, at0, at1, at2, at3, Int.cast_ofNat_Int, decide_true, decide_false, decide_eq_true_eq, decide_eq_false_iff_not, Bool.not_eq_true', Bool.not_eq_eq_eq_not, Int.reduceSub, Int.reduceNeg, Int.reduceAdd, Int.reduceMul, Int.reduceLT, Int.reduceLE, Int.reduceEq, Int.reducePow, Int.reduceToNat, sumD_map, allD_map, anyD_map, srtD_map, srtD_mapT, tupD, lstD, List.getElem?_cons_zero, List.getElem?_cons_succ, List.set_cons_zero, List.set_cons_succ, Option.some.injEq, Option.map_some, Option.map_none, Bool.false_eq_true, if_true, if_false]
  refine (ok_eq (lc_mapA (fun t => PyData.int (t : Nat)) (fun t => frD (ps.getD t (0, 1))) lot fun t ht => ?_)).mpr ?_
  · simp only [ok_callD, ok_bind, ok_ret, ok_some, ok_none, ok_fail, ok_ifF, ok_lif, ok_var, ok_C, ok_rdim, ok_toim, ok_bin, ok_fTst, ok_fAnd, ok_fOr, ok_fNot, ok_chn, startD, outD, fThen, fSet, fAsg, fPar, fPar3, fIfS, fRet, fDrop, fEnd, fBrk, fCnt, fNotT, fAndT, fOrT, fIf, fIsi, fIsi2, fCall, fCallK, fCons, fNil, fCa, fTup, fLst, fLstM, mkM, fApp, appV, ok_putM, get_last, set_last, take_last, gAdd_int, L2.CDiv, L2.CMul, L2.CPow, fIx, ok_ixR, ok_ixI, ok_lenR, ok_callM, fNeg, fRev, fSl, slD, cut1, fON, fOS, fYes, ok_lc, ok_lcBody, ok_for, ok_newM, wipeD, ok_seqL, ok_seqT, ok_seqR, allD_mapF, anyD_mapF, sumD_mapF, List.all_map, fSeq, fRng1, fRng2, fEnum, fZip, gtName, gtSub, gtNil, gtCons, gtTup, mkT, mkL, toDs, DL.gD, gD.rds, c1, c2, ok_lenL, ok_lenT, eq_self, DL.gSub, gMul_int, take_set, ixn20, Int.toNat_natCast, ixn21, List.set_set, gFdv, gMod, gPow, gI, gI0, gLt, gLe, gGt, gGe, gIs, gIt, isN, absD, DL.intD, max2, min2, dmod, ixD_l, ixD_t, isiD, tyD, gsel, gEq_int, gNe_int, gEq_str, gNe_str, List.map_cons, List.map_nil, List.length_cons, List.length_nil, List.cons_append, List.nil_append, List.append_nil, List.replicate_succ, List.replicate_zero, Nat.reduceAdd, Nat.reduceSub, Nat.reduceLeDiff, Nat.reduceEqDiff, List.take_length, List.length_map, List.length_append, List.take_left', List.take_append_of_le_length, Nat.le_refl, Nat.zero_add, Nat.add_zero, and_true, true_and, true_or, or_true, Int.mul_one, Int.one_mul, Nat.one_mul, Nat.mul_one, and_false, false_and, if_pos, if_neg, reduceIte, reduceCtorEq, not_true_eq_false, not_false_eq_true, Bool.not_true, Bool.not_false, beq_self_eq_true, Bool.or_true, Bool.true_or, Bool.or_false, Bool.false_or, Bool.and_true, Bool.true_and, Bool.and_false, Bool.false_and, String.reduceBEq, at0, at1, at2, at3, Int.cast_ofNat_Int, decide_true, decide_false, decide_eq_true_eq, decide_eq_false_iff_not, Bool.not_eq_true', Bool.not_eq_eq_eq_not, Int.reduceSub, Int.reduceNeg, Int.reduceAdd, Int.reduceMul, Int.reduceLT, Int.reduceLE, Int.reduceEq, Int.reducePow, Int.reduceToNat, sumD_map, allD_map, anyD_map, srtD_map, srtD_mapT, tupD, lstD, List.getElem?_cons_zero, List.getElem?_cons_succ, List.set_cons_zero, List.set_cons_succ, Option.some.injEq, Option.map_some, Option.map_none, Bool.false_eq_true, if_true, if_false, ix_seq]
    rw [atI_nat (j := t) rfl, List.getElem?_map, get t ht]
    simp only [ok_callD, ok_bind, ok_ret, ok_some, ok_none, ok_fail, ok_ifF, ok_lif, ok_var, ok_C, ok_rdim, ok_toim, ok_bin, ok_fTst, ok_fAnd, ok_fOr, ok_fNot, ok_chn, startD, outD, fThen, fSet, fAsg, fPar, fPar3, fIfS, fRet, fDrop, fEnd, fBrk, fCnt, fNotT, fAndT, fOrT, fIf, fIsi, fIsi2, fCall, fCallK, fCons, fNil, fCa, fTup, fLst, fLstM, mkM, fApp, appV, ok_putM, get_last, set_last, take_last, gAdd_int, L2.CDiv, L2.CMul, L2.CPow, fIx, ok_ixR, ok_ixI, ok_lenR, ok_callM, fNeg, fRev, fSl, slD, cut1, fON, fOS, fYes, ok_lc, ok_lcBody, ok_for, ok_newM, wipeD, ok_seqL, ok_seqT, ok_seqR, allD_mapF, anyD_mapF, sumD_mapF, List.all_map, fSeq, fRng1, fRng2, fEnum, fZip, gtName, gtSub, gtNil, gtCons, gtTup, mkT, mkL, toDs, DL.gD, gD.rds, c1, c2, ok_lenL, ok_lenT, eq_self, DL.gSub, gMul_int, take_set, ixn20, Int.toNat_natCast, ixn21, List.set_set, gFdv, gMod, gPow, gI, gI0, gLt, gLe, gGt, gGe, gIs, gIt, isN, absD, DL.intD, max2, min2, dmod, ixD_l, ixD_t, isiD, tyD, gsel, gEq_int, gNe_int, gEq_str, gNe_str, List.map_cons, List.map_nil, List.length_cons, List.length_nil, List.cons_append, List.nil_append, List.append_nil, List.replicate_succ, List.replicate_zero, Nat.reduceAdd, Nat.reduceSub, Nat.reduceLeDiff, Nat.reduceEqDiff, List.take_length, List.length_map, List.length_append, List.take_left', List.take_append_of_le_length, Nat.le_refl, Nat.zero_add, Nat.add_zero, and_true, true_and, true_or, or_true, Int.mul_one, Int.one_mul, Nat.one_mul, Nat.mul_one, and_false, false_and, if_pos, if_neg, reduceIte, reduceCtorEq, not_true_eq_false, not_false_eq_true, Bool.not_true, Bool.not_false, beq_self_eq_true, Bool.or_true, Bool.true_or, Bool.or_false, Bool.false_or, Bool.and_true, Bool.true_and, Bool.and_false, Bool.false_and, String.reduceBEq, at0, at1, at2, at3, Int.cast_ofNat_Int, decide_true, decide_false, decide_eq_true_eq, decide_eq_false_iff_not, Bool.not_eq_true', Bool.not_eq_eq_eq_not, Int.reduceSub, Int.reduceNeg, Int.reduceAdd, Int.reduceMul, Int.reduceLT, Int.reduceLE, Int.reduceEq, Int.reducePow, Int.reduceToNat, sumD_map, allD_map, anyD_map, srtD_map, srtD_mapT, tupD, lstD, List.getElem?_cons_zero, List.getElem?_cons_succ, List.set_cons_zero, List.set_cons_succ, Option.some.injEq, Option.map_some, Option.map_none, Bool.false_eq_true, if_true, if_false]
  · have e : (lot.map fun t => frD (ps.getD t (0, 1))) = (prs ps lot).map frD := by unfold prs; rw [List.map_map]; rfl
    have hp : ∀ p ∈ prs ps lot, Pr p := fun p hp => by
      obtain ⟨t, ht, rfl⟩ := List.mem_map.mp hp
      exact h _ (List.mem_of_getElem? (get t ht))
    simp only [ok_callD, ok_bind, ok_ret, ok_some, ok_none, ok_fail, ok_ifF, ok_lif, ok_var, ok_C, ok_rdim, ok_toim, ok_bin, ok_fTst, ok_fAnd, ok_fOr, ok_fNot, ok_chn, startD, outD, fThen, fSet, fAsg, fPar, fPar3, fIfS, fRet, fDrop, fEnd, fBrk, fCnt, fNotT, fAndT, fOrT, fIf, fIsi, fIsi2, fCall, fCallK, fCons, fNil, fCa, fTup, fLst, fLstM, mkM, fApp, appV, ok_putM, get_last, set_last, take_last, gAdd_int, L2.CDiv, L2.CMul, L2.CPow, fIx, ok_ixR, ok_ixI, ok_lenR, ok_callM, fNeg, fRev, fSl, slD, cut1, fON, fOS, fYes, ok_lc, ok_lcBody, ok_for, ok_newM, wipeD, ok_seqL, ok_seqT, ok_seqR, allD_mapF, anyD_mapF, sumD_mapF, List.all_map, fSeq, fRng1, fRng2, fEnum, fZip, gtName, gtSub, gtNil, gtCons, gtTup, mkT, mkL, toDs, DL.gD, gD.rds, c1, c2, ok_lenL, ok_lenT, eq_self, DL.gSub, gMul_int, take_set, ixn20, Int.toNat_natCast, ixn21, List.set_set, gFdv, gMod, gPow, gI, gI0, gLt, gLe, gGt, gGe, gIs, gIt, isN, absD, DL.intD, max2, min2, dmod, ixD_l, ixD_t, isiD, tyD, gsel, gEq_int, gNe_int, gEq_str, gNe_str, List.map_cons, List.map_nil, List.length_cons, List.length_nil, List.cons_append, List.nil_append, List.append_nil, List.replicate_succ, List.replicate_zero, Nat.reduceAdd, Nat.reduceSub, Nat.reduceLeDiff, Nat.reduceEqDiff, List.take_length, List.length_map, List.length_append, List.take_left', List.take_append_of_le_length, Nat.le_refl, Nat.zero_add, Nat.add_zero, and_true, true_and, true_or, or_true, Int.mul_one, Int.one_mul, Nat.one_mul, Nat.mul_one, and_false, false_and, if_pos, if_neg, reduceIte, reduceCtorEq, not_true_eq_false, not_false_eq_true, Bool.not_true, Bool.not_false, beq_self_eq_true, Bool.or_true, Bool.true_or, Bool.or_false, Bool.false_or, Bool.and_true, Bool.true_and, Bool.and_false, Bool.false_and, String.reduceBEq, at0, at1, at2, at3, Int.cast_ofNat_Int, decide_true, decide_false, decide_eq_true_eq, decide_eq_false_iff_not, Bool.not_eq_true', Bool.not_eq_eq_eq_not, Int.reduceSub, Int.reduceNeg, Int.reduceAdd, Int.reduceMul, Int.reduceLT, Int.reduceLE, Int.reduceEq, Int.reducePow, Int.reduceToNat, sumD_map, allD_map, anyD_map, srtD_map, srtD_mapT, tupD, lstD, List.getElem?_cons_zero, List.getElem?_cons_succ, List.set_cons_zero, List.set_cons_succ, Option.some.injEq, Option.map_some, Option.map_none, Bool.false_eq_true, if_true, if_false, hz, e, total_ok hll hp]
    omega))
theorem price_of_ok {l l2 : Bool} {m : Nat} {ws : List Int} (t : Tab m ws) {ps : List Fr} (hm : ps.length = m) (h : ∀ p ∈ ps, Pr p) {lot : List Nat} (hl : Lot m lot) {st : Sto} {Q : DV → Sto → Prop} :
    Ok (f_price_of [.im (tabD l m ws), .im (lotD lot), .im (seqD l2 (ps.map frD))]) st Q ↔ Q (.im (frD (red ((prs ps lot).foldl rawF (0, 1)).1 ((prs ps lot).foldl rawF (0, 1)).2))) st := ok_eq (eq_ok (by
  unfold f_price_of b_price_of
  have hp : ∀ p ∈ prs ps lot, 1 ≤ p.2 := fun p hp => by
    obtain ⟨t, ht, rfl⟩ := List.mem_map.mp hp
    have := hl.lt t ht
    rw [List.getD_eq_getElem?_getD, List.getElem?_eq_getElem (by omega)]
    exact (h _ (List.getElem_mem _)).pos
  have e := fold_red (prs ps lot) (0, 1) (by decide) hp
  have e0 : red (0, 1).1 (0, 1).2 = ((0, 1) : Fr) := rfl
  rw [e0] at e
  simp only [ok_callD, ok_bind, ok_ret, ok_some, ok_none, ok_fail, ok_ifF, ok_lif, ok_var, ok_C, ok_rdim, ok_toim, ok_bin, ok_fTst, ok_fAnd, ok_fOr, ok_fNot, ok_chn, startD, outD, fThen, fSet, fAsg, fPar, fPar3, fIfS, fRet, fDrop, fEnd, fBrk, fCnt, fNotT, fAndT, fOrT, fIf, fIsi, fIsi2, fCall, fCallK, fCons, fNil, fCa, fTup, fLst, fLstM, mkM, fApp, appV, ok_putM, get_last, set_last, take_last, gAdd_int, L2.CDiv, L2.CMul, L2.CPow, fIx, ok_ixR, ok_ixI, ok_lenR, ok_callM, fNeg, fRev, fSl, slD, cut1, fON, fOS, fYes, ok_lc, ok_lcBody, ok_for, ok_newM, wipeD, ok_seqL, ok_seqT, ok_seqR, allD_mapF, anyD_mapF, sumD_mapF, List.all_map, fSeq, fRng1, fRng2, fEnum, fZip, gtName, gtSub, gtNil, gtCons, gtTup, mkT, mkL, toDs, DL.gD, gD.rds, c1, c2, ok_lenL, ok_lenT, eq_self, DL.gSub, gMul_int, take_set, ixn20, Int.toNat_natCast, ixn21, List.set_set, gFdv, gMod, gPow, gI, gI0, gLt, gLe, gGt, gGe, gIs, gIt, isN, absD, DL.intD, max2, min2, dmod, ixD_l, ixD_t, isiD, tyD, gsel, gEq_int, gNe_int, gEq_str, gNe_str, List.map_cons, List.map_nil, List.length_cons, List.length_nil, List.cons_append, List.nil_append, List.append_nil, List.replicate_succ, List.replicate_zero, Nat.reduceAdd, Nat.reduceSub, Nat.reduceLeDiff, Nat.reduceEqDiff, List.take_length, List.length_map, List.length_append, List.take_left', List.take_append_of_le_length, Nat.le_refl, Nat.zero_add, Nat.add_zero, and_true, true_and, true_or, or_true, Int.mul_one, Int.one_mul, Nat.one_mul, Nat.mul_one, and_false, false_and, if_pos, if_neg, reduceIte, reduceCtorEq, not_true_eq_false, not_false_eq_true, Bool.not_true, Bool.not_false, beq_self_eq_true, Bool.or_true, Bool.true_or, Bool.or_false, Bool.false_or, Bool.and_true, Bool.true_and, Bool.and_false, Bool.false_and, String.reduceBEq, at0, at1, at2, at3, Int.cast_ofNat_Int, decide_true, decide_false, decide_eq_true_eq, decide_eq_false_iff_not, Bool.not_eq_true', Bool.not_eq_eq_eq_not, Int.reduceSub, Int.reduceNeg, Int.reduceAdd, Int.reduceMul, Int.reduceLT, Int.reduceLE, Int.reduceEq, Int.reducePow, Int.reduceToNat, sumD_map, allD_map, anyD_map, srtD_map, srtD_mapT, tupD, lstD, List.getElem?_cons_zero, List.getElem?_cons_succ, List.set_cons_zero, List.set_cons_succ, Option.some.injEq, Option.map_some, Option.map_none, Bool.false_eq_true, if_true, if_false, check_table_ok t, check_lot_ok hl, tab0, prices_ok hm t.hi h, price_by_ok hm t.hi h hl, e]))
end G11
namespace G11
open PySem DL
def GoodC (c : Cell) : Prop := ∃ p q : Int, c = (true, [.int p, .int q]) ∧ 0 ≤ p ∧ 0 ≤ q ∧ q < 2147483648
theorem pot_ok {ns : List Int} {k : Nat} (hk : k < 10) {st : Sto} : Ok (f__law_pot [.ro ns, .im (.int (k : Nat))]) st fun r s => ∃ c, r = .mu st.length ∧ s = st ++ [c] ∧ GoodC c := by
  unfold f__law_pot b__law_pot
  simp only [ok_callD, ok_bind, ok_ret, ok_some, ok_none, ok_fail, ok_ifF, ok_lif, ok_var, ok_C, ok_rdim, ok_toim, ok_bin, ok_fTst, ok_fAnd, ok_fOr, ok_fNot, ok_chn, startD, outD, fThen, fSet, fAsg, fPar, fPar3, fIfS, fRet, fDrop, fEnd, fBrk, fCnt, fNotT, fAndT, fOrT, fIf, fIsi, fIsi2, fCall, fCallK, fCons, fNil, fCa, fTup, fLst, fLstM, mkM, fApp, appV, ok_putM, get_last, set_last, take_last, gAdd_int, L2.CDiv, L2.CMul, L2.CPow, fIx, ok_ixR, ok_ixI, ok_lenR, ok_callM, fNeg, fRev, fSl, slD, cut1, fON, fOS, fYes, ok_lc, ok_lcBody, ok_for, ok_newM, wipeD, ok_seqL, ok_seqT, ok_seqR, allD_mapF, anyD_mapF, sumD_mapF, List.all_map, fSeq, fRng1, fRng2, fEnum, fZip, gtName, gtSub, gtNil, gtCons, gtTup, mkT, mkL, toDs, DL.gD, gD.rds, c1, c2, ok_lenL, ok_lenT, eq_self, DL.gSub, gMul_int, take_set, ixn20, Int.toNat_natCast, ixn21, List.set_set, gFdv, gMod, gPow, gI, gI0, gLt, gLe, gGt, gGe, gIs, gIt, isN, absD, DL.intD, max2, min2, dmod, ixD_l, ixD_t, isiD, tyD, gsel, gEq_int, gNe_int, gEq_str, gNe_str, List.map_cons, List.map_nil, List.length_cons, List.length_nil, List.cons_append, List.nil_append, List.append_nil, List.replicate_succ, List.replicate_zero, Nat.reduceAdd, Nat.reduceSub, Nat.reduceLeDiff, Nat.reduceEqDiff, List.take_length, List.length_map, List.length_append, List.take_left', List.take_append_of_le_length, Nat.le_refl, Nat.zero_add, Nat.add_zero, and_true, true_and, true_or, or_true, Int.mul_one, Int.one_mul, Nat.one_mul, Nat.mul_one, and_false, false_and, if_pos, if_neg, reduceIte, reduceCtorEq, not_true_eq_false, not_false_eq_true, Bool.not_true, Bool.not_false, beq_self_eq_true, Bool.or_true, Bool.true_or, Bool.or_false, Bool.false_or, Bool.and_true, Bool.true_and, Bool.and_false, Bool.false_and, String.reduceBEq, at0, at1, at2, at3, Int.cast_ofNat_Int, decide_true, decide_false, decide_eq_true_eq, decide_eq_false_iff_not, Bool.not_eq_true', Bool.not_eq_eq_eq_not, Int.reduceSub, Int.reduceNeg, Int.reduceAdd, Int.reduceMul, Int.reduceLT, Int.reduceLE, Int.reduceEq, Int.reducePow, Int.reduceToNat, sumD_map, allD_map, anyD_map, srtD_map, srtD_mapT, tupD, lstD, List.getElem?_cons_zero, List.getElem?_cons_succ, List.set_cons_zero, List.set_cons_succ, Option.some.injEq, Option.map_some, Option.map_none, Bool.false_eq_true, if_true, if_false]
  refine ok_mono (Q := fun b s => ∃ v : Int, 0 ≤ v ∧ b = .im (.int v) ∧ s = st) ?_ ?_
  · by_cases hl : (k : Int) < (ns.length : Int)
    · have e : ns[k]? = some (ns[k]'(by omega)) := List.getElem?_eq_getElem (by omega)
      simp only [ok_callD, ok_bind, ok_ret, ok_some, ok_none, ok_fail, ok_ifF, ok_lif, ok_var, ok_C, ok_rdim, ok_toim, ok_bin, ok_fTst, ok_fAnd, ok_fOr, ok_fNot, ok_chn, startD, outD, fThen, fSet, fAsg, fPar, fPar3, fIfS, fRet, fDrop, fEnd, fBrk, fCnt, fNotT, fAndT, fOrT, fIf, fIsi, fIsi2, fCall, fCallK, fCons, fNil, fCa, fTup, fLst, fLstM, mkM, fApp, appV, ok_putM, get_last, set_last, take_last, gAdd_int, L2.CDiv, L2.CMul, L2.CPow, fIx, ok_ixR, ok_ixI, ok_lenR, ok_callM, fNeg, fRev, fSl, slD, cut1, fON, fOS, fYes, ok_lc, ok_lcBody, ok_for, ok_newM, wipeD, ok_seqL, ok_seqT, ok_seqR, allD_mapF, anyD_mapF, sumD_mapF, List.all_map, fSeq, fRng1, fRng2, fEnum, fZip, gtName, gtSub, gtNil, gtCons, gtTup, mkT, mkL, toDs, DL.gD, gD.rds, c1, c2, ok_lenL, ok_lenT, eq_self, DL.gSub, gMul_int, take_set, ixn20, Int.toNat_natCast, ixn21, List.set_set, gFdv, gMod, gPow, gI, gI0, gLt, gLe, gGt, gGe, gIs, gIt, isN, absD, DL.intD, max2, min2, dmod, ixD_l, ixD_t, isiD, tyD, gsel, gEq_int, gNe_int, gEq_str, gNe_str, List.map_cons, List.map_nil, List.length_cons, List.length_nil, List.cons_append, List.nil_append, List.append_nil, List.replicate_succ, List.replicate_zero, Nat.reduceAdd, Nat.reduceSub, Nat.reduceLeDiff, Nat.reduceEqDiff, List.take_length, List.length_map, List.length_append, List.take_left', List.take_append_of_le_length, Nat.le_refl, Nat.zero_add, Nat.add_zero, and_true, true_and, true_or, or_true, Int.mul_one, Int.one_mul, Nat.one_mul, Nat.mul_one, and_false, false_and, if_pos, if_neg, reduceIte, reduceCtorEq, not_true_eq_false, not_false_eq_true, Bool.not_true, Bool.not_false, beq_self_eq_true, Bool.or_true, Bool.true_or, Bool.or_false, Bool.false_or, Bool.and_true, Bool.true_and, Bool.and_false, Bool.false_and, String.reduceBEq, at0, at1, at2, at3, Int.cast_ofNat_Int, decide_true, decide_false, decide_eq_true_eq, decide_eq_false_iff_not, Bool.not_eq_true', Bool.not_eq_eq_eq_not, Int.reduceSub, Int.reduceNeg, Int.reduceAdd, Int.reduceMul, Int.reduceLT, Int.reduceLE, Int.reduceEq, Int.reducePow, Int.reduceToNat, sumD_map, allD_map, anyD_map, srtD_map, srtD_mapT, tupD, lstD, List.getElem?_cons_zero, List.getElem?_cons_succ, List.set_cons_zero, List.set_cons_succ, Option.some.injEq, Option.map_some, Option.map_none, Bool.false_eq_true, if_true, if_false, hl]
      rw [atI_nat (j := k) rfl, e]
      simp only [ok_callD, ok_bind, ok_ret, ok_some, ok_none, ok_fail, ok_ifF, ok_lif, ok_var, ok_C, ok_rdim, ok_toim, ok_bin, ok_fTst, ok_fAnd, ok_fOr, ok_fNot, ok_chn, startD, outD, fThen, fSet, fAsg, fPar, fPar3, fIfS, fRet, fDrop, fEnd, fBrk, fCnt, fNotT, fAndT, fOrT, fIf, fIsi, fIsi2, fCall, fCallK, fCons, fNil, fCa, fTup, fLst, fLstM, mkM, fApp, appV, ok_putM, get_last, set_last, take_last, gAdd_int, L2.CDiv, L2.CMul, L2.CPow, fIx, ok_ixR, ok_ixI, ok_lenR, ok_callM, fNeg, fRev, fSl, slD, cut1, fON, fOS, fYes, ok_lc, ok_lcBody, ok_for, ok_newM, wipeD, ok_seqL, ok_seqT, ok_seqR, allD_mapF, anyD_mapF, sumD_mapF, List.all_map, fSeq, fRng1, fRng2, fEnum, fZip, gtName, gtSub, gtNil, gtCons, gtTup, mkT, mkL, toDs, DL.gD, gD.rds, c1, c2, ok_lenL, ok_lenT, eq_self, DL.gSub, gMul_int, take_set, ixn20, Int.toNat_natCast, ixn21, List.set_set, gFdv, gMod, gPow, gI, gI0, gLt, gLe, gGt, gGe, gIs, gIt, isN, absD, DL.intD, max2, min2, dmod, ixD_l, ixD_t, isiD, tyD, gsel, gEq_int, gNe_int, gEq_str, gNe_str, List.map_cons, List.map_nil, List.length_cons, List.length_nil, List.cons_append, List.nil_append, List.append_nil, List.replicate_succ, List.replicate_zero, Nat.reduceAdd, Nat.reduceSub, Nat.reduceLeDiff, Nat.reduceEqDiff, List.take_length, List.length_map, List.length_append, List.take_left', List.take_append_of_le_length, Nat.le_refl, Nat.zero_add, Nat.add_zero, and_true, true_and, true_or, or_true, Int.mul_one, Int.one_mul, Nat.one_mul, Nat.mul_one, and_false, false_and, if_pos, if_neg, reduceIte, reduceCtorEq, not_true_eq_false, not_false_eq_true, Bool.not_true, Bool.not_false, beq_self_eq_true, Bool.or_true, Bool.true_or, Bool.or_false, Bool.false_or, Bool.and_true, Bool.true_and, Bool.and_false, Bool.false_and, String.reduceBEq, at0, at1, at2, at3, Int.cast_ofNat_Int, decide_true, decide_false, decide_eq_true_eq, decide_eq_false_iff_not, Bool.not_eq_true', Bool.not_eq_eq_eq_not, Int.reduceSub, Int.reduceNeg, Int.reduceAdd, Int.reduceMul, Int.reduceLT, Int.reduceLE, Int.reduceEq, Int.reducePow, Int.reduceToNat, sumD_map, allD_map, anyD_map, srtD_map, srtD_mapT, tupD, lstD, List.getElem?_cons_zero, List.getElem?_cons_succ, List.set_cons_zero, List.set_cons_succ, Option.some.injEq, Option.map_some, Option.map_none, Bool.false_eq_true, if_true, if_false, abs_nat]
      exact ⟨((ns[k]'(by omega)).natAbs : Int), by omega, rfl⟩
    · have c : (-18446744073709551616 < (k : Int) ∧ (k : Int) < 18446744073709551616) := by omega
      simp only [ok_callD, ok_bind, ok_ret, ok_some, ok_none, ok_fail, ok_ifF, ok_lif, ok_var, ok_C, ok_rdim, ok_toim, ok_bin, ok_fTst, ok_fAnd, ok_fOr, ok_fNot, ok_chn, startD, outD, fThen, fSet, fAsg, fPar, fPar3, fIfS, fRet, fDrop, fEnd, fBrk, fCnt, fNotT, fAndT, fOrT, fIf, fIsi, fIsi2, fCall, fCallK, fCons, fNil, fCa, fTup, fLst, fLstM, mkM, fApp, appV, ok_putM, get_last, set_last, take_last, gAdd_int, L2.CDiv, L2.CMul, L2.CPow, fIx, ok_ixR, ok_ixI, ok_lenR, ok_callM, fNeg, fRev, fSl, slD, cut1, fON, fOS, fYes, ok_lc, ok_lcBody, ok_for, ok_newM, wipeD, ok_seqL, ok_seqT, ok_seqR, allD_mapF, anyD_mapF, sumD_mapF, List.all_map, fSeq, fRng1, fRng2, fEnum, fZip, gtName, gtSub, gtNil, gtCons, gtTup, mkT, mkL, toDs, DL.gD, gD.rds, c1, c2, ok_lenL, ok_lenT, eq_self, DL.gSub, gMul_int, take_set, ixn20, Int.toNat_natCast, ixn21, List.set_set, gFdv, gMod, gPow, gI, gI0, gLt, gLe, gGt, gGe, gIs, gIt, isN, absD, DL.intD, max2, min2, dmod, ixD_l, ixD_t, isiD, tyD, gsel, gEq_int, gNe_int, gEq_str, gNe_str, List.map_cons, List.map_nil, List.length_cons, List.length_nil, List.cons_append, List.nil_append, List.append_nil, List.replicate_succ, List.replicate_zero, Nat.reduceAdd, Nat.reduceSub, Nat.reduceLeDiff, Nat.reduceEqDiff, List.take_length, List.length_map, List.length_append, List.take_left', List.take_append_of_le_length, Nat.le_refl, Nat.zero_add, Nat.add_zero, and_true, true_and, true_or, or_true, Int.mul_one, Int.one_mul, Nat.one_mul, Nat.mul_one, and_false, false_and, if_pos, if_neg, reduceIte, reduceCtorEq, not_true_eq_false, not_false_eq_true, Bool.not_true, Bool.not_false, beq_self_eq_true, Bool.or_true, Bool.true_or, Bool.or_false, Bool.false_or, Bool.and_true, Bool.true_and, Bool.and_false, Bool.false_and, String.reduceBEq, at0, at1, at2, at3, Int.cast_ofNat_Int, decide_true, decide_false, decide_eq_true_eq, decide_eq_false_iff_not, Bool.not_eq_true', Bool.not_eq_eq_eq_not, Int.reduceSub, Int.reduceNeg, Int.reduceAdd, Int.reduceMul, Int.reduceLT, Int.reduceLE, Int.reduceEq, Int.reducePow, Int.reduceToNat, sumD_map, allD_map, anyD_map, srtD_map, srtD_mapT, tupD, lstD, List.getElem?_cons_zero, List.getElem?_cons_succ, List.set_cons_zero, List.set_cons_succ, Option.some.injEq, Option.map_some, Option.map_none, Bool.false_eq_true, if_true, if_false, hl]
      exact ⟨4007 * (k : Int) + 3329, by omega, rfl⟩
  · rintro b s ⟨v, hv, rfl, rfl⟩
    have z : Int.natAbs 10 < 2 ^ 64 := by decide
    simp only [ok_callD, ok_bind, ok_ret, ok_some, ok_none, ok_fail, ok_ifF, ok_lif, ok_var, ok_C, ok_rdim, ok_toim, ok_bin, ok_fTst, ok_fAnd, ok_fOr, ok_fNot, ok_chn, startD, outD, fThen, fSet, fAsg, fPar, fPar3, fIfS, fRet, fDrop, fEnd, fBrk, fCnt, fNotT, fAndT, fOrT, fIf, fIsi, fIsi2, fCall, fCallK, fCons, fNil, fCa, fTup, fLst, fLstM, mkM, fApp, appV, ok_putM, get_last, set_last, take_last, gAdd_int, L2.CDiv, L2.CMul, L2.CPow, fIx, ok_ixR, ok_ixI, ok_lenR, ok_callM, fNeg, fRev, fSl, slD, cut1, fON, fOS, fYes, ok_lc, ok_lcBody, ok_for, ok_newM, wipeD, ok_seqL, ok_seqT, ok_seqR, allD_mapF, anyD_mapF, sumD_mapF, List.all_map, fSeq, fRng1, fRng2, fEnum, fZip, gtName, gtSub, gtNil, gtCons, gtTup, mkT, mkL, toDs, DL.gD, gD.rds, c1, c2, ok_lenL, ok_lenT, eq_self, DL.gSub, gMul_int, take_set, ixn20, Int.toNat_natCast, ixn21, List.set_set, gFdv, gMod, gPow, gI, gI0, gLt, gLe, gGt, gGe, gIs, gIt, isN, absD, DL.intD, max2, min2, dmod, ixD_l, ixD_t, isiD, tyD, gsel, gEq_int, gNe_int, gEq_str, gNe_str, List.map_cons, List.map_nil, List.length_cons, List.length_nil, List.cons_append, List.nil_append, List.append_nil, List.replicate_succ, List.replicate_zero, Nat.reduceAdd, Nat.reduceSub, Nat.reduceLeDiff, Nat.reduceEqDiff, List.take_length, List.length_map, List.length_append, List.take_left', List.take_append_of_le_length, Nat.le_refl, Nat.zero_add, Nat.add_zero, and_true, true_and, true_or, or_true, Int.mul_one, Int.one_mul, Nat.one_mul, Nat.mul_one, and_false, false_and, if_pos, if_neg, reduceIte, reduceCtorEq, not_true_eq_false, not_false_eq_true, Bool.not_true, Bool.not_false, beq_self_eq_true, Bool.or_true, Bool.true_or, Bool.or_false, Bool.false_or, Bool.and_true, Bool.true_and, Bool.and_false, Bool.false_and, String.reduceBEq, at0, at1, at2, at3, Int.cast_ofNat_Int, decide_true, decide_false, decide_eq_true_eq, decide_eq_false_iff_not, Bool.not_eq_true', Bool.not_eq_eq_eq_not, Int.reduceSub, Int.reduceNeg, Int.reduceAdd, Int.reduceMul, Int.reduceLT, Int.reduceLE, Int.reduceEq, Int.reducePow, Int.reduceToNat, sumD_map, allD_map, anyD_map, srtD_map, srtD_mapT, tupD, lstD, List.getElem?_cons_zero, List.getElem?_cons_succ, List.set_cons_zero, List.set_cons_succ, Option.some.injEq, Option.map_some, Option.map_none, Bool.false_eq_true, if_true, if_false, z]
    refine ⟨s.length, _, rfl, Nat.le_refl _, get_last, _, rfl, _, _, rfl, ?_, ?_, ?_⟩
    · split <;> omega
    · omega
    · omega
theorem draw_ok {st : Sto} {i : Nat} {m : Int} {c : Cell} (h : st[i]? = some c) (g : GoodC c) (hm : 0 < m) (hm2 : m < 1000) : Ok (f__law_draw [.mu i, .im (.int m)]) st fun r s => ∃ d c', r = .im (.int d) ∧ 0 ≤ d ∧ d < m ∧ s = st.set i c' ∧ GoodC c' := by
  obtain ⟨p, q, rfl, p0, q0, q1⟩ := g
  have hi : i < st.length := (List.getElem?_eq_some_iff.mp h).1
  unfold f__law_draw b__law_draw
  simp only [ok_callD, ok_bind, ok_ret, ok_some, ok_none, ok_fail, ok_ifF, ok_lif, ok_var, ok_C, ok_rdim, ok_toim, ok_bin, ok_fTst, ok_fAnd, ok_fOr, ok_fNot, ok_chn, startD, outD, fThen, fSet, fAsg, fPar, fPar3, fIfS, fRet, fDrop, fEnd, fBrk, fCnt, fNotT, fAndT, fOrT, fIf, fIsi, fIsi2, fCall, fCallK, fCons, fNil, fCa, fTup, fLst, fLstM, mkM, fApp, appV, ok_putM, get_last, set_last, take_last, gAdd_int, L2.CDiv, L2.CMul, L2.CPow, fIx, ok_ixR, ok_ixI, ok_lenR, ok_callM, fNeg, fRev, fSl, slD, cut1, fON, fOS, fYes, ok_lc, ok_lcBody, ok_for, ok_newM, wipeD, ok_seqL, ok_seqT, ok_seqR, allD_mapF, anyD_mapF, sumD_mapF, List.all_map, fSeq, fRng1, fRng2, fEnum, fZip, gtName, gtSub, gtNil, gtCons, gtTup, mkT, mkL, toDs, DL.gD, gD.rds, c1, c2, ok_lenL, ok_lenT, eq_self, DL.gSub, gMul_int, take_set, ixn20, Int.toNat_natCast, ixn21, List.set_set, gFdv, gMod, gPow, gI, gI0, gLt, gLe, gGt, gGe, gIs, gIt, isN, absD, DL.intD, max2, min2, dmod, ixD_l, ixD_t, isiD, tyD, gsel, gEq_int, gNe_int, gEq_str, gNe_str, List.map_cons, List.map_nil, List.length_cons, List.length_nil, List.cons_append, List.nil_append, List.append_nil, List.replicate_succ, List.replicate_zero, Nat.reduceAdd, Nat.reduceSub, Nat.reduceLeDiff, Nat.reduceEqDiff, List.take_length, List.length_map, List.length_append, List.take_left', List.take_append_of_le_length, Nat.le_refl, Nat.zero_add, Nat.add_zero, and_true, true_and, true_or, or_true, Int.mul_one, Int.one_mul, Nat.one_mul, Nat.mul_one, and_false, false_and, if_pos, if_neg, reduceIte, reduceCtorEq, not_true_eq_false, not_false_eq_true, Bool.not_true, Bool.not_false, beq_self_eq_true, Bool.or_true, Bool.true_or, Bool.or_false, Bool.false_or, Bool.and_true, Bool.true_and, Bool.and_false, Bool.false_and, String.reduceBEq, at0, at1, at2, at3, Int.cast_ofNat_Int, decide_true, decide_false, decide_eq_true_eq, decide_eq_false_iff_not, Bool.not_eq_true', Bool.not_eq_eq_eq_not, Int.reduceSub, Int.reduceNeg, Int.reduceAdd, Int.reduceMul, Int.reduceLT, Int.reduceLE, Int.reduceEq, Int.reducePow, Int.reduceToNat, sumD_map, allD_map, anyD_map, srtD_map, srtD_mapT, tupD, lstD, List.getElem?_cons_zero, List.getElem?_cons_succ, List.set_cons_zero, List.set_cons_succ, Option.some.injEq, Option.map_some, Option.map_none, Bool.false_eq_true, if_true, if_false, ok_ixM h]
  have h2 : ∀ c : Cell, (st.set i c)[i]? = some c := fun c => List.getElem?_set_self hi
  by_cases hp : 0 < p
  · have hm3 : m < 1073741824 := by omega
    simp only [ok_callD, ok_bind, ok_ret, ok_some, ok_none, ok_fail, ok_ifF, ok_lif, ok_var, ok_C, ok_rdim, ok_toim, ok_bin, ok_fTst, ok_fAnd, ok_fOr, ok_fNot, ok_chn, startD, outD, fThen, fSet, fAsg, fPar, fPar3, fIfS, fRet, fDrop, fEnd, fBrk, fCnt, fNotT, fAndT, fOrT, fIf, fIsi, fIsi2, fCall, fCallK, fCons, fNil, fCa, fTup, fLst, fLstM, mkM, fApp, appV, ok_putM, get_last, set_last, take_last, gAdd_int, L2.CDiv, L2.CMul, L2.CPow, fIx, ok_ixR, ok_ixI, ok_lenR, ok_callM, fNeg, fRev, fSl, slD, cut1, fON, fOS, fYes, ok_lc, ok_lcBody, ok_for, ok_newM, wipeD, ok_seqL, ok_seqT, ok_seqR, allD_mapF, anyD_mapF, sumD_mapF, List.all_map, fSeq, fRng1, fRng2, fEnum, fZip, gtName, gtSub, gtNil, gtCons, gtTup, mkT, mkL, toDs, DL.gD, gD.rds, c1, c2, ok_lenL, ok_lenT, eq_self, DL.gSub, gMul_int, take_set, ixn20, Int.toNat_natCast, ixn21, List.set_set, gFdv, gMod, gPow, gI, gI0, gLt, gLe, gGt, gGe, gIs, gIt, isN, absD, DL.intD, max2, min2, dmod, ixD_l, ixD_t, isiD, tyD, gsel, gEq_int, gNe_int, gEq_str, gNe_str, List.map_cons, List.map_nil, List.length_cons, List.length_nil, List.cons_append, List.nil_append, List.append_nil, List.replicate_succ, List.replicate_zero, Nat.reduceAdd, Nat.reduceSub, Nat.reduceLeDiff, Nat.reduceEqDiff, List.take_length, List.length_map, List.length_append, List.take_left', List.take_append_of_le_length, Nat.le_refl, Nat.zero_add, Nat.add_zero, and_true, true_and, true_or, or_true, Int.mul_one, Int.one_mul, Nat.one_mul, Nat.mul_one, and_false, false_and, if_pos, if_neg, reduceIte, reduceCtorEq, not_true_eq_false, not_false_eq_true, Bool.not_true, Bool.not_false, beq_self_eq_true, Bool.or_true, Bool.true_or, Bool.or_false, Bool.false_or, Bool.and_true, Bool.true_and, Bool.and_false, Bool.false_and, String.reduceBEq, at0, at1, at2, at3, Int.cast_ofNat_Int, decide_true, decide_false, decide_eq_true_eq, decide_eq_false_iff_not, Bool.not_eq_true', Bool.not_eq_eq_eq_not, Int.reduceSub, Int.reduceNeg, Int.reduceAdd, Int.reduceMul, Int.reduceLT, Int.reduceLE, Int.reduceEq, Int.reducePow, Int.reduceToNat, sumD_map, allD_map, anyD_map, srtD_map, srtD_mapT, tupD, lstD, List.getElem?_cons_zero, List.getElem?_cons_succ, List.set_cons_zero, List.set_cons_succ, Option.some.injEq, Option.map_some, Option.map_none, Bool.false_eq_true, if_true, if_false, hp, ok_ixM h, ok_set rfl rfl, ok_getM h, hm, hm3]
    exact ⟨p % m, _, rfl, Int.emod_nonneg _ (by omega), Int.emod_lt_of_pos _ hm, rfl, p / m, q, rfl, Int.ediv_nonneg p0 (by omega), q0, q1⟩
  · simp only [ok_callD, ok_bind, ok_ret, ok_some, ok_none, ok_fail, ok_ifF, ok_lif, ok_var, ok_C, ok_rdim, ok_toim, ok_bin, ok_fTst, ok_fAnd, ok_fOr, ok_fNot, ok_chn, startD, outD, fThen, fSet, fAsg, fPar, fPar3, fIfS, fRet, fDrop, fEnd, fBrk, fCnt, fNotT, fAndT, fOrT, fIf, fIsi, fIsi2, fCall, fCallK, fCons, fNil, fCa, fTup, fLst, fLstM, mkM, fApp, appV, ok_putM, get_last, set_last, take_last, gAdd_int, L2.CDiv, L2.CMul, L2.CPow, fIx, ok_ixR, ok_ixI, ok_lenR, ok_callM, fNeg, fRev, fSl, slD, cut1, fON, fOS, fYes, ok_lc, ok_lcBody, ok_for, ok_newM, wipeD, ok_seqL, ok_seqT, ok_seqR, allD_mapF, anyD_mapF, sumD_mapF, List.all_map, fSeq, fRng1, fRng2, fEnum, fZip, gtName, gtSub, gtNil, gtCons, gtTup, mkT, mkL, toDs, DL.gD, gD.rds, c1, c2, ok_lenL, ok_lenT, eq_self, DL.gSub, gMul_int, take_set, ixn20, Int.toNat_natCast, ixn21, List.set_set, gFdv, gMod, gPow, gI, gI0, gLt, gLe, gGt, gGe, gIs, gIt, isN, absD, DL.intD, max2, min2, dmod, ixD_l, ixD_t, isiD, tyD, gsel, gEq_int, gNe_int, gEq_str, gNe_str, List.map_cons, List.map_nil, List.length_cons, List.length_nil, List.cons_append, List.nil_append, List.append_nil, List.replicate_succ, List.replicate_zero, Nat.reduceAdd, Nat.reduceSub, Nat.reduceLeDiff, Nat.reduceEqDiff, List.take_length, List.length_map, List.length_append, List.take_left', List.take_append_of_le_length, Nat.le_refl, Nat.zero_add, Nat.add_zero, and_true, true_and, true_or, or_true, Int.mul_one, Int.one_mul, Nat.one_mul, Nat.mul_one, and_false, false_and, if_pos, if_neg, reduceIte, reduceCtorEq, not_true_eq_false, not_false_eq_true, Bool.not_true, Bool.not_false, beq_self_eq_true, Bool.or_true, Bool.true_or, Bool.or_false, Bool.false_or, Bool.and_true, Bool.true_and, Bool.and_false, Bool.false_and, String.reduceBEq, at0, at1, at2, at3, Int.cast_ofNat_Int, decide_true, decide_false, decide_eq_true_eq, decide_eq_false_iff_not, Bool.not_eq_true', Bool.not_eq_eq_eq_not, Int.reduceSub, Int.reduceNeg, Int.reduceAdd, Int.reduceMul, Int.reduceLT, Int.reduceLE, Int.reduceEq, Int.reducePow, Int.reduceToNat, sumD_map, allD_map, anyD_map, srtD_map, srtD_mapT, tupD, lstD, List.getElem?_cons_zero, List.getElem?_cons_succ, List.set_cons_zero, List.set_cons_succ, Option.some.injEq, Option.map_some, Option.map_none, Bool.false_eq_true, if_true, if_false, hp, ok_ixM h, ok_set rfl rfl, ok_getM h, hm, ok_ixM (h2 _)]
    have c : (-18446744073709551616 < (q * 40692 + 12041) % 2147483563 ∧ (q * 40692 + 12041) % 2147483563 < 18446744073709551616) := by omega
    simp only [ok_callD, ok_bind, ok_ret, ok_some, ok_none, ok_fail, ok_ifF, ok_lif, ok_var, ok_C, ok_rdim, ok_toim, ok_bin, ok_fTst, ok_fAnd, ok_fOr, ok_fNot, ok_chn, startD, outD, fThen, fSet, fAsg, fPar, fPar3, fIfS, fRet, fDrop, fEnd, fBrk, fCnt, fNotT, fAndT, fOrT, fIf, fIsi, fIsi2, fCall, fCallK, fCons, fNil, fCa, fTup, fLst, fLstM, mkM, fApp, appV, ok_putM, get_last, set_last, take_last, gAdd_int, L2.CDiv, L2.CMul, L2.CPow, fIx, ok_ixR, ok_ixI, ok_lenR, ok_callM, fNeg, fRev, fSl, slD, cut1, fON, fOS, fYes, ok_lc, ok_lcBody, ok_for, ok_newM, wipeD, ok_seqL, ok_seqT, ok_seqR, allD_mapF, anyD_mapF, sumD_mapF, List.all_map, fSeq, fRng1, fRng2, fEnum, fZip, gtName, gtSub, gtNil, gtCons, gtTup, mkT, mkL, toDs, DL.gD, gD.rds, c1, c2, ok_lenL, ok_lenT, eq_self, DL.gSub, gMul_int, take_set, ixn20, Int.toNat_natCast, ixn21, List.set_set, gFdv, gMod, gPow, gI, gI0, gLt, gLe, gGt, gGe, gIs, gIt, isN, absD, DL.intD, max2, min2, dmod, ixD_l, ixD_t, isiD, tyD, gsel, gEq_int, gNe_int, gEq_str, gNe_str, List.map_cons, List.map_nil, List.length_cons, List.length_nil, List.cons_append, List.nil_append, List.append_nil, List.replicate_succ, List.replicate_zero, Nat.reduceAdd, Nat.reduceSub, Nat.reduceLeDiff, Nat.reduceEqDiff, List.take_length, List.length_map, List.length_append, List.take_left', List.take_append_of_le_length, Nat.le_refl, Nat.zero_add, Nat.add_zero, and_true, true_and, true_or, or_true, Int.mul_one, Int.one_mul, Nat.one_mul, Nat.mul_one, and_false, false_and, if_pos, if_neg, reduceIte, reduceCtorEq, not_true_eq_false, not_false_eq_true, Bool.not_true, Bool.not_false, beq_self_eq_true, Bool.or_true, Bool.true_or, Bool.or_false, Bool.false_or, Bool.and_true, Bool.true_and, Bool.and_false, Bool.false_and, String.reduceBEq, at0, at1, at2, at3, Int.cast_ofNat_Int, decide_true, decide_false, decide_eq_true_eq, decide_eq_false_iff_not, Bool.not_eq_true', Bool.not_eq_eq_eq_not, Int.reduceSub, Int.reduceNeg, Int.reduceAdd, Int.reduceMul, Int.reduceLT, Int.reduceLE, Int.reduceEq, Int.reducePow, Int.reduceToNat, sumD_map, allD_map, anyD_map, srtD_map, srtD_mapT, tupD, lstD, List.getElem?_cons_zero, List.getElem?_cons_succ, List.set_cons_zero, List.set_cons_succ, Option.some.injEq, Option.map_some, Option.map_none, Bool.false_eq_true, if_true, if_false, c, hm]
    exact ⟨_, _, rfl, Int.emod_nonneg _ (by omega), Int.emod_lt_of_pos _ hm, rfl, p, _, rfl, p0, by omega, by omega⟩
/-- a draw, then what follows -/
theorem draw_then {st : Sto} {i : Nat} {m : Int} {c : Cell} {Q : DV → Sto → Prop} (h : st[i]? = some c) (g : GoodC c) (hm : 0 < m) (hm2 : m < 1000) (k : ∀ d c', 0 ≤ d → d < m → GoodC c' → Q (.im (.int d)) (st.set i c')) : Ok (f__law_draw [.mu i, .im (.int m)]) st Q :=
  ok_mono (draw_ok h g hm hm2) fun a s ⟨d, c', e1, h1, h2, e2, g'⟩ => by rw [e1, e2]; exact k d c' h1 h2 g'
theorem pick_then {st : Sto} {i : Nat} {xs : List PyData} {c : Cell} {Q : DV → Sto → Prop} (h : st[i]? = some c) (g : GoodC c) (hl : 0 < xs.length) (hl2 : xs.length < 1000) (k : ∀ x ∈ xs, ∀ c', GoodC c' → Q (.im x) (st.set i c')) : Ok (f__law_pick [.mu i, .im (.list xs)]) st Q := by
  unfold f__law_pick b__law_pick
  simp only [ok_callD, ok_bind, ok_ret, ok_some, ok_none, ok_fail, ok_ifF, ok_lif, ok_var, ok_C, ok_rdim, ok_toim, ok_bin, ok_fTst, ok_fAnd, ok_fOr, ok_fNot, ok_chn, startD, outD, fThen, fSet, fAsg, fPar, fPar3, fIfS, fRet, fDrop, fEnd, fBrk, fCnt, fNotT, fAndT, fOrT, fIf, fIsi, fIsi2, fCall, fCallK, fCons, fNil, fCa, fTup, fLst, fLstM, mkM, fApp, appV, ok_putM, get_last, set_last, take_last, gAdd_int, L2.CDiv, L2.CMul, L2.CPow, fIx, ok_ixR, ok_ixI, ok_lenR, ok_callM, fNeg, fRev, fSl, slD, cut1, fON, fOS, fYes, ok_lc, ok_lcBody, ok_for, ok_newM, wipeD, ok_seqL, ok_seqT, ok_seqR, allD_mapF, anyD_mapF, sumD_mapF, List.all_map, fSeq, fRng1, fRng2, fEnum, fZip, gtName, gtSub, gtNil, gtCons, gtTup, mkT, mkL, toDs, DL.gD, gD.rds, c1, c2, ok_lenL, ok_lenT, eq_self, DL.gSub, gMul_int, take_set, ixn20, Int.toNat_natCast, ixn21, List.set_set, gFdv, gMod, gPow, gI, gI0, gLt, gLe, gGt, gGe, gIs, gIt, isN, absD, DL.intD, max2, min2, dmod, ixD_l, ixD_t, isiD, tyD, gsel, gEq_int, gNe_int, gEq_str, gNe_str, List.map_cons, List.map_nil, List.length_cons, List.length_nil, List.cons_append, List.nil_append, List.append_nil, List.replicate_succ, List.replicate_zero, Nat.reduceAdd, Nat.reduceSub, Nat.reduceLeDiff, Nat.reduceEqDiff, List.take_length, List.length_map, List.length_append, List.take_left', List.take_append_of_le_length, Nat.le_refl, Nat.zero_add, Nat.add_zero, and_true, true_and, true_or, or_true, Int.mul_one, Int.one_mul, Nat.one_mul, Nat.mul_one, and_false, false_and, if_pos, if_neg, reduceIte, reduceCtorEq, not_true_eq_false, not_false_eq_true, Bool.not_true, Bool.not_false, beq_self_eq_true, Bool.or_true, Bool.true_or, Bool.or_false, Bool.false_or, Bool.and_true, Bool.true_and, Bool.and_false, Bool.false_and, String.reduceBEq, at0, at1, at2, at3, Int.cast_ofNat_Int, decide_true, decide_false, decide_eq_true_eq, decide_eq_false_iff_not, Bool.not_eq_true', Bool.not_eq_eq_eq_not, Int.reduceSub, Int.reduceNeg, Int.reduceAdd, Int.reduceMul, Int.reduceLT, Int.reduceLE, Int.reduceEq, Int.reducePow, Int.reduceToNat, sumD_map, allD_map, anyD_map, srtD_map, srtD_mapT, tupD, lstD, List.getElem?_cons_zero, List.getElem?_cons_succ, List.set_cons_zero, List.set_cons_succ, Option.some.injEq, Option.map_some, Option.map_none, Bool.false_eq_true, if_true, if_false]
  refine draw_then h g (by omega) (by omega) fun d c' d0 d1 g' => ?_
  have e : xs[d.toNat]? = some (xs[d.toNat]'(by omega)) := List.getElem?_eq_getElem (by omega)
  simp only [ok_callD, ok_bind, ok_ret, ok_some, ok_none, ok_fail, ok_ifF, ok_lif, ok_var, ok_C, ok_rdim, ok_toim, ok_bin, ok_fTst, ok_fAnd, ok_fOr, ok_fNot, ok_chn, startD, outD, fThen, fSet, fAsg, fPar, fPar3, fIfS, fRet, fDrop, fEnd, fBrk, fCnt, fNotT, fAndT, fOrT, fIf, fIsi, fIsi2, fCall, fCallK, fCons, fNil, fCa, fTup, fLst, fLstM, mkM, fApp, appV, ok_putM, get_last, set_last, take_last, gAdd_int, L2.CDiv, L2.CMul, L2.CPow, fIx, ok_ixR, ok_ixI, ok_lenR, ok_callM, fNeg, fRev, fSl, slD, cut1, fON, fOS, fYes, ok_lc, ok_lcBody, ok_for, ok_newM, wipeD, ok_seqL, ok_seqT, ok_seqR, allD_mapF, anyD_mapF, sumD_mapF, List.all_map, fSeq, fRng1, fRng2, fEnum, fZip, gtName, gtSub, gtNil, gtCons, gtTup, mkT, mkL, toDs, DL.gD, gD.rds, c1, c2, ok_lenL, ok_lenT, eq_self, DL.gSub, gMul_int, take_set, ixn20, Int.toNat_natCast, ixn21, List.set_set, gFdv, gMod, gPow, gI, gI0, gLt, gLe, gGt, gGe, gIs, gIt, isN, absD, DL.intD, max2, min2, dmod, ixD_l, ixD_t, isiD, tyD, gsel, gEq_int, gNe_int, gEq_str, gNe_str, List.map_cons, List.map_nil, List.length_cons, List.length_nil, List.cons_append, List.nil_append, List.append_nil, List.replicate_succ, List.replicate_zero, Nat.reduceAdd, Nat.reduceSub, Nat.reduceLeDiff, Nat.reduceEqDiff, List.take_length, List.length_map, List.length_append, List.take_left', List.take_append_of_le_length, Nat.le_refl, Nat.zero_add, Nat.add_zero, and_true, true_and, true_or, or_true, Int.mul_one, Int.one_mul, Nat.one_mul, Nat.mul_one, and_false, false_and, if_pos, if_neg, reduceIte, reduceCtorEq, not_true_eq_false, not_false_eq_true, Bool.not_true, Bool.not_false, beq_self_eq_true, Bool.or_true, Bool.true_or, Bool.or_false, Bool.false_or, Bool.and_true, Bool.true_and, Bool.and_false, Bool.false_and, String.reduceBEq, at0, at1, at2, at3, Int.cast_ofNat_Int, decide_true, decide_false, decide_eq_true_eq, decide_eq_false_iff_not, Bool.not_eq_true', Bool.not_eq_eq_eq_not, Int.reduceSub, Int.reduceNeg, Int.reduceAdd, Int.reduceMul, Int.reduceLT, Int.reduceLE, Int.reduceEq, Int.reducePow, Int.reduceToNat, sumD_map, allD_map, anyD_map, srtD_map, srtD_mapT, tupD, lstD, List.getElem?_cons_zero, List.getElem?_cons_succ, List.set_cons_zero, List.set_cons_succ, Option.some.injEq, Option.map_some, Option.map_none, Bool.false_eq_true, if_true, if_false]
  rw [atI_nat (j := d.toNat) (by omega), e]
  simp only [ok_callD, ok_bind, ok_ret, ok_some, ok_none, ok_fail, ok_ifF, ok_lif, ok_var, ok_C, ok_rdim, ok_toim, ok_bin, ok_fTst, ok_fAnd, ok_fOr, ok_fNot, ok_chn, startD, outD, fThen, fSet, fAsg, fPar, fPar3, fIfS, fRet, fDrop, fEnd, fBrk, fCnt, fNotT, fAndT, fOrT, fIf, fIsi, fIsi2, fCall, fCallK, fCons, fNil, fCa, fTup, fLst, fLstM, mkM, fApp, appV, ok_putM, get_last, set_last, take_last, gAdd_int, L2.CDiv, L2.CMul, L2.CPow, fIx, ok_ixR, ok_ixI, ok_lenR, ok_callM, fNeg, fRev, fSl, slD, cut1, fON, fOS, fYes, ok_lc, ok_lcBody, ok_for, ok_newM, wipeD, ok_seqL, ok_seqT, ok_seqR, allD_mapF, anyD_mapF, sumD_mapF, List.all_map, fSeq, fRng1, fRng2, fEnum, fZip, gtName, gtSub, gtNil, gtCons, gtTup, mkT, mkL, toDs, DL.gD, gD.rds, c1, c2, ok_lenL, ok_lenT, eq_self, DL.gSub, gMul_int, take_set, ixn20, Int.toNat_natCast, ixn21, List.set_set, gFdv, gMod, gPow, gI, gI0, gLt, gLe, gGt, gGe, gIs, gIt, isN, absD, DL.intD, max2, min2, dmod, ixD_l, ixD_t, isiD, tyD, gsel, gEq_int, gNe_int, gEq_str, gNe_str, List.map_cons, List.map_nil, List.length_cons, List.length_nil, List.cons_append, List.nil_append, List.append_nil, List.replicate_succ, List.replicate_zero, Nat.reduceAdd, Nat.reduceSub, Nat.reduceLeDiff, Nat.reduceEqDiff, List.take_length, List.length_map, List.length_append, List.take_left', List.take_append_of_le_length, Nat.le_refl, Nat.zero_add, Nat.add_zero, and_true, true_and, true_or, or_true, Int.mul_one, Int.one_mul, Nat.one_mul, Nat.mul_one, and_false, false_and, if_pos, if_neg, reduceIte, reduceCtorEq, not_true_eq_false, not_false_eq_true, Bool.not_true, Bool.not_false, beq_self_eq_true, Bool.or_true, Bool.true_or, Bool.or_false, Bool.false_or, Bool.and_true, Bool.true_and, Bool.and_false, Bool.false_and, String.reduceBEq, at0, at1, at2, at3, Int.cast_ofNat_Int, decide_true, decide_false, decide_eq_true_eq, decide_eq_false_iff_not, Bool.not_eq_true', Bool.not_eq_eq_eq_not, Int.reduceSub, Int.reduceNeg, Int.reduceAdd, Int.reduceMul, Int.reduceLT, Int.reduceLE, Int.reduceEq, Int.reducePow, Int.reduceToNat, sumD_map, allD_map, anyD_map, srtD_map, srtD_mapT, tupD, lstD, List.getElem?_cons_zero, List.getElem?_cons_succ, List.set_cons_zero, List.set_cons_succ, Option.some.injEq, Option.map_some, Option.map_none, Bool.false_eq_true, if_true, if_false]
  exact k _ (List.getElem_mem _) c' g'
/-! ### lots -/
def lotsD (m : Nat) : PyData := .list ((lots m).map lotD)
theorem lots_len {m : Nat} : (lots m).length = 2 ^ m := by
  induction m with
  | zero => rfl
  | succ n ih => rw [lots, List.length_append, List.length_map, ih, Nat.pow_succ]; omega
theorem pow_small {m : Nat} (h : m ≤ 5) : 2 ^ m ≤ 32 := pow32 (by omega)
theorem fin5 : ∀ m, m < 6 → ∀ l ∈ lots m, l.length ≤ 5 := by decide +kernel
theorem lots_ok {m : Nat} (hm : m ≤ 5) {st : Sto} {Q : DV → Sto → Prop} : Ok (f__law_lots [.im (.int (m : Nat))]) st Q ↔ Q (.im (lotsD m)) st := ok_eq (eq_ok (by
  unfold f__law_lots b__law_lots
  simp only [ok_callD, ok_bind, ok_ret, ok_some, ok_none, ok_fail, ok_ifF, ok_lif, ok_var, ok_C, ok_rdim, ok_toim, ok_bin, ok_fTst, ok_fAnd, ok_fOr, ok_fNot, ok_chn, startD, outD, fThen, fSet, fAsg, fPar, fPar3, fIfS, fRet, fDrop, fEnd, fBrk, fCnt, fNotT, fAndT, fOrT, fIf, fIsi, fIsi2, fCall, fCallK, fCons, fNil, fCa, fTup, fLst, fLstM, mkM, fApp, appV, ok_putM, get_last, set_last, take_last, gAdd_int, L2.CDiv, L2.CMul, L2.CPow, fIx, ok_ixR, ok_ixI, ok_lenR, ok_callM, fNeg, fRev, fSl, slD, cut1, fON, fOS, fYes, ok_lc, ok_lcBody, ok_for, ok_newM, wipeD, ok_seqL, ok_seqT, ok_seqR, allD_mapF, anyD_mapF, sumD_mapF, List.all_map, fSeq, fRng1, fRng2, fEnum, fZip, gtName, gtSub, gtNil, gtCons, gtTup, mkT, mkL, toDs, DL.gD, gD.rds, c1, c2, ok_lenL, ok_lenT, eq_self, DL.gSub, gMul_int, take_set, ixn20, Int.toNat_natCast, ixn21, List.set_set, gFdv, gMod, gPow, gI, gI0, gLt, gLe, gGt, gGe, gIs, gIt, isN, absD, DL.intD, max2, min2, dmod, ixD_l, ixD_t, isiD, tyD, gsel, gEq_int, gNe_int, gEq_str, gNe_str, List.map_cons, List.map_nil, List.length_cons, List.length_nil, List.cons_append, List.nil_append, List.append_nil, List.replicate_succ, List.replicate_zero, Nat.reduceAdd, Nat.reduceSub, Nat.reduceLeDiff, Nat.reduceEqDiff, List.take_length, List.length_map, List.length_append, List.take_left', List.take_append_of_le_length, Nat.le_refl, Nat.zero_add, Nat.add_zero, and_true, true_and, true_or, or_true, Int.mul_one, Int.one_mul, Nat.one_mul, Nat.mul_one, and_false, false_and, if_pos, if_neg, reduceIte, reduceCtorEq, not_true_eq_false, not_false_eq_true, Bool.not_true, Bool.not_false, beq_self_eq_true, Bool.or_true, Bool.true_or, Bool.or_false, Bool.false_or, Bool.and_true, Bool.true_and, Bool.and_false, Bool.false_and, String.reduceBEq, at0, at1, at2, at3, Int.cast_ofNat_Int, decide_true, decide_false, decide_eq_true_eq, decide_eq_false_iff_not, Bool.not_eq_true', Bool.not_eq_eq_eq_not, Int.reduceSub, Int.reduceNeg, Int.reduceAdd, Int.reduceMul, Int.reduceLT, Int.reduceLE, Int.reduceEq, Int.reducePow, Int.reduceToNat, sumD_map, allD_map, anyD_map, srtD_map, srtD_mapT, tupD, lstD, List.getElem?_cons_zero, List.getElem?_cons_succ, List.set_cons_zero, List.set_cons_succ, Option.some.injEq, Option.map_some, Option.map_none, Bool.false_eq_true, if_true, if_false]
  refine ⟨by omega, ?_⟩
  refine loop_nat (fun k env s => ∃ x y, env = [some (.im (.int (m : Nat))), some (.im (lotsD k)), x, y] ∧ s = st) ?_ ?_ ⟨none, none, rfl, rfl⟩
  · rintro k env s hk ⟨x, y, rfl, rfl⟩
    have hl : (lots k).length ≤ 32 := by rw [lots_len]; exact pow_small (by omega)
    simp only [ok_callD, ok_bind, ok_ret, ok_some, ok_none, ok_fail, ok_ifF, ok_lif, ok_var, ok_C, ok_rdim, ok_toim, ok_bin, ok_fTst, ok_fAnd, ok_fOr, ok_fNot, ok_chn, startD, outD, fThen, fSet, fAsg, fPar, fPar3, fIfS, fRet, fDrop, fEnd, fBrk, fCnt, fNotT, fAndT, fOrT, fIf, fIsi, fIsi2, fCall, fCallK, fCons, fNil, fCa, fTup, fLst, fLstM, mkM, fApp, appV, ok_putM, get_last, set_last, take_last, gAdd_int, L2.CDiv, L2.CMul, L2.CPow, fIx, ok_ixR, ok_ixI, ok_lenR, ok_callM, fNeg, fRev, fSl, slD, cut1, fON, fOS, fYes, ok_lc, ok_lcBody, ok_for, ok_newM, wipeD, ok_seqL, ok_seqT, ok_seqR, allD_mapF, anyD_mapF, sumD_mapF, List.all_map, fSeq, fRng1, fRng2, fEnum, fZip, gtName, gtSub, gtNil, gtCons, gtTup, mkT, mkL, toDs, DL.gD, gD.rds, c1, c2, ok_lenL, ok_lenT, eq_self, DL.gSub, gMul_int, take_set, ixn20, Int.toNat_natCast, ixn21, List.set_set, gFdv, gMod, gPow, gI, gI0, gLt, gLe, gGt, gGe, gIs, gIt, isN, absD, DL.intD, max2, min2, dmod, ixD_l, ixD_t, isiD, tyD, gsel, gEq_int, gNe_int, gEq_str, gNe_str, List.map_cons, List.map_nil, List.length_cons, List.length_nil, List.cons_append, List.nil_append, List.append_nil, List.replicate_succ, List.replicate_zero, Nat.reduceAdd, Nat.reduceSub, Nat.reduceLeDiff, Nat.reduceEqDiff, List.take_length, List.length_map, List.length_append, List.take_left', List.take_append_of_le_length, Nat.le_refl, Nat.zero_add, Nat.add_zero, and_true, true_and, true_or, or_true, Int.mul_one, Int.one_mul, Nat.one_mul, Nat.mul_one, and_false, false_and, if_pos, if_neg, reduceIte, reduceCtorEq, not_true_eq_false, not_false_eq_true, Bool.not_true, Bool.not_false, beq_self_eq_true, Bool.or_true, Bool.true_or, Bool.or_false, Bool.false_or, Bool.and_true, Bool.true_and, Bool.and_false, Bool.false_and, String.reduceBEq, at0, at1, at2, at3, Int.cast_ofNat_Int, decide_true, decide_false, decide_eq_true_eq, decide_eq_false_iff_not, Bool.not_eq_true', Bool.not_eq_eq_eq_not, Int.reduceSub, Int.reduceNeg, Int.reduceAdd, Int.reduceMul, Int.reduceLT, Int.reduceLE, Int.reduceEq, Int.reducePow, Int.reduceToNat, sumD_map, allD_map, anyD_map, srtD_map, srtD_mapT, tupD, lstD, List.getElem?_cons_zero, List.getElem?_cons_succ, List.set_cons_zero, List.set_cons_succ, Option.some.injEq, Option.map_some, Option.map_none, Bool.false_eq_true, if_true, if_false, lotsD]
    refine (ok_eq (lc_mapA lotD (fun l => lotD (l ++ [k])) (lots k) fun l hl => ?_)).mpr ?_
    · unfold lotD
      have hz : l.length + 1 ≤ 16777216 := by
        have := fin5 k (by omega) l hl
        omega
      simp only [ok_callD, ok_bind, ok_ret, ok_some, ok_none, ok_fail, ok_ifF, ok_lif, ok_var, ok_C, ok_rdim, ok_toim, ok_bin, ok_fTst, ok_fAnd, ok_fOr, ok_fNot, ok_chn, startD, outD, fThen, fSet, fAsg, fPar, fPar3, fIfS, fRet, fDrop, fEnd, fBrk, fCnt, fNotT, fAndT, fOrT, fIf, fIsi, fIsi2, fCall, fCallK, fCons, fNil, fCa, fTup, fLst, fLstM, mkM, fApp, appV, ok_putM, get_last, set_last, take_last, gAdd_int, L2.CDiv, L2.CMul, L2.CPow, fIx, ok_ixR, ok_ixI, ok_lenR, ok_callM, fNeg, fRev, fSl, slD, cut1, fON, fOS, fYes, ok_lc, ok_lcBody, ok_for, ok_newM, wipeD, ok_seqL, ok_seqT, ok_seqR, allD_mapF, anyD_mapF, sumD_mapF, List.all_map, fSeq, fRng1, fRng2, fEnum, fZip, gtName, gtSub, gtNil, gtCons, gtTup, mkT, mkL, toDs, DL.gD, gD.rds, c1, c2, ok_lenL, ok_lenT, eq_self, DL.gSub, gMul_int, take_set, ixn20, Int.toNat_natCast, ixn21, List.set_set, gFdv, gMod, gPow, gI, gI0, gLt, gLe, gGt, gGe, gIs, gIt, isN, absD, DL.intD, max2, min2, dmod, ixD_l, ixD_t, isiD, tyD, gsel, gEq_int, gNe_int, gEq_str, gNe_str, List.map_cons, List.map_nil, List.length_cons, List.length_nil, List.cons_append, List.nil_append, List.append_nil, List.replicate_succ, List.replicate_zero, Nat.reduceAdd, Nat.reduceSub, Nat.reduceLeDiff, Nat.reduceEqDiff, List.take_length, List.length_map, List.length_append, List.take_left', List.take_append_of_le_length, Nat.le_refl, Nat.zero_add, Nat.add_zero, and_true, true_and, true_or, or_true, Int.mul_one, Int.one_mul, Nat.one_mul, Nat.mul_one, and_false, false_and, if_pos, if_neg, reduceIte, reduceCtorEq, not_true_eq_false, not_false_eq_true, Bool.not_true, Bool.not_false, beq_self_eq_true, Bool.or_true, Bool.true_or, Bool.or_false, Bool.false_or, Bool.and_true, Bool.true_and, Bool.and_false, Bool.false_and, String.reduceBEq, at0, at1, at2, at3, Int.cast_ofNat_Int, decide_true, decide_false, decide_eq_true_eq, decide_eq_false_iff_not, Bool.not_eq_true', Bool.not_eq_eq_eq_not, Int.reduceSub, Int.reduceNeg, Int.reduceAdd, Int.reduceMul, Int.reduceLT, Int.reduceLE, Int.reduceEq, Int.reducePow, Int.reduceToNat, sumD_map, allD_map, anyD_map, srtD_map, srtD_mapT, tupD, lstD, List.getElem?_cons_zero, List.getElem?_cons_succ, List.set_cons_zero, List.set_cons_succ, Option.some.injEq, Option.map_some, Option.map_none, Bool.false_eq_true, if_true, if_false, gAdd, List.map_append, hz]
    · have hz2 : (lots k).length + (lots k).length ≤ 16777216 := by omega
      have hz3 : (lots k).length ≤ 1000 := by omega
      have e : ((lots k).map fun l => lotD (l ++ [k])) = ((lots k).map (· ++ [k])).map lotD := by rw [List.map_map]; rfl
      simp only [ok_callD, ok_bind, ok_ret, ok_some, ok_none, ok_fail, ok_ifF, ok_lif, ok_var, ok_C, ok_rdim, ok_toim, ok_bin, ok_fTst, ok_fAnd, ok_fOr, ok_fNot, ok_chn, startD, outD, fThen, fSet, fAsg, fPar, fPar3, fIfS, fRet, fDrop, fEnd, fBrk, fCnt, fNotT, fAndT, fOrT, fIf, fIsi, fIsi2, fCall, fCallK, fCons, fNil, fCa, fTup, fLst, fLstM, mkM, fApp, appV, ok_putM, get_last, set_last, take_last, gAdd_int, L2.CDiv, L2.CMul, L2.CPow, fIx, ok_ixR, ok_ixI, ok_lenR, ok_callM, fNeg, fRev, fSl, slD, cut1, fON, fOS, fYes, ok_lc, ok_lcBody, ok_for, ok_newM, wipeD, ok_seqL, ok_seqT, ok_seqR, allD_mapF, anyD_mapF, sumD_mapF, List.all_map, fSeq, fRng1, fRng2, fEnum, fZip, gtName, gtSub, gtNil, gtCons, gtTup, mkT, mkL, toDs, DL.gD, gD.rds, c1, c2, ok_lenL, ok_lenT, eq_self, DL.gSub, gMul_int, take_set, ixn20, Int.toNat_natCast, ixn21, List.set_set, gFdv, gMod, gPow, gI, gI0, gLt, gLe, gGt, gGe, gIs, gIt, isN, absD, DL.intD, max2, min2, dmod, ixD_l, ixD_t, isiD, tyD, gsel, gEq_int, gNe_int, gEq_str, gNe_str, List.map_cons, List.map_nil, List.length_cons, List.length_nil, List.cons_append, List.nil_append, List.append_nil, List.replicate_succ, List.replicate_zero, Nat.reduceAdd, Nat.reduceSub, Nat.reduceLeDiff, Nat.reduceEqDiff, List.take_length, List.length_map, List.length_append, List.take_left', List.take_append_of_le_length, Nat.le_refl, Nat.zero_add, Nat.add_zero, and_true, true_and, true_or, or_true, Int.mul_one, Int.one_mul, Nat.one_mul, Nat.mul_one, and_false, false_and, if_pos, if_neg, reduceIte, reduceCtorEq, not_true_eq_false, not_false_eq_true, Bool.not_true, Bool.not_false, beq_self_eq_true, Bool.or_true, Bool.true_or, Bool.or_false, Bool.false_or, Bool.and_true, Bool.true_and, Bool.and_false, Bool.false_and, String.reduceBEq, at0, at1, at2, at3, Int.cast_ofNat_Int, decide_true, decide_false, decide_eq_true_eq, decide_eq_false_iff_not, Bool.not_eq_true', Bool.not_eq_eq_eq_not, Int.reduceSub, Int.reduceNeg, Int.reduceAdd, Int.reduceMul, Int.reduceLT, Int.reduceLE, Int.reduceEq, Int.reducePow, Int.reduceToNat, sumD_map, allD_map, anyD_map, srtD_map, srtD_mapT, tupD, lstD, List.getElem?_cons_zero, List.getElem?_cons_succ, List.set_cons_zero, List.set_cons_succ, Option.some.injEq, Option.map_some, Option.map_none, Bool.false_eq_true, if_true, if_false, gAdd, hz2, hz3, e]
      refine ⟨some (.im (.int (k : Nat))), y, ?_⟩
      rw [lots, List.map_append]
  · rintro env s ⟨x, y, rfl, rfl⟩
    simp only [ok_callD, ok_bind, ok_ret, ok_some, ok_none, ok_fail, ok_ifF, ok_lif, ok_var, ok_C, ok_rdim, ok_toim, ok_bin, ok_fTst, ok_fAnd, ok_fOr, ok_fNot, ok_chn, startD, outD, fThen, fSet, fAsg, fPar, fPar3, fIfS, fRet, fDrop, fEnd, fBrk, fCnt, fNotT, fAndT, fOrT, fIf, fIsi, fIsi2, fCall, fCallK, fCons, fNil, fCa, fTup, fLst, fLstM, mkM, fApp, appV, ok_putM, get_last, set_last, take_last, gAdd_int, L2.CDiv, L2.CMul, L2.CPow, fIx, ok_ixR, ok_ixI, ok_lenR, ok_callM, fNeg, fRev, fSl, slD, cut1, fON, fOS, fYes, ok_lc, ok_lcBody, ok_for, ok_newM, wipeD, ok_seqL, ok_seqT, ok_seqR, allD_mapF, anyD_mapF, sumD_mapF, List.all_map, fSeq, fRng1, fRng2, fEnum, fZip, gtName, gtSub, gtNil, gtCons, gtTup, mkT, mkL, toDs, DL.gD, gD.rds, c1, c2, ok_lenL, ok_lenT, eq_self, DL.gSub, gMul_int, take_set, ixn20, Int.toNat_natCast, ixn21, List.set_set, gFdv, gMod, gPow, gI, gI0, gLt, gLe, gGt, gGe, gIs, gIt, isN, absD, DL.intD, max2, min2, dmod, ixD_l, ixD_t, isiD, tyD, gsel, gEq_int, gNe_int, gEq_str, gNe_str, List.map_cons, List.map_nil, List.length_cons, List.length_nil, List.cons_append, List.nil_append, List.append_nil, List.replicate_succ, List.replicate_zero, Nat.reduceAdd, Nat.reduceSub, Nat.reduceLeDiff, Nat.reduceEqDiff, List.take_length, List.length_map, List.length_append, List.take_left', List.take_append_of_le_length, Nat.le_refl, Nat.zero_add, Nat.add_zero, and_true, true_and, true_or, or_true, Int.mul_one, Int.one_mul, Nat.one_mul, Nat.mul_one, and_false, false_and, if_pos, if_neg, reduceIte, reduceCtorEq, not_true_eq_false, not_false_eq_true, Bool.not_true, Bool.not_false, beq_self_eq_true, Bool.or_true, Bool.true_or, Bool.or_false, Bool.false_or, Bool.and_true, Bool.true_and, Bool.and_false, Bool.false_and, String.reduceBEq, at0, at1, at2, at3, Int.cast_ofNat_Int, decide_true, decide_false, decide_eq_true_eq, decide_eq_false_iff_not, Bool.not_eq_true', Bool.not_eq_eq_eq_not, Int.reduceSub, Int.reduceNeg, Int.reduceAdd, Int.reduceMul, Int.reduceLT, Int.reduceLE, Int.reduceEq, Int.reducePow, Int.reduceToNat, sumD_map, allD_map, anyD_map, srtD_map, srtD_mapT, tupD, lstD, List.getElem?_cons_zero, List.getElem?_cons_succ, List.set_cons_zero, List.set_cons_succ, Option.some.injEq, Option.map_some, Option.map_none, Bool.false_eq_true, if_true, if_false]))
/-! ### tables -/
theorem lots_mem {m : Nat} (hm : m ≤ 5) {l : List Nat} (h : l ∈ lots m) : (∀ t ∈ l, t < m) ∧ l.length ≤ 5 := by
  obtain ⟨i, hi⟩ := List.mem_iff_getElem?.mp h
  have hl : i < 2 ^ m := by rw [← lots_len]; exact (List.getElem?_eq_some_iff.mp hi).1
  have e := (fin1 m (by omega)).2 i hl
  rw [hi] at e
  cases e
  exact ⟨fin3 m (by omega) i hl, fin5 m (by omega) _ h⟩
theorem in_list {x : Int} {ns : List Int} : gIn (.int x) (.list (ns.map .int)) = some (.bool (decide (x ∈ ns))) := by
  have fl : (ns.map PyData.int).all flatD = true := by
    induction ns with
    | nil => rfl
    | cons a r ih => rw [List.map_cons, List.all_cons, ih]; rfl
  have an : ((ns.map PyData.int).any fun z => PyData.eqv z (.int x)) = decide (x ∈ ns) := by
    clear fl
    induction ns with
    | nil => rfl
    | cons a r ih =>
      rw [List.map_cons, List.any_cons, ih, eqv_int]
      by_cases h : a = x
      · simp [h]
      · have h2 : ¬ x = a := fun e => h e.symm
        simp [h, h2]
  show (if flatD (.int x) = true ∧ (ns.map PyData.int).all flatD = true then some ((ns.map PyData.int).any fun z => PyData.eqv z (.int x)) else if SeqAt.shaped (.int x) = true ∧ SeqAt.shaped (.list (ns.map PyData.int)) = true then some ((ns.map PyData.int).any fun z => PyData.eqv z (.int x)) else none).map PyData.bool = _
  rw [if_pos ⟨rfl, fl⟩, an]
  rfl
theorem in_tup3 {x : Int} : ∃ b, gIn (.int x) (.tuple [.int 1, .int 2, .int 3]) = some (.bool b) := ⟨_, rfl⟩
/-- ints of a number, none beyond b -/
structure Ws (n : Nat) (b : Int) (ws : List Int) : Prop where
  len : ws.length = n
  bd : ∀ w ∈ ws, -b ≤ w ∧ w ≤ b
def tenv (i n : Nat) (way f : Int) (w : DV) (x7 x8 x9 x10 x11 x12 x13 x14 x15 x16 : Option DV) : DEnv :=
  [some (.mu i), some (.im (.int 5)), some (.im (.int (n : Nat))), some (.im (.int way)), some (.im (lotsD n)), some (.im (.int f)), some w, x7, x8, x9, x10, x11, x12, x13, x14, x15, x16]
def TS (st : Sto) (i n : Nat) (way f b : Int) (env : DEnv) (s : Sto) : Prop := ∃ ws c x7 x8 x9 x10 x11 x12 x13 x14 x15 x16,
  env = tenv i n way f (.im (.list (ws.map .int))) x7 x8 x9 x10 x11 x12 x13 x14 x15 x16 ∧ s = st.set i c ∧ GoodC c ∧ Ws (2 ^ n) b ws
theorem TS.up {st : Sto} {i n : Nat} {way f b b' : Int} {env : DEnv} {s : Sto} (h : TS st i n way f b env s) (hb : b ≤ b') : TS st i n way f b' env s := by
  obtain ⟨ws, c, x7, x8, x9, x10, x11, x12, x13, x14, x15, x16, e1, e2, g, hw⟩ := h
  exact ⟨ws, c, x7, x8, x9, x10, x11, x12, x13, x14, x15, x16, e1, e2, g, hw.len, fun w h => by have := hw.bd w h; omega⟩
def Js (st : Sto) (i : Nat) (s : Sto) : Prop := ∃ c, s = st.set i c ∧ GoodC c
theorem zip_wl {ws : List Int} {ls : List (List Nat)} : zipD (ws.map .int) (ls.map lotD) = (ws.zip ls).map fun p => .tuple [.int p.1, lotD p.2] := by
  unfold zipD
  rw [List.zipWith_map, List.zip, List.map_zipWith]
theorem zipped {β : Type} {l : List Int} {r : List β} {n : Nat} (h1 : l.length = n) (h2 : r.length = n) : (l.zip r).length = n := by rw [List.length_zip, h1, h2, Nat.min_self]
theorem table_loop {st : Sto} {i n : Nat} (hn : n ≤ 5) (hi : i < st.length) {way f b : Int} {env : DEnv} {s : Sto} {k : Nat} (h : TS st i n way f b env s) : Ok (bindM (gtName 7 (.im (.int (k : Nat))) env) b__law_table_loop1) s fun o s' => ∃ e, o = .nx e ∧ TS st i n way f (b + 4) e s' := by
  obtain ⟨ws, c, x7, x8, x9, x10, x11, x12, x13, x14, x15, x16, rfl, rfl, g, hw⟩ := h
  have h2 : ∀ c : Cell, (st.set i c)[i]? = some c := fun c => List.getElem?_set_self hi
  have hz : n ≤ 1000 := by omega
  unfold b__law_table_loop1 tenv
  simp only [ok_callD, ok_bind, ok_ret, ok_some, ok_none, ok_fail, ok_ifF, ok_lif, ok_var, ok_C, ok_rdim, ok_toim, ok_bin, ok_fTst, ok_fAnd, ok_fOr, ok_fNot, ok_chn, startD, outD, fThen, fSet, fAsg, fPar, fPar3, fIfS, fRet, fDrop, fEnd, fBrk, fCnt, fNotT, fAndT, fOrT, fIf, fIsi, fIsi2, fCall, fCallK, fCons, fNil, fCa, fTup, fLst, fLstM, mkM, fApp, appV, ok_putM, get_last, set_last, take_last, gAdd_int, L2.CDiv, L2.CMul, L2.CPow, fIx, ok_ixR, ok_ixI, ok_lenR, ok_callM, fNeg, fRev, fSl, slD, cut1, fON, fOS, fYes, ok_lc, ok_lcBody, ok_for, ok_newM, wipeD, ok_seqL, ok_seqT, ok_seqR, allD_mapF, anyD_mapF, sumD_mapF, List.all_map, fSeq, fRng1, fRng2, fEnum, fZip, gtName, gtSub, gtNil, gtCons, gtTup, mkT, mkL, toDs, DL.gD, gD.rds, c1, c2, ok_lenL, ok_lenT, eq_self, DL.gSub, gMul_int, take_set, ixn20, Int.toNat_natCast, ixn21, List.set_set, gFdv, gMod, gPow, gI, gI0, gLt, gLe, gGt, gGe, gIs, gIt, isN, absD, DL.intD, max2, min2, dmod, ixD_l, ixD_t, isiD, tyD, gsel, gEq_int, gNe_int, gEq_str, gNe_str, List.map_cons, List.map_nil, List.length_cons, List.length_nil, List.cons_append, List.nil_append, List.append_nil, List.replicate_succ, List.replicate_zero, Nat.reduceAdd, Nat.reduceSub, Nat.reduceLeDiff, Nat.reduceEqDiff, List.take_length, List.length_map, List.length_append, List.take_left', List.take_append_of_le_length, Nat.le_refl, Nat.zero_add, Nat.add_zero, and_true, true_and, true_or, or_true, Int.mul_one, Int.one_mul, Nat.one_mul, Nat.mul_one, and_false, false_and, if_pos, if_neg, reduceIte, reduceCtorEq, not_true_eq_false, not_false_eq_true, Bool.not_true, Bool.not_false, beq_self_eq_true, Bool.or_true, Bool.true_or, Bool.or_false, Bool.false_or, Bool.and_true, Bool.true_and, Bool.and_false, Bool.false_and, String.reduceBEq, at0, at1, at2, at3, Int.cast_ofNat_Int, decide_true, decide_false, decide_eq_true_eq, decide_eq_false_iff_not, Bool.not_eq_true', Bool.not_eq_eq_eq_not, Int.reduceSub, Int.reduceNeg, Int.reduceAdd, Int.reduceMul, Int.reduceLT, Int.reduceLE, Int.reduceEq, Int.reducePow, Int.reduceToNat, sumD_map, allD_map, anyD_map, srtD_map, srtD_mapT, tupD, lstD, List.getElem?_cons_zero, List.getElem?_cons_succ, List.set_cons_zero, List.set_cons_succ, Option.some.injEq, Option.map_some, Option.map_none, Bool.false_eq_true, if_true, if_false]
  refine draw_then (h2 _) g (by decide) (by decide) fun d ca d0 d1 ga => ?_
  simp only [ok_callD, ok_bind, ok_ret, ok_some, ok_none, ok_fail, ok_ifF, ok_lif, ok_var, ok_C, ok_rdim, ok_toim, ok_bin, ok_fTst, ok_fAnd, ok_fOr, ok_fNot, ok_chn, startD, outD, fThen, fSet, fAsg, fPar, fPar3, fIfS, fRet, fDrop, fEnd, fBrk, fCnt, fNotT, fAndT, fOrT, fIf, fIsi, fIsi2, fCall, fCallK, fCons, fNil, fCa, fTup, fLst, fLstM, mkM, fApp, appV, ok_putM, get_last, set_last, take_last, gAdd_int, L2.CDiv, L2.CMul, L2.CPow, fIx, ok_ixR, ok_ixI, ok_lenR, ok_callM, fNeg, fRev, fSl, slD, cut1, fON, fOS, fYes, ok_lc, ok_lcBody, ok_for, ok_newM, wipeD, ok_seqL, ok_seqT, ok_seqR, allD_mapF, anyD_mapF, sumD_mapF, List.all_map, fSeq, fRng1, fRng2, fEnum, fZip, gtName, gtSub, gtNil, gtCons, gtTup, mkT, mkL, toDs, DL.gD, gD.rds, c1, c2, ok_lenL, ok_lenT, eq_self, DL.gSub, gMul_int, take_set, ixn20, Int.toNat_natCast, ixn21, List.set_set, gFdv, gMod, gPow, gI, gI0, gLt, gLe, gGt, gGe, gIs, gIt, isN, absD, DL.intD, max2, min2, dmod, ixD_l, ixD_t, isiD, tyD, gsel, gEq_int, gNe_int, gEq_str, gNe_str, List.map_cons, List.map_nil, List.length_cons, List.length_nil, List.cons_append, List.nil_append, List.append_nil, List.replicate_succ, List.replicate_zero, Nat.reduceAdd, Nat.reduceSub, Nat.reduceLeDiff, Nat.reduceEqDiff, List.take_length, List.length_map, List.length_append, List.take_left', List.take_append_of_le_length, Nat.le_refl, Nat.zero_add, Nat.add_zero, and_true, true_and, true_or, or_true, Int.mul_one, Int.one_mul, Nat.one_mul, Nat.mul_one, and_false, false_and, if_pos, if_neg, reduceIte, reduceCtorEq, not_true_eq_false, not_false_eq_true, Bool.not_true, Bool.not_false, beq_self_eq_true, Bool.or_true, Bool.true_or, Bool.or_false, Bool.false_or, Bool.and_true, Bool.true_and, Bool.and_false, Bool.false_and, String.reduceBEq, at0, at1, at2, at3, Int.cast_ofNat_Int, decide_true, decide_false, decide_eq_true_eq, decide_eq_false_iff_not, Bool.not_eq_true', Bool.not_eq_eq_eq_not, Int.reduceSub, Int.reduceNeg, Int.reduceAdd, Int.reduceMul, Int.reduceLT, Int.reduceLE, Int.reduceEq, Int.reducePow, Int.reduceToNat, sumD_map, allD_map, anyD_map, srtD_map, srtD_mapT, tupD, lstD, List.getElem?_cons_zero, List.getElem?_cons_succ, List.set_cons_zero, List.set_cons_succ, Option.some.injEq, Option.map_some, Option.map_none, Bool.false_eq_true, if_true, if_false]
  refine ⟨by omega, ?_⟩
  refine ok_mono (lc_relF PyData.int (Js st i) (fun _ => True) (rangeD 0 n) (fun d hd s hj => ?_) _ ⟨ca, rfl, ga⟩) ?_
  · obtain ⟨t, ht, rfl⟩ := rng_mem hd
    obtain ⟨cc, rfl, gg⟩ := hj
    simp only [ok_callD, ok_bind, ok_ret, ok_some, ok_none, ok_fail, ok_ifF, ok_lif, ok_var, ok_C, ok_rdim, ok_toim, ok_bin, ok_fTst, ok_fAnd, ok_fOr, ok_fNot, ok_chn, startD, outD, fThen, fSet, fAsg, fPar, fPar3, fIfS, fRet, fDrop, fEnd, fBrk, fCnt, fNotT, fAndT, fOrT, fIf, fIsi, fIsi2, fCall, fCallK, fCons, fNil, fCa, fTup, fLst, fLstM, mkM, fApp, appV, ok_putM, get_last, set_last, take_last, gAdd_int, L2.CDiv, L2.CMul, L2.CPow, fIx, ok_ixR, ok_ixI, ok_lenR, ok_callM, fNeg, fRev, fSl, slD, cut1, fON, fOS, fYes, ok_lc, ok_lcBody, ok_for, ok_newM, wipeD, ok_seqL, ok_seqT, ok_seqR, allD_mapF, anyD_mapF, sumD_mapF, List.all_map, fSeq, fRng1, fRng2, fEnum, fZip, gtName, gtSub, gtNil, gtCons, gtTup, mkT, mkL, toDs, DL.gD, gD.rds, c1, c2, ok_lenL, ok_lenT, eq_self, DL.gSub, gMul_int, take_set, ixn20, Int.toNat_natCast, ixn21, List.set_set, gFdv, gMod, gPow, gI, gI0, gLt, gLe, gGt, gGe, gIs, gIt, isN, absD, DL.intD, max2, min2, dmod, ixD_l, ixD_t, isiD, tyD, gsel, gEq_int, gNe_int, gEq_str, gNe_str, List.map_cons, List.map_nil, List.length_cons, List.length_nil, List.cons_append, List.nil_append, List.append_nil, List.replicate_succ, List.replicate_zero, Nat.reduceAdd, Nat.reduceSub, Nat.reduceLeDiff, Nat.reduceEqDiff, List.take_length, List.length_map, List.length_append, List.take_left', List.take_append_of_le_length, Nat.le_refl, Nat.zero_add, Nat.add_zero, and_true, true_and, true_or, or_true, Int.mul_one, Int.one_mul, Nat.one_mul, Nat.mul_one, and_false, false_and, if_pos, if_neg, reduceIte, reduceCtorEq, not_true_eq_false, not_false_eq_true, Bool.not_true, Bool.not_false, beq_self_eq_true, Bool.or_true, Bool.true_or, Bool.or_false, Bool.false_or, Bool.and_true, Bool.true_and, Bool.and_false, Bool.false_and, String.reduceBEq, at0, at1, at2, at3, Int.cast_ofNat_Int, decide_true, decide_false, decide_eq_true_eq, decide_eq_false_iff_not, Bool.not_eq_true', Bool.not_eq_eq_eq_not, Int.reduceSub, Int.reduceNeg, Int.reduceAdd, Int.reduceMul, Int.reduceLT, Int.reduceLE, Int.reduceEq, Int.reducePow, Int.reduceToNat, sumD_map, allD_map, anyD_map, srtD_map, srtD_mapT, tupD, lstD, List.getElem?_cons_zero, List.getElem?_cons_succ, List.set_cons_zero, List.set_cons_succ, Option.some.injEq, Option.map_some, Option.map_none, Bool.false_eq_true, if_true, if_false]
    refine draw_then (h2 _) gg (by decide) (by decide) fun d cd d0 d1 gd => ?_
    simp only [ok_callD, ok_bind, ok_ret, ok_some, ok_none, ok_fail, ok_ifF, ok_lif, ok_var, ok_C, ok_rdim, ok_toim, ok_bin, ok_fTst, ok_fAnd, ok_fOr, ok_fNot, ok_chn, startD, outD, fThen, fSet, fAsg, fPar, fPar3, fIfS, fRet, fDrop, fEnd, fBrk, fCnt, fNotT, fAndT, fOrT, fIf, fIsi, fIsi2, fCall, fCallK, fCons, fNil, fCa, fTup, fLst, fLstM, mkM, fApp, appV, ok_putM, get_last, set_last, take_last, gAdd_int, L2.CDiv, L2.CMul, L2.CPow, fIx, ok_ixR, ok_ixI, ok_lenR, ok_callM, fNeg, fRev, fSl, slD, cut1, fON, fOS, fYes, ok_lc, ok_lcBody, ok_for, ok_newM, wipeD, ok_seqL, ok_seqT, ok_seqR, allD_mapF, anyD_mapF, sumD_mapF, List.all_map, fSeq, fRng1, fRng2, fEnum, fZip, gtName, gtSub, gtNil, gtCons, gtTup, mkT, mkL, toDs, DL.gD, gD.rds, c1, c2, ok_lenL, ok_lenT, eq_self, DL.gSub, gMul_int, take_set, ixn20, Int.toNat_natCast, ixn21, List.set_set, gFdv, gMod, gPow, gI, gI0, gLt, gLe, gGt, gGe, gIs, gIt, isN, absD, DL.intD, max2, min2, dmod, ixD_l, ixD_t, isiD, tyD, gsel, gEq_int, gNe_int, gEq_str, gNe_str, List.map_cons, List.map_nil, List.length_cons, List.length_nil, List.cons_append, List.nil_append, List.append_nil, List.replicate_succ, List.replicate_zero, Nat.reduceAdd, Nat.reduceSub, Nat.reduceLeDiff, Nat.reduceEqDiff, List.take_length, List.length_map, List.length_append, List.take_left', List.take_append_of_le_length, Nat.le_refl, Nat.zero_add, Nat.add_zero, and_true, true_and, true_or, or_true, Int.mul_one, Int.one_mul, Nat.one_mul, Nat.mul_one, and_false, false_and, if_pos, if_neg, reduceIte, reduceCtorEq, not_true_eq_false, not_false_eq_true, Bool.not_true, Bool.not_false, beq_self_eq_true, Bool.or_true, Bool.true_or, Bool.or_false, Bool.false_or, Bool.and_true, Bool.true_and, Bool.and_false, Bool.false_and, String.reduceBEq, at0, at1, at2, at3, Int.cast_ofNat_Int, decide_true, decide_false, decide_eq_true_eq, decide_eq_false_iff_not, Bool.not_eq_true', Bool.not_eq_eq_eq_not, Int.reduceSub, Int.reduceNeg, Int.reduceAdd, Int.reduceMul, Int.reduceLT, Int.reduceLE, Int.reduceEq, Int.reducePow, Int.reduceToNat, sumD_map, allD_map, anyD_map, srtD_map, srtD_mapT, tupD, lstD, List.getElem?_cons_zero, List.getElem?_cons_succ, List.set_cons_zero, List.set_cons_succ, Option.some.injEq, Option.map_some, Option.map_none, Bool.false_eq_true, if_true, if_false]
    by_cases hd0 : d = 0
    · simp only [ok_callD, ok_bind, ok_ret, ok_some, ok_none, ok_fail, ok_ifF, ok_lif, ok_var, ok_C, ok_rdim, ok_toim, ok_bin, ok_fTst, ok_fAnd, ok_fOr, ok_fNot, ok_chn, startD, outD, fThen, fSet, fAsg, fPar, fPar3, fIfS, fRet, fDrop, fEnd, fBrk, fCnt, fNotT, fAndT, fOrT, fIf, fIsi, fIsi2, fCall, fCallK, fCons, fNil, fCa, fTup, fLst, fLstM, mkM, fApp, appV, ok_putM, get_last, set_last, take_last, gAdd_int, L2.CDiv, L2.CMul, L2.CPow, fIx, ok_ixR, ok_ixI, ok_lenR, ok_callM, fNeg, fRev, fSl, slD, cut1, fON, fOS, fYes, ok_lc, ok_lcBody, ok_for, ok_newM, wipeD, ok_seqL, ok_seqT, ok_seqR, allD_mapF, anyD_mapF, sumD_mapF, List.all_map, fSeq, fRng1, fRng2, fEnum, fZip, gtName, gtSub, gtNil, gtCons, gtTup, mkT, mkL, toDs, DL.gD, gD.rds, c1, c2, ok_lenL, ok_lenT, eq_self, DL.gSub, gMul_int, take_set, ixn20, Int.toNat_natCast, ixn21, List.set_set, gFdv, gMod, gPow, gI, gI0, gLt, gLe, gGt, gGe, gIs, gIt, isN, absD, DL.intD, max2, min2, dmod, ixD_l, ixD_t, isiD, tyD, gsel, gEq_int, gNe_int, gEq_str, gNe_str, List.map_cons, List.map_nil, List.length_cons, List.length_nil, List.cons_append, List.nil_append, List.append_nil, List.replicate_succ, List.replicate_zero, Nat.reduceAdd, Nat.reduceSub, Nat.reduceLeDiff, Nat.reduceEqDiff, List.take_length, List.length_map, List.length_append, List.take_left', List.take_append_of_le_length, Nat.le_refl, Nat.zero_add, Nat.add_zero, and_true, true_and, true_or, or_true, Int.mul_one, Int.one_mul, Nat.one_mul, Nat.mul_one, and_false, false_and, if_pos, if_neg, reduceIte, reduceCtorEq, not_true_eq_false, not_false_eq_true, Bool.not_true, Bool.not_false, beq_self_eq_true, Bool.or_true, Bool.true_or, Bool.or_false, Bool.false_or, Bool.and_true, Bool.true_and, Bool.and_false, Bool.false_and, String.reduceBEq, at0, at1, at2, at3, Int.cast_ofNat_Int, decide_true, decide_false, decide_eq_true_eq, decide_eq_false_iff_not, Bool.not_eq_true', Bool.not_eq_eq_eq_not, Int.reduceSub, Int.reduceNeg, Int.reduceAdd, Int.reduceMul, Int.reduceLT, Int.reduceLE, Int.reduceEq, Int.reducePow, Int.reduceToNat, sumD_map, allD_map, anyD_map, srtD_map, srtD_mapT, tupD, lstD, List.getElem?_cons_zero, List.getElem?_cons_succ, List.set_cons_zero, List.set_cons_succ, Option.some.injEq, Option.map_some, Option.map_none, Bool.false_eq_true, if_true, if_false, hd0]
      exact ⟨.inr ⟨(t : Int), rfl⟩, cd, rfl, gd⟩
    · simp only [ok_callD, ok_bind, ok_ret, ok_some, ok_none, ok_fail, ok_ifF, ok_lif, ok_var, ok_C, ok_rdim, ok_toim, ok_bin, ok_fTst, ok_fAnd, ok_fOr, ok_fNot, ok_chn, startD, outD, fThen, fSet, fAsg, fPar, fPar3, fIfS, fRet, fDrop, fEnd, fBrk, fCnt, fNotT, fAndT, fOrT, fIf, fIsi, fIsi2, fCall, fCallK, fCons, fNil, fCa, fTup, fLst, fLstM, mkM, fApp, appV, ok_putM, get_last, set_last, take_last, gAdd_int, L2.CDiv, L2.CMul, L2.CPow, fIx, ok_ixR, ok_ixI, ok_lenR, ok_callM, fNeg, fRev, fSl, slD, cut1, fON, fOS, fYes, ok_lc, ok_lcBody, ok_for, ok_newM, wipeD, ok_seqL, ok_seqT, ok_seqR, allD_mapF, anyD_mapF, sumD_mapF, List.all_map, fSeq, fRng1, fRng2, fEnum, fZip, gtName, gtSub, gtNil, gtCons, gtTup, mkT, mkL, toDs, DL.gD, gD.rds, c1, c2, ok_lenL, ok_lenT, eq_self, DL.gSub, gMul_int, take_set, ixn20, Int.toNat_natCast, ixn21, List.set_set, gFdv, gMod, gPow, gI, gI0, gLt, gLe, gGt, gGe, gIs, gIt, isN, absD, DL.intD, max2, min2, dmod, ixD_l, ixD_t, isiD, tyD, gsel, gEq_int, gNe_int, gEq_str, gNe_str, List.map_cons, List.map_nil, List.length_cons, List.length_nil, List.cons_append, List.nil_append, List.append_nil, List.replicate_succ, List.replicate_zero, Nat.reduceAdd, Nat.reduceSub, Nat.reduceLeDiff, Nat.reduceEqDiff, List.take_length, List.length_map, List.length_append, List.take_left', List.take_append_of_le_length, Nat.le_refl, Nat.zero_add, Nat.add_zero, and_true, true_and, true_or, or_true, Int.mul_one, Int.one_mul, Nat.one_mul, Nat.mul_one, and_false, false_and, if_pos, if_neg, reduceIte, reduceCtorEq, not_true_eq_false, not_false_eq_true, Bool.not_true, Bool.not_false, beq_self_eq_true, Bool.or_true, Bool.true_or, Bool.or_false, Bool.false_or, Bool.and_true, Bool.true_and, Bool.and_false, Bool.false_and, String.reduceBEq, at0, at1, at2, at3, Int.cast_ofNat_Int, decide_true, decide_false, decide_eq_true_eq, decide_eq_false_iff_not, Bool.not_eq_true', Bool.not_eq_eq_eq_not, Int.reduceSub, Int.reduceNeg, Int.reduceAdd, Int.reduceMul, Int.reduceLT, Int.reduceLE, Int.reduceEq, Int.reducePow, Int.reduceToNat, sumD_map, allD_map, anyD_map, srtD_map, srtD_mapT, tupD, lstD, List.getElem?_cons_zero, List.getElem?_cons_succ, List.set_cons_zero, List.set_cons_succ, Option.some.injEq, Option.map_some, Option.map_none, Bool.false_eq_true, if_true, if_false, hd0]
      exact ⟨cd, rfl, gd⟩
  · rintro xs s ⟨ns, rfl, hl, _, cb, rfl, gb⟩
    rw [rng_len] at hl
    have hns : ns.length ≤ 1000 := by omega
    simp only [ok_callD, ok_bind, ok_ret, ok_some, ok_none, ok_fail, ok_ifF, ok_lif, ok_var, ok_C, ok_rdim, ok_toim, ok_bin, ok_fTst, ok_fAnd, ok_fOr, ok_fNot, ok_chn, startD, outD, fThen, fSet, fAsg, fPar, fPar3, fIfS, fRet, fDrop, fEnd, fBrk, fCnt, fNotT, fAndT, fOrT, fIf, fIsi, fIsi2, fCall, fCallK, fCons, fNil, fCa, fTup, fLst, fLstM, mkM, fApp, appV, ok_putM, get_last, set_last, take_last, gAdd_int, L2.CDiv, L2.CMul, L2.CPow, fIx, ok_ixR, ok_ixI, ok_lenR, ok_callM, fNeg, fRev, fSl, slD, cut1, fON, fOS, fYes, ok_lc, ok_lcBody, ok_for, ok_newM, wipeD, ok_seqL, ok_seqT, ok_seqR, allD_mapF, anyD_mapF, sumD_mapF, List.all_map, fSeq, fRng1, fRng2, fEnum, fZip, gtName, gtSub, gtNil, gtCons, gtTup, mkT, mkL, toDs, DL.gD, gD.rds, c1, c2, ok_lenL, ok_lenT, eq_self, DL.gSub, gMul_int, take_set, ixn20, Int.toNat_natCast, ixn21, List.set_set, gFdv, gMod, gPow, gI, gI0, gLt, gLe, gGt, gGe, gIs, gIt, isN, absD, DL.intD, max2, min2, dmod, ixD_l, ixD_t, isiD, tyD, gsel, gEq_int, gNe_int, gEq_str, gNe_str, List.map_cons, List.map_nil, List.length_cons, List.length_nil, List.cons_append, List.nil_append, List.append_nil, List.replicate_succ, List.replicate_zero, Nat.reduceAdd, Nat.reduceSub, Nat.reduceLeDiff, Nat.reduceEqDiff, List.take_length, List.length_map, List.length_append, List.take_left', List.take_append_of_le_length, Nat.le_refl, Nat.zero_add, Nat.add_zero, and_true, true_and, true_or, or_true, Int.mul_one, Int.one_mul, Nat.one_mul, Nat.mul_one, and_false, false_and, if_pos, if_neg, reduceIte, reduceCtorEq, not_true_eq_false, not_false_eq_true, Bool.not_true, Bool.not_false, beq_self_eq_true, Bool.or_true, Bool.true_or, Bool.or_false, Bool.false_or, Bool.and_true, Bool.true_and, Bool.and_false, Bool.false_and, String.reduceBEq, at0, at1, at2, at3, Int.cast_ofNat_Int, decide_true, decide_false, decide_eq_true_eq, decide_eq_false_iff_not, Bool.not_eq_true', Bool.not_eq_eq_eq_not, Int.reduceSub, Int.reduceNeg, Int.reduceAdd, Int.reduceMul, Int.reduceLT, Int.reduceLE, Int.reduceEq, Int.reducePow, Int.reduceToNat, sumD_map, allD_map, anyD_map, srtD_map, srtD_mapT, tupD, lstD, List.getElem?_cons_zero, List.getElem?_cons_succ, List.set_cons_zero, List.set_cons_succ, Option.some.injEq, Option.map_some, Option.map_none, Bool.false_eq_true, if_true, if_false, hns, lotsD]
    rw [zip_wl]
    refine (ok_eq (lc_mapA (fun (p : Int × List Nat) => PyData.tuple [.int p.1, lotD p.2]) (fun p => PyData.int (p.1 + (1 + d) * (if (p.2.any fun t => decide ((t : Int) ∈ ns)) = true then 1 else 0))) _ fun p hp => ?_)).mpr ?_
    · have hp5 := (lots_mem hn (List.of_mem_zip hp).2).2
      have hp6 : p.2.length ≤ 1000 := by omega
      simp only [ok_callD, ok_bind, ok_ret, ok_some, ok_none, ok_fail, ok_ifF, ok_lif, ok_var, ok_C, ok_rdim, ok_toim, ok_bin, ok_fTst, ok_fAnd, ok_fOr, ok_fNot, ok_chn, startD, outD, fThen, fSet, fAsg, fPar, fPar3, fIfS, fRet, fDrop, fEnd, fBrk, fCnt, fNotT, fAndT, fOrT, fIf, fIsi, fIsi2, fCall, fCallK, fCons, fNil, fCa, fTup, fLst, fLstM, mkM, fApp, appV, ok_putM, get_last, set_last, take_last, gAdd_int, L2.CDiv, L2.CMul, L2.CPow, fIx, ok_ixR, ok_ixI, ok_lenR, ok_callM, fNeg, fRev, fSl, slD, cut1, fON, fOS, fYes, ok_lc, ok_lcBody, ok_for, ok_newM, wipeD, ok_seqL, ok_seqT, ok_seqR, allD_mapF, anyD_mapF, sumD_mapF, List.all_map, fSeq, fRng1, fRng2, fEnum, fZip, gtName, gtSub, gtNil, gtCons, gtTup, mkT, mkL, toDs, DL.gD, gD.rds, c1, c2, ok_lenL, ok_lenT, eq_self, DL.gSub, gMul_int, take_set, ixn20, Int.toNat_natCast, ixn21, List.set_set, gFdv, gMod, gPow, gI, gI0, gLt, gLe, gGt, gGe, gIs, gIt, isN, absD, DL.intD, max2, min2, dmod, ixD_l, ixD_t, isiD, tyD, gsel, gEq_int, gNe_int, gEq_str, gNe_str, List.map_cons, List.map_nil, List.length_cons, List.length_nil, List.cons_append, List.nil_append, List.append_nil, List.replicate_succ, List.replicate_zero, Nat.reduceAdd, Nat.reduceSub, Nat.reduceLeDiff, Nat.reduceEqDiff, List.take_length, List.length_map, List.length_append, List.take_left', List.take_append_of_le_length, Nat.le_refl, Nat.zero_add, Nat.add_zero, and_true, true_and, true_or, or_true, Int.mul_one, Int.one_mul, Nat.one_mul, Nat.mul_one, and_false, false_and, if_pos, if_neg, reduceIte, reduceCtorEq, not_true_eq_false, not_false_eq_true, Bool.not_true, Bool.not_false, beq_self_eq_true, Bool.or_true, Bool.true_or, Bool.or_false, Bool.false_or, Bool.and_true, Bool.true_and, Bool.and_false, Bool.false_and, String.reduceBEq, at0, at1, at2, at3, Int.cast_ofNat_Int, decide_true, decide_false, decide_eq_true_eq, decide_eq_false_iff_not, Bool.not_eq_true', Bool.not_eq_eq_eq_not, Int.reduceSub, Int.reduceNeg, Int.reduceAdd, Int.reduceMul, Int.reduceLT, Int.reduceLE, Int.reduceEq, Int.reducePow, Int.reduceToNat, sumD_map, allD_map, anyD_map, srtD_map, srtD_mapT, tupD, lstD, List.getElem?_cons_zero, List.getElem?_cons_succ, List.set_cons_zero, List.set_cons_succ, Option.some.injEq, Option.map_some, Option.map_none, Bool.false_eq_true, if_true, if_false]
      unfold lotD
      simp only [ok_callD, ok_bind, ok_ret, ok_some, ok_none, ok_fail, ok_ifF, ok_lif, ok_var, ok_C, ok_rdim, ok_toim, ok_bin, ok_fTst, ok_fAnd, ok_fOr, ok_fNot, ok_chn, startD, outD, fThen, fSet, fAsg, fPar, fPar3, fIfS, fRet, fDrop, fEnd, fBrk, fCnt, fNotT, fAndT, fOrT, fIf, fIsi, fIsi2, fCall, fCallK, fCons, fNil, fCa, fTup, fLst, fLstM, mkM, fApp, appV, ok_putM, get_last, set_last, take_last, gAdd_int, L2.CDiv, L2.CMul, L2.CPow, fIx, ok_ixR, ok_ixI, ok_lenR, ok_callM, fNeg, fRev, fSl, slD, cut1, fON, fOS, fYes, ok_lc, ok_lcBody, ok_for, ok_newM, wipeD, ok_seqL, ok_seqT, ok_seqR, allD_mapF, anyD_mapF, sumD_mapF, List.all_map, fSeq, fRng1, fRng2, fEnum, fZip, gtName, gtSub, gtNil, gtCons, gtTup, mkT, mkL, toDs, DL.gD, gD.rds, c1, c2, ok_lenL, ok_lenT, eq_self, DL.gSub, gMul_int, take_set, ixn20, Int.toNat_natCast, ixn21, List.set_set, gFdv, gMod, gPow, gI, gI0, gLt, gLe, gGt, gGe, gIs, gIt, isN, absD, DL.intD, max2, min2, dmod, ixD_l, ixD_t, isiD, tyD, gsel, gEq_int, gNe_int, gEq_str, gNe_str, List.map_cons, List.map_nil, List.length_cons, List.length_nil, List.cons_append, List.nil_append, List.append_nil, List.replicate_succ, List.replicate_zero, Nat.reduceAdd, Nat.reduceSub, Nat.reduceLeDiff, Nat.reduceEqDiff, List.take_length, List.length_map, List.length_append, List.take_left', List.take_append_of_le_length, Nat.le_refl, Nat.zero_add, Nat.add_zero, and_true, true_and, true_or, or_true, Int.mul_one, Int.one_mul, Nat.one_mul, Nat.mul_one, and_false, false_and, if_pos, if_neg, reduceIte, reduceCtorEq, not_true_eq_false, not_false_eq_true, Bool.not_true, Bool.not_false, beq_self_eq_true, Bool.or_true, Bool.true_or, Bool.or_false, Bool.false_or, Bool.and_true, Bool.true_and, Bool.and_false, Bool.false_and, String.reduceBEq, at0, at1, at2, at3, Int.cast_ofNat_Int, decide_true, decide_false, decide_eq_true_eq, decide_eq_false_iff_not, Bool.not_eq_true', Bool.not_eq_eq_eq_not, Int.reduceSub, Int.reduceNeg, Int.reduceAdd, Int.reduceMul, Int.reduceLT, Int.reduceLE, Int.reduceEq, Int.reducePow, Int.reduceToNat, sumD_map, allD_map, anyD_map, srtD_map, srtD_mapT, tupD, lstD, List.getElem?_cons_zero, List.getElem?_cons_succ, List.set_cons_zero, List.set_cons_succ, Option.some.injEq, Option.map_some, Option.map_none, Bool.false_eq_true, if_true, if_false]
      refine (ok_eq (lc_mapA (fun t => PyData.int (t : Nat)) (fun (t : Nat) => PyData.bool (decide ((t : Int) ∈ ns))) p.2 fun t ht => ?_)).mpr ?_
      · simp only [ok_callD, ok_bind, ok_ret, ok_some, ok_none, ok_fail, ok_ifF, ok_lif, ok_var, ok_C, ok_rdim, ok_toim, ok_bin, ok_fTst, ok_fAnd, ok_fOr, ok_fNot, ok_chn, startD, outD, fThen, fSet, fAsg, fPar, fPar3, fIfS, fRet, fDrop, fEnd, fBrk, fCnt, fNotT, fAndT, fOrT, fIf, fIsi, fIsi2, fCall, fCallK, fCons, fNil, fCa, fTup, fLst, fLstM, mkM, fApp, appV, ok_putM, get_last, set_last, take_last, gAdd_int, L2.CDiv, L2.CMul, L2.CPow, fIx, ok_ixR, ok_ixI, ok_lenR, ok_callM, fNeg, fRev, fSl, slD, cut1, fON, fOS, fYes, ok_lc, ok_lcBody, ok_for, ok_newM, wipeD, ok_seqL, ok_seqT, ok_seqR, allD_mapF, anyD_mapF, sumD_mapF, List.all_map, fSeq, fRng1, fRng2, fEnum, fZip, gtName, gtSub, gtNil, gtCons, gtTup, mkT, mkL, toDs, DL.gD, gD.rds, c1, c2, ok_lenL, ok_lenT, eq_self, DL.gSub, gMul_int, take_set, ixn20, Int.toNat_natCast, ixn21, List.set_set, gFdv, gMod, gPow, gI, gI0, gLt, gLe, gGt, gGe, gIs, gIt, isN, absD, DL.intD, max2, min2, dmod, ixD_l, ixD_t, isiD, tyD, gsel, gEq_int, gNe_int, gEq_str, gNe_str, List.map_cons, List.map_nil, List.length_cons, List.length_nil, List.cons_append, List.nil_append, List.append_nil, List.replicate_succ, List.replicate_zero, Nat.reduceAdd, Nat.reduceSub, Nat.reduceLeDiff, Nat.reduceEqDiff, List.take_length, List.length_map, List.length_append, List.take_left', List.take_append_of_le_length, Nat.le_refl, Nat.zero_add, Nat.add_zero, and_true, true_and, true_or, or_true, Int.mul_one, Int.one_mul, Nat.one_mul, Nat.mul_one, and_false, false_and, if_pos, if_neg, reduceIte, reduceCtorEq, not_true_eq_false, not_false_eq_true, Bool.not_true, Bool.not_false, beq_self_eq_true, Bool.or_true, Bool.true_or, Bool.or_false, Bool.false_or, Bool.and_true, Bool.true_and, Bool.and_false, Bool.false_and, String.reduceBEq, at0, at1, at2, at3, Int.cast_ofNat_Int, decide_true, decide_false, decide_eq_true_eq, decide_eq_false_iff_not, Bool.not_eq_true', Bool.not_eq_eq_eq_not, Int.reduceSub, Int.reduceNeg, Int.reduceAdd, Int.reduceMul, Int.reduceLT, Int.reduceLE, Int.reduceEq, Int.reducePow, Int.reduceToNat, sumD_map, allD_map, anyD_map, srtD_map, srtD_mapT, tupD, lstD, List.getElem?_cons_zero, List.getElem?_cons_succ, List.set_cons_zero, List.set_cons_succ, Option.some.injEq, Option.map_some, Option.map_none, Bool.false_eq_true, if_true, if_false, in_list]
      · have cm : (-18446744073709551616 < 1 + d ∧ 1 + d < 18446744073709551616) := by omega
        simp only [ok_callD, ok_bind, ok_ret, ok_some, ok_none, ok_fail, ok_ifF, ok_lif, ok_var, ok_C, ok_rdim, ok_toim, ok_bin, ok_fTst, ok_fAnd, ok_fOr, ok_fNot, ok_chn, startD, outD, fThen, fSet, fAsg, fPar, fPar3, fIfS, fRet, fDrop, fEnd, fBrk, fCnt, fNotT, fAndT, fOrT, fIf, fIsi, fIsi2, fCall, fCallK, fCons, fNil, fCa, fTup, fLst, fLstM, mkM, fApp, appV, ok_putM, get_last, set_last, take_last, gAdd_int, L2.CDiv, L2.CMul, L2.CPow, fIx, ok_ixR, ok_ixI, ok_lenR, ok_callM, fNeg, fRev, fSl, slD, cut1, fON, fOS, fYes, ok_lc, ok_lcBody, ok_for, ok_newM, wipeD, ok_seqL, ok_seqT, ok_seqR, allD_mapF, anyD_mapF, sumD_mapF, List.all_map, fSeq, fRng1, fRng2, fEnum, fZip, gtName, gtSub, gtNil, gtCons, gtTup, mkT, mkL, toDs, DL.gD, gD.rds, c1, c2, ok_lenL, ok_lenT, eq_self, DL.gSub, gMul_int, take_set, ixn20, Int.toNat_natCast, ixn21, List.set_set, gFdv, gMod, gPow, gI, gI0, gLt, gLe, gGt, gGe, gIs, gIt, isN, absD, DL.intD, max2, min2, dmod, ixD_l, ixD_t, isiD, tyD, gsel, gEq_int, gNe_int, gEq_str, gNe_str, List.map_cons, List.map_nil, List.length_cons, List.length_nil, List.cons_append, List.nil_append, List.append_nil, List.replicate_succ, List.replicate_zero, Nat.reduceAdd, Nat.reduceSub, Nat.reduceLeDiff, Nat.reduceEqDiff, List.take_length, List.length_map, List.length_append, List.take_left', List.take_append_of_le_length, Nat.le_refl, Nat.zero_add, Nat.add_zero, and_true, true_and, true_or, or_true, Int.mul_one, Int.one_mul, Nat.one_mul, Nat.mul_one, and_false, false_and, if_pos, if_neg, reduceIte, reduceCtorEq, not_true_eq_false, not_false_eq_true, Bool.not_true, Bool.not_false, beq_self_eq_true, Bool.or_true, Bool.true_or, Bool.or_false, Bool.false_or, Bool.and_true, Bool.true_and, Bool.and_false, Bool.false_and, String.reduceBEq, at0, at1, at2, at3, Int.cast_ofNat_Int, decide_true, decide_false, decide_eq_true_eq, decide_eq_false_iff_not, Bool.not_eq_true', Bool.not_eq_eq_eq_not, Int.reduceSub, Int.reduceNeg, Int.reduceAdd, Int.reduceMul, Int.reduceLT, Int.reduceLE, Int.reduceEq, Int.reducePow, Int.reduceToNat, sumD_map, allD_map, anyD_map, srtD_map, srtD_mapT, tupD, lstD, List.getElem?_cons_zero, List.getElem?_cons_succ, List.set_cons_zero, List.set_cons_succ, Option.some.injEq, Option.map_some, Option.map_none, Bool.false_eq_true, if_true, if_false, hp6, cm]
    · have hzz := zipped hw.len (lots_len (m := n))
      have hz32 := pow_small hn
      have hz3 : (ws.zip (lots n)).length ≤ 1000 := by omega
      have e : ((ws.zip (lots n)).map fun p => PyData.int (p.1 + (1 + d) * (if (p.2.any fun t => decide ((t : Int) ∈ ns)) = true then 1 else 0))) = (((ws.zip (lots n)).map fun p => p.1 + (1 + d) * (if (p.2.any fun t => decide ((t : Int) ∈ ns)) = true then 1 else 0))).map .int := by rw [List.map_map]; rfl
      rw [e]
      refine ⟨by rw [List.length_map, List.length_map]; exact hz3, _, rfl, _, cb, _, _, _, _, _, _, _, _, _, _, rfl, rfl, gb, by rw [List.length_map]; exact hzz, fun w hw' => ?_⟩
      obtain ⟨p, hp, rfl⟩ := List.mem_map.mp hw'
      have := hw.bd p.1 (List.of_mem_zip hp).1
      split <;> omega
theorem mul_rep {x : PyData} {k : Nat} (hk : k ≤ 16777216) : gMul (.list [x]) (.int (k : Nat)) = some (.list (List.replicate k x)) := by
  unfold gMul
  have e : ∀ j : Nat, (List.replicate j [x]).flatten = List.replicate j x := fun j => by
    induction j with
    | zero => rfl
    | succ j ih => rw [List.replicate_succ, List.flatten_cons, ih]; rfl
  simp only [Int.toNat_natCast, e, List.length_singleton, Nat.one_mul]
  rw [if_pos ⟨by omega, by omega, hk⟩]
theorem table_3 {st : Sto} {i n : Nat} (hn : n ≤ 5) (hi : i < st.length) {way f : Int} {env : DEnv} {s : Sto} (h : TS st i n way f 16 env s) : Ok (b__law_table_3 env) s fun o s' => ∃ e, o = .nx e ∧ TS st i n way f 16 e s' := by
  have h0 := h
  obtain ⟨ws, c, x7, x8, x9, x10, x11, x12, x13, x14, x15, x16, rfl, rfl, g, hw⟩ := h
  have h2 : ∀ c : Cell, (st.set i c)[i]? = some c := fun c => List.getElem?_set_self hi
  obtain ⟨q, hq⟩ := in_tup3 (x := way)
  unfold b__law_table_3
  cases q with
  | false =>
    simp only [ok_callD, ok_bind, ok_ret, ok_some, ok_none, ok_fail, ok_ifF, ok_lif, ok_var, ok_C, ok_rdim, ok_toim, ok_bin, ok_fTst, ok_fAnd, ok_fOr, ok_fNot, ok_chn, startD, outD, fThen, fSet, fAsg, fPar, fPar3, fIfS, fRet, fDrop, fEnd, fBrk, fCnt, fNotT, fAndT, fOrT, fIf, fIsi, fIsi2, fCall, fCallK, fCons, fNil, fCa, fTup, fLst, fLstM, mkM, fApp, appV, ok_putM, get_last, set_last, take_last, gAdd_int, L2.CDiv, L2.CMul, L2.CPow, fIx, ok_ixR, ok_ixI, ok_lenR, ok_callM, fNeg, fRev, fSl, slD, cut1, fON, fOS, fYes, ok_lc, ok_lcBody, ok_for, ok_newM, wipeD, ok_seqL, ok_seqT, ok_seqR, allD_mapF, anyD_mapF, sumD_mapF, List.all_map, fSeq, fRng1, fRng2, fEnum, fZip, gtName, gtSub, gtNil, gtCons, gtTup, mkT, mkL, toDs, DL.gD, gD.rds, c1, c2, ok_lenL, ok_lenT, eq_self, DL.gSub, gMul_int, take_set, ixn20, Int.toNat_natCast, ixn21, List.set_set, gFdv, gMod, gPow, gI, gI0, gLt, gLe, gGt, gGe, gIs, gIt, isN, absD, DL.intD, max2, min2, dmod, ixD_l, ixD_t, isiD, tyD, gsel, gEq_int, gNe_int, gEq_str, gNe_str, List.map_cons, List.map_nil, List.length_cons, List.length_nil, List.cons_append, List.nil_append, List.append_nil, List.replicate_succ, List.replicate_zero, Nat.reduceAdd, Nat.reduceSub, Nat.reduceLeDiff, Nat.reduceEqDiff, List.take_length, List.length_map, List.length_append, List.take_left', List.take_append_of_le_length, Nat.le_refl, Nat.zero_add, Nat.add_zero, and_true, true_and, true_or, or_true, Int.mul_one, Int.one_mul, Nat.one_mul, Nat.mul_one, and_false, false_and, if_pos, if_neg, reduceIte, reduceCtorEq, not_true_eq_false, not_false_eq_true, Bool.not_true, Bool.not_false, beq_self_eq_true, Bool.or_true, Bool.true_or, Bool.or_false, Bool.false_or, Bool.and_true, Bool.true_and, Bool.and_false, Bool.false_and, String.reduceBEq, at0, at1, at2, at3, Int.cast_ofNat_Int, decide_true, decide_false, decide_eq_true_eq, decide_eq_false_iff_not, Bool.not_eq_true', Bool.not_eq_eq_eq_not, Int.reduceSub, Int.reduceNeg, Int.reduceAdd, Int.reduceMul, Int.reduceLT, Int.reduceLE, Int.reduceEq, Int.reducePow, Int.reduceToNat, sumD_map, allD_map, anyD_map, srtD_map, srtD_mapT, tupD, lstD, List.getElem?_cons_zero, List.getElem?_cons_succ, List.set_cons_zero, List.set_cons_succ, Option.some.injEq, Option.map_some, Option.map_none, Bool.false_eq_true, if_true, if_false, tenv, hq]
    exact ⟨_, rfl, h0⟩
  | true =>
    have hz := pow_small hn
    simp only [ok_callD, ok_bind, ok_ret, ok_some, ok_none, ok_fail, ok_ifF, ok_lif, ok_var, ok_C, ok_rdim, ok_toim, ok_bin, ok_fTst, ok_fAnd, ok_fOr, ok_fNot, ok_chn, startD, outD, fThen, fSet, fAsg, fPar, fPar3, fIfS, fRet, fDrop, fEnd, fBrk, fCnt, fNotT, fAndT, fOrT, fIf, fIsi, fIsi2, fCall, fCallK, fCons, fNil, fCa, fTup, fLst, fLstM, mkM, fApp, appV, ok_putM, get_last, set_last, take_last, gAdd_int, L2.CDiv, L2.CMul, L2.CPow, fIx, ok_ixR, ok_ixI, ok_lenR, ok_callM, fNeg, fRev, fSl, slD, cut1, fON, fOS, fYes, ok_lc, ok_lcBody, ok_for, ok_newM, wipeD, ok_seqL, ok_seqT, ok_seqR, allD_mapF, anyD_mapF, sumD_mapF, List.all_map, fSeq, fRng1, fRng2, fEnum, fZip, gtName, gtSub, gtNil, gtCons, gtTup, mkT, mkL, toDs, DL.gD, gD.rds, c1, c2, ok_lenL, ok_lenT, eq_self, DL.gSub, gMul_int, take_set, ixn20, Int.toNat_natCast, ixn21, List.set_set, gFdv, gMod, gPow, gI, gI0, gLt, gLe, gGt, gGe, gIs, gIt, isN, absD, DL.intD, max2, min2, dmod, ixD_l, ixD_t, isiD, tyD, gsel, gEq_int, gNe_int, gEq_str, gNe_str, List.map_cons, List.map_nil, List.length_cons, List.length_nil, List.cons_append, List.nil_append, List.append_nil, List.replicate_succ, List.replicate_zero, Nat.reduceAdd, Nat.reduceSub, Nat.reduceLeDiff, Nat.reduceEqDiff, List.take_length, List.length_map, List.length_append, List.take_left', List.take_append_of_le_length, Nat.le_refl, Nat.zero_add, Nat.add_zero, and_true, true_and, true_or, or_true, Int.mul_one, Int.one_mul, Nat.one_mul, Nat.mul_one, and_false, false_and, if_pos, if_neg, reduceIte, reduceCtorEq, not_true_eq_false, not_false_eq_true, Bool.not_true, Bool.not_false, beq_self_eq_true, Bool.or_true, Bool.true_or, Bool.or_false, Bool.false_or, Bool.and_true, Bool.true_and, Bool.and_false, Bool.false_and, String.reduceBEq, at0, at1, at2, at3, Int.cast_ofNat_Int, decide_true, decide_false, decide_eq_true_eq, decide_eq_false_iff_not, Bool.not_eq_true', Bool.not_eq_eq_eq_not, Int.reduceSub, Int.reduceNeg, Int.reduceAdd, Int.reduceMul, Int.reduceLT, Int.reduceLE, Int.reduceEq, Int.reducePow, Int.reduceToNat, sumD_map, allD_map, anyD_map, srtD_map, srtD_mapT, tupD, lstD, List.getElem?_cons_zero, List.getElem?_cons_succ, List.set_cons_zero, List.set_cons_succ, Option.some.injEq, Option.map_some, Option.map_none, Bool.false_eq_true, if_true, if_false, tenv, hq, lotsD, lots_len]
    rw [mul_rep (by omega)]
    simp only [ok_callD, ok_bind, ok_ret, ok_some, ok_none, ok_fail, ok_ifF, ok_lif, ok_var, ok_C, ok_rdim, ok_toim, ok_bin, ok_fTst, ok_fAnd, ok_fOr, ok_fNot, ok_chn, startD, outD, fThen, fSet, fAsg, fPar, fPar3, fIfS, fRet, fDrop, fEnd, fBrk, fCnt, fNotT, fAndT, fOrT, fIf, fIsi, fIsi2, fCall, fCallK, fCons, fNil, fCa, fTup, fLst, fLstM, mkM, fApp, appV, ok_putM, get_last, set_last, take_last, gAdd_int, L2.CDiv, L2.CMul, L2.CPow, fIx, ok_ixR, ok_ixI, ok_lenR, ok_callM, fNeg, fRev, fSl, slD, cut1, fON, fOS, fYes, ok_lc, ok_lcBody, ok_for, ok_newM, wipeD, ok_seqL, ok_seqT, ok_seqR, allD_mapF, anyD_mapF, sumD_mapF, List.all_map, fSeq, fRng1, fRng2, fEnum, fZip, gtName, gtSub, gtNil, gtCons, gtTup, mkT, mkL, toDs, DL.gD, gD.rds, c1, c2, ok_lenL, ok_lenT, eq_self, DL.gSub, gMul_int, take_set, ixn20, Int.toNat_natCast, ixn21, List.set_set, gFdv, gMod, gPow, gI, gI0, gLt, gLe, gGt, gGe, gIs, gIt, isN, absD, DL.intD, max2, min2, dmod, ixD_l, ixD_t, isiD, tyD, gsel, gEq_int, gNe_int, gEq_str, gNe_str, List.map_cons, List.map_nil, List.length_cons, List.length_nil, List.cons_append, List.nil_append, List.append_nil, List.replicate_succ, List.replicate_zero, Nat.reduceAdd, Nat.reduceSub, Nat.reduceLeDiff, Nat.reduceEqDiff, List.take_length, List.length_map, List.length_append, List.take_left', List.take_append_of_le_length, Nat.le_refl, Nat.zero_add, Nat.add_zero, and_true, true_and, true_or, or_true, Int.mul_one, Int.one_mul, Nat.one_mul, Nat.mul_one, and_false, false_and, if_pos, if_neg, reduceIte, reduceCtorEq, not_true_eq_false, not_false_eq_true, Bool.not_true, Bool.not_false, beq_self_eq_true, Bool.or_true, Bool.true_or, Bool.or_false, Bool.false_or, Bool.and_true, Bool.true_and, Bool.and_false, Bool.false_and, String.reduceBEq, at0, at1, at2, at3, Int.cast_ofNat_Int, decide_true, decide_false, decide_eq_true_eq, decide_eq_false_iff_not, Bool.not_eq_true', Bool.not_eq_eq_eq_not, Int.reduceSub, Int.reduceNeg, Int.reduceAdd, Int.reduceMul, Int.reduceLT, Int.reduceLE, Int.reduceEq, Int.reducePow, Int.reduceToNat, sumD_map, allD_map, anyD_map, srtD_map, srtD_mapT, tupD, lstD, List.getElem?_cons_zero, List.getElem?_cons_succ, List.set_cons_zero, List.set_cons_succ, Option.some.injEq, Option.map_some, Option.map_none, Bool.false_eq_true, if_true, if_false]
    refine draw_then (h2 _) g (by decide) (by decide) fun d ca d0 d1 ga => ?_
    simp only [ok_callD, ok_bind, ok_ret, ok_some, ok_none, ok_fail, ok_ifF, ok_lif, ok_var, ok_C, ok_rdim, ok_toim, ok_bin, ok_fTst, ok_fAnd, ok_fOr, ok_fNot, ok_chn, startD, outD, fThen, fSet, fAsg, fPar, fPar3, fIfS, fRet, fDrop, fEnd, fBrk, fCnt, fNotT, fAndT, fOrT, fIf, fIsi, fIsi2, fCall, fCallK, fCons, fNil, fCa, fTup, fLst, fLstM, mkM, fApp, appV, ok_putM, get_last, set_last, take_last, gAdd_int, L2.CDiv, L2.CMul, L2.CPow, fIx, ok_ixR, ok_ixI, ok_lenR, ok_callM, fNeg, fRev, fSl, slD, cut1, fON, fOS, fYes, ok_lc, ok_lcBody, ok_for, ok_newM, wipeD, ok_seqL, ok_seqT, ok_seqR, allD_mapF, anyD_mapF, sumD_mapF, List.all_map, fSeq, fRng1, fRng2, fEnum, fZip, gtName, gtSub, gtNil, gtCons, gtTup, mkT, mkL, toDs, DL.gD, gD.rds, c1, c2, ok_lenL, ok_lenT, eq_self, DL.gSub, gMul_int, take_set, ixn20, Int.toNat_natCast, ixn21, List.set_set, gFdv, gMod, gPow, gI, gI0, gLt, gLe, gGt, gGe, gIs, gIt, isN, absD, DL.intD, max2, min2, dmod, ixD_l, ixD_t, isiD, tyD, gsel, gEq_int, gNe_int, gEq_str, gNe_str, List.map_cons, List.map_nil, List.length_cons, List.length_nil, List.cons_append, List.nil_append, List.append_nil, List.replicate_succ, List.replicate_zero, Nat.reduceAdd, Nat.reduceSub, Nat.reduceLeDiff, Nat.reduceEqDiff, List.take_length, List.length_map, List.length_append, List.take_left', List.take_append_of_le_length, Nat.le_refl, Nat.zero_add, Nat.add_zero, and_true, true_and, true_or, or_true, Int.mul_one, Int.one_mul, Nat.one_mul, Nat.mul_one, and_false, false_and, if_pos, if_neg, reduceIte, reduceCtorEq, not_true_eq_false, not_false_eq_true, Bool.not_true, Bool.not_false, beq_self_eq_true, Bool.or_true, Bool.true_or, Bool.or_false, Bool.false_or, Bool.and_true, Bool.true_and, Bool.and_false, Bool.false_and, String.reduceBEq, at0, at1, at2, at3, Int.cast_ofNat_Int, decide_true, decide_false, decide_eq_true_eq, decide_eq_false_iff_not, Bool.not_eq_true', Bool.not_eq_eq_eq_not, Int.reduceSub, Int.reduceNeg, Int.reduceAdd, Int.reduceMul, Int.reduceLT, Int.reduceLE, Int.reduceEq, Int.reducePow, Int.reduceToNat, sumD_map, allD_map, anyD_map, srtD_map, srtD_mapT, tupD, lstD, List.getElem?_cons_zero, List.getElem?_cons_succ, List.set_cons_zero, List.set_cons_succ, Option.some.injEq, Option.map_some, Option.map_none, Bool.false_eq_true, if_true, if_false]
    obtain ⟨k, rfl⟩ : ∃ k : Nat, d = (k : Int) := ⟨d.toNat, by omega⟩
    have ek : (1 + (k : Int)).toNat = k + 1 := by omega
    refine ⟨by omega, ?_⟩
    rw [ek]
    refine loop_nat (fun j env s => TS st i n way f (4 * j) env s) (fun j env s hj h => ?_) (fun env s h => ⟨_, rfl, h.up (by omega)⟩) ?_
    · refine ok_mono (table_loop hn hi h) fun o s' ⟨e, he, ht⟩ => ?_
      subst he
      exact ht.up (by omega)
    · exact ⟨List.replicate (2 ^ n) 0, ca, _, _, _, _, _, _, _, _, _, _, by rw [List.map_replicate]; rfl, rfl, ga, List.length_replicate, fun w hw => by rw [(List.mem_replicate.mp hw).2]; omega⟩
theorem table_4 {st : Sto} {i n : Nat} (hn : n ≤ 5) (hi : i < st.length) {way f : Int} {env : DEnv} {s : Sto} (h : TS st i n way f 16 env s) : Ok (b__law_table_4 env) s fun o s' => ∃ e, o = .nx e ∧ TS st i n way f 48 e s' := by
  have h0 := h
  obtain ⟨ws, c, x7, x8, x9, x10, x11, x12, x13, x14, x15, x16, rfl, rfl, g, hw⟩ := h
  unfold b__law_table_4
  by_cases hy : way = 3
  · have hz := pow_small hn
    simp only [ok_callD, ok_bind, ok_ret, ok_some, ok_none, ok_fail, ok_ifF, ok_lif, ok_var, ok_C, ok_rdim, ok_toim, ok_bin, ok_fTst, ok_fAnd, ok_fOr, ok_fNot, ok_chn, startD, outD, fThen, fSet, fAsg, fPar, fPar3, fIfS, fRet, fDrop, fEnd, fBrk, fCnt, fNotT, fAndT, fOrT, fIf, fIsi, fIsi2, fCall, fCallK, fCons, fNil, fCa, fTup, fLst, fLstM, mkM, fApp, appV, ok_putM, get_last, set_last, take_last, gAdd_int, L2.CDiv, L2.CMul, L2.CPow, fIx, ok_ixR, ok_ixI, ok_lenR, ok_callM, fNeg, fRev, fSl, slD, cut1, fON, fOS, fYes, ok_lc, ok_lcBody, ok_for, ok_newM, wipeD, ok_seqL, ok_seqT, ok_seqR, allD_mapF, anyD_mapF, sumD_mapF, List.all_map, fSeq, fRng1, fRng2, fEnum, fZip, gtName, gtSub, gtNil, gtCons, gtTup, mkT, mkL, toDs, DL.gD, gD.rds, c1, c2, ok_lenL, ok_lenT, eq_self, DL.gSub, gMul_int, take_set, ixn20, Int.toNat_natCast, ixn21, List.set_set, gFdv, gMod, gPow, gI, gI0, gLt, gLe, gGt, gGe, gIs, gIt, isN, absD, DL.intD, max2, min2, dmod, ixD_l, ixD_t, isiD, tyD, gsel, gEq_int, gNe_int, gEq_str, gNe_str, List.map_cons, List.map_nil, List.length_cons, List.length_nil, List.cons_append, List.nil_append, List.append_nil, List.replicate_succ, List.replicate_zero, Nat.reduceAdd, Nat.reduceSub, Nat.reduceLeDiff, Nat.reduceEqDiff, List.take_length, List.length_map, List.length_append, List.take_left', List.take_append_of_le_length, Nat.le_refl, Nat.zero_add, Nat.add_zero, and_true, true_and, true_or, or_true, Int.mul_one, Int.one_mul, Nat.one_mul, Nat.mul_one, and_false, false_and, if_pos, if_neg, reduceIte, reduceCtorEq, not_true_eq_false, not_false_eq_true, Bool.not_true, Bool.not_false, beq_self_eq_true, Bool.or_true, Bool.true_or, Bool.or_false, Bool.false_or, Bool.and_true, Bool.true_and, Bool.and_false, Bool.false_and, String.reduceBEq, at0, at1, at2, at3, Int.cast_ofNat_Int, decide_true, decide_false, decide_eq_true_eq, decide_eq_false_iff_not, Bool.not_eq_true', Bool.not_eq_eq_eq_not, Int.reduceSub, Int.reduceNeg, Int.reduceAdd, Int.reduceMul, Int.reduceLT, Int.reduceLE, Int.reduceEq, Int.reducePow, Int.reduceToNat, sumD_map, allD_map, anyD_map, srtD_map, srtD_mapT, tupD, lstD, List.getElem?_cons_zero, List.getElem?_cons_succ, List.set_cons_zero, List.set_cons_succ, Option.some.injEq, Option.map_some, Option.map_none, Bool.false_eq_true, if_true, if_false, tenv, hy]
    rw [← List.map_reverse]
    have zz : zipD (ws.map .int) (ws.reverse.map .int) = (ws.zip ws.reverse).map fun p => .tuple [.int p.1, .int p.2] := by
      unfold zipD
      rw [List.zipWith_map, List.zip, List.map_zipWith]
    rw [zz]
    have hne : 0 < ws.length := by rw [hw.len]; exact Nat.two_pow_pos n
    obtain ⟨z, hz1, hz2⟩ : ∃ z, L2.atI (ws.map PyData.int) (-1) = some (.int z) ∧ z ∈ ws := by
      refine ⟨ws[ws.length - 1]'(by omega), ?_, List.getElem_mem _⟩
      unfold L2.atI L2.ixN
      rw [if_neg (by decide), if_pos (by rw [List.length_map]; omega)]
      show (ws.map PyData.int)[((-1 : Int) + ((ws.map PyData.int).length : Int)).toNat]? = _
      rw [List.length_map, show ((-1 : Int) + (ws.length : Int)).toNat = ws.length - 1 by omega, List.getElem?_map, List.getElem?_eq_getElem (by omega)]
      rfl
    refine (ok_eq (lc_mapA (fun (p : Int × Int) => PyData.tuple [.int p.1, .int p.2]) (fun p => PyData.int (p.1 + p.2 - z)) _ fun p hp => ?_)).mpr ?_
    · simp only [ok_callD, ok_bind, ok_ret, ok_some, ok_none, ok_fail, ok_ifF, ok_lif, ok_var, ok_C, ok_rdim, ok_toim, ok_bin, ok_fTst, ok_fAnd, ok_fOr, ok_fNot, ok_chn, startD, outD, fThen, fSet, fAsg, fPar, fPar3, fIfS, fRet, fDrop, fEnd, fBrk, fCnt, fNotT, fAndT, fOrT, fIf, fIsi, fIsi2, fCall, fCallK, fCons, fNil, fCa, fTup, fLst, fLstM, mkM, fApp, appV, ok_putM, get_last, set_last, take_last, gAdd_int, L2.CDiv, L2.CMul, L2.CPow, fIx, ok_ixR, ok_ixI, ok_lenR, ok_callM, fNeg, fRev, fSl, slD, cut1, fON, fOS, fYes, ok_lc, ok_lcBody, ok_for, ok_newM, wipeD, ok_seqL, ok_seqT, ok_seqR, allD_mapF, anyD_mapF, sumD_mapF, List.all_map, fSeq, fRng1, fRng2, fEnum, fZip, gtName, gtSub, gtNil, gtCons, gtTup, mkT, mkL, toDs, DL.gD, gD.rds, c1, c2, ok_lenL, ok_lenT, eq_self, DL.gSub, gMul_int, take_set, ixn20, Int.toNat_natCast, ixn21, List.set_set, gFdv, gMod, gPow, gI, gI0, gLt, gLe, gGt, gGe, gIs, gIt, isN, absD, DL.intD, max2, min2, dmod, ixD_l, ixD_t, isiD, tyD, gsel, gEq_int, gNe_int, gEq_str, gNe_str, List.map_cons, List.map_nil, List.length_cons, List.length_nil, List.cons_append, List.nil_append, List.append_nil, List.replicate_succ, List.replicate_zero, Nat.reduceAdd, Nat.reduceSub, Nat.reduceLeDiff, Nat.reduceEqDiff, List.take_length, List.length_map, List.length_append, List.take_left', List.take_append_of_le_length, Nat.le_refl, Nat.zero_add, Nat.add_zero, and_true, true_and, true_or, or_true, Int.mul_one, Int.one_mul, Nat.one_mul, Nat.mul_one, and_false, false_and, if_pos, if_neg, reduceIte, reduceCtorEq, not_true_eq_false, not_false_eq_true, Bool.not_true, Bool.not_false, beq_self_eq_true, Bool.or_true, Bool.true_or, Bool.or_false, Bool.false_or, Bool.and_true, Bool.true_and, Bool.and_false, Bool.false_and, String.reduceBEq, at0, at1, at2, at3, Int.cast_ofNat_Int, decide_true, decide_false, decide_eq_true_eq, decide_eq_false_iff_not, Bool.not_eq_true', Bool.not_eq_eq_eq_not, Int.reduceSub, Int.reduceNeg, Int.reduceAdd, Int.reduceMul, Int.reduceLT, Int.reduceLE, Int.reduceEq, Int.reducePow, Int.reduceToNat, sumD_map, allD_map, anyD_map, srtD_map, srtD_mapT, tupD, lstD, List.getElem?_cons_zero, List.getElem?_cons_succ, List.set_cons_zero, List.set_cons_succ, Option.some.injEq, Option.map_some, Option.map_none, Bool.false_eq_true, if_true, if_false, hz1]
    · have hzz := zipped (r := ws.reverse) hw.len (by rw [List.length_reverse]; exact hw.len)
      have hz3 : (ws.zip ws.reverse).length ≤ 1000 := by omega
      have e : ((ws.zip ws.reverse).map fun p => PyData.int (p.1 + p.2 - z)) = ((ws.zip ws.reverse).map fun p => p.1 + p.2 - z).map .int := by rw [List.map_map]; rfl
      rw [e]
      simp only [ok_callD, ok_bind, ok_ret, ok_some, ok_none, ok_fail, ok_ifF, ok_lif, ok_var, ok_C, ok_rdim, ok_toim, ok_bin, ok_fTst, ok_fAnd, ok_fOr, ok_fNot, ok_chn, startD, outD, fThen, fSet, fAsg, fPar, fPar3, fIfS, fRet, fDrop, fEnd, fBrk, fCnt, fNotT, fAndT, fOrT, fIf, fIsi, fIsi2, fCall, fCallK, fCons, fNil, fCa, fTup, fLst, fLstM, mkM, fApp, appV, ok_putM, get_last, set_last, take_last, gAdd_int, L2.CDiv, L2.CMul, L2.CPow, fIx, ok_ixR, ok_ixI, ok_lenR, ok_callM, fNeg, fRev, fSl, slD, cut1, fON, fOS, fYes, ok_lc, ok_lcBody, ok_for, ok_newM, wipeD, ok_seqL, ok_seqT, ok_seqR, allD_mapF, anyD_mapF, sumD_mapF, List.all_map, fSeq, fRng1, fRng2, fEnum, fZip, gtName, gtSub, gtNil, gtCons, gtTup, mkT, mkL, toDs, DL.gD, gD.rds, c1, c2, ok_lenL, ok_lenT, eq_self, DL.gSub, gMul_int, take_set, ixn20, Int.toNat_natCast, ixn21, List.set_set, gFdv, gMod, gPow, gI, gI0, gLt, gLe, gGt, gGe, gIs, gIt, isN, absD, DL.intD, max2, min2, dmod, ixD_l, ixD_t, isiD, tyD, gsel, gEq_int, gNe_int, gEq_str, gNe_str, List.map_cons, List.map_nil, List.length_cons, List.length_nil, List.cons_append, List.nil_append, List.append_nil, List.replicate_succ, List.replicate_zero, Nat.reduceAdd, Nat.reduceSub, Nat.reduceLeDiff, Nat.reduceEqDiff, List.take_length, List.length_map, List.length_append, List.take_left', List.take_append_of_le_length, Nat.le_refl, Nat.zero_add, Nat.add_zero, and_true, true_and, true_or, or_true, Int.mul_one, Int.one_mul, Nat.one_mul, Nat.mul_one, and_false, false_and, if_pos, if_neg, reduceIte, reduceCtorEq, not_true_eq_false, not_false_eq_true, Bool.not_true, Bool.not_false, beq_self_eq_true, Bool.or_true, Bool.true_or, Bool.or_false, Bool.false_or, Bool.and_true, Bool.true_and, Bool.and_false, Bool.false_and, String.reduceBEq, at0, at1, at2, at3, Int.cast_ofNat_Int, decide_true, decide_false, decide_eq_true_eq, decide_eq_false_iff_not, Bool.not_eq_true', Bool.not_eq_eq_eq_not, Int.reduceSub, Int.reduceNeg, Int.reduceAdd, Int.reduceMul, Int.reduceLT, Int.reduceLE, Int.reduceEq, Int.reducePow, Int.reduceToNat, sumD_map, allD_map, anyD_map, srtD_map, srtD_mapT, tupD, lstD, List.getElem?_cons_zero, List.getElem?_cons_succ, List.set_cons_zero, List.set_cons_succ, Option.some.injEq, Option.map_some, Option.map_none, Bool.false_eq_true, if_true, if_false, hz3]
      refine ⟨_, rfl, _, c, _, _, _, _, _, _, _, _, _, _, rfl, rfl, g, by rw [List.length_map]; exact hzz, fun w hw' => ?_⟩
      obtain ⟨p, hp, rfl⟩ := List.mem_map.mp hw'
      have b1 := hw.bd p.1 (List.of_mem_zip hp).1
      have b2 := hw.bd p.2 (List.mem_reverse.mp (List.of_mem_zip hp).2)
      have b3 := hw.bd z hz2
      omega
  · simp only [ok_callD, ok_bind, ok_ret, ok_some, ok_none, ok_fail, ok_ifF, ok_lif, ok_var, ok_C, ok_rdim, ok_toim, ok_bin, ok_fTst, ok_fAnd, ok_fOr, ok_fNot, ok_chn, startD, outD, fThen, fSet, fAsg, fPar, fPar3, fIfS, fRet, fDrop, fEnd, fBrk, fCnt, fNotT, fAndT, fOrT, fIf, fIsi, fIsi2, fCall, fCallK, fCons, fNil, fCa, fTup, fLst, fLstM, mkM, fApp, appV, ok_putM, get_last, set_last, take_last, gAdd_int, L2.CDiv, L2.CMul, L2.CPow, fIx, ok_ixR, ok_ixI, ok_lenR, ok_callM, fNeg, fRev, fSl, slD, cut1, fON, fOS, fYes, ok_lc, ok_lcBody, ok_for, ok_newM, wipeD, ok_seqL, ok_seqT, ok_seqR, allD_mapF, anyD_mapF, sumD_mapF, List.all_map, fSeq, fRng1, fRng2, fEnum, fZip, gtName, gtSub, gtNil, gtCons, gtTup, mkT, mkL, toDs, DL.gD, gD.rds, c1, c2, ok_lenL, ok_lenT, eq_self, DL.gSub, gMul_int, take_set, ixn20, Int.toNat_natCast, ixn21, List.set_set, gFdv, gMod, gPow, gI, gI0, gLt, gLe, gGt, gGe, gIs, gIt, isN, absD, DL.intD, max2, min2, dmod, ixD_l, ixD_t, isiD, tyD, gsel, gEq_int, gNe_int, gEq_str, gNe_str, List.map_cons, List.map_nil, List.length_cons, List.length_nil, List.cons_append, List.nil_append, List.append_nil, List.replicate_succ, List.replicate_zero, Nat.reduceAdd, Nat.reduceSub, Nat.reduceLeDiff, Nat.reduceEqDiff, List.take_length, List.length_map, List.length_append, List.take_left', List.take_append_of_le_length, Nat.le_refl, Nat.zero_add, Nat.add_zero, and_true, true_and, true_or, or_true, Int.mul_one, Int.one_mul, Nat.one_mul, Nat.mul_one, and_false, false_and, if_pos, if_neg, reduceIte, reduceCtorEq, not_true_eq_false, not_false_eq_true, Bool.not_true, Bool.not_false, beq_self_eq_true, Bool.or_true, Bool.true_or, Bool.or_false, Bool.false_or, Bool.and_true, Bool.true_and, Bool.and_false, Bool.false_and, String.reduceBEq, at0, at1, at2, at3, Int.cast_ofNat_Int, decide_true, decide_false, decide_eq_true_eq, decide_eq_false_iff_not, Bool.not_eq_true', Bool.not_eq_eq_eq_not, Int.reduceSub, Int.reduceNeg, Int.reduceAdd, Int.reduceMul, Int.reduceLT, Int.reduceLE, Int.reduceEq, Int.reducePow, Int.reduceToNat, sumD_map, allD_map, anyD_map, srtD_map, srtD_mapT, tupD, lstD, List.getElem?_cons_zero, List.getElem?_cons_succ, List.set_cons_zero, List.set_cons_succ, Option.some.injEq, Option.map_some, Option.map_none, Bool.false_eq_true, if_true, if_false, tenv, hy]
    exact ⟨_, rfl, h0.up (by omega)⟩
theorem lc_all {β : Type} {body : PyData → M (Option DV)} (dec : β → PyData) (J : Sto → Prop) (P : β → Prop) (ds : List PyData) (h : ∀ d ∈ ds, ∀ s, J s → Ok (body d) s fun r s' => ∃ x, r = some (.im (dec x)) ∧ P x ∧ J s') (s : Sto) (hj : J s) :
    Ok (lcM [] body ds) s fun xs s' => ∃ ws : List β, xs = ws.map dec ∧ ws.length = ds.length ∧ (∀ x ∈ ws, P x) ∧ J s' :=
  ok_mono (lc_rel dec J (fun _ x => P x) ds h s hj) fun xs s' ⟨ws, e, hl, hw, hj'⟩ => ⟨ws, e, hl, fun x hx => by
    obtain ⟨j, hj2⟩ := List.mem_iff_getElem?.mp hx
    have hlt : j < ds.length := by rw [← hl]; exact (List.getElem?_eq_some_iff.mp hj2).1
    exact hw j ds[j] x (List.getElem?_eq_getElem hlt) hj2, hj'⟩
theorem sum_bd {α : Type} {g : α → Int} {B : Int} : ∀ {l : List α}, (∀ t ∈ l, -B ≤ g t ∧ g t ≤ B) → l.length ≤ 5 → 0 ≤ B → -(5 * B) ≤ (l.map g).sum ∧ (l.map g).sum ≤ 5 * B := by
  have key : ∀ (l : List α), (∀ t ∈ l, -B ≤ g t ∧ g t ≤ B) → 0 ≤ B → -((l.length : Int) * B) ≤ (l.map g).sum ∧ (l.map g).sum ≤ (l.length : Int) * B := by
    intro l
    induction l with
    | nil => intro _ _; simp
    | cons a r ih =>
      intro h hB
      have i1 := ih (fun t ht => h t (by simp [ht])) hB
      have i2 := h a (by simp)
      simp only [List.map_cons, List.sum_cons, List.length_cons]
      have e : (((r.length + 1 : Nat) : Int)) * B = (r.length : Int) * B + B := by
        rw [Int.natCast_add, Int.add_mul]; simp
      rw [e]
      omega
  intro l h hl hB
  have k := key l h hB
  have m : (l.length : Int) * B ≤ 5 * B := Int.mul_le_mul_of_nonneg_right (by omega) hB
  omega
theorem steps_at {ws : List Int} {n t : Nat} (hl : ws.length = n) (ht : t < n) : L2.atI (ws.map PyData.int) (t : Int) = some (.int (ws.getD t 0)) ∧ ws.getD t 0 ∈ ws := by
  have e : ws[t]? = some (ws[t]'(by omega)) := List.getElem?_eq_getElem (by omega)
  rw [atI_nat (j := t) rfl, List.getElem?_map, List.getD_eq_getElem?_getD, e]
  exact ⟨rfl, List.getElem_mem _⟩
theorem table_5 {st : Sto} {i n : Nat} (hn : n ≤ 5) (hi : i < st.length) {way f : Int} {env : DEnv} {s : Sto} (h : TS st i n way f 48 env s) : Ok (b__law_table_5 env) s fun o s' => ∃ e, o = .nx e ∧ TS st i n way f 48 e s' := by
  have h0 := h
  obtain ⟨ws, c, x7, x8, x9, x10, x11, x12, x13, x14, x15, x16, rfl, rfl, g, hw⟩ := h
  have h2 : ∀ c : Cell, (st.set i c)[i]? = some c := fun c => List.getElem?_set_self hi
  have hz := pow_small hn
  unfold b__law_table_5
  by_cases hy : way = 4
  · simp only [ok_callD, ok_bind, ok_ret, ok_some, ok_none, ok_fail, ok_ifF, ok_lif, ok_var, ok_C, ok_rdim, ok_toim, ok_bin, ok_fTst, ok_fAnd, ok_fOr, ok_fNot, ok_chn, startD, outD, fThen, fSet, fAsg, fPar, fPar3, fIfS, fRet, fDrop, fEnd, fBrk, fCnt, fNotT, fAndT, fOrT, fIf, fIsi, fIsi2, fCall, fCallK, fCons, fNil, fCa, fTup, fLst, fLstM, mkM, fApp, appV, ok_putM, get_last, set_last, take_last, gAdd_int, L2.CDiv, L2.CMul, L2.CPow, fIx, ok_ixR, ok_ixI, ok_lenR, ok_callM, fNeg, fRev, fSl, slD, cut1, fON, fOS, fYes, ok_lc, ok_lcBody, ok_for, ok_newM, wipeD, ok_seqL, ok_seqT, ok_seqR, allD_mapF, anyD_mapF, sumD_mapF, List.all_map, fSeq, fRng1, fRng2, fEnum, fZip, gtName, gtSub, gtNil, gtCons, gtTup, mkT, mkL, toDs, DL.gD, gD.rds, c1, c2, ok_lenL, ok_lenT, eq_self, DL.gSub, gMul_int, take_set, ixn20, Int.toNat_natCast, ixn21, List.set_set, gFdv, gMod, gPow, gI, gI0, gLt, gLe, gGt, gGe, gIs, gIt, isN, absD, DL.intD, max2, min2, dmod, ixD_l, ixD_t, isiD, tyD, gsel, gEq_int, gNe_int, gEq_str, gNe_str, List.map_cons, List.map_nil, List.length_cons, List.length_nil, List.cons_append, List.nil_append, List.append_nil, List.replicate_succ, List.replicate_zero, Nat.reduceAdd, Nat.reduceSub, Nat.reduceLeDiff, Nat.reduceEqDiff, List.take_length, List.length_map, List.length_append, List.take_left', List.take_append_of_le_length, Nat.le_refl, Nat.zero_add, Nat.add_zero, and_true, true_and, true_or, or_true, Int.mul_one, Int.one_mul, Nat.one_mul, Nat.mul_one, and_false, false_and, if_pos, if_neg, reduceIte, reduceCtorEq, not_true_eq_false, not_false_eq_true, Bool.not_true, Bool.not_false, beq_self_eq_true, Bool.or_true, Bool.true_or, Bool.or_false, Bool.false_or, Bool.and_true, Bool.true_and, Bool.and_false, Bool.false_and, String.reduceBEq, at0, at1, at2, at3, Int.cast_ofNat_Int, decide_true, decide_false, decide_eq_true_eq, decide_eq_false_iff_not, Bool.not_eq_true', Bool.not_eq_eq_eq_not, Int.reduceSub, Int.reduceNeg, Int.reduceAdd, Int.reduceMul, Int.reduceLT, Int.reduceLE, Int.reduceEq, Int.reducePow, Int.reduceToNat, sumD_map, allD_map, anyD_map, srtD_map, srtD_mapT, tupD, lstD, List.getElem?_cons_zero, List.getElem?_cons_succ, List.set_cons_zero, List.set_cons_succ, Option.some.injEq, Option.map_some, Option.map_none, Bool.false_eq_true, if_true, if_false, tenv, hy]
    refine ⟨by omega, ?_⟩
    refine ok_mono (lc_all PyData.int (Js st i) (fun x => -4 ≤ x ∧ x ≤ 4) (rangeD 0 n) (fun d hd s hj => ?_) _ ⟨c, rfl, g⟩) ?_
    · obtain ⟨t, ht, rfl⟩ := rng_mem hd
      obtain ⟨cc, rfl, gg⟩ := hj
      simp only [ok_callD, ok_bind, ok_ret, ok_some, ok_none, ok_fail, ok_ifF, ok_lif, ok_var, ok_C, ok_rdim, ok_toim, ok_bin, ok_fTst, ok_fAnd, ok_fOr, ok_fNot, ok_chn, startD, outD, fThen, fSet, fAsg, fPar, fPar3, fIfS, fRet, fDrop, fEnd, fBrk, fCnt, fNotT, fAndT, fOrT, fIf, fIsi, fIsi2, fCall, fCallK, fCons, fNil, fCa, fTup, fLst, fLstM, mkM, fApp, appV, ok_putM, get_last, set_last, take_last, gAdd_int, L2.CDiv, L2.CMul, L2.CPow, fIx, ok_ixR, ok_ixI, ok_lenR, ok_callM, fNeg, fRev, fSl, slD, cut1, fON, fOS, fYes, ok_lc, ok_lcBody, ok_for, ok_newM, wipeD, ok_seqL, ok_seqT, ok_seqR, allD_mapF, anyD_mapF, sumD_mapF, List.all_map, fSeq, fRng1, fRng2, fEnum, fZip, gtName, gtSub, gtNil, gtCons, gtTup, mkT, mkL, toDs, DL.gD, gD.rds, c1, c2, ok_lenL, ok_lenT, eq_self, DL.gSub, gMul_int, take_set, ixn20, Int.toNat_natCast, ixn21, List.set_set, gFdv, gMod, gPow, gI, gI0, gLt, gLe, gGt, gGe, gIs, gIt, isN, absD, DL.intD, max2, min2, dmod, ixD_l, ixD_t, isiD, tyD, gsel, gEq_int, gNe_int, gEq_str, gNe_str, List.map_cons, List.map_nil, List.length_cons, List.length_nil, List.cons_append, List.nil_append, List.append_nil, List.replicate_succ, List.replicate_zero, Nat.reduceAdd, Nat.reduceSub, Nat.reduceLeDiff, Nat.reduceEqDiff, List.take_length, List.length_map, List.length_append, List.take_left', List.take_append_of_le_length, Nat.le_refl, Nat.zero_add, Nat.add_zero, and_true, true_and, true_or, or_true, Int.mul_one, Int.one_mul, Nat.one_mul, Nat.mul_one, and_false, false_and, if_pos, if_neg, reduceIte, reduceCtorEq, not_true_eq_false, not_false_eq_true, Bool.not_true, Bool.not_false, beq_self_eq_true, Bool.or_true, Bool.true_or, Bool.or_false, Bool.false_or, Bool.and_true, Bool.true_and, Bool.and_false, Bool.false_and, String.reduceBEq, at0, at1, at2, at3, Int.cast_ofNat_Int, decide_true, decide_false, decide_eq_true_eq, decide_eq_false_iff_not, Bool.not_eq_true', Bool.not_eq_eq_eq_not, Int.reduceSub, Int.reduceNeg, Int.reduceAdd, Int.reduceMul, Int.reduceLT, Int.reduceLE, Int.reduceEq, Int.reducePow, Int.reduceToNat, sumD_map, allD_map, anyD_map, srtD_map, srtD_mapT, tupD, lstD, List.getElem?_cons_zero, List.getElem?_cons_succ, List.set_cons_zero, List.set_cons_succ, Option.some.injEq, Option.map_some, Option.map_none, Bool.false_eq_true, if_true, if_false]
      refine draw_then (h2 _) gg (by decide) (by decide) fun d cd d0 d1 gd => ?_
      simp only [ok_callD, ok_bind, ok_ret, ok_some, ok_none, ok_fail, ok_ifF, ok_lif, ok_var, ok_C, ok_rdim, ok_toim, ok_bin, ok_fTst, ok_fAnd, ok_fOr, ok_fNot, ok_chn, startD, outD, fThen, fSet, fAsg, fPar, fPar3, fIfS, fRet, fDrop, fEnd, fBrk, fCnt, fNotT, fAndT, fOrT, fIf, fIsi, fIsi2, fCall, fCallK, fCons, fNil, fCa, fTup, fLst, fLstM, mkM, fApp, appV, ok_putM, get_last, set_last, take_last, gAdd_int, L2.CDiv, L2.CMul, L2.CPow, fIx, ok_ixR, ok_ixI, ok_lenR, ok_callM, fNeg, fRev, fSl, slD, cut1, fON, fOS, fYes, ok_lc, ok_lcBody, ok_for, ok_newM, wipeD, ok_seqL, ok_seqT, ok_seqR, allD_mapF, anyD_mapF, sumD_mapF, List.all_map, fSeq, fRng1, fRng2, fEnum, fZip, gtName, gtSub, gtNil, gtCons, gtTup, mkT, mkL, toDs, DL.gD, gD.rds, c1, c2, ok_lenL, ok_lenT, eq_self, DL.gSub, gMul_int, take_set, ixn20, Int.toNat_natCast, ixn21, List.set_set, gFdv, gMod, gPow, gI, gI0, gLt, gLe, gGt, gGe, gIs, gIt, isN, absD, DL.intD, max2, min2, dmod, ixD_l, ixD_t, isiD, tyD, gsel, gEq_int, gNe_int, gEq_str, gNe_str, List.map_cons, List.map_nil, List.length_cons, List.length_nil, List.cons_append, List.nil_append, List.append_nil, List.replicate_succ, List.replicate_zero, Nat.reduceAdd, Nat.reduceSub, Nat.reduceLeDiff, Nat.reduceEqDiff, List.take_length, List.length_map, List.length_append, List.take_left', List.take_append_of_le_length, Nat.le_refl, Nat.zero_add, Nat.add_zero, and_true, true_and, true_or, or_true, Int.mul_one, Int.one_mul, Nat.one_mul, Nat.mul_one, and_false, false_and, if_pos, if_neg, reduceIte, reduceCtorEq, not_true_eq_false, not_false_eq_true, Bool.not_true, Bool.not_false, beq_self_eq_true, Bool.or_true, Bool.true_or, Bool.or_false, Bool.false_or, Bool.and_true, Bool.true_and, Bool.and_false, Bool.false_and, String.reduceBEq, at0, at1, at2, at3, Int.cast_ofNat_Int, decide_true, decide_false, decide_eq_true_eq, decide_eq_false_iff_not, Bool.not_eq_true', Bool.not_eq_eq_eq_not, Int.reduceSub, Int.reduceNeg, Int.reduceAdd, Int.reduceMul, Int.reduceLT, Int.reduceLE, Int.reduceEq, Int.reducePow, Int.reduceToNat, sumD_map, allD_map, anyD_map, srtD_map, srtD_mapT, tupD, lstD, List.getElem?_cons_zero, List.getElem?_cons_succ, List.set_cons_zero, List.set_cons_succ, Option.some.injEq, Option.map_some, Option.map_none, Bool.false_eq_true, if_true, if_false]
      exact ⟨d - 4, rfl, by omega, cd, rfl, gd⟩
    · rintro xs s ⟨ss, rfl, hl, hs, cb, rfl, gb⟩
      rw [rng_len] at hl
      have hl2 : ss.length ≤ 1000 := by omega
      simp only [ok_callD, ok_bind, ok_ret, ok_some, ok_none, ok_fail, ok_ifF, ok_lif, ok_var, ok_C, ok_rdim, ok_toim, ok_bin, ok_fTst, ok_fAnd, ok_fOr, ok_fNot, ok_chn, startD, outD, fThen, fSet, fAsg, fPar, fPar3, fIfS, fRet, fDrop, fEnd, fBrk, fCnt, fNotT, fAndT, fOrT, fIf, fIsi, fIsi2, fCall, fCallK, fCons, fNil, fCa, fTup, fLst, fLstM, mkM, fApp, appV, ok_putM, get_last, set_last, take_last, gAdd_int, L2.CDiv, L2.CMul, L2.CPow, fIx, ok_ixR, ok_ixI, ok_lenR, ok_callM, fNeg, fRev, fSl, slD, cut1, fON, fOS, fYes, ok_lc, ok_lcBody, ok_for, ok_newM, wipeD, ok_seqL, ok_seqT, ok_seqR, allD_mapF, anyD_mapF, sumD_mapF, List.all_map, fSeq, fRng1, fRng2, fEnum, fZip, gtName, gtSub, gtNil, gtCons, gtTup, mkT, mkL, toDs, DL.gD, gD.rds, c1, c2, ok_lenL, ok_lenT, eq_self, DL.gSub, gMul_int, take_set, ixn20, Int.toNat_natCast, ixn21, List.set_set, gFdv, gMod, gPow, gI, gI0, gLt, gLe, gGt, gGe, gIs, gIt, isN, absD, DL.intD, max2, min2, dmod, ixD_l, ixD_t, isiD, tyD, gsel, gEq_int, gNe_int, gEq_str, gNe_str, List.map_cons, List.map_nil, List.length_cons, List.length_nil, List.cons_append, List.nil_append, List.append_nil, List.replicate_succ, List.replicate_zero, Nat.reduceAdd, Nat.reduceSub, Nat.reduceLeDiff, Nat.reduceEqDiff, List.take_length, List.length_map, List.length_append, List.take_left', List.take_append_of_le_length, Nat.le_refl, Nat.zero_add, Nat.add_zero, and_true, true_and, true_or, or_true, Int.mul_one, Int.one_mul, Nat.one_mul, Nat.mul_one, and_false, false_and, if_pos, if_neg, reduceIte, reduceCtorEq, not_true_eq_false, not_false_eq_true, Bool.not_true, Bool.not_false, beq_self_eq_true, Bool.or_true, Bool.true_or, Bool.or_false, Bool.false_or, Bool.and_true, Bool.true_and, Bool.and_false, Bool.false_and, String.reduceBEq, at0, at1, at2, at3, Int.cast_ofNat_Int, decide_true, decide_false, decide_eq_true_eq, decide_eq_false_iff_not, Bool.not_eq_true', Bool.not_eq_eq_eq_not, Int.reduceSub, Int.reduceNeg, Int.reduceAdd, Int.reduceMul, Int.reduceLT, Int.reduceLE, Int.reduceEq, Int.reducePow, Int.reduceToNat, sumD_map, allD_map, anyD_map, srtD_map, srtD_mapT, tupD, lstD, List.getElem?_cons_zero, List.getElem?_cons_succ, List.set_cons_zero, List.set_cons_succ, Option.some.injEq, Option.map_some, Option.map_none, Bool.false_eq_true, if_true, if_false, hl2]
      refine draw_then (h2 _) gb (by decide) (by decide) fun d cd d0 d1 gd => ?_
      simp only [ok_callD, ok_bind, ok_ret, ok_some, ok_none, ok_fail, ok_ifF, ok_lif, ok_var, ok_C, ok_rdim, ok_toim, ok_bin, ok_fTst, ok_fAnd, ok_fOr, ok_fNot, ok_chn, startD, outD, fThen, fSet, fAsg, fPar, fPar3, fIfS, fRet, fDrop, fEnd, fBrk, fCnt, fNotT, fAndT, fOrT, fIf, fIsi, fIsi2, fCall, fCallK, fCons, fNil, fCa, fTup, fLst, fLstM, mkM, fApp, appV, ok_putM, get_last, set_last, take_last, gAdd_int, L2.CDiv, L2.CMul, L2.CPow, fIx, ok_ixR, ok_ixI, ok_lenR, ok_callM, fNeg, fRev, fSl, slD, cut1, fON, fOS, fYes, ok_lc, ok_lcBody, ok_for, ok_newM, wipeD, ok_seqL, ok_seqT, ok_seqR, allD_mapF, anyD_mapF, sumD_mapF, List.all_map, fSeq, fRng1, fRng2, fEnum, fZip, gtName, gtSub, gtNil, gtCons, gtTup, mkT, mkL, toDs, DL.gD, gD.rds, c1, c2, ok_lenL, ok_lenT, eq_self, DL.gSub, gMul_int, take_set, ixn20, Int.toNat_natCast, ixn21, List.set_set, gFdv, gMod, gPow, gI, gI0, gLt, gLe, gGt, gGe, gIs, gIt, isN, absD, DL.intD, max2, min2, dmod, ixD_l, ixD_t, isiD, tyD, gsel, gEq_int, gNe_int, gEq_str, gNe_str, List.map_cons, List.map_nil, List.length_cons, List.length_nil, List.cons_append, List.nil_append, List.append_nil, List.replicate_succ, List.replicate_zero, Nat.reduceAdd, Nat.reduceSub, Nat.reduceLeDiff, Nat.reduceEqDiff, List.take_length, List.length_map, List.length_append, List.take_left', List.take_append_of_le_length, Nat.le_refl, Nat.zero_add, Nat.add_zero, and_true, true_and, true_or, or_true, Int.mul_one, Int.one_mul, Nat.one_mul, Nat.mul_one, and_false, false_and, if_pos, if_neg, reduceIte, reduceCtorEq, not_true_eq_false, not_false_eq_true, Bool.not_true, Bool.not_false, beq_self_eq_true, Bool.or_true, Bool.true_or, Bool.or_false, Bool.false_or, Bool.and_true, Bool.true_and, Bool.and_false, Bool.false_and, String.reduceBEq, at0, at1, at2, at3, Int.cast_ofNat_Int, decide_true, decide_false, decide_eq_true_eq, decide_eq_false_iff_not, Bool.not_eq_true', Bool.not_eq_eq_eq_not, Int.reduceSub, Int.reduceNeg, Int.reduceAdd, Int.reduceMul, Int.reduceLT, Int.reduceLE, Int.reduceEq, Int.reducePow, Int.reduceToNat, sumD_map, allD_map, anyD_map, srtD_map, srtD_mapT, tupD, lstD, List.getElem?_cons_zero, List.getElem?_cons_succ, List.set_cons_zero, List.set_cons_succ, Option.some.injEq, Option.map_some, Option.map_none, Bool.false_eq_true, if_true, if_false, lotsD]
      refine (ok_eq (lc_mapA lotD (fun l => PyData.int (d - 2 + (l.map fun t => ss.getD t 0).sum)) (lots n) fun l hl3 => ?_)).mpr ?_
      · obtain ⟨m1, m2⟩ := lots_mem hn hl3
        have m3 : l.length ≤ 1000 := by omega
        simp only [ok_callD, ok_bind, ok_ret, ok_some, ok_none, ok_fail, ok_ifF, ok_lif, ok_var, ok_C, ok_rdim, ok_toim, ok_bin, ok_fTst, ok_fAnd, ok_fOr, ok_fNot, ok_chn, startD, outD, fThen, fSet, fAsg, fPar, fPar3, fIfS, fRet, fDrop, fEnd, fBrk, fCnt, fNotT, fAndT, fOrT, fIf, fIsi, fIsi2, fCall, fCallK, fCons, fNil, fCa, fTup, fLst, fLstM, mkM, fApp, appV, ok_putM, get_last, set_last, take_last, gAdd_int, L2.CDiv, L2.CMul, L2.CPow, fIx, ok_ixR, ok_ixI, ok_lenR, ok_callM, fNeg, fRev, fSl, slD, cut1, fON, fOS, fYes, ok_lc, ok_lcBody, ok_for, ok_newM, wipeD, ok_seqL, ok_seqT, ok_seqR, allD_mapF, anyD_mapF, sumD_mapF, List.all_map, fSeq, fRng1, fRng2, fEnum, fZip, gtName, gtSub, gtNil, gtCons, gtTup, mkT, mkL, toDs, DL.gD, gD.rds, c1, c2, ok_lenL, ok_lenT, eq_self, DL.gSub, gMul_int, take_set, ixn20, Int.toNat_natCast, ixn21, List.set_set, gFdv, gMod, gPow, gI, gI0, gLt, gLe, gGt, gGe, gIs, gIt, isN, absD, DL.intD, max2, min2, dmod, ixD_l, ixD_t, isiD, tyD, gsel, gEq_int, gNe_int, gEq_str, gNe_str, List.map_cons, List.map_nil, List.length_cons, List.length_nil, List.cons_append, List.nil_append, List.append_nil, List.replicate_succ, List.replicate_zero, Nat.reduceAdd, Nat.reduceSub, Nat.reduceLeDiff, Nat.reduceEqDiff, List.take_length, List.length_map, List.length_append, List.take_left', List.take_append_of_le_length, Nat.le_refl, Nat.zero_add, Nat.add_zero, and_true, true_and, true_or, or_true, Int.mul_one, Int.one_mul, Nat.one_mul, Nat.mul_one, and_false, false_and, if_pos, if_neg, reduceIte, reduceCtorEq, not_true_eq_false, not_false_eq_true, Bool.not_true, Bool.not_false, beq_self_eq_true, Bool.or_true, Bool.true_or, Bool.or_false, Bool.false_or, Bool.and_true, Bool.true_and, Bool.and_false, Bool.false_and, String.reduceBEq, at0, at1, at2, at3, Int.cast_ofNat_Int, decide_true, decide_false, decide_eq_true_eq, decide_eq_false_iff_not, Bool.not_eq_true', Bool.not_eq_eq_eq_not, Int.reduceSub, Int.reduceNeg, Int.reduceAdd, Int.reduceMul, Int.reduceLT, Int.reduceLE, Int.reduceEq, Int.reducePow, Int.reduceToNat, sumD_map, allD_map, anyD_map, srtD_map, srtD_mapT, tupD, lstD, List.getElem?_cons_zero, List.getElem?_cons_succ, List.set_cons_zero, List.set_cons_succ, Option.some.injEq, Option.map_some, Option.map_none, Bool.false_eq_true, if_true, if_false]
        unfold lotD
        simp only [ok_callD, ok_bind, ok_ret, ok_some, ok_none, ok_fail, ok_ifF, ok_lif, ok_var, ok_C, ok_rdim, ok_toim, ok_bin, ok_fTst, ok_fAnd, ok_fOr, ok_fNot, ok_chn, startD, outD, fThen, fSet, fAsg, fPar, fPar3, fIfS, fRet, fDrop, fEnd, fBrk, fCnt, fNotT, fAndT, fOrT, fIf, fIsi, fIsi2, fCall, fCallK, fCons, fNil, fCa, fTup, fLst, fLstM, mkM, fApp, appV, ok_putM, get_last, set_last, take_last, gAdd_int, L2.CDiv, L2.CMul, L2.CPow, fIx, ok_ixR, ok_ixI, ok_lenR, ok_callM, fNeg, fRev, fSl, slD, cut1, fON, fOS, fYes, ok_lc, ok_lcBody, ok_for, ok_newM, wipeD, ok_seqL, ok_seqT, ok_seqR, allD_mapF, anyD_mapF, sumD_mapF, List.all_map, fSeq, fRng1, fRng2, fEnum, fZip, gtName, gtSub, gtNil, gtCons, gtTup, mkT, mkL, toDs, DL.gD, gD.rds, c1, c2, ok_lenL, ok_lenT, eq_self, DL.gSub, gMul_int, take_set, ixn20, Int.toNat_natCast, ixn21, List.set_set, gFdv, gMod, gPow, gI, gI0, gLt, gLe, gGt, gGe, gIs, gIt, isN, absD, DL.intD, max2, min2, dmod, ixD_l, ixD_t, isiD, tyD, gsel, gEq_int, gNe_int, gEq_str, gNe_str, List.map_cons, List.map_nil, List.length_cons, List.length_nil, List.cons_append, List.nil_append, List.append_nil, List.replicate_succ, List.replicate_zero, Nat.reduceAdd, Nat.reduceSub, Nat.reduceLeDiff, Nat.reduceEqDiff, List.take_length, List.length_map, List.length_append, List.take_left', List.take_append_of_le_length, Nat.le_refl, Nat.zero_add, Nat.add_zero, and_true, true_and, true_or, or_true, Int.mul_one, Int.one_mul, Nat.one_mul, Nat.mul_one, and_false, false_and, if_pos, if_neg, reduceIte, reduceCtorEq, not_true_eq_false, not_false_eq_true, Bool.not_true, Bool.not_false, beq_self_eq_true, Bool.or_true, Bool.true_or, Bool.or_false, Bool.false_or, Bool.and_true, Bool.true_and, Bool.and_false, Bool.false_and, String.reduceBEq, at0, at1, at2, at3, Int.cast_ofNat_Int, decide_true, decide_false, decide_eq_true_eq, decide_eq_false_iff_not, Bool.not_eq_true', Bool.not_eq_eq_eq_not, Int.reduceSub, Int.reduceNeg, Int.reduceAdd, Int.reduceMul, Int.reduceLT, Int.reduceLE, Int.reduceEq, Int.reducePow, Int.reduceToNat, sumD_map, allD_map, anyD_map, srtD_map, srtD_mapT, tupD, lstD, List.getElem?_cons_zero, List.getElem?_cons_succ, List.set_cons_zero, List.set_cons_succ, Option.some.injEq, Option.map_some, Option.map_none, Bool.false_eq_true, if_true, if_false]
        refine (ok_eq (lc_mapA (fun t => PyData.int (t : Nat)) (fun (t : Nat) => PyData.int (ss.getD t 0)) l fun t ht => ?_)).mpr ?_
        · simp only [ok_callD, ok_bind, ok_ret, ok_some, ok_none, ok_fail, ok_ifF, ok_lif, ok_var, ok_C, ok_rdim, ok_toim, ok_bin, ok_fTst, ok_fAnd, ok_fOr, ok_fNot, ok_chn, startD, outD, fThen, fSet, fAsg, fPar, fPar3, fIfS, fRet, fDrop, fEnd, fBrk, fCnt, fNotT, fAndT, fOrT, fIf, fIsi, fIsi2, fCall, fCallK, fCons, fNil, fCa, fTup, fLst, fLstM, mkM, fApp, appV, ok_putM, get_last, set_last, take_last, gAdd_int, L2.CDiv, L2.CMul, L2.CPow, fIx, ok_ixR, ok_ixI, ok_lenR, ok_callM, fNeg, fRev, fSl, slD, cut1, fON, fOS, fYes, ok_lc, ok_lcBody, ok_for, ok_newM, wipeD, ok_seqL, ok_seqT, ok_seqR, allD_mapF, anyD_mapF, sumD_mapF, List.all_map, fSeq, fRng1, fRng2, fEnum, fZip, gtName, gtSub, gtNil, gtCons, gtTup, mkT, mkL, toDs, DL.gD, gD.rds, c1, c2, ok_lenL, ok_lenT, eq_self, DL.gSub, gMul_int, take_set, ixn20, Int.toNat_natCast, ixn21, List.set_set, gFdv, gMod, gPow, gI, gI0, gLt, gLe, gGt, gGe, gIs, gIt, isN, absD, DL.intD, max2, min2, dmod, ixD_l, ixD_t, isiD, tyD, gsel, gEq_int, gNe_int, gEq_str, gNe_str, List.map_cons, List.map_nil, List.length_cons, List.length_nil, List.cons_append, List.nil_append, List.append_nil, List.replicate_succ, List.replicate_zero, Nat.reduceAdd, Nat.reduceSub, Nat.reduceLeDiff, Nat.reduceEqDiff, List.take_length, List.length_map, List.length_append, List.take_left', List.take_append_of_le_length, Nat.le_refl, Nat.zero_add, Nat.add_zero, and_true, true_and, true_or, or_true, Int.mul_one, Int.one_mul, Nat.one_mul, Nat.mul_one, and_false, false_and, if_pos, if_neg, reduceIte, reduceCtorEq, not_true_eq_false, not_false_eq_true, Bool.not_true, Bool.not_false, beq_self_eq_true, Bool.or_true, Bool.true_or, Bool.or_false, Bool.false_or, Bool.and_true, Bool.true_and, Bool.and_false, Bool.false_and, String.reduceBEq, at0, at1, at2, at3, Int.cast_ofNat_Int, decide_true, decide_false, decide_eq_true_eq, decide_eq_false_iff_not, Bool.not_eq_true', Bool.not_eq_eq_eq_not, Int.reduceSub, Int.reduceNeg, Int.reduceAdd, Int.reduceMul, Int.reduceLT, Int.reduceLE, Int.reduceEq, Int.reducePow, Int.reduceToNat, sumD_map, allD_map, anyD_map, srtD_map, srtD_mapT, tupD, lstD, List.getElem?_cons_zero, List.getElem?_cons_succ, List.set_cons_zero, List.set_cons_succ, Option.some.injEq, Option.map_some, Option.map_none, Bool.false_eq_true, if_true, if_false, (steps_at hl (m1 t ht)).1]
        · simp only [ok_callD, ok_bind, ok_ret, ok_some, ok_none, ok_fail, ok_ifF, ok_lif, ok_var, ok_C, ok_rdim, ok_toim, ok_bin, ok_fTst, ok_fAnd, ok_fOr, ok_fNot, ok_chn, startD, outD, fThen, fSet, fAsg, fPar, fPar3, fIfS, fRet, fDrop, fEnd, fBrk, fCnt, fNotT, fAndT, fOrT, fIf, fIsi, fIsi2, fCall, fCallK, fCons, fNil, fCa, fTup, fLst, fLstM, mkM, fApp, appV, ok_putM, get_last, set_last, take_last, gAdd_int, L2.CDiv, L2.CMul, L2.CPow, fIx, ok_ixR, ok_ixI, ok_lenR, ok_callM, fNeg, fRev, fSl, slD, cut1, fON, fOS, fYes, ok_lc, ok_lcBody, ok_for, ok_newM, wipeD, ok_seqL, ok_seqT, ok_seqR, allD_mapF, anyD_mapF, sumD_mapF, List.all_map, fSeq, fRng1, fRng2, fEnum, fZip, gtName, gtSub, gtNil, gtCons, gtTup, mkT, mkL, toDs, DL.gD, gD.rds, c1, c2, ok_lenL, ok_lenT, eq_self, DL.gSub, gMul_int, take_set, ixn20, Int.toNat_natCast, ixn21, List.set_set, gFdv, gMod, gPow, gI, gI0, gLt, gLe, gGt, gGe, gIs, gIt, isN, absD, DL.intD, max2, min2, dmod, ixD_l, ixD_t, isiD, tyD, gsel, gEq_int, gNe_int, gEq_str, gNe_str, List.map_cons, List.map_nil, List.length_cons, List.length_nil, List.cons_append, List.nil_append, List.append_nil, List.replicate_succ, List.replicate_zero, Nat.reduceAdd, Nat.reduceSub, Nat.reduceLeDiff, Nat.reduceEqDiff, List.take_length, List.length_map, List.length_append, List.take_left', List.take_append_of_le_length, Nat.le_refl, Nat.zero_add, Nat.add_zero, and_true, true_and, true_or, or_true, Int.mul_one, Int.one_mul, Nat.one_mul, Nat.mul_one, and_false, false_and, if_pos, if_neg, reduceIte, reduceCtorEq, not_true_eq_false, not_false_eq_true, Bool.not_true, Bool.not_false, beq_self_eq_true, Bool.or_true, Bool.true_or, Bool.or_false, Bool.false_or, Bool.and_true, Bool.true_and, Bool.and_false, Bool.false_and, String.reduceBEq, at0, at1, at2, at3, Int.cast_ofNat_Int, decide_true, decide_false, decide_eq_true_eq, decide_eq_false_iff_not, Bool.not_eq_true', Bool.not_eq_eq_eq_not, Int.reduceSub, Int.reduceNeg, Int.reduceAdd, Int.reduceMul, Int.reduceLT, Int.reduceLE, Int.reduceEq, Int.reducePow, Int.reduceToNat, sumD_map, allD_map, anyD_map, srtD_map, srtD_mapT, tupD, lstD, List.getElem?_cons_zero, List.getElem?_cons_succ, List.set_cons_zero, List.set_cons_succ, Option.some.injEq, Option.map_some, Option.map_none, Bool.false_eq_true, if_true, if_false, m3]
      · have hz3 : (lots n).length ≤ 1000 := by rw [lots_len]; omega
        have e : ((lots n).map fun l => PyData.int (d - 2 + (l.map fun t => ss.getD t 0).sum)) = ((lots n).map fun l => d - 2 + (l.map fun t => ss.getD t 0).sum).map .int := by rw [List.map_map]; rfl
        rw [e]
        simp only [ok_callD, ok_bind, ok_ret, ok_some, ok_none, ok_fail, ok_ifF, ok_lif, ok_var, ok_C, ok_rdim, ok_toim, ok_bin, ok_fTst, ok_fAnd, ok_fOr, ok_fNot, ok_chn, startD, outD, fThen, fSet, fAsg, fPar, fPar3, fIfS, fRet, fDrop, fEnd, fBrk, fCnt, fNotT, fAndT, fOrT, fIf, fIsi, fIsi2, fCall, fCallK, fCons, fNil, fCa, fTup, fLst, fLstM, mkM, fApp, appV, ok_putM, get_last, set_last, take_last, gAdd_int, L2.CDiv, L2.CMul, L2.CPow, fIx, ok_ixR, ok_ixI, ok_lenR, ok_callM, fNeg, fRev, fSl, slD, cut1, fON, fOS, fYes, ok_lc, ok_lcBody, ok_for, ok_newM, wipeD, ok_seqL, ok_seqT, ok_seqR, allD_mapF, anyD_mapF, sumD_mapF, List.all_map, fSeq, fRng1, fRng2, fEnum, fZip, gtName, gtSub, gtNil, gtCons, gtTup, mkT, mkL, toDs, DL.gD, gD.rds, c1, c2, ok_lenL, ok_lenT, eq_self, DL.gSub, gMul_int, take_set, ixn20, Int.toNat_natCast, ixn21, List.set_set, gFdv, gMod, gPow, gI, gI0, gLt, gLe, gGt, gGe, gIs, gIt, isN, absD, DL.intD, max2, min2, dmod, ixD_l, ixD_t, isiD, tyD, gsel, gEq_int, gNe_int, gEq_str, gNe_str, List.map_cons, List.map_nil, List.length_cons, List.length_nil, List.cons_append, List.nil_append, List.append_nil, List.replicate_succ, List.replicate_zero, Nat.reduceAdd, Nat.reduceSub, Nat.reduceLeDiff, Nat.reduceEqDiff, List.take_length, List.length_map, List.length_append, List.take_left', List.take_append_of_le_length, Nat.le_refl, Nat.zero_add, Nat.add_zero, and_true, true_and, true_or, or_true, Int.mul_one, Int.one_mul, Nat.one_mul, Nat.mul_one, and_false, false_and, if_pos, if_neg, reduceIte, reduceCtorEq, not_true_eq_false, not_false_eq_true, Bool.not_true, Bool.not_false, beq_self_eq_true, Bool.or_true, Bool.true_or, Bool.or_false, Bool.false_or, Bool.and_true, Bool.true_and, Bool.and_false, Bool.false_and, String.reduceBEq, at0, at1, at2, at3, Int.cast_ofNat_Int, decide_true, decide_false, decide_eq_true_eq, decide_eq_false_iff_not, Bool.not_eq_true', Bool.not_eq_eq_eq_not, Int.reduceSub, Int.reduceNeg, Int.reduceAdd, Int.reduceMul, Int.reduceLT, Int.reduceLE, Int.reduceEq, Int.reducePow, Int.reduceToNat, sumD_map, allD_map, anyD_map, srtD_map, srtD_mapT, tupD, lstD, List.getElem?_cons_zero, List.getElem?_cons_succ, List.set_cons_zero, List.set_cons_succ, Option.some.injEq, Option.map_some, Option.map_none, Bool.false_eq_true, if_true, if_false, hz3]
        refine ⟨_, rfl, _, cd, _, _, _, _, _, _, _, _, _, _, rfl, rfl, gd, by rw [List.length_map]; exact lots_len, fun w hw' => ?_⟩
        obtain ⟨l, hl3, rfl⟩ := List.mem_map.mp hw'
        obtain ⟨m1, m2⟩ := lots_mem hn hl3
        have := sum_bd (g := fun t => ss.getD t 0) (B := 4) (l := l) (fun t ht => hs _ (steps_at hl (m1 t ht)).2) m2 (by decide)
        omega
  · simp only [ok_callD, ok_bind, ok_ret, ok_some, ok_none, ok_fail, ok_ifF, ok_lif, ok_var, ok_C, ok_rdim, ok_toim, ok_bin, ok_fTst, ok_fAnd, ok_fOr, ok_fNot, ok_chn, startD, outD, fThen, fSet, fAsg, fPar, fPar3, fIfS, fRet, fDrop, fEnd, fBrk, fCnt, fNotT, fAndT, fOrT, fIf, fIsi, fIsi2, fCall, fCallK, fCons, fNil, fCa, fTup, fLst, fLstM, mkM, fApp, appV, ok_putM, get_last, set_last, take_last, gAdd_int, L2.CDiv, L2.CMul, L2.CPow, fIx, ok_ixR, ok_ixI, ok_lenR, ok_callM, fNeg, fRev, fSl, slD, cut1, fON, fOS, fYes, ok_lc, ok_lcBody, ok_for, ok_newM, wipeD, ok_seqL, ok_seqT, ok_seqR, allD_mapF, anyD_mapF, sumD_mapF, List.all_map, fSeq, fRng1, fRng2, fEnum, fZip, gtName, gtSub, gtNil, gtCons, gtTup, mkT, mkL, toDs, DL.gD, gD.rds, c1, c2, ok_lenL, ok_lenT, eq_self, DL.gSub, gMul_int, take_set, ixn20, Int.toNat_natCast, ixn21, List.set_set, gFdv, gMod, gPow, gI, gI0, gLt, gLe, gGt, gGe, gIs, gIt, isN, absD, DL.intD, max2, min2, dmod, ixD_l, ixD_t, isiD, tyD, gsel, gEq_int, gNe_int, gEq_str, gNe_str, List.map_cons, List.map_nil, List.length_cons, List.length_nil, List.cons_append, List.nil_append, List.append_nil, List.replicate_succ, List.replicate_zero, Nat.reduceAdd, Nat.reduceSub, Nat.reduceLeDiff, Nat.reduceEqDiff, List.take_length, List.length_map, List.length_append, List.take_left', List.take_append_of_le_length, Nat.le_refl, Nat.zero_add, Nat.add_zero, and_true, true_and, true_or, or_true, Int.mul_one, Int.one_mul, Nat.one_mul, Nat.mul_one, and_false, false_and, if_pos, if_neg, reduceIte, reduceCtorEq, not_true_eq_false, not_false_eq_true, Bool.not_true, Bool.not_false, beq_self_eq_true, Bool.or_true, Bool.true_or, Bool.or_false, Bool.false_or, Bool.and_true, Bool.true_and, Bool.and_false, Bool.false_and, String.reduceBEq, at0, at1, at2, at3, Int.cast_ofNat_Int, decide_true, decide_false, decide_eq_true_eq, decide_eq_false_iff_not, Bool.not_eq_true', Bool.not_eq_eq_eq_not, Int.reduceSub, Int.reduceNeg, Int.reduceAdd, Int.reduceMul, Int.reduceLT, Int.reduceLE, Int.reduceEq, Int.reducePow, Int.reduceToNat, sumD_map, allD_map, anyD_map, srtD_map, srtD_mapT, tupD, lstD, List.getElem?_cons_zero, List.getElem?_cons_succ, List.set_cons_zero, List.set_cons_succ, Option.some.injEq, Option.map_some, Option.map_none, Bool.false_eq_true, if_true, if_false, tenv, hy]
    exact ⟨_, rfl, h0⟩
theorem table_6 {st : Sto} {i n : Nat} (hn : n ≤ 5) (hi : i < st.length) {way f : Int} {env : DEnv} {s : Sto} (h : TS st i n way f 48 env s) : Ok (b__law_table_6 env) s fun o s' => ∃ e, o = .nx e ∧ TS st i n way f 63 e s' := by
  have h0 := h
  obtain ⟨ws, c, x7, x8, x9, x10, x11, x12, x13, x14, x15, x16, rfl, rfl, g, hw⟩ := h
  have h2 : ∀ c : Cell, (st.set i c)[i]? = some c := fun c => List.getElem?_set_self hi
  have hz := pow_small hn
  unfold b__law_table_6
  by_cases hy : way = 2
  · simp only [ok_callD, ok_bind, ok_ret, ok_some, ok_none, ok_fail, ok_ifF, ok_lif, ok_var, ok_C, ok_rdim, ok_toim, ok_bin, ok_fTst, ok_fAnd, ok_fOr, ok_fNot, ok_chn, startD, outD, fThen, fSet, fAsg, fPar, fPar3, fIfS, fRet, fDrop, fEnd, fBrk, fCnt, fNotT, fAndT, fOrT, fIf, fIsi, fIsi2, fCall, fCallK, fCons, fNil, fCa, fTup, fLst, fLstM, mkM, fApp, appV, ok_putM, get_last, set_last, take_last, gAdd_int, L2.CDiv, L2.CMul, L2.CPow, fIx, ok_ixR, ok_ixI, ok_lenR, ok_callM, fNeg, fRev, fSl, slD, cut1, fON, fOS, fYes, ok_lc, ok_lcBody, ok_for, ok_newM, wipeD, ok_seqL, ok_seqT, ok_seqR, allD_mapF, anyD_mapF, sumD_mapF, List.all_map, fSeq, fRng1, fRng2, fEnum, fZip, gtName, gtSub, gtNil, gtCons, gtTup, mkT, mkL, toDs, DL.gD, gD.rds, c1, c2, ok_lenL, ok_lenT, eq_self, DL.gSub, gMul_int, take_set, ixn20, Int.toNat_natCast, ixn21, List.set_set, gFdv, gMod, gPow, gI, gI0, gLt, gLe, gGt, gGe, gIs, gIt, isN, absD, DL.intD, max2, min2, dmod, ixD_l, ixD_t, isiD, tyD, gsel, gEq_int, gNe_int, gEq_str, gNe_str, List.map_cons, List.map_nil, List.length_cons, List.length_nil, List.cons_append, List.nil_append, List.append_nil, List.replicate_succ, List.replicate_zero, Nat.reduceAdd, Nat.reduceSub, Nat.reduceLeDiff, Nat.reduceEqDiff, List.take_length, List.length_map, List.length_append, List.take_left', List.take_append_of_le_length, Nat.le_refl, Nat.zero_add, Nat.add_zero, and_true, true_and, true_or, or_true, Int.mul_one, Int.one_mul, Nat.one_mul, Nat.mul_one, and_false, false_and, if_pos, if_neg, reduceIte, reduceCtorEq, not_true_eq_false, not_false_eq_true, Bool.not_true, Bool.not_false, beq_self_eq_true, Bool.or_true, Bool.true_or, Bool.or_false, Bool.false_or, Bool.and_true, Bool.true_and, Bool.and_false, Bool.false_and, String.reduceBEq, at0, at1, at2, at3, Int.cast_ofNat_Int, decide_true, decide_false, decide_eq_true_eq, decide_eq_false_iff_not, Bool.not_eq_true', Bool.not_eq_eq_eq_not, Int.reduceSub, Int.reduceNeg, Int.reduceAdd, Int.reduceMul, Int.reduceLT, Int.reduceLE, Int.reduceEq, Int.reducePow, Int.reduceToNat, sumD_map, allD_map, anyD_map, srtD_map, srtD_mapT, tupD, lstD, List.getElem?_cons_zero, List.getElem?_cons_succ, List.set_cons_zero, List.set_cons_succ, Option.some.injEq, Option.map_some, Option.map_none, Bool.false_eq_true, if_true, if_false, tenv, hy]
    refine ⟨by omega, ?_⟩
    refine ok_mono (lc_all PyData.int (Js st i) (fun x => -3 ≤ x ∧ x ≤ 3) (rangeD 0 n) (fun d hd s hj => ?_) _ ⟨c, rfl, g⟩) ?_
    · obtain ⟨t, ht, rfl⟩ := rng_mem hd
      obtain ⟨cc, rfl, gg⟩ := hj
      simp only [ok_callD, ok_bind, ok_ret, ok_some, ok_none, ok_fail, ok_ifF, ok_lif, ok_var, ok_C, ok_rdim, ok_toim, ok_bin, ok_fTst, ok_fAnd, ok_fOr, ok_fNot, ok_chn, startD, outD, fThen, fSet, fAsg, fPar, fPar3, fIfS, fRet, fDrop, fEnd, fBrk, fCnt, fNotT, fAndT, fOrT, fIf, fIsi, fIsi2, fCall, fCallK, fCons, fNil, fCa, fTup, fLst, fLstM, mkM, fApp, appV, ok_putM, get_last, set_last, take_last, gAdd_int, L2.CDiv, L2.CMul, L2.CPow, fIx, ok_ixR, ok_ixI, ok_lenR, ok_callM, fNeg, fRev, fSl, slD, cut1, fON, fOS, fYes, ok_lc, ok_lcBody, ok_for, ok_newM, wipeD, ok_seqL, ok_seqT, ok_seqR, allD_mapF, anyD_mapF, sumD_mapF, List.all_map, fSeq, fRng1, fRng2, fEnum, fZip, gtName, gtSub, gtNil, gtCons, gtTup, mkT, mkL, toDs, DL.gD, gD.rds, c1, c2, ok_lenL, ok_lenT, eq_self, DL.gSub, gMul_int, take_set, ixn20, Int.toNat_natCast, ixn21, List.set_set, gFdv, gMod, gPow, gI, gI0, gLt, gLe, gGt, gGe, gIs, gIt, isN, absD, DL.intD, max2, min2, dmod, ixD_l, ixD_t, isiD, tyD, gsel, gEq_int, gNe_int, gEq_str, gNe_str, List.map_cons, List.map_nil, List.length_cons, List.length_nil, List.cons_append, List.nil_append, List.append_nil, List.replicate_succ, List.replicate_zero, Nat.reduceAdd, Nat.reduceSub, Nat.reduceLeDiff, Nat.reduceEqDiff, List.take_length, List.length_map, List.length_append, List.take_left', List.take_append_of_le_length, Nat.le_refl, Nat.zero_add, Nat.add_zero, and_true, true_and, true_or, or_true, Int.mul_one, Int.one_mul, Nat.one_mul, Nat.mul_one, and_false, false_and, if_pos, if_neg, reduceIte, reduceCtorEq, not_true_eq_false, not_false_eq_true, Bool.not_true, Bool.not_false, beq_self_eq_true, Bool.or_true, Bool.true_or, Bool.or_false, Bool.false_or, Bool.and_true, Bool.true_and, Bool.and_false, Bool.false_and, String.reduceBEq, at0, at1, at2, at3, Int.cast_ofNat_Int, decide_true, decide_false, decide_eq_true_eq, decide_eq_false_iff_not, Bool.not_eq_true', Bool.not_eq_eq_eq_not, Int.reduceSub, Int.reduceNeg, Int.reduceAdd, Int.reduceMul, Int.reduceLT, Int.reduceLE, Int.reduceEq, Int.reducePow, Int.reduceToNat, sumD_map, allD_map, anyD_map, srtD_map, srtD_mapT, tupD, lstD, List.getElem?_cons_zero, List.getElem?_cons_succ, List.set_cons_zero, List.set_cons_succ, Option.some.injEq, Option.map_some, Option.map_none, Bool.false_eq_true, if_true, if_false]
      refine draw_then (h2 _) gg (by decide) (by decide) fun d cd d0 d1 gd => ?_
      simp only [ok_callD, ok_bind, ok_ret, ok_some, ok_none, ok_fail, ok_ifF, ok_lif, ok_var, ok_C, ok_rdim, ok_toim, ok_bin, ok_fTst, ok_fAnd, ok_fOr, ok_fNot, ok_chn, startD, outD, fThen, fSet, fAsg, fPar, fPar3, fIfS, fRet, fDrop, fEnd, fBrk, fCnt, fNotT, fAndT, fOrT, fIf, fIsi, fIsi2, fCall, fCallK, fCons, fNil, fCa, fTup, fLst, fLstM, mkM, fApp, appV, ok_putM, get_last, set_last, take_last, gAdd_int, L2.CDiv, L2.CMul, L2.CPow, fIx, ok_ixR, ok_ixI, ok_lenR, ok_callM, fNeg, fRev, fSl, slD, cut1, fON, fOS, fYes, ok_lc, ok_lcBody, ok_for, ok_newM, wipeD, ok_seqL, ok_seqT, ok_seqR, allD_mapF, anyD_mapF, sumD_mapF, List.all_map, fSeq, fRng1, fRng2, fEnum, fZip, gtName, gtSub, gtNil, gtCons, gtTup, mkT, mkL, toDs, DL.gD, gD.rds, c1, c2, ok_lenL, ok_lenT, eq_self, DL.gSub, gMul_int, take_set, ixn20, Int.toNat_natCast, ixn21, List.set_set, gFdv, gMod, gPow, gI, gI0, gLt, gLe, gGt, gGe, gIs, gIt, isN, absD, DL.intD, max2, min2, dmod, ixD_l, ixD_t, isiD, tyD, gsel, gEq_int, gNe_int, gEq_str, gNe_str, List.map_cons, List.map_nil, List.length_cons, List.length_nil, List.cons_append, List.nil_append, List.append_nil, List.replicate_succ, List.replicate_zero, Nat.reduceAdd, Nat.reduceSub, Nat.reduceLeDiff, Nat.reduceEqDiff, List.take_length, List.length_map, List.length_append, List.take_left', List.take_append_of_le_length, Nat.le_refl, Nat.zero_add, Nat.add_zero, and_true, true_and, true_or, or_true, Int.mul_one, Int.one_mul, Nat.one_mul, Nat.mul_one, and_false, false_and, if_pos, if_neg, reduceIte, reduceCtorEq, not_true_eq_false, not_false_eq_true, Bool.not_true, Bool.not_false, beq_self_eq_true, Bool.or_true, Bool.true_or, Bool.or_false, Bool.false_or, Bool.and_true, Bool.true_and, Bool.and_false, Bool.false_and, String.reduceBEq, at0, at1, at2, at3, Int.cast_ofNat_Int, decide_true, decide_false, decide_eq_true_eq, decide_eq_false_iff_not, Bool.not_eq_true', Bool.not_eq_eq_eq_not, Int.reduceSub, Int.reduceNeg, Int.reduceAdd, Int.reduceMul, Int.reduceLT, Int.reduceLE, Int.reduceEq, Int.reducePow, Int.reduceToNat, sumD_map, allD_map, anyD_map, srtD_map, srtD_mapT, tupD, lstD, List.getElem?_cons_zero, List.getElem?_cons_succ, List.set_cons_zero, List.set_cons_succ, Option.some.injEq, Option.map_some, Option.map_none, Bool.false_eq_true, if_true, if_false]
      exact ⟨d - 3, rfl, by omega, cd, rfl, gd⟩
    · rintro xs s ⟨ss, rfl, hl, hs, cb, rfl, gb⟩
      rw [rng_len] at hl
      have hl2 : ss.length ≤ 1000 := by omega
      simp only [ok_callD, ok_bind, ok_ret, ok_some, ok_none, ok_fail, ok_ifF, ok_lif, ok_var, ok_C, ok_rdim, ok_toim, ok_bin, ok_fTst, ok_fAnd, ok_fOr, ok_fNot, ok_chn, startD, outD, fThen, fSet, fAsg, fPar, fPar3, fIfS, fRet, fDrop, fEnd, fBrk, fCnt, fNotT, fAndT, fOrT, fIf, fIsi, fIsi2, fCall, fCallK, fCons, fNil, fCa, fTup, fLst, fLstM, mkM, fApp, appV, ok_putM, get_last, set_last, take_last, gAdd_int, L2.CDiv, L2.CMul, L2.CPow, fIx, ok_ixR, ok_ixI, ok_lenR, ok_callM, fNeg, fRev, fSl, slD, cut1, fON, fOS, fYes, ok_lc, ok_lcBody, ok_for, ok_newM, wipeD, ok_seqL, ok_seqT, ok_seqR, allD_mapF, anyD_mapF, sumD_mapF, List.all_map, fSeq, fRng1, fRng2, fEnum, fZip, gtName, gtSub, gtNil, gtCons, gtTup, mkT, mkL, toDs, DL.gD, gD.rds, c1, c2, ok_lenL, ok_lenT, eq_self, DL.gSub, gMul_int, take_set, ixn20, Int.toNat_natCast, ixn21, List.set_set, gFdv, gMod, gPow, gI, gI0, gLt, gLe, gGt, gGe, gIs, gIt, isN, absD, DL.intD, max2, min2, dmod, ixD_l, ixD_t, isiD, tyD, gsel, gEq_int, gNe_int, gEq_str, gNe_str, List.map_cons, List.map_nil, List.length_cons, List.length_nil, List.cons_append, List.nil_append, List.append_nil, List.replicate_succ, List.replicate_zero, Nat.reduceAdd, Nat.reduceSub, Nat.reduceLeDiff, Nat.reduceEqDiff, List.take_length, List.length_map, List.length_append, List.take_left', List.take_append_of_le_length, Nat.le_refl, Nat.zero_add, Nat.add_zero, and_true, true_and, true_or, or_true, Int.mul_one, Int.one_mul, Nat.one_mul, Nat.mul_one, and_false, false_and, if_pos, if_neg, reduceIte, reduceCtorEq, not_true_eq_false, not_false_eq_true, Bool.not_true, Bool.not_false, beq_self_eq_true, Bool.or_true, Bool.true_or, Bool.or_false, Bool.false_or, Bool.and_true, Bool.true_and, Bool.and_false, Bool.false_and, String.reduceBEq, at0, at1, at2, at3, Int.cast_ofNat_Int, decide_true, decide_false, decide_eq_true_eq, decide_eq_false_iff_not, Bool.not_eq_true', Bool.not_eq_eq_eq_not, Int.reduceSub, Int.reduceNeg, Int.reduceAdd, Int.reduceMul, Int.reduceLT, Int.reduceLE, Int.reduceEq, Int.reducePow, Int.reduceToNat, sumD_map, allD_map, anyD_map, srtD_map, srtD_mapT, tupD, lstD, List.getElem?_cons_zero, List.getElem?_cons_succ, List.set_cons_zero, List.set_cons_succ, Option.some.injEq, Option.map_some, Option.map_none, Bool.false_eq_true, if_true, if_false, hl2, lotsD]
      rw [zip_wl]
      refine (ok_eq (lc_mapA (fun (p : Int × List Nat) => PyData.tuple [.int p.1, lotD p.2]) (fun p => PyData.int (p.1 + (p.2.map fun t => ss.getD t 0).sum)) _ fun p hp => ?_)).mpr ?_
      · obtain ⟨m1, m2⟩ := lots_mem hn (List.of_mem_zip hp).2
        have m3 : p.2.length ≤ 1000 := by omega
        simp only [ok_callD, ok_bind, ok_ret, ok_some, ok_none, ok_fail, ok_ifF, ok_lif, ok_var, ok_C, ok_rdim, ok_toim, ok_bin, ok_fTst, ok_fAnd, ok_fOr, ok_fNot, ok_chn, startD, outD, fThen, fSet, fAsg, fPar, fPar3, fIfS, fRet, fDrop, fEnd, fBrk, fCnt, fNotT, fAndT, fOrT, fIf, fIsi, fIsi2, fCall, fCallK, fCons, fNil, fCa, fTup, fLst, fLstM, mkM, fApp, appV, ok_putM, get_last, set_last, take_last, gAdd_int, L2.CDiv, L2.CMul, L2.CPow, fIx, ok_ixR, ok_ixI, ok_lenR, ok_callM, fNeg, fRev, fSl, slD, cut1, fON, fOS, fYes, ok_lc, ok_lcBody, ok_for, ok_newM, wipeD, ok_seqL, ok_seqT, ok_seqR, allD_mapF, anyD_mapF, sumD_mapF, List.all_map, fSeq, fRng1, fRng2, fEnum, fZip, gtName, gtSub, gtNil, gtCons, gtTup, mkT, mkL, toDs, DL.gD, gD.rds, c1, c2, ok_lenL, ok_lenT, eq_self, DL.gSub, gMul_int, take_set, ixn20, Int.toNat_natCast, ixn21, List.set_set, gFdv, gMod, gPow, gI, gI0, gLt, gLe, gGt, gGe, gIs, gIt, isN, absD, DL.intD, max2, min2, dmod, ixD_l, ixD_t, isiD, tyD, gsel, gEq_int, gNe_int, gEq_str, gNe_str, List.map_cons, List.map_nil, List.length_cons, List.length_nil, List.cons_append, List.nil_append, List.append_nil, List.replicate_succ, List.replicate_zero, Nat.reduceAdd, Nat.reduceSub, Nat.reduceLeDiff, Nat.reduceEqDiff, List.take_length, List.length_map, List.length_append, List.take_left', List.take_append_of_le_length, Nat.le_refl, Nat.zero_add, Nat.add_zero, and_true, true_and, true_or, or_true, Int.mul_one, Int.one_mul, Nat.one_mul, Nat.mul_one, and_false, false_and, if_pos, if_neg, reduceIte, reduceCtorEq, not_true_eq_false, not_false_eq_true, Bool.not_true, Bool.not_false, beq_self_eq_true, Bool.or_true, Bool.true_or, Bool.or_false, Bool.false_or, Bool.and_true, Bool.true_and, Bool.and_false, Bool.false_and, String.reduceBEq, at0, at1, at2, at3, Int.cast_ofNat_Int, decide_true, decide_false, decide_eq_true_eq, decide_eq_false_iff_not, Bool.not_eq_true', Bool.not_eq_eq_eq_not, Int.reduceSub, Int.reduceNeg, Int.reduceAdd, Int.reduceMul, Int.reduceLT, Int.reduceLE, Int.reduceEq, Int.reducePow, Int.reduceToNat, sumD_map, allD_map, anyD_map, srtD_map, srtD_mapT, tupD, lstD, List.getElem?_cons_zero, List.getElem?_cons_succ, List.set_cons_zero, List.set_cons_succ, Option.some.injEq, Option.map_some, Option.map_none, Bool.false_eq_true, if_true, if_false]
        unfold lotD
        simp only [ok_callD, ok_bind, ok_ret, ok_some, ok_none, ok_fail, ok_ifF, ok_lif, ok_var, ok_C, ok_rdim, ok_toim, ok_bin, ok_fTst, ok_fAnd, ok_fOr, ok_fNot, ok_chn, startD, outD, fThen, fSet, fAsg, fPar, fPar3, fIfS, fRet, fDrop, fEnd, fBrk, fCnt, fNotT, fAndT, fOrT, fIf, fIsi, fIsi2, fCall, fCallK, fCons, fNil, fCa, fTup, fLst, fLstM, mkM, fApp, appV, ok_putM, get_last, set_last, take_last, gAdd_int, L2.CDiv, L2.CMul, L2.CPow, fIx, ok_ixR, ok_ixI, ok_lenR, ok_callM, fNeg, fRev, fSl, slD, cut1, fON, fOS, fYes, ok_lc, ok_lcBody, ok_for, ok_newM, wipeD, ok_seqL, ok_seqT, ok_seqR, allD_mapF, anyD_mapF, sumD_mapF, List.all_map, fSeq, fRng1, fRng2, fEnum, fZip, gtName, gtSub, gtNil, gtCons, gtTup, mkT, mkL, toDs, DL.gD, gD.rds, c1, c2, ok_lenL, ok_lenT, eq_self, DL.gSub, gMul_int, take_set, ixn20, Int.toNat_natCast, ixn21, List.set_set, gFdv, gMod, gPow, gI, gI0, gLt, gLe, gGt, gGe, gIs, gIt, isN, absD, DL.intD, max2, min2, dmod, ixD_l, ixD_t, isiD, tyD, gsel, gEq_int, gNe_int, gEq_str, gNe_str, List.map_cons, List.map_nil, List.length_cons, List.length_nil, List.cons_append, List.nil_append, List.append_nil, List.replicate_succ, List.replicate_zero, Nat.reduceAdd, Nat.reduceSub, Nat.reduceLeDiff, Nat.reduceEqDiff, List.take_length, List.length_map, List.length_append, List.take_left', List.take_append_of_le_length, Nat.le_refl, Nat.zero_add, Nat.add_zero, and_true, true_and, true_or, or_true, Int.mul_one, Int.one_mul, Nat.one_mul, Nat.mul_one, and_false, false_and, if_pos, if_neg, reduceIte, reduceCtorEq, not_true_eq_false, not_false_eq_true, Bool.not_true, Bool.not_false, beq_self_eq_true, Bool.or_true, Bool.true_or, Bool.or_false, Bool.false_or, Bool.and_true, Bool.true_and, Bool.and_false, Bool.false_and, String.reduceBEq, at0, at1, at2, at3, Int.cast_ofNat_Int, decide_true, decide_false, decide_eq_true_eq, decide_eq_false_iff_not, Bool.not_eq_true', Bool.not_eq_eq_eq_not, Int.reduceSub, Int.reduceNeg, Int.reduceAdd, Int.reduceMul, Int.reduceLT, Int.reduceLE, Int.reduceEq, Int.reducePow, Int.reduceToNat, sumD_map, allD_map, anyD_map, srtD_map, srtD_mapT, tupD, lstD, List.getElem?_cons_zero, List.getElem?_cons_succ, List.set_cons_zero, List.set_cons_succ, Option.some.injEq, Option.map_some, Option.map_none, Bool.false_eq_true, if_true, if_false]
        refine (ok_eq (lc_mapA (fun t => PyData.int (t : Nat)) (fun (t : Nat) => PyData.int (ss.getD t 0)) p.2 fun t ht => ?_)).mpr ?_
        · simp only [ok_callD, ok_bind, ok_ret, ok_some, ok_none, ok_fail, ok_ifF, ok_lif, ok_var, ok_C, ok_rdim, ok_toim, ok_bin, ok_fTst, ok_fAnd, ok_fOr, ok_fNot, ok_chn, startD, outD, fThen, fSet, fAsg, fPar, fPar3, fIfS, fRet, fDrop, fEnd, fBrk, fCnt, fNotT, fAndT, fOrT, fIf, fIsi, fIsi2, fCall, fCallK, fCons, fNil, fCa, fTup, fLst, fLstM, mkM, fApp, appV, ok_putM, get_last, set_last, take_last, gAdd_int, L2.CDiv, L2.CMul, L2.CPow, fIx, ok_ixR, ok_ixI, ok_lenR, ok_callM, fNeg, fRev, fSl, slD, cut1, fON, fOS, fYes, ok_lc, ok_lcBody, ok_for, ok_newM, wipeD, ok_seqL, ok_seqT, ok_seqR, allD_mapF, anyD_mapF, sumD_mapF, List.all_map, fSeq, fRng1, fRng2, fEnum, fZip, gtName, gtSub, gtNil, gtCons, gtTup, mkT, mkL, toDs, DL.gD, gD.rds, c1, c2, ok_lenL, ok_lenT, eq_self, DL.gSub, gMul_int, take_set, ixn20, Int.toNat_natCast, ixn21, List.set_set, gFdv, gMod, gPow, gI, gI0, gLt, gLe, gGt, gGe, gIs, gIt, isN, absD, DL.intD, max2, min2, dmod, ixD_l, ixD_t, isiD, tyD, gsel, gEq_int, gNe_int, gEq_str, gNe_str, List.map_cons, List.map_nil, List.length_cons, List.length_nil, List.cons_append, List.nil_append, List.append_nil, List.replicate_succ, List.replicate_zero, Nat.reduceAdd, Nat.reduceSub, Nat.reduceLeDiff, Nat.reduceEqDiff, List.take_length, List.length_map, List.length_append, List.take_left', List.take_append_of_le_length, Nat.le_refl, Nat.zero_add, Nat.add_zero, and_true, true_and, true_or, or_true, Int.mul_one, Int.one_mul, Nat.one_mul, Nat.mul_one, and_false, false_and, if_pos, if_neg, reduceIte, reduceCtorEq, not_true_eq_false, not_false_eq_true, Bool.not_true, Bool.not_false, beq_self_eq_true, Bool.or_true, Bool.true_or, Bool.or_false, Bool.false_or, Bool.and_true, Bool.true_and, Bool.and_false, Bool.false_and, String.reduceBEq, at0, at1, at2, at3, Int.cast_ofNat_Int, decide_true, decide_false, decide_eq_true_eq, decide_eq_false_iff_not, Bool.not_eq_true', Bool.not_eq_eq_eq_not, Int.reduceSub, Int.reduceNeg, Int.reduceAdd, Int.reduceMul, Int.reduceLT, Int.reduceLE, Int.reduceEq, Int.reducePow, Int.reduceToNat, sumD_map, allD_map, anyD_map, srtD_map, srtD_mapT, tupD, lstD, List.getElem?_cons_zero, List.getElem?_cons_succ, List.set_cons_zero, List.set_cons_succ, Option.some.injEq, Option.map_some, Option.map_none, Bool.false_eq_true, if_true, if_false, (steps_at hl (m1 t ht)).1]
        · simp only [ok_callD, ok_bind, ok_ret, ok_some, ok_none, ok_fail, ok_ifF, ok_lif, ok_var, ok_C, ok_rdim, ok_toim, ok_bin, ok_fTst, ok_fAnd, ok_fOr, ok_fNot, ok_chn, startD, outD, fThen, fSet, fAsg, fPar, fPar3, fIfS, fRet, fDrop, fEnd, fBrk, fCnt, fNotT, fAndT, fOrT, fIf, fIsi, fIsi2, fCall, fCallK, fCons, fNil, fCa, fTup, fLst, fLstM, mkM, fApp, appV, ok_putM, get_last, set_last, take_last, gAdd_int, L2.CDiv, L2.CMul, L2.CPow, fIx, ok_ixR, ok_ixI, ok_lenR, ok_callM, fNeg, fRev, fSl, slD, cut1, fON, fOS, fYes, ok_lc, ok_lcBody, ok_for, ok_newM, wipeD, ok_seqL, ok_seqT, ok_seqR, allD_mapF, anyD_mapF, sumD_mapF, List.all_map, fSeq, fRng1, fRng2, fEnum, fZip, gtName, gtSub, gtNil, gtCons, gtTup, mkT, mkL, toDs, DL.gD, gD.rds, c1, c2, ok_lenL, ok_lenT, eq_self, DL.gSub, gMul_int, take_set, ixn20, Int.toNat_natCast, ixn21, List.set_set, gFdv, gMod, gPow, gI, gI0, gLt, gLe, gGt, gGe, gIs, gIt, isN, absD, DL.intD, max2, min2, dmod, ixD_l, ixD_t, isiD, tyD, gsel, gEq_int, gNe_int, gEq_str, gNe_str, List.map_cons, List.map_nil, List.length_cons, List.length_nil, List.cons_append, List.nil_append, List.append_nil, List.replicate_succ, List.replicate_zero, Nat.reduceAdd, Nat.reduceSub, Nat.reduceLeDiff, Nat.reduceEqDiff, List.take_length, List.length_map, List.length_append, List.take_left', List.take_append_of_le_length, Nat.le_refl, Nat.zero_add, Nat.add_zero, and_true, true_and, true_or, or_true, Int.mul_one, Int.one_mul, Nat.one_mul, Nat.mul_one, and_false, false_and, if_pos, if_neg, reduceIte, reduceCtorEq, not_true_eq_false, not_false_eq_true, Bool.not_true, Bool.not_false, beq_self_eq_true, Bool.or_true, Bool.true_or, Bool.or_false, Bool.false_or, Bool.and_true, Bool.true_and, Bool.and_false, Bool.false_and, String.reduceBEq, at0, at1, at2, at3, Int.cast_ofNat_Int, decide_true, decide_false, decide_eq_true_eq, decide_eq_false_iff_not, Bool.not_eq_true', Bool.not_eq_eq_eq_not, Int.reduceSub, Int.reduceNeg, Int.reduceAdd, Int.reduceMul, Int.reduceLT, Int.reduceLE, Int.reduceEq, Int.reducePow, Int.reduceToNat, sumD_map, allD_map, anyD_map, srtD_map, srtD_mapT, tupD, lstD, List.getElem?_cons_zero, List.getElem?_cons_succ, List.set_cons_zero, List.set_cons_succ, Option.some.injEq, Option.map_some, Option.map_none, Bool.false_eq_true, if_true, if_false, m3]
      · have hzz := zipped hw.len (lots_len (m := n))
        have hz3 : (ws.zip (lots n)).length ≤ 1000 := by omega
        have e : ((ws.zip (lots n)).map fun p => PyData.int (p.1 + (p.2.map fun t => ss.getD t 0).sum)) = ((ws.zip (lots n)).map fun p => p.1 + (p.2.map fun t => ss.getD t 0).sum).map .int := by rw [List.map_map]; rfl
        rw [e]
        simp only [ok_callD, ok_bind, ok_ret, ok_some, ok_none, ok_fail, ok_ifF, ok_lif, ok_var, ok_C, ok_rdim, ok_toim, ok_bin, ok_fTst, ok_fAnd, ok_fOr, ok_fNot, ok_chn, startD, outD, fThen, fSet, fAsg, fPar, fPar3, fIfS, fRet, fDrop, fEnd, fBrk, fCnt, fNotT, fAndT, fOrT, fIf, fIsi, fIsi2, fCall, fCallK, fCons, fNil, fCa, fTup, fLst, fLstM, mkM, fApp, appV, ok_putM, get_last, set_last, take_last, gAdd_int, L2.CDiv, L2.CMul, L2.CPow, fIx, ok_ixR, ok_ixI, ok_lenR, ok_callM, fNeg, fRev, fSl, slD, cut1, fON, fOS, fYes, ok_lc, ok_lcBody, ok_for, ok_newM, wipeD, ok_seqL, ok_seqT, ok_seqR, allD_mapF, anyD_mapF, sumD_mapF, List.all_map, fSeq, fRng1, fRng2, fEnum, fZip, gtName, gtSub, gtNil, gtCons, gtTup, mkT, mkL, toDs, DL.gD, gD.rds, c1, c2, ok_lenL, ok_lenT, eq_self, DL.gSub, gMul_int, take_set, ixn20, Int.toNat_natCast, ixn21, List.set_set, gFdv, gMod, gPow, gI, gI0, gLt, gLe, gGt, gGe, gIs, gIt, isN, absD, DL.intD, max2, min2, dmod, ixD_l, ixD_t, isiD, tyD, gsel, gEq_int, gNe_int, gEq_str, gNe_str, List.map_cons, List.map_nil, List.length_cons, List.length_nil, List.cons_append, List.nil_append, List.append_nil, List.replicate_succ, List.replicate_zero, Nat.reduceAdd, Nat.reduceSub, Nat.reduceLeDiff, Nat.reduceEqDiff, List.take_length, List.length_map, List.length_append, List.take_left', List.take_append_of_le_length, Nat.le_refl, Nat.zero_add, Nat.add_zero, and_true, true_and, true_or, or_true, Int.mul_one, Int.one_mul, Nat.one_mul, Nat.mul_one, and_false, false_and, if_pos, if_neg, reduceIte, reduceCtorEq, not_true_eq_false, not_false_eq_true, Bool.not_true, Bool.not_false, beq_self_eq_true, Bool.or_true, Bool.true_or, Bool.or_false, Bool.false_or, Bool.and_true, Bool.true_and, Bool.and_false, Bool.false_and, String.reduceBEq, at0, at1, at2, at3, Int.cast_ofNat_Int, decide_true, decide_false, decide_eq_true_eq, decide_eq_false_iff_not, Bool.not_eq_true', Bool.not_eq_eq_eq_not, Int.reduceSub, Int.reduceNeg, Int.reduceAdd, Int.reduceMul, Int.reduceLT, Int.reduceLE, Int.reduceEq, Int.reducePow, Int.reduceToNat, sumD_map, allD_map, anyD_map, srtD_map, srtD_mapT, tupD, lstD, List.getElem?_cons_zero, List.getElem?_cons_succ, List.set_cons_zero, List.set_cons_succ, Option.some.injEq, Option.map_some, Option.map_none, Bool.false_eq_true, if_true, if_false, hz3]
        refine ⟨_, rfl, _, cb, _, _, _, _, _, _, _, _, _, _, rfl, rfl, gb, by rw [List.length_map]; exact hzz, fun w hw' => ?_⟩
        obtain ⟨p, hp, rfl⟩ := List.mem_map.mp hw'
        obtain ⟨m1, m2⟩ := lots_mem hn (List.of_mem_zip hp).2
        have b1 := hw.bd p.1 (List.of_mem_zip hp).1
        have := sum_bd (g := fun t => ss.getD t 0) (B := 3) (l := p.2) (fun t ht => hs _ (steps_at hl (m1 t ht)).2) m2 (by decide)
        omega
  · simp only [ok_callD, ok_bind, ok_ret, ok_some, ok_none, ok_fail, ok_ifF, ok_lif, ok_var, ok_C, ok_rdim, ok_toim, ok_bin, ok_fTst, ok_fAnd, ok_fOr, ok_fNot, ok_chn, startD, outD, fThen, fSet, fAsg, fPar, fPar3, fIfS, fRet, fDrop, fEnd, fBrk, fCnt, fNotT, fAndT, fOrT, fIf, fIsi, fIsi2, fCall, fCallK, fCons, fNil, fCa, fTup, fLst, fLstM, mkM, fApp, appV, ok_putM, get_last, set_last, take_last, gAdd_int, L2.CDiv, L2.CMul, L2.CPow, fIx, ok_ixR, ok_ixI, ok_lenR, ok_callM, fNeg, fRev, fSl, slD, cut1, fON, fOS, fYes, ok_lc, ok_lcBody, ok_for, ok_newM, wipeD, ok_seqL, ok_seqT, ok_seqR, allD_mapF, anyD_mapF, sumD_mapF, List.all_map, fSeq, fRng1, fRng2, fEnum, fZip, gtName, gtSub, gtNil, gtCons, gtTup, mkT, mkL, toDs, DL.gD, gD.rds, c1, c2, ok_lenL, ok_lenT, eq_self, DL.gSub, gMul_int, take_set, ixn20, Int.toNat_natCast, ixn21, List.set_set, gFdv, gMod, gPow, gI, gI0, gLt, gLe, gGt, gGe, gIs, gIt, isN, absD, DL.intD, max2, min2, dmod, ixD_l, ixD_t, isiD, tyD, gsel, gEq_int, gNe_int, gEq_str, gNe_str, List.map_cons, List.map_nil, List.length_cons, List.length_nil, List.cons_append, List.nil_append, List.append_nil, List.replicate_succ, List.replicate_zero, Nat.reduceAdd, Nat.reduceSub, Nat.reduceLeDiff, Nat.reduceEqDiff, List.take_length, List.length_map, List.length_append, List.take_left', List.take_append_of_le_length, Nat.le_refl, Nat.zero_add, Nat.add_zero, and_true, true_and, true_or, or_true, Int.mul_one, Int.one_mul, Nat.one_mul, Nat.mul_one, and_false, false_and, if_pos, if_neg, reduceIte, reduceCtorEq, not_true_eq_false, not_false_eq_true, Bool.not_true, Bool.not_false, beq_self_eq_true, Bool.or_true, Bool.true_or, Bool.or_false, Bool.false_or, Bool.and_true, Bool.true_and, Bool.and_false, Bool.false_and, String.reduceBEq, at0, at1, at2, at3, Int.cast_ofNat_Int, decide_true, decide_false, decide_eq_true_eq, decide_eq_false_iff_not, Bool.not_eq_true', Bool.not_eq_eq_eq_not, Int.reduceSub, Int.reduceNeg, Int.reduceAdd, Int.reduceMul, Int.reduceLT, Int.reduceLE, Int.reduceEq, Int.reducePow, Int.reduceToNat, sumD_map, allD_map, anyD_map, srtD_map, srtD_mapT, tupD, lstD, List.getElem?_cons_zero, List.getElem?_cons_succ, List.set_cons_zero, List.set_cons_succ, Option.some.injEq, Option.map_some, Option.map_none, Bool.false_eq_true, if_true, if_false, tenv, hy]
    exact ⟨_, rfl, h0.up (by omega)⟩
end G11
namespace G11
open PySem DL
def TM (st : Sto) (i n : Nat) (way f b : Int) (env : DEnv) (s : Sto) : Prop := ∃ ws c x7 x8 x9 x10 x11 x12 x13 x14 x15 x16,
  env = tenv i n way f (.mu st.length) x7 x8 x9 x10 x11 x12 x13 x14 x15 x16 ∧ s = st.set i c ++ [(true, ws.map .int)] ∧ GoodC c ∧ Ws (2 ^ n) b ws
theorem table_7 {st : Sto} {i n : Nat} (hn : n ≤ 5) (hi : i < st.length) {way f : Int} {env : DEnv} {s : Sto} (h : TS st i n way f 63 env s) : Ok (b__law_table_7 env) s fun o s' => ∃ e, o = .nx e ∧ (TS st i n way f 63 e s' ∨ TM st i n way f 63 e s') := by
  have h0 := h
  obtain ⟨ws, c, x7, x8, x9, x10, x11, x12, x13, x14, x15, x16, rfl, rfl, g, hw⟩ := h
  have hz := pow_small hn
  have h3 : ∀ (c x : Cell), (st.set i c ++ [x])[i]? = some c := fun c x => by rw [List.getElem?_append_left (by rw [List.length_set]; exact hi)]; exact List.getElem?_set_self hi
  have h4 : ∀ (c c' x : Cell), (st.set i c ++ [x]).set i c' = st.set i c' ++ [x] := fun c c' x => by rw [List.set_append_left _ _ (by rw [List.length_set]; exact hi), List.set_set]
  have h5 : ∀ (c x : Cell), (st.set i c ++ [x])[st.length]? = some x := fun c x => by rw [List.getElem?_append_right (by rw [List.length_set]; exact Nat.le_refl _), List.length_set, Nat.sub_self]; rfl
  have h6 : ∀ (c x y : Cell), (st.set i c ++ [x]).set st.length y = st.set i c ++ [y] := fun c x y => by rw [List.set_append_right _ _ (by rw [List.length_set]; exact Nat.le_refl _), List.length_set, Nat.sub_self]; rfl
  unfold b__law_table_7
  by_cases hy : way = 5
  · have en : ((n : Int) + 1) = ((n + 1 : Nat) : Int) := by omega
    simp only [ok_callD, ok_bind, ok_ret, ok_some, ok_none, ok_fail, ok_ifF, ok_lif, ok_var, ok_C, ok_rdim, ok_toim, ok_bin, ok_fTst, ok_fAnd, ok_fOr, ok_fNot, ok_chn, startD, outD, fThen, fSet, fAsg, fPar, fPar3, fIfS, fRet, fDrop, fEnd, fBrk, fCnt, fNotT, fAndT, fOrT, fIf, fIsi, fIsi2, fCall, fCallK, fCons, fNil, fCa, fTup, fLst, fLstM, mkM, fApp, appV, ok_putM, get_last, set_last, take_last, gAdd_int, L2.CDiv, L2.CMul, L2.CPow, fIx, ok_ixR, ok_ixI, ok_lenR, ok_callM, fNeg, fRev, fSl, slD, cut1, fON, fOS, fYes, ok_lc, ok_lcBody, ok_for, ok_newM, wipeD, ok_seqL, ok_seqT, ok_seqR, allD_mapF, anyD_mapF, sumD_mapF, List.all_map, fSeq, fRng1, fRng2, fEnum, fZip, gtName, gtSub, gtNil, gtCons, gtTup, mkT, mkL, toDs, DL.gD, gD.rds, c1, c2, ok_lenL, ok_lenT, eq_self, DL.gSub, gMul_int, take_set, ixn20, Int.toNat_natCast, ixn21, List.set_set, gFdv, gMod, gPow, gI, gI0, gLt, gLe, gGt, gGe, gIs, gIt, isN, absD, DL.intD, max2, min2, dmod, ixD_l, ixD_t, isiD, tyD, gsel, gEq_int, gNe_int, gEq_str, gNe_str, List.map_cons, List.map_nil, List.length_cons, List.length_nil, List.cons_append, List.nil_append, List.append_nil, List.replicate_succ, List.replicate_zero, Nat.reduceAdd, Nat.reduceSub, Nat.reduceLeDiff, Nat.reduceEqDiff, List.take_length, List.length_map, List.length_append, List.take_left', List.take_append_of_le_length, Nat.le_refl, Nat.zero_add, Nat.add_zero, and_true, true_and, true_or, or_true, Int.mul_one, Int.one_mul, Nat.one_mul, Nat.mul_one, and_false, false_and, if_pos, if_neg, reduceIte, reduceCtorEq, not_true_eq_false, not_false_eq_true, Bool.not_true, Bool.not_false, beq_self_eq_true, Bool.or_true, Bool.true_or, Bool.or_false, Bool.false_or, Bool.and_true, Bool.true_and, Bool.and_false, Bool.false_and, String.reduceBEq, at0, at1, at2, at3, Int.cast_ofNat_Int, decide_true, decide_false, decide_eq_true_eq, decide_eq_false_iff_not, Bool.not_eq_true', Bool.not_eq_eq_eq_not, Int.reduceSub, Int.reduceNeg, Int.reduceAdd, Int.reduceMul, Int.reduceLT, Int.reduceLE, Int.reduceEq, Int.reducePow, Int.reduceToNat, sumD_map, allD_map, anyD_map, srtD_map, srtD_mapT, tupD, lstD, List.getElem?_cons_zero, List.getElem?_cons_succ, List.set_cons_zero, List.set_cons_succ, Option.some.injEq, Option.map_some, Option.map_none, Bool.false_eq_true, if_true, if_false, tenv, hy, en]
    refine ⟨by omega, ?_⟩
    rw [rng_map]
    refine (ok_eq (lc_mapA (fun t => PyData.int (t : Nat)) (fun (t : Nat) => PyData.int (4 - (t : Int))) (List.range (n + 1)) fun t ht => ?_)).mpr ?_
    · simp only [ok_callD, ok_bind, ok_ret, ok_some, ok_none, ok_fail, ok_ifF, ok_lif, ok_var, ok_C, ok_rdim, ok_toim, ok_bin, ok_fTst, ok_fAnd, ok_fOr, ok_fNot, ok_chn, startD, outD, fThen, fSet, fAsg, fPar, fPar3, fIfS, fRet, fDrop, fEnd, fBrk, fCnt, fNotT, fAndT, fOrT, fIf, fIsi, fIsi2, fCall, fCallK, fCons, fNil, fCa, fTup, fLst, fLstM, mkM, fApp, appV, ok_putM, get_last, set_last, take_last, gAdd_int, L2.CDiv, L2.CMul, L2.CPow, fIx, ok_ixR, ok_ixI, ok_lenR, ok_callM, fNeg, fRev, fSl, slD, cut1, fON, fOS, fYes, ok_lc, ok_lcBody, ok_for, ok_newM, wipeD, ok_seqL, ok_seqT, ok_seqR, allD_mapF, anyD_mapF, sumD_mapF, List.all_map, fSeq, fRng1, fRng2, fEnum, fZip, gtName, gtSub, gtNil, gtCons, gtTup, mkT, mkL, toDs, DL.gD, gD.rds, c1, c2, ok_lenL, ok_lenT, eq_self, DL.gSub, gMul_int, take_set, ixn20, Int.toNat_natCast, ixn21, List.set_set, gFdv, gMod, gPow, gI, gI0, gLt, gLe, gGt, gGe, gIs, gIt, isN, absD, DL.intD, max2, min2, dmod, ixD_l, ixD_t, isiD, tyD, gsel, gEq_int, gNe_int, gEq_str, gNe_str, List.map_cons, List.map_nil, List.length_cons, List.length_nil, List.cons_append, List.nil_append, List.append_nil, List.replicate_succ, List.replicate_zero, Nat.reduceAdd, Nat.reduceSub, Nat.reduceLeDiff, Nat.reduceEqDiff, List.take_length, List.length_map, List.length_append, List.take_left', List.take_append_of_le_length, Nat.le_refl, Nat.zero_add, Nat.add_zero, and_true, true_and, true_or, or_true, Int.mul_one, Int.one_mul, Nat.one_mul, Nat.mul_one, and_false, false_and, if_pos, if_neg, reduceIte, reduceCtorEq, not_true_eq_false, not_false_eq_true, Bool.not_true, Bool.not_false, beq_self_eq_true, Bool.or_true, Bool.true_or, Bool.or_false, Bool.false_or, Bool.and_true, Bool.true_and, Bool.and_false, Bool.false_and, String.reduceBEq, at0, at1, at2, at3, Int.cast_ofNat_Int, decide_true, decide_false, decide_eq_true_eq, decide_eq_false_iff_not, Bool.not_eq_true', Bool.not_eq_eq_eq_not, Int.reduceSub, Int.reduceNeg, Int.reduceAdd, Int.reduceMul, Int.reduceLT, Int.reduceLE, Int.reduceEq, Int.reducePow, Int.reduceToNat, sumD_map, allD_map, anyD_map, srtD_map, srtD_mapT, tupD, lstD, List.getElem?_cons_zero, List.getElem?_cons_succ, List.set_cons_zero, List.set_cons_succ, Option.some.injEq, Option.map_some, Option.map_none, Bool.false_eq_true, if_true, if_false]
    · have hz2 : (List.range (n + 1)).length ≤ 1000 := by rw [List.length_range]; omega
      have e1 : ((List.range (n + 1)).map fun (t : Nat) => PyData.int (4 - (t : Int))) = ((List.range (n + 1)).map fun (t : Nat) => 4 - (t : Int)).map .int := by rw [List.map_map]; rfl
      have sb : ∀ x ∈ (List.range (n + 1)).map fun (t : Nat) => 4 - (t : Int), -4 ≤ x ∧ x ≤ 4 := fun x hx => by
        obtain ⟨t, ht, rfl⟩ := List.mem_map.mp hx
        have := List.mem_range.mp ht
        omega
      have hs3 : ((List.range (n + 1)).map fun (t : Nat) => 4 - (t : Int)).length ≤ 1000 := by rw [List.length_map]; exact hz2
      rw [e1]
      generalize (List.range (n + 1)).map (fun (t : Nat) => 4 - (t : Int)) = ss at *
      simp only [ok_callD, ok_bind, ok_ret, ok_some, ok_none, ok_fail, ok_ifF, ok_lif, ok_var, ok_C, ok_rdim, ok_toim, ok_bin, ok_fTst, ok_fAnd, ok_fOr, ok_fNot, ok_chn, startD, outD, fThen, fSet, fAsg, fPar, fPar3, fIfS, fRet, fDrop, fEnd, fBrk, fCnt, fNotT, fAndT, fOrT, fIf, fIsi, fIsi2, fCall, fCallK, fCons, fNil, fCa, fTup, fLst, fLstM, mkM, fApp, appV, ok_putM, get_last, set_last, take_last, gAdd_int, L2.CDiv, L2.CMul, L2.CPow, fIx, ok_ixR, ok_ixI, ok_lenR, ok_callM, fNeg, fRev, fSl, slD, cut1, fON, fOS, fYes, ok_lc, ok_lcBody, ok_for, ok_newM, wipeD, ok_seqL, ok_seqT, ok_seqR, allD_mapF, anyD_mapF, sumD_mapF, List.all_map, fSeq, fRng1, fRng2, fEnum, fZip, gtName, gtSub, gtNil, gtCons, gtTup, mkT, mkL, toDs, DL.gD, gD.rds, c1, c2, ok_lenL, ok_lenT, eq_self, DL.gSub, gMul_int, take_set, ixn20, Int.toNat_natCast, ixn21, List.set_set, gFdv, gMod, gPow, gI, gI0, gLt, gLe, gGt, gGe, gIs, gIt, isN, absD, DL.intD, max2, min2, dmod, ixD_l, ixD_t, isiD, tyD, gsel, gEq_int, gNe_int, gEq_str, gNe_str, List.map_cons, List.map_nil, List.length_cons, List.length_nil, List.cons_append, List.nil_append, List.append_nil, List.replicate_succ, List.replicate_zero, Nat.reduceAdd, Nat.reduceSub, Nat.reduceLeDiff, Nat.reduceEqDiff, List.take_length, List.length_map, List.length_append, List.take_left', List.take_append_of_le_length, Nat.le_refl, Nat.zero_add, Nat.add_zero, and_true, true_and, true_or, or_true, Int.mul_one, Int.one_mul, Nat.one_mul, Nat.mul_one, and_false, false_and, if_pos, if_neg, reduceIte, reduceCtorEq, not_true_eq_false, not_false_eq_true, Bool.not_true, Bool.not_false, beq_self_eq_true, Bool.or_true, Bool.true_or, Bool.or_false, Bool.false_or, Bool.and_true, Bool.true_and, Bool.and_false, Bool.false_and, String.reduceBEq, at0, at1, at2, at3, Int.cast_ofNat_Int, decide_true, decide_false, decide_eq_true_eq, decide_eq_false_iff_not, Bool.not_eq_true', Bool.not_eq_eq_eq_not, Int.reduceSub, Int.reduceNeg, Int.reduceAdd, Int.reduceMul, Int.reduceLT, Int.reduceLE, Int.reduceEq, Int.reducePow, Int.reduceToNat, sumD_map, allD_map, anyD_map, srtD_map, srtD_mapT, tupD, lstD, List.getElem?_cons_zero, List.getElem?_cons_succ, List.set_cons_zero, List.set_cons_succ, Option.some.injEq, Option.map_some, Option.map_none, Bool.false_eq_true, if_true, if_false, hs3, lotsD]
      refine (ok_eq (lc_mapA lotD (fun l => PyData.int (ss.take l.length).sum) (lots n) fun l hl3 => ?_)).mpr ?_
      · unfold lotD
        simp only [ok_callD, ok_bind, ok_ret, ok_some, ok_none, ok_fail, ok_ifF, ok_lif, ok_var, ok_C, ok_rdim, ok_toim, ok_bin, ok_fTst, ok_fAnd, ok_fOr, ok_fNot, ok_chn, startD, outD, fThen, fSet, fAsg, fPar, fPar3, fIfS, fRet, fDrop, fEnd, fBrk, fCnt, fNotT, fAndT, fOrT, fIf, fIsi, fIsi2, fCall, fCallK, fCons, fNil, fCa, fTup, fLst, fLstM, mkM, fApp, appV, ok_putM, get_last, set_last, take_last, gAdd_int, L2.CDiv, L2.CMul, L2.CPow, fIx, ok_ixR, ok_ixI, ok_lenR, ok_callM, fNeg, fRev, fSl, slD, cut1, fON, fOS, fYes, ok_lc, ok_lcBody, ok_for, ok_newM, wipeD, ok_seqL, ok_seqT, ok_seqR, allD_mapF, anyD_mapF, sumD_mapF, List.all_map, fSeq, fRng1, fRng2, fEnum, fZip, gtName, gtSub, gtNil, gtCons, gtTup, mkT, mkL, toDs, DL.gD, gD.rds, c1, c2, ok_lenL, ok_lenT, eq_self, DL.gSub, gMul_int, take_set, ixn20, Int.toNat_natCast, ixn21, List.set_set, gFdv, gMod, gPow, gI, gI0, gLt, gLe, gGt, gGe, gIs, gIt, isN, absD, DL.intD, max2, min2, dmod, ixD_l, ixD_t, isiD, tyD, gsel, gEq_int, gNe_int, gEq_str, gNe_str, List.map_cons, List.map_nil, List.length_cons, List.length_nil, List.cons_append, List.nil_append, List.append_nil, List.replicate_succ, List.replicate_zero, Nat.reduceAdd, Nat.reduceSub, Nat.reduceLeDiff, Nat.reduceEqDiff, List.take_length, List.length_map, List.length_append, List.take_left', List.take_append_of_le_length, Nat.le_refl, Nat.zero_add, Nat.add_zero, and_true, true_and, true_or, or_true, Int.mul_one, Int.one_mul, Nat.one_mul, Nat.mul_one, and_false, false_and, if_pos, if_neg, reduceIte, reduceCtorEq, not_true_eq_false, not_false_eq_true, Bool.not_true, Bool.not_false, beq_self_eq_true, Bool.or_true, Bool.true_or, Bool.or_false, Bool.false_or, Bool.and_true, Bool.true_and, Bool.and_false, Bool.false_and, String.reduceBEq, at0, at1, at2, at3, Int.cast_ofNat_Int, decide_true, decide_false, decide_eq_true_eq, decide_eq_false_iff_not, Bool.not_eq_true', Bool.not_eq_eq_eq_not, Int.reduceSub, Int.reduceNeg, Int.reduceAdd, Int.reduceMul, Int.reduceLT, Int.reduceLE, Int.reduceEq, Int.reducePow, Int.reduceToNat, sumD_map, allD_map, anyD_map, srtD_map, srtD_mapT, tupD, lstD, List.getElem?_cons_zero, List.getElem?_cons_succ, List.set_cons_zero, List.set_cons_succ, Option.some.injEq, Option.map_some, Option.map_none, Bool.false_eq_true, if_true, if_false]
        rw [cut_to (k := l.length) rfl, ← List.map_take]
        simp only [ok_callD, ok_bind, ok_ret, ok_some, ok_none, ok_fail, ok_ifF, ok_lif, ok_var, ok_C, ok_rdim, ok_toim, ok_bin, ok_fTst, ok_fAnd, ok_fOr, ok_fNot, ok_chn, startD, outD, fThen, fSet, fAsg, fPar, fPar3, fIfS, fRet, fDrop, fEnd, fBrk, fCnt, fNotT, fAndT, fOrT, fIf, fIsi, fIsi2, fCall, fCallK, fCons, fNil, fCa, fTup, fLst, fLstM, mkM, fApp, appV, ok_putM, get_last, set_last, take_last, gAdd_int, L2.CDiv, L2.CMul, L2.CPow, fIx, ok_ixR, ok_ixI, ok_lenR, ok_callM, fNeg, fRev, fSl, slD, cut1, fON, fOS, fYes, ok_lc, ok_lcBody, ok_for, ok_newM, wipeD, ok_seqL, ok_seqT, ok_seqR, allD_mapF, anyD_mapF, sumD_mapF, List.all_map, fSeq, fRng1, fRng2, fEnum, fZip, gtName, gtSub, gtNil, gtCons, gtTup, mkT, mkL, toDs, DL.gD, gD.rds, c1, c2, ok_lenL, ok_lenT, eq_self, DL.gSub, gMul_int, take_set, ixn20, Int.toNat_natCast, ixn21, List.set_set, gFdv, gMod, gPow, gI, gI0, gLt, gLe, gGt, gGe, gIs, gIt, isN, absD, DL.intD, max2, min2, dmod, ixD_l, ixD_t, isiD, tyD, gsel, gEq_int, gNe_int, gEq_str, gNe_str, List.map_cons, List.map_nil, List.length_cons, List.length_nil, List.cons_append, List.nil_append, List.append_nil, List.replicate_succ, List.replicate_zero, Nat.reduceAdd, Nat.reduceSub, Nat.reduceLeDiff, Nat.reduceEqDiff, List.take_length, List.length_map, List.length_append, List.take_left', List.take_append_of_le_length, Nat.le_refl, Nat.zero_add, Nat.add_zero, and_true, true_and, true_or, or_true, Int.mul_one, Int.one_mul, Nat.one_mul, Nat.mul_one, and_false, false_and, if_pos, if_neg, reduceIte, reduceCtorEq, not_true_eq_false, not_false_eq_true, Bool.not_true, Bool.not_false, beq_self_eq_true, Bool.or_true, Bool.true_or, Bool.or_false, Bool.false_or, Bool.and_true, Bool.true_and, Bool.and_false, Bool.false_and, String.reduceBEq, at0, at1, at2, at3, Int.cast_ofNat_Int, decide_true, decide_false, decide_eq_true_eq, decide_eq_false_iff_not, Bool.not_eq_true', Bool.not_eq_eq_eq_not, Int.reduceSub, Int.reduceNeg, Int.reduceAdd, Int.reduceMul, Int.reduceLT, Int.reduceLE, Int.reduceEq, Int.reducePow, Int.reduceToNat, sumD_map, allD_map, anyD_map, srtD_map, srtD_mapT, tupD, lstD, List.getElem?_cons_zero, List.getElem?_cons_succ, List.set_cons_zero, List.set_cons_succ, Option.some.injEq, Option.map_some, Option.map_none, Bool.false_eq_true, if_true, if_false]
      · have hz4 : (lots n).length ≤ 1000 := by rw [lots_len]; omega
        have e2 : ((lots n).map fun l => PyData.int (ss.take l.length).sum) = ((lots n).map fun l => (ss.take l.length).sum).map .int := by rw [List.map_map]; rfl
        have wb : ∀ w ∈ (lots n).map fun l => (ss.take l.length).sum, -20 ≤ w ∧ w ≤ 20 := fun w hw => by
          obtain ⟨l, hl, rfl⟩ := List.mem_map.mp hw
          have := sum_bd (g := id) (B := 4) (l := ss.take l.length) (fun t ht => sb t (List.mem_of_mem_take ht)) (by rw [List.length_take]; have := (lots_mem hn hl).2; omega) (by decide)
          rw [List.map_id] at this
          omega
        have wl : ((lots n).map fun l => (ss.take l.length).sum).length = 2 ^ n := by rw [List.length_map]; exact lots_len
        rw [e2]
        generalize (lots n).map (fun l => (ss.take l.length).sum) = us at *
        have hn0 := Nat.two_pow_pos n
        simp only [ok_callD, ok_bind, ok_ret, ok_some, ok_none, ok_fail, ok_ifF, ok_lif, ok_var, ok_C, ok_rdim, ok_toim, ok_bin, ok_fTst, ok_fAnd, ok_fOr, ok_fNot, ok_chn, startD, outD, fThen, fSet, fAsg, fPar, fPar3, fIfS, fRet, fDrop, fEnd, fBrk, fCnt, fNotT, fAndT, fOrT, fIf, fIsi, fIsi2, fCall, fCallK, fCons, fNil, fCa, fTup, fLst, fLstM, mkM, fApp, appV, ok_putM, get_last, set_last, take_last, gAdd_int, L2.CDiv, L2.CMul, L2.CPow, fIx, ok_ixR, ok_ixI, ok_lenR, ok_callM, fNeg, fRev, fSl, slD, cut1, fON, fOS, fYes, ok_lc, ok_lcBody, ok_for, ok_newM, wipeD, ok_seqL, ok_seqT, ok_seqR, allD_mapF, anyD_mapF, sumD_mapF, List.all_map, fSeq, fRng1, fRng2, fEnum, fZip, gtName, gtSub, gtNil, gtCons, gtTup, mkT, mkL, toDs, DL.gD, gD.rds, c1, c2, ok_lenL, ok_lenT, eq_self, DL.gSub, gMul_int, take_set, ixn20, Int.toNat_natCast, ixn21, List.set_set, gFdv, gMod, gPow, gI, gI0, gLt, gLe, gGt, gGe, gIs, gIt, isN, absD, DL.intD, max2, min2, dmod, ixD_l, ixD_t, isiD, tyD, gsel, gEq_int, gNe_int, gEq_str, gNe_str, List.map_cons, List.map_nil, List.length_cons, List.length_nil, List.cons_append, List.nil_append, List.append_nil, List.replicate_succ, List.replicate_zero, Nat.reduceAdd, Nat.reduceSub, Nat.reduceLeDiff, Nat.reduceEqDiff, List.take_length, List.length_map, List.length_append, List.take_left', List.take_append_of_le_length, Nat.le_refl, Nat.zero_add, Nat.add_zero, and_true, true_and, true_or, or_true, Int.mul_one, Int.one_mul, Nat.one_mul, Nat.mul_one, and_false, false_and, if_pos, if_neg, reduceIte, reduceCtorEq, not_true_eq_false, not_false_eq_true, Bool.not_true, Bool.not_false, beq_self_eq_true, Bool.or_true, Bool.true_or, Bool.or_false, Bool.false_or, Bool.and_true, Bool.true_and, Bool.and_false, Bool.false_and, String.reduceBEq, at0, at1, at2, at3, Int.cast_ofNat_Int, decide_true, decide_false, decide_eq_true_eq, decide_eq_false_iff_not, Bool.not_eq_true', Bool.not_eq_eq_eq_not, Int.reduceSub, Int.reduceNeg, Int.reduceAdd, Int.reduceMul, Int.reduceLT, Int.reduceLE, Int.reduceEq, Int.reducePow, Int.reduceToNat, sumD_map, allD_map, anyD_map, srtD_map, srtD_mapT, tupD, lstD, List.getElem?_cons_zero, List.getElem?_cons_succ, List.set_cons_zero, List.set_cons_succ, Option.some.injEq, Option.map_some, Option.map_none, Bool.false_eq_true, if_true, if_false, wl, List.length_set]
        refine ⟨by omega, ?_⟩
        rw [ok_lenM (h5 _ _)]
        simp only [ok_callD, ok_bind, ok_ret, ok_some, ok_none, ok_fail, ok_ifF, ok_lif, ok_var, ok_C, ok_rdim, ok_toim, ok_bin, ok_fTst, ok_fAnd, ok_fOr, ok_fNot, ok_chn, startD, outD, fThen, fSet, fAsg, fPar, fPar3, fIfS, fRet, fDrop, fEnd, fBrk, fCnt, fNotT, fAndT, fOrT, fIf, fIsi, fIsi2, fCall, fCallK, fCons, fNil, fCa, fTup, fLst, fLstM, mkM, fApp, appV, ok_putM, get_last, set_last, take_last, gAdd_int, L2.CDiv, L2.CMul, L2.CPow, fIx, ok_ixR, ok_ixI, ok_lenR, ok_callM, fNeg, fRev, fSl, slD, cut1, fON, fOS, fYes, ok_lc, ok_lcBody, ok_for, ok_newM, wipeD, ok_seqL, ok_seqT, ok_seqR, allD_mapF, anyD_mapF, sumD_mapF, List.all_map, fSeq, fRng1, fRng2, fEnum, fZip, gtName, gtSub, gtNil, gtCons, gtTup, mkT, mkL, toDs, DL.gD, gD.rds, c1, c2, ok_lenL, ok_lenT, eq_self, DL.gSub, gMul_int, take_set, ixn20, Int.toNat_natCast, ixn21, List.set_set, gFdv, gMod, gPow, gI, gI0, gLt, gLe, gGt, gGe, gIs, gIt, isN, absD, DL.intD, max2, min2, dmod, ixD_l, ixD_t, isiD, tyD, gsel, gEq_int, gNe_int, gEq_str, gNe_str, List.map_cons, List.map_nil, List.length_cons, List.length_nil, List.cons_append, List.nil_append, List.append_nil, List.replicate_succ, List.replicate_zero, Nat.reduceAdd, Nat.reduceSub, Nat.reduceLeDiff, Nat.reduceEqDiff, List.take_length, List.length_map, List.length_append, List.take_left', List.take_append_of_le_length, Nat.le_refl, Nat.zero_add, Nat.add_zero, and_true, true_and, true_or, or_true, Int.mul_one, Int.one_mul, Nat.one_mul, Nat.mul_one, and_false, false_and, if_pos, if_neg, reduceIte, reduceCtorEq, not_true_eq_false, not_false_eq_true, Bool.not_true, Bool.not_false, beq_self_eq_true, Bool.or_true, Bool.true_or, Bool.or_false, Bool.false_or, Bool.and_true, Bool.true_and, Bool.and_false, Bool.false_and, String.reduceBEq, at0, at1, at2, at3, Int.cast_ofNat_Int, decide_true, decide_false, decide_eq_true_eq, decide_eq_false_iff_not, Bool.not_eq_true', Bool.not_eq_eq_eq_not, Int.reduceSub, Int.reduceNeg, Int.reduceAdd, Int.reduceMul, Int.reduceLT, Int.reduceLE, Int.reduceEq, Int.reducePow, Int.reduceToNat, sumD_map, allD_map, anyD_map, srtD_map, srtD_mapT, tupD, lstD, List.getElem?_cons_zero, List.getElem?_cons_succ, List.set_cons_zero, List.set_cons_succ, Option.some.injEq, Option.map_some, Option.map_none, Bool.false_eq_true, if_true, if_false, wl]
        refine draw_then (h3 _ _) g (by omega) (by omega) fun at_ ca a0 a1 ga => ?_
        obtain ⟨j, rfl⟩ : ∃ j : Nat, at_ = (j : Int) := ⟨at_.toNat, by omega⟩
        have hj : j < us.length := by omega
        rw [h4, ok_ixM (h5 _ _), atI_nat (j := j) rfl, List.getElem?_map, List.getElem?_eq_getElem hj]
        simp only [ok_callD, ok_bind, ok_ret, ok_some, ok_none, ok_fail, ok_ifF, ok_lif, ok_var, ok_C, ok_rdim, ok_toim, ok_bin, ok_fTst, ok_fAnd, ok_fOr, ok_fNot, ok_chn, startD, outD, fThen, fSet, fAsg, fPar, fPar3, fIfS, fRet, fDrop, fEnd, fBrk, fCnt, fNotT, fAndT, fOrT, fIf, fIsi, fIsi2, fCall, fCallK, fCons, fNil, fCa, fTup, fLst, fLstM, mkM, fApp, appV, ok_putM, get_last, set_last, take_last, gAdd_int, L2.CDiv, L2.CMul, L2.CPow, fIx, ok_ixR, ok_ixI, ok_lenR, ok_callM, fNeg, fRev, fSl, slD, cut1, fON, fOS, fYes, ok_lc, ok_lcBody, ok_for, ok_newM, wipeD, ok_seqL, ok_seqT, ok_seqR, allD_mapF, anyD_mapF, sumD_mapF, List.all_map, fSeq, fRng1, fRng2, fEnum, fZip, gtName, gtSub, gtNil, gtCons, gtTup, mkT, mkL, toDs, DL.gD, gD.rds, c1, c2, ok_lenL, ok_lenT, eq_self, DL.gSub, gMul_int, take_set, ixn20, Int.toNat_natCast, ixn21, List.set_set, gFdv, gMod, gPow, gI, gI0, gLt, gLe, gGt, gGe, gIs, gIt, isN, absD, DL.intD, max2, min2, dmod, ixD_l, ixD_t, isiD, tyD, gsel, gEq_int, gNe_int, gEq_str, gNe_str, List.map_cons, List.map_nil, List.length_cons, List.length_nil, List.cons_append, List.nil_append, List.append_nil, List.replicate_succ, List.replicate_zero, Nat.reduceAdd, Nat.reduceSub, Nat.reduceLeDiff, Nat.reduceEqDiff, List.take_length, List.length_map, List.length_append, List.take_left', List.take_append_of_le_length, Nat.le_refl, Nat.zero_add, Nat.add_zero, and_true, true_and, true_or, or_true, Int.mul_one, Int.one_mul, Nat.one_mul, Nat.mul_one, and_false, false_and, if_pos, if_neg, reduceIte, reduceCtorEq, not_true_eq_false, not_false_eq_true, Bool.not_true, Bool.not_false, beq_self_eq_true, Bool.or_true, Bool.true_or, Bool.or_false, Bool.false_or, Bool.and_true, Bool.true_and, Bool.and_false, Bool.false_and, String.reduceBEq, at0, at1, at2, at3, Int.cast_ofNat_Int, decide_true, decide_false, decide_eq_true_eq, decide_eq_false_iff_not, Bool.not_eq_true', Bool.not_eq_eq_eq_not, Int.reduceSub, Int.reduceNeg, Int.reduceAdd, Int.reduceMul, Int.reduceLT, Int.reduceLE, Int.reduceEq, Int.reducePow, Int.reduceToNat, sumD_map, allD_map, anyD_map, srtD_map, srtD_mapT, tupD, lstD, List.getElem?_cons_zero, List.getElem?_cons_succ, List.set_cons_zero, List.set_cons_succ, Option.some.injEq, Option.map_some, Option.map_none, Bool.false_eq_true, if_true, if_false]
        refine draw_then (h3 _ _) ga (by decide) (by decide) fun d cb d0 d1 gb => ?_
        rw [h4]
        simp only [ok_callD, ok_bind, ok_ret, ok_some, ok_none, ok_fail, ok_ifF, ok_lif, ok_var, ok_C, ok_rdim, ok_toim, ok_bin, ok_fTst, ok_fAnd, ok_fOr, ok_fNot, ok_chn, startD, outD, fThen, fSet, fAsg, fPar, fPar3, fIfS, fRet, fDrop, fEnd, fBrk, fCnt, fNotT, fAndT, fOrT, fIf, fIsi, fIsi2, fCall, fCallK, fCons, fNil, fCa, fTup, fLst, fLstM, mkM, fApp, appV, ok_putM, get_last, set_last, take_last, gAdd_int, L2.CDiv, L2.CMul, L2.CPow, fIx, ok_ixR, ok_ixI, ok_lenR, ok_callM, fNeg, fRev, fSl, slD, cut1, fON, fOS, fYes, ok_lc, ok_lcBody, ok_for, ok_newM, wipeD, ok_seqL, ok_seqT, ok_seqR, allD_mapF, anyD_mapF, sumD_mapF, List.all_map, fSeq, fRng1, fRng2, fEnum, fZip, gtName, gtSub, gtNil, gtCons, gtTup, mkT, mkL, toDs, DL.gD, gD.rds, c1, c2, ok_lenL, ok_lenT, eq_self, DL.gSub, gMul_int, take_set, ixn20, Int.toNat_natCast, ixn21, List.set_set, gFdv, gMod, gPow, gI, gI0, gLt, gLe, gGt, gGe, gIs, gIt, isN, absD, DL.intD, max2, min2, dmod, ixD_l, ixD_t, isiD, tyD, gsel, gEq_int, gNe_int, gEq_str, gNe_str, List.map_cons, List.map_nil, List.length_cons, List.length_nil, List.cons_append, List.nil_append, List.append_nil, List.replicate_succ, List.replicate_zero, Nat.reduceAdd, Nat.reduceSub, Nat.reduceLeDiff, Nat.reduceEqDiff, List.take_length, List.length_map, List.length_append, List.take_left', List.take_append_of_le_length, Nat.le_refl, Nat.zero_add, Nat.add_zero, and_true, true_and, true_or, or_true, Int.mul_one, Int.one_mul, Nat.one_mul, Nat.mul_one, and_false, false_and, if_pos, if_neg, reduceIte, reduceCtorEq, not_true_eq_false, not_false_eq_true, Bool.not_true, Bool.not_false, beq_self_eq_true, Bool.or_true, Bool.true_or, Bool.or_false, Bool.false_or, Bool.and_true, Bool.true_and, Bool.and_false, Bool.false_and, String.reduceBEq, at0, at1, at2, at3, Int.cast_ofNat_Int, decide_true, decide_false, decide_eq_true_eq, decide_eq_false_iff_not, Bool.not_eq_true', Bool.not_eq_eq_eq_not, Int.reduceSub, Int.reduceNeg, Int.reduceAdd, Int.reduceMul, Int.reduceLT, Int.reduceLE, Int.reduceEq, Int.reducePow, Int.reduceToNat, sumD_map, allD_map, anyD_map, srtD_map, srtD_mapT, tupD, lstD, List.getElem?_cons_zero, List.getElem?_cons_succ, List.set_cons_zero, List.set_cons_succ, Option.some.injEq, Option.map_some, Option.map_none, Bool.false_eq_true, if_true, if_false, ok_set rfl rfl, ok_getM (h5 _ _)]
        have ix : L2.ixN us.length (j : Int) = some j := by
          unfold L2.ixN
          rw [if_pos (by omega), if_pos (by omega)]
          rfl
        simp only [ok_callD, ok_bind, ok_ret, ok_some, ok_none, ok_fail, ok_ifF, ok_lif, ok_var, ok_C, ok_rdim, ok_toim, ok_bin, ok_fTst, ok_fAnd, ok_fOr, ok_fNot, ok_chn, startD, outD, fThen, fSet, fAsg, fPar, fPar3, fIfS, fRet, fDrop, fEnd, fBrk, fCnt, fNotT, fAndT, fOrT, fIf, fIsi, fIsi2, fCall, fCallK, fCons, fNil, fCa, fTup, fLst, fLstM, mkM, fApp, appV, ok_putM, get_last, set_last, take_last, gAdd_int, L2.CDiv, L2.CMul, L2.CPow, fIx, ok_ixR, ok_ixI, ok_lenR, ok_callM, fNeg, fRev, fSl, slD, cut1, fON, fOS, fYes, ok_lc, ok_lcBody, ok_for, ok_newM, wipeD, ok_seqL, ok_seqT, ok_seqR, allD_mapF, anyD_mapF, sumD_mapF, List.all_map, fSeq, fRng1, fRng2, fEnum, fZip, gtName, gtSub, gtNil, gtCons, gtTup, mkT, mkL, toDs, DL.gD, gD.rds, c1, c2, ok_lenL, ok_lenT, eq_self, DL.gSub, gMul_int, take_set, ixn20, Int.toNat_natCast, ixn21, List.set_set, gFdv, gMod, gPow, gI, gI0, gLt, gLe, gGt, gGe, gIs, gIt, isN, absD, DL.intD, max2, min2, dmod, ixD_l, ixD_t, isiD, tyD, gsel, gEq_int, gNe_int, gEq_str, gNe_str, List.map_cons, List.map_nil, List.length_cons, List.length_nil, List.cons_append, List.nil_append, List.append_nil, List.replicate_succ, List.replicate_zero, Nat.reduceAdd, Nat.reduceSub, Nat.reduceLeDiff, Nat.reduceEqDiff, List.take_length, List.length_map, List.length_append, List.take_left', List.take_append_of_le_length, Nat.le_refl, Nat.zero_add, Nat.add_zero, and_true, true_and, true_or, or_true, Int.mul_one, Int.one_mul, Nat.one_mul, Nat.mul_one, and_false, false_and, if_pos, if_neg, reduceIte, reduceCtorEq, not_true_eq_false, not_false_eq_true, Bool.not_true, Bool.not_false, beq_self_eq_true, Bool.or_true, Bool.true_or, Bool.or_false, Bool.false_or, Bool.and_true, Bool.true_and, Bool.and_false, Bool.false_and, String.reduceBEq, at0, at1, at2, at3, Int.cast_ofNat_Int, decide_true, decide_false, decide_eq_true_eq, decide_eq_false_iff_not, Bool.not_eq_true', Bool.not_eq_eq_eq_not, Int.reduceSub, Int.reduceNeg, Int.reduceAdd, Int.reduceMul, Int.reduceLT, Int.reduceLE, Int.reduceEq, Int.reducePow, Int.reduceToNat, sumD_map, allD_map, anyD_map, srtD_map, srtD_mapT, tupD, lstD, List.getElem?_cons_zero, List.getElem?_cons_succ, List.set_cons_zero, List.set_cons_succ, Option.some.injEq, Option.map_some, Option.map_none, Bool.false_eq_true, if_true, if_false, ix, h6]
        refine ⟨_, rfl, .inr ⟨us.set j (us[j] + d - 1), cb, _, _, _, _, _, _, _, _, _, _, rfl, by rw [List.map_set], gb, by rw [List.length_set]; exact wl, fun w hw => ?_⟩⟩
        rcases List.mem_or_eq_of_mem_set hw with hw | rfl
        · have := wb w hw; omega
        · have := wb us[j] (List.getElem_mem _); omega
  · simp only [ok_callD, ok_bind, ok_ret, ok_some, ok_none, ok_fail, ok_ifF, ok_lif, ok_var, ok_C, ok_rdim, ok_toim, ok_bin, ok_fTst, ok_fAnd, ok_fOr, ok_fNot, ok_chn, startD, outD, fThen, fSet, fAsg, fPar, fPar3, fIfS, fRet, fDrop, fEnd, fBrk, fCnt, fNotT, fAndT, fOrT, fIf, fIsi, fIsi2, fCall, fCallK, fCons, fNil, fCa, fTup, fLst, fLstM, mkM, fApp, appV, ok_putM, get_last, set_last, take_last, gAdd_int, L2.CDiv, L2.CMul, L2.CPow, fIx, ok_ixR, ok_ixI, ok_lenR, ok_callM, fNeg, fRev, fSl, slD, cut1, fON, fOS, fYes, ok_lc, ok_lcBody, ok_for, ok_newM, wipeD, ok_seqL, ok_seqT, ok_seqR, allD_mapF, anyD_mapF, sumD_mapF, List.all_map, fSeq, fRng1, fRng2, fEnum, fZip, gtName, gtSub, gtNil, gtCons, gtTup, mkT, mkL, toDs, DL.gD, gD.rds, c1, c2, ok_lenL, ok_lenT, eq_self, DL.gSub, gMul_int, take_set, ixn20, Int.toNat_natCast, ixn21, List.set_set, gFdv, gMod, gPow, gI, gI0, gLt, gLe, gGt, gGe, gIs, gIt, isN, absD, DL.intD, max2, min2, dmod, ixD_l, ixD_t, isiD, tyD, gsel, gEq_int, gNe_int, gEq_str, gNe_str, List.map_cons, List.map_nil, List.length_cons, List.length_nil, List.cons_append, List.nil_append, List.append_nil, List.replicate_succ, List.replicate_zero, Nat.reduceAdd, Nat.reduceSub, Nat.reduceLeDiff, Nat.reduceEqDiff, List.take_length, List.length_map, List.length_append, List.take_left', List.take_append_of_le_length, Nat.le_refl, Nat.zero_add, Nat.add_zero, and_true, true_and, true_or, or_true, Int.mul_one, Int.one_mul, Nat.one_mul, Nat.mul_one, and_false, false_and, if_pos, if_neg, reduceIte, reduceCtorEq, not_true_eq_false, not_false_eq_true, Bool.not_true, Bool.not_false, beq_self_eq_true, Bool.or_true, Bool.true_or, Bool.or_false, Bool.false_or, Bool.and_true, Bool.true_and, Bool.and_false, Bool.false_and, String.reduceBEq, at0, at1, at2, at3, Int.cast_ofNat_Int, decide_true, decide_false, decide_eq_true_eq, decide_eq_false_iff_not, Bool.not_eq_true', Bool.not_eq_eq_eq_not, Int.reduceSub, Int.reduceNeg, Int.reduceAdd, Int.reduceMul, Int.reduceLT, Int.reduceLE, Int.reduceEq, Int.reducePow, Int.reduceToNat, sumD_map, allD_map, anyD_map, srtD_map, srtD_mapT, tupD, lstD, List.getElem?_cons_zero, List.getElem?_cons_succ, List.set_cons_zero, List.set_cons_succ, Option.some.injEq, Option.map_some, Option.map_none, Bool.false_eq_true, if_true, if_false, tenv, hy]
    exact ⟨_, rfl, .inl h0⟩
theorem ok_tomu {i : Nat} {xs : List PyData} {st : Sto} {Q : PyData → Sto → Prop} (h : st[i]? = some (true, xs)) : Ok (toD (.mu i)) st Q ↔ Q (.list xs) (st.set i (false, xs)) := ok_eq (by simp only [toD, h])
theorem table_drawn {st : Sto} {i : Nat} {c : Cell} (h : st[i]? = some c) (g : GoodC c) {Q : DV → Sto → Prop} (k : ∀ m ws c', Tab m ws → GoodC c' → Q (.im (tabD true m ws)) (st.set i c')) : Ok (f__law_table [.mu i, .im (.int 5)]) st Q := by
  have hi : i < st.length := (List.getElem?_eq_some_iff.mp h).1
  have h2 : ∀ c : Cell, (st.set i c)[i]? = some c := fun c => List.getElem?_set_self hi
  unfold f__law_table b__law_table
  simp only [ok_callD, ok_bind, ok_ret, ok_some, ok_none, ok_fail, ok_ifF, ok_lif, ok_var, ok_C, ok_rdim, ok_toim, ok_bin, ok_fTst, ok_fAnd, ok_fOr, ok_fNot, ok_chn, startD, outD, fThen, fSet, fAsg, fPar, fPar3, fIfS, fRet, fDrop, fEnd, fBrk, fCnt, fNotT, fAndT, fOrT, fIf, fIsi, fIsi2, fCall, fCallK, fCons, fNil, fCa, fTup, fLst, fLstM, mkM, fApp, appV, ok_putM, get_last, set_last, take_last, gAdd_int, L2.CDiv, L2.CMul, L2.CPow, fIx, ok_ixR, ok_ixI, ok_lenR, ok_callM, fNeg, fRev, fSl, slD, cut1, fON, fOS, fYes, ok_lc, ok_lcBody, ok_for, ok_newM, wipeD, ok_seqL, ok_seqT, ok_seqR, allD_mapF, anyD_mapF, sumD_mapF, List.all_map, fSeq, fRng1, fRng2, fEnum, fZip, gtName, gtSub, gtNil, gtCons, gtTup, mkT, mkL, toDs, DL.gD, gD.rds, c1, c2, ok_lenL, ok_lenT, eq_self, DL.gSub, gMul_int, take_set, ixn20, Int.toNat_natCast, ixn21, List.set_set, gFdv, gMod, gPow, gI, gI0, gLt, gLe, gGt, gGe, gIs, gIt, isN, absD, DL.intD, max2, min2, dmod, ixD_l, ixD_t, isiD, tyD, gsel, gEq_int, gNe_int, gEq_str, gNe_str, List.map_cons, List.map_nil, List.length_cons, List.length_nil, List.cons_append, List.nil_append, List.append_nil, List.replicate_succ, List.replicate_zero, Nat.reduceAdd, Nat.reduceSub, Nat.reduceLeDiff, Nat.reduceEqDiff, List.take_length, List.length_map, List.length_append, List.take_left', List.take_append_of_le_length, Nat.le_refl, Nat.zero_add, Nat.add_zero, and_true, true_and, true_or, or_true, Int.mul_one, Int.one_mul, Nat.one_mul, Nat.mul_one, and_false, false_and, if_pos, if_neg, reduceIte, reduceCtorEq, not_true_eq_false, not_false_eq_true, Bool.not_true, Bool.not_false, beq_self_eq_true, Bool.or_true, Bool.true_or, Bool.or_false, Bool.false_or, Bool.and_true, Bool.true_and, Bool.and_false, Bool.false_and, String.reduceBEq, at0, at1, at2, at3, Int.cast_ofNat_Int, decide_true, decide_false, decide_eq_true_eq, decide_eq_false_iff_not, Bool.not_eq_true', Bool.not_eq_eq_eq_not, Int.reduceSub, Int.reduceNeg, Int.reduceAdd, Int.reduceMul, Int.reduceLT, Int.reduceLE, Int.reduceEq, Int.reducePow, Int.reduceToNat, sumD_map, allD_map, anyD_map, srtD_map, srtD_mapT, tupD, lstD, List.getElem?_cons_zero, List.getElem?_cons_succ, List.set_cons_zero, List.set_cons_succ, Option.some.injEq, Option.map_some, Option.map_none, Bool.false_eq_true, if_true, if_false]
  refine draw_then h g (by decide) (by decide) fun d ca d0 d1 ga => ?_
  obtain ⟨m, rfl⟩ : ∃ m : Nat, d = (m : Int) := ⟨d.toNat, by omega⟩
  simp only [ok_callD, ok_bind, ok_ret, ok_some, ok_none, ok_fail, ok_ifF, ok_lif, ok_var, ok_C, ok_rdim, ok_toim, ok_bin, ok_fTst, ok_fAnd, ok_fOr, ok_fNot, ok_chn, startD, outD, fThen, fSet, fAsg, fPar, fPar3, fIfS, fRet, fDrop, fEnd, fBrk, fCnt, fNotT, fAndT, fOrT, fIf, fIsi, fIsi2, fCall, fCallK, fCons, fNil, fCa, fTup, fLst, fLstM, mkM, fApp, appV, ok_putM, get_last, set_last, take_last, gAdd_int, L2.CDiv, L2.CMul, L2.CPow, fIx, ok_ixR, ok_ixI, ok_lenR, ok_callM, fNeg, fRev, fSl, slD, cut1, fON, fOS, fYes, ok_lc, ok_lcBody, ok_for, ok_newM, wipeD, ok_seqL, ok_seqT, ok_seqR, allD_mapF, anyD_mapF, sumD_mapF, List.all_map, fSeq, fRng1, fRng2, fEnum, fZip, gtName, gtSub, gtNil, gtCons, gtTup, mkT, mkL, toDs, DL.gD, gD.rds, c1, c2, ok_lenL, ok_lenT, eq_self, DL.gSub, gMul_int, take_set, ixn20, Int.toNat_natCast, ixn21, List.set_set, gFdv, gMod, gPow, gI, gI0, gLt, gLe, gGt, gGe, gIs, gIt, isN, absD, DL.intD, max2, min2, dmod, ixD_l, ixD_t, isiD, tyD, gsel, gEq_int, gNe_int, gEq_str, gNe_str, List.map_cons, List.map_nil, List.length_cons, List.length_nil, List.cons_append, List.nil_append, List.append_nil, List.replicate_succ, List.replicate_zero, Nat.reduceAdd, Nat.reduceSub, Nat.reduceLeDiff, Nat.reduceEqDiff, List.take_length, List.length_map, List.length_append, List.take_left', List.take_append_of_le_length, Nat.le_refl, Nat.zero_add, Nat.add_zero, and_true, true_and, true_or, or_true, Int.mul_one, Int.one_mul, Nat.one_mul, Nat.mul_one, and_false, false_and, if_pos, if_neg, reduceIte, reduceCtorEq, not_true_eq_false, not_false_eq_true, Bool.not_true, Bool.not_false, beq_self_eq_true, Bool.or_true, Bool.true_or, Bool.or_false, Bool.false_or, Bool.and_true, Bool.true_and, Bool.and_false, Bool.false_and, String.reduceBEq, at0, at1, at2, at3, Int.cast_ofNat_Int, decide_true, decide_false, decide_eq_true_eq, decide_eq_false_iff_not, Bool.not_eq_true', Bool.not_eq_eq_eq_not, Int.reduceSub, Int.reduceNeg, Int.reduceAdd, Int.reduceMul, Int.reduceLT, Int.reduceLE, Int.reduceEq, Int.reducePow, Int.reduceToNat, sumD_map, allD_map, anyD_map, srtD_map, srtD_mapT, tupD, lstD, List.getElem?_cons_zero, List.getElem?_cons_succ, List.set_cons_zero, List.set_cons_succ, Option.some.injEq, Option.map_some, Option.map_none, Bool.false_eq_true, if_true, if_false]
  refine draw_then (h2 _) ga (by decide) (by decide) fun way cb w0 w1 gb => ?_
  have hm5 : m + 1 ≤ 5 := by omega
  have hm1 : 1 ≤ m + 1 := by omega
  have em : (1 : Int) + (m : Int) = ((m + 1 : Nat) : Int) := by omega
  simp only [ok_callD, ok_bind, ok_ret, ok_some, ok_none, ok_fail, ok_ifF, ok_lif, ok_var, ok_C, ok_rdim, ok_toim, ok_bin, ok_fTst, ok_fAnd, ok_fOr, ok_fNot, ok_chn, startD, outD, fThen, fSet, fAsg, fPar, fPar3, fIfS, fRet, fDrop, fEnd, fBrk, fCnt, fNotT, fAndT, fOrT, fIf, fIsi, fIsi2, fCall, fCallK, fCons, fNil, fCa, fTup, fLst, fLstM, mkM, fApp, appV, ok_putM, get_last, set_last, take_last, gAdd_int, L2.CDiv, L2.CMul, L2.CPow, fIx, ok_ixR, ok_ixI, ok_lenR, ok_callM, fNeg, fRev, fSl, slD, cut1, fON, fOS, fYes, ok_lc, ok_lcBody, ok_for, ok_newM, wipeD, ok_seqL, ok_seqT, ok_seqR, allD_mapF, anyD_mapF, sumD_mapF, List.all_map, fSeq, fRng1, fRng2, fEnum, fZip, gtName, gtSub, gtNil, gtCons, gtTup, mkT, mkL, toDs, DL.gD, gD.rds, c1, c2, ok_lenL, ok_lenT, eq_self, DL.gSub, gMul_int, take_set, ixn20, Int.toNat_natCast, ixn21, List.set_set, gFdv, gMod, gPow, gI, gI0, gLt, gLe, gGt, gGe, gIs, gIt, isN, absD, DL.intD, max2, min2, dmod, ixD_l, ixD_t, isiD, tyD, gsel, gEq_int, gNe_int, gEq_str, gNe_str, List.map_cons, List.map_nil, List.length_cons, List.length_nil, List.cons_append, List.nil_append, List.append_nil, List.replicate_succ, List.replicate_zero, Nat.reduceAdd, Nat.reduceSub, Nat.reduceLeDiff, Nat.reduceEqDiff, List.take_length, List.length_map, List.length_append, List.take_left', List.take_append_of_le_length, Nat.le_refl, Nat.zero_add, Nat.add_zero, and_true, true_and, true_or, or_true, Int.mul_one, Int.one_mul, Nat.one_mul, Nat.mul_one, and_false, false_and, if_pos, if_neg, reduceIte, reduceCtorEq, not_true_eq_false, not_false_eq_true, Bool.not_true, Bool.not_false, beq_self_eq_true, Bool.or_true, Bool.true_or, Bool.or_false, Bool.false_or, Bool.and_true, Bool.true_and, Bool.and_false, Bool.false_and, String.reduceBEq, at0, at1, at2, at3, Int.cast_ofNat_Int, decide_true, decide_false, decide_eq_true_eq, decide_eq_false_iff_not, Bool.not_eq_true', Bool.not_eq_eq_eq_not, Int.reduceSub, Int.reduceNeg, Int.reduceAdd, Int.reduceMul, Int.reduceLT, Int.reduceLE, Int.reduceEq, Int.reducePow, Int.reduceToNat, sumD_map, allD_map, anyD_map, srtD_map, srtD_mapT, tupD, lstD, List.getElem?_cons_zero, List.getElem?_cons_succ, List.set_cons_zero, List.set_cons_succ, Option.some.injEq, Option.map_some, Option.map_none, Bool.false_eq_true, if_true, if_false, em, lots_ok hm5]
  refine pick_then (h2 _) gb (by decide) (by decide) fun far hfar cd gd => ?_
  obtain ⟨f, rfl, hf⟩ : ∃ f : Int, far = .int f ∧ (f = 2 ∨ f = 5) := by
    rcases List.mem_cons.mp hfar with e | hfar
    · exact ⟨2, e, .inl rfl⟩
    · rcases List.mem_cons.mp hfar with e | hfar
      · exact ⟨5, e, .inr rfl⟩
      · cases hfar
  generalize m + 1 = n at *
  simp only [ok_callD, ok_bind, ok_ret, ok_some, ok_none, ok_fail, ok_ifF, ok_lif, ok_var, ok_C, ok_rdim, ok_toim, ok_bin, ok_fTst, ok_fAnd, ok_fOr, ok_fNot, ok_chn, startD, outD, fThen, fSet, fAsg, fPar, fPar3, fIfS, fRet, fDrop, fEnd, fBrk, fCnt, fNotT, fAndT, fOrT, fIf, fIsi, fIsi2, fCall, fCallK, fCons, fNil, fCa, fTup, fLst, fLstM, mkM, fApp, appV, ok_putM, get_last, set_last, take_last, gAdd_int, L2.CDiv, L2.CMul, L2.CPow, fIx, ok_ixR, ok_ixI, ok_lenR, ok_callM, fNeg, fRev, fSl, slD, cut1, fON, fOS, fYes, ok_lc, ok_lcBody, ok_for, ok_newM, wipeD, ok_seqL, ok_seqT, ok_seqR, allD_mapF, anyD_mapF, sumD_mapF, List.all_map, fSeq, fRng1, fRng2, fEnum, fZip, gtName, gtSub, gtNil, gtCons, gtTup, mkT, mkL, toDs, DL.gD, gD.rds, c1, c2, ok_lenL, ok_lenT, eq_self, DL.gSub, gMul_int, take_set, ixn20, Int.toNat_natCast, ixn21, List.set_set, gFdv, gMod, gPow, gI, gI0, gLt, gLe, gGt, gGe, gIs, gIt, isN, absD, DL.intD, max2, min2, dmod, ixD_l, ixD_t, isiD, tyD, gsel, gEq_int, gNe_int, gEq_str, gNe_str, List.map_cons, List.map_nil, List.length_cons, List.length_nil, List.cons_append, List.nil_append, List.append_nil, List.replicate_succ, List.replicate_zero, Nat.reduceAdd, Nat.reduceSub, Nat.reduceLeDiff, Nat.reduceEqDiff, List.take_length, List.length_map, List.length_append, List.take_left', List.take_append_of_le_length, Nat.le_refl, Nat.zero_add, Nat.add_zero, and_true, true_and, true_or, or_true, Int.mul_one, Int.one_mul, Nat.one_mul, Nat.mul_one, and_false, false_and, if_pos, if_neg, reduceIte, reduceCtorEq, not_true_eq_false, not_false_eq_true, Bool.not_true, Bool.not_false, beq_self_eq_true, Bool.or_true, Bool.true_or, Bool.or_false, Bool.false_or, Bool.and_true, Bool.true_and, Bool.and_false, Bool.false_and, String.reduceBEq, at0, at1, at2, at3, Int.cast_ofNat_Int, decide_true, decide_false, decide_eq_true_eq, decide_eq_false_iff_not, Bool.not_eq_true', Bool.not_eq_eq_eq_not, Int.reduceSub, Int.reduceNeg, Int.reduceAdd, Int.reduceMul, Int.reduceLT, Int.reduceLE, Int.reduceEq, Int.reducePow, Int.reduceToNat, sumD_map, allD_map, anyD_map, srtD_map, srtD_mapT, tupD, lstD, List.getElem?_cons_zero, List.getElem?_cons_succ, List.set_cons_zero, List.set_cons_succ, Option.some.injEq, Option.map_some, Option.map_none, Bool.false_eq_true, if_true, if_false, lotsD]
  refine ok_mono (lc_all PyData.int (Js st i) (fun x => -5 ≤ x ∧ x ≤ 5) ((lots n).map lotD) (fun d hd s hj => ?_) _ ⟨cd, rfl, gd⟩) ?_
  · obtain ⟨cc, rfl, gg⟩ := hj
    simp only [ok_callD, ok_bind, ok_ret, ok_some, ok_none, ok_fail, ok_ifF, ok_lif, ok_var, ok_C, ok_rdim, ok_toim, ok_bin, ok_fTst, ok_fAnd, ok_fOr, ok_fNot, ok_chn, startD, outD, fThen, fSet, fAsg, fPar, fPar3, fIfS, fRet, fDrop, fEnd, fBrk, fCnt, fNotT, fAndT, fOrT, fIf, fIsi, fIsi2, fCall, fCallK, fCons, fNil, fCa, fTup, fLst, fLstM, mkM, fApp, appV, ok_putM, get_last, set_last, take_last, gAdd_int, L2.CDiv, L2.CMul, L2.CPow, fIx, ok_ixR, ok_ixI, ok_lenR, ok_callM, fNeg, fRev, fSl, slD, cut1, fON, fOS, fYes, ok_lc, ok_lcBody, ok_for, ok_newM, wipeD, ok_seqL, ok_seqT, ok_seqR, allD_mapF, anyD_mapF, sumD_mapF, List.all_map, fSeq, fRng1, fRng2, fEnum, fZip, gtName, gtSub, gtNil, gtCons, gtTup, mkT, mkL, toDs, DL.gD, gD.rds, c1, c2, ok_lenL, ok_lenT, eq_self, DL.gSub, gMul_int, take_set, ixn20, Int.toNat_natCast, ixn21, List.set_set, gFdv, gMod, gPow, gI, gI0, gLt, gLe, gGt, gGe, gIs, gIt, isN, absD, DL.intD, max2, min2, dmod, ixD_l, ixD_t, isiD, tyD, gsel, gEq_int, gNe_int, gEq_str, gNe_str, List.map_cons, List.map_nil, List.length_cons, List.length_nil, List.cons_append, List.nil_append, List.append_nil, List.replicate_succ, List.replicate_zero, Nat.reduceAdd, Nat.reduceSub, Nat.reduceLeDiff, Nat.reduceEqDiff, List.take_length, List.length_map, List.length_append, List.take_left', List.take_append_of_le_length, Nat.le_refl, Nat.zero_add, Nat.add_zero, and_true, true_and, true_or, or_true, Int.mul_one, Int.one_mul, Nat.one_mul, Nat.mul_one, and_false, false_and, if_pos, if_neg, reduceIte, reduceCtorEq, not_true_eq_false, not_false_eq_true, Bool.not_true, Bool.not_false, beq_self_eq_true, Bool.or_true, Bool.true_or, Bool.or_false, Bool.false_or, Bool.and_true, Bool.true_and, Bool.and_false, Bool.false_and, String.reduceBEq, at0, at1, at2, at3, Int.cast_ofNat_Int, decide_true, decide_false, decide_eq_true_eq, decide_eq_false_iff_not, Bool.not_eq_true', Bool.not_eq_eq_eq_not, Int.reduceSub, Int.reduceNeg, Int.reduceAdd, Int.reduceMul, Int.reduceLT, Int.reduceLE, Int.reduceEq, Int.reducePow, Int.reduceToNat, sumD_map, allD_map, anyD_map, srtD_map, srtD_mapT, tupD, lstD, List.getElem?_cons_zero, List.getElem?_cons_succ, List.set_cons_zero, List.set_cons_succ, Option.some.injEq, Option.map_some, Option.map_none, Bool.false_eq_true, if_true, if_false]
    refine draw_then (h2 _) gg (by omega) (by omega) fun d cd d0 d1 gd => ?_
    simp only [ok_callD, ok_bind, ok_ret, ok_some, ok_none, ok_fail, ok_ifF, ok_lif, ok_var, ok_C, ok_rdim, ok_toim, ok_bin, ok_fTst, ok_fAnd, ok_fOr, ok_fNot, ok_chn, startD, outD, fThen, fSet, fAsg, fPar, fPar3, fIfS, fRet, fDrop, fEnd, fBrk, fCnt, fNotT, fAndT, fOrT, fIf, fIsi, fIsi2, fCall, fCallK, fCons, fNil, fCa, fTup, fLst, fLstM, mkM, fApp, appV, ok_putM, get_last, set_last, take_last, gAdd_int, L2.CDiv, L2.CMul, L2.CPow, fIx, ok_ixR, ok_ixI, ok_lenR, ok_callM, fNeg, fRev, fSl, slD, cut1, fON, fOS, fYes, ok_lc, ok_lcBody, ok_for, ok_newM, wipeD, ok_seqL, ok_seqT, ok_seqR, allD_mapF, anyD_mapF, sumD_mapF, List.all_map, fSeq, fRng1, fRng2, fEnum, fZip, gtName, gtSub, gtNil, gtCons, gtTup, mkT, mkL, toDs, DL.gD, gD.rds, c1, c2, ok_lenL, ok_lenT, eq_self, DL.gSub, gMul_int, take_set, ixn20, Int.toNat_natCast, ixn21, List.set_set, gFdv, gMod, gPow, gI, gI0, gLt, gLe, gGt, gGe, gIs, gIt, isN, absD, DL.intD, max2, min2, dmod, ixD_l, ixD_t, isiD, tyD, gsel, gEq_int, gNe_int, gEq_str, gNe_str, List.map_cons, List.map_nil, List.length_cons, List.length_nil, List.cons_append, List.nil_append, List.append_nil, List.replicate_succ, List.replicate_zero, Nat.reduceAdd, Nat.reduceSub, Nat.reduceLeDiff, Nat.reduceEqDiff, List.take_length, List.length_map, List.length_append, List.take_left', List.take_append_of_le_length, Nat.le_refl, Nat.zero_add, Nat.add_zero, and_true, true_and, true_or, or_true, Int.mul_one, Int.one_mul, Nat.one_mul, Nat.mul_one, and_false, false_and, if_pos, if_neg, reduceIte, reduceCtorEq, not_true_eq_false, not_false_eq_true, Bool.not_true, Bool.not_false, beq_self_eq_true, Bool.or_true, Bool.true_or, Bool.or_false, Bool.false_or, Bool.and_true, Bool.true_and, Bool.and_false, Bool.false_and, String.reduceBEq, at0, at1, at2, at3, Int.cast_ofNat_Int, decide_true, decide_false, decide_eq_true_eq, decide_eq_false_iff_not, Bool.not_eq_true', Bool.not_eq_eq_eq_not, Int.reduceSub, Int.reduceNeg, Int.reduceAdd, Int.reduceMul, Int.reduceLT, Int.reduceLE, Int.reduceEq, Int.reducePow, Int.reduceToNat, sumD_map, allD_map, anyD_map, srtD_map, srtD_mapT, tupD, lstD, List.getElem?_cons_zero, List.getElem?_cons_succ, List.set_cons_zero, List.set_cons_succ, Option.some.injEq, Option.map_some, Option.map_none, Bool.false_eq_true, if_true, if_false]
    exact ⟨d - f, rfl, by omega, cd, rfl, gd⟩
  · rintro xs s ⟨ws, rfl, hl, hw, cc, rfl, gc⟩
    have hl2 : ws.length = 2 ^ n := by rw [hl, List.length_map, lots_len]
    have hz := pow_small hm5
    have hl3 : ws.length ≤ 1000 := by omega
    simp only [ok_callD, ok_bind, ok_ret, ok_some, ok_none, ok_fail, ok_ifF, ok_lif, ok_var, ok_C, ok_rdim, ok_toim, ok_bin, ok_fTst, ok_fAnd, ok_fOr, ok_fNot, ok_chn, startD, outD, fThen, fSet, fAsg, fPar, fPar3, fIfS, fRet, fDrop, fEnd, fBrk, fCnt, fNotT, fAndT, fOrT, fIf, fIsi, fIsi2, fCall, fCallK, fCons, fNil, fCa, fTup, fLst, fLstM, mkM, fApp, appV, ok_putM, get_last, set_last, take_last, gAdd_int, L2.CDiv, L2.CMul, L2.CPow, fIx, ok_ixR, ok_ixI, ok_lenR, ok_callM, fNeg, fRev, fSl, slD, cut1, fON, fOS, fYes, ok_lc, ok_lcBody, ok_for, ok_newM, wipeD, ok_seqL, ok_seqT, ok_seqR, allD_mapF, anyD_mapF, sumD_mapF, List.all_map, fSeq, fRng1, fRng2, fEnum, fZip, gtName, gtSub, gtNil, gtCons, gtTup, mkT, mkL, toDs, DL.gD, gD.rds, c1, c2, ok_lenL, ok_lenT, eq_self, DL.gSub, gMul_int, take_set, ixn20, Int.toNat_natCast, ixn21, List.set_set, gFdv, gMod, gPow, gI, gI0, gLt, gLe, gGt, gGe, gIs, gIt, isN, absD, DL.intD, max2, min2, dmod, ixD_l, ixD_t, isiD, tyD, gsel, gEq_int, gNe_int, gEq_str, gNe_str, List.map_cons, List.map_nil, List.length_cons, List.length_nil, List.cons_append, List.nil_append, List.append_nil, List.replicate_succ, List.replicate_zero, Nat.reduceAdd, Nat.reduceSub, Nat.reduceLeDiff, Nat.reduceEqDiff, List.take_length, List.length_map, List.length_append, List.take_left', List.take_append_of_le_length, Nat.le_refl, Nat.zero_add, Nat.add_zero, and_true, true_and, true_or, or_true, Int.mul_one, Int.one_mul, Nat.one_mul, Nat.mul_one, and_false, false_and, if_pos, if_neg, reduceIte, reduceCtorEq, not_true_eq_false, not_false_eq_true, Bool.not_true, Bool.not_false, beq_self_eq_true, Bool.or_true, Bool.true_or, Bool.or_false, Bool.false_or, Bool.and_true, Bool.true_and, Bool.and_false, Bool.false_and, String.reduceBEq, at0, at1, at2, at3, Int.cast_ofNat_Int, decide_true, decide_false, decide_eq_true_eq, decide_eq_false_iff_not, Bool.not_eq_true', Bool.not_eq_eq_eq_not, Int.reduceSub, Int.reduceNeg, Int.reduceAdd, Int.reduceMul, Int.reduceLT, Int.reduceLE, Int.reduceEq, Int.reducePow, Int.reduceToNat, sumD_map, allD_map, anyD_map, srtD_map, srtD_mapT, tupD, lstD, List.getElem?_cons_zero, List.getElem?_cons_succ, List.set_cons_zero, List.set_cons_succ, Option.some.injEq, Option.map_some, Option.map_none, Bool.false_eq_true, if_true, if_false, hl3]
    have t0 : TS st i n way f 16 (tenv i n way f (.im (.list (ws.map .int))) none none none none none none none none none none) (st.set i cc) :=
      ⟨ws, cc, _, _, _, _, _, _, _, _, _, _, rfl, rfl, gc, hl2, fun w h => by have := hw w h; omega⟩
    have tb : ∀ {us : List Int}, Ws (2 ^ n) 63 us → Tab n us := fun {us} hu => ⟨hm1, hm5, hu.len, fun w h => by have := hu.bd w h; omega⟩
    refine ok_mono (table_3 hm5 hi t0) ?_
    rintro o s ⟨e, rfl, t3⟩
    simp only [ok_callD, ok_bind, ok_ret, ok_some, ok_none, ok_fail, ok_ifF, ok_lif, ok_var, ok_C, ok_rdim, ok_toim, ok_bin, ok_fTst, ok_fAnd, ok_fOr, ok_fNot, ok_chn, startD, outD, fThen, fSet, fAsg, fPar, fPar3, fIfS, fRet, fDrop, fEnd, fBrk, fCnt, fNotT, fAndT, fOrT, fIf, fIsi, fIsi2, fCall, fCallK, fCons, fNil, fCa, fTup, fLst, fLstM, mkM, fApp, appV, ok_putM, get_last, set_last, take_last, gAdd_int, L2.CDiv, L2.CMul, L2.CPow, fIx, ok_ixR, ok_ixI, ok_lenR, ok_callM, fNeg, fRev, fSl, slD, cut1, fON, fOS, fYes, ok_lc, ok_lcBody, ok_for, ok_newM, wipeD, ok_seqL, ok_seqT, ok_seqR, allD_mapF, anyD_mapF, sumD_mapF, List.all_map, fSeq, fRng1, fRng2, fEnum, fZip, gtName, gtSub, gtNil, gtCons, gtTup, mkT, mkL, toDs, DL.gD, gD.rds, c1, c2, ok_lenL, ok_lenT, eq_self, DL.gSub, gMul_int, take_set, ixn20, Int.toNat_natCast, ixn21, List.set_set, gFdv, gMod, gPow, gI, gI0, gLt, gLe, gGt, gGe, gIs, gIt, isN, absD, DL.intD, max2, min2, dmod, ixD_l, ixD_t, isiD, tyD, gsel, gEq_int, gNe_int, gEq_str, gNe_str, List.map_cons, List.map_nil, List.length_cons, List.length_nil, List.cons_append, List.nil_append, List.append_nil, List.replicate_succ, List.replicate_zero, Nat.reduceAdd, Nat.reduceSub, Nat.reduceLeDiff, Nat.reduceEqDiff, List.take_length, List.length_map, List.length_append, List.take_left', List.take_append_of_le_length, Nat.le_refl, Nat.zero_add, Nat.add_zero, and_true, true_and, true_or, or_true, Int.mul_one, Int.one_mul, Nat.one_mul, Nat.mul_one, and_false, false_and, if_pos, if_neg, reduceIte, reduceCtorEq, not_true_eq_false, not_false_eq_true, Bool.not_true, Bool.not_false, beq_self_eq_true, Bool.or_true, Bool.true_or, Bool.or_false, Bool.false_or, Bool.and_true, Bool.true_and, Bool.and_false, Bool.false_and, String.reduceBEq, at0, at1, at2, at3, Int.cast_ofNat_Int, decide_true, decide_false, decide_eq_true_eq, decide_eq_false_iff_not, Bool.not_eq_true', Bool.not_eq_eq_eq_not, Int.reduceSub, Int.reduceNeg, Int.reduceAdd, Int.reduceMul, Int.reduceLT, Int.reduceLE, Int.reduceEq, Int.reducePow, Int.reduceToNat, sumD_map, allD_map, anyD_map, srtD_map, srtD_mapT, tupD, lstD, List.getElem?_cons_zero, List.getElem?_cons_succ, List.set_cons_zero, List.set_cons_succ, Option.some.injEq, Option.map_some, Option.map_none, Bool.false_eq_true, if_true, if_false]
    refine ok_mono (table_4 hm5 hi t3) ?_
    rintro o s ⟨e, rfl, t4⟩
    simp only [ok_callD, ok_bind, ok_ret, ok_some, ok_none, ok_fail, ok_ifF, ok_lif, ok_var, ok_C, ok_rdim, ok_toim, ok_bin, ok_fTst, ok_fAnd, ok_fOr, ok_fNot, ok_chn, startD, outD, fThen, fSet, fAsg, fPar, fPar3, fIfS, fRet, fDrop, fEnd, fBrk, fCnt, fNotT, fAndT, fOrT, fIf, fIsi, fIsi2, fCall, fCallK, fCons, fNil, fCa, fTup, fLst, fLstM, mkM, fApp, appV, ok_putM, get_last, set_last, take_last, gAdd_int, L2.CDiv, L2.CMul, L2.CPow, fIx, ok_ixR, ok_ixI, ok_lenR, ok_callM, fNeg, fRev, fSl, slD, cut1, fON, fOS, fYes, ok_lc, ok_lcBody, ok_for, ok_newM, wipeD, ok_seqL, ok_seqT, ok_seqR, allD_mapF, anyD_mapF, sumD_mapF, List.all_map, fSeq, fRng1, fRng2, fEnum, fZip, gtName, gtSub, gtNil, gtCons, gtTup, mkT, mkL, toDs, DL.gD, gD.rds, c1, c2, ok_lenL, ok_lenT, eq_self, DL.gSub, gMul_int, take_set, ixn20, Int.toNat_natCast, ixn21, List.set_set, gFdv, gMod, gPow, gI, gI0, gLt, gLe, gGt, gGe, gIs, gIt, isN, absD, DL.intD, max2, min2, dmod, ixD_l, ixD_t, isiD, tyD, gsel, gEq_int, gNe_int, gEq_str, gNe_str, List.map_cons, List.map_nil, List.length_cons, List.length_nil, List.cons_append, List.nil_append, List.append_nil, List.replicate_succ, List.replicate_zero, Nat.reduceAdd, Nat.reduceSub, Nat.reduceLeDiff, Nat.reduceEqDiff, List.take_length, List.length_map, List.length_append, List.take_left', List.take_append_of_le_length, Nat.le_refl, Nat.zero_add, Nat.add_zero, and_true, true_and, true_or, or_true, Int.mul_one, Int.one_mul, Nat.one_mul, Nat.mul_one, and_false, false_and, if_pos, if_neg, reduceIte, reduceCtorEq, not_true_eq_false, not_false_eq_true, Bool.not_true, Bool.not_false, beq_self_eq_true, Bool.or_true, Bool.true_or, Bool.or_false, Bool.false_or, Bool.and_true, Bool.true_and, Bool.and_false, Bool.false_and, String.reduceBEq, at0, at1, at2, at3, Int.cast_ofNat_Int, decide_true, decide_false, decide_eq_true_eq, decide_eq_false_iff_not, Bool.not_eq_true', Bool.not_eq_eq_eq_not, Int.reduceSub, Int.reduceNeg, Int.reduceAdd, Int.reduceMul, Int.reduceLT, Int.reduceLE, Int.reduceEq, Int.reducePow, Int.reduceToNat, sumD_map, allD_map, anyD_map, srtD_map, srtD_mapT, tupD, lstD, List.getElem?_cons_zero, List.getElem?_cons_succ, List.set_cons_zero, List.set_cons_succ, Option.some.injEq, Option.map_some, Option.map_none, Bool.false_eq_true, if_true, if_false]
    refine ok_mono (table_5 hm5 hi t4) ?_
    rintro o s ⟨e, rfl, t5⟩
    simp only [ok_callD, ok_bind, ok_ret, ok_some, ok_none, ok_fail, ok_ifF, ok_lif, ok_var, ok_C, ok_rdim, ok_toim, ok_bin, ok_fTst, ok_fAnd, ok_fOr, ok_fNot, ok_chn, startD, outD, fThen, fSet, fAsg, fPar, fPar3, fIfS, fRet, fDrop, fEnd, fBrk, fCnt, fNotT, fAndT, fOrT, fIf, fIsi, fIsi2, fCall, fCallK, fCons, fNil, fCa, fTup, fLst, fLstM, mkM, fApp, appV, ok_putM, get_last, set_last, take_last, gAdd_int, L2.CDiv, L2.CMul, L2.CPow, fIx, ok_ixR, ok_ixI, ok_lenR, ok_callM, fNeg, fRev, fSl, slD, cut1, fON, fOS, fYes, ok_lc, ok_lcBody, ok_for, ok_newM, wipeD, ok_seqL, ok_seqT, ok_seqR, allD_mapF, anyD_mapF, sumD_mapF, List.all_map, fSeq, fRng1, fRng2, fEnum, fZip, gtName, gtSub, gtNil, gtCons, gtTup, mkT, mkL, toDs, DL.gD, gD.rds, c1, c2, ok_lenL, ok_lenT, eq_self, DL.gSub, gMul_int, take_set, ixn20, Int.toNat_natCast, ixn21, List.set_set, gFdv, gMod, gPow, gI, gI0, gLt, gLe, gGt, gGe, gIs, gIt, isN, absD, DL.intD, max2, min2, dmod, ixD_l, ixD_t, isiD, tyD, gsel, gEq_int, gNe_int, gEq_str, gNe_str, List.map_cons, List.map_nil, List.length_cons, List.length_nil, List.cons_append, List.nil_append, List.append_nil, List.replicate_succ, List.replicate_zero, Nat.reduceAdd, Nat.reduceSub, Nat.reduceLeDiff, Nat.reduceEqDiff, List.take_length, List.length_map, List.length_append, List.take_left', List.take_append_of_le_length, Nat.le_refl, Nat.zero_add, Nat.add_zero, and_true, true_and, true_or, or_true, Int.mul_one, Int.one_mul, Nat.one_mul, Nat.mul_one, and_false, false_and, if_pos, if_neg, reduceIte, reduceCtorEq, not_true_eq_false, not_false_eq_true, Bool.not_true, Bool.not_false, beq_self_eq_true, Bool.or_true, Bool.true_or, Bool.or_false, Bool.false_or, Bool.and_true, Bool.true_and, Bool.and_false, Bool.false_and, String.reduceBEq, at0, at1, at2, at3, Int.cast_ofNat_Int, decide_true, decide_false, decide_eq_true_eq, decide_eq_false_iff_not, Bool.not_eq_true', Bool.not_eq_eq_eq_not, Int.reduceSub, Int.reduceNeg, Int.reduceAdd, Int.reduceMul, Int.reduceLT, Int.reduceLE, Int.reduceEq, Int.reducePow, Int.reduceToNat, sumD_map, allD_map, anyD_map, srtD_map, srtD_mapT, tupD, lstD, List.getElem?_cons_zero, List.getElem?_cons_succ, List.set_cons_zero, List.set_cons_succ, Option.some.injEq, Option.map_some, Option.map_none, Bool.false_eq_true, if_true, if_false]
    refine ok_mono (table_6 hm5 hi t5) ?_
    rintro o s ⟨e, rfl, t6⟩
    simp only [ok_callD, ok_bind, ok_ret, ok_some, ok_none, ok_fail, ok_ifF, ok_lif, ok_var, ok_C, ok_rdim, ok_toim, ok_bin, ok_fTst, ok_fAnd, ok_fOr, ok_fNot, ok_chn, startD, outD, fThen, fSet, fAsg, fPar, fPar3, fIfS, fRet, fDrop, fEnd, fBrk, fCnt, fNotT, fAndT, fOrT, fIf, fIsi, fIsi2, fCall, fCallK, fCons, fNil, fCa, fTup, fLst, fLstM, mkM, fApp, appV, ok_putM, get_last, set_last, take_last, gAdd_int, L2.CDiv, L2.CMul, L2.CPow, fIx, ok_ixR, ok_ixI, ok_lenR, ok_callM, fNeg, fRev, fSl, slD, cut1, fON, fOS, fYes, ok_lc, ok_lcBody, ok_for, ok_newM, wipeD, ok_seqL, ok_seqT, ok_seqR, allD_mapF, anyD_mapF, sumD_mapF, List.all_map, fSeq, fRng1, fRng2, fEnum, fZip, gtName, gtSub, gtNil, gtCons, gtTup, mkT, mkL, toDs, DL.gD, gD.rds, c1, c2, ok_lenL, ok_lenT, eq_self, DL.gSub, gMul_int, take_set, ixn20, Int.toNat_natCast, ixn21, List.set_set, gFdv, gMod, gPow, gI, gI0, gLt, gLe, gGt, gGe, gIs, gIt, isN, absD, DL.intD, max2, min2, dmod, ixD_l, ixD_t, isiD, tyD, gsel, gEq_int, gNe_int, gEq_str, gNe_str, List.map_cons, List.map_nil, List.length_cons, List.length_nil, List.cons_append, List.nil_append, List.append_nil, List.replicate_succ, List.replicate_zero, Nat.reduceAdd, Nat.reduceSub, Nat.reduceLeDiff, Nat.reduceEqDiff, List.take_length, List.length_map, List.length_append, List.take_left', List.take_append_of_le_length, Nat.le_refl, Nat.zero_add, Nat.add_zero, and_true, true_and, true_or, or_true, Int.mul_one, Int.one_mul, Nat.one_mul, Nat.mul_one, and_false, false_and, if_pos, if_neg, reduceIte, reduceCtorEq, not_true_eq_false, not_false_eq_true, Bool.not_true, Bool.not_false, beq_self_eq_true, Bool.or_true, Bool.true_or, Bool.or_false, Bool.false_or, Bool.and_true, Bool.true_and, Bool.and_false, Bool.false_and, String.reduceBEq, at0, at1, at2, at3, Int.cast_ofNat_Int, decide_true, decide_false, decide_eq_true_eq, decide_eq_false_iff_not, Bool.not_eq_true', Bool.not_eq_eq_eq_not, Int.reduceSub, Int.reduceNeg, Int.reduceAdd, Int.reduceMul, Int.reduceLT, Int.reduceLE, Int.reduceEq, Int.reducePow, Int.reduceToNat, sumD_map, allD_map, anyD_map, srtD_map, srtD_mapT, tupD, lstD, List.getElem?_cons_zero, List.getElem?_cons_succ, List.set_cons_zero, List.set_cons_succ, Option.some.injEq, Option.map_some, Option.map_none, Bool.false_eq_true, if_true, if_false]
    refine ok_mono (table_7 hm5 hi t6) ?_
    rintro o s ⟨e, rfl, t7 | t7⟩
    · obtain ⟨us, c7, x7, x8, x9, x10, x11, x12, x13, x14, x15, x16, rfl, rfl, g7, w7⟩ := t7
      simp only [ok_callD, ok_bind, ok_ret, ok_some, ok_none, ok_fail, ok_ifF, ok_lif, ok_var, ok_C, ok_rdim, ok_toim, ok_bin, ok_fTst, ok_fAnd, ok_fOr, ok_fNot, ok_chn, startD, outD, fThen, fSet, fAsg, fPar, fPar3, fIfS, fRet, fDrop, fEnd, fBrk, fCnt, fNotT, fAndT, fOrT, fIf, fIsi, fIsi2, fCall, fCallK, fCons, fNil, fCa, fTup, fLst, fLstM, mkM, fApp, appV, ok_putM, get_last, set_last, take_last, gAdd_int, L2.CDiv, L2.CMul, L2.CPow, fIx, ok_ixR, ok_ixI, ok_lenR, ok_callM, fNeg, fRev, fSl, slD, cut1, fON, fOS, fYes, ok_lc, ok_lcBody, ok_for, ok_newM, wipeD, ok_seqL, ok_seqT, ok_seqR, allD_mapF, anyD_mapF, sumD_mapF, List.all_map, fSeq, fRng1, fRng2, fEnum, fZip, gtName, gtSub, gtNil, gtCons, gtTup, mkT, mkL, toDs, DL.gD, gD.rds, c1, c2, ok_lenL, ok_lenT, eq_self, DL.gSub, gMul_int, take_set, ixn20, Int.toNat_natCast, ixn21, List.set_set, gFdv, gMod, gPow, gI, gI0, gLt, gLe, gGt, gGe, gIs, gIt, isN, absD, DL.intD, max2, min2, dmod, ixD_l, ixD_t, isiD, tyD, gsel, gEq_int, gNe_int, gEq_str, gNe_str, List.map_cons, List.map_nil, List.length_cons, List.length_nil, List.cons_append, List.nil_append, List.append_nil, List.replicate_succ, List.replicate_zero, Nat.reduceAdd, Nat.reduceSub, Nat.reduceLeDiff, Nat.reduceEqDiff, List.take_length, List.length_map, List.length_append, List.take_left', List.take_append_of_le_length, Nat.le_refl, Nat.zero_add, Nat.add_zero, and_true, true_and, true_or, or_true, Int.mul_one, Int.one_mul, Nat.one_mul, Nat.mul_one, and_false, false_and, if_pos, if_neg, reduceIte, reduceCtorEq, not_true_eq_false, not_false_eq_true, Bool.not_true, Bool.not_false, beq_self_eq_true, Bool.or_true, Bool.true_or, Bool.or_false, Bool.false_or, Bool.and_true, Bool.true_and, Bool.and_false, Bool.false_and, String.reduceBEq, at0, at1, at2, at3, Int.cast_ofNat_Int, decide_true, decide_false, decide_eq_true_eq, decide_eq_false_iff_not, Bool.not_eq_true', Bool.not_eq_eq_eq_not, Int.reduceSub, Int.reduceNeg, Int.reduceAdd, Int.reduceMul, Int.reduceLT, Int.reduceLE, Int.reduceEq, Int.reducePow, Int.reduceToNat, sumD_map, allD_map, anyD_map, srtD_map, srtD_mapT, tupD, lstD, List.getElem?_cons_zero, List.getElem?_cons_succ, List.set_cons_zero, List.set_cons_succ, Option.some.injEq, Option.map_some, Option.map_none, Bool.false_eq_true, if_true, if_false, tenv]
      exact k n us c7 (tb w7) g7
    · obtain ⟨us, c7, x7, x8, x9, x10, x11, x12, x13, x14, x15, x16, rfl, rfl, g7, w7⟩ := t7
      have h5 : (st.set i c7 ++ [((true, us.map PyData.int) : Cell)])[st.length]? = some (true, us.map PyData.int) := by rw [List.getElem?_append_right (by rw [List.length_set]; exact Nat.le_refl _), List.length_set, Nat.sub_self]; rfl
      have h6 : ∀ y : Cell, (st.set i c7 ++ [((true, us.map PyData.int) : Cell)]).set st.length y = st.set i c7 ++ [y] := fun y => by rw [List.set_append_right _ _ (by rw [List.length_set]; exact Nat.le_refl _), List.length_set, Nat.sub_self]; rfl
      have h7 : ∀ y : Cell, (st.set i c7 ++ [y]).take st.length = st.set i c7 := fun y => by rw [List.take_append_of_le_length (by rw [List.length_set]; exact Nat.le_refl _), take_set]
      simp only [ok_callD, ok_bind, ok_ret, ok_some, ok_none, ok_fail, ok_ifF, ok_lif, ok_var, ok_C, ok_rdim, ok_toim, ok_bin, ok_fTst, ok_fAnd, ok_fOr, ok_fNot, ok_chn, startD, outD, fThen, fSet, fAsg, fPar, fPar3, fIfS, fRet, fDrop, fEnd, fBrk, fCnt, fNotT, fAndT, fOrT, fIf, fIsi, fIsi2, fCall, fCallK, fCons, fNil, fCa, fTup, fLst, fLstM, mkM, fApp, appV, ok_putM, get_last, set_last, take_last, gAdd_int, L2.CDiv, L2.CMul, L2.CPow, fIx, ok_ixR, ok_ixI, ok_lenR, ok_callM, fNeg, fRev, fSl, slD, cut1, fON, fOS, fYes, ok_lc, ok_lcBody, ok_for, ok_newM, wipeD, ok_seqL, ok_seqT, ok_seqR, allD_mapF, anyD_mapF, sumD_mapF, List.all_map, fSeq, fRng1, fRng2, fEnum, fZip, gtName, gtSub, gtNil, gtCons, gtTup, mkT, mkL, toDs, DL.gD, gD.rds, c1, c2, ok_lenL, ok_lenT, eq_self, DL.gSub, gMul_int, take_set, ixn20, Int.toNat_natCast, ixn21, List.set_set, gFdv, gMod, gPow, gI, gI0, gLt, gLe, gGt, gGe, gIs, gIt, isN, absD, DL.intD, max2, min2, dmod, ixD_l, ixD_t, isiD, tyD, gsel, gEq_int, gNe_int, gEq_str, gNe_str, List.map_cons, List.map_nil, List.length_cons, List.length_nil, List.cons_append, List.nil_append, List.append_nil, List.replicate_succ, List.replicate_zero, Nat.reduceAdd, Nat.reduceSub, Nat.reduceLeDiff, Nat.reduceEqDiff, List.take_length, List.length_map, List.length_append, List.take_left', List.take_append_of_le_length, Nat.le_refl, Nat.zero_add, Nat.add_zero, and_true, true_and, true_or, or_true, Int.mul_one, Int.one_mul, Nat.one_mul, Nat.mul_one, and_false, false_and, if_pos, if_neg, reduceIte, reduceCtorEq, not_true_eq_false, not_false_eq_true, Bool.not_true, Bool.not_false, beq_self_eq_true, Bool.or_true, Bool.true_or, Bool.or_false, Bool.false_or, Bool.and_true, Bool.true_and, Bool.and_false, Bool.false_and, String.reduceBEq, at0, at1, at2, at3, Int.cast_ofNat_Int, decide_true, decide_false, decide_eq_true_eq, decide_eq_false_iff_not, Bool.not_eq_true', Bool.not_eq_eq_eq_not, Int.reduceSub, Int.reduceNeg, Int.reduceAdd, Int.reduceMul, Int.reduceLT, Int.reduceLE, Int.reduceEq, Int.reducePow, Int.reduceToNat, sumD_map, allD_map, anyD_map, srtD_map, srtD_mapT, tupD, lstD, List.getElem?_cons_zero, List.getElem?_cons_succ, List.set_cons_zero, List.set_cons_succ, Option.some.injEq, Option.map_some, Option.map_none, Bool.false_eq_true, if_true, if_false, tenv, ok_tomu h5, h6, h7]
      exact k n us c7 (tb w7) g7
/-! ### the law's own cut -/
theorem cut_ok {t : Int} {b : Nat} (hb : 0 < b) (hb2 : b < 1073741824) {st : Sto} {Q : DV → Sto → Prop} : Ok (f__law_cut [.im (.int t), .im (.int (b : Nat))]) st Q ↔ Q (.im (frD (red t b))) st := ok_eq (eq_ok (by
  unfold f__law_cut b__law_cut
  obtain ⟨g1, g2⟩ := gcd_pos (t := t) hb
  have p1 : (0 : Int) < (Nat.gcd t.natAbs b : Nat) := by omega
  have p2 : ((Nat.gcd t.natAbs b : Nat) : Int) < 1073741824 := by omega
  have e3 : (b : Int) / ((Nat.gcd t.natAbs b : Nat) : Int) = ((b / Nat.gcd t.natAbs b : Nat) : Int) := by omega
  simp only [ok_callD, ok_bind, ok_ret, ok_some, ok_none, ok_fail, ok_ifF, ok_lif, ok_var, ok_C, ok_rdim, ok_toim, ok_bin, ok_fTst, ok_fAnd, ok_fOr, ok_fNot, ok_chn, startD, outD, fThen, fSet, fAsg, fPar, fPar3, fIfS, fRet, fDrop, fEnd, fBrk, fCnt, fNotT, fAndT, fOrT, fIf, fIsi, fIsi2, fCall, fCallK, fCons, fNil, fCa, fTup, fLst, fLstM, mkM, fApp, appV, ok_putM, get_last, set_last, take_last, gAdd_int, L2.CDiv, L2.CMul, L2.CPow, fIx, ok_ixR, ok_ixI, ok_lenR, ok_callM, fNeg, fRev, fSl, slD, cut1, fON, fOS, fYes, ok_lc, ok_lcBody, ok_for, ok_newM, wipeD, ok_seqL, ok_seqT, ok_seqR, allD_mapF, anyD_mapF, sumD_mapF, List.all_map, fSeq, fRng1, fRng2, fEnum, fZip, gtName, gtSub, gtNil, gtCons, gtTup, mkT, mkL, toDs, DL.gD, gD.rds, c1, c2, ok_lenL, ok_lenT, eq_self, DL.gSub, gMul_int, take_set, ixn20, Int.toNat_natCast, ixn21, List.set_set, gFdv, gMod, gPow, gI, gI0, gLt, gLe, gGt, gGe, gIs, gIt, isN, absD, DL.intD, max2, min2, dmod, ixD_l, ixD_t, isiD, tyD, gsel, gEq_int, gNe_int, gEq_str, gNe_str, List.map_cons, List.map_nil, List.length_cons, List.length_nil, List.cons_append, List.nil_append, List.append_nil, List.replicate_succ, List.replicate_zero, Nat.reduceAdd, Nat.reduceSub, Nat.reduceLeDiff, Nat.reduceEqDiff, List.take_length, List.length_map, List.length_append, List.take_left', List.take_append_of_le_length, Nat.le_refl, Nat.zero_add, Nat.add_zero, and_true, true_and, true_or, or_true, Int.mul_one, Int.one_mul, Nat.one_mul, Nat.mul_one, and_false, false_and, if_pos, if_neg, reduceIte, reduceCtorEq, not_true_eq_false, not_false_eq_true, Bool.not_true, Bool.not_false, beq_self_eq_true, Bool.or_true, Bool.true_or, Bool.or_false, Bool.false_or, Bool.and_true, Bool.true_and, Bool.and_false, Bool.false_and, String.reduceBEq, at0, at1, at2, at3, Int.cast_ofNat_Int, decide_true, decide_false, decide_eq_true_eq, decide_eq_false_iff_not, Bool.not_eq_true', Bool.not_eq_eq_eq_not, Int.reduceSub, Int.reduceNeg, Int.reduceAdd, Int.reduceMul, Int.reduceLT, Int.reduceLE, Int.reduceEq, Int.reducePow, Int.reduceToNat, sumD_map, allD_map, anyD_map, srtD_map, srtD_mapT, tupD, lstD, List.getElem?_cons_zero, List.getElem?_cons_succ, List.set_cons_zero, List.set_cons_succ, Option.some.injEq, Option.map_some, Option.map_none, Bool.false_eq_true, if_true, if_false, abs_nat]
  refine ok_while (fun m env s => ∃ x : Nat, env = [some (.im (.int t)), some (.im (.int (b : Nat))), some (.im (.int (x : Nat))), some (.im (.int (m : Nat)))] ∧ s = st ∧ Nat.gcd x m = Nat.gcd t.natAbs b) ?_ (m := b) ⟨t.natAbs, rfl, rfl, rfl⟩
  rintro m env s ⟨x, rfl, rfl, hg⟩
  by_cases h0 : m = 0
  · subst h0
    rw [Nat.gcd_zero_right] at hg
    simp only [ok_callD, ok_bind, ok_ret, ok_some, ok_none, ok_fail, ok_ifF, ok_lif, ok_var, ok_C, ok_rdim, ok_toim, ok_bin, ok_fTst, ok_fAnd, ok_fOr, ok_fNot, ok_chn, startD, outD, fThen, fSet, fAsg, fPar, fPar3, fIfS, fRet, fDrop, fEnd, fBrk, fCnt, fNotT, fAndT, fOrT, fIf, fIsi, fIsi2, fCall, fCallK, fCons, fNil, fCa, fTup, fLst, fLstM, mkM, fApp, appV, ok_putM, get_last, set_last, take_last, gAdd_int, L2.CDiv, L2.CMul, L2.CPow, fIx, ok_ixR, ok_ixI, ok_lenR, ok_callM, fNeg, fRev, fSl, slD, cut1, fON, fOS, fYes, ok_lc, ok_lcBody, ok_for, ok_newM, wipeD, ok_seqL, ok_seqT, ok_seqR, allD_mapF, anyD_mapF, sumD_mapF, List.all_map, fSeq, fRng1, fRng2, fEnum, fZip, gtName, gtSub, gtNil, gtCons, gtTup, mkT, mkL, toDs, DL.gD, gD.rds, c1, c2, ok_lenL, ok_lenT, eq_self, DL.gSub, gMul_int, take_set, ixn20, Int.toNat_natCast, ixn21, List.set_set, gFdv, gMod, gPow, gI, gI0, gLt, gLe, gGt, gGe, gIs, gIt, isN, absD, DL.intD, max2, min2, dmod, ixD_l, ixD_t, isiD, tyD, gsel, gEq_int, gNe_int, gEq_str, gNe_str, List.map_cons, List.map_nil, List.length_cons, List.length_nil, List.cons_append, List.nil_append, List.append_nil, List.replicate_succ, List.replicate_zero, Nat.reduceAdd, Nat.reduceSub, Nat.reduceLeDiff, Nat.reduceEqDiff, List.take_length, List.length_map, List.length_append, List.take_left', List.take_append_of_le_length, Nat.le_refl, Nat.zero_add, Nat.add_zero, and_true, true_and, true_or, or_true, Int.mul_one, Int.one_mul, Nat.one_mul, Nat.mul_one, and_false, false_and, if_pos, if_neg, reduceIte, reduceCtorEq, not_true_eq_false, not_false_eq_true, Bool.not_true, Bool.not_false, beq_self_eq_true, Bool.or_true, Bool.true_or, Bool.or_false, Bool.false_or, Bool.and_true, Bool.true_and, Bool.and_false, Bool.false_and, String.reduceBEq, at0, at1, at2, at3, Int.cast_ofNat_Int, decide_true, decide_false, decide_eq_true_eq, decide_eq_false_iff_not, Bool.not_eq_true', Bool.not_eq_eq_eq_not, Int.reduceSub, Int.reduceNeg, Int.reduceAdd, Int.reduceMul, Int.reduceLT, Int.reduceLE, Int.reduceEq, Int.reducePow, Int.reduceToNat, sumD_map, allD_map, anyD_map, srtD_map, srtD_mapT, tupD, lstD, List.getElem?_cons_zero, List.getElem?_cons_succ, List.set_cons_zero, List.set_cons_succ, Option.some.injEq, Option.map_some, Option.map_none, Bool.false_eq_true, if_true, if_false, hg, p1, p2, e3, frD, red]
  · have q1 : (0 : Int) < (m : Int) := by omega
    have e2 : (x : Int) % (m : Int) = ((x % m : Nat) : Int) := by omega
    simp only [ok_callD, ok_bind, ok_ret, ok_some, ok_none, ok_fail, ok_ifF, ok_lif, ok_var, ok_C, ok_rdim, ok_toim, ok_bin, ok_fTst, ok_fAnd, ok_fOr, ok_fNot, ok_chn, startD, outD, fThen, fSet, fAsg, fPar, fPar3, fIfS, fRet, fDrop, fEnd, fBrk, fCnt, fNotT, fAndT, fOrT, fIf, fIsi, fIsi2, fCall, fCallK, fCons, fNil, fCa, fTup, fLst, fLstM, mkM, fApp, appV, ok_putM, get_last, set_last, take_last, gAdd_int, L2.CDiv, L2.CMul, L2.CPow, fIx, ok_ixR, ok_ixI, ok_lenR, ok_callM, fNeg, fRev, fSl, slD, cut1, fON, fOS, fYes, ok_lc, ok_lcBody, ok_for, ok_newM, wipeD, ok_seqL, ok_seqT, ok_seqR, allD_mapF, anyD_mapF, sumD_mapF, List.all_map, fSeq, fRng1, fRng2, fEnum, fZip, gtName, gtSub, gtNil, gtCons, gtTup, mkT, mkL, toDs, DL.gD, gD.rds, c1, c2, ok_lenL, ok_lenT, eq_self, DL.gSub, gMul_int, take_set, ixn20, Int.toNat_natCast, ixn21, List.set_set, gFdv, gMod, gPow, gI, gI0, gLt, gLe, gGt, gGe, gIs, gIt, isN, absD, DL.intD, max2, min2, dmod, ixD_l, ixD_t, isiD, tyD, gsel, gEq_int, gNe_int, gEq_str, gNe_str, List.map_cons, List.map_nil, List.length_cons, List.length_nil, List.cons_append, List.nil_append, List.append_nil, List.replicate_succ, List.replicate_zero, Nat.reduceAdd, Nat.reduceSub, Nat.reduceLeDiff, Nat.reduceEqDiff, List.take_length, List.length_map, List.length_append, List.take_left', List.take_append_of_le_length, Nat.le_refl, Nat.zero_add, Nat.add_zero, and_true, true_and, true_or, or_true, Int.mul_one, Int.one_mul, Nat.one_mul, Nat.mul_one, and_false, false_and, if_pos, if_neg, reduceIte, reduceCtorEq, not_true_eq_false, not_false_eq_true, Bool.not_true, Bool.not_false, beq_self_eq_true, Bool.or_true, Bool.true_or, Bool.or_false, Bool.false_or, Bool.and_true, Bool.true_and, Bool.and_false, Bool.false_and, String.reduceBEq, at0, at1, at2, at3, Int.cast_ofNat_Int, decide_true, decide_false, decide_eq_true_eq, decide_eq_false_iff_not, Bool.not_eq_true', Bool.not_eq_eq_eq_not, Int.reduceSub, Int.reduceNeg, Int.reduceAdd, Int.reduceMul, Int.reduceLT, Int.reduceLE, Int.reduceEq, Int.reducePow, Int.reduceToNat, sumD_map, allD_map, anyD_map, srtD_map, srtD_mapT, tupD, lstD, List.getElem?_cons_zero, List.getElem?_cons_succ, List.set_cons_zero, List.set_cons_succ, Option.some.injEq, Option.map_some, Option.map_none, Bool.false_eq_true, if_true, if_false, q1, e2]
    exact ⟨x % m, Nat.mod_lt _ (by omega), m, rfl, by rw [← hg, Nat.gcd_comm x m, Nat.gcd_rec m x, Nat.gcd_comm]⟩))
end G11
namespace G11
open PySem DL
def RepOk (d : PyData) : Prop := isSeq d = true ∧ okr d = true ∧ wt d ≤ 500000 ∧ d.depth ≤ 60
theorem rep_of {d : PyData} (h : RepOk d) : repD d = some (.str d.shown) := if_pos h
structure Rs (d : PyData) (w k : Nat) : Prop where
  ok : okr d = true
  wt : wt d ≤ w
  dp : d.depth ≤ k
structure RsA (ds : List PyData) (w k : Nat) : Prop where
  ok : okrA ds = true
  wt : wtA ds ≤ w
  dp : PyData.depthAll ds ≤ k
theorem rs_int {i : Int} (h : i.natAbs < 2 ^ 64) : Rs (.int i) 1 0 := ⟨decide_eq_true h, Nat.le_refl _, Nat.le_refl _⟩
theorem rs_bool {b : Bool} : Rs (.bool b) 1 0 := ⟨rfl, Nat.le_refl _, Nat.le_refl _⟩
theorem rsA_nil : RsA [] 0 0 := ⟨rfl, Nat.le_refl _, Nat.le_refl _⟩
theorem rsA_cons {d : PyData} {ds : List PyData} {w w' k k' : Nat} (h : Rs d w k) (g : RsA ds w' k') : RsA (d :: ds) (w + w') (max k k') := by
  refine ⟨?_, ?_, ?_⟩
  · rw [okrA, h.ok, g.ok]; rfl
  · rw [wtA]; exact Nat.add_le_add h.wt g.wt
  · rw [PyData.depthAll]
    have := h.dp
    have := g.dp
    omega
theorem rsA_map {α : Type} {f : α → PyData} {w k : Nat} : ∀ {l : List α}, (∀ x ∈ l, Rs (f x) w k) → RsA (l.map f) (w * l.length) k
  | [], _ => ⟨rfl, Nat.zero_le _, Nat.zero_le _⟩
  | a :: r, h => by
    have r1 := rsA_cons (h a (by simp)) (rsA_map (l := r) fun x hx => h x (by simp [hx]))
    refine ⟨r1.ok, ?_, ?_⟩
    · have := r1.wt
      rw [List.length_cons, Nat.mul_succ]
      simp only [List.map_cons] at this ⊢
      omega
    · have := r1.dp
      simp only [List.map_cons] at this ⊢
      omega
theorem rs_list {ds : List PyData} {w k : Nat} (h : RsA ds w k) : Rs (.list ds) (w + 1) (k + 1) := ⟨h.ok, by rw [wt]; have := h.wt; omega, by rw [PyData.depth]; have := h.dp; omega⟩
theorem rs_tup {ds : List PyData} {w k : Nat} (h : RsA ds w k) : Rs (.tuple ds) (w + 1) (k + 1) := ⟨h.ok, by rw [wt]; have := h.wt; omega, by rw [PyData.depth]; have := h.dp; omega⟩
theorem Rs.up {d : PyData} {w k w' k' : Nat} (h : Rs d w k) (hw : w ≤ w') (hk : k ≤ k') : Rs d w' k' := ⟨h.ok, Nat.le_trans h.wt hw, Nat.le_trans h.dp hk⟩
theorem rep_pair {d : PyData} (h : Rs d 1000 10) : repD (.list [d, d]) = some (.str (PyData.list [d, d]).shown) := by
  have r := rs_list (rsA_cons h (rsA_cons h rsA_nil))
  exact rep_of ⟨rfl, r.ok, Nat.le_trans r.wt (by decide), Nat.le_trans r.dp (by decide)⟩
theorem rs_lot {lot : List Nat} (h : ∀ t ∈ lot, t < 5) (hl : lot.length ≤ 5) : Rs (lotD lot) 1000 10 :=
  (rs_tup (rsA_map (f := fun t : Nat => PyData.int (t : Nat)) (w := 1) (k := 0) fun t ht => rs_int (by have := h t ht; omega))).up (by omega) (by decide)
theorem rs_tab {n : Nat} {ws : List Int} (t : Tab n ws) : Rs (tabD true n ws) 1000 10 := by
  have h5 := t.hi
  have hz := pow_small h5
  have hl := t.len
  refine (rs_tup (rsA_cons (rs_int (i := (n : Int)) (by omega)) (rsA_cons (rs_list (rsA_map (f := PyData.int) (l := ws) (w := 1) (k := 0) fun w hw => rs_int (by have := t.bd w hw; omega))) rsA_nil))).up (by omega) (by decide)
theorem rep_tab {n : Nat} {ws : List Int} (t : Tab n ws) : repD (tabD true n ws) = some (.str (tabD true n ws).shown) := by
  have r := rs_tab t
  exact rep_of ⟨rfl, r.ok, Nat.le_trans r.wt (by decide), Nat.le_trans r.dp (by decide)⟩
theorem rs_fr {p : Fr} (h1 : p.1.natAbs < 2 ^ 64) (h2 : p.2 < 2 ^ 64) : Rs (frD p) 1000 10 :=
  (rs_tup (rsA_cons (rs_int h1) (rsA_cons (rs_int (i := (p.2 : Int)) (by omega)) rsA_nil))).up (by decide) (by decide)
def renv (i n : Nat) (ws : List Int) (sh : Str) (ps : List Fr) (x7 x8 x9 x10 x11 x12 x13 x14 x15 x16 x17 : Option DV) : DEnv :=
  [some (.mu i), some (.im (.tuple [.int (n : Nat), .list (ws.map .int)])), some (.im (.int (n : Nat))), some (.im (.list (ws.map .int))), some (.im (.list ((lots n).map lotD))), some (.im (.str sh)), some (.im (.list (ps.map frD))), x7, x8, x9, x10, x11, x12, x13, x14, x15, x16, x17]
theorem right_loop1 {i n : Nat} (hn : n ≤ 5) {ws : List Int} {sh : Str} {ps : List Fr} (hl : ps.length = n) (hp : ∀ p ∈ ps, Pr p) {lot : List Nat} (hlot : ∀ t ∈ lot, t < n) (hl5 : lot.length ≤ 5) {x7 x8 x11 x12 x13 x14 x15 x16 x17 : Option DV} {s : Sto} {Q : Out → Sto → Prop}
    (hq : ∀ x11 (f : Fr), f = (prs ps lot).foldl rawF (0, 1) → 0 < f.2 → f.2 ≤ 7776 → f.1.natAbs ≤ 2 ^ 60 → Q (.nx (renv i n ws sh ps x7 x8 (some (.im (.int f.1))) (some (.im (.int (f.2 : Nat)))) x11 x12 x13 x14 x15 x16 x17)) s) :
    Ok (DL.forM [] (fun d e => bindM (gtName 11 (.im d) e) b__law_right_loop1) (lot.map fun t => .int (t : Nat)) (renv i n ws sh ps x7 x8 (some (.im (.int 0))) (some (.im (.int 1))) x11 x12 x13 x14 x15 x16 x17)) s Q := by
  refine ok_loop (fun ds env s' => ∃ (f : Fr) (x11 : Option DV) (rs : List Nat), ds = (rs.map fun t => .int (t : Nat)) ∧ env = renv i n ws sh ps x7 x8 (some (.im (.int f.1))) (some (.im (.int (f.2 : Nat)))) x11 x12 x13 x14 x15 x16 x17 ∧ s' = s ∧ 0 < f.2 ∧ f.2 * 6 ^ rs.length ≤ 7776 ∧
      f.1.natAbs * 6 ^ rs.length ≤ 155520 * (5 - rs.length) ∧ rs.length ≤ 5 ∧ (∀ t ∈ rs, t < n) ∧ (prs ps rs).foldl rawF f = (prs ps lot).foldl rawF (0, 1)) ?_ ?_ _ _ _
    ⟨(0, 1), x11, lot, rfl, rfl, rfl, by decide, by rw [Nat.one_mul]; exact Nat.le_trans (Nat.pow_le_pow_right (by decide) hl5) (by decide), by rw [show ((0, 1) : Fr).1.natAbs = 0 from rfl, Nat.zero_mul]; exact Nat.zero_le _, hl5, hlot, rfl⟩
  · rintro d ds env s' ⟨f, x11, rs, hd, rfl, rfl, hf, hb, ht, hr5, hrl, hfold⟩
    cases rs with
    | nil => cases hd
    | cons t rs =>
      cases hd
      have htn := hrl t (by simp)
      have et : ps[t]? = some (ps.getD t (0, 1)) := by
        rw [List.getD_eq_getElem?_getD, List.getElem?_eq_getElem (by omega)]
        rfl
      have hpp : Pr (ps.getD t (0, 1)) := hp _ (List.mem_of_getElem? et)
      have ea : L2.atI (ps.map frD) (t : Int) = some (frD (ps.getD t (0, 1))) := by rw [atI_nat (j := t) rfl, List.getElem?_map, et]; rfl
      have q1 := hpp.pos
      have q2 := hpp.six
      have q3 := hpp.top
      have hf2 : (prs ps rs).foldl rawF (rawF f (ps.getD t (0, 1))) = (prs ps lot).foldl rawF (0, 1) := hfold
      generalize ps.getD t (0, 1) = p at *
      unfold b__law_right_loop1 renv
      simp only [ok_callD, ok_bind, ok_ret, ok_some, ok_none, ok_fail, ok_ifF, ok_lif, ok_var, ok_C, ok_rdim, ok_toim, ok_bin, ok_fTst, ok_fAnd, ok_fOr, ok_fNot, ok_chn, startD, outD, fThen, fSet, fAsg, fPar, fPar3, fIfS, fRet, fDrop, fEnd, fBrk, fCnt, fNotT, fAndT, fOrT, fIf, fIsi, fIsi2, fCall, fCallK, fCons, fNil, fCa, fTup, fLst, fLstM, mkM, fApp, appV, ok_putM, get_last, set_last, take_last, gAdd_int, L2.CDiv, L2.CMul, L2.CPow, fIx, ok_ixR, ok_ixI, ok_lenR, ok_callM, fNeg, fRev, fSl, slD, cut1, fON, fOS, fYes, ok_lc, ok_lcBody, ok_for, ok_newM, wipeD, ok_seqL, ok_seqT, ok_seqR, allD_mapF, anyD_mapF, sumD_mapF, List.all_map, fSeq, fRng1, fRng2, fEnum, fZip, gtName, gtSub, gtNil, gtCons, gtTup, mkT, mkL, toDs, DL.gD, gD.rds, c1, c2, ok_lenL, ok_lenT, eq_self, DL.gSub, gMul_int, take_set, ixn20, Int.toNat_natCast, ixn21, List.set_set, gFdv, gMod, gPow, gI, gI0, gLt, gLe, gGt, gGe, gIs, gIt, isN, absD, DL.intD, max2, min2, dmod, ixD_l, ixD_t, isiD, tyD, gsel, gEq_int, gNe_int, gEq_str, gNe_str, List.filterMap_cons, List.filterMap_nil, and_self, or_self, List.map_cons, List.map_nil, List.length_cons, List.length_nil, List.cons_append, List.nil_append, List.append_nil, List.replicate_succ, List.replicate_zero, Nat.reduceAdd, Nat.reduceSub, Nat.reduceLeDiff, Nat.reduceEqDiff, List.take_length, List.length_map, List.length_append, List.take_left', List.take_append_of_le_length, Nat.le_refl, Nat.zero_add, Nat.add_zero, and_true, true_and, true_or, or_true, Int.mul_one, Int.one_mul, Nat.one_mul, Nat.mul_one, and_false, false_and, if_pos, if_neg, reduceIte, reduceCtorEq, not_true_eq_false, not_false_eq_true, Bool.not_true, Bool.not_false, beq_self_eq_true, Bool.or_true, Bool.true_or, Bool.or_false, Bool.false_or, Bool.and_true, Bool.true_and, Bool.and_false, Bool.false_and, String.reduceBEq, at0, at1, at2, at3, Int.cast_ofNat_Int, decide_true, decide_false, decide_eq_true_eq, decide_eq_false_iff_not, Bool.not_eq_true', Bool.not_eq_eq_eq_not, Int.reduceSub, Int.reduceNeg, Int.reduceAdd, Int.reduceMul, Int.reduceLT, Int.reduceLE, Int.reduceEq, Int.reducePow, Int.reduceToNat, sumD_map, allD_map, anyD_map, srtD_map, srtD_mapT, tupD, lstD, List.getElem?_cons_zero, List.getElem?_cons_succ, List.set_cons_zero, List.set_cons_succ, Option.some.injEq, Option.map_some, Option.map_none, Bool.false_eq_true, if_true, if_false, ea]
      have c1 : (-18446744073709551616 < (p.2 : Int) ∧ (p.2 : Int) < 18446744073709551616) := by omega
      have c2 : (-18446744073709551616 < p.1 ∧ p.1 < 18446744073709551616) := by omega
      have e2 : (f.2 : Int) * (p.2 : Int) = ((f.2 * p.2 : Nat) : Int) := by rw [Int.natCast_mul]
      unfold frD
      simp only [ok_callD, ok_bind, ok_ret, ok_some, ok_none, ok_fail, ok_ifF, ok_lif, ok_var, ok_C, ok_rdim, ok_toim, ok_bin, ok_fTst, ok_fAnd, ok_fOr, ok_fNot, ok_chn, startD, outD, fThen, fSet, fAsg, fPar, fPar3, fIfS, fRet, fDrop, fEnd, fBrk, fCnt, fNotT, fAndT, fOrT, fIf, fIsi, fIsi2, fCall, fCallK, fCons, fNil, fCa, fTup, fLst, fLstM, mkM, fApp, appV, ok_putM, get_last, set_last, take_last, gAdd_int, L2.CDiv, L2.CMul, L2.CPow, fIx, ok_ixR, ok_ixI, ok_lenR, ok_callM, fNeg, fRev, fSl, slD, cut1, fON, fOS, fYes, ok_lc, ok_lcBody, ok_for, ok_newM, wipeD, ok_seqL, ok_seqT, ok_seqR, allD_mapF, anyD_mapF, sumD_mapF, List.all_map, fSeq, fRng1, fRng2, fEnum, fZip, gtName, gtSub, gtNil, gtCons, gtTup, mkT, mkL, toDs, DL.gD, gD.rds, c1, c2, ok_lenL, ok_lenT, eq_self, DL.gSub, gMul_int, take_set, ixn20, Int.toNat_natCast, ixn21, List.set_set, gFdv, gMod, gPow, gI, gI0, gLt, gLe, gGt, gGe, gIs, gIt, isN, absD, DL.intD, max2, min2, dmod, ixD_l, ixD_t, isiD, tyD, gsel, gEq_int, gNe_int, gEq_str, gNe_str, List.filterMap_cons, List.filterMap_nil, and_self, or_self, List.map_cons, List.map_nil, List.length_cons, List.length_nil, List.cons_append, List.nil_append, List.append_nil, List.replicate_succ, List.replicate_zero, Nat.reduceAdd, Nat.reduceSub, Nat.reduceLeDiff, Nat.reduceEqDiff, List.take_length, List.length_map, List.length_append, List.take_left', List.take_append_of_le_length, Nat.le_refl, Nat.zero_add, Nat.add_zero, and_true, true_and, true_or, or_true, Int.mul_one, Int.one_mul, Nat.one_mul, Nat.mul_one, and_false, false_and, if_pos, if_neg, reduceIte, reduceCtorEq, not_true_eq_false, not_false_eq_true, Bool.not_true, Bool.not_false, beq_self_eq_true, Bool.or_true, Bool.true_or, Bool.or_false, Bool.false_or, Bool.and_true, Bool.true_and, Bool.and_false, Bool.false_and, String.reduceBEq, at0, at1, at2, at3, Int.cast_ofNat_Int, decide_true, decide_false, decide_eq_true_eq, decide_eq_false_iff_not, Bool.not_eq_true', Bool.not_eq_eq_eq_not, Int.reduceSub, Int.reduceNeg, Int.reduceAdd, Int.reduceMul, Int.reduceLT, Int.reduceLE, Int.reduceEq, Int.reducePow, Int.reduceToNat, sumD_map, allD_map, anyD_map, srtD_map, srtD_mapT, tupD, lstD, List.getElem?_cons_zero, List.getElem?_cons_succ, List.set_cons_zero, List.set_cons_succ, Option.some.injEq, Option.map_some, Option.map_none, Bool.false_eq_true, if_true, if_false, c1, c2, e2]
      have hb' : f.2 * 6 ^ rs.length * 6 ≤ 7776 := by rw [List.length_cons, Nat.pow_succ, ← Nat.mul_assoc] at hb; exact hb
      have ht' : f.1.natAbs * 6 ^ rs.length * 6 ≤ 155520 * (5 - (rs.length + 1)) := by rw [List.length_cons, Nat.pow_succ, ← Nat.mul_assoc] at ht; exact ht
      have hr5' : rs.length + 1 ≤ 5 := hr5
      refine ⟨rawF f p, some (.im (.int (t : Nat))), rs, rfl, rfl, Nat.mul_pos hf q1, ?_, ?_, by omega, fun u hu => hrl u (by simp [hu]), ?_⟩
      · show f.2 * p.2 * 6 ^ rs.length ≤ 7776
        have : f.2 * p.2 * 6 ^ rs.length ≤ f.2 * 6 * 6 ^ rs.length := Nat.mul_le_mul_right _ (Nat.mul_le_mul_left _ q2)
        rw [Nat.mul_right_comm f.2 6] at this
        omega
      · show (f.1 * p.2 + p.1 * f.2).natAbs * 6 ^ rs.length ≤ 155520 * (5 - rs.length)
        have n1 : (f.1 * (p.2 : Int) + p.1 * (f.2 : Int)).natAbs ≤ f.1.natAbs * 6 + 20 * f.2 := by
          refine Nat.le_trans (Int.natAbs_add_le _ _) (Nat.add_le_add ?_ ?_)
          · rw [Int.natAbs_mul]; exact Nat.mul_le_mul_left _ q2
          · rw [Int.natAbs_mul]; exact Nat.mul_le_mul_right _ q3
        have n2 := Nat.mul_le_mul_right (6 ^ rs.length) n1
        rw [Nat.add_mul, Nat.mul_right_comm f.1.natAbs 6, Nat.mul_assoc 20] at n2
        omega
      · exact hf2
  · rintro env s' ⟨f, x11, rs, hd, rfl, rfl, hf, hb, ht, hr5, hrl, hfold⟩
    cases rs with
    | cons p rs => cases hd
    | nil =>
      refine hq x11 f hfold hf (by simpa using hb) (by simp at ht; omega)
theorem rs_small {i : Int} (h : i.natAbs < 2 ^ 64) : Rs (.int i) 1000 10 := (rs_int h).up (by decide) (by decide)
theorem mul_two {x : PyData} : gMul (.list [x]) (.int 2) = some (.list [x, x]) := rfl
theorem walk_lot {lot : List Nat} {st : Sto} {Q : List PyData × Dep → Sto → Prop} : Ok (seqV (.im (lotD lot))) st Q ↔ Q (lot.map fun t => .int (t : Nat), []) st := ok_ret
theorem five_at {t : Nat} (h : t < 5) : L2.atI [PyData.int 1, .int 2, .int 4, .int 8, .int 16] (t : Int) = some (.int ((2 ^ t : Nat) : Int)) := by
  match t, h with
  | 0, _ => rfl
  | 1, _ => rfl
  | 2, _ => rfl
  | 3, _ => rfl
  | 4, _ => rfl
theorem numI_sum {lot : List Nat} : (lot.map fun (t : Nat) => ((2 ^ t : Nat) : Int)).sum = ((numI lot : Nat) : Int) := by
  unfold numI
  induction lot with
  | nil => rfl
  | cons a r ih =>
    simp only [List.map_cons, List.sum_cons, ih]
    omega
theorem right_loop2 {i n k : Nat} {ws : List Int} (t : Tab n ws) {sh : Str} {ps : List Fr} (hl : ps.length = n) (hp : ∀ p ∈ ps, Pr p) (hk : k < 2 ^ n) {x9 x10 x11 x12 x13 x14 x15 x16 x17 : Option DV} {s : Sto} {Q : Out → Sto → Prop}
    (hq : ∀ x9 x10 x11 x12, Q (.nx (renv i n ws sh ps (some (.im (.int (k : Nat)))) (some (.im (lotD (lt5 k)))) x9 x10 x11 x12 x13 x14 x15 x16 x17)) s) :
    Ok (b__law_right_loop2 (renv i n ws sh ps (some (.im (.int (k : Nat)))) (some (.im (lotD (lt5 k)))) x9 x10 x11 x12 x13 x14 x15 x16 x17)) s Q := by
  have hn := t.hi
  have hz := pow_small hn
  have lk := lot_i hn hk
  have nk := num_i hn hk
  have l5 : (lt5 k).length ≤ 5 := by have := ups_len _ lk.up lk.lt; omega
  have a1 : ∀ {st : Sto} {Q : DV → Sto → Prop}, Ok (f_lot_of [.im (.tuple [.int (n : Nat), .list (ws.map .int)]), .im (.int (k : Nat))]) st Q ↔ Q (.im (lotD (lt5 k))) st := fun {st Q} => lot_of_ok (l := true) t hk
  have a2 : ∀ {st : Sto} {Q : DV → Sto → Prop}, Ok (f_number_of [.im (.tuple [.int (n : Nat), .list (ws.map .int)]), .im (lotD (lt5 k))]) st Q ↔ Q (.im (.int (k : Nat))) st := fun {st Q} => by
    have := number_of_ok (l := true) t lk (st := st) (Q := Q)
    rw [nk] at this
    exact this
  have hw : ws[k]? = some (ws[k]'(by rw [t.len]; exact hk)) := List.getElem?_eq_getElem _
  have hwb := t.bd _ (List.mem_of_getElem? hw)
  generalize hwv : ws[k]'(by rw [t.len]; exact hk) = wv at *
  have a3 : ∀ {st : Sto} {Q : DV → Sto → Prop}, Ok (f_worth [.im (.tuple [.int (n : Nat), .list (ws.map .int)]), .im (lotD (lt5 k))]) st Q ↔ Q (.im (.int wv)) st := fun {st Q} => worth_ok (l := true) t lk (by rw [nk]; exact hw)
  have a4 : ∀ {st : Sto} {Q : DV → Sto → Prop}, Ok (f_worth [.im (.tuple [.int (n : Nat), .tuple (ws.map .int)]), .im (lotD (lt5 k))]) st Q ↔ Q (.im (.int wv)) st := fun {st Q} => worth_ok (l := false) t lk (by rw [nk]; exact hw)
  have a5 : ∀ {st : Sto} {Q : DV → Sto → Prop}, Ok (f_price_of [.im (.tuple [.int (n : Nat), .list (ws.map .int)]), .im (lotD (lt5 k)), .im (.list (ps.map frD))]) st Q ↔ Q (.im (frD (red ((prs ps (lt5 k)).foldl rawF (0, 1)).1 ((prs ps (lt5 k)).foldl rawF (0, 1)).2))) st := fun {st Q} => price_of_ok (l := true) (l2 := true) t hl hp lk
  have a6 : ∀ {st : Sto} {Q : DV → Sto → Prop}, Ok (f_price_of [.im (.tuple [.int (n : Nat), .list (ws.map .int)]), .im (lotD (lt5 k)), .im (.tuple (ps.map frD))]) st Q ↔ Q (.im (frD (red ((prs ps (lt5 k)).foldl rawF (0, 1)).1 ((prs ps (lt5 k)).foldl rawF (0, 1)).2))) st := fun {st Q} => price_of_ok (l := true) (l2 := false) t hl hp lk
  have r1 := rep_pair (rs_lot lk.five.1 l5)
  have r2 := rep_pair (rs_small (i := (k : Int)) (by omega))
  have r3 := rep_pair (rs_small (i := wv) (by omega))
  have aw : L2.atI (ws.map PyData.int) (k : Int) = some (.int wv) := by rw [atI_nat (j := k) rfl, List.getElem?_map, hw]; rfl
  unfold b__law_right_loop2 renv
  simp only [ok_callD, ok_bind, ok_ret, ok_some, ok_none, ok_fail, ok_ifF, ok_lif, ok_var, ok_C, ok_rdim, ok_toim, ok_bin, ok_fTst, ok_fAnd, ok_fOr, ok_fNot, ok_chn, startD, outD, fThen, fSet, fAsg, fPar, fPar3, fIfS, fRet, fDrop, fEnd, fBrk, fCnt, fNotT, fAndT, fOrT, fIf, fIsi, fIsi2, fCall, fCallK, fCons, fNil, fCa, fTup, fLst, fLstM, mkM, fApp, appV, ok_putM, get_last, set_last, take_last, gAdd_int, L2.CDiv, L2.CMul, L2.CPow, fIx, ok_ixR, ok_ixI, ok_lenR, ok_callM, fNeg, fRev, fSl, slD, cut1, fON, fOS, fYes, ok_lc, ok_lcBody, ok_for, ok_newM, wipeD, ok_seqL, ok_seqT, ok_seqR, allD_mapF, anyD_mapF, sumD_mapF, List.all_map, fSeq, fRng1, fRng2, fEnum, fZip, gtName, gtSub, gtNil, gtCons, gtTup, mkT, mkL, toDs, DL.gD, gD.rds, c1, c2, ok_lenL, ok_lenT, eq_self, DL.gSub, gMul_int, take_set, ixn20, Int.toNat_natCast, ixn21, List.set_set, gFdv, gMod, gPow, gI, gI0, gLt, gLe, gGt, gGe, gIs, gIt, isN, absD, DL.intD, max2, min2, dmod, ixD_l, ixD_t, isiD, tyD, gsel, gEq_int, gNe_int, gEq_str, gNe_str, List.filterMap_cons, List.filterMap_nil, and_self, or_self, List.map_cons, List.map_nil, List.length_cons, List.length_nil, List.cons_append, List.nil_append, List.append_nil, List.replicate_succ, List.replicate_zero, Nat.reduceAdd, Nat.reduceSub, Nat.reduceLeDiff, Nat.reduceEqDiff, List.take_length, List.length_map, List.length_append, List.take_left', List.take_append_of_le_length, Nat.le_refl, Nat.zero_add, Nat.add_zero, and_true, true_and, true_or, or_true, Int.mul_one, Int.one_mul, Nat.one_mul, Nat.mul_one, and_false, false_and, if_pos, if_neg, reduceIte, reduceCtorEq, not_true_eq_false, not_false_eq_true, Bool.not_true, Bool.not_false, beq_self_eq_true, Bool.or_true, Bool.true_or, Bool.or_false, Bool.false_or, Bool.and_true, Bool.true_and, Bool.and_false, Bool.false_and, String.reduceBEq, at0, at1, at2, at3, Int.cast_ofNat_Int, decide_true, decide_false, decide_eq_true_eq, decide_eq_false_iff_not, Bool.not_eq_true', Bool.not_eq_eq_eq_not, Int.reduceSub, Int.reduceNeg, Int.reduceAdd, Int.reduceMul, Int.reduceLT, Int.reduceLE, Int.reduceEq, Int.reducePow, Int.reduceToNat, sumD_map, allD_map, anyD_map, srtD_map, srtD_mapT, tupD, lstD, List.getElem?_cons_zero, List.getElem?_cons_succ, List.set_cons_zero, List.set_cons_succ, Option.some.injEq, Option.map_some, Option.map_none, Bool.false_eq_true, if_true, if_false, a1, r1, a2, r2, walk_lot]
  refine (ok_eq (lc_mapA (fun t => PyData.int (t : Nat)) (fun (t : Nat) => PyData.int ((2 ^ t : Nat) : Int)) (lt5 k) fun t ht => ?_)).mpr ?_
  · simp only [ok_callD, ok_bind, ok_ret, ok_some, ok_none, ok_fail, ok_ifF, ok_lif, ok_var, ok_C, ok_rdim, ok_toim, ok_bin, ok_fTst, ok_fAnd, ok_fOr, ok_fNot, ok_chn, startD, outD, fThen, fSet, fAsg, fPar, fPar3, fIfS, fRet, fDrop, fEnd, fBrk, fCnt, fNotT, fAndT, fOrT, fIf, fIsi, fIsi2, fCall, fCallK, fCons, fNil, fCa, fTup, fLst, fLstM, mkM, fApp, appV, ok_putM, get_last, set_last, take_last, gAdd_int, L2.CDiv, L2.CMul, L2.CPow, fIx, ok_ixR, ok_ixI, ok_lenR, ok_callM, fNeg, fRev, fSl, slD, cut1, fON, fOS, fYes, ok_lc, ok_lcBody, ok_for, ok_newM, wipeD, ok_seqL, ok_seqT, ok_seqR, allD_mapF, anyD_mapF, sumD_mapF, List.all_map, fSeq, fRng1, fRng2, fEnum, fZip, gtName, gtSub, gtNil, gtCons, gtTup, mkT, mkL, toDs, DL.gD, gD.rds, c1, c2, ok_lenL, ok_lenT, eq_self, DL.gSub, gMul_int, take_set, ixn20, Int.toNat_natCast, ixn21, List.set_set, gFdv, gMod, gPow, gI, gI0, gLt, gLe, gGt, gGe, gIs, gIt, isN, absD, DL.intD, max2, min2, dmod, ixD_l, ixD_t, isiD, tyD, gsel, gEq_int, gNe_int, gEq_str, gNe_str, List.filterMap_cons, List.filterMap_nil, and_self, or_self, List.map_cons, List.map_nil, List.length_cons, List.length_nil, List.cons_append, List.nil_append, List.append_nil, List.replicate_succ, List.replicate_zero, Nat.reduceAdd, Nat.reduceSub, Nat.reduceLeDiff, Nat.reduceEqDiff, List.take_length, List.length_map, List.length_append, List.take_left', List.take_append_of_le_length, Nat.le_refl, Nat.zero_add, Nat.add_zero, and_true, true_and, true_or, or_true, Int.mul_one, Int.one_mul, Nat.one_mul, Nat.mul_one, and_false, false_and, if_pos, if_neg, reduceIte, reduceCtorEq, not_true_eq_false, not_false_eq_true, Bool.not_true, Bool.not_false, beq_self_eq_true, Bool.or_true, Bool.true_or, Bool.or_false, Bool.false_or, Bool.and_true, Bool.true_and, Bool.and_false, Bool.false_and, String.reduceBEq, at0, at1, at2, at3, Int.cast_ofNat_Int, decide_true, decide_false, decide_eq_true_eq, decide_eq_false_iff_not, Bool.not_eq_true', Bool.not_eq_eq_eq_not, Int.reduceSub, Int.reduceNeg, Int.reduceAdd, Int.reduceMul, Int.reduceLT, Int.reduceLE, Int.reduceEq, Int.reducePow, Int.reduceToNat, sumD_map, allD_map, anyD_map, srtD_map, srtD_mapT, tupD, lstD, List.getElem?_cons_zero, List.getElem?_cons_succ, List.set_cons_zero, List.set_cons_succ, Option.some.injEq, Option.map_some, Option.map_none, Bool.false_eq_true, if_true, if_false, five_at (lk.five.1 t ht)]
  · have e1 : (lt5 k).length ≤ 1000 := by omega
    simp only [ok_callD, ok_bind, ok_ret, ok_some, ok_none, ok_fail, ok_ifF, ok_lif, ok_var, ok_C, ok_rdim, ok_toim, ok_bin, ok_fTst, ok_fAnd, ok_fOr, ok_fNot, ok_chn, startD, outD, fThen, fSet, fAsg, fPar, fPar3, fIfS, fRet, fDrop, fEnd, fBrk, fCnt, fNotT, fAndT, fOrT, fIf, fIsi, fIsi2, fCall, fCallK, fCons, fNil, fCa, fTup, fLst, fLstM, mkM, fApp, appV, ok_putM, get_last, set_last, take_last, gAdd_int, L2.CDiv, L2.CMul, L2.CPow, fIx, ok_ixR, ok_ixI, ok_lenR, ok_callM, fNeg, fRev, fSl, slD, cut1, fON, fOS, fYes, ok_lc, ok_lcBody, ok_for, ok_newM, wipeD, ok_seqL, ok_seqT, ok_seqR, allD_mapF, anyD_mapF, sumD_mapF, List.all_map, fSeq, fRng1, fRng2, fEnum, fZip, gtName, gtSub, gtNil, gtCons, gtTup, mkT, mkL, toDs, DL.gD, gD.rds, c1, c2, ok_lenL, ok_lenT, eq_self, DL.gSub, gMul_int, take_set, ixn20, Int.toNat_natCast, ixn21, List.set_set, gFdv, gMod, gPow, gI, gI0, gLt, gLe, gGt, gGe, gIs, gIt, isN, absD, DL.intD, max2, min2, dmod, ixD_l, ixD_t, isiD, tyD, gsel, gEq_int, gNe_int, gEq_str, gNe_str, List.filterMap_cons, List.filterMap_nil, and_self, or_self, List.map_cons, List.map_nil, List.length_cons, List.length_nil, List.cons_append, List.nil_append, List.append_nil, List.replicate_succ, List.replicate_zero, Nat.reduceAdd, Nat.reduceSub, Nat.reduceLeDiff, Nat.reduceEqDiff, List.take_length, List.length_map, List.length_append, List.take_left', List.take_append_of_le_length, Nat.le_refl, Nat.zero_add, Nat.add_zero, and_true, true_and, true_or, or_true, Int.mul_one, Int.one_mul, Nat.one_mul, Nat.mul_one, and_false, false_and, if_pos, if_neg, reduceIte, reduceCtorEq, not_true_eq_false, not_false_eq_true, Bool.not_true, Bool.not_false, beq_self_eq_true, Bool.or_true, Bool.true_or, Bool.or_false, Bool.false_or, Bool.and_true, Bool.true_and, Bool.and_false, Bool.false_and, String.reduceBEq, at0, at1, at2, at3, Int.cast_ofNat_Int, decide_true, decide_false, decide_eq_true_eq, decide_eq_false_iff_not, Bool.not_eq_true', Bool.not_eq_eq_eq_not, Int.reduceSub, Int.reduceNeg, Int.reduceAdd, Int.reduceMul, Int.reduceLT, Int.reduceLE, Int.reduceEq, Int.reducePow, Int.reduceToNat, sumD_map, allD_map, anyD_map, srtD_map, srtD_mapT, tupD, lstD, List.getElem?_cons_zero, List.getElem?_cons_succ, List.set_cons_zero, List.set_cons_succ, Option.some.injEq, Option.map_some, Option.map_none, Bool.false_eq_true, if_true, if_false, e1, numI_sum, nk, a3, a4, r3, aw, mul_two, walk_lot]
    refine right_loop1 hn hl hp lk.lt l5 fun x11 f hf f0 f1 f2 => ?_
    rw [← hf] at a5 a6
    obtain ⟨g1, g2, g3, g4, _⟩ := red_ok (t := f.1) f0
    have r4 := rep_pair (rs_fr (p := red f.1 f.2) (by omega) (by omega))
    unfold renv
    simp only [ok_callD, ok_bind, ok_ret, ok_some, ok_none, ok_fail, ok_ifF, ok_lif, ok_var, ok_C, ok_rdim, ok_toim, ok_bin, ok_fTst, ok_fAnd, ok_fOr, ok_fNot, ok_chn, startD, outD, fThen, fSet, fAsg, fPar, fPar3, fIfS, fRet, fDrop, fEnd, fBrk, fCnt, fNotT, fAndT, fOrT, fIf, fIsi, fIsi2, fCall, fCallK, fCons, fNil, fCa, fTup, fLst, fLstM, mkM, fApp, appV, ok_putM, get_last, set_last, take_last, gAdd_int, L2.CDiv, L2.CMul, L2.CPow, fIx, ok_ixR, ok_ixI, ok_lenR, ok_callM, fNeg, fRev, fSl, slD, cut1, fON, fOS, fYes, ok_lc, ok_lcBody, ok_for, ok_newM, wipeD, ok_seqL, ok_seqT, ok_seqR, allD_mapF, anyD_mapF, sumD_mapF, List.all_map, fSeq, fRng1, fRng2, fEnum, fZip, gtName, gtSub, gtNil, gtCons, gtTup, mkT, mkL, toDs, DL.gD, gD.rds, c1, c2, ok_lenL, ok_lenT, eq_self, DL.gSub, gMul_int, take_set, ixn20, Int.toNat_natCast, ixn21, List.set_set, gFdv, gMod, gPow, gI, gI0, gLt, gLe, gGt, gGe, gIs, gIt, isN, absD, DL.intD, max2, min2, dmod, ixD_l, ixD_t, isiD, tyD, gsel, gEq_int, gNe_int, gEq_str, gNe_str, List.filterMap_cons, List.filterMap_nil, and_self, or_self, List.map_cons, List.map_nil, List.length_cons, List.length_nil, List.cons_append, List.nil_append, List.append_nil, List.replicate_succ, List.replicate_zero, Nat.reduceAdd, Nat.reduceSub, Nat.reduceLeDiff, Nat.reduceEqDiff, List.take_length, List.length_map, List.length_append, List.take_left', List.take_append_of_le_length, Nat.le_refl, Nat.zero_add, Nat.add_zero, and_true, true_and, true_or, or_true, Int.mul_one, Int.one_mul, Nat.one_mul, Nat.mul_one, and_false, false_and, if_pos, if_neg, reduceIte, reduceCtorEq, not_true_eq_false, not_false_eq_true, Bool.not_true, Bool.not_false, beq_self_eq_true, Bool.or_true, Bool.true_or, Bool.or_false, Bool.false_or, Bool.and_true, Bool.true_and, Bool.and_false, Bool.false_and, String.reduceBEq, at0, at1, at2, at3, Int.cast_ofNat_Int, decide_true, decide_false, decide_eq_true_eq, decide_eq_false_iff_not, Bool.not_eq_true', Bool.not_eq_eq_eq_not, Int.reduceSub, Int.reduceNeg, Int.reduceAdd, Int.reduceMul, Int.reduceLT, Int.reduceLE, Int.reduceEq, Int.reducePow, Int.reduceToNat, sumD_map, allD_map, anyD_map, srtD_map, srtD_mapT, tupD, lstD, List.getElem?_cons_zero, List.getElem?_cons_succ, List.set_cons_zero, List.set_cons_succ, Option.some.injEq, Option.map_some, Option.map_none, Bool.false_eq_true, if_true, if_false, cut_ok (t := f.1) f0 (show f.2 < 1073741824 by omega), a5, a6, r4]
    exact hq _ _ _ _
end G11
namespace G11
open PySem DL
def ck6 : Bool := (List.range 6).all fun n => SeqAt.shaped (.list ((lots n).map lotD)) && (List.range (2 ^ n)).all fun j => SeqAt.shaped (lotD (lt5 j)) && (findD (lotD (lt5 j)) ((lots n).map lotD) == some j)
theorem ck6_ok : ck6 = true := by decide +kernel
theorem idx_ok {n j : Nat} (hn : n ≤ 5) (hj : j < 2 ^ n) : idxD (.list ((lots n).map lotD)) (lotD (lt5 j)) = some (.int (j : Nat)) := by
  have h := ck6_ok
  unfold ck6 at h
  have h1 := List.all_eq_true.mp h n (List.mem_range.mpr (by omega))
  obtain ⟨h2, h3⟩ := Bool.and_eq_true_iff.mp h1
  have h4 := List.all_eq_true.mp h3 j (List.mem_range.mpr hj)
  obtain ⟨h5, h6⟩ := Bool.and_eq_true_iff.mp h4
  unfold idxD
  simp only [h2, h5, and_self, if_true, beq_iff_eq.mp h6, Option.map_some]
def Bs (st : Sto) (i : Nat) (ext : Sto) (c x : Cell) : Sto := st.set i c ++ ext ++ [x]
section
variable {st ext : Sto} {i : Nat}
theorem bs_i (hi : i < st.length) {c x : Cell} : (Bs st i ext c x)[i]? = some c := by
  unfold Bs
  rw [List.getElem?_append_left (by simp; omega), List.getElem?_append_left (by simp; omega)]
  exact List.getElem?_set_self hi
theorem bs_q {c x : Cell} : (Bs st i ext c x)[st.length + ext.length]? = some x := by
  unfold Bs
  rw [List.getElem?_append_right (by simp)]
  simp
theorem bs_seti (hi : i < st.length) {c c' x : Cell} : (Bs st i ext c x).set i c' = Bs st i ext c' x := by
  unfold Bs
  rw [List.set_append_left _ _ (by simp; omega), List.set_append_left _ _ (by simp; omega), List.set_set]
theorem bs_setq {c x y : Cell} : (Bs st i ext c x).set (st.length + ext.length) y = Bs st i ext c y := by
  unfold Bs
  rw [List.set_append_right _ _ (by simp)]
  simp
end
theorem seqIx {d : Int} {n : Nat} (h0 : 0 ≤ d) (h1 : d < n) : seqIndex? d n = some d.toNat := by
  unfold seqIndex?
  have n0 : ¬ d < 0 := by omega
  simp [n0, h0, h1]
theorem ok_popM {q : Nat} {d : Int} {st : Sto} {Q : DV → Sto → Prop} {xs : List PyData} {y : PyData} (h : st[q]? = some (true, xs)) (h0 : 0 ≤ d) (h1 : d < xs.length) (h2 : xs.length < 1000) (hy : xs[d.toNat]? = some y) : Ok (popV (.mu q) (.im (.int d))) st Q ↔ Q (.im y) (st.set q (true, xs.eraseIdx d.toNat)) := by
  show Ok (bindM (getM q) _) st Q ↔ _
  have hb : -(2 ^ 63) ≤ d ∧ d < 2 ^ 63 := by omega
  rw [ok_bind, ok_getM h, if_pos hb, seqIx h0 h1, ok_bind, ok_some, hy, ok_bind, ok_some, ok_bind, ok_putM, ok_ret]
/-- what stands in the last loops -/
structure Left (n h : Nat) (L : List Nat) : Prop where
  nd : L.Nodup
  lt : ∀ t ∈ L, t < n ∧ t ∉ lt5 h
  len : L.length ≤ n
theorem mem_up {n h t u : Nat} (hn : n ≤ 5) (hh : h < 2 ^ n) (ht : t < n) (hnt : t ∉ lt5 h) (hu : u ≠ t) (hnu : u ∉ lt5 h) : u ∉ lt5 (h + 2 ^ t) := by
  have e := ((fin4 n (by omega) h hh t ht).resolve_left hnt).2
  intro hm
  have h1 : (u : Int) ∈ (lt5 (h + 2 ^ t)).map Int.ofNat := List.mem_map.mpr ⟨u, hm, rfl⟩
  rw [← e] at h1
  have h2 := (isort_perm _).mem_iff.mp h1
  obtain ⟨v, hv, hv2⟩ := List.mem_map.mp h2
  have hv3 : v = u := Int.ofNat.inj hv2
  subst hv3
  rcases List.mem_append.mp hv with hv | hv
  · exact hnu hv
  · exact hu (List.mem_singleton.mp hv)
theorem Left.next {n h : Nat} {L : List Nat} (hL : Left n h L) (hn : n ≤ 5) (hh : h < 2 ^ n) {j : Nat} (hj : j < L.length) : Left n (h + 2 ^ L[j]) (L.eraseIdx j) := by
  have hm := hL.lt _ (List.getElem_mem hj)
  refine ⟨hL.nd.eraseIdx j, fun u hu => ?_, Nat.le_trans (List.length_eraseIdx_le _ _) hL.len⟩
  have hu2 := List.mem_of_mem_eraseIdx hu
  have hlt := hL.lt u hu2
  refine ⟨hlt.1, mem_up hn hh hm.1 hm.2 (fun e => ?_) hlt.2⟩
  obtain ⟨a, ha, hne, hae⟩ := List.mem_eraseIdx_iff_getElem.mp hu
  have e1 : L[a]? = some u := by rw [List.getElem?_eq_getElem ha, hae]
  have e2 : L[j]? = some u := by rw [List.getElem?_eq_getElem hj, e]
  exact hne (L2.nd_ix hL.nd e1 e2)
theorem erase_map {α β : Type} {f : α → β} : ∀ (l : List α) (j : Nat), (l.map f).eraseIdx j = (l.eraseIdx j).map f
  | [], _ => rfl
  | _ :: _, 0 => rfl
  | a :: l, j + 1 => by
    rw [List.map_cons, List.eraseIdx_cons_succ, List.eraseIdx_cons_succ, List.map_cons, erase_map l j]
theorem late_1 {h u : Nat} (hl : (lt5 h).length ≤ 1000) : gAdd (lotD (lt5 h)) (.tuple [.int (u : Nat)]) = some (.tuple (((lt5 h ++ [u]).map Int.ofNat).map .int)) := by
  have e1 : ((lt5 h).map fun t => PyData.int (t : Nat)) ++ [PyData.int (u : Nat)] = ((lt5 h ++ [u]).map Int.ofNat).map PyData.int := by simp
  unfold lotD gAdd
  simp only [e1, List.length_map, List.length_singleton]
  rw [if_pos (by omega)]
theorem late_2 {l : List Nat} : PyData.tuple ((l.map Int.ofNat).map .int) = lotD l := (lotD_int l).symm
theorem srt_lot {l : List Nat} : srtD (lotD l) = some (.list ((isort (l.map Int.ofNat)).map .int)) := by rw [lotD_int, srtD_mapT]
theorem ok_idx {fo fe : FE} {env : DEnv} {st : Sto} {Q : DV → Sto → Prop} : Ok (fIdx fo fe env) st Q ↔ Ok (fo env) st fun o s => Ok (fe env) s fun d s => Ok (rdV o) s fun x s => Ok (rdV d) s fun y s => Ok (liftO (idxD x y)) s fun r s => Q (.im r) s := by
  simp only [fIdx, ok_bind, ok_ret]
theorem right_loop3 {st ext : Sto} {i n h : Nat} (hi : i < st.length) {ws : List Int} (t : Tab n ws) {sh : Str} {ps : List Fr} {x7 x8 x9 x10 x11 x12 x13 x17 : Option DV} {c : Cell} (g : GoodC c) {L : List Nat} (hL : Left n h L) (hh : h < 2 ^ n) (h0 : 0 < L.length) {w : Int} (hw : ws[h]? = some w) {Q : Out → Sto → Prop}
    (hq : ∀ j (hj : j < L.length) x11 x12 x17 c' w', ws[h + 2 ^ L[j]]? = some w' → GoodC c' →
      Q (.nx (renv i n ws sh ps x7 x8 x9 x10 x11 x12 x13 (some (.mu (st.length + ext.length))) (some (.im (lotD (lt5 (h + 2 ^ L[j]))))) (some (.im (.int w'))) x17)) (Bs st i ext c' (true, (L.eraseIdx j).map fun t => .int (t : Nat)))) :
    Ok (b__law_right_loop3 (renv i n ws sh ps x7 x8 x9 x10 x11 x12 x13 (some (.mu (st.length + ext.length))) (some (.im (lotD (lt5 h)))) (some (.im (.int w))) x17)) (Bs st i ext c (true, L.map fun t => .int (t : Nat))) Q := by
  have hn := t.hi
  have hLn : L.length ≤ 5 := Nat.le_trans hL.len hn
  unfold b__law_right_loop3 renv
  simp only [ok_callD, ok_bind, ok_ret, ok_some, ok_none, ok_fail, ok_ifF, ok_lif, ok_var, ok_C, ok_rdim, ok_toim, ok_bin, ok_fTst, ok_fAnd, ok_fOr, ok_fNot, ok_chn, startD, outD, fThen, fSet, fAsg, fPar, fPar3, fIfS, fRet, fDrop, fEnd, fBrk, fCnt, fNotT, fAndT, fOrT, fIf, fIsi, fIsi2, fCall, fCallK, fCons, fNil, fCa, fTup, fLst, fLstM, mkM, fApp, appV, ok_putM, get_last, set_last, take_last, gAdd_int, L2.CDiv, L2.CMul, L2.CPow, fIx, ok_ixR, ok_ixI, ok_lenR, ok_callM, fNeg, fRev, fSl, slD, cut1, fON, fOS, fYes, ok_lc, ok_lcBody, ok_for, ok_newM, wipeD, ok_seqL, ok_seqT, ok_seqR, allD_mapF, anyD_mapF, sumD_mapF, List.all_map, fSeq, fRng1, fRng2, fEnum, fZip, gtName, gtSub, gtNil, gtCons, gtTup, mkT, mkL, toDs, DL.gD, gD.rds, c1, c2, ok_lenL, ok_lenT, eq_self, DL.gSub, gMul_int, take_set, ixn20, Int.toNat_natCast, ixn21, List.set_set, gFdv, gMod, gPow, gI, gI0, gLt, gLe, gGt, gGe, gIs, gIt, isN, absD, DL.intD, max2, min2, dmod, ixD_l, ixD_t, isiD, tyD, gsel, gEq_int, gNe_int, gEq_str, gNe_str, List.filterMap_cons, List.filterMap_nil, and_self, or_self, List.map_cons, List.map_nil, List.length_cons, List.length_nil, List.cons_append, List.nil_append, List.append_nil, List.replicate_succ, List.replicate_zero, Nat.reduceAdd, Nat.reduceSub, Nat.reduceLeDiff, Nat.reduceEqDiff, List.take_length, List.length_map, List.length_append, List.take_left', List.take_append_of_le_length, Nat.le_refl, Nat.zero_add, Nat.add_zero, and_true, true_and, true_or, or_true, Int.mul_one, Int.one_mul, Nat.one_mul, Nat.mul_one, and_false, false_and, if_pos, if_neg, reduceIte, reduceCtorEq, not_true_eq_false, not_false_eq_true, Bool.not_true, Bool.not_false, beq_self_eq_true, Bool.or_true, Bool.true_or, Bool.or_false, Bool.false_or, Bool.and_true, Bool.true_and, Bool.and_false, Bool.false_and, String.reduceBEq, at0, at1, at2, at3, Int.cast_ofNat_Int, decide_true, decide_false, decide_eq_true_eq, decide_eq_false_iff_not, Bool.not_eq_true', Bool.not_eq_eq_eq_not, Int.reduceSub, Int.reduceNeg, Int.reduceAdd, Int.reduceMul, Int.reduceLT, Int.reduceLE, Int.reduceEq, Int.reducePow, Int.reduceToNat, sumD_map, allD_map, anyD_map, srtD_map, srtD_mapT, tupD, lstD, List.getElem?_cons_zero, List.getElem?_cons_succ, List.set_cons_zero, List.set_cons_succ, Option.some.injEq, Option.map_some, Option.map_none, Bool.false_eq_true, if_true, if_false, fPopAt, ok_lenM bs_q]
  refine draw_then (bs_i hi) g (by omega) (by omega) fun d c' d0 d1 g' => ?_
  rw [bs_seti hi]
  obtain ⟨j, rfl⟩ : ∃ j : Nat, d = (j : Int) := ⟨d.toNat, by omega⟩
  have hj : j < L.length := by omega
  have hy : (L.map fun t => PyData.int (t : Nat))[(j : Int).toNat]? = some (.int (L[j] : Nat)) := by
    rw [Int.toNat_natCast, List.getElem?_map, List.getElem?_eq_getElem hj]
    rfl
  rw [ok_popM bs_q (by omega) (by rw [List.length_map]; omega) (by rw [List.length_map]; omega) hy, bs_setq, Int.toNat_natCast]
  have hm := hL.lt _ (List.getElem_mem hj)
  have hqj := hq j hj
  generalize L[j] = u at *
  have hu := up_i hn hh hm.1 hm.2
  obtain ⟨w', hw'⟩ : ∃ w', ws[h + 2 ^ u]? = some w' := ⟨_, List.getElem?_eq_getElem (by rw [t.len]; exact hu)⟩
  have b1 := t.bd _ (List.mem_of_getElem? hw)
  have b2 := t.bd _ (List.mem_of_getElem? hw')
  have l1 := (lot_i hn hh).five
  have e2 := ((fin4 n (by omega) h hh u hm.1).resolve_left hm.2).2
  have aw : L2.atI (ws.map PyData.int) (h : Int) = some (.int w) := by rw [atI_nat (j := h) rfl, List.getElem?_map, hw]; rfl
  have aw2 : L2.atI (ws.map PyData.int) (((h + 2 ^ u : Nat)) : Int) = some (.int w') := by rw [atI_nat (j := h + 2 ^ u) rfl, List.getElem?_map, hw']; rfl
  have ad : ∀ {st : Sto} {Q : DV → Sto → Prop}, Ok (f_adds [.im (.tuple [.int (n : Nat), .list (ws.map .int)]), .im (lotD (lt5 h)), .im (.int (u : Nat))]) st Q ↔ Q (.im (.int (w' - w))) st := fun {st Q} => adds_ok (l := true) t hh hm.1 hm.2 hw' hw
  have wo : ∀ {st : Sto} {Q : DV → Sto → Prop}, Ok (f_worth [.im (.tuple [.int (n : Nat), .list (ws.map .int)]), .im (lotD (lt5 (h + 2 ^ u)))]) st Q ↔ Q (.im (.int w')) st := fun {st Q} => worth_ok (l := true) t (lot_i hn hu) (by rw [num_i hn hu]; exact hw')
  have r3 := rep_pair (rs_small (i := w' - w) (by omega))
  have ew : w + (w' - w) = w' := by omega
  simp only [ok_callD, ok_bind, ok_ret, ok_some, ok_none, ok_fail, ok_ifF, ok_lif, ok_var, ok_C, ok_rdim, ok_toim, ok_bin, ok_fTst, ok_fAnd, ok_fOr, ok_fNot, ok_chn, startD, outD, fThen, fSet, fAsg, fPar, fPar3, fIfS, fRet, fDrop, fEnd, fBrk, fCnt, fNotT, fAndT, fOrT, fIf, fIsi, fIsi2, fCall, fCallK, fCons, fNil, fCa, fTup, fLst, fLstM, mkM, fApp, appV, ok_putM, get_last, set_last, take_last, gAdd_int, L2.CDiv, L2.CMul, L2.CPow, fIx, ok_ixR, ok_ixI, ok_lenR, ok_callM, fNeg, fRev, fSl, slD, cut1, fON, fOS, fYes, ok_lc, ok_lcBody, ok_for, ok_newM, wipeD, ok_seqL, ok_seqT, ok_seqR, allD_mapF, anyD_mapF, sumD_mapF, List.all_map, fSeq, fRng1, fRng2, fEnum, fZip, gtName, gtSub, gtNil, gtCons, gtTup, mkT, mkL, toDs, DL.gD, gD.rds, c1, c2, ok_lenL, ok_lenT, eq_self, DL.gSub, gMul_int, take_set, ixn20, Int.toNat_natCast, ixn21, List.set_set, gFdv, gMod, gPow, gI, gI0, gLt, gLe, gGt, gGe, gIs, gIt, isN, absD, DL.intD, max2, min2, dmod, ixD_l, ixD_t, isiD, tyD, gsel, gEq_int, gNe_int, gEq_str, gNe_str, List.filterMap_cons, List.filterMap_nil, and_self, or_self, List.map_cons, List.map_nil, List.length_cons, List.length_nil, List.cons_append, List.nil_append, List.append_nil, List.replicate_succ, List.replicate_zero, Nat.reduceAdd, Nat.reduceSub, Nat.reduceLeDiff, Nat.reduceEqDiff, List.take_length, List.length_map, List.length_append, List.take_left', List.take_append_of_le_length, Nat.le_refl, Nat.zero_add, Nat.add_zero, and_true, true_and, true_or, or_true, Int.mul_one, Int.one_mul, Nat.one_mul, Nat.mul_one, and_false, false_and, if_pos, if_neg, reduceIte, reduceCtorEq, not_true_eq_false, not_false_eq_true, Bool.not_true, Bool.not_false, beq_self_eq_true, Bool.or_true, Bool.true_or, Bool.or_false, Bool.false_or, Bool.and_true, Bool.true_and, Bool.and_false, Bool.false_and, String.reduceBEq, at0, at1, at2, at3, Int.cast_ofNat_Int, decide_true, decide_false, decide_eq_true_eq, decide_eq_false_iff_not, Bool.not_eq_true', Bool.not_eq_eq_eq_not, Int.reduceSub, Int.reduceNeg, Int.reduceAdd, Int.reduceMul, Int.reduceLT, Int.reduceLE, Int.reduceEq, Int.reducePow, Int.reduceToNat, sumD_map, allD_map, anyD_map, srtD_map, srtD_mapT, tupD, lstD, List.getElem?_cons_zero, List.getElem?_cons_succ, List.set_cons_zero, List.set_cons_succ, Option.some.injEq, Option.map_some, Option.map_none, Bool.false_eq_true, if_true, if_false, late_1 l1.2, e2, late_2, srt_lot, ok_idx, idx_ok hn hu, idx_ok hn hh, aw, aw2, ad, r3, wo, ew, erase_map]
  exact hqj _ _ _ _ _ hw' g'
theorem lay_nats : ∀ {L : List Nat}, PyData.canLayAll0 (L.map fun t => PyData.int (t : Nat)) = true
  | [] => rfl
  | a :: r => by
    show (PyData.canLay0 (.int (a : Nat)) && PyData.canLayAll0 (r.map fun t => PyData.int (t : Nat))) = true
    rw [lay_nats]
    rfl
theorem dep_nats : ∀ {L : List Nat}, PyData.depthAll (L.map fun t => PyData.int (t : Nat)) = 0
  | [] => rfl
  | a :: r => by
    show max (PyData.depth (.int (a : Nat))) (PyData.depthAll (r.map fun t => PyData.int (t : Nat))) = 0
    rw [dep_nats]
    rfl
theorem ok_rdM {q : Nat} {b : Bool} {xs : List PyData} {st : Sto} {Q : PyData → Sto → Prop} (h : st[q]? = some (b, xs)) : Ok (rdV (.mu q)) st Q ↔ Q (.list xs) st := ok_eq (by simp only [rdV, h])
theorem gNe_nil {L : List Nat} : gNe (.list (L.map fun t => .int (t : Nat))) (.list []) = some (.bool (!decide (L = []))) := by
  cases L with
  | nil => rfl
  | cons a r =>
    have sh : SeqAt.shaped (.list ((a :: r).map fun t => PyData.int (t : Nat))) = true := by
      show (PyData.canLayAll0 ((a :: r).map fun t => PyData.int (t : Nat)) && decide (PyData.depthAll ((a :: r).map fun t => PyData.int (t : Nat)) + 1 ≤ 64)) = true
      rw [lay_nats, dep_nats]
      rfl
    show (if SeqAt.shaped (.list ((a :: r).map fun t => PyData.int (t : Nat))) = true ∧ SeqAt.shaped (.list []) = true then some (PyData.eqv (.list ((a :: r).map fun t => PyData.int (t : Nat))) (.list [])) else none).map (fun b => PyData.bool (!b)) = _
    rw [if_pos ⟨sh, rfl⟩]
    rfl
theorem left_test {st ext : Sto} {i n : Nat} {ws : List Int} {sh : Str} {ps : List Fr} {x7 x8 x9 x10 x11 x12 x13 x15 x16 x17 : Option DV} {c : Cell} {L : List Nat} {Q : Bool → Sto → Prop} :
    Ok (fTst (fBin gNe (fVar 14) (fLst fNil)) (renv i n ws sh ps x7 x8 x9 x10 x11 x12 x13 (some (.mu (st.length + ext.length))) x15 x16 x17)) (Bs st i ext c (true, L.map fun t => .int (t : Nat))) Q ↔ Q (!decide (L = [])) (Bs st i ext c (true, L.map fun t => .int (t : Nat))) := by
  unfold renv
  simp only [ok_callD, ok_bind, ok_ret, ok_some, ok_none, ok_fail, ok_ifF, ok_lif, ok_var, ok_C, ok_rdim, ok_toim, ok_bin, ok_fTst, ok_fAnd, ok_fOr, ok_fNot, ok_chn, startD, outD, fThen, fSet, fAsg, fPar, fPar3, fIfS, fRet, fDrop, fEnd, fBrk, fCnt, fNotT, fAndT, fOrT, fIf, fIsi, fIsi2, fCall, fCallK, fCons, fNil, fCa, fTup, fLst, fLstM, mkM, fApp, appV, ok_putM, get_last, set_last, take_last, gAdd_int, L2.CDiv, L2.CMul, L2.CPow, fIx, ok_ixR, ok_ixI, ok_lenR, ok_callM, fNeg, fRev, fSl, slD, cut1, fON, fOS, fYes, ok_lc, ok_lcBody, ok_for, ok_newM, wipeD, ok_seqL, ok_seqT, ok_seqR, allD_mapF, anyD_mapF, sumD_mapF, List.all_map, fSeq, fRng1, fRng2, fEnum, fZip, gtName, gtSub, gtNil, gtCons, gtTup, mkT, mkL, toDs, DL.gD, gD.rds, c1, c2, ok_lenL, ok_lenT, eq_self, DL.gSub, gMul_int, take_set, ixn20, Int.toNat_natCast, ixn21, List.set_set, gFdv, gMod, gPow, gI, gI0, gLt, gLe, gGt, gGe, gIs, gIt, isN, absD, DL.intD, max2, min2, dmod, ixD_l, ixD_t, isiD, tyD, gsel, gEq_int, gNe_int, gEq_str, gNe_str, List.filterMap_cons, List.filterMap_nil, and_self, or_self, List.map_cons, List.map_nil, List.length_cons, List.length_nil, List.cons_append, List.nil_append, List.append_nil, List.replicate_succ, List.replicate_zero, Nat.reduceAdd, Nat.reduceSub, Nat.reduceLeDiff, Nat.reduceEqDiff, List.take_length, List.length_map, List.length_append, List.take_left', List.take_append_of_le_length, Nat.le_refl, Nat.zero_add, Nat.add_zero, and_true, true_and, true_or, or_true, Int.mul_one, Int.one_mul, Nat.one_mul, Nat.mul_one, and_false, false_and, if_pos, if_neg, reduceIte, reduceCtorEq, not_true_eq_false, not_false_eq_true, Bool.not_true, Bool.not_false, beq_self_eq_true, Bool.or_true, Bool.true_or, Bool.or_false, Bool.false_or, Bool.and_true, Bool.true_and, Bool.and_false, Bool.false_and, String.reduceBEq, at0, at1, at2, at3, Int.cast_ofNat_Int, decide_true, decide_false, decide_eq_true_eq, decide_eq_false_iff_not, Bool.not_eq_true', Bool.not_eq_eq_eq_not, Int.reduceSub, Int.reduceNeg, Int.reduceAdd, Int.reduceMul, Int.reduceLT, Int.reduceLE, Int.reduceEq, Int.reducePow, Int.reduceToNat, sumD_map, allD_map, anyD_map, srtD_map, srtD_mapT, tupD, lstD, List.getElem?_cons_zero, List.getElem?_cons_succ, List.set_cons_zero, List.set_cons_succ, Option.some.injEq, Option.map_some, Option.map_none, Bool.false_eq_true, if_true, if_false, ok_rdM bs_q, gNe_nil]
theorem right_loop4 {st ext : Sto} {i n : Nat} (hi : i < st.length) {ws : List Int} (t : Tab n ws) {sh : Str} {ps : List Fr} {x7 x8 x9 x10 x11 x12 x13 x14 x15 x16 x17 : Option DV} {c : Cell} (g : GoodC c) {Q : Out → Sto → Prop}
    (hq : ∀ x11 x12 x14 x15 x16 x17 c' y, GoodC c' → Q (.nx (renv i n ws sh ps x7 x8 x9 x10 x11 x12 x13 x14 x15 x16 x17)) (st.set i c' ++ (ext ++ [y]))) :
    Ok (b__law_right_loop4 (renv i n ws sh ps x7 x8 x9 x10 x11 x12 x13 x14 x15 x16 x17)) (st.set i c ++ ext) Q := by
  have hn := t.hi
  have hz := pow_small hn
  have h1 := Nat.two_pow_pos n
  obtain ⟨w, hw⟩ : ∃ w, ws[0]? = some w := ⟨_, List.getElem?_eq_getElem (by rw [t.len]; exact h1)⟩
  have aw : L2.atI (ws.map PyData.int) 0 = some (.int w) := by rw [atI_nat (i := 0) (j := 0) rfl, List.getElem?_map, hw]; rfl
  unfold b__law_right_loop4 renv
  have e0 : ((n : Int) - 0).toNat = n := by omega
  have hb : -4611686018427387904 ≤ (n : Int) ∧ (n : Int) < 4611686018427387904 := by omega
  have hr : (rangeD 0 n).length ≤ 1000 := by rw [rng_len]; omega
  simp only [ok_callD, ok_bind, ok_ret, ok_some, ok_none, ok_fail, ok_ifF, ok_lif, ok_var, ok_C, ok_rdim, ok_toim, ok_bin, ok_fTst, ok_fAnd, ok_fOr, ok_fNot, ok_chn, startD, outD, fThen, fSet, fAsg, fPar, fPar3, fIfS, fRet, fDrop, fEnd, fBrk, fCnt, fNotT, fAndT, fOrT, fIf, fIsi, fIsi2, fCall, fCallK, fCons, fNil, fCa, fTup, fLst, fLstM, mkM, fApp, appV, ok_putM, get_last, set_last, take_last, gAdd_int, L2.CDiv, L2.CMul, L2.CPow, fIx, ok_ixR, ok_ixI, ok_lenR, ok_callM, fNeg, fRev, fSl, slD, cut1, fON, fOS, fYes, ok_lc, ok_lcBody, ok_for, ok_newM, wipeD, ok_seqL, ok_seqT, ok_seqR, allD_mapF, anyD_mapF, sumD_mapF, List.all_map, fSeq, fRng1, fRng2, fEnum, fZip, gtName, gtSub, gtNil, gtCons, gtTup, mkT, mkL, toDs, DL.gD, gD.rds, c1, c2, ok_lenL, ok_lenT, eq_self, DL.gSub, gMul_int, take_set, ixn20, Int.toNat_natCast, ixn21, List.set_set, gFdv, gMod, gPow, gI, gI0, gLt, gLe, gGt, gGe, gIs, gIt, isN, absD, DL.intD, max2, min2, dmod, ixD_l, ixD_t, isiD, tyD, gsel, gEq_int, gNe_int, gEq_str, gNe_str, List.filterMap_cons, List.filterMap_nil, and_self, or_self, List.map_cons, List.map_nil, List.length_cons, List.length_nil, List.cons_append, List.nil_append, List.append_nil, List.replicate_succ, List.replicate_zero, Nat.reduceAdd, Nat.reduceSub, Nat.reduceLeDiff, Nat.reduceEqDiff, List.take_length, List.length_map, List.length_append, List.take_left', List.take_append_of_le_length, Nat.le_refl, Nat.zero_add, Nat.add_zero, and_true, true_and, true_or, or_true, Int.mul_one, Int.one_mul, Nat.one_mul, Nat.mul_one, and_false, false_and, if_pos, if_neg, reduceIte, reduceCtorEq, not_true_eq_false, not_false_eq_true, Bool.not_true, Bool.not_false, beq_self_eq_true, Bool.or_true, Bool.true_or, Bool.or_false, Bool.false_or, Bool.and_true, Bool.true_and, Bool.and_false, Bool.false_and, String.reduceBEq, at0, at1, at2, at3, Int.cast_ofNat_Int, decide_true, decide_false, decide_eq_true_eq, decide_eq_false_iff_not, Bool.not_eq_true', Bool.not_eq_eq_eq_not, Int.reduceSub, Int.reduceNeg, Int.reduceAdd, Int.reduceMul, Int.reduceLT, Int.reduceLE, Int.reduceEq, Int.reducePow, Int.reduceToNat, sumD_map, allD_map, anyD_map, srtD_map, srtD_mapT, tupD, lstD, List.getElem?_cons_zero, List.getElem?_cons_succ, List.set_cons_zero, List.set_cons_succ, Option.some.injEq, Option.map_some, Option.map_none, Bool.false_eq_true, if_true, if_false, fRgl1, rgOf1, rgMk, aw, e0, hb, hr]
  rw [rng_map]
  refine ok_while (fun m env s => ∃ h L c w x11 x12 x17, m = L.length ∧ env = renv i n ws sh ps x7 x8 x9 x10 x11 x12 x13 (some (.mu (st.length + ext.length))) (some (.im (lotD (lt5 h)))) (some (.im (.int w))) x17 ∧ s = Bs st i ext c (true, L.map fun t => .int (t : Nat)) ∧ GoodC c ∧ Left n h L ∧ h < 2 ^ n ∧ ws[h]? = some w) ?_
    (m := (List.range n).length) ⟨0, List.range n, c, w, x11, x12, x17, rfl, by rw [List.length_set]; rfl, rfl, g, ⟨List.nodup_range, fun t ht => ⟨List.mem_range.mp ht, by
      show t ∉ ([] : List Nat)
      simp⟩, by rw [List.length_range]; exact Nat.le_refl _⟩, h1, hw⟩
  rintro m env s ⟨h, L, c, w, x11, x12, x17, rfl, rfl, rfl, g, hL, hh, hw⟩
  rw [left_test]
  by_cases hLe : L = []
  · subst hLe
    simp only [ok_callD, ok_bind, ok_ret, ok_some, ok_none, ok_fail, ok_ifF, ok_lif, ok_var, ok_C, ok_rdim, ok_toim, ok_bin, ok_fTst, ok_fAnd, ok_fOr, ok_fNot, ok_chn, startD, outD, fThen, fSet, fAsg, fPar, fPar3, fIfS, fRet, fDrop, fEnd, fBrk, fCnt, fNotT, fAndT, fOrT, fIf, fIsi, fIsi2, fCall, fCallK, fCons, fNil, fCa, fTup, fLst, fLstM, mkM, fApp, appV, ok_putM, get_last, set_last, take_last, gAdd_int, L2.CDiv, L2.CMul, L2.CPow, fIx, ok_ixR, ok_ixI, ok_lenR, ok_callM, fNeg, fRev, fSl, slD, cut1, fON, fOS, fYes, ok_lc, ok_lcBody, ok_for, ok_newM, wipeD, ok_seqL, ok_seqT, ok_seqR, allD_mapF, anyD_mapF, sumD_mapF, List.all_map, fSeq, fRng1, fRng2, fEnum, fZip, gtName, gtSub, gtNil, gtCons, gtTup, mkT, mkL, toDs, DL.gD, gD.rds, c1, c2, ok_lenL, ok_lenT, eq_self, DL.gSub, gMul_int, take_set, ixn20, Int.toNat_natCast, ixn21, List.set_set, gFdv, gMod, gPow, gI, gI0, gLt, gLe, gGt, gGe, gIs, gIt, isN, absD, DL.intD, max2, min2, dmod, ixD_l, ixD_t, isiD, tyD, gsel, gEq_int, gNe_int, gEq_str, gNe_str, List.filterMap_cons, List.filterMap_nil, and_self, or_self, List.map_cons, List.map_nil, List.length_cons, List.length_nil, List.cons_append, List.nil_append, List.append_nil, List.replicate_succ, List.replicate_zero, Nat.reduceAdd, Nat.reduceSub, Nat.reduceLeDiff, Nat.reduceEqDiff, List.take_length, List.length_map, List.length_append, List.take_left', List.take_append_of_le_length, Nat.le_refl, Nat.zero_add, Nat.add_zero, and_true, true_and, true_or, or_true, Int.mul_one, Int.one_mul, Nat.one_mul, Nat.mul_one, and_false, false_and, if_pos, if_neg, reduceIte, reduceCtorEq, not_true_eq_false, not_false_eq_true, Bool.not_true, Bool.not_false, beq_self_eq_true, Bool.or_true, Bool.true_or, Bool.or_false, Bool.false_or, Bool.and_true, Bool.true_and, Bool.and_false, Bool.false_and, String.reduceBEq, at0, at1, at2, at3, Int.cast_ofNat_Int, decide_true, decide_false, decide_eq_true_eq, decide_eq_false_iff_not, Bool.not_eq_true', Bool.not_eq_eq_eq_not, Int.reduceSub, Int.reduceNeg, Int.reduceAdd, Int.reduceMul, Int.reduceLT, Int.reduceLE, Int.reduceEq, Int.reducePow, Int.reduceToNat, sumD_map, allD_map, anyD_map, srtD_map, srtD_mapT, tupD, lstD, List.getElem?_cons_zero, List.getElem?_cons_succ, List.set_cons_zero, List.set_cons_succ, Option.some.injEq, Option.map_some, Option.map_none, Bool.false_eq_true, if_true, if_false]
    unfold Bs
    rw [List.append_assoc]
    exact hq x11 x12 _ _ _ x17 c _ g
  · have h0 : 0 < L.length := Nat.pos_of_ne_zero fun z => hLe (List.length_eq_zero_iff.mp z)
    have hd : decide (L = []) = false := decide_eq_false hLe
    rw [hd, Bool.not_false, if_pos rfl]
    refine right_loop3 hi t g hL hh h0 hw fun j hj x11 x12 x17 c' w' hw' g' => ?_
    have hm := hL.lt _ (List.getElem_mem hj)
    refine ⟨(L.eraseIdx j).length, ?_, h + 2 ^ L[j], L.eraseIdx j, c', w', x11, x12, x17, rfl, rfl, rfl, g', hL.next hn hh hj, up_i hn hh hm.1 hm.2, hw'⟩
    rw [List.length_eraseIdx_of_lt hj]
    omega
theorem right_6 {st : Sto} {i n : Nat} (hi : i < st.length) {ws : List Int} (t : Tab n ws) {sh : Str} {ps : List Fr} {x7 x8 x9 x10 x11 x12 x13 x14 x15 x16 x17 : Option DV} {c : Cell} (g : GoodC c) {Q : Out → Sto → Prop}
    (hq : ∀ x11 x12 x13 x14 x15 x16 x17 c' ext, GoodC c' → Q (.nx (renv i n ws sh ps x7 x8 x9 x10 x11 x12 x13 x14 x15 x16 x17)) (st.set i c' ++ ext)) :
    Ok (b__law_right_6 (renv i n ws sh ps x7 x8 x9 x10 x11 x12 x13 x14 x15 x16 x17)) (st.set i c) Q := by
  unfold b__law_right_6
  simp only [ok_callD, ok_bind, ok_ret, ok_some, ok_none, ok_fail, ok_ifF, ok_lif, ok_var, ok_C, ok_rdim, ok_toim, ok_bin, ok_fTst, ok_fAnd, ok_fOr, ok_fNot, ok_chn, startD, outD, fThen, fSet, fAsg, fPar, fPar3, fIfS, fRet, fDrop, fEnd, fBrk, fCnt, fNotT, fAndT, fOrT, fIf, fIsi, fIsi2, fCall, fCallK, fCons, fNil, fCa, fTup, fLst, fLstM, mkM, fApp, appV, ok_putM, get_last, set_last, take_last, gAdd_int, L2.CDiv, L2.CMul, L2.CPow, fIx, ok_ixR, ok_ixI, ok_lenR, ok_callM, fNeg, fRev, fSl, slD, cut1, fON, fOS, fYes, ok_lc, ok_lcBody, ok_for, ok_newM, wipeD, ok_seqL, ok_seqT, ok_seqR, allD_mapF, anyD_mapF, sumD_mapF, List.all_map, fSeq, fRng1, fRng2, fEnum, fZip, gtName, gtSub, gtNil, gtCons, gtTup, mkT, mkL, toDs, DL.gD, gD.rds, c1, c2, ok_lenL, ok_lenT, eq_self, DL.gSub, gMul_int, take_set, ixn20, Int.toNat_natCast, ixn21, List.set_set, gFdv, gMod, gPow, gI, gI0, gLt, gLe, gGt, gGe, gIs, gIt, isN, absD, DL.intD, max2, min2, dmod, ixD_l, ixD_t, isiD, tyD, gsel, gEq_int, gNe_int, gEq_str, gNe_str, List.filterMap_cons, List.filterMap_nil, and_self, or_self, List.map_cons, List.map_nil, List.length_cons, List.length_nil, List.cons_append, List.nil_append, List.append_nil, List.replicate_succ, List.replicate_zero, Nat.reduceAdd, Nat.reduceSub, Nat.reduceLeDiff, Nat.reduceEqDiff, List.take_length, List.length_map, List.length_append, List.take_left', List.take_append_of_le_length, Nat.le_refl, Nat.zero_add, Nat.add_zero, and_true, true_and, true_or, or_true, Int.mul_one, Int.one_mul, Nat.one_mul, Nat.mul_one, and_false, false_and, if_pos, if_neg, reduceIte, reduceCtorEq, not_true_eq_false, not_false_eq_true, Bool.not_true, Bool.not_false, beq_self_eq_true, Bool.or_true, Bool.true_or, Bool.or_false, Bool.false_or, Bool.and_true, Bool.true_and, Bool.and_false, Bool.false_and, String.reduceBEq, at0, at1, at2, at3, Int.cast_ofNat_Int, decide_true, decide_false, decide_eq_true_eq, decide_eq_false_iff_not, Bool.not_eq_true', Bool.not_eq_eq_eq_not, Int.reduceSub, Int.reduceNeg, Int.reduceAdd, Int.reduceMul, Int.reduceLT, Int.reduceLE, Int.reduceEq, Int.reducePow, Int.reduceToNat, sumD_map, allD_map, anyD_map, srtD_map, srtD_mapT, tupD, lstD, List.getElem?_cons_zero, List.getElem?_cons_succ, List.set_cons_zero, List.set_cons_succ, Option.some.injEq, Option.map_some, Option.map_none, Bool.false_eq_true, if_true, if_false]
  refine loop_nat (fun k env s => ∃ x11 x12 x13 x14 x15 x16 x17 c ext, env = renv i n ws sh ps x7 x8 x9 x10 x11 x12 x13 x14 x15 x16 x17 ∧ s = st.set i c ++ ext ∧ GoodC c) ?_ ?_ ⟨x11, x12, x13, x14, x15, x16, x17, c, [], rfl, by rw [List.append_nil], g⟩
  · rintro k env s hk ⟨x11, x12, x13, x14, x15, x16, x17, c, ext, rfl, rfl, g⟩
    rw [ok_bind, ok_ret]
    refine right_loop4 (x13 := some (.im (.int (k : Nat)))) hi t g fun x11 x12 x14 x15 x16 x17 c' y g' => ?_
    exact ⟨x11, x12, _, x14, x15, x16, x17, c', ext ++ [y], rfl, rfl, g'⟩
  · rintro env s ⟨x11, x12, x13, x14, x15, x16, x17, c, ext, rfl, rfl, g⟩
    exact hq _ _ _ _ _ _ _ _ _ g
theorem enum_lots {n : Nat} (hn : n ≤ 5) {k : Nat} {d : PyData} (h : (enumD ((lots n).map lotD))[k]? = some d) : k < 2 ^ n ∧ d = .tuple [.int (k : Nat), lotD (lt5 k)] := by
  unfold enumD at h
  rw [List.getElem?_mapIdx, List.getElem?_map] at h
  have hk : k < 2 ^ n := by
    rw [← lots_len]
    by_cases z : k < (lots n).length
    · exact z
    · rw [List.getElem?_eq_none (by omega)] at h; cases h
  rw [(fin1 n (by omega)).2 k hk] at h
  cases h
  exact ⟨hk, rfl⟩
theorem right_5 {i n : Nat} {ws : List Int} (t : Tab n ws) {sh : Str} {ps : List Fr} (hl : ps.length = n) (hp : ∀ p ∈ ps, Pr p) {x7 x8 x9 x10 x11 x12 x13 x14 x15 x16 x17 : Option DV} {s : Sto} {Q : Out → Sto → Prop}
    (hq : ∀ x7 x8 x9 x10 x11 x12, Q (.nx (renv i n ws sh ps x7 x8 x9 x10 x11 x12 x13 x14 x15 x16 x17)) s) :
    Ok (b__law_right_5 (renv i n ws sh ps x7 x8 x9 x10 x11 x12 x13 x14 x15 x16 x17)) s Q := by
  unfold b__law_right_5
  rw [ok_for]
  have e : Ok (fEnum (fCons (fVar 4) fNil) (renv i n ws sh ps x7 x8 x9 x10 x11 x12 x13 x14 x15 x16 x17)) s fun it s' => it = (enumD ((lots n).map lotD), []) ∧ s' = s := by
    unfold renv
    simp only [ok_callD, ok_bind, ok_ret, ok_some, ok_none, ok_fail, ok_ifF, ok_lif, ok_var, ok_C, ok_rdim, ok_toim, ok_bin, ok_fTst, ok_fAnd, ok_fOr, ok_fNot, ok_chn, startD, outD, fThen, fSet, fAsg, fPar, fPar3, fIfS, fRet, fDrop, fEnd, fBrk, fCnt, fNotT, fAndT, fOrT, fIf, fIsi, fIsi2, fCall, fCallK, fCons, fNil, fCa, fTup, fLst, fLstM, mkM, fApp, appV, ok_putM, get_last, set_last, take_last, gAdd_int, L2.CDiv, L2.CMul, L2.CPow, fIx, ok_ixR, ok_ixI, ok_lenR, ok_callM, fNeg, fRev, fSl, slD, cut1, fON, fOS, fYes, ok_lc, ok_lcBody, ok_for, ok_newM, wipeD, ok_seqL, ok_seqT, ok_seqR, allD_mapF, anyD_mapF, sumD_mapF, List.all_map, fSeq, fRng1, fRng2, fEnum, fZip, gtName, gtSub, gtNil, gtCons, gtTup, mkT, mkL, toDs, DL.gD, gD.rds, c1, c2, ok_lenL, ok_lenT, eq_self, DL.gSub, gMul_int, take_set, ixn20, Int.toNat_natCast, ixn21, List.set_set, gFdv, gMod, gPow, gI, gI0, gLt, gLe, gGt, gGe, gIs, gIt, isN, absD, DL.intD, max2, min2, dmod, ixD_l, ixD_t, isiD, tyD, gsel, gEq_int, gNe_int, gEq_str, gNe_str, List.filterMap_cons, List.filterMap_nil, and_self, or_self, List.map_cons, List.map_nil, List.length_cons, List.length_nil, List.cons_append, List.nil_append, List.append_nil, List.replicate_succ, List.replicate_zero, Nat.reduceAdd, Nat.reduceSub, Nat.reduceLeDiff, Nat.reduceEqDiff, List.take_length, List.length_map, List.length_append, List.take_left', List.take_append_of_le_length, Nat.le_refl, Nat.zero_add, Nat.add_zero, and_true, true_and, true_or, or_true, Int.mul_one, Int.one_mul, Nat.one_mul, Nat.mul_one, and_false, false_and, if_pos, if_neg, reduceIte, reduceCtorEq, not_true_eq_false, not_false_eq_true, Bool.not_true, Bool.not_false, beq_self_eq_true, Bool.or_true, Bool.true_or, Bool.or_false, Bool.false_or, Bool.and_true, Bool.true_and, Bool.and_false, Bool.false_and, String.reduceBEq, at0, at1, at2, at3, Int.cast_ofNat_Int, decide_true, decide_false, decide_eq_true_eq, decide_eq_false_iff_not, Bool.not_eq_true', Bool.not_eq_eq_eq_not, Int.reduceSub, Int.reduceNeg, Int.reduceAdd, Int.reduceMul, Int.reduceLT, Int.reduceLE, Int.reduceEq, Int.reducePow, Int.reduceToNat, sumD_map, allD_map, anyD_map, srtD_map, srtD_mapT, tupD, lstD, List.getElem?_cons_zero, List.getElem?_cons_succ, List.set_cons_zero, List.set_cons_succ, Option.some.injEq, Option.map_some, Option.map_none, Bool.false_eq_true, if_true, if_false]
  refine ok_mono e ?_
  rintro it s' ⟨rfl, rfl⟩
  refine loop_at (fun k env s => ∃ x7 x8 x9 x10 x11 x12, env = renv i n ws sh ps x7 x8 x9 x10 x11 x12 x13 x14 x15 x16 x17 ∧ s = s') ?_ ?_ ⟨x7, x8, x9, x10, x11, x12, rfl, rfl⟩
  · rintro k d env s hk ⟨x7, x8, x9, x10, x11, x12, rfl, rfl⟩
    obtain ⟨hk2, rfl⟩ := enum_lots t.hi hk
    have e : gtTup 2 (gtCons (gtName 7) (gtCons (gtName 8) gtNil)) (.im (.tuple [.int (k : Nat), lotD (lt5 k)])) (renv i n ws sh ps x7 x8 x9 x10 x11 x12 x13 x14 x15 x16 x17) = retM (renv i n ws sh ps (some (.im (.int (k : Nat)))) (some (.im (lotD (lt5 k)))) x9 x10 x11 x12 x13 x14 x15 x16 x17) := rfl
    rw [ok_bind, e, ok_ret]
    refine right_loop2 t hl hp hk2 fun x9 x10 x11 x12 => ?_
    exact ⟨_, _, x9, x10, x11, x12, rfl, rfl⟩
  · rintro env s ⟨x7, x8, x9, x10, x11, x12, rfl, rfl⟩
    exact hq _ _ _ _ _ _
theorem right_ok {st : Sto} {i : Nat} {c : Cell} (h : st[i]? = some c) (g : GoodC c) {Q : DV → Sto → Prop} (k : ∀ c', GoodC c' → Q (.im (.bool true)) (st.set i c')) : Ok (f__law_right [.mu i]) st Q := by
  have hi : i < st.length := (List.getElem?_eq_some_iff.mp h).1
  have h2 : ∀ c : Cell, (st.set i c)[i]? = some c := fun c => List.getElem?_set_self hi
  unfold f__law_right b__law_right
  simp only [ok_callD, ok_bind, ok_ret, ok_some, ok_none, ok_fail, ok_ifF, ok_lif, ok_var, ok_C, ok_rdim, ok_toim, ok_bin, ok_fTst, ok_fAnd, ok_fOr, ok_fNot, ok_chn, startD, outD, fThen, fSet, fAsg, fPar, fPar3, fIfS, fRet, fDrop, fEnd, fBrk, fCnt, fNotT, fAndT, fOrT, fIf, fIsi, fIsi2, fCall, fCallK, fCons, fNil, fCa, fTup, fLst, fLstM, mkM, fApp, appV, ok_putM, get_last, set_last, take_last, gAdd_int, L2.CDiv, L2.CMul, L2.CPow, fIx, ok_ixR, ok_ixI, ok_lenR, ok_callM, fNeg, fRev, fSl, slD, cut1, fON, fOS, fYes, ok_lc, ok_lcBody, ok_for, ok_newM, wipeD, ok_seqL, ok_seqT, ok_seqR, allD_mapF, anyD_mapF, sumD_mapF, List.all_map, fSeq, fRng1, fRng2, fEnum, fZip, gtName, gtSub, gtNil, gtCons, gtTup, mkT, mkL, toDs, DL.gD, gD.rds, c1, c2, ok_lenL, ok_lenT, eq_self, DL.gSub, gMul_int, take_set, ixn20, Int.toNat_natCast, ixn21, List.set_set, gFdv, gMod, gPow, gI, gI0, gLt, gLe, gGt, gGe, gIs, gIt, isN, absD, DL.intD, max2, min2, dmod, ixD_l, ixD_t, isiD, tyD, gsel, gEq_int, gNe_int, gEq_str, gNe_str, List.filterMap_cons, List.filterMap_nil, and_self, or_self, List.map_cons, List.map_nil, List.length_cons, List.length_nil, List.cons_append, List.nil_append, List.append_nil, List.replicate_succ, List.replicate_zero, Nat.reduceAdd, Nat.reduceSub, Nat.reduceLeDiff, Nat.reduceEqDiff, List.take_length, List.length_map, List.length_append, List.take_left', List.take_append_of_le_length, Nat.le_refl, Nat.zero_add, Nat.add_zero, and_true, true_and, true_or, or_true, Int.mul_one, Int.one_mul, Nat.one_mul, Nat.mul_one, and_false, false_and, if_pos, if_neg, reduceIte, reduceCtorEq, not_true_eq_false, not_false_eq_true, Bool.not_true, Bool.not_false, beq_self_eq_true, Bool.or_true, Bool.true_or, Bool.or_false, Bool.false_or, Bool.and_true, Bool.true_and, Bool.and_false, Bool.false_and, String.reduceBEq, at0, at1, at2, at3, Int.cast_ofNat_Int, decide_true, decide_false, decide_eq_true_eq, decide_eq_false_iff_not, Bool.not_eq_true', Bool.not_eq_eq_eq_not, Int.reduceSub, Int.reduceNeg, Int.reduceAdd, Int.reduceMul, Int.reduceLT, Int.reduceLE, Int.reduceEq, Int.reducePow, Int.reduceToNat, sumD_map, allD_map, anyD_map, srtD_map, srtD_mapT, tupD, lstD, List.getElem?_cons_zero, List.getElem?_cons_succ, List.set_cons_zero, List.set_cons_succ, Option.some.injEq, Option.map_some, Option.map_none, Bool.false_eq_true, if_true, if_false]
  refine table_drawn h g fun n ws ca t ga => ?_
  have hn := t.hi
  have rt := rep_tab t
  have e1 : tabD true n ws = .tuple [.int (n : Nat), .list (ws.map .int)] := rfl
  rw [e1] at rt ⊢
  have it : ∀ {st : Sto} {Q : DV → Sto → Prop}, Ok (f_is_table [.im (.tuple [.int (n : Nat), .list (ws.map .int)])]) st Q ↔ Q (.im (.bool true)) st := fun {st Q} => is_table_ok (l := true) t
  have it2 : ∀ {st : Sto} {Q : DV → Sto → Prop}, Ok (f_is_table [.im (.tuple [.int (n : Nat), .tuple (ws.map .int)])]) st Q ↔ Q (.im (.bool true)) st := fun {st Q} => is_table_ok (l := false) t
  simp only [ok_callD, ok_bind, ok_ret, ok_some, ok_none, ok_fail, ok_ifF, ok_lif, ok_var, ok_C, ok_rdim, ok_toim, ok_bin, ok_fTst, ok_fAnd, ok_fOr, ok_fNot, ok_chn, startD, outD, fThen, fSet, fAsg, fPar, fPar3, fIfS, fRet, fDrop, fEnd, fBrk, fCnt, fNotT, fAndT, fOrT, fIf, fIsi, fIsi2, fCall, fCallK, fCons, fNil, fCa, fTup, fLst, fLstM, mkM, fApp, appV, ok_putM, get_last, set_last, take_last, gAdd_int, L2.CDiv, L2.CMul, L2.CPow, fIx, ok_ixR, ok_ixI, ok_lenR, ok_callM, fNeg, fRev, fSl, slD, cut1, fON, fOS, fYes, ok_lc, ok_lcBody, ok_for, ok_newM, wipeD, ok_seqL, ok_seqT, ok_seqR, allD_mapF, anyD_mapF, sumD_mapF, List.all_map, fSeq, fRng1, fRng2, fEnum, fZip, gtName, gtSub, gtNil, gtCons, gtTup, mkT, mkL, toDs, DL.gD, gD.rds, c1, c2, ok_lenL, ok_lenT, eq_self, DL.gSub, gMul_int, take_set, ixn20, Int.toNat_natCast, ixn21, List.set_set, gFdv, gMod, gPow, gI, gI0, gLt, gLe, gGt, gGe, gIs, gIt, isN, absD, DL.intD, max2, min2, dmod, ixD_l, ixD_t, isiD, tyD, gsel, gEq_int, gNe_int, gEq_str, gNe_str, List.filterMap_cons, List.filterMap_nil, and_self, or_self, List.map_cons, List.map_nil, List.length_cons, List.length_nil, List.cons_append, List.nil_append, List.append_nil, List.replicate_succ, List.replicate_zero, Nat.reduceAdd, Nat.reduceSub, Nat.reduceLeDiff, Nat.reduceEqDiff, List.take_length, List.length_map, List.length_append, List.take_left', List.take_append_of_le_length, Nat.le_refl, Nat.zero_add, Nat.add_zero, and_true, true_and, true_or, or_true, Int.mul_one, Int.one_mul, Nat.one_mul, Nat.mul_one, and_false, false_and, if_pos, if_neg, reduceIte, reduceCtorEq, not_true_eq_false, not_false_eq_true, Bool.not_true, Bool.not_false, beq_self_eq_true, Bool.or_true, Bool.true_or, Bool.or_false, Bool.false_or, Bool.and_true, Bool.true_and, Bool.and_false, Bool.false_and, String.reduceBEq, at0, at1, at2, at3, Int.cast_ofNat_Int, decide_true, decide_false, decide_eq_true_eq, decide_eq_false_iff_not, Bool.not_eq_true', Bool.not_eq_eq_eq_not, Int.reduceSub, Int.reduceNeg, Int.reduceAdd, Int.reduceMul, Int.reduceLT, Int.reduceLE, Int.reduceEq, Int.reducePow, Int.reduceToNat, sumD_map, allD_map, anyD_map, srtD_map, srtD_mapT, tupD, lstD, List.getElem?_cons_zero, List.getElem?_cons_succ, List.set_cons_zero, List.set_cons_succ, Option.some.injEq, Option.map_some, Option.map_none, Bool.false_eq_true, if_true, if_false, lots_ok hn, rt, b__law_right_3, it, it2, lotsD]
  refine ⟨by omega, ?_⟩
  refine ok_mono (lc_all frD (Js st i) Pr (rangeD 0 n) (fun d hd s hj => ?_) _ ⟨ca, rfl, ga⟩) ?_
  · obtain ⟨u, hu, rfl⟩ := rng_mem hd
    obtain ⟨cc, rfl, gg⟩ := hj
    simp only [ok_callD, ok_bind, ok_ret, ok_some, ok_none, ok_fail, ok_ifF, ok_lif, ok_var, ok_C, ok_rdim, ok_toim, ok_bin, ok_fTst, ok_fAnd, ok_fOr, ok_fNot, ok_chn, startD, outD, fThen, fSet, fAsg, fPar, fPar3, fIfS, fRet, fDrop, fEnd, fBrk, fCnt, fNotT, fAndT, fOrT, fIf, fIsi, fIsi2, fCall, fCallK, fCons, fNil, fCa, fTup, fLst, fLstM, mkM, fApp, appV, ok_putM, get_last, set_last, take_last, gAdd_int, L2.CDiv, L2.CMul, L2.CPow, fIx, ok_ixR, ok_ixI, ok_lenR, ok_callM, fNeg, fRev, fSl, slD, cut1, fON, fOS, fYes, ok_lc, ok_lcBody, ok_for, ok_newM, wipeD, ok_seqL, ok_seqT, ok_seqR, allD_mapF, anyD_mapF, sumD_mapF, List.all_map, fSeq, fRng1, fRng2, fEnum, fZip, gtName, gtSub, gtNil, gtCons, gtTup, mkT, mkL, toDs, DL.gD, gD.rds, c1, c2, ok_lenL, ok_lenT, eq_self, DL.gSub, gMul_int, take_set, ixn20, Int.toNat_natCast, ixn21, List.set_set, gFdv, gMod, gPow, gI, gI0, gLt, gLe, gGt, gGe, gIs, gIt, isN, absD, DL.intD, max2, min2, dmod, ixD_l, ixD_t, isiD, tyD, gsel, gEq_int, gNe_int, gEq_str, gNe_str, List.filterMap_cons, List.filterMap_nil, and_self, or_self, List.map_cons, List.map_nil, List.length_cons, List.length_nil, List.cons_append, List.nil_append, List.append_nil, List.replicate_succ, List.replicate_zero, Nat.reduceAdd, Nat.reduceSub, Nat.reduceLeDiff, Nat.reduceEqDiff, List.take_length, List.length_map, List.length_append, List.take_left', List.take_append_of_le_length, Nat.le_refl, Nat.zero_add, Nat.add_zero, and_true, true_and, true_or, or_true, Int.mul_one, Int.one_mul, Nat.one_mul, Nat.mul_one, and_false, false_and, if_pos, if_neg, reduceIte, reduceCtorEq, not_true_eq_false, not_false_eq_true, Bool.not_true, Bool.not_false, beq_self_eq_true, Bool.or_true, Bool.true_or, Bool.or_false, Bool.false_or, Bool.and_true, Bool.true_and, Bool.and_false, Bool.false_and, String.reduceBEq, at0, at1, at2, at3, Int.cast_ofNat_Int, decide_true, decide_false, decide_eq_true_eq, decide_eq_false_iff_not, Bool.not_eq_true', Bool.not_eq_eq_eq_not, Int.reduceSub, Int.reduceNeg, Int.reduceAdd, Int.reduceMul, Int.reduceLT, Int.reduceLE, Int.reduceEq, Int.reducePow, Int.reduceToNat, sumD_map, allD_map, anyD_map, srtD_map, srtD_mapT, tupD, lstD, List.getElem?_cons_zero, List.getElem?_cons_succ, List.set_cons_zero, List.set_cons_succ, Option.some.injEq, Option.map_some, Option.map_none, Bool.false_eq_true, if_true, if_false]
    refine draw_then (h2 _) gg (by decide) (by decide) fun d cd d0 d1 gd => ?_
    simp only [ok_callD, ok_bind, ok_ret, ok_some, ok_none, ok_fail, ok_ifF, ok_lif, ok_var, ok_C, ok_rdim, ok_toim, ok_bin, ok_fTst, ok_fAnd, ok_fOr, ok_fNot, ok_chn, startD, outD, fThen, fSet, fAsg, fPar, fPar3, fIfS, fRet, fDrop, fEnd, fBrk, fCnt, fNotT, fAndT, fOrT, fIf, fIsi, fIsi2, fCall, fCallK, fCons, fNil, fCa, fTup, fLst, fLstM, mkM, fApp, appV, ok_putM, get_last, set_last, take_last, gAdd_int, L2.CDiv, L2.CMul, L2.CPow, fIx, ok_ixR, ok_ixI, ok_lenR, ok_callM, fNeg, fRev, fSl, slD, cut1, fON, fOS, fYes, ok_lc, ok_lcBody, ok_for, ok_newM, wipeD, ok_seqL, ok_seqT, ok_seqR, allD_mapF, anyD_mapF, sumD_mapF, List.all_map, fSeq, fRng1, fRng2, fEnum, fZip, gtName, gtSub, gtNil, gtCons, gtTup, mkT, mkL, toDs, DL.gD, gD.rds, c1, c2, ok_lenL, ok_lenT, eq_self, DL.gSub, gMul_int, take_set, ixn20, Int.toNat_natCast, ixn21, List.set_set, gFdv, gMod, gPow, gI, gI0, gLt, gLe, gGt, gGe, gIs, gIt, isN, absD, DL.intD, max2, min2, dmod, ixD_l, ixD_t, isiD, tyD, gsel, gEq_int, gNe_int, gEq_str, gNe_str, List.filterMap_cons, List.filterMap_nil, and_self, or_self, List.map_cons, List.map_nil, List.length_cons, List.length_nil, List.cons_append, List.nil_append, List.append_nil, List.replicate_succ, List.replicate_zero, Nat.reduceAdd, Nat.reduceSub, Nat.reduceLeDiff, Nat.reduceEqDiff, List.take_length, List.length_map, List.length_append, List.take_left', List.take_append_of_le_length, Nat.le_refl, Nat.zero_add, Nat.add_zero, and_true, true_and, true_or, or_true, Int.mul_one, Int.one_mul, Nat.one_mul, Nat.mul_one, and_false, false_and, if_pos, if_neg, reduceIte, reduceCtorEq, not_true_eq_false, not_false_eq_true, Bool.not_true, Bool.not_false, beq_self_eq_true, Bool.or_true, Bool.true_or, Bool.or_false, Bool.false_or, Bool.and_true, Bool.true_and, Bool.and_false, Bool.false_and, String.reduceBEq, at0, at1, at2, at3, Int.cast_ofNat_Int, decide_true, decide_false, decide_eq_true_eq, decide_eq_false_iff_not, Bool.not_eq_true', Bool.not_eq_eq_eq_not, Int.reduceSub, Int.reduceNeg, Int.reduceAdd, Int.reduceMul, Int.reduceLT, Int.reduceLE, Int.reduceEq, Int.reducePow, Int.reduceToNat, sumD_map, allD_map, anyD_map, srtD_map, srtD_mapT, tupD, lstD, List.getElem?_cons_zero, List.getElem?_cons_succ, List.set_cons_zero, List.set_cons_succ, Option.some.injEq, Option.map_some, Option.map_none, Bool.false_eq_true, if_true, if_false]
    refine draw_then (h2 _) gd (by decide) (by decide) fun b ce b0 b1 ge => ?_
    obtain ⟨b, rfl⟩ : ∃ m : Nat, b = (m : Int) := ⟨b.toNat, by omega⟩
    have eb : (1 : Int) + (b : Int) = ((b + 1 : Nat) : Int) := by omega
    simp only [ok_callD, ok_bind, ok_ret, ok_some, ok_none, ok_fail, ok_ifF, ok_lif, ok_var, ok_C, ok_rdim, ok_toim, ok_bin, ok_fTst, ok_fAnd, ok_fOr, ok_fNot, ok_chn, startD, outD, fThen, fSet, fAsg, fPar, fPar3, fIfS, fRet, fDrop, fEnd, fBrk, fCnt, fNotT, fAndT, fOrT, fIf, fIsi, fIsi2, fCall, fCallK, fCons, fNil, fCa, fTup, fLst, fLstM, mkM, fApp, appV, ok_putM, get_last, set_last, take_last, gAdd_int, L2.CDiv, L2.CMul, L2.CPow, fIx, ok_ixR, ok_ixI, ok_lenR, ok_callM, fNeg, fRev, fSl, slD, cut1, fON, fOS, fYes, ok_lc, ok_lcBody, ok_for, ok_newM, wipeD, ok_seqL, ok_seqT, ok_seqR, allD_mapF, anyD_mapF, sumD_mapF, List.all_map, fSeq, fRng1, fRng2, fEnum, fZip, gtName, gtSub, gtNil, gtCons, gtTup, mkT, mkL, toDs, DL.gD, gD.rds, c1, c2, ok_lenL, ok_lenT, eq_self, DL.gSub, gMul_int, take_set, ixn20, Int.toNat_natCast, ixn21, List.set_set, gFdv, gMod, gPow, gI, gI0, gLt, gLe, gGt, gGe, gIs, gIt, isN, absD, DL.intD, max2, min2, dmod, ixD_l, ixD_t, isiD, tyD, gsel, gEq_int, gNe_int, gEq_str, gNe_str, List.filterMap_cons, List.filterMap_nil, and_self, or_self, List.map_cons, List.map_nil, List.length_cons, List.length_nil, List.cons_append, List.nil_append, List.append_nil, List.replicate_succ, List.replicate_zero, Nat.reduceAdd, Nat.reduceSub, Nat.reduceLeDiff, Nat.reduceEqDiff, List.take_length, List.length_map, List.length_append, List.take_left', List.take_append_of_le_length, Nat.le_refl, Nat.zero_add, Nat.add_zero, and_true, true_and, true_or, or_true, Int.mul_one, Int.one_mul, Nat.one_mul, Nat.mul_one, and_false, false_and, if_pos, if_neg, reduceIte, reduceCtorEq, not_true_eq_false, not_false_eq_true, Bool.not_true, Bool.not_false, beq_self_eq_true, Bool.or_true, Bool.true_or, Bool.or_false, Bool.false_or, Bool.and_true, Bool.true_and, Bool.and_false, Bool.false_and, String.reduceBEq, at0, at1, at2, at3, Int.cast_ofNat_Int, decide_true, decide_false, decide_eq_true_eq, decide_eq_false_iff_not, Bool.not_eq_true', Bool.not_eq_eq_eq_not, Int.reduceSub, Int.reduceNeg, Int.reduceAdd, Int.reduceMul, Int.reduceLT, Int.reduceLE, Int.reduceEq, Int.reducePow, Int.reduceToNat, sumD_map, allD_map, anyD_map, srtD_map, srtD_mapT, tupD, lstD, List.getElem?_cons_zero, List.getElem?_cons_succ, List.set_cons_zero, List.set_cons_succ, Option.some.injEq, Option.map_some, Option.map_none, Bool.false_eq_true, if_true, if_false, eb]
    rw [cut_ok (by omega) (by omega)]
    obtain ⟨r1, r2, r3, r4, _⟩ := red_ok (t := d - 20) (b := b + 1) (by omega)
    exact ⟨red (d - 20) (b + 1), rfl, ⟨r1, by omega, by omega, r3⟩, ce, rfl, ge⟩
  · rintro xs s ⟨ps, rfl, hl, hp, cb, rfl, gb⟩
    rw [rng_len] at hl
    have hl3 : ps.length ≤ 1000 := by omega
    simp only [ok_callD, ok_bind, ok_ret, ok_some, ok_none, ok_fail, ok_ifF, ok_lif, ok_var, ok_C, ok_rdim, ok_toim, ok_bin, ok_fTst, ok_fAnd, ok_fOr, ok_fNot, ok_chn, startD, outD, fThen, fSet, fAsg, fPar, fPar3, fIfS, fRet, fDrop, fEnd, fBrk, fCnt, fNotT, fAndT, fOrT, fIf, fIsi, fIsi2, fCall, fCallK, fCons, fNil, fCa, fTup, fLst, fLstM, mkM, fApp, appV, ok_putM, get_last, set_last, take_last, gAdd_int, L2.CDiv, L2.CMul, L2.CPow, fIx, ok_ixR, ok_ixI, ok_lenR, ok_callM, fNeg, fRev, fSl, slD, cut1, fON, fOS, fYes, ok_lc, ok_lcBody, ok_for, ok_newM, wipeD, ok_seqL, ok_seqT, ok_seqR, allD_mapF, anyD_mapF, sumD_mapF, List.all_map, fSeq, fRng1, fRng2, fEnum, fZip, gtName, gtSub, gtNil, gtCons, gtTup, mkT, mkL, toDs, DL.gD, gD.rds, c1, c2, ok_lenL, ok_lenT, eq_self, DL.gSub, gMul_int, take_set, ixn20, Int.toNat_natCast, ixn21, List.set_set, gFdv, gMod, gPow, gI, gI0, gLt, gLe, gGt, gGe, gIs, gIt, isN, absD, DL.intD, max2, min2, dmod, ixD_l, ixD_t, isiD, tyD, gsel, gEq_int, gNe_int, gEq_str, gNe_str, List.filterMap_cons, List.filterMap_nil, and_self, or_self, List.map_cons, List.map_nil, List.length_cons, List.length_nil, List.cons_append, List.nil_append, List.append_nil, List.replicate_succ, List.replicate_zero, Nat.reduceAdd, Nat.reduceSub, Nat.reduceLeDiff, Nat.reduceEqDiff, List.take_length, List.length_map, List.length_append, List.take_left', List.take_append_of_le_length, Nat.le_refl, Nat.zero_add, Nat.add_zero, and_true, true_and, true_or, or_true, Int.mul_one, Int.one_mul, Nat.one_mul, Nat.mul_one, and_false, false_and, if_pos, if_neg, reduceIte, reduceCtorEq, not_true_eq_false, not_false_eq_true, Bool.not_true, Bool.not_false, beq_self_eq_true, Bool.or_true, Bool.true_or, Bool.or_false, Bool.false_or, Bool.and_true, Bool.true_and, Bool.and_false, Bool.false_and, String.reduceBEq, at0, at1, at2, at3, Int.cast_ofNat_Int, decide_true, decide_false, decide_eq_true_eq, decide_eq_false_iff_not, Bool.not_eq_true', Bool.not_eq_eq_eq_not, Int.reduceSub, Int.reduceNeg, Int.reduceAdd, Int.reduceMul, Int.reduceLT, Int.reduceLE, Int.reduceEq, Int.reducePow, Int.reduceToNat, sumD_map, allD_map, anyD_map, srtD_map, srtD_mapT, tupD, lstD, List.getElem?_cons_zero, List.getElem?_cons_succ, List.set_cons_zero, List.set_cons_succ, Option.some.injEq, Option.map_some, Option.map_none, Bool.false_eq_true, if_true, if_false, hl3]
    refine right_5 t hl hp fun x7 x8 x9 x10 x11 x12 => ?_
    simp only [ok_callD, ok_bind, ok_ret, ok_some, ok_none, ok_fail, ok_ifF, ok_lif, ok_var, ok_C, ok_rdim, ok_toim, ok_bin, ok_fTst, ok_fAnd, ok_fOr, ok_fNot, ok_chn, startD, outD, fThen, fSet, fAsg, fPar, fPar3, fIfS, fRet, fDrop, fEnd, fBrk, fCnt, fNotT, fAndT, fOrT, fIf, fIsi, fIsi2, fCall, fCallK, fCons, fNil, fCa, fTup, fLst, fLstM, mkM, fApp, appV, ok_putM, get_last, set_last, take_last, gAdd_int, L2.CDiv, L2.CMul, L2.CPow, fIx, ok_ixR, ok_ixI, ok_lenR, ok_callM, fNeg, fRev, fSl, slD, cut1, fON, fOS, fYes, ok_lc, ok_lcBody, ok_for, ok_newM, wipeD, ok_seqL, ok_seqT, ok_seqR, allD_mapF, anyD_mapF, sumD_mapF, List.all_map, fSeq, fRng1, fRng2, fEnum, fZip, gtName, gtSub, gtNil, gtCons, gtTup, mkT, mkL, toDs, DL.gD, gD.rds, c1, c2, ok_lenL, ok_lenT, eq_self, DL.gSub, gMul_int, take_set, ixn20, Int.toNat_natCast, ixn21, List.set_set, gFdv, gMod, gPow, gI, gI0, gLt, gLe, gGt, gGe, gIs, gIt, isN, absD, DL.intD, max2, min2, dmod, ixD_l, ixD_t, isiD, tyD, gsel, gEq_int, gNe_int, gEq_str, gNe_str, List.filterMap_cons, List.filterMap_nil, and_self, or_self, List.map_cons, List.map_nil, List.length_cons, List.length_nil, List.cons_append, List.nil_append, List.append_nil, List.replicate_succ, List.replicate_zero, Nat.reduceAdd, Nat.reduceSub, Nat.reduceLeDiff, Nat.reduceEqDiff, List.take_length, List.length_map, List.length_append, List.take_left', List.take_append_of_le_length, Nat.le_refl, Nat.zero_add, Nat.add_zero, and_true, true_and, true_or, or_true, Int.mul_one, Int.one_mul, Nat.one_mul, Nat.mul_one, and_false, false_and, if_pos, if_neg, reduceIte, reduceCtorEq, not_true_eq_false, not_false_eq_true, Bool.not_true, Bool.not_false, beq_self_eq_true, Bool.or_true, Bool.true_or, Bool.or_false, Bool.false_or, Bool.and_true, Bool.true_and, Bool.and_false, Bool.false_and, String.reduceBEq, at0, at1, at2, at3, Int.cast_ofNat_Int, decide_true, decide_false, decide_eq_true_eq, decide_eq_false_iff_not, Bool.not_eq_true', Bool.not_eq_eq_eq_not, Int.reduceSub, Int.reduceNeg, Int.reduceAdd, Int.reduceMul, Int.reduceLT, Int.reduceLE, Int.reduceEq, Int.reducePow, Int.reduceToNat, sumD_map, allD_map, anyD_map, srtD_map, srtD_mapT, tupD, lstD, List.getElem?_cons_zero, List.getElem?_cons_succ, List.set_cons_zero, List.set_cons_succ, Option.some.injEq, Option.map_some, Option.map_none, Bool.false_eq_true, if_true, if_false]
    refine right_6 hi t gb fun x11 x12 x13 x14 x15 x16 x17 c' ext g' => ?_
    have tk : (st.set i c' ++ ext).take st.length = st.set i c' := by rw [List.take_append_of_le_length (by rw [List.length_set]; exact Nat.le_refl _), take_set]
    unfold renv
    simp only [ok_callD, ok_bind, ok_ret, ok_some, ok_none, ok_fail, ok_ifF, ok_lif, ok_var, ok_C, ok_rdim, ok_toim, ok_bin, ok_fTst, ok_fAnd, ok_fOr, ok_fNot, ok_chn, startD, outD, fThen, fSet, fAsg, fPar, fPar3, fIfS, fRet, fDrop, fEnd, fBrk, fCnt, fNotT, fAndT, fOrT, fIf, fIsi, fIsi2, fCall, fCallK, fCons, fNil, fCa, fTup, fLst, fLstM, mkM, fApp, appV, ok_putM, get_last, set_last, take_last, gAdd_int, L2.CDiv, L2.CMul, L2.CPow, fIx, ok_ixR, ok_ixI, ok_lenR, ok_callM, fNeg, fRev, fSl, slD, cut1, fON, fOS, fYes, ok_lc, ok_lcBody, ok_for, ok_newM, wipeD, ok_seqL, ok_seqT, ok_seqR, allD_mapF, anyD_mapF, sumD_mapF, List.all_map, fSeq, fRng1, fRng2, fEnum, fZip, gtName, gtSub, gtNil, gtCons, gtTup, mkT, mkL, toDs, DL.gD, gD.rds, c1, c2, ok_lenL, ok_lenT, eq_self, DL.gSub, gMul_int, take_set, ixn20, Int.toNat_natCast, ixn21, List.set_set, gFdv, gMod, gPow, gI, gI0, gLt, gLe, gGt, gGe, gIs, gIt, isN, absD, DL.intD, max2, min2, dmod, ixD_l, ixD_t, isiD, tyD, gsel, gEq_int, gNe_int, gEq_str, gNe_str, List.filterMap_cons, List.filterMap_nil, and_self, or_self, List.map_cons, List.map_nil, List.length_cons, List.length_nil, List.cons_append, List.nil_append, List.append_nil, List.replicate_succ, List.replicate_zero, Nat.reduceAdd, Nat.reduceSub, Nat.reduceLeDiff, Nat.reduceEqDiff, List.take_length, List.length_map, List.length_append, List.take_left', List.take_append_of_le_length, Nat.le_refl, Nat.zero_add, Nat.add_zero, and_true, true_and, true_or, or_true, Int.mul_one, Int.one_mul, Nat.one_mul, Nat.mul_one, and_false, false_and, if_pos, if_neg, reduceIte, reduceCtorEq, not_true_eq_false, not_false_eq_true, Bool.not_true, Bool.not_false, beq_self_eq_true, Bool.or_true, Bool.true_or, Bool.or_false, Bool.false_or, Bool.and_true, Bool.true_and, Bool.and_false, Bool.false_and, String.reduceBEq, at0, at1, at2, at3, Int.cast_ofNat_Int, decide_true, decide_false, decide_eq_true_eq, decide_eq_false_iff_not, Bool.not_eq_true', Bool.not_eq_eq_eq_not, Int.reduceSub, Int.reduceNeg, Int.reduceAdd, Int.reduceMul, Int.reduceLT, Int.reduceLE, Int.reduceEq, Int.reducePow, Int.reduceToNat, sumD_map, allD_map, anyD_map, srtD_map, srtD_mapT, tupD, lstD, List.getElem?_cons_zero, List.getElem?_cons_succ, List.set_cons_zero, List.set_cons_succ, Option.some.injEq, Option.map_some, Option.map_none, Bool.false_eq_true, if_true, if_false, rt, tk]
    exact k c' g'
theorem law_true (ns : List Int) : ∃ st', f_law [.ro ns] [] = some (.im (.bool true), st') := by
  have key : Ok (f_law [.ro ns]) [] fun r _ => r = .im (.bool true) := by
    unfold f_law b_law
    simp only [ok_callD, ok_bind, ok_ret, ok_some, ok_none, ok_fail, ok_ifF, ok_lif, ok_var, ok_C, ok_rdim, ok_toim, ok_bin, ok_fTst, ok_fAnd, ok_fOr, ok_fNot, ok_chn, startD, outD, fThen, fSet, fAsg, fPar, fPar3, fIfS, fRet, fDrop, fEnd, fBrk, fCnt, fNotT, fAndT, fOrT, fIf, fIsi, fIsi2, fCall, fCallK, fCons, fNil, fCa, fTup, fLst, fLstM, mkM, fApp, appV, ok_putM, get_last, set_last, take_last, gAdd_int, L2.CDiv, L2.CMul, L2.CPow, fIx, ok_ixR, ok_ixI, ok_lenR, ok_callM, fNeg, fRev, fSl, slD, cut1, fON, fOS, fYes, ok_lc, ok_lcBody, ok_for, ok_newM, wipeD, ok_seqL, ok_seqT, ok_seqR, allD_mapF, anyD_mapF, sumD_mapF, List.all_map, fSeq, fRng1, fRng2, fEnum, fZip, gtName, gtSub, gtNil, gtCons, gtTup, mkT, mkL, toDs, DL.gD, gD.rds, c1, c2, ok_lenL, ok_lenT, eq_self, DL.gSub, gMul_int, take_set, ixn20, Int.toNat_natCast, ixn21, List.set_set, gFdv, gMod, gPow, gI, gI0, gLt, gLe, gGt, gGe, gIs, gIt, isN, absD, DL.intD, max2, min2, dmod, ixD_l, ixD_t, isiD, tyD, gsel, gEq_int, gNe_int, gEq_str, gNe_str, List.filterMap_cons, List.filterMap_nil, and_self, or_self, List.map_cons, List.map_nil, List.length_cons, List.length_nil, List.cons_append, List.nil_append, List.append_nil, List.replicate_succ, List.replicate_zero, Nat.reduceAdd, Nat.reduceSub, Nat.reduceLeDiff, Nat.reduceEqDiff, List.take_length, List.length_map, List.length_append, List.take_left', List.take_append_of_le_length, Nat.le_refl, Nat.zero_add, Nat.add_zero, and_true, true_and, true_or, or_true, Int.mul_one, Int.one_mul, Nat.one_mul, Nat.mul_one, and_false, false_and, if_pos, if_neg, reduceIte, reduceCtorEq, not_true_eq_false, not_false_eq_true, Bool.not_true, Bool.not_false, beq_self_eq_true, Bool.or_true, Bool.true_or, Bool.or_false, Bool.false_or, Bool.and_true, Bool.true_and, Bool.and_false, Bool.false_and, String.reduceBEq, at0, at1, at2, at3, Int.cast_ofNat_Int, decide_true, decide_false, decide_eq_true_eq, decide_eq_false_iff_not, Bool.not_eq_true', Bool.not_eq_eq_eq_not, Int.reduceSub, Int.reduceNeg, Int.reduceAdd, Int.reduceMul, Int.reduceLT, Int.reduceLE, Int.reduceEq, Int.reducePow, Int.reduceToNat, sumD_map, allD_map, anyD_map, srtD_map, srtD_mapT, tupD, lstD, List.getElem?_cons_zero, List.getElem?_cons_succ, List.set_cons_zero, List.set_cons_succ, Option.some.injEq, Option.map_some, Option.map_none, Bool.false_eq_true, if_true, if_false]
    have hb : (-4611686018427387904 ≤ (if (if (ns.length : Int) < 2 then (ns.length : Int) else 2) > 1 then (if (ns.length : Int) < 2 then (ns.length : Int) else 2) else 1) ∧ (if (if (ns.length : Int) < 2 then (ns.length : Int) else 2) > 1 then (if (ns.length : Int) < 2 then (ns.length : Int) else 2) else 1) < 4611686018427387904) ∧
        ((if (if (ns.length : Int) < 2 then (ns.length : Int) else 2) > 1 then (if (ns.length : Int) < 2 then (ns.length : Int) else 2) else 1)).toNat < 10 := by
      split <;> split <;> omega
    generalize (if (if (ns.length : Int) < 2 then (ns.length : Int) else 2) > 1 then (if (ns.length : Int) < 2 then (ns.length : Int) else 2) else 1) = v at *
    refine ⟨hb.1, ?_⟩
    refine ok_mono (lc_all PyData.bool (fun _ => True) (fun b => b = true) (rangeD 0 v.toNat) (fun d hd s _ => ?_) _ trivial) ?_
    · obtain ⟨u, hu, rfl⟩ := rng_mem hd
      simp only [ok_callD, ok_bind, ok_ret, ok_some, ok_none, ok_fail, ok_ifF, ok_lif, ok_var, ok_C, ok_rdim, ok_toim, ok_bin, ok_fTst, ok_fAnd, ok_fOr, ok_fNot, ok_chn, startD, outD, fThen, fSet, fAsg, fPar, fPar3, fIfS, fRet, fDrop, fEnd, fBrk, fCnt, fNotT, fAndT, fOrT, fIf, fIsi, fIsi2, fCall, fCallK, fCons, fNil, fCa, fTup, fLst, fLstM, mkM, fApp, appV, ok_putM, get_last, set_last, take_last, gAdd_int, L2.CDiv, L2.CMul, L2.CPow, fIx, ok_ixR, ok_ixI, ok_lenR, ok_callM, fNeg, fRev, fSl, slD, cut1, fON, fOS, fYes, ok_lc, ok_lcBody, ok_for, ok_newM, wipeD, ok_seqL, ok_seqT, ok_seqR, allD_mapF, anyD_mapF, sumD_mapF, List.all_map, fSeq, fRng1, fRng2, fEnum, fZip, gtName, gtSub, gtNil, gtCons, gtTup, mkT, mkL, toDs, DL.gD, gD.rds, c1, c2, ok_lenL, ok_lenT, eq_self, DL.gSub, gMul_int, take_set, ixn20, Int.toNat_natCast, ixn21, List.set_set, gFdv, gMod, gPow, gI, gI0, gLt, gLe, gGt, gGe, gIs, gIt, isN, absD, DL.intD, max2, min2, dmod, ixD_l, ixD_t, isiD, tyD, gsel, gEq_int, gNe_int, gEq_str, gNe_str, List.filterMap_cons, List.filterMap_nil, and_self, or_self, List.map_cons, List.map_nil, List.length_cons, List.length_nil, List.cons_append, List.nil_append, List.append_nil, List.replicate_succ, List.replicate_zero, Nat.reduceAdd, Nat.reduceSub, Nat.reduceLeDiff, Nat.reduceEqDiff, List.take_length, List.length_map, List.length_append, List.take_left', List.take_append_of_le_length, Nat.le_refl, Nat.zero_add, Nat.add_zero, and_true, true_and, true_or, or_true, Int.mul_one, Int.one_mul, Nat.one_mul, Nat.mul_one, and_false, false_and, if_pos, if_neg, reduceIte, reduceCtorEq, not_true_eq_false, not_false_eq_true, Bool.not_true, Bool.not_false, beq_self_eq_true, Bool.or_true, Bool.true_or, Bool.or_false, Bool.false_or, Bool.and_true, Bool.true_and, Bool.and_false, Bool.false_and, String.reduceBEq, at0, at1, at2, at3, Int.cast_ofNat_Int, decide_true, decide_false, decide_eq_true_eq, decide_eq_false_iff_not, Bool.not_eq_true', Bool.not_eq_eq_eq_not, Int.reduceSub, Int.reduceNeg, Int.reduceAdd, Int.reduceMul, Int.reduceLT, Int.reduceLE, Int.reduceEq, Int.reducePow, Int.reduceToNat, sumD_map, allD_map, anyD_map, srtD_map, srtD_mapT, tupD, lstD, List.getElem?_cons_zero, List.getElem?_cons_succ, List.set_cons_zero, List.set_cons_succ, Option.some.injEq, Option.map_some, Option.map_none, Bool.false_eq_true, if_true, if_false]
      refine ok_mono (pot_ok (k := u) (by omega)) ?_
      rintro r s' ⟨c, rfl, rfl, g⟩
      refine right_ok get_last g fun c' g' => ?_
      exact ⟨true, rfl, rfl⟩
    · rintro xs s ⟨bs, rfl, hl, hb2, _⟩
      rw [rng_len] at hl
      have ha : bs.all id = true := List.all_eq_true.mpr fun x hx => hb2 x hx
      simp only [ok_callD, ok_bind, ok_ret, ok_some, ok_none, ok_fail, ok_ifF, ok_lif, ok_var, ok_C, ok_rdim, ok_toim, ok_bin, ok_fTst, ok_fAnd, ok_fOr, ok_fNot, ok_chn, startD, outD, fThen, fSet, fAsg, fPar, fPar3, fIfS, fRet, fDrop, fEnd, fBrk, fCnt, fNotT, fAndT, fOrT, fIf, fIsi, fIsi2, fCall, fCallK, fCons, fNil, fCa, fTup, fLst, fLstM, mkM, fApp, appV, ok_putM, get_last, set_last, take_last, gAdd_int, L2.CDiv, L2.CMul, L2.CPow, fIx, ok_ixR, ok_ixI, ok_lenR, ok_callM, fNeg, fRev, fSl, slD, cut1, fON, fOS, fYes, ok_lc, ok_lcBody, ok_for, ok_newM, wipeD, ok_seqL, ok_seqT, ok_seqR, allD_mapF, anyD_mapF, sumD_mapF, List.all_map, fSeq, fRng1, fRng2, fEnum, fZip, gtName, gtSub, gtNil, gtCons, gtTup, mkT, mkL, toDs, DL.gD, gD.rds, c1, c2, ok_lenL, ok_lenT, eq_self, DL.gSub, gMul_int, take_set, ixn20, Int.toNat_natCast, ixn21, List.set_set, gFdv, gMod, gPow, gI, gI0, gLt, gLe, gGt, gGe, gIs, gIt, isN, absD, DL.intD, max2, min2, dmod, ixD_l, ixD_t, isiD, tyD, gsel, gEq_int, gNe_int, gEq_str, gNe_str, List.filterMap_cons, List.filterMap_nil, and_self, or_self, List.map_cons, List.map_nil, List.length_cons, List.length_nil, List.cons_append, List.nil_append, List.append_nil, List.replicate_succ, List.replicate_zero, Nat.reduceAdd, Nat.reduceSub, Nat.reduceLeDiff, Nat.reduceEqDiff, List.take_length, List.length_map, List.length_append, List.take_left', List.take_append_of_le_length, Nat.le_refl, Nat.zero_add, Nat.add_zero, and_true, true_and, true_or, or_true, Int.mul_one, Int.one_mul, Nat.one_mul, Nat.mul_one, and_false, false_and, if_pos, if_neg, reduceIte, reduceCtorEq, not_true_eq_false, not_false_eq_true, Bool.not_true, Bool.not_false, beq_self_eq_true, Bool.or_true, Bool.true_or, Bool.or_false, Bool.false_or, Bool.and_true, Bool.true_and, Bool.and_false, Bool.false_and, String.reduceBEq, at0, at1, at2, at3, Int.cast_ofNat_Int, decide_true, decide_false, decide_eq_true_eq, decide_eq_false_iff_not, Bool.not_eq_true', Bool.not_eq_eq_eq_not, Int.reduceSub, Int.reduceNeg, Int.reduceAdd, Int.reduceMul, Int.reduceLT, Int.reduceLE, Int.reduceEq, Int.reducePow, Int.reduceToNat, sumD_map, allD_map, anyD_map, srtD_map, srtD_mapT, tupD, lstD, List.getElem?_cons_zero, List.getElem?_cons_succ, List.set_cons_zero, List.set_cons_succ, Option.some.injEq, Option.map_some, Option.map_none, Bool.false_eq_true, if_true, if_false, ha]
      omega
  obtain ⟨r, s, e, rfl⟩ := key
  exact ⟨s, e⟩
end G11
namespace G11
open PySem PySem.Spec PyProof.Rows L2 DL
theorem all_mk {P : Program} {w : World} {K : PySem.W.Frag} {h : Heap} {mg : Str → Option Value} {fa : Addr} (X : K.In h) (G : h.Ns mainGlobals mg) (hfa : mg "law" = some (.ref fa))
  {f0 : Addr} {od0 an0 : Option Addr} {sl0 : Array (Option Value)} {oc0 kV0 dc0 pm0 cd0 ct0 : Value}
  (a0 : PySem.W.nsIn K mainGlobals "_law_pot" = some (some (.ref f0))) (l0 : K.lookup f0 = some ⟨oc0, od0, .func (PySem.W.fnOf "_law_pot" "_law_pot" (defArgs s__law_pot) (defBody s__law_pot) (defScope s__law_pot) .none kV0 dc0 pm0 an0 cd0 ct0), sl0⟩) (c0 : PySem.W.codeIn K cd0 "_law_pot" = true) (k0 : PySem.W.keepIn K (.ref f0) = true)
  {f1 : Addr} {od1 an1 : Option Addr} {sl1 : Array (Option Value)} {oc1 kV1 dc1 pm1 cd1 ct1 : Value}
  (a1 : PySem.W.nsIn K mainGlobals "is_integer" = some (some (.ref f1))) (l1 : K.lookup f1 = some ⟨oc1, od1, .func (PySem.W.fnOf "is_integer" "is_integer" (defArgs s_is_integer) (defBody s_is_integer) (defScope s_is_integer) .none kV1 dc1 pm1 an1 cd1 ct1), sl1⟩) (c1 : PySem.W.codeIn K cd1 "is_integer" = true) (k1 : PySem.W.keepIn K (.ref f1) = true)
  {f2 : Addr} {od2 an2 : Option Addr} {sl2 : Array (Option Value)} {oc2 kV2 dc2 pm2 cd2 ct2 : Value}
  (a2 : PySem.W.nsIn K mainGlobals "is_within" = some (some (.ref f2))) (l2 : K.lookup f2 = some ⟨oc2, od2, .func (PySem.W.fnOf "is_within" "is_within" (defArgs s_is_within) (defBody s_is_within) (defScope s_is_within) .none kV2 dc2 pm2 an2 cd2 ct2), sl2⟩) (c2 : PySem.W.codeIn K cd2 "is_within" = true) (k2 : PySem.W.keepIn K (.ref f2) = true)
  {f3 : Addr} {od3 an3 : Option Addr} {sl3 : Array (Option Value)} {oc3 kV3 dc3 pm3 cd3 ct3 : Value}
  (a3 : PySem.W.nsIn K mainGlobals "is_list" = some (some (.ref f3))) (l3 : K.lookup f3 = some ⟨oc3, od3, .func (PySem.W.fnOf "is_list" "is_list" (defArgs s_is_list) (defBody s_is_list) (defScope s_is_list) .none kV3 dc3 pm3 an3 cd3 ct3), sl3⟩) (c3 : PySem.W.codeIn K cd3 "is_list" = true) (k3 : PySem.W.keepIn K (.ref f3) = true)
  {f4 : Addr} {od4 an4 : Option Addr} {sl4 : Array (Option Value)} {oc4 kV4 dc4 pm4 cd4 ct4 : Value}
  (a4 : PySem.W.nsIn K mainGlobals "is_table_of" = some (some (.ref f4))) (l4 : K.lookup f4 = some ⟨oc4, od4, .func (PySem.W.fnOf "is_table_of" "is_table_of" (defArgs s_is_table_of) (defBody s_is_table_of) (defScope s_is_table_of) .none kV4 dc4 pm4 an4 cd4 ct4), sl4⟩) (c4 : PySem.W.codeIn K cd4 "is_table_of" = true) (k4 : PySem.W.keepIn K (.ref f4) = true)
  {f5 : Addr} {od5 an5 : Option Addr} {sl5 : Array (Option Value)} {oc5 kV5 dc5 pm5 cd5 ct5 : Value}
  (a5 : PySem.W.nsIn K mainGlobals "is_table" = some (some (.ref f5))) (l5 : K.lookup f5 = some ⟨oc5, od5, .func (PySem.W.fnOf "is_table" "is_table" (defArgs s_is_table) (defBody s_is_table) (defScope s_is_table) .none kV5 dc5 pm5 an5 cd5 ct5), sl5⟩) (c5 : PySem.W.codeIn K cd5 "is_table" = true) (k5 : PySem.W.keepIn K (.ref f5) = true)
  {f6 : Addr} {od6 an6 : Option Addr} {sl6 : Array (Option Value)} {oc6 kV6 dc6 pm6 cd6 ct6 : Value}
  (a6 : PySem.W.nsIn K mainGlobals "check_table" = some (some (.ref f6))) (l6 : K.lookup f6 = some ⟨oc6, od6, .func (PySem.W.fnOf "check_table" "check_table" (defArgs s_check_table) (defBody s_check_table) (defScope s_check_table) .none kV6 dc6 pm6 an6 cd6 ct6), sl6⟩) (c6 : PySem.W.codeIn K cd6 "check_table" = true) (k6 : PySem.W.keepIn K (.ref f6) = true)
  {f7 : Addr} {od7 an7 : Option Addr} {sl7 : Array (Option Value)} {oc7 kV7 dc7 pm7 cd7 ct7 : Value}
  (a7 : PySem.W.nsIn K mainGlobals "is_lot_of" = some (some (.ref f7))) (l7 : K.lookup f7 = some ⟨oc7, od7, .func (PySem.W.fnOf "is_lot_of" "is_lot_of" (defArgs s_is_lot_of) (defBody s_is_lot_of) (defScope s_is_lot_of) .none kV7 dc7 pm7 an7 cd7 ct7), sl7⟩) (c7 : PySem.W.codeIn K cd7 "is_lot_of" = true) (k7 : PySem.W.keepIn K (.ref f7) = true)
  {f8 : Addr} {od8 an8 : Option Addr} {sl8 : Array (Option Value)} {oc8 kV8 dc8 pm8 cd8 ct8 : Value}
  (a8 : PySem.W.nsIn K mainGlobals "check_lot" = some (some (.ref f8))) (l8 : K.lookup f8 = some ⟨oc8, od8, .func (PySem.W.fnOf "check_lot" "check_lot" (defArgs s_check_lot) (defBody s_check_lot) (defScope s_check_lot) .none kV8 dc8 pm8 an8 cd8 ct8), sl8⟩) (c8 : PySem.W.codeIn K cd8 "check_lot" = true) (k8 : PySem.W.keepIn K (.ref f8) = true)
  {f9 : Addr} {od9 an9 : Option Addr} {sl9 : Array (Option Value)} {oc9 kV9 dc9 pm9 cd9 ct9 : Value}
  (a9 : PySem.W.nsIn K mainGlobals "number_by" = some (some (.ref f9))) (l9 : K.lookup f9 = some ⟨oc9, od9, .func (PySem.W.fnOf "number_by" "number_by" (defArgs s_number_by) (defBody s_number_by) (defScope s_number_by) .none kV9 dc9 pm9 an9 cd9 ct9), sl9⟩) (c9 : PySem.W.codeIn K cd9 "number_by" = true) (k9 : PySem.W.keepIn K (.ref f9) = true)
  {f10 : Addr} {od10 an10 : Option Addr} {sl10 : Array (Option Value)} {oc10 kV10 dc10 pm10 cd10 ct10 : Value}
  (a10 : PySem.W.nsIn K mainGlobals "number_of" = some (some (.ref f10))) (l10 : K.lookup f10 = some ⟨oc10, od10, .func (PySem.W.fnOf "number_of" "number_of" (defArgs s_number_of) (defBody s_number_of) (defScope s_number_of) .none kV10 dc10 pm10 an10 cd10 ct10), sl10⟩) (c10 : PySem.W.codeIn K cd10 "number_of" = true) (k10 : PySem.W.keepIn K (.ref f10) = true)
  {f11 : Addr} {od11 an11 : Option Addr} {sl11 : Array (Option Value)} {oc11 kV11 dc11 pm11 cd11 ct11 : Value}
  (a11 : PySem.W.nsIn K mainGlobals "lot_by" = some (some (.ref f11))) (l11 : K.lookup f11 = some ⟨oc11, od11, .func (PySem.W.fnOf "lot_by" "lot_by" (defArgs s_lot_by) (defBody s_lot_by) (defScope s_lot_by) .none kV11 dc11 pm11 an11 cd11 ct11), sl11⟩) (c11 : PySem.W.codeIn K cd11 "lot_by" = true) (k11 : PySem.W.keepIn K (.ref f11) = true)
  {f12 : Addr} {od12 an12 : Option Addr} {sl12 : Array (Option Value)} {oc12 kV12 dc12 pm12 cd12 ct12 : Value}
  (a12 : PySem.W.nsIn K mainGlobals "lot_of" = some (some (.ref f12))) (l12 : K.lookup f12 = some ⟨oc12, od12, .func (PySem.W.fnOf "lot_of" "lot_of" (defArgs s_lot_of) (defBody s_lot_of) (defScope s_lot_of) .none kV12 dc12 pm12 an12 cd12 ct12), sl12⟩) (c12 : PySem.W.codeIn K cd12 "lot_of" = true) (k12 : PySem.W.keepIn K (.ref f12) = true)
  {f13 : Addr} {od13 an13 : Option Addr} {sl13 : Array (Option Value)} {oc13 kV13 dc13 pm13 cd13 ct13 : Value}
  (a13 : PySem.W.nsIn K mainGlobals "worth_of" = some (some (.ref f13))) (l13 : K.lookup f13 = some ⟨oc13, od13, .func (PySem.W.fnOf "worth_of" "worth_of" (defArgs s_worth_of) (defBody s_worth_of) (defScope s_worth_of) .none kV13 dc13 pm13 an13 cd13 ct13), sl13⟩) (c13 : PySem.W.codeIn K cd13 "worth_of" = true) (k13 : PySem.W.keepIn K (.ref f13) = true)
  {f14 : Addr} {od14 an14 : Option Addr} {sl14 : Array (Option Value)} {oc14 kV14 dc14 pm14 cd14 ct14 : Value}
  (a14 : PySem.W.nsIn K mainGlobals "worth" = some (some (.ref f14))) (l14 : K.lookup f14 = some ⟨oc14, od14, .func (PySem.W.fnOf "worth" "worth" (defArgs s_worth) (defBody s_worth) (defScope s_worth) .none kV14 dc14 pm14 an14 cd14 ct14), sl14⟩) (c14 : PySem.W.codeIn K cd14 "worth" = true) (k14 : PySem.W.keepIn K (.ref f14) = true)
  {f15 : Addr} {od15 an15 : Option Addr} {sl15 : Array (Option Value)} {oc15 kV15 dc15 pm15 cd15 ct15 : Value}
  (a15 : PySem.W.nsIn K mainGlobals "check_thing" = some (some (.ref f15))) (l15 : K.lookup f15 = some ⟨oc15, od15, .func (PySem.W.fnOf "check_thing" "check_thing" (defArgs s_check_thing) (defBody s_check_thing) (defScope s_check_thing) .none kV15 dc15 pm15 an15 cd15 ct15), sl15⟩) (c15 : PySem.W.codeIn K cd15 "check_thing" = true) (k15 : PySem.W.keepIn K (.ref f15) = true)
  {f16 : Addr} {od16 an16 : Option Addr} {sl16 : Array (Option Value)} {oc16 kV16 dc16 pm16 cd16 ct16 : Value}
  (a16 : PySem.W.nsIn K mainGlobals "lot_with" = some (some (.ref f16))) (l16 : K.lookup f16 = some ⟨oc16, od16, .func (PySem.W.fnOf "lot_with" "lot_with" (defArgs s_lot_with) (defBody s_lot_with) (defScope s_lot_with) .none kV16 dc16 pm16 an16 cd16 ct16), sl16⟩) (c16 : PySem.W.codeIn K cd16 "lot_with" = true) (k16 : PySem.W.keepIn K (.ref f16) = true)
  {f17 : Addr} {od17 an17 : Option Addr} {sl17 : Array (Option Value)} {oc17 kV17 dc17 pm17 cd17 ct17 : Value}
  (a17 : PySem.W.nsIn K mainGlobals "gain_of" = some (some (.ref f17))) (l17 : K.lookup f17 = some ⟨oc17, od17, .func (PySem.W.fnOf "gain_of" "gain_of" (defArgs s_gain_of) (defBody s_gain_of) (defScope s_gain_of) .none kV17 dc17 pm17 an17 cd17 ct17), sl17⟩) (c17 : PySem.W.codeIn K cd17 "gain_of" = true) (k17 : PySem.W.keepIn K (.ref f17) = true)
  {f18 : Addr} {od18 an18 : Option Addr} {sl18 : Array (Option Value)} {oc18 kV18 dc18 pm18 cd18 ct18 : Value}
  (a18 : PySem.W.nsIn K mainGlobals "adds" = some (some (.ref f18))) (l18 : K.lookup f18 = some ⟨oc18, od18, .func (PySem.W.fnOf "adds" "adds" (defArgs s_adds) (defBody s_adds) (defScope s_adds) .none kV18 dc18 pm18 an18 cd18 ct18), sl18⟩) (c18 : PySem.W.codeIn K cd18 "adds" = true) (k18 : PySem.W.keepIn K (.ref f18) = true)
  {f19 : Addr} {od19 an19 : Option Addr} {sl19 : Array (Option Value)} {oc19 kV19 dc19 pm19 cd19 ct19 : Value}
  (a19 : PySem.W.nsIn K mainGlobals "divisor" = some (some (.ref f19))) (l19 : K.lookup f19 = some ⟨oc19, od19, .func (PySem.W.fnOf "divisor" "divisor" (defArgs s_divisor) (defBody s_divisor) (defScope s_divisor) .none kV19 dc19 pm19 an19 cd19 ct19), sl19⟩) (c19 : PySem.W.codeIn K cd19 "divisor" = true) (k19 : PySem.W.keepIn K (.ref f19) = true)
  {f20 : Addr} {od20 an20 : Option Addr} {sl20 : Array (Option Value)} {oc20 kV20 dc20 pm20 cd20 ct20 : Value}
  (a20 : PySem.W.nsIn K mainGlobals "is_fraction_of" = some (some (.ref f20))) (l20 : K.lookup f20 = some ⟨oc20, od20, .func (PySem.W.fnOf "is_fraction_of" "is_fraction_of" (defArgs s_is_fraction_of) (defBody s_is_fraction_of) (defScope s_is_fraction_of) .none kV20 dc20 pm20 an20 cd20 ct20), sl20⟩) (c20 : PySem.W.codeIn K cd20 "is_fraction_of" = true) (k20 : PySem.W.keepIn K (.ref f20) = true)
  {f21 : Addr} {od21 an21 : Option Addr} {sl21 : Array (Option Value)} {oc21 kV21 dc21 pm21 cd21 ct21 : Value}
  (a21 : PySem.W.nsIn K mainGlobals "is_short" = some (some (.ref f21))) (l21 : K.lookup f21 = some ⟨oc21, od21, .func (PySem.W.fnOf "is_short" "is_short" (defArgs s_is_short) (defBody s_is_short) (defScope s_is_short) .none kV21 dc21 pm21 an21 cd21 ct21), sl21⟩) (c21 : PySem.W.codeIn K cd21 "is_short" = true) (k21 : PySem.W.keepIn K (.ref f21) = true)
  {f22 : Addr} {od22 an22 : Option Addr} {sl22 : Array (Option Value)} {oc22 kV22 dc22 pm22 cd22 ct22 : Value}
  (a22 : PySem.W.nsIn K mainGlobals "is_below" = some (some (.ref f22))) (l22 : K.lookup f22 = some ⟨oc22, od22, .func (PySem.W.fnOf "is_below" "is_below" (defArgs s_is_below) (defBody s_is_below) (defScope s_is_below) .none kV22 dc22 pm22 an22 cd22 ct22), sl22⟩) (c22 : PySem.W.codeIn K cd22 "is_below" = true) (k22 : PySem.W.keepIn K (.ref f22) = true)
  {f23 : Addr} {od23 an23 : Option Addr} {sl23 : Array (Option Value)} {oc23 kV23 dc23 pm23 cd23 ct23 : Value}
  (a23 : PySem.W.nsIn K mainGlobals "are_prices_of" = some (some (.ref f23))) (l23 : K.lookup f23 = some ⟨oc23, od23, .func (PySem.W.fnOf "are_prices_of" "are_prices_of" (defArgs s_are_prices_of) (defBody s_are_prices_of) (defScope s_are_prices_of) .none kV23 dc23 pm23 an23 cd23 ct23), sl23⟩) (c23 : PySem.W.codeIn K cd23 "are_prices_of" = true) (k23 : PySem.W.keepIn K (.ref f23) = true)
  {f24 : Addr} {od24 an24 : Option Addr} {sl24 : Array (Option Value)} {oc24 kV24 dc24 pm24 cd24 ct24 : Value}
  (a24 : PySem.W.nsIn K mainGlobals "check_prices" = some (some (.ref f24))) (l24 : K.lookup f24 = some ⟨oc24, od24, .func (PySem.W.fnOf "check_prices" "check_prices" (defArgs s_check_prices) (defBody s_check_prices) (defScope s_check_prices) .none kV24 dc24 pm24 an24 cd24 ct24), sl24⟩) (c24 : PySem.W.codeIn K cd24 "check_prices" = true) (k24 : PySem.W.keepIn K (.ref f24) = true)
  {f25 : Addr} {od25 an25 : Option Addr} {sl25 : Array (Option Value)} {oc25 kV25 dc25 pm25 cd25 ct25 : Value}
  (a25 : PySem.W.nsIn K mainGlobals "reduced" = some (some (.ref f25))) (l25 : K.lookup f25 = some ⟨oc25, od25, .func (PySem.W.fnOf "reduced" "reduced" (defArgs s_reduced) (defBody s_reduced) (defScope s_reduced) .none kV25 dc25 pm25 an25 cd25 ct25), sl25⟩) (c25 : PySem.W.codeIn K cd25 "reduced" = true) (k25 : PySem.W.keepIn K (.ref f25) = true)
  {f26 : Addr} {od26 an26 : Option Addr} {sl26 : Array (Option Value)} {oc26 kV26 dc26 pm26 cd26 ct26 : Value}
  (a26 : PySem.W.nsIn K mainGlobals "add" = some (some (.ref f26))) (l26 : K.lookup f26 = some ⟨oc26, od26, .func (PySem.W.fnOf "add" "add" (defArgs s_add) (defBody s_add) (defScope s_add) .none kV26 dc26 pm26 an26 cd26 ct26), sl26⟩) (c26 : PySem.W.codeIn K cd26 "add" = true) (k26 : PySem.W.keepIn K (.ref f26) = true)
  {f27 : Addr} {od27 an27 : Option Addr} {sl27 : Array (Option Value)} {oc27 kV27 dc27 pm27 cd27 ct27 : Value}
  (a27 : PySem.W.nsIn K mainGlobals "total" = some (some (.ref f27))) (l27 : K.lookup f27 = some ⟨oc27, od27, .func (PySem.W.fnOf "total" "total" (defArgs s_total) (defBody s_total) (defScope s_total) .none kV27 dc27 pm27 an27 cd27 ct27), sl27⟩) (c27 : PySem.W.codeIn K cd27 "total" = true) (k27 : PySem.W.keepIn K (.ref f27) = true)
  {f28 : Addr} {od28 an28 : Option Addr} {sl28 : Array (Option Value)} {oc28 kV28 dc28 pm28 cd28 ct28 : Value}
  (a28 : PySem.W.nsIn K mainGlobals "price_by" = some (some (.ref f28))) (l28 : K.lookup f28 = some ⟨oc28, od28, .func (PySem.W.fnOf "price_by" "price_by" (defArgs s_price_by) (defBody s_price_by) (defScope s_price_by) .none kV28 dc28 pm28 an28 cd28 ct28), sl28⟩) (c28 : PySem.W.codeIn K cd28 "price_by" = true) (k28 : PySem.W.keepIn K (.ref f28) = true)
  {f29 : Addr} {od29 an29 : Option Addr} {sl29 : Array (Option Value)} {oc29 kV29 dc29 pm29 cd29 ct29 : Value}
  (a29 : PySem.W.nsIn K mainGlobals "price_of" = some (some (.ref f29))) (l29 : K.lookup f29 = some ⟨oc29, od29, .func (PySem.W.fnOf "price_of" "price_of" (defArgs s_price_of) (defBody s_price_of) (defScope s_price_of) .none kV29 dc29 pm29 an29 cd29 ct29), sl29⟩) (c29 : PySem.W.codeIn K cd29 "price_of" = true) (k29 : PySem.W.keepIn K (.ref f29) = true)
  {f30 : Addr} {od30 an30 : Option Addr} {sl30 : Array (Option Value)} {oc30 kV30 dc30 pm30 cd30 ct30 : Value}
  (a30 : PySem.W.nsIn K mainGlobals "_law_draw" = some (some (.ref f30))) (l30 : K.lookup f30 = some ⟨oc30, od30, .func (PySem.W.fnOf "_law_draw" "_law_draw" (defArgs s__law_draw) (defBody s__law_draw) (defScope s__law_draw) .none kV30 dc30 pm30 an30 cd30 ct30), sl30⟩) (c30 : PySem.W.codeIn K cd30 "_law_draw" = true) (k30 : PySem.W.keepIn K (.ref f30) = true)
  {f31 : Addr} {od31 an31 : Option Addr} {sl31 : Array (Option Value)} {oc31 kV31 dc31 pm31 cd31 ct31 : Value}
  (a31 : PySem.W.nsIn K mainGlobals "_law_lots" = some (some (.ref f31))) (l31 : K.lookup f31 = some ⟨oc31, od31, .func (PySem.W.fnOf "_law_lots" "_law_lots" (defArgs s__law_lots) (defBody s__law_lots) (defScope s__law_lots) .none kV31 dc31 pm31 an31 cd31 ct31), sl31⟩) (c31 : PySem.W.codeIn K cd31 "_law_lots" = true) (k31 : PySem.W.keepIn K (.ref f31) = true)
  {f32 : Addr} {od32 an32 : Option Addr} {sl32 : Array (Option Value)} {oc32 kV32 dc32 pm32 cd32 ct32 : Value}
  (a32 : PySem.W.nsIn K mainGlobals "_law_pick" = some (some (.ref f32))) (l32 : K.lookup f32 = some ⟨oc32, od32, .func (PySem.W.fnOf "_law_pick" "_law_pick" (defArgs s__law_pick) (defBody s__law_pick) (defScope s__law_pick) .none kV32 dc32 pm32 an32 cd32 ct32), sl32⟩) (c32 : PySem.W.codeIn K cd32 "_law_pick" = true) (k32 : PySem.W.keepIn K (.ref f32) = true)
  {f33 : Addr} {od33 an33 : Option Addr} {sl33 : Array (Option Value)} {oc33 kV33 dc33 pm33 cd33 ct33 : Value}
  (a33 : PySem.W.nsIn K mainGlobals "_law_table" = some (some (.ref f33))) (l33 : K.lookup f33 = some ⟨oc33, od33, .func (PySem.W.fnOf "_law_table" "_law_table" (defArgs s__law_table) (defBody s__law_table) (defScope s__law_table) .none kV33 dc33 pm33 an33 cd33 ct33), sl33⟩) (c33 : PySem.W.codeIn K cd33 "_law_table" = true) (k33 : PySem.W.keepIn K (.ref f33) = true)
  {f34 : Addr} {od34 an34 : Option Addr} {sl34 : Array (Option Value)} {oc34 kV34 dc34 pm34 cd34 ct34 : Value}
  (a34 : PySem.W.nsIn K mainGlobals "_law_cut" = some (some (.ref f34))) (l34 : K.lookup f34 = some ⟨oc34, od34, .func (PySem.W.fnOf "_law_cut" "_law_cut" (defArgs s__law_cut) (defBody s__law_cut) (defScope s__law_cut) .none kV34 dc34 pm34 an34 cd34 ct34), sl34⟩) (c34 : PySem.W.codeIn K cd34 "_law_cut" = true) (k34 : PySem.W.keepIn K (.ref f34) = true)
  {f35 : Addr} {od35 an35 : Option Addr} {sl35 : Array (Option Value)} {oc35 kV35 dc35 pm35 cd35 ct35 : Value}
  (a35 : PySem.W.nsIn K mainGlobals "_law_right" = some (some (.ref f35))) (l35 : K.lookup f35 = some ⟨oc35, od35, .func (PySem.W.fnOf "_law_right" "_law_right" (defArgs s__law_right) (defBody s__law_right) (defScope s__law_right) .none kV35 dc35 pm35 an35 cd35 ct35), sl35⟩) (c35 : PySem.W.codeIn K cd35 "_law_right" = true) (k35 : PySem.W.keepIn K (.ref f35) = true)
  {f36 : Addr} {od36 an36 : Option Addr} {sl36 : Array (Option Value)} {oc36 kV36 dc36 pm36 cd36 ct36 : Value}
  (a36 : PySem.W.nsIn K mainGlobals "law" = some (some (.ref f36))) (l36 : K.lookup f36 = some ⟨oc36, od36, .func (PySem.W.fnOf "law" "law" (defArgs s_law) (defBody s_law) (defScope s_law) .none kV36 dc36 pm36 an36 cd36 ct36), sl36⟩) (c36 : PySem.W.codeIn K cd36 "law" = true) (k36 : PySem.W.keepIn K (.ref f36) = true)
  (z0 : PySem.W.nsIn K mainGlobals "abs" = some none)
  (z1 : PySem.W.nsIn K mainGlobals "all" = some none)
  (z2 : PySem.W.nsIn K mainGlobals "any" = some none)
  (z3 : PySem.W.nsIn K mainGlobals "bool" = some none)
  (z4 : PySem.W.nsIn K mainGlobals "divmod" = some none)
  (z5 : PySem.W.nsIn K mainGlobals "enumerate" = some none)
  (z6 : PySem.W.nsIn K mainGlobals "int" = some none)
  (z7 : PySem.W.nsIn K mainGlobals "isinstance" = some none)
  (z8 : PySem.W.nsIn K mainGlobals "len" = some none)
  (z9 : PySem.W.nsIn K mainGlobals "list" = some none)
  (z10 : PySem.W.nsIn K mainGlobals "max" = some none)
  (z11 : PySem.W.nsIn K mainGlobals "min" = some none)
  (z12 : PySem.W.nsIn K mainGlobals "range" = some none)
  (z13 : PySem.W.nsIn K mainGlobals "repr" = some none)
  (z14 : PySem.W.nsIn K mainGlobals "sorted" = some none)
  (z15 : PySem.W.nsIn K mainGlobals "sum" = some none)
  (z16 : PySem.W.nsIn K mainGlobals "tuple" = some none)
  (z17 : PySem.W.nsIn K mainGlobals "zip" = some none)
  {t0 : Tok} (gv0 : PySem.W.nsIn K mainGlobals "MOST_DIGITS" = some (some (.int 1000000000000 t0)))
  {t1 : Tok} (gv1 : PySem.W.nsIn K mainGlobals "MOST_PRICE" = some (some (.int 999 t1)))
  {t2 : Tok} (gv2 : PySem.W.nsIn K mainGlobals "MOST_THINGS" = some (some (.int 5 t2)))
  {t3 : Tok} (gv3 : PySem.W.nsIn K mainGlobals "MOST_WORTH" = some (some (.int 99 t3)))
  {q4 : Addr} {n4 : Nat} {y4 : Option Addr} {w4 : Array (Option Value)} {t4_0 t4_1 : Tok} (gv4 : PySem.W.nsIn K mainGlobals "NOUGHT" = some (some (.ref q4))) (hv4 : K.lookup q4 = some ⟨.type "tuple", y4, .seq #[.int 0 t4_0, .int 1 t4_1] n4, w4⟩)
  {q5 : Addr} {n5 : Nat} {y5 : Option Addr} {w5 : Array (Option Value)} {t5_0 t5_1 t5_2 t5_3 t5_4 t5_5 : Tok} (gv5 : PySem.W.nsIn K mainGlobals "POWERS" = some (some (.ref q5))) (hv5 : K.lookup q5 = some ⟨.type "tuple", y5, .seq #[.int 1 t5_0, .int 2 t5_1, .int 4 t5_2, .int 8 t5_3, .int 16 t5_4, .int 32 t5_5] n5, w5⟩)
  : ∃ fd : FuncData, (∀ (s : Shared) (v : Value), BindsTo s fd ⟨[v], []⟩ [("script", v)]) ∧ ∀ base : Heap, K.In base → base.Ns mainGlobals mg → FnG P w K mg base 8 fa fd ["script"] f_law := by
  have e := hfa.symm.trans (PySem.W.mg_of X G a36)
  cases e
  let T : Tx K mg := { a__law_pot := _, d__law_pot := _, F__law_pot := fun_mk l0 c0 k0, m__law_pot := PySem.W.mg_of X G a0, a_is_integer := _, d_is_integer := _, F_is_integer := fun_mk l1 c1 k1, m_is_integer := PySem.W.mg_of X G a1, a_is_within := _, d_is_within := _, F_is_within := fun_mk l2 c2 k2, m_is_within := PySem.W.mg_of X G a2, a_is_list := _, d_is_list := _, F_is_list := fun_mk l3 c3 k3, m_is_list := PySem.W.mg_of X G a3, a_is_table_of := _, d_is_table_of := _, F_is_table_of := fun_mk l4 c4 k4, m_is_table_of := PySem.W.mg_of X G a4, a_is_table := _, d_is_table := _, F_is_table := fun_mk l5 c5 k5, m_is_table := PySem.W.mg_of X G a5, a_check_table := _, d_check_table := _, F_check_table := fun_mk l6 c6 k6, m_check_table := PySem.W.mg_of X G a6, a_is_lot_of := _, d_is_lot_of := _, F_is_lot_of := fun_mk l7 c7 k7, m_is_lot_of := PySem.W.mg_of X G a7, a_check_lot := _, d_check_lot := _, F_check_lot := fun_mk l8 c8 k8, m_check_lot := PySem.W.mg_of X G a8, a_number_by := _, d_number_by := _, F_number_by := fun_mk l9 c9 k9, m_number_by := PySem.W.mg_of X G a9, a_number_of := _, d_number_of := _, F_number_of := fun_mk l10 c10 k10, m_number_of := PySem.W.mg_of X G a10, a_lot_by := _, d_lot_by := _, F_lot_by := fun_mk l11 c11 k11, m_lot_by := PySem.W.mg_of X G a11, a_lot_of := _, d_lot_of := _, F_lot_of := fun_mk l12 c12 k12, m_lot_of := PySem.W.mg_of X G a12, a_worth_of := _, d_worth_of := _, F_worth_of := fun_mk l13 c13 k13, m_worth_of := PySem.W.mg_of X G a13, a_worth := _, d_worth := _, F_worth := fun_mk l14 c14 k14, m_worth := PySem.W.mg_of X G a14, a_check_thing := _, d_check_thing := _, F_check_thing := fun_mk l15 c15 k15, m_check_thing := PySem.W.mg_of X G a15, a_lot_with := _, d_lot_with := _, F_lot_with := fun_mk l16 c16 k16, m_lot_with := PySem.W.mg_of X G a16, a_gain_of := _, d_gain_of := _, F_gain_of := fun_mk l17 c17 k17, m_gain_of := PySem.W.mg_of X G a17, a_adds := _, d_adds := _, F_adds := fun_mk l18 c18 k18, m_adds := PySem.W.mg_of X G a18, a_divisor := _, d_divisor := _, F_divisor := fun_mk l19 c19 k19, m_divisor := PySem.W.mg_of X G a19, a_is_fraction_of := _, d_is_fraction_of := _, F_is_fraction_of := fun_mk l20 c20 k20, m_is_fraction_of := PySem.W.mg_of X G a20, a_is_short := _, d_is_short := _, F_is_short := fun_mk l21 c21 k21, m_is_short := PySem.W.mg_of X G a21, a_is_below := _, d_is_below := _, F_is_below := fun_mk l22 c22 k22, m_is_below := PySem.W.mg_of X G a22, a_are_prices_of := _, d_are_prices_of := _, F_are_prices_of := fun_mk l23 c23 k23, m_are_prices_of := PySem.W.mg_of X G a23, a_check_prices := _, d_check_prices := _, F_check_prices := fun_mk l24 c24 k24, m_check_prices := PySem.W.mg_of X G a24, a_reduced := _, d_reduced := _, F_reduced := fun_mk l25 c25 k25, m_reduced := PySem.W.mg_of X G a25, a_add := _, d_add := _, F_add := fun_mk l26 c26 k26, m_add := PySem.W.mg_of X G a26, a_total := _, d_total := _, F_total := fun_mk l27 c27 k27, m_total := PySem.W.mg_of X G a27, a_price_by := _, d_price_by := _, F_price_by := fun_mk l28 c28 k28, m_price_by := PySem.W.mg_of X G a28, a_price_of := _, d_price_of := _, F_price_of := fun_mk l29 c29 k29, m_price_of := PySem.W.mg_of X G a29, a__law_draw := _, d__law_draw := _, F__law_draw := fun_mk l30 c30 k30, m__law_draw := PySem.W.mg_of X G a30, a__law_lots := _, d__law_lots := _, F__law_lots := fun_mk l31 c31 k31, m__law_lots := PySem.W.mg_of X G a31, a__law_pick := _, d__law_pick := _, F__law_pick := fun_mk l32 c32 k32, m__law_pick := PySem.W.mg_of X G a32, a__law_table := _, d__law_table := _, F__law_table := fun_mk l33 c33 k33, m__law_table := PySem.W.mg_of X G a33, a__law_cut := _, d__law_cut := _, F__law_cut := fun_mk l34 c34 k34, m__law_cut := PySem.W.mg_of X G a34, a__law_right := _, d__law_right := _, F__law_right := fun_mk l35 c35 k35, m__law_right := PySem.W.mg_of X G a35, a_law := _, d_law := _, F_law := fun_mk l36 c36 k36, m_law := PySem.W.mg_of X G a36, n_abs := PySem.W.mg_none_of X G z0, n_all := PySem.W.mg_none_of X G z1, n_any := PySem.W.mg_none_of X G z2, n_bool := PySem.W.mg_none_of X G z3, n_divmod := PySem.W.mg_none_of X G z4, n_enumerate := PySem.W.mg_none_of X G z5, n_int := PySem.W.mg_none_of X G z6, n_isinstance := PySem.W.mg_none_of X G z7, n_len := PySem.W.mg_none_of X G z8, n_list := PySem.W.mg_none_of X G z9, n_max := PySem.W.mg_none_of X G z10, n_min := PySem.W.mg_none_of X G z11, n_range := PySem.W.mg_none_of X G z12, n_repr := PySem.W.mg_none_of X G z13, n_sorted := PySem.W.mg_none_of X G z14, n_sum := PySem.W.mg_none_of X G z15, n_tuple := PySem.W.mg_none_of X G z16, n_zip := PySem.W.mg_none_of X G z17, c_MOST_DIGITS := GlC.int (PySem.W.mg_of X G gv0), c_MOST_PRICE := GlC.int (PySem.W.mg_of X G gv1), c_MOST_THINGS := GlC.int (PySem.W.mg_of X G gv2), c_MOST_WORTH := GlC.int (PySem.W.mg_of X G gv3), c_NOUGHT := GlC.tup (ns := [0, 1]) (PySem.W.mg_of X G gv4) hv4 (by show 2 ≤ sizeLine; decide) (.cons ⟨_, rfl⟩ (.cons ⟨_, rfl⟩ (.nil))), c_POWERS := GlC.tup (ns := [1, 2, 4, 8, 16, 32]) (PySem.W.mg_of X G gv5) hv5 (by show 6 ≤ sizeLine; decide) (.cons ⟨_, rfl⟩ (.cons ⟨_, rfl⟩ (.cons ⟨_, rfl⟩ (.cons ⟨_, rfl⟩ (.cons ⟨_, rfl⟩ (.cons ⟨_, rfl⟩ (.nil))))))) }
  exact ⟨_, fun s v => .of_eq rfl, fun base _ _ => ok_law T⟩
end G11
open PySem PySem.W PyProof.Rows
set_option maxHeartbeats 0 in
theorem PySem.Challenge.cw_lessandless_k11_whole_lots_worths_and_pr_holds : PySem.Challenge.rw_lessandless_k11_whole_lots_worths_and_pr.Holds := by
  w_on; o_law; k_head; (case hw => w_witness2)
  k_fill
  refine DL.walk_G (l := PySem.Challenge.rw_lessandless_k11_whole_lots_worths_and_pr) (n := 63) (k := 8) (x := "script") (F := G11.f_law) rfl (by decide) rfl ⟨rfl, by decide, by decide⟩ (fun w h Y => PySem.W.kIn_of Y) ?F (fun ns _ => G11.law_true ns)
  case F =>
    intro w mg fa h KX G hmg
    refine' G11.all_mk KX G hmg ?a0 ?l0 ?c0 ?k0 ?a1 ?l1 ?c1 ?k1 ?a2 ?l2 ?c2 ?k2 ?a3 ?l3 ?c3 ?k3 ?a4 ?l4 ?c4 ?k4 ?a5 ?l5 ?c5 ?k5 ?a6 ?l6 ?c6 ?k6 ?a7 ?l7 ?c7 ?k7 ?a8 ?l8 ?c8 ?k8 ?a9 ?l9 ?c9 ?k9 ?a10 ?l10 ?c10 ?k10 ?a11 ?l11 ?c11 ?k11 ?a12 ?l12 ?c12 ?k12 ?a13 ?l13 ?c13 ?k13 ?a14 ?l14 ?c14 ?k14 ?a15 ?l15 ?c15 ?k15 ?a16 ?l16 ?c16 ?k16 ?a17 ?l17 ?c17 ?k17 ?a18 ?l18 ?c18 ?k18 ?a19 ?l19 ?c19 ?k19 ?a20 ?l20 ?c20 ?k20 ?a21 ?l21 ?c21 ?k21 ?a22 ?l22 ?c22 ?k22 ?a23 ?l23 ?c23 ?k23 ?a24 ?l24 ?c24 ?k24 ?a25 ?l25 ?c25 ?k25 ?a26 ?l26 ?c26 ?k26 ?a27 ?l27 ?c27 ?k27 ?a28 ?l28 ?c28 ?k28 ?a29 ?l29 ?c29 ?k29 ?a30 ?l30 ?c30 ?k30 ?a31 ?l31 ?c31 ?k31 ?a32 ?l32 ?c32 ?k32 ?a33 ?l33 ?c33 ?k33 ?a34 ?l34 ?c34 ?k34 ?a35 ?l35 ?c35 ?k35 ?a36 ?l36 ?c36 ?k36 ?z0 ?z1 ?z2 ?z3 ?z4 ?z5 ?z6 ?z7 ?z8 ?z9 ?z10 ?z11 ?z12 ?z13 ?z14 ?z15 ?z16 ?z17 ?gv0 ?gv1 ?gv2 ?gv3 ?gv4 ?hv4 ?gv5 ?hv5
    (case a0 => k_is)
    (case l0 => k_is)
    (case c0 => k_is)
    (case k0 => k_is)
    (case a1 => k_is)
    (case l1 => k_is)
    (case c1 => k_is)
    (case k1 => k_is)
    (case a2 => k_is)
    (case l2 => k_is)
    (case c2 => k_is)
    (case k2 => k_is)
    (case a3 => k_is)
    (case l3 => k_is)
    (case c3 => k_is)
    (case k3 => k_is)
    (case a4 => k_is)
    (case l4 => k_is)
    (case c4 => k_is)
    (case k4 => k_is)
    (case a5 => k_is)
    (case l5 => k_is)
    (case c5 => k_is)
    (case k5 => k_is)
    (case a6 => k_is)
    (case l6 => k_is)
    (case c6 => k_is)
    (case k6 => k_is)
    (case a7 => k_is)
    (case l7 => k_is)
    (case c7 => k_is)
    (case k7 => k_is)
    (case a8 => k_is)
    (case l8 => k_is)
    (case c8 => k_is)
    (case k8 => k_is)
    (case a9 => k_is)
    (case l9 => k_is)
    (case c9 => k_is)
    (case k9 => k_is)
    (case a10 => k_is)
    (case l10 => k_is)
    (case c10 => k_is)
    (case k10 => k_is)
    (case a11 => k_is)
    (case l11 => k_is)
    (case c11 => k_is)
    (case k11 => k_is)
    (case a12 => k_is)
    (case l12 => k_is)
    (case c12 => k_is)
    (case k12 => k_is)
    (case a13 => k_is)
    (case l13 => k_is)
    (case c13 => k_is)
    (case k13 => k_is)
    (case a14 => k_is)
    (case l14 => k_is)
    (case c14 => k_is)
    (case k14 => k_is)
    (case a15 => k_is)
    (case l15 => k_is)
    (case c15 => k_is)
    (case k15 => k_is)
    (case a16 => k_is)
    (case l16 => k_is)
    (case c16 => k_is)
    (case k16 => k_is)
    (case a17 => k_is)
    (case l17 => k_is)
    (case c17 => k_is)
    (case k17 => k_is)
    (case a18 => k_is)
    (case l18 => k_is)
    (case c18 => k_is)
    (case k18 => k_is)
    (case a19 => k_is)
    (case l19 => k_is)
    (case c19 => k_is)
    (case k19 => k_is)
    (case a20 => k_is)
    (case l20 => k_is)
    (case c20 => k_is)
    (case k20 => k_is)
    (case a21 => k_is)
    (case l21 => k_is)
    (case c21 => k_is)
    (case k21 => k_is)
    (case a22 => k_is)
    (case l22 => k_is)
    (case c22 => k_is)
    (case k22 => k_is)
    (case a23 => k_is)
    (case l23 => k_is)
    (case c23 => k_is)
    (case k23 => k_is)
    (case a24 => k_is)
    (case l24 => k_is)
    (case c24 => k_is)
    (case k24 => k_is)
    (case a25 => k_is)
    (case l25 => k_is)
    (case c25 => k_is)
    (case k25 => k_is)
    (case a26 => k_is)
    (case l26 => k_is)
    (case c26 => k_is)
    (case k26 => k_is)
    (case a27 => k_is)
    (case l27 => k_is)
    (case c27 => k_is)
    (case k27 => k_is)
    (case a28 => k_is)
    (case l28 => k_is)
    (case c28 => k_is)
    (case k28 => k_is)
    (case a29 => k_is)
    (case l29 => k_is)
    (case c29 => k_is)
    (case k29 => k_is)
    (case a30 => k_is)
    (case l30 => k_is)
    (case c30 => k_is)
    (case k30 => k_is)
    (case a31 => k_is)
    (case l31 => k_is)
    (case c31 => k_is)
    (case k31 => k_is)
    (case a32 => k_is)
    (case l32 => k_is)
    (case c32 => k_is)
    (case k32 => k_is)
    (case a33 => k_is)
    (case l33 => k_is)
    (case c33 => k_is)
    (case k33 => k_is)
    (case a34 => k_is)
    (case l34 => k_is)
    (case c34 => k_is)
    (case k34 => k_is)
    (case a35 => k_is)
    (case l35 => k_is)
    (case c35 => k_is)
    (case k35 => k_is)
    (case a36 => k_is)
    (case l36 => k_is)
    (case c36 => k_is)
    (case k36 => k_is)
    (case z0 => k_is)
    (case z1 => k_is)
    (case z2 => k_is)
    (case z3 => k_is)
    (case z4 => k_is)
    (case z5 => k_is)
    (case z6 => k_is)
    (case z7 => k_is)
    (case z8 => k_is)
    (case z9 => k_is)
    (case z10 => k_is)
    (case z11 => k_is)
    (case z12 => k_is)
    (case z13 => k_is)
    (case z14 => k_is)
    (case z15 => k_is)
    (case z16 => k_is)
    (case z17 => k_is)
    (case gv0 => k_is)
    (case gv1 => k_is)
    (case gv2 => k_is)
    (case gv3 => k_is)
    (case gv4 => k_is)
    (case hv4 => k_is)
    (case gv5 => k_is)
    (case hv5 => k_is)

