import PyProof.Rows.All
import Wide.All
import OpenK.AllK
import Wide.FinOn
import HandS.Base
import HandS.Call
import HandS.List
import HandS.Comp
import HandS.Ends
import HandS.Evl
import HandS.Dict
import HandS.Iter
import HandS.Text
import HandS.More
import HandS.Words
import HandS.Slots
import HandS.Star
import HandS.Lambda
import HandS.Nested
import HandS.Walk
import HandS.Zip
import HandS.IsInst
import HandS.TupAny
import HandS.Conv
import HandS.HeadHook2
import HandS.Defaults
import HandS.SlotsOwn
import HandS.Head0
import HandS.Head1
import HandS.Head2
import HandS.HeadHook4
import HandS.HeadWalk
import HandS.HeadNt
import HandS.Set
import HandS.SetFor
import HandS.SetKeys
import HandS.SortInts
import PyProof.Rows.SortShellAny
import HandS.MakeKw
import HandS.OwnEq
import KE.GoesMore
import HandS.WordsDict
import HandS.Replace
import HandS.Steps
import KE.SortKeyed
import HandS.SortOrd
import HandS.SortRule
import HandS.SortKw
import KE.SortCalls
import PyProof.InstNe
import PyProof.StrLawsTight
import PyProof.StrLawsChain
import PyProof.Rows.StrReprJoin
import PyProof.Rows.ReprOcc
import HandS.DictComp
import HandS.NoneIn
import HandS.FStr
import HandS.Style
import PySem.Challenge.RW_seerings_k72_whole_sixteen_cards
set_option Elab.async false
set_option linter.all false
section
set_option maxRecDepth 100000
set_option maxHeartbeats 1000000
namespace Sx
open PySem PySem.Spec PyProof.Rows L2

/-! ### data -/
inductive D where
  | v (x : V)
  | t (ds : List D)
  | sl (k : Bool) (d : D)
  /-- any value, by what was once true of it -/
  | x (φ : Hp → V → Prop)
abbrev D.i (n : Int) : D := .v (.int n)
abbrev D.s (x : Str) : D := .v (.str x)
abbrev D.b (x : Bool) : D := .v (.bl x)
abbrev D.n : D := .v .non
abbrev D.p (a : Addr) : D := .v (.ref a)

/-- where the two slotted classes stand -/
structure Cs where
  K : PySem.W.Frag
  card : Addr
  drw : Addr
def Cs.cl (c : Cs) : Bool → Addr
  | true => c.card
  | false => c.drw

/-- what never changes -/
def Imm : HO → Bool
  | .tup _ => true
  | .ext _ => true
  | .xd _ => true
  | .frz _ _ => true
  | _ => false
def IM (H H' : Hp) : Prop := ∀ a o, H a = some o → Imm o = true → H' a = some o
mutual
def Rp (c : Cs) (H : Hp) : D → V → Prop
  | .v x, u => u = x
  | .t ds, u => ∃ a vs, u = .ref a ∧ SqT c.K H a vs ∧ RpL c H ds vs
  | .sl k d, u => ∃ a dx f, u = .ref a ∧ SlX.Slt H a (c.cl k) dx [some f] ∧ Rp c H d f
  | .x φ, u => ∃ H0, IM H0 H ∧ φ H0 u
def RpL (c : Cs) (H : Hp) : List D → List V → Prop
  | [], vs => vs = []
  | d :: ds, vs => ∃ v r, vs = v :: r ∧ Rp c H d v ∧ RpL c H ds r
end

def Ex (H H' : Hp) : Prop := ∀ a o, H a = some o → H' a = some o
theorem Ex.refl (H : Hp) : Ex H H := fun _ _ h => h
theorem Ex.trans {H H1 H2 : Hp} (a : Ex H H1) (b : Ex H1 H2) : Ex H H2 := fun x o h => b x o (a x o h)
theorem Ex.im {H H1 : Hp} (a : Ex H H1) : IM H H1 := fun x o h _ => a x o h
theorem Ex.new {H : Hp} {p : Addr} {o : HO} (h : H p = none) : Ex H (upd H p o) := fun a u e => by
  rw [upd_ne (ne_of_none e h)]
  exact e
theorem Ex.back {H H' : Hp} {p : Addr} (e : Ex H H') (h : H' p = none) : H p = none := by
  cases h1 : H p with
  | none => rfl
  | some o =>
    rw [e p o h1] at h
    cases h
theorem IM.refl (H : Hp) : IM H H := fun _ _ h _ => h
theorem IM.trans {H H1 H2 : Hp} (a : IM H H1) (b : IM H1 H2) : IM H H2 := fun x o h i => b x o (a x o h i) i
/-- a write to what may change -/
theorem IM.upd {H : Hp} {p : Addr} {o u : HO} (h : H p = some u) (i : Imm u = false) : IM H (upd H p o) := fun a w e j => by
  have : a ≠ p := fun z => by
    subst z
    rw [h] at e
    cases e
    rw [i] at j
    cases j
  rw [upd_ne this]
  exact e
theorem IM.new {H : Hp} {p : Addr} {o : HO} (h : H p = none) : IM H (L2.upd H p o) := (Ex.new h).im

theorem sqt_im {K : PySem.W.Frag} {H H' : Hp} {a : Addr} {xs : List V} (e : IM H H') (h : SqT K H a xs) : SqT K H' a xs := by
  rcases h with (h | ⟨o, h⟩) | h
  · exact .inl (.inl (e _ _ h rfl))
  · exact .inl (.inr ⟨o, e _ _ h rfl⟩)
  · exact .inr h
theorem sql_ex {K : PySem.W.Frag} {H H' : Hp} {a : Addr} {xs : List V} (e : Ex H H') (h : SqL K H a xs) : SqL K H' a xs := by
  rcases h with (h | ⟨o, h⟩) | h
  · exact .inl (.inl (e _ _ h))
  · exact .inl (.inr ⟨o, e _ _ h⟩)
  · exact .inr h
theorem slt_im {H H' : Hp} {a C dx : Addr} {f : V} (e : IM H H') (h : SlX.Slt H a C dx [some f]) : SlX.Slt H' a C dx [some f] := by
  rcases h with ⟨_, h⟩ | ⟨h1, h2⟩
  · cases h
  · exact .inr ⟨e _ _ h1 rfl, e _ _ h2 rfl⟩

section
variable {c : Cs} {H H' : Hp}
mutual
theorem Rp.im (e : IM H H') : ∀ {d : D} {v : V}, Rp c H d v → Rp c H' d v
  | .v x, v, h => by
    simp only [Rp] at h ⊢
    exact h
  | .t ds, v, h => by
    simp only [Rp] at h ⊢
    obtain ⟨a, vs, e1, e2, e3⟩ := h
    exact ⟨a, vs, e1, sqt_im e e2, RpL.im e e3⟩
  | .sl k d, v, h => by
    simp only [Rp] at h ⊢
    obtain ⟨a, dx, f, e1, e2, e3⟩ := h
    exact ⟨a, dx, f, e1, slt_im e e2, Rp.im e e3⟩
  | .x φ, v, h => by
    simp only [Rp] at h ⊢
    obtain ⟨H0, e1, e2⟩ := h
    exact ⟨H0, fun a o q i => e a o (e1 a o q i) i, e2⟩
theorem RpL.im (e : IM H H') : ∀ {ds : List D} {vs : List V}, RpL c H ds vs → RpL c H' ds vs
  | [], vs, h => by
    simp only [RpL] at h ⊢
    exact h
  | d :: ds, vs, h => by
    simp only [RpL] at h ⊢
    obtain ⟨v, r, e1, e2, e3⟩ := h
    exact ⟨v, r, e1, Rp.im e e2, RpL.im e e3⟩
end
theorem rp_v {x u : V} : Rp c H (.v x) u ↔ u = x := by simp only [Rp]
theorem rp_t {ds : List D} {u : V} : Rp c H (.t ds) u ↔ ∃ a vs, u = .ref a ∧ SqT c.K H a vs ∧ RpL c H ds vs := by simp only [Rp]
theorem rp_sl {k : Bool} {d : D} {u : V} : Rp c H (.sl k d) u ↔ ∃ a dx f, u = .ref a ∧ SlX.Slt H a (c.cl k) dx [some f] ∧ Rp c H d f := by simp only [Rp]
theorem rp_x {φ : Hp → V → Prop} {u : V} : Rp c H (.x φ) u ↔ ∃ H0, IM H0 H ∧ φ H0 u := by simp only [Rp]
theorem rpl_nil {vs : List V} : RpL c H [] vs ↔ vs = [] := by simp only [RpL]
theorem rpl_cons {d : D} {ds : List D} {vs : List V} : RpL c H (d :: ds) vs ↔ ∃ v r, vs = v :: r ∧ Rp c H d v ∧ RpL c H ds r := by simp only [RpL]
theorem RpL.len : ∀ {ds : List D} {vs : List V}, RpL c H ds vs → vs.length = ds.length
  | [], vs, h => by
    rw [rpl_nil.mp h]
    rfl
  | d :: ds, vs, h => by
    obtain ⟨v, r, rfl, _, h⟩ := rpl_cons.mp h
    simp [RpL.len h]
theorem RpL.app : ∀ {ds es : List D} {vs us : List V}, RpL c H ds vs → RpL c H es us → RpL c H (ds ++ es) (vs ++ us)
  | [], es, vs, us, h, h2 => by
    rw [rpl_nil.mp h]
    exact h2
  | d :: ds, es, vs, us, h, h2 => by
    obtain ⟨v, r, rfl, h1, h⟩ := rpl_cons.mp h
    exact rpl_cons.mpr ⟨v, r ++ us, rfl, h1, h.app h2⟩
theorem RpL.one {d : D} {v : V} (h : Rp c H d v) : RpL c H [d] [v] := rpl_cons.mpr ⟨v, [], rfl, h, rpl_nil.mpr rfl⟩
theorem RpL.get : ∀ {ds : List D} {vs : List V} {i : Nat} {d : D}, RpL c H ds vs → ds[i]? = some d → ∃ v, vs[i]? = some v ∧ Rp c H d v
  | [], vs, i, d, h, e => by simp at e
  | d :: ds, vs, 0, d', h, e => by
    obtain ⟨v, r, rfl, h1, h⟩ := rpl_cons.mp h
    simp at e
    subst e
    exact ⟨v, rfl, h1⟩
  | d :: ds, vs, i + 1, d', h, e => by
    obtain ⟨v, r, rfl, h1, h⟩ := rpl_cons.mp h
    obtain ⟨u, q1, q2⟩ := RpL.get (i := i) h (by simpa using e)
    exact ⟨u, by simpa using q1, q2⟩
theorem RpL.getV : ∀ {ds : List D} {vs : List V} {i : Nat} {v : V}, RpL c H ds vs → vs[i]? = some v → ∃ d, ds[i]? = some d ∧ Rp c H d v := fun {ds vs i v} h e => by
  have hl := h.len
  have hi : i < vs.length := (List.getElem?_eq_some_iff.mp e).1
  obtain ⟨u, q1, q2⟩ := h.get (i := i) (d := ds[i]'(by omega)) (by simp)
  rw [e] at q1
  cases q1
  exact ⟨_, by simp, q2⟩
theorem RpL.vmap {xs : List V} : RpL c H (xs.map D.v) xs := by
  induction xs with
  | nil => exact rpl_nil.mpr rfl
  | cons x xs ih => exact rpl_cons.mpr ⟨x, xs, rfl, rp_v.mpr rfl, ih⟩
theorem RpL.vmap_eq {xs vs : List V} (h : RpL c H (xs.map D.v) vs) : vs = xs := by
  induction xs generalizing vs with
  | nil => exact rpl_nil.mp h
  | cons x xs ih =>
    obtain ⟨v, r, rfl, h1, h⟩ := rpl_cons.mp h
    rw [rp_v.mp h1, ih h]
end

/-! ### owned objects -/
inductive Ob where
  | lst (ds : List D)
  | dic (kvs : List (Key × D))
  | ins (C dx : Addr) (fs : List (Str × D))
  /-- the table of code objects of the name q -/
  | tab (q : Str)
def KvR (c : Cs) (H : Hp) {κ : Type} (kvs : List (κ × D)) (vs : List (κ × V)) : Prop := kvs.map (·.1) = vs.map (·.1) ∧ RpL c H (kvs.map (·.2)) (vs.map (·.2))
def ObAt (c : Cs) (H : Hp) (a : Addr) : Ob → Prop
  | .lst ds => ∃ vs, H a = some (.lst vs) ∧ RpL c H ds vs
  | .dic kvs => ∃ vs, H a = some (.dK vs) ∧ KvR c H kvs vs
  | .ins C dx fs => ∃ vs, H a = some (.ins C dx vs) ∧ KvR c H fs vs
  | .tab q => LamX.TabS H a q
/-- a list that is read only -/
theorem rd_ex {H H' : Hp} {a : Addr} {u : HO} (e : Ex H H') (h : Rd H a u) : Rd H' a u := by
  rcases h with h | ⟨o, h⟩
  · exact .inl (e _ _ h)
  · exact .inr ⟨o, e _ _ h⟩
def LsAt (c : Cs) (H : Hp) (a : Addr) (ds : List D) : Prop := ∃ vs, Rd H a (.lst vs) ∧ RpL c H ds vs
theorem LsAt.ex {c : Cs} {H H' : Hp} {a : Addr} {ds : List D} (e : Ex H H') (h : LsAt c H a ds) : LsAt c H' a ds := by
  obtain ⟨vs, h1, h2⟩ := h
  exact ⟨vs, rd_ex e h1, h2.im e.im⟩
theorem tabS_keep {H H' : Hp} {P : Addr} {q : Str} (t : LamX.TabS H P q) (k : H' P = H P) (e : IM H H') : LamX.TabS H' P q := by
  obtain ⟨ps, h1, h2, h3⟩ := t
  refine ⟨ps, k.trans h1, h2, fun pos cv hc => ?_⟩
  obtain ⟨c, e1, e2⟩ := h3 pos cv hc
  exact ⟨c, e1, e _ _ e2 rfl⟩
theorem ObAt.ex {c : Cs} {H H' : Hp} {a : Addr} {o : Ob} (e : Ex H H') (h : ObAt c H a o) : ObAt c H' a o := by
  cases o with
  | lst ds =>
    obtain ⟨vs, h1, h2⟩ := h
    exact ⟨vs, e _ _ h1, h2.im e.im⟩
  | dic kvs =>
    obtain ⟨vs, h1, h2, h3⟩ := h
    exact ⟨vs, e _ _ h1, h2, h3.im e.im⟩
  | ins C dx fs =>
    obtain ⟨vs, h1, h2, h3⟩ := h
    exact ⟨vs, e _ _ h1, h2, h3.im e.im⟩
  | tab q => exact LamX.TabS.ext h e
theorem ObAt.there {c : Cs} {H : Hp} {a : Addr} {o : Ob} (h : ObAt c H a o) : ∃ u, H a = some u ∧ Imm u = false := by
  cases o with
  | lst ds =>
    obtain ⟨vs, h1, _⟩ := h
    exact ⟨_, h1, rfl⟩
  | dic kvs =>
    obtain ⟨vs, h1, _⟩ := h
    exact ⟨_, h1, rfl⟩
  | ins C dx fs =>
    obtain ⟨vs, h1, _⟩ := h
    exact ⟨_, h1, rfl⟩
  | tab q =>
    obtain ⟨ps, h1, _⟩ := h
    exact ⟨_, h1, rfl⟩
/-- kept at its own address, what never changes kept -/
theorem ObAt.keep {c : Cs} {H H' : Hp} {a : Addr} {o : Ob} (k : H' a = H a) (e : IM H H') (h : ObAt c H a o) : ObAt c H' a o := by
  cases o with
  | lst ds =>
    obtain ⟨vs, h1, h2⟩ := h
    exact ⟨vs, k.trans h1, h2.im e⟩
  | dic kvs =>
    obtain ⟨vs, h1, h2, h3⟩ := h
    exact ⟨vs, k.trans h1, h2, h3.im e⟩
  | ins C dx fs =>
    obtain ⟨vs, h1, h2, h3⟩ := h
    exact ⟨vs, k.trans h1, h2, h3.im e⟩
  | tab q => exact tabS_keep h k e

/-! ### the state -/
abbrev En := List (Option D)
abbrev Mm := List (Addr × Ob)
structure At (c : Cs) (Fr : Hp) (G : List (V × D)) (M : Mm) (env : En) (σ : L2.St) (H : Hp) : Prop where
  fr : Ex Fr H
  gh : ∀ p ∈ G, Rp c H p.2 p.1
  ob : ∀ p ∈ M, Fr p.1 = none ∧ ObAt c H p.1 p.2
  nd : (M.map (·.1)).Nodup
  sl : ∀ (i : Nat) (d : D), env[i]? = some (some d) → ∃ v : V, σ[i]? = some (some v) ∧ Rp c H d v
  ln : σ.length = env.length
theorem nd_ix {α : Type} {N : List α} (hN : N.Nodup) {i j : Nat} {x : α} (a : N[i]? = some x) (b : N[j]? = some x) : i = j := by
  obtain ⟨h1, e1⟩ := List.getElem?_eq_some_iff.mp a
  obtain ⟨h2, e2⟩ := List.getElem?_eq_some_iff.mp b
  exact (List.getElem_inj hN).mp (e1.trans e2.symm)
section
variable {c : Cs} {Fr H H' : Hp} {G : List (V × D)} {M : Mm} {env : En} {σ : L2.St}
theorem At.ex (A : At c Fr G M env σ H) (e : Ex H H') : At c Fr G M env σ H' :=
  ⟨A.fr.trans e, fun p hp => (A.gh p hp).im e.im, fun p hp => ⟨(A.ob p hp).1, (A.ob p hp).2.ex e⟩, A.nd, fun i d h => let ⟨v, h1, h2⟩ := A.sl i d h; ⟨v, h1, h2.im e.im⟩, A.ln⟩
theorem At.set (A : At c Fr G M env σ H) {i : Nat} {d : D} {v : V} (h : Rp c H d v) : At c Fr G M (env.set i (some d)) (σ.set i (some v)) H := by
  refine ⟨A.fr, A.gh, A.ob, A.nd, fun j e hj => ?_, by simp [A.ln]⟩
  by_cases q : j = i
  · subst q
    have hl : j < env.length := by
      have := (List.getElem?_eq_some_iff.mp hj).1
      simpa using this
    rw [List.getElem?_set_self hl] at hj
    cases hj
    exact ⟨v, List.getElem?_set_self (by rw [A.ln]; exact hl), h⟩
  · rw [List.getElem?_set_ne (Ne.symm q)] at hj
    obtain ⟨u, h1, h2⟩ := A.sl j e hj
    exact ⟨u, by rw [List.getElem?_set_ne (Ne.symm q)]; exact h1, h2⟩
/-- slots forgotten -/
theorem At.weak (A : At c Fr G M env σ H) {env' : En} (hl : env'.length = env.length) (h : ∀ (i : Nat) (d : D), env'[i]? = some (some d) → env[i]? = some (some d)) : At c Fr G M env' σ H :=
  ⟨A.fr, A.gh, A.ob, A.nd, fun i d e => A.sl i d (h i d e), A.ln.trans hl.symm⟩
/-- objects forgotten -/
theorem At.less (A : At c Fr G M env σ H) {M' : Mm} (h : M'.Sublist M) : At c Fr G M' env σ H :=
  ⟨A.fr, A.gh, fun p hp => A.ob p (h.subset hp), A.nd.sublist (h.map _), A.sl, A.ln⟩
theorem At.drop1 {p : Addr × Ob} (A : At c Fr G (p :: M) env σ H) : At c Fr G M env σ H := A.less (List.sublist_cons_self _ _)
theorem At.perm (A : At c Fr G M env σ H) {M' : Mm} (h : M.Perm M') : At c Fr G M' env σ H :=
  ⟨A.fr, A.gh, fun p hp => A.ob p (h.symm.subset hp), (h.map _).nodup_iff.mp A.nd, A.sl, A.ln⟩
theorem At.ghost (A : At c Fr G M env σ H) {v : V} {d : D} (h : Rp c H d v) : At c Fr ((v, d) :: G) M env σ H :=
  ⟨A.fr, fun p hp => by
    rcases List.mem_cons.mp hp with rfl | hp
    · exact h
    · exact A.gh p hp, A.ob, A.nd, A.sl, A.ln⟩
theorem At.unghost {q : V × D} (A : At c Fr (q :: G) M env σ H) : At c Fr G M env σ H := ⟨A.fr, fun p hp => A.gh p (List.mem_cons_of_mem _ hp), A.ob, A.nd, A.sl, A.ln⟩
/-- a new object -/
theorem At.new (A : At c Fr G M env σ H) {a : Addr} {o : Ob} (ha : H a = none) (e : Ex H H') (h : ObAt c H' a o) : At c Fr G ((a, o) :: M) env σ H' := by
  have B := A.ex e
  refine ⟨B.fr, B.gh, fun p hp => ?_, ?_, B.sl, B.ln⟩
  · rcases List.mem_cons.mp hp with rfl | hp
    · exact ⟨A.fr.back ha, h⟩
    · exact B.ob p hp
  · rw [List.map_cons, List.nodup_cons]
    refine ⟨fun hm => ?_, A.nd⟩
    obtain ⟨p, hp, e2⟩ := List.mem_map.mp hm
    obtain ⟨u, h1, _⟩ := (A.ob p hp).2.there
    rw [show p.1 = a from e2, ha] at h1
    cases h1
/-- behind a step that changed the objects M0 alone into Mn -/
theorem At.turn {M0 Mn Mr : Mm} (A : At c Fr G (M0 ++ Mr) env σ H) (hn : (Mn.map (·.1)).Nodup) (ho : ∀ p ∈ Mn, ObAt c H' p.1 p.2) (hw : ∀ p ∈ Mn, p.1 ∈ M0.map (·.1) ∨ H p.1 = none)
    (k : ∀ a o, a ∉ M0.map (·.1) → H a = some o → H' a = some o) (im : IM H H') : At c Fr G (Mn ++ Mr) env σ H' := by
  have nd := A.nd
  rw [List.map_append, List.nodup_append] at nd
  obtain ⟨n0, nr, n1⟩ := nd
  have hM : ∀ p ∈ Mr, p.1 ∉ M0.map (·.1) := fun p hp z => n1 _ z _ (List.mem_map_of_mem hp) rfl
  refine ⟨fun a o e => ?_, fun p hp => (A.gh p hp).im im, fun p hp => ?_, ?_, fun i d h => let ⟨v, h1, h2⟩ := A.sl i d h; ⟨v, h1, h2.im im⟩, A.ln⟩
  · refine k a o (fun z => ?_) (A.fr a o e)
    obtain ⟨p, hp, rfl⟩ := List.mem_map.mp z
    have := (A.ob p (List.mem_append_left _ hp)).1
    rw [this] at e
    cases e
  · rcases List.mem_append.mp hp with hp | hp
    · refine ⟨?_, ho p hp⟩
      rcases hw p hp with z | z
      · obtain ⟨q, hq, e⟩ := List.mem_map.mp z
        have := (A.ob q (List.mem_append_left _ hq)).1
        rw [e] at this
        exact this
      · exact A.fr.back z
    · obtain ⟨h1, h2⟩ := A.ob p (List.mem_append_right _ hp)
      refine ⟨h1, h2.keep ?_ im⟩
      obtain ⟨u, hu, _⟩ := h2.there
      rw [hu]
      exact k _ _ (hM p hp) hu
  · rw [List.map_append, List.nodup_append]
    refine ⟨hn, nr, fun a ha b hb => ?_⟩
    rintro rfl
    obtain ⟨p, hp, rfl⟩ := List.mem_map.mp ha
    obtain ⟨q, hq, e⟩ := List.mem_map.mp hb
    rcases hw p hp with z | z
    · exact hM q hq (e ▸ z)
    · obtain ⟨u, hu, _⟩ := (A.ob q (List.mem_append_right _ hq)).2.there
      rw [e, z] at hu
      cases hu
/-- the first object is another now -/
theorem At.mut {a : Addr} {o o' : Ob} {u : HO} (A : At c Fr G ((a, o) :: M) env σ H) (h : ObAt c (upd H a u) a o') : At c Fr G ((a, o') :: M) env σ (upd H a u) := by
  obtain ⟨w, e1, e2⟩ := (A.ob (a, o) List.mem_cons_self).2.there
  have e1 : H a = some w := e1
  refine At.turn (M0 := [(a, o)]) (Mn := [(a, o')]) A (by simp) (fun p hp => ?_) (fun p hp => .inl ?_) (fun b v hb e => ?_) (IM.upd e1 e2)
  · rw [List.mem_singleton.mp hp]
    exact h
  · rw [List.mem_singleton.mp hp]
    simp
  · rw [upd_ne (fun z => hb (by simp [z]))]
    exact e
/-- a list of one's own is only read from now on -/
theorem At.freeze {a : Addr} {ds : List D} (A : At c Fr G ((a, .lst ds) :: M) env σ H) : ∃ Fr', Ex Fr Fr' ∧ LsAt c Fr' a ds ∧ At c Fr' G M env σ H := by
  obtain ⟨fa, vs, h1, h2⟩ := A.ob (a, .lst ds) List.mem_cons_self
  have nd := A.nd
  rw [List.map_cons, List.nodup_cons] at nd
  -- what never changes goes in, too
  let Fr' : Hp := fun b => if b = a then H a else match Fr b with
    | some o => some o
    | none => match H b with
      | some o => if Imm o = true then some o else none
      | none => none
  have ea : Fr' a = H a := if_pos rfl
  have eb : ∀ b o, Fr' b = some o → H b = some o := fun b o e => by
    by_cases q : b = a
    · subst q
      rw [ea] at e
      exact e
    · have e2 : (match Fr b with
        | some o => some o
        | none => match H b with
          | some o => if Imm o = true then some o else none
          | none => none) = some o := by
        have : Fr' b = _ := if_neg q
        rw [this] at e
        exact e
      cases e3 : Fr b with
      | some u =>
        rw [e3] at e2
        cases e2
        exact A.fr b _ e3
      | none =>
        rw [e3] at e2
        cases e4 : H b with
        | none =>
          rw [e4] at e2
          cases e2
        | some u =>
          rw [e4] at e2
          have e2 : (if Imm u = true then some u else none) = some o := e2
          split at e2
          · exact e2
          · cases e2
  have im : IM H Fr' := fun b o e i => by
    by_cases q : b = a
    · subst q
      rw [ea]
      exact e
    · have : Fr' b = _ := if_neg q
      rw [this]
      cases e3 : Fr b with
      | some u =>
        rw [A.fr b _ e3] at e
        exact e
      | none =>
        show (match H b with
          | some o => if Imm o = true then some o else none
          | none => none) = some o
        rw [e]
        exact if_pos i
  refine ⟨Fr', fun b o e => ?_, ⟨vs, Or.inl (ea.trans h1), h2.im im⟩, fun b o e => eb b o e, A.gh, fun p hp => ?_, nd.2, A.sl, A.ln⟩
  · have q : b ≠ a := fun z => by
      rw [z] at e
      have fa : Fr a = none := fa
      rw [fa] at e
      cases e
    have : Fr' b = _ := if_neg q
    rw [this, e]
  · obtain ⟨z1, z2⟩ := A.ob p (List.mem_cons_of_mem _ hp)
    refine ⟨?_, z2⟩
    have q : p.1 ≠ a := fun z => by
      have q2 : p.1 ∈ M.map (·.1) := List.mem_map_of_mem hp
      rw [z] at q2
      exact nd.1 q2
    have : Fr' p.1 = _ := if_neg q
    rw [this, z1]
    obtain ⟨u, hu, iu⟩ := z2.there
    show (match H p.1 with
      | some o => if Imm o = true then some o else none
      | none => none) = none
    rw [hu]
    show (if Imm u = true then some u else none) = none
    rw [iu] <;> rfl
/-- the lists that may be read: the frame's, or of one's own -/
def LsOf (c : Cs) (Fr : Hp) (M : Mm) (a : Addr) (ds : List D) : Prop := LsAt c Fr a ds ∨ (a, Ob.lst ds) ∈ M
theorem At.ls (A : At c Fr G M env σ H) {a : Addr} {ds : List D} (h : LsOf c Fr M a ds) : LsAt c H a ds := by
  rcases h with h | h
  · exact h.ex A.fr
  · obtain ⟨vs, h1, h2⟩ := (A.ob _ h).2
    exact ⟨vs, Or.inl h1, h2⟩
end
end Sx
end
section
set_option maxRecDepth 100000
set_option maxHeartbeats 1000000
namespace Sx
open PySem PySem.Spec PyProof.Rows L2

/-! ### the weakest readings -/
def WE (X : Cx) (e : Expr) : TE := fun σ H Q => ∀ (pins : List (Addr × Obj)) (s : Shared), Inv X pins σ H s → wpAny (model X.prog X.w) X.A (eval e X.env) (EP X pins σ Q) X.xe s
def WT (X : Cx) (e : Expr) : TT := fun σ H Q => ∀ (pins : List (Addr × Obj)) (s : Shared), Inv X pins σ H s → wpAny (model X.prog X.w) X.A (isTrue e X.env (eval e X.env)) (TP X pins σ Q) X.xe s
def WO (X : Cx) (e : Expr) : TT := fun σ H Q => ∀ (whole : Sem Value) (pins : List (Addr × Obj)) (s : Shared), Inv X pins σ H s → wpAny (model X.prog X.w) X.A (isTrue e X.env whole) (TP X pins σ Q) X.xe s
def WA (X : Cx) (es : List Expr) : TA := fun σ H Q => ∀ (pos : Pos) (pins : List (Addr × Obj)) (s : Shared), Inv X pins σ H s → wpAny (model X.prog X.w) X.A (spliced (backTo pos (starEach es X.env))) (AP X pins σ Q) X.xe s
def WS (X : Cx) (st : Stmt) : TS := fun D σ H => ∀ (pins : List (Addr × Obj)) (s : Shared), Inv X pins σ H s → wpAny (model X.prog X.w) X.A (exec st X.env) (SP X pins D) X.xe s
def WB (X : Cx) (sts : List Stmt) : TS := fun D σ H => ∀ (pins : List (Addr × Obj)) (s : Shared), Inv X pins σ H s → wpAny (model X.prog X.w) X.A (execs sts X.env) (SP X pins D) X.xe s
def WG (X : Cx) (tg : Expr) : TG := fun v σ H Q => ∀ (pins : List (Addr × Obj)) (s : Shared) (u : Value), Inv X pins σ H s → RelV v u → wpAny (model X.prog X.w) X.A (assign tg X.env u) (fun _ s' => ∃ σ' H', Inv X pins σ' H' s' ∧ Q σ' H') X.xe s
section
variable {X : Cx}
theorem we {e : Expr} : PE X e (WE X e) := ⟨fun pins s σ H Q I h => h pins s I⟩
theorem wt {e : Expr} : PT X e (WT X e) := ⟨fun pins s σ H Q I h => h pins s I⟩
theorem wo {e : Expr} : PW X e (WO X e) := ⟨fun wh pins s σ H Q I h => h wh pins s I⟩
theorem wa {es : List Expr} : PA X es (WA X es) := ⟨fun pos pins s σ H Q I h => h pos pins s I⟩
theorem ws {st : Stmt} : PS X st (WS X st) := ⟨fun pins s σ H D I h => h pins s I⟩
theorem wb {sts : List Stmt} : PSs X sts (WB X sts) := ⟨fun pins s σ H D I h => h pins s I⟩
theorem wg {e : Expr} : PG X e (WG X e) := ⟨fun pins s σ H v u Q I r h => h pins s u I r⟩
variable {σ : L2.St} {H : Hp}
theorem _root_.L2.PE.w {e : Expr} {t : TE} (h : PE X e t) {Q : VK} (q : t σ H Q) : WE X e σ H Q := fun pins s I => h.run pins s σ H Q I q
theorem _root_.L2.PT.w {e : Expr} {t : TT} (h : PT X e t) {Q : Bool → Hp → Prop} (q : t σ H Q) : WT X e σ H Q := fun pins s I => h.run pins s σ H Q I q
theorem _root_.L2.PW.w {e : Expr} {t : TT} (h : PW X e t) {Q : Bool → Hp → Prop} (q : t σ H Q) : WO X e σ H Q := fun wh pins s I => h.run wh pins s σ H Q I q
theorem _root_.L2.PA.w {es : List Expr} {t : TA} (h : PA X es t) {Q : List V → Hp → Prop} (q : t σ H Q) : WA X es σ H Q := fun pos pins s I => h.run pos pins s σ H Q I q
theorem _root_.L2.PS.w {st : Stmt} {t : TS} (h : PS X st t) {D : Ends} (q : t D σ H) : WS X st D σ H := fun pins s I => h.run pins s σ H D I q
theorem _root_.L2.PSs.w {sts : List Stmt} {t : TS} (h : PSs X sts t) {D : Ends} (q : t D σ H) : WB X sts D σ H := fun pins s I => h.run pins s σ H D I q
theorem _root_.L2.PG.w {e : Expr} {t : TG} (h : PG X e t) {v : V} {Q : L2.St → Hp → Prop} (q : t v σ H Q) : WG X e v σ H Q := fun pins s u I r => h.run pins s σ H v u Q I r q
theorem WE.mono {e : Expr} {Q Q' : VK} (h : WE X e σ H Q) (k : ∀ v H', Q v H' → Q' v H') : WE X e σ H Q' := fun pins s I =>
  thn (h pins s I) fun v s' ⟨x, H', I', r, q⟩ => ⟨x, H', I', r, k _ _ q⟩
end

/-! ### values without effect -/
section
variable (X : Cx) (c : Cs) (Fr : Hp) (G : List (V × D)) (M : Mm) (env : En)
def Pv (e : Expr) (d : D) : Prop := ∀ (σ : L2.St) (H : Hp), At c Fr G M env σ H → ∀ Q : VK, (∀ v H2, At c Fr G M env σ H2 → IM H H2 → Rp c H2 d v → Q v H2) → WE X e σ H Q
def Pl (e : Expr) (ds : List D) : Prop := ∀ (σ : L2.St) (H : Hp), At c Fr G M env σ H → ∀ Q : VK, (∀ l H2, At c Fr G ((l, .lst ds) :: M) env σ H2 → IM H H2 → Q (.ref l) H2) → WE X e σ H Q
def Pt (e : Expr) (b : Bool) : Prop := ∀ (σ : L2.St) (H : Hp), At c Fr G M env σ H → ∀ Q : Bool → Hp → Prop, (∀ H2, At c Fr G M env σ H2 → IM H H2 → Q b H2) → WT X e σ H Q
def Po (e : Expr) (b : Bool) : Prop := ∀ (σ : L2.St) (H : Hp), At c Fr G M env σ H → ∀ Q : Bool → Hp → Prop, (∀ H2, At c Fr G M env σ H2 → IM H H2 → Q b H2) → WO X e σ H Q
def Pa (es : List Expr) (ds : List D) : Prop := ∀ (σ : L2.St) (H : Hp), At c Fr G M env σ H → ∀ Q : List V → Hp → Prop, (∀ vs H2, At c Fr G M env σ H2 → IM H H2 → RpL c H2 ds vs → Q vs H2) → WA X es σ H Q
/-- with effects: what may come, and what one's own objects are then -/
def Ev (e : Expr) (Z : D → Mm → Prop) : Prop := ∀ (σ : L2.St) (H : Hp), At c Fr G M env σ H → ∀ Q : VK, (∀ d M' v H2, Z d M' → At c Fr G M' env σ H2 → IM H H2 → Rp c H2 d v → Q v H2) → WE X e σ H Q
def Ea (es : List Expr) (Z : List D → Mm → Prop) : Prop := ∀ (σ : L2.St) (H : Hp), At c Fr G M env σ H → ∀ Q : List V → Hp → Prop, (∀ ds M' vs H2, Z ds M' → At c Fr G M' env σ H2 → IM H H2 → RpL c H2 ds vs → Q vs H2) → WA X es σ H Q
end
/-- an operation by values -/
def RV2 (c : Cs) (r : R2) (da db d : D) : Prop := ∀ (H : Hp) (x y : V) (Q : VK), Rp c H da x → Rp c H db y → (∀ z H2, Ex H H2 → Rp c H2 d z → Q z H2) → r x y H Q
/-- a call by values -/
def RVC (c : Cs) (r : List V → Hp → VK → Prop) (ds : List D) (d : D) : Prop := ∀ (H : Hp) (xs : List V) (Q : VK), RpL c H ds xs → (∀ z H2, Ex H H2 → Rp c H2 d z → Q z H2) → r xs H Q
section
variable {c : Cs} {x y : V} {H : Hp}
theorem rv_I0 {g : Int → Int → V} {i j : Int} : RV2 c (rI0 g) (.i i) (.i j) (.v (g i j)) := fun H x y Q hx hy k => ⟨i, j, rp_v.mp hx, rp_v.mp hy, k _ H (Ex.refl H) (rp_v.mpr rfl)⟩
theorem rv_I {C : Int → Int → Prop} {g : Int → Int → V} {i j : Int} (h : C i j) : RV2 c (rI C g) (.i i) (.i j) (.v (g i j)) := fun H x y Q hx hy k => ⟨i, j, rp_v.mp hx, rp_v.mp hy, h, k _ H (Ex.refl H) (rp_v.mpr rfl)⟩
theorem rv_eq (h : scal x y = true := by rfl) : RV2 c rEq (.v x) (.v y) (.b (decide (x = y))) := fun H u w Q hx hy k => by
  rw [rp_v.mp hx, rp_v.mp hy]
  exact ⟨h, k _ H (Ex.refl H) (rp_v.mpr rfl)⟩
theorem rv_ne (h : scal x y = true := by rfl) : RV2 c rNe (.v x) (.v y) (.b (!decide (x = y))) := fun H u w Q hx hy k => by
  rw [rp_v.mp hx, rp_v.mp hy]
  exact ⟨h, k _ H (Ex.refl H) (rp_v.mpr rfl)⟩
end

section
variable {X : Cx} {c : Cs} {Fr : Hp} {G : List (V × D)} {M : Mm} {env : En} {a b e f : Expr} {es : List Expr} {d da db : D} {ds : List D} {pos p1 p2 p3 : Pos} {x : Str}
theorem Pv.is {d' : D} (h : Pv X c Fr G M env e d) (q : d = d') : Pv X c Fr G M env e d' := q ▸ h
theorem Pl.is {ds' : List D} (h : Pl X c Fr G M env e ds) (q : ds = ds') : Pl X c Fr G M env e ds' := q ▸ h
theorem Pt.is {k k' : Bool} (h : Pt X c Fr G M env e k) (q : k = k') : Pt X c Fr G M env e k' := q ▸ h
theorem Pv.ev (h : Pv X c Fr G M env e d) : Ev X c Fr G M env e (fun d' M' => d' = d ∧ M' = M) := fun σ H A Q q => h σ H A Q fun v H2 A2 i r => q d M v H2 ⟨rfl, rfl⟩ A2 i r
theorem Pl.ev (h : Pl X c Fr G M env e ds) : Ev X c Fr G M env e (fun d' M' => ∃ l, d' = .p l ∧ M' = (l, .lst ds) :: M) := fun σ H A Q q => h σ H A Q fun l H2 A2 i => q (.p l) _ _ H2 ⟨l, rfl, rfl⟩ A2 i (rp_v.mpr rfl)
theorem v_var (i : Nat) (h : env[i]? = some (some d) := by rfl) (hN : X.N[i]? = some x := by rfl) (hv : Vis X.env.scope x := by first | exact Or.inl rfl | exact Or.inr (Or.inl rfl) | exact Or.inr (Or.inr rfl))
    (hd : (x == ("__debug__" : Str)) = false := by decide) (hcd : (x == ("__classdict__" : Str)) = false := by decide) : Pv X c Fr G M env (.Name x pos) d := fun σ H A Q k => by
  obtain ⟨v, hs, hr⟩ := A.sl i d h
  exact (pe_var hN hv hd hcd).w ⟨v, hs, k v H A (IM.refl H) hr⟩
theorem v_int {i j} : Pv X c Fr G M env (.Constant (.int i) j pos) (.i i) := fun σ H A Q k => (pe_int).w (k _ H A (IM.refl H) (rp_v.mpr rfl))
theorem v_bl {i j} : Pv X c Fr G M env (.Constant (.bool i) j pos) (.b i) := fun σ H A Q k => (pe_bl).w (k _ H A (IM.refl H) (rp_v.mpr rfl))
theorem v_str {i j} : Pv X c Fr G M env (.Constant (.str i) j pos) (.s i) := fun σ H A Q k => (pe_str).w (k _ H A (IM.refl H) (rp_v.mpr rfl))
theorem v_non {j} : Pv X c Fr G M env (.Constant .none j pos) .n := fun σ H A Q k => (pe_non).w (k _ H A (IM.refl H) (rp_v.mpr rfl))
/-- a constant of the module -/
theorem v_glo {v : V} (h : ∃ u, X.mg x = some u ∧ RelV v u) (hg : Gl X x := by rfl) (hd : (x == ("__debug__" : Str)) = false := by decide) : Pv X c Fr G M env (.Name x pos) (.v v) := fun σ H A Q k => by
  obtain ⟨u, hm, r⟩ := h
  exact (pe_glob hg hm r hd).w (k _ H A (IM.refl H) (rp_v.mpr rfl))
theorem v_ty {T : String} (hv : bootBuiltins x = some (.type T)) (hm : X.mg x = none) (hg : Gl X x := by rfl) (hn : x ≠ "__name__" := by decide) (hd : (x == ("__debug__" : Str)) = false := by decide) : Pv X c Fr G M env (.Name x pos) (.v (.ty T)) := fun σ H A Q k =>
  (pe_bltn (v := .ty T) hg hm hv rfl hn hd).w (k _ H A (IM.refl H) (rp_v.mpr rfl))
theorem v_op {op : Operator} {r : R2} (ho : OpR X (binaryOp op) r) (ha : Pv X c Fr G M env a da) (hb : Pv X c Fr G M env b db) (hr : RV2 c r da db d) : Pv X c Fr G M env (.BinOp a op b pos) d := fun σ H A Q k =>
  (pe_op ho we we).w (ha σ H A _ fun x H1 A1 i1 rx => hb σ H1 A1 _ fun y H2 A2 i2 ry => hr H2 x y Q (rx.im i2) ry fun z H3 e3 rz => k z H3 (A2.ex e3) ((i1.trans i2).trans e3.im) rz)
theorem v_cmp {op : CmpOp} {r : R2} (ho : OpR X (compareOp op) r) (ha : Pv X c Fr G M env a da) (hb : Pv X c Fr G M env b db) (hr : RV2 c r da db d) (hm : behindInMarks op b = false := by first | exact nomark _ | rfl) : Pv X c Fr G M env (.Compare a [op] [b] pos) d := fun σ H A Q k =>
  (pe_cmpR ho we we hm).w (ha σ H A _ fun x H1 A1 i1 rx => hb σ H1 A1 _ fun y H2 A2 i2 ry => hr H2 x y Q (rx.im i2) ry fun z H3 e3 rz => k z H3 (A2.ex e3) ((i1.trans i2).trans e3.im) rz)
theorem t_cmp {op : CmpOp} {r : R2} {k : Bool} (ho : OpR X (compareOp op) r) (ha : Pv X c Fr G M env a da) (hb : Pv X c Fr G M env b db) (hr : RV2 c r da db (.b k)) (hm : behindInMarks op b = false := by first | exact nomark _ | rfl) : Pt X c Fr G M env (.Compare a [op] [b] pos) k := fun σ H A Q q =>
  (pt_cmpR ho we we hm).w (ha σ H A _ fun x H1 A1 i1 rx => hb σ H1 A1 _ fun y H2 A2 i2 ry => hr H2 x y _ (rx.im i2) ry fun z H3 e3 rz => ⟨k, rp_v.mp rz, q H3 (A2.ex e3) ((i1.trans i2).trans e3.im)⟩)
theorem v_chain {op op' : CmpOp} {r r' : R2} {dc : D} {k l : Bool} (ho : OpR X (compareOp op) r) (ho' : OpR X (compareOp op') r') (ha : Pv X c Fr G M env a da) (hb : Pv X c Fr G M env b db) (hc : Pv X c Fr G M env e dc)
    (hr : RV2 c r da db (.b k)) (hr' : RV2 c r' db dc (.b l)) (hm : lastMarks [op, op'] [b, e] = false := by with_unfolding_all rfl) : Pv X c Fr G M env (.Compare a [op, op'] [b, e] pos) (.b (k && l)) := fun σ H A Q q =>
  (pe_chain ho ho' we we we hm).w (ha σ H A _ fun x H1 A1 i1 rx => hb σ H1 A1 _ fun y H2 A2 i2 ry => hr H2 x y _ (rx.im i2) ry fun z H3 e3 rz => ⟨k, rp_v.mp rz, by
    have A3 := A2.ex e3
    have i3 := (i1.trans i2).trans e3.im
    cases k with
    | true => exact iteT (hc σ H3 A3 _ fun v H4 A4 i4 rv => hr' H4 y v Q (ry.im (e3.im.trans i4)) rv fun z H5 e5 rz => q z H5 (A4.ex e5) ((i3.trans i4).trans e5.im) rz)
    | false => exact iteF (q _ H3 A3 i3 (rp_v.mpr rfl))⟩)
theorem t_val {k : Bool} (h : Pv X c Fr G M env e (.b k)) (he : ∀ whole, isTrue e X.env whole = (do let v ← whole; standAt e.pos; holding [v] (truthy v)) := by intro _; rfl) : Pt X c Fr G M env e k := fun σ H A Q q =>
  (pt_val we he).w (h σ H A _ fun z H1 A1 i1 rz => ⟨k, rp_v.mp rz, q H1 A1 i1⟩)
theorem t_chain {op op' : CmpOp} {r r' : R2} {dc : D} {k l : Bool} (ho : OpR X (compareOp op) r) (ho' : OpR X (compareOp op') r') (ha : Pv X c Fr G M env a da) (hb : Pv X c Fr G M env b db) (hc : Pv X c Fr G M env e dc)
    (hr : RV2 c r da db (.b k)) (hr' : RV2 c r' db dc (.b l)) (hm : lastMarks [op, op'] [b, e] = false := by with_unfolding_all rfl) : Pt X c Fr G M env (.Compare a [op, op'] [b, e] pos) (k && l) := fun σ H A Q q =>
  (pt_chain ho ho' we we we hm).w (ha σ H A _ fun x H1 A1 i1 rx => hb σ H1 A1 _ fun y H2 A2 i2 ry => hr H2 x y _ (rx.im i2) ry fun z H3 e3 rz => ⟨k, rp_v.mp rz, by
    have A3 := A2.ex e3
    have i3 := (i1.trans i2).trans e3.im
    cases k with
    | true => exact iteT (hc σ H3 A3 _ fun v H4 A4 i4 rv => hr' H4 y v _ (ry.im (e3.im.trans i4)) rv fun z H5 e5 rz => ⟨l, rp_v.mp rz, q H5 (A4.ex e5) ((i3.trans i4).trans e5.im)⟩)
    | false => exact iteF ⟨false, rfl, q H3 A3 i3⟩⟩)
theorem t_not {k : Bool} (h : Pt X c Fr G M env e k) : Pt X c Fr G M env (.UnaryOp .Not e pos) (!k) := fun σ H A Q q => (pt_not wt).w (h σ H A _ fun H1 A1 i1 => q H1 A1 i1)
theorem o_t {k : Bool} (h : Po X c Fr G M env e k) : Pt X c Fr G M env e k := fun σ H A Q q => (PW.pt wo).w (h σ H A _ q)
theorem o_and1 {k : Bool} (h : Pt X c Fr G M env a k) : Po X c Fr G M env (.BoolOp .And [a] pos) k := fun σ H A Q q => (pw_and1 wt).w (h σ H A _ q)
theorem o_or1 {k : Bool} (h : Pt X c Fr G M env a k) : Po X c Fr G M env (.BoolOp .Or [a] pos) k := fun σ H A Q q => (pw_or1 wt).w (h σ H A _ q)
theorem o_and {k l : Bool} (h : Pt X c Fr G M env a k) (h2 : k = true → Po X c Fr G M env (.BoolOp .And (b :: es) pos) l) : Po X c Fr G M env (.BoolOp .And (a :: b :: es) pos) (k && l) := fun σ H A Q q =>
  (pw_and wt wo).w (h σ H A _ fun H1 A1 i1 => by
    cases k with
    | true => exact iteT (h2 rfl σ H1 A1 _ fun H2 A2 i2 => q H2 A2 (i1.trans i2))
    | false => exact iteF (q H1 A1 i1))
theorem o_or {k l : Bool} (h : Pt X c Fr G M env a k) (h2 : k = false → Po X c Fr G M env (.BoolOp .Or (b :: es) pos) l) : Po X c Fr G M env (.BoolOp .Or (a :: b :: es) pos) (k || l) := fun σ H A Q q =>
  (pw_or wt wo).w (h σ H A _ fun H1 A1 i1 => by
    cases k with
    | true => exact iteT (q H1 A1 i1)
    | false => exact iteF (h2 rfl σ H1 A1 _ fun H2 A2 i2 => q H2 A2 (i1.trans i2)))
theorem v_one {op} (h : Pv X c Fr G M env a d) : Pv X c Fr G M env (.BoolOp op [a] pos) d := fun σ H A Q q => (pe_one we).w (h σ H A _ q)
theorem v_and {k l : Bool} (h : Pv X c Fr G M env a (.b k)) (h2 : k = true → Pv X c Fr G M env (.BoolOp .And (b :: es) pos) (.b l)) : Pv X c Fr G M env (.BoolOp .And (a :: b :: es) pos) (.b (k && l)) := fun σ H A Q q =>
  (pe_and we we).w (h σ H A _ fun v H1 A1 i1 rv => ⟨k, rp_v.mp rv, by
    cases k with
    | true => exact iteT (h2 rfl σ H1 A1 _ fun v H2 A2 i2 => q v H2 A2 (i1.trans i2))
    | false => exact iteF (q _ H1 A1 i1 (rp_v.mpr rfl))⟩)
theorem v_or {k l : Bool} (h : Pv X c Fr G M env a (.b k)) (h2 : k = false → Pv X c Fr G M env (.BoolOp .Or (b :: es) pos) (.b l)) : Pv X c Fr G M env (.BoolOp .Or (a :: b :: es) pos) (.b (k || l)) := fun σ H A Q q =>
  (pe_or we we).w (h σ H A _ fun v H1 A1 i1 rv => ⟨k, rp_v.mp rv, by
    cases k with
    | true => exact iteT (q _ H1 A1 i1 (rp_v.mpr rfl))
    | false => exact iteF (h2 rfl σ H1 A1 _ fun v H2 A2 i2 => q v H2 A2 (i1.trans i2))⟩)
theorem v_not {k : Bool} (h : Pv X c Fr G M env e (.b k)) : Pv X c Fr G M env (.UnaryOp .Not e pos) (.b (!k)) := fun σ H A Q q => (pe_not we).w (h σ H A _ fun v H1 A1 i1 rv => ⟨k, rp_v.mp rv, q _ H1 A1 i1 (rp_v.mpr rfl)⟩)
theorem v_if {k : Bool} (h : Pt X c Fr G M env e k) (h1 : k = true → Pv X c Fr G M env a d) (h2 : k = false → Pv X c Fr G M env b d) : Pv X c Fr G M env (.IfExp e a b pos) d := fun σ H A Q q =>
  (pe_ifExp wt we we).w (h σ H A _ fun H1 A1 i1 => by
    cases k with
    | true => exact iteT (h1 rfl σ H1 A1 _ fun v H2 A2 i2 => q v H2 A2 (i1.trans i2))
    | false => exact iteF (h2 rfl σ H1 A1 _ fun v H2 A2 i2 => q v H2 A2 (i1.trans i2)))
theorem l_if {k : Bool} (h : Pt X c Fr G M env e k) (h1 : k = true → Pl X c Fr G M env a ds) (h2 : k = false → Pl X c Fr G M env b ds) : Pl X c Fr G M env (.IfExp e a b pos) ds := fun σ H A Q q =>
  (pe_ifExp wt we we).w (h σ H A _ fun H1 A1 i1 => by
    cases k with
    | true => exact iteT (h1 rfl σ H1 A1 _ fun l H2 A2 i2 => q l H2 A2 (i1.trans i2))
    | false => exact iteF (h2 rfl σ H1 A1 _ fun l H2 A2 i2 => q l H2 A2 (i1.trans i2)))
theorem e_if {k : Bool} {Z : D → Mm → Prop} (h : Pt X c Fr G M env e k) (h1 : k = true → Ev X c Fr G M env a Z) (h2 : k = false → Ev X c Fr G M env b Z) : Ev X c Fr G M env (.IfExp e a b pos) Z := fun σ H A Q q =>
  (pe_ifExp wt we we).w (h σ H A _ fun H1 A1 i1 => by
    cases k with
    | true => exact iteT (h1 rfl σ H1 A1 _ fun d M' v H2 z A2 i2 => q d M' v H2 z A2 (i1.trans i2))
    | false => exact iteF (h2 rfl σ H1 A1 _ fun d M' v H2 z A2 i2 => q d M' v H2 z A2 (i1.trans i2)))
theorem a_nil : Pa X c Fr G M env [] [] := fun σ H A Q q => pa_nil.w (q [] H A (IM.refl H) (rpl_nil.mpr rfl))
theorem a_cons (h : Pv X c Fr G M env e d) (hr : Pa X c Fr G M env es ds) (hs : starEach (e :: es) X.env = (false, eval e X.env) :: starEach es X.env := by rfl) : Pa X c Fr G M env (e :: es) (d :: ds) := fun σ H A Q q =>
  (pa_cons we wa hs).w (h σ H A _ fun v H1 A1 i1 rv => hr σ H1 A1 _ fun vs H2 A2 i2 rs => q _ H2 A2 (i1.trans i2) (rpl_cons.mpr ⟨v, vs, rfl, rv.im i2, rs⟩))
theorem Pa.ev (h : Pa X c Fr G M env es ds) : Ea X c Fr G M env es (fun ds' M' => ds' = ds ∧ M' = M) := fun σ H A Q q => h σ H A Q fun v H2 A2 i r => q ds M v H2 ⟨rfl, rfl⟩ A2 i r
theorem ea_cons {Z : D → Mm → Prop} {Z2 : List D → Mm → Prop} (h : Ev X c Fr G M env e Z) (hr : ∀ d M', Z d M' → Ea X c Fr G M' env es (fun ds M'' => Z2 (d :: ds) M'')) (hs : starEach (e :: es) X.env = (false, eval e X.env) :: starEach es X.env := by rfl) : Ea X c Fr G M env (e :: es) Z2 := fun σ H A Q q =>
  (pa_cons we wa hs).w (h σ H A _ fun d M1 v H1 z1 A1 i1 rv => hr d M1 z1 σ H1 A1 _ fun ds M2 vs H2 z2 A2 i2 rs => q _ M2 _ H2 z2 A2 (i1.trans i2) (rpl_cons.mpr ⟨v, vs, rfl, rv.im i2, rs⟩))
theorem ea_nil {Z2 : List D → Mm → Prop} (h : Z2 [] M) : Ea X c Fr G M env [] Z2 := fun σ H A Q q => pa_nil.w (q [] M [] H h A (IM.refl H) (rpl_nil.mpr rfl))
theorem At.newTup {σ : L2.St} {H : Hp} {p : Addr} {vs : List V} (A : At c Fr G M env σ H) (hp : H p = none) : At c Fr G M env σ (upd H p (.tup vs)) := A.ex (Ex.new hp)
theorem v_tup {k} (h : Pa X c Fr G M env es ds) (hl : ds.length ≤ 100000 := by first | decide | (simp; done)) : Pv X c Fr G M env (.Tuple es k pos) (.t ds) := fun σ H A Q q =>
  (pe_tup wa).w (h σ H A _ fun vs H1 A1 i1 rs => ⟨by rw [rs.len]; exact Nat.le_trans hl (by decide), fun p hp => q _ _ (A1.ex (Ex.new hp)) (i1.trans (IM.new hp)) (rp_t.mpr ⟨p, vs, rfl, SqT.of upd_same, rs.im (IM.new hp)⟩)⟩)
theorem e_tup {k} {Z : List D → Mm → Prop} {Z2 : D → Mm → Prop} (h : Ea X c Fr G M env es Z) (hl : ∀ ds M', Z ds M' → ds.length ≤ 100000 ∧ Z2 (.t ds) M') : Ev X c Fr G M env (.Tuple es k pos) Z2 := fun σ H A Q q =>
  (pe_tup wa).w (h σ H A _ fun ds M' vs H1 z A1 i1 rs => ⟨by rw [rs.len]; exact Nat.le_trans (hl ds M' z).1 (by decide), fun p hp => q _ _ _ _ (hl ds M' z).2 (A1.ex (Ex.new hp)) (i1.trans (IM.new hp)) (rp_t.mpr ⟨p, vs, rfl, SqT.of upd_same, rs.im (IM.new hp)⟩)⟩)
theorem l_lst (h : Pa X c Fr G M env es ds) (hl : ds.length ≤ 100000 := by first | decide | (simp; done)) : Pl X c Fr G M env (.List es pos) ds := fun σ H A Q q =>
  (pe_lst wa).w (h σ H A _ fun vs H1 A1 i1 rs => ⟨by rw [rs.len]; exact Nat.le_trans hl (by decide), fun p hp => q p _ (A1.new hp (Ex.new hp) ⟨vs, upd_same, rs.im (IM.new hp)⟩) (i1.trans (IM.new hp))⟩)
/-- a built-in function, a built-in class called -/
theorem v_cB {id : String} {r : List V → Hp → VK → Prop} (hc : CallR X (.builtin id) r) (hv : bootBuiltins x = some (.builtin id)) (hm : X.mg x = none) (ha : Pa X c Fr G M env (e :: es) ds) (hr : RVC c r ds d) (hg : Gl X x := by rfl) (hn : x ≠ "__name__" := by decide) (hdb : (x == ("__debug__" : Str)) = false := by decide)
    (he : starEach (e :: es) X.env = (false, eval e X.env) :: starEach es X.env := by rfl) (hpl : (backTo p2 (starEach es X.env)).any (·.1) = false := by rfl) : Pv X c Fr G M env (.Call (.Name x p1) (e :: es) [] p2) d := fun σ H A Q q =>
  (pe_callB hc hg hm hv wa hn hdb he hpl).w (ha σ H A _ fun vs H1 A1 i1 rs => hr H1 vs Q rs fun z H2 e2 rz => q z H2 (A1.ex e2) (i1.trans e2.im) rz)
theorem v_cT {T : String} {r : List V → Hp → VK → Prop} (hc : CallR X (.type T) r) (hv : bootBuiltins x = some (.type T)) (hm : X.mg x = none) (ha : Pa X c Fr G M env (e :: es) ds) (hr : RVC c r ds d) (hg : Gl X x := by rfl) (hn : x ≠ "__name__" := by decide) (hdb : (x == ("__debug__" : Str)) = false := by decide)
    (he : starEach (e :: es) X.env = (false, eval e X.env) :: starEach es X.env := by rfl) (hpl : (backTo p2 (starEach es X.env)).any (·.1) = false := by rfl) : Pv X c Fr G M env (.Call (.Name x p1) (e :: es) [] p2) d := fun σ H A Q q =>
  (pe_callTy hc hg hm hv wa hn hdb he hpl).w (ha σ H A _ fun vs H1 A1 i1 rs => hr H1 vs Q rs fun z H2 e2 rz => q z H2 (A1.ex e2) (i1.trans e2.im) rz)
end

/-! ### defs -/
/-- a def of the module x that keeps the promise sp, level k -/
def FnAt (P : Program) (w : World) (K : PySem.W.Frag) (mg : Str → Option Value) (base : Heap) (x : Str) (k : Nat) (sp : Sp) : Prop :=
  ∃ f, mg x = some (.ref f) ∧ PySem.W.keepIn K (.ref f) = true ∧ FnR P w K mg base CX0 k f sp
theorem pe_callR {X : Cx} {k : Nat} {f : Addr} {sp : Sp} {E : XK} {x : Str} {p pos : Pos} {e : Expr} {es : List Expr} {t : TA} (F : FnR X.prog X.w X.K X.mg X.base CX0 k f sp) (hr : Room k X.A) (hg : Gl X x) (hm : X.mg x = some (.ref f)) (hk : PySem.W.keepIn X.K (.ref f) = true)
    (ha : PA X (e :: es) t) (hdb : (x == ("__debug__" : Str)) = false := by decide) (he : starEach (e :: es) X.env = (false, eval e X.env) :: starEach es X.env := by rfl) (hpl : (backTo pos (starEach es X.env)).any (·.1) = false := by rfl) :
    PE X (.Call (.Name x p) (e :: es) [] pos) (fun σ H Q => t σ H fun vs H1 => sp vs H1 Q E) := by
  refine ⟨fun pins s σ H Q I h => ?_⟩
  refine wpAny_Call_Name_kw (ld_glob I hg hm ?_ hdb)
  refine PySem.W.callWith_K (h₀ := X.base) I.ok.mod.kin hk (thn (ha.run pos pins s σ H _ I h) fun us s1 ⟨vs, H1, I1, r, q⟩ => ⟨I1.kIn, ?_⟩) he hpl
  exact wpAny_call (run_fnR F hr (fun _ _ _ _ _ _ _ h => h.elim) I1 r q)
/-- a pure promise: data for data -/
def spD (c : Cs) (R : List D → D → Prop) : Sp := fun vs H Q _ => ∃ ds d, RpL c H ds vs ∧ R ds d ∧ ∀ v H', Ex H H' → Rp c H' d v → Q v H'
/-- with lists that are read (L), objects that change (M0): Z what may come -/
def spM (c : Cs) (S : List D → List (Addr × List D) → Mm → (D → Mm → Prop) → Prop) : Sp := fun vs H Q _ => ∃ ds L M0 Z, S ds L M0 Z ∧ RpL c H ds vs ∧ (∀ p ∈ L, p.1 ∉ M0.map (·.1) ∧ LsAt c H p.1 p.2) ∧ (M0.map (·.1)).Nodup ∧ (∀ p ∈ M0, ObAt c H p.1 p.2) ∧
  ∀ (d : D) (Mn : Mm) (v : V) (H' : Hp), Z d Mn → Rp c H' d v → (Mn.map (·.1)).Nodup → (∀ p ∈ Mn, ObAt c H' p.1 p.2) → (∀ p ∈ Mn, p.1 ∈ M0.map (·.1) ∨ H p.1 = none) → (∀ a o, a ∉ M0.map (·.1) → H a = some o → H' a = some o) → IM H H' → Q v H'
section
variable {X : Cx} {c : Cs} {Fr : Hp} {G : List (V × D)} {M : Mm} {env : En} {a b e f : Expr} {es : List Expr} {d da db : D} {ds : List D} {pos p1 p2 p3 : Pos} {x : Str}
theorem v_call {k j : Nat} {R : List D → D → Prop} (F : FnAt X.prog X.w X.K X.mg X.base x k (spD c R)) (hr : Room j X.A) (ha : Pa X c Fr G M env (e :: es) ds) (h : R ds d) (hk : k ≤ j := by decide) (hg : Gl X x := by rfl) (hdb : (x == ("__debug__" : Str)) = false := by decide)
    (hst : starEach (e :: es) X.env = (false, eval e X.env) :: starEach es X.env := by rfl) (hpl : (backTo p2 (starEach es X.env)).any (·.1) = false := by rfl) : Pv X c Fr G M env (.Call (.Name x p1) (e :: es) [] p2) d := fun σ H A Q q => by
  obtain ⟨f, hm, hkp, F⟩ := F
  exact (pe_callR (E := fun _ _ _ => False) F (hr.mono hk) hg hm hkp wa hdb hst hpl).w (ha σ H A _ fun vs H1 A1 i1 rs => ⟨ds, d, rs, h, fun v H2 e2 rv => q v H2 (A1.ex e2) (i1.trans e2.im) rv⟩)
/-- how a caller takes such a promise -/
theorem At.takes {σ : L2.St} {H : Hp} {vs : List V} {S : List D → List (Addr × List D) → Mm → (D → Mm → Prop) → Prop} {L : List (Addr × List D)} {M0 Mr : Mm} {Z : D → Mm → Prop} {Q : VK} {E : XK} (A : At c Fr G M env σ H) (hM : M.Perm (M0 ++ Mr)) (rs : RpL c H ds vs) (h : S ds L M0 Z)
    (hL : ∀ p ∈ L, LsOf c Fr Mr p.1 p.2) (k : ∀ d Mn v H2, Z d Mn → At c Fr G (Mn ++ Mr) env σ H2 → IM H H2 → Rp c H2 d v → Q v H2) : spM c S vs H Q E := by
  have A2 := A.perm hM
  have nd := A2.nd
  rw [List.map_append, List.nodup_append] at nd
  refine ⟨ds, L, M0, Z, h, rs, fun p hp => ⟨fun z => ?_, ?_⟩, nd.1, fun p hp => (A2.ob p (List.mem_append_left _ hp)).2, fun d Mn v H' z rv hn ho hw kp im => k d Mn v H' z (A2.turn hn ho hw kp im) im rv⟩
  · obtain ⟨q, hq, e⟩ := List.mem_map.mp z
    have f0 := (A2.ob q (List.mem_append_left _ hq)).1
    rcases hL p hp with h | h
    · obtain ⟨us, h1, _⟩ := h
      rcases h1 with h1 | ⟨o, h1⟩
      · rw [← e, f0] at h1
        cases h1
      · rw [← e, f0] at h1
        cases h1
    · have q2 : p.1 ∈ Mr.map (·.1) := List.mem_map_of_mem h
      exact nd.2.2 _ z _ q2 rfl
  · refine A2.ls ?_
    rcases hL p hp with h | h
    · exact .inl h
    · exact .inr (List.mem_append_right _ h)
theorem e_call {k j : Nat} {S : List D → List (Addr × List D) → Mm → (D → Mm → Prop) → Prop} {L : List (Addr × List D)} {M0 Mr : Mm} {Z Z2 : D → Mm → Prop} (F : FnAt X.prog X.w X.K X.mg X.base x k (spM c S)) (hr : Room j X.A) (ha : Pa X c Fr G M env (e :: es) ds) (hM : M.Perm (M0 ++ Mr)) (h : S ds L M0 Z) (hL : ∀ p ∈ L, LsOf c Fr Mr p.1 p.2)
    (hz : ∀ d Mn, Z d Mn → Z2 d (Mn ++ Mr)) (hk : k ≤ j := by decide) (hg : Gl X x := by rfl) (hdb : (x == ("__debug__" : Str)) = false := by decide)
    (hst : starEach (e :: es) X.env = (false, eval e X.env) :: starEach es X.env := by rfl) (hpl : (backTo p2 (starEach es X.env)).any (·.1) = false := by rfl) : Ev X c Fr G M env (.Call (.Name x p1) (e :: es) [] p2) Z2 := fun σ H A Q q => by
  obtain ⟨f, hm, hkp, F⟩ := F
  exact (pe_callR (E := fun _ _ _ => False) F (hr.mono hk) hg hm hkp wa hdb hst hpl).w (ha σ H A _ fun vs H1 A1 i1 rs => A1.takes hM rs h hL fun d Mn v H2 z A2 i2 rv => q d _ v H2 (hz d Mn z) A2 (i1.trans i2) rv)
end
end Sx
end
section
set_option maxRecDepth 100000
set_option maxHeartbeats 1000000
namespace Sx
open PySem PySem.Spec PyProof.Rows L2

/-! ### targets -/
def WI (X : Cx) (tg iter : Expr) : TI := fun σ H R => ∀ (pins : List (Addr × Obj)) (s : Shared), Inv X pins σ H s → wpAny (model X.prog X.w) X.A (eval iter X.env) (fun v s1 => wpAny (model X.prog X.w) X.A (pyIter v) (PIE X pins σ tg R) X.xe s1) X.xe s
theorem wi {X : Cx} {tg iter : Expr} : PI X tg iter (WI X tg iter) := ⟨fun pins s σ H R I h => h pins s I⟩
theorem _root_.L2.PI.w {X : Cx} {tg iter : Expr} {t : TI} {σ : L2.St} {H : Hp} {R : It → Hp → Prop} (h : PI X tg iter t) (q : t σ H R) : WI X tg iter σ H R := fun pins s I => h.run pins s σ H R I q
def WGs (X : Cx) (ts : List Expr) : TGs := fun vs σ H Q => ∀ (pins : List (Addr × Obj)) (s : Shared) (us : List Value), Inv X pins σ H s → Vals vs us → wpAny (model X.prog X.w) X.A (assignInOrder ((assignEach ts X.env).map (·.2)) us) (fun _ s' => ∃ σ' H', Inv X pins σ' H' s' ∧ Q σ' H') X.xe s
theorem wgs {X : Cx} {ts : List Expr} : PGs X ts (WGs X ts) := ⟨fun pins s σ H vs us Q I r h => h pins s us I r⟩
theorem _root_.L2.PGs.w {X : Cx} {ts : List Expr} {t : TGs} {σ : L2.St} {H : Hp} {vs : List V} {Q : L2.St → Hp → Prop} (h : PGs X ts t) (q : t vs σ H Q) : WGs X ts vs σ H Q := fun pins s us I r => h.run pins s σ H vs us Q I r q
/-- only these slots differ -/
def Wip (js : List Nat) (σ σ' : L2.St) : Prop := ∀ vs : List Nat, (∀ j ∈ js, j ∈ vs) → wipe σ' vs = wipe σ vs
theorem wipe_set {σ : L2.St} {j : Nat} {x : Option V} : ∀ {vs : List Nat}, j ∈ vs → wipe (σ.set j x) vs = wipe σ vs
  | [], h => nomatch h
  | v :: vs, h => by
    show (wipe (σ.set j x) vs).set v none = (wipe σ vs).set v none
    by_cases q : j ∈ vs
    · rw [wipe_set q]
    · have e : j = v := (List.mem_cons.mp h).elim id fun z => absurd z q
      subst e
      have : ∀ vs : List Nat, j ∉ vs → wipe (σ.set j x) vs = (wipe σ vs).set j x := by
        intro vs
        induction vs with
        | nil => intro _; rfl
        | cons u us ih =>
          intro hu
          show (wipe (σ.set j x) us).set u none = ((wipe σ us).set u none).set j x
          rw [ih fun z => hu (List.mem_cons_of_mem _ z), List.set_comm _ _ (fun e => hu (by rw [e]; exact List.mem_cons_self))]
      rw [this vs q, List.set_set]
theorem Wip.one {σ : L2.St} {j : Nat} {x : Option V} : Wip [j] σ (σ.set j x) := fun vs h => wipe_set (h j List.mem_cons_self)
theorem Wip.app {js ks : List Nat} {σ σ1 σ2 : L2.St} (a : Wip js σ σ1) (b : Wip ks σ1 σ2) : Wip (js ++ ks) σ σ2 := fun vs h => (b vs fun j hj => h j (List.mem_append_right _ hj)).trans (a vs fun j hj => h j (List.mem_append_left _ hj))
/-- the target takes a value with this data -/
def Pg (X : Cx) (c : Cs) (tg : Expr) (d : D) (env env' : En) (js : List Nat) : Prop := ∀ (Fr : Hp) (G : List (V × D)) (M : Mm) (σ : L2.St) (H : Hp) (v : V), At c Fr G M env σ H → Rp c H d v → ∀ Q : L2.St → Hp → Prop, (∀ σ', At c Fr G M env' σ' H → Wip js σ σ' → Q σ' H) → WG X tg v σ H Q
def Pgs (X : Cx) (c : Cs) (tgs : List Expr) (ds : List D) (env env' : En) (js : List Nat) : Prop := ∀ (Fr : Hp) (G : List (V × D)) (M : Mm) (σ : L2.St) (H : Hp) (vs : List V), At c Fr G M env σ H → RpL c H ds vs → ∀ Q : L2.St → Hp → Prop, (∀ σ', At c Fr G M env' σ' H → Wip js σ σ' → Q σ' H) → WGs X tgs vs σ H Q
section
variable {X : Cx} {c : Cs} {e : Expr} {es : List Expr} {d : D} {ds : List D} {env env1 env2 : En} {js ks : List Nat} {x : Str} {pos : Pos}
theorem g_name (i : Nat) (hN : X.N.Nodup) (hi : X.N[i]? = some x := by rfl) (hx : Loc X.env.scope x := by first | exact Or.inl rfl | exact Or.inr rfl) (hf : X.fn x = true ∨ X.env.scope.names.lookup x = some .local := by first | exact .inl rfl | exact .inr rfl) : Pg X c (.Name x pos) d env (env.set i (some d)) [i] := fun Fr G M σ H v A r Q k =>
  (pg_name hN hi hx hf).w (k _ (A.set r) Wip.one)
theorem gs_nil : Pgs X c [] [] env env [] := fun Fr G M σ H vs A r Q k => pgs_nil.w ⟨rpl_nil.mp r, k σ A fun _ _ => rfl⟩
theorem gs_cons (h1 : Pg X c e d env env1 js) (h2 : Pgs X c es ds env1 env2 ks) (hs : (assignEach (e :: es) X.env).map (·.2) = assign e X.env :: (assignEach es X.env).map (·.2) := by rfl) : Pgs X c (e :: es) (d :: ds) env env2 (js ++ ks) := fun Fr G M σ H vs A r Q k => by
  obtain ⟨v, r2, rfl, h3, h4⟩ := rpl_cons.mp r
  exact (pgs_cons wg wgs hs).w ⟨v, r2, rfl, h1 Fr G M σ H v A h3 _ fun σ1 A1 w1 => h2 Fr G M σ1 H r2 A1 h4 _ fun σ2 A2 w2 => k σ2 A2 (w1.app w2)⟩
theorem g_tup {k : Nat} (hc : X.calm = true) (hK : X.K = c.K) (h : Pgs X c es ds env env1 js) (hn : (assignEach es X.env).length = ds.length := by rfl) (hst : (assignEach es X.env).findIdx? (·.1) = none := by rfl) : Pg X c (.Tuple es k pos) (.t ds) env env1 js := fun Fr G M σ H v A r Q q => by
  obtain ⟨a, vs, rfl, h1, h2⟩ := rp_t.mp r
  exact (pg_tup hc wgs hn hst).w ⟨a, vs, rfl, hK ▸ h1, h2.len, h Fr G M σ H vs A h2 _ q⟩
end

/-! ### what is walked -/
/-- the items, each with its data; what is walked stands while the frame and the ghosts stand -/
def Pi (X : Cx) (c : Cs) (Fr : Hp) (G : List (V × D)) (M : Mm) (env : En) (tg iter : Expr) (ds : List D) : Prop :=
  ∀ (σ : L2.St) (H : Hp), At c Fr G M env σ H → ∀ R : It → Hp → Prop,
    (∀ (J : It) (Fr' : Hp) (Gx : List (V × D)) (H2 : Hp), Ex Fr Fr' → At c Fr' (Gx ++ G) M env σ H2 → IM H H2 →
      Walk J ds.length (fun H' => Ex Fr' H' ∧ ∀ p ∈ Gx, Rp c H' p.2 p.1) (fun i H x H' => Ex H H' ∧ ∀ d, ds[i]? = some d → Rp c H' d x) → R J H2) → WI X tg iter σ H R
section
variable {X : Cx} {c : Cs} {Fr : Hp} {G : List (V × D)} {M : Mm} {env : En} {tg e : Expr} {ds : List D} {pos p1 p2 : Pos} {x : Str}
theorem i_tup (hK : X.K = c.K) (h : Pv X c Fr G M env e (.t ds)) : Pi X c Fr G M env tg e ds := fun σ H A R k =>
  (pi_tup we).w (h σ H A _ fun v H1 A1 i1 r => by
    obtain ⟨a, vs, e1, h1, h2⟩ := rp_t.mp r
    refine ⟨a, e1, ⟨vs, hK ▸ h1⟩, ?_⟩
    have hl := h2.len
    refine k (Itt X.K a) Fr [(v, .t ds)] H1 (Ex.refl _) (A1.ghost r) i1 ?_
    rw [← hl]
    have key : ∀ H', (∀ p ∈ [(v, D.t ds)], Rp c H' p.2 p.1) → ∃ vs', SqT X.K H' a vs' ∧ RpL c H' ds vs' := fun H' h => by
      have h := h _ List.mem_cons_self
      obtain ⟨b, vs', e2, h3, h4⟩ := rp_t.mp h
      have e2 : v = .ref b := e2
      rw [e1] at e2
      cases e2
      exact ⟨vs', hK ▸ h3, h4⟩
    refine ⟨fun i H' hi q => ?_, fun H' q => ?_, fun i H' y H'' hi q z => ?_⟩
    · obtain ⟨vs', h3, h4⟩ := key H' q.2
      have hl2 := h4.len
      exact ⟨vs', vs'[i]'(by omega), h3, by simp⟩
    · obtain ⟨vs', h3, h4⟩ := key H' q.2
      have hl2 := h4.len
      exact ⟨vs', h3, by omega⟩
    · obtain ⟨vs', h3, h4⟩ := key H' q.2
      obtain ⟨z1, z2⟩ := z
      subst z1
      refine ⟨Ex.refl _, fun d hd => ?_⟩
      obtain ⟨u, q1, q2⟩ := h4.get hd
      rw [z2 vs' h3] at q1
      cases q1
      exact q2)
theorem i_lst_walk {K : PySem.W.Frag} {a : Addr} {Fr' : Hp} (hK : K = c.K) (h : LsAt c Fr' a ds) : Walk (Itl K a) ds.length (fun H' => Ex Fr' H' ∧ ∀ p ∈ ([] : List (V × D)), Rp c H' p.2 p.1) (fun i H x H' => Ex H H' ∧ ∀ d, ds[i]? = some d → Rp c H' d x) := by
  obtain ⟨vs, h1, h2⟩ := h
  have hl := h2.len
  rw [← hl]
  refine ⟨fun i H' hi q => ?_, fun H' q => ?_, fun i H' y H'' hi q z => ?_⟩
  · exact ⟨vs, vs[i], .inl (rd_ex q.1 h1), by simp⟩
  · exact ⟨vs, .inl (rd_ex q.1 h1), Nat.le_refl _⟩
  · obtain ⟨z1, z2⟩ := z
    subst z1
    refine ⟨Ex.refl _, fun d hd => ?_⟩
    obtain ⟨u, q1, q2⟩ := h2.get hd
    rw [z2 vs (.inl (rd_ex q.1 h1))] at q1
    cases q1
    exact q2.im q.1.im
/-- over a list of the frame -/
theorem i_lst {a : Addr} (hK : X.K = c.K) (h : Pv X c Fr G M env e (.p a)) (hl : LsAt c Fr a ds) : Pi X c Fr G M env tg e ds := fun σ H A R k =>
  (pi_list we).w (h σ H A _ fun v H1 A1 i1 r => by
    obtain ⟨vs, h1, _⟩ := hl.ex A1.fr
    exact ⟨a, rp_v.mp r, ⟨vs, .inl h1⟩, k _ Fr [] H1 (Ex.refl _) A1 i1 (i_lst_walk hK hl)⟩)
/-- over a list that was just made -/
theorem i_new (hK : X.K = c.K) (h : Pl X c Fr G M env e ds) : Pi X c Fr G M env tg e ds := fun σ H A R k =>
  (pi_list we).w (h σ H A _ fun a H1 A1 i1 => by
    obtain ⟨Fr', e1, h1, A2⟩ := A1.freeze
    obtain ⟨vs, h2, _⟩ := h1.ex A2.fr
    exact ⟨a, rfl, ⟨vs, .inl h2⟩, k _ Fr' [] H1 e1 A2 i1 (i_lst_walk hK h1)⟩)
theorem i_rng {n : Nat} (hm : X.mg "range" = none) (h : Pa X c Fr G M env [e] [.i (n : Int)]) (hn : n ≤ 100000) (hg : Gl X "range" := by rfl) (hs : starEach [e] X.env = [(false, eval e X.env)] := by rfl) : Pi X c Fr G M env tg (.Call (.Name "range" p1) [e] [] p2) ((List.range n).map fun (i : Nat) => D.i (i : Int)) := fun σ H A R k =>
  (pi_range1 hg hm wa hs).w (h σ H A _ fun vs H1 A1 i1 r => by
    obtain ⟨v, r2, rfl, h1, h2⟩ := rpl_cons.mp r
    rw [rpl_nil.mp h2, rp_v.mp h1]
    refine ⟨(n : Int), rfl, by omega, by omega, k _ Fr [] H1 (Ex.refl _) A1 i1 ?_⟩
    have e1 : ((n : Int)).toNat = n := by omega
    rw [e1, List.length_map, List.length_range]
    refine ⟨fun i _ hi _ => hi, fun _ _ => Nat.le_refl _, fun i H' y H'' hi q z => ?_⟩
    obtain ⟨z1, z2⟩ := z
    subst z1
    refine ⟨Ex.refl _, fun d hd => ?_⟩
    rw [List.getElem?_map, List.getElem?_range hi] at hd
    cases hd
    rw [z2]
    exact rp_v.mpr (by simp))
theorem i_str {z : Str} (h : Pv X c Fr G M env e (.s z)) : Pi X c Fr G M env tg e (z.cps.toList.map fun i => .s ⟨#[i]⟩) := fun σ H A R k =>
  (pi_str we).w (h σ H A _ fun v H1 A1 i1 r => by
    refine ⟨z, rp_v.mp r, k _ Fr [] H1 (Ex.refl _) A1 i1 ?_⟩
    have w := walk_str (z := z)
    have e1 : z.cps.size = (z.cps.toList.map fun i => D.s ⟨#[i]⟩).length := by simp
    rw [e1] at w
    refine w.mono (fun _ _ => trivial) fun i H' y H'' hi q z => ?_
    obtain ⟨z1, u, z2, z3⟩ := z
    subst z1
    refine ⟨Ex.refl _, fun d hd => ?_⟩
    rw [List.getElem?_map, Array.getElem?_toList, z2] at hd
    cases hd
    exact rp_v.mpr z3)
end

/-! ### statements -/
section
variable {X : Cx} {c : Cs} {Fr : Hp} {G : List (V × D)} {M : Mm} {env : En} {e f : Expr} {es : List Expr} {d : D} {ds : List D} {pos p1 p2 p3 : Pos} {x : Str} {D0 : Ends} {σ : L2.St} {H : Hp} {rest as bs sts : List Stmt} {st : Stmt}
theorem x_cons (h : WS X st { D0 with nx := fun σ H => WB X rest D0 σ H } σ H) : WB X (st :: rest) D0 σ H := (pss_cons ws wb).w h
theorem x_nil (h : D0.nx σ H) : WB X [] D0 σ H := pss_nil.w h
theorem x_ret (he : Pv X c Fr G M env e d) (A : At c Fr G M env σ H) (k : ∀ v H', At c Fr G M env σ H' → Rp c H' d v → D0.rt v H') : WB X (.Return (some e) pos :: rest) D0 σ H :=
  x_cons ((ps_ret we).w (he σ H A _ fun v H' A' _ r => k v H' A' r))
theorem x_retE {Z : D → Mm → Prop} (he : Ev X c Fr G M env e Z) (A : At c Fr G M env σ H) (k : ∀ d M' v H', Z d M' → At c Fr G M' env σ H' → IM H H' → Rp c H' d v → D0.rt v H') : WB X (.Return (some e) pos :: rest) D0 σ H :=
  x_cons ((ps_ret we).w (he σ H A _ fun d M' v H' z A' i r => k d M' v H' z A' i r))
theorem x_retN (k : D0.rt .non H) : WB X (.Return none pos :: rest) D0 σ H := x_cons (ps_retN.w k)
theorem x_set (i : Nat) (hN : X.N.Nodup) (he : Pv X c Fr G M env e d) (A : At c Fr G M env σ H) (k : ∀ σ' H', At c Fr G M (env.set i (some d)) σ' H' → WB X rest D0 σ' H')
    (hi : X.N[i]? = some x := by rfl) (hx : Loc X.env.scope x := by first | exact Or.inl rfl | exact Or.inr rfl) (hs : swapsWith e (some (.Name x p1)) p2.line X.env = pure false := by rfl) (hf : X.fn x = true ∨ X.env.scope.names.lookup x = some .local := by first | exact .inl rfl | exact .inr rfl) : WB X (.Assign [.Name x p1] e p2 :: rest) D0 σ H :=
  x_cons ((ps_set hN hi hx we hs hf).w (he σ H A _ fun v H' A' _ r => k _ H' (A'.set r)))
theorem x_setE (i : Nat) (hN : X.N.Nodup) {Z : D → Mm → Prop} (he : Ev X c Fr G M env e Z) (A : At c Fr G M env σ H) (k : ∀ d M' σ' H', Z d M' → At c Fr G M' (env.set i (some d)) σ' H' → WB X rest D0 σ' H')
    (hi : X.N[i]? = some x := by rfl) (hx : Loc X.env.scope x := by first | exact Or.inl rfl | exact Or.inr rfl) (hs : swapsWith e (some (.Name x p1)) p2.line X.env = pure false := by rfl) (hf : X.fn x = true ∨ X.env.scope.names.lookup x = some .local := by first | exact .inl rfl | exact .inr rfl) : WB X (.Assign [.Name x p1] e p2 :: rest) D0 σ H :=
  x_cons ((ps_set hN hi hx we hs hf).w (he σ H A _ fun d M' v H' z A' _ r => k d M' _ H' z (A'.set r)))
theorem x_setL (i : Nat) (hN : X.N.Nodup) (he : Pl X c Fr G M env e ds) (A : At c Fr G M env σ H) (k : ∀ l σ' H', At c Fr G ((l, .lst ds) :: M) (env.set i (some (.p l))) σ' H' → WB X rest D0 σ' H')
    (hi : X.N[i]? = some x := by rfl) (hx : Loc X.env.scope x := by first | exact Or.inl rfl | exact Or.inr rfl) (hs : swapsWith e (some (.Name x p1)) p2.line X.env = pure false := by rfl) (hf : X.fn x = true ∨ X.env.scope.names.lookup x = some .local := by first | exact .inl rfl | exact .inr rfl) : WB X (.Assign [.Name x p1] e p2 :: rest) D0 σ H :=
  x_cons ((ps_set hN hi hx we hs hf).w (he σ H A _ fun l H' A' _ => k l _ H' (A'.set (rp_v.mpr rfl))))
/-- a, b = e -/
theorem x_tup {k0 : Nat} {env' : En} {js : List Nat} (he : Pv X c Fr G M env e d) (hg : Pg X c (.Tuple es k0 p1) d env env' js) (A : At c Fr G M env σ H) (k : ∀ σ' H', At c Fr G M env' σ' H' → WB X rest D0 σ' H')
    (hs : swapsWithSole [.Tuple es k0 p1] e p2.line X.env = pure false := by rfl) (hw : swappedStores [.Tuple es k0 p1] e X.env = pure none := by rfl) (h1 : (assignEach [.Tuple es k0 p1] X.env).map (·.2) = [assign (.Tuple es k0 p1) X.env] := by rfl) : WB X (.Assign [.Tuple es k0 p1] e p2 :: rest) D0 σ H :=
  x_cons ((ps_asg we wg hs hw h1).w (he σ H A _ fun v H' A' _ r => hg Fr G M σ H' v A' r _ fun σ' A2 _ => k σ' H' A2))
theorem x_tupE {k0 : Nat} {Z : D → Mm → Prop} (he : Ev X c Fr G M env e Z) (A : At c Fr G M env σ H) (k : ∀ d M', Z d M' → ∃ env' js, Pg X c (.Tuple es k0 p1) d env env' js ∧ ∀ σ' H', At c Fr G M' env' σ' H' → WB X rest D0 σ' H')
    (hs : swapsWithSole [.Tuple es k0 p1] e p2.line X.env = pure false := by rfl) (hw : swappedStores [.Tuple es k0 p1] e X.env = pure none := by rfl) (h1 : (assignEach [.Tuple es k0 p1] X.env).map (·.2) = [assign (.Tuple es k0 p1) X.env] := by rfl) : WB X (.Assign [.Tuple es k0 p1] e p2 :: rest) D0 σ H :=
  x_cons ((ps_asg we wg hs hw h1).w (he σ H A _ fun d M' v H' z A' _ r => by
    obtain ⟨env', js, hg, k⟩ := k d M' z
    exact hg Fr G M' σ H' v A' r _ fun σ' A2 _ => k σ' H' A2))
theorem x_par {i j : Nat} {y : Str} {a b : Expr} {px py pt : Pos} {kt k2 pt2} {da db : D} (hc : X.calm = true) (hN : X.N.Nodup) (hij : i ≠ j) (ha : Pa X c Fr G M env [a, b] [da, db]) (A : At c Fr G M env σ H)
    (k : ∀ σ' H', At c Fr G M ((env.set i (some da)).set j (some db)) σ' H' → WB X rest D0 σ' H') (hi : X.N[i]? = some x := by rfl) (hj : X.N[j]? = some y := by rfl)
    (hx : X.env.scope.names.lookup x = some .local := by rfl) (hy : X.env.scope.names.lookup y = some .local := by rfl) (hw : swappedStores [.Tuple [.Name x px, .Name y py] kt pt] (.Tuple [a, b] k2 pt2) X.env = pure (some [x, y]) := by rfl)
    (hs : swapsWithSole [.Tuple [.Name x px, .Name y py] kt pt] (.Tuple [a, b] k2 pt2) pos.line X.env = pure false := by rfl) : WB X (.Assign [.Tuple [.Name x px, .Name y py] kt pt] (.Tuple [a, b] k2 pt2) pos :: rest) D0 σ H :=
  x_cons ((ps_par hc hN hi hj hij hx hy wa hw hs).w (ha σ H A _ fun vs H' A' _ r => by
    obtain ⟨v, r2, rfl, h1, h2⟩ := rpl_cons.mp r
    obtain ⟨u, r3, rfl, h3, h4⟩ := rpl_cons.mp h2
    rw [rpl_nil.mp h4]
    exact ⟨v, u, rfl, k _ H' ((A'.set h1).set h3)⟩))
theorem x_parE {i j : Nat} {y : Str} {a b : Expr} {px py pt : Pos} {kt k2 pt2} {Z : List D → Mm → Prop} (hc : X.calm = true) (hN : X.N.Nodup) (hij : i ≠ j) (ha : Ea X c Fr G M env [a, b] Z) (A : At c Fr G M env σ H)
    (k : ∀ ds M', Z ds M' → ∃ da db, ds = [da, db] ∧ ∀ σ' H', At c Fr G M' ((env.set i (some da)).set j (some db)) σ' H' → WB X rest D0 σ' H') (hi : X.N[i]? = some x := by rfl) (hj : X.N[j]? = some y := by rfl)
    (hx : X.env.scope.names.lookup x = some .local := by rfl) (hy : X.env.scope.names.lookup y = some .local := by rfl) (hw : swappedStores [.Tuple [.Name x px, .Name y py] kt pt] (.Tuple [a, b] k2 pt2) X.env = pure (some [x, y]) := by rfl)
    (hs : swapsWithSole [.Tuple [.Name x px, .Name y py] kt pt] (.Tuple [a, b] k2 pt2) pos.line X.env = pure false := by rfl) : WB X (.Assign [.Tuple [.Name x px, .Name y py] kt pt] (.Tuple [a, b] k2 pt2) pos :: rest) D0 σ H :=
  x_cons ((ps_par hc hN hi hj hij hx hy wa hw hs).w (ha σ H A _ fun ds M' vs H' z A' _ r => by
    obtain ⟨da, db, rfl, k⟩ := k ds M' z
    obtain ⟨v, r2, rfl, h1, h2⟩ := rpl_cons.mp r
    obtain ⟨u, r3, rfl, h3, h4⟩ := rpl_cons.mp h2
    rw [rpl_nil.mp h4]
    exact ⟨v, u, rfl, k _ H' ((A'.set h1).set h3)⟩))
/-- x += e -/
theorem x_aug (i : Nat) (hN : X.N.Nodup) {op : Operator} {g : Int → Int → Int} {a b : Int} (ho : PIp X op (ipI g)) (he : Pv X c Fr G M env e (.i b)) (A : At c Fr G M env σ H) (k : ∀ σ' H', At c Fr G M (env.set i (some (.i (g a b)))) σ' H' → WB X rest D0 σ' H') (h : env[i]? = some (some (.i a)) := by rfl)
    (hi : X.N[i]? = some x := by rfl) (hx : Loc X.env.scope x := by first | exact Or.inl rfl | exact Or.inr rfl) (hf : X.fn x = true ∨ X.env.scope.names.lookup x = some .local := by first | exact .inl rfl | exact .inr rfl) : WB X (.AugAssign (.Name x p1) op e p2 :: rest) D0 σ H := by
  obtain ⟨v, hs, hr⟩ := A.sl i _ h
  exact x_cons ((ps_aug hN hi hx we ho hf).w ⟨v, hs, he σ H A _ fun u H' A' i' r => ⟨a, b, rp_v.mp hr, rp_v.mp r, k _ H' (A'.set (rp_v.mpr rfl))⟩⟩)
/-- an expression for its effect -/
theorem x_exp {Z : D → Mm → Prop} (he : Ev X c Fr G M env e Z) (A : At c Fr G M env σ H) (k : ∀ d M' H', Z d M' → At c Fr G M' env σ H' → WB X rest D0 σ H') (hs : swapsWith e none pos.line X.env = pure false := by rfl) : WB X (.Expr e pos :: rest) D0 σ H :=
  x_cons ((ps_expr we hs).w (he σ H A _ fun d M' v H' z A' i r => k d M' H' z A'))
theorem x_if {k : Bool} (he : Pt X c Fr G M env e k) (A : At c Fr G M env σ H) (h1 : k = true → ∀ H', At c Fr G M env σ H' → WB X as { D0 with nx := fun σ H => WB X rest D0 σ H } σ H') (h2 : k = false → ∀ H', At c Fr G M env σ H' → WB X bs { D0 with nx := fun σ H => WB X rest D0 σ H } σ H') : WB X (.If e as bs pos :: rest) D0 σ H :=
  x_cons ((ps_if wt wb wb).w (he σ H A _ fun H' A' _ => by
    cases k with
    | true => exact iteT (h1 rfl H' A')
    | false => exact iteF (h2 rfl H' A')))
/-- for: I by the turn, the objects, the slots -/
theorem x_for (hc : X.calm = true) (hp : PassesOwn (model X.prog X.w) X.A X.env X.xe) (I : Nat → Mm → En → Prop) (hi : Pi X c Fr G M env f e ds) (A : At c Fr G M env σ H) (h0 : I 0 M env)
    (hs : ∀ (i : Nat) (d : D) M' env' Fr' Gx, ds[i]? = some d → I i M' env' → Ex Fr Fr' → ∃ env2 js, Pg X c f d env' env2 js ∧ ∀ σ' H', At c Fr' (Gx ++ G) M' env2 σ' H' →
      WB X as { D0 with nx := fun σ2 H2 => ∃ M2 env3, I (i + 1) M2 env3 ∧ At c Fr' (Gx ++ G) M2 env3 σ2 H2, ct := fun σ2 H2 => ∃ M2 env3, I (i + 1) M2 env3 ∧ At c Fr' (Gx ++ G) M2 env3 σ2 H2, bk := fun σ H => WB X rest D0 σ H } σ' H')
    (hd : ∀ M' env' σ' H', I ds.length M' env' → At c Fr G M' env' σ' H' → WB X rest D0 σ' H')
    (hfs : ∀ x, foldedSetIterable e X.env x = pure x := by intro _; rfl) : WB X (.For f e as [] pos :: rest) D0 σ H := by
  refine x_cons ((ps_for hp hc wi wg wb hfs).w (hi σ H A _ fun J Fr' Gx H2 e1 A2 _ w => ?_))
  have back : ∀ (M' : Mm) (env' : En) (σ' : L2.St) (H' : Hp), At c Fr' (Gx ++ G) M' env' σ' H' → At c Fr G M' env' σ' H' := fun M' env' σ' H' B =>
    ⟨e1.trans B.fr, fun p hp => B.gh p (List.mem_append_right _ hp), fun p hp => ⟨e1.back (B.ob p hp).1, (B.ob p hp).2⟩, B.nd, B.sl, B.ln⟩
  refine for_it w (fun i σ' H' => ∃ M' env', I i M' env' ∧ At c Fr' (Gx ++ G) M' env' σ' H') ⟨M, env, h0, A2⟩ (fun i σ' H' _ ⟨M', env', _, B⟩ => ⟨B.fr, fun p hp => B.gh p (List.mem_append_left _ hp)⟩) (fun i y σ' H' H'' hi ⟨M', env', z, B⟩ ⟨e2, r⟩ => ?_) (fun σ' H' ⟨M', env', z, B⟩ => hd M' env' σ' H' z (back _ _ _ _ B))
  have hd2 : ds[i]? = some ds[i] := by simp [hi]
  obtain ⟨env2, js, hg, k⟩ := hs i ds[i] M' env' Fr' Gx hd2 z e1
  exact hg Fr' (Gx ++ G) M' σ' H'' y (B.ex e2) (r _ hd2) _ fun σ3 B2 _ => k σ3 H'' B2
/-- while: I by a number that falls -/
theorem x_while (hp : PassesOwn (model X.prog X.w) X.A X.env X.xe) (I : Nat → Mm → En → Prop) (m : Nat) (A : At c Fr G M env σ H) (h0 : I m M env)
    (hs : ∀ m M' env', I m M' env' → ∃ b, Pt X c Fr G M' env' e b ∧
      (b = true → ∀ σ' H', At c Fr G M' env' σ' H' → WB X as { D0 with nx := fun σ2 H2 => ∃ m' M2 env3, m' < m ∧ I m' M2 env3 ∧ At c Fr G M2 env3 σ2 H2, ct := fun σ2 H2 => ∃ m' M2 env3, m' < m ∧ I m' M2 env3 ∧ At c Fr G M2 env3 σ2 H2, bk := fun σ H => WB X rest D0 σ H } σ' H') ∧
      (b = false → ∀ σ' H', At c Fr G M' env' σ' H' → WB X rest D0 σ' H')) : WB X (.While e as [] pos :: rest) D0 σ H := by
  refine x_cons ((ps_while hp wt wb).w ⟨fun m σ' H' => ∃ M' env', I m M' env' ∧ At c Fr G M' env' σ' H', ⟨m, M, env, h0, A⟩, fun m σ' H' ⟨M', env', z, B⟩ => ?_⟩)
  obtain ⟨b, hb, h1, h2⟩ := hs m M' env' z
  refine hb σ' H' B _ fun H2 B2 _ => ?_
  cases b with
  | true => exact iteT ⟨_, fun σ3 H3 ⟨m', M2, env3, q1, q2, q3⟩ => ⟨m', q1, M2, env3, q2, q3⟩, h1 rfl σ' H2 B2⟩
  | false => exact iteF (h2 rfl σ' H2 B2)
end
end Sx
end
section
set_option maxRecDepth 100000
set_option maxHeartbeats 1000000
namespace Sx
open PySem PySem.Spec PyProof.Rows L2

/-! ### list comprehensions -/
def WTs (X : Cx) (ifs : List Expr) : TT := fun σ H Q => ∀ (pins : List (Addr × Obj)) (s : Shared), Inv X pins σ H s →
  wpAny (model X.prog X.w) X.A (forIn ifs true fun c r => if r = true then do let ok ← isTrue c X.env (eval c X.env); pure (ForInStep.yield ok) else pure (ForInStep.yield r)) (TP X pins σ Q) X.xe s
theorem wts {X : Cx} {ifs : List Expr} : PTs X ifs (WTs X ifs) := ⟨fun pins s σ H Q I h => h pins s I⟩
theorem _root_.L2.PTs.w {X : Cx} {ifs : List Expr} {t : TT} {σ : L2.St} {H : Hp} (h : PTs X ifs t) {Q : Bool → Hp → Prop} (q : t σ H Q) : WTs X ifs σ H Q := fun pins s I => h.run pins s σ H Q I q
def Pn (X : Cx) (c : Cs) (Fr : Hp) (G : List (V × D)) (M : Mm) (env : En) (ifs : List Expr) (b : Bool) : Prop := ∀ (σ : L2.St) (H : Hp), At c Fr G M env σ H → ∀ Q : Bool → Hp → Prop, (∀ H2, At c Fr G M env σ H2 → IM H H2 → Q b H2) → WTs X ifs σ H Q
theorem n_nil {X : Cx} {c : Cs} {Fr : Hp} {G : List (V × D)} {M : Mm} {env : En} : Pn X c Fr G M env [] true := fun σ H A Q q => pts_nil.w (q H A (IM.refl H))
theorem n_one {X : Cx} {c : Cs} {Fr : Hp} {G : List (V × D)} {M : Mm} {env : En} {e : Expr} {b : Bool} (h : Pt X c Fr G M env e b) : Pn X c Fr G M env [e] b := fun σ H A Q q => (pts_one wt).w (h σ H A _ q)
def wipeE (env : En) : List Nat → En
  | [] => env
  | v :: vs => (wipeE env vs).set v none
theorem At.wiped {c : Cs} {Fr H : Hp} {G : List (V × D)} {M : Mm} {env : En} {σ : L2.St} (A : At c Fr G M env σ H) : ∀ vs : List Nat, At c Fr G M (wipeE env vs) (wipe σ vs) H
  | [] => A
  | v :: vs => by
    have B := A.wiped vs
    refine ⟨B.fr, B.gh, B.ob, B.nd, fun i d h => ?_, ?_⟩
    · have h : ((wipeE env vs).set v none)[i]? = some (some d) := h
      have q : v ≠ i := fun z => by
        subst z
        by_cases hv : v < (wipeE env vs).length
        · rw [List.getElem?_set_self hv] at h
          cases h
        · rw [List.getElem?_eq_none (by simpa using hv)] at h
          cases h
      rw [List.getElem?_set_ne q] at h
      obtain ⟨u, h1, h2⟩ := B.sl i d h
      exact ⟨u, by show ((wipe σ vs).set v none)[i]? = _; rw [List.getElem?_set_ne q]; exact h1, h2⟩
    · show ((wipe σ vs).set v none).length = ((wipeE env vs).set v none).length
      rw [List.length_set, List.length_set]
      exact B.ln
def KG (X : Cx) (scope : Scope) (tg : Expr) : TG := fun v σ H Q => ∀ (s : Shared) (H0 : Hp) (C : Addr) (cl : List (Str × Addr)) (fp : List Addr), WG (X.blk s H0 scope (compEnvC scope cl C X.env) fp) tg v σ H Q
def KT (X : Cx) (scope : Scope) (ifs : List Expr) : TT := fun σ H Q => ∀ (s : Shared) (H0 : Hp) (C : Addr) (cl : List (Str × Addr)) (fp : List Addr), WTs (X.blk s H0 scope (compEnvC scope cl C X.env) fp) ifs σ H Q
def KE (X : Cx) (scope : Scope) (elt : Expr) : TE := fun σ H Q => ∀ (s : Shared) (H0 : Hp) (C : Addr) (cl : List (Str × Addr)) (fp : List Addr), WE (X.blk s H0 scope (compEnvC scope cl C X.env) fp) elt σ H Q
section
variable {X : Cx} {c : Cs} {Fr : Hp} {G : List (V × D)} {M : Mm} {env : En} {tg iter elt : Expr} {ifs : List Expr} {scope : Scope} {own : List (Str × Nat)} {pos : Pos} {ds : List D}
/-- with effects: I by the turn, the objects, what is made so far -/
theorem e_lc (own : List (Str × Nat)) (I : Nat → Mm → List D → Prop) (hc : X.calm = true) (hN : X.N.Nodup) (hi : Pi X c Fr G M env tg iter ds) (ok : BlkOk X.N X.env.scope scope own) (h0 : I 0 M []) (hz : ds.length ≤ 100000)
    (hl : ∀ i M' acc, i ≤ ds.length → I i M' acc → acc.length ≤ i)
    (hb : ∀ (i : Nat) (d : D) M' acc Fr' Gx Dl, ds[i]? = some d → I i M' acc → Ex Fr Fr' → ∃ env2 js b, (∀ (s : Shared) (H : Hp) (C : Addr) (cl : List (Str × Addr)) (fp : List Addr), Pg (X.blk s H scope (compEnvC scope cl C X.env) fp) c tg d (wipeE env (own.map (·.2))) env2 js) ∧ (∀ j ∈ js, j ∈ own.map (·.2)) ∧
      (∀ (s : Shared) (H : Hp) (C : Addr) (cl : List (Str × Addr)) (fp : List Addr), Pn (X.blk s H scope (compEnvC scope cl C X.env) fp) c Fr' (Gx ++ G) ((Dl, .lst acc) :: M') env2 ifs b) ∧
      (b = true → ∀ (s : Shared) (H : Hp) (C : Addr) (cl : List (Str × Addr)) (fp : List Addr), Ev (X.blk s H scope (compEnvC scope cl C X.env) fp) c Fr' (Gx ++ G) ((Dl, .lst acc) :: M') env2 elt (fun d' M2 => ∃ M3, M2 = (Dl, .lst acc) :: M3 ∧ I (i + 1) M3 (acc ++ [d']))) ∧ (b = false → I (i + 1) M' acc))
    (hs : ∀ x, foldedSetIterable iter X.env x = pure x := by intro _; rfl) :
    Ev X c Fr G M env (.ListComp elt [⟨tg, iter, ifs, 0⟩] scope pos) (fun d M' => ∃ l M2 acc, d = .p l ∧ M' = (l, .lst acc) :: M2 ∧ I ds.length M2 acc) := fun σ H A Q q => by
  refine (pe_lc (wi := WI X tg iter) (g := KG X scope tg) (tt := KT X scope ifs) (te := KE X scope elt) hc hN wi ok (fun s H0 C cl fp => ⟨fun pins s' σ H v u Q I r h => h s H0 C cl fp pins s' u I r⟩) (fun s H0 C cl fp => ⟨fun pins s' σ H Q I h => h s H0 C cl fp pins s' I⟩) (fun s H0 C cl fp => ⟨fun pins s' σ H Q I h => h s H0 C cl fp pins s' I⟩) hs).w ?_
  refine hi σ H A _ fun J Fr' Gx H2 e1 A2 i2 w Dl hD => ?_
  have B0 : At c Fr' (Gx ++ G) ((Dl, .lst []) :: M) env σ (upd H2 Dl (.lst [])) := A2.new hD (Ex.new hD) ⟨[], upd_same, rpl_nil.mpr rfl⟩
  refine lc_it w (g := KG X scope tg) (tt := KT X scope ifs) (te := KE X scope elt) (vs := own.map (·.2)) (σ := σ) (Qd := fun H => Q (.ref Dl) H) (fun i H' => ∃ M' acc, I i M' acc ∧ At c Fr' (Gx ++ G) ((Dl, .lst acc) :: M') env σ H' ∧ IM H H') ⟨M, [], h0, B0, i2.trans (IM.new hD)⟩ (fun i H' _ ⟨M', acc, _, B, _⟩ => ⟨B.fr, fun p hp => B.gh p (List.mem_append_left _ hp)⟩) (fun i y H' H'' hlt ⟨M', acc, z, B, im⟩ ⟨e2, r⟩ => ?_) (fun H' ⟨M', acc, z, B, im⟩ => ?_)
  · have hd2 : ds[i]? = some ds[i] := by simp [hlt]
    obtain ⟨env2, js, b, hg, hj, hn, he, hf⟩ := hb i ds[i] M' acc Fr' Gx Dl hd2 z e1
    have hlen := hl i M' acc (Nat.le_of_lt hlt) z
    intro s H0 C cl fp
    refine hg s H0 C cl fp Fr' (Gx ++ G) _ _ H'' y ((B.ex e2).wiped (own.map (·.2))) (r _ hd2) _ fun σ2 B2 w2 => ⟨?_, fun s H0 C cl fp => ?_⟩
    · rw [w2 _ hj]
      have : ∀ vs : List Nat, wipe (wipe σ vs) vs = wipe σ vs := by
        have a1 : ∀ (us : List Nat) (v : Nat) (τ : L2.St), v ∈ us → wipe (τ.set v none) us = wipe τ us := fun us v τ h => wipe_set h
        have a2 : ∀ (vs us : List Nat) (τ : L2.St), (∀ v ∈ vs, v ∈ us) → wipe (wipe τ vs) us = wipe τ us := by
          intro vs
          induction vs with
          | nil => intro us τ _; rfl
          | cons v vs ih =>
            intro us τ h
            show wipe ((wipe τ vs).set v none) us = _
            rw [a1 us v _ (h v List.mem_cons_self), ih us τ fun u hu => h u (List.mem_cons_of_mem _ hu)]
        exact fun vs => a2 vs vs σ fun _ h => h
      exact this _
    · have un : ∀ (M'' : Mm) (acc' : List D) (H3 : Hp), IM H' H3 → At c Fr' (Gx ++ G) ((Dl, .lst acc') :: M'') env2 σ2 H3 → At c Fr' (Gx ++ G) ((Dl, .lst acc') :: M'') env σ H3 := fun M'' acc' H3 i3 B3 =>
        ⟨B3.fr, B3.gh, B3.ob, B3.nd, fun j d h => let ⟨v, h1, h2⟩ := B.sl j d h; ⟨v, h1, h2.im i3⟩, A2.ln⟩
      refine hn s H0 C cl fp σ2 H'' B2 _ fun H3 B3 i3 => ?_
      cases b with
      | false => exact iteF ⟨M', acc, hf rfl, un _ _ _ (e2.im.trans i3) B3, (im.trans e2.im).trans i3⟩
      | true =>
        refine iteT fun s H0 C cl fp => ?_
        refine he rfl s H0 C cl fp σ2 H3 B3 _ fun d' M2 v H4 ⟨M3, e3, z3⟩ B4 i4 rv => ?_
        subst e3
        obtain ⟨fD, vs, h1, h2⟩ := B4.ob (Dl, .lst acc) List.mem_cons_self
        have i5 : IM H4 (upd H4 Dl (.lst (vs ++ [v]))) := IM.upd h1 rfl
        refine ⟨vs, h1, by rw [h2.len]; exact Nat.lt_of_le_of_lt hlen (Nat.lt_of_lt_of_le hlt (Nat.le_trans hz (by decide))), M3, acc ++ [d'], z3, un _ _ _ (((e2.im.trans i3).trans i4).trans i5) ?_, (((im.trans e2.im).trans i3).trans i4).trans i5⟩
        exact B4.mut ⟨_, upd_same, (h2.app (RpL.one rv)).im i5⟩
  · exact q (.p Dl) _ (.ref Dl) H' ⟨Dl, M', acc, rfl, rfl, z⟩ ⟨e1.trans B.fr, fun p hp => B.gh p (List.mem_append_right _ hp), fun p hp => ⟨e1.back (B.ob p hp).1, (B.ob p hp).2⟩, B.nd, B.sl, B.ln⟩ im (rp_v.mpr rfl)
end
end Sx
end
section
set_option maxRecDepth 100000
set_option maxHeartbeats 1000000
namespace Sx
open PySem PySem.Spec PyProof.Rows L2

section
variable {X : Cx} {c : Cs} {Fr : Hp} {G : List (V × D)} {M : Mm} {env : En} {tg iter elt a b e : Expr} {es ifs : List Expr} {scope : Scope} {pos p1 p2 p3 : Pos} {d : D} {ds : List D} {x : Str} {l : Addr}
/-- a comprehension without effects -/
theorem l_lc {α : Type} (own : List (Str × Nat)) (xs : List α) (g : α → D) (tst : α → Bool) (val : α → D) (hc : X.calm = true) (hN : X.N.Nodup) (hi : Pi X c Fr G M env tg iter (xs.map g)) (ok : BlkOk X.N X.env.scope scope own) (hz : xs.length ≤ 100000)
    (hb : ∀ x ∈ xs, ∀ (acc : List D) Fr' Gx Dl, Ex Fr Fr' → ∃ env2 js, (∀ (s : Shared) (H : Hp) (C : Addr) (cl : List (Str × Addr)) (fp : List Addr), Pg (X.blk s H scope (compEnvC scope cl C X.env) fp) c tg (g x) (wipeE env (own.map (·.2))) env2 js) ∧ (∀ j ∈ js, j ∈ own.map (·.2)) ∧
      (∀ (s : Shared) (H : Hp) (C : Addr) (cl : List (Str × Addr)) (fp : List Addr), Pn (X.blk s H scope (compEnvC scope cl C X.env) fp) c Fr' (Gx ++ G) ((Dl, .lst acc) :: M) env2 ifs (tst x)) ∧
      (tst x = true → ∀ (s : Shared) (H : Hp) (C : Addr) (cl : List (Str × Addr)) (fp : List Addr), Pv (X.blk s H scope (compEnvC scope cl C X.env) fp) c Fr' (Gx ++ G) ((Dl, .lst acc) :: M) env2 elt (val x)))
    (hs : ∀ x, foldedSetIterable iter X.env x = pure x := by intro _; rfl) : Pl X c Fr G M env (.ListComp elt [⟨tg, iter, ifs, 0⟩] scope pos) ((xs.filter tst).map val) := fun σ H A Q q => by
  refine e_lc own (fun i M' acc => M' = M ∧ acc = ((xs.take i).filter tst).map val) hc hN hi ok ⟨rfl, rfl⟩ (by rw [List.length_map]; exact hz) (fun i M' acc hi h => ?_) (fun i d M' acc Fr' Gx Dl hd h e => ?_) hs σ H A Q fun d M' v H2 z A2 i2 r => ?_
  · rw [h.2, List.length_map]
    refine Nat.le_trans (List.length_filter_le _ _) ?_
    rw [List.length_take]
    omega
  · obtain ⟨rfl, rfl⟩ := h
    rw [List.getElem?_map] at hd
    obtain ⟨x, hx, rfl⟩ := Option.map_eq_some_iff.mp hd
    obtain ⟨env2, js, h1, h2, h3, h4⟩ := hb x (List.mem_of_getElem? hx) _ Fr' Gx Dl e
    have ht : xs.take (i + 1) = xs.take i ++ [x] := by
      rw [List.take_add_one, hx]
      rfl
    refine ⟨env2, js, tst x, h1, h2, h3, fun hb s H7 C cl fp => ?_, fun hb => ⟨rfl, ?_⟩⟩
    · refine fun σ H A Q q => h4 hb s H7 C cl fp σ H A Q fun v H2 A2 i r => q _ _ v H2 ⟨_, rfl, rfl, ?_⟩ A2 i r
      rw [ht, List.filter_append, List.map_append, List.filter_cons, if_pos hb]
      rfl
    · rw [ht, List.filter_append, List.map_append, List.filter_cons, if_neg (by rw [hb]; decide)]
      simp
  · obtain ⟨l, M2, acc, rfl, rfl, rfl, rfl⟩ := z
    rw [rp_v.mp r]
    have e : xs.take ((xs.map g).length) = xs := by rw [List.length_map, List.take_length]
    rw [e] at A2
    exact q l H2 A2 i2

/-! ### len -/
theorem v_lenT (hm : X.mg "len" = none) (hK : X.K = c.K) (h : Pv X c Fr G M env e (.t ds)) (hg : Gl X "len" := by rfl) (hs : starEach (e :: []) X.env = (false, eval e X.env) :: starEach [] X.env := by rfl) (hpl : (backTo p2 (starEach [] X.env)).any (·.1) = false := by rfl) : Pv X c Fr G M env (.Call (.Name "len" p1) [e] [] p2) (.i (ds.length : Int)) := fun σ H A Q q =>
  (pe_callB call_len_seq hg hm PySem.boot_len wa (by decide) (by decide) hs hpl).w ((a_cons h a_nil hs) σ H A _ fun vs H1 A1 i1 r => by
    obtain ⟨v, r2, rfl, h1, h2⟩ := rpl_cons.mp r
    rw [rpl_nil.mp h2]
    obtain ⟨a, xs, rfl, h3, h4⟩ := rp_t.mp h1
    exact ⟨a, xs, rfl, .inr (hK ▸ h3), by rw [h4.len]; exact q _ H1 A1 i1 (rp_v.mpr rfl)⟩)
theorem v_lenL (hm : X.mg "len" = none) (hK : X.K = c.K) (h : Pv X c Fr G M env e (.p l)) (hl : LsOf c Fr M l ds) (hg : Gl X "len" := by rfl) (hs : starEach (e :: []) X.env = (false, eval e X.env) :: starEach [] X.env := by rfl) (hpl : (backTo p2 (starEach [] X.env)).any (·.1) = false := by rfl) : Pv X c Fr G M env (.Call (.Name "len" p1) [e] [] p2) (.i (ds.length : Int)) := fun σ H A Q q =>
  (pe_callB call_len_seq hg hm PySem.boot_len wa (by decide) (by decide) hs hpl).w ((a_cons h a_nil hs) σ H A _ fun vs H1 A1 i1 r => by
    obtain ⟨v, r2, rfl, h1, h2⟩ := rpl_cons.mp r
    rw [rpl_nil.mp h2, rp_v.mp h1]
    obtain ⟨xs, h3, h4⟩ := A1.ls hl
    exact ⟨l, xs, rfl, .inl (.inl h3), by rw [h4.len]; exact q _ H1 A1 i1 (rp_v.mpr rfl)⟩)
theorem v_lenN (hm : X.mg "len" = none) (hK : X.K = c.K) (h : Pl X c Fr G M env e ds) (hg : Gl X "len" := by rfl) (hs : starEach (e :: []) X.env = (false, eval e X.env) :: starEach [] X.env := by rfl) (hpl : (backTo p2 (starEach [] X.env)).any (·.1) = false := by rfl) : Pv X c Fr G M env (.Call (.Name "len" p1) [e] [] p2) (.i (ds.length : Int)) := fun σ H A Q q =>
  (pe_callB call_len_seq hg hm PySem.boot_len (pa_cons we pa_nil hs) (by decide) (by decide) hs hpl).w (h σ H A _ fun l H1 A1 i1 => by
    obtain ⟨xs, h3, h4⟩ := A1.ls (.inr List.mem_cons_self)
    exact ⟨l, xs, rfl, .inl (.inl h3), by rw [h4.len]; exact q _ H1 A1.drop1 i1 (rp_v.mpr rfl)⟩)
theorem v_lenS {z : Str} (hm : X.mg "len" = none) (h : Pv X c Fr G M env e (.s z)) (hz : z.length ≤ 100000) (hg : Gl X "len" := by rfl) (hs : starEach (e :: []) X.env = (false, eval e X.env) :: starEach [] X.env := by rfl) (hpl : (backTo p2 (starEach [] X.env)).any (·.1) = false := by rfl) : Pv X c Fr G M env (.Call (.Name "len" p1) [e] [] p2) (.i (z.length : Int)) :=
  v_cB call_len_str PySem.boot_len hm (a_cons h a_nil hs) (fun H xs Q r k => by
    obtain ⟨v, r2, rfl, h1, h2⟩ := rpl_cons.mp r
    rw [rpl_nil.mp h2, rp_v.mp h1]
    exact ⟨z, rfl, Nat.le_trans hz (by decide), k _ H (Ex.refl H) (rp_v.mpr rfl)⟩) hg (by decide) (by decide) hs hpl

/-! ### items -/
theorem v_ixT {n : Int} (hK : X.K = c.K) (ha : Pv X c Fr G M env a (.t ds)) (hb : Pv X c Fr G M env b (.i n)) (h : atI ds n = some d) (hs : PlainIx b := by exact fun _ _ => rfl) : Pv X c Fr G M env (.Subscript a b pos) d := fun σ H A Q q =>
  (pe_ix ix_tup we we hs).w (ha σ H A _ fun v H1 A1 i1 r => hb σ H1 A1 _ fun u H2 A2 i2 r2 => by
    obtain ⟨p, xs, rfl, h1, h2⟩ := rp_t.mp (r.im i2)
    obtain ⟨j, h3, h4, h5, h6, h7⟩ := atI_get h
    obtain ⟨y, h8, h9⟩ := h2.get h4
    refine ⟨p, xs, n, y, rfl, rp_v.mp r2, hK ▸ h1, ?_, q y H2 A2 (i1.trans i2) h9⟩
    unfold atI at h ⊢
    rw [h2.len]
    cases e : ixN ds.length n with
    | none =>
      rw [e] at h
      cases h
    | some k =>
      obtain ⟨z1, _⟩ := ixN_seq e
      rw [h3] at z1
      cases z1
      exact h8)
theorem v_ixL {n : Int} (hK : X.K = c.K) (ha : Pv X c Fr G M env a (.p l)) (hl : LsOf c Fr M l ds) (hb : Pv X c Fr G M env b (.i n)) (h : atI ds n = some d) (hs : PlainIx b := by exact fun _ _ => rfl) : Pv X c Fr G M env (.Subscript a b pos) d := fun σ H A Q q =>
  (pe_ix ix_list we we hs).w (ha σ H A _ fun v H1 A1 i1 r => hb σ H1 A1 _ fun u H2 A2 i2 r2 => by
    obtain ⟨xs, h1, h2⟩ := A2.ls hl
    obtain ⟨j, h3, h4, h5, h6, h7⟩ := atI_get h
    obtain ⟨y, h8, h9⟩ := h2.get h4
    refine ⟨l, xs, n, y, rp_v.mp r, rp_v.mp r2, .inl h1, ?_, q y H2 A2 (i1.trans i2) h9⟩
    unfold atI at h ⊢
    rw [h2.len]
    cases e : ixN ds.length n with
    | none =>
      rw [e] at h
      cases h
    | some k =>
      obtain ⟨z1, _⟩ := ixN_seq e
      rw [h3] at z1
      cases z1
      exact h8)
theorem v_ixS {z : Str} {n : Int} {k : Nat} (ha : Pv X c Fr G M env a (.s z)) (hb : Pv X c Fr G M env b (.i n)) (hz : z.length ≤ 100000) (h : atI z.cps.toList n = some k) (hs : PlainIx b := by exact fun _ _ => rfl) : Pv X c Fr G M env (.Subscript a b pos) (.s ⟨#[k]⟩) := fun σ H A Q q =>
  (pe_ix ix_str we we hs).w (ha σ H A _ fun v H1 A1 i1 r => hb σ H1 A1 _ fun u H2 A2 i2 r2 => ⟨z, n, k, rp_v.mp r, rp_v.mp r2, Nat.le_trans hz (by decide), h, q _ H2 A2 (i1.trans i2) (rp_v.mpr rfl)⟩)
theorem v_neg {n : Int} (ha : Pv X c Fr G M env a (.i n)) : Pv X c Fr G M env (.UnaryOp .USub a pos) (.i (-n)) := fun σ H A Q q =>
  (pe_un un_neg we).w (ha σ H A _ fun v H1 A1 i1 r => ⟨n, rp_v.mp r, q _ H1 A1 i1 (rp_v.mpr rfl)⟩)

/-! ### membership -/
theorem rpl_flat {H : Hp} {xs : List V} {vs : List V} (h : RpL c H (xs.map D.v) vs) : vs = xs := h.vmap_eq
theorem v_inT {y : V} {xs : List V} (hK : X.K = c.K) (ha : Pv X c Fr G M env a (.v y)) (hb : Pv X c Fr G M env b (.t (xs.map D.v))) (hy : flatV y = true) (hx : xs.all flatV = true) (hm : behindInMarks .In b = false := by rfl) : Pv X c Fr G M env (.Compare a [.In] [b] pos) (.b (inV y xs)) := fun σ H A Q q =>
  (pe_cmpR op_in_seq we we hm).w (ha σ H A _ fun v H1 A1 i1 r => hb σ H1 A1 _ fun u H2 A2 i2 r2 => by
    obtain ⟨p, zs, rfl, h1, h2⟩ := rp_t.mp r2
    rw [h2.vmap_eq] at h1
    rw [rp_v.mp r]
    exact ⟨p, xs, rfl, .inr (hK ▸ h1), hy, hx, q _ H2 A2 (i1.trans i2) (rp_v.mpr rfl)⟩)
theorem v_inL {y : V} {xs : List V} (hK : X.K = c.K) (ha : Pv X c Fr G M env a (.v y)) (hb : Pv X c Fr G M env b (.p l)) (hl : LsOf c Fr M l (xs.map D.v)) (hy : flatV y = true) (hx : xs.all flatV = true) (hm : behindInMarks .In b = false := by rfl) : Pv X c Fr G M env (.Compare a [.In] [b] pos) (.b (inV y xs)) := fun σ H A Q q =>
  (pe_cmpR op_in_seq we we hm).w (ha σ H A _ fun v H1 A1 i1 r => hb σ H1 A1 _ fun u H2 A2 i2 r2 => by
    obtain ⟨zs, h1, h2⟩ := A2.ls hl
    rw [h2.vmap_eq] at h1
    rw [rp_v.mp r]
    exact ⟨l, xs, rp_v.mp r2, .inl (.inl h1), hy, hx, q _ H2 A2 (i1.trans i2) (rp_v.mpr rfl)⟩)
theorem v_niT {y : V} {xs : List V} (hK : X.K = c.K) (ha : Pv X c Fr G M env a (.v y)) (hb : Pv X c Fr G M env b (.t (xs.map D.v))) (hy : flatV y = true) (hx : xs.all flatV = true) (hm : behindInMarks .NotIn b = false := by rfl) : Pv X c Fr G M env (.Compare a [.NotIn] [b] pos) (.b (!inV y xs)) := fun σ H A Q q =>
  (pe_cmpR op_notIn_seq we we hm).w (ha σ H A _ fun v H1 A1 i1 r => hb σ H1 A1 _ fun u H2 A2 i2 r2 => by
    obtain ⟨p, zs, rfl, h1, h2⟩ := rp_t.mp r2
    rw [h2.vmap_eq] at h1
    rw [rp_v.mp r]
    exact ⟨p, xs, rfl, .inr (hK ▸ h1), hy, hx, q _ H2 A2 (i1.trans i2) (rp_v.mpr rfl)⟩)
theorem v_niL {y : V} {xs : List V} (hK : X.K = c.K) (ha : Pv X c Fr G M env a (.v y)) (hb : Pv X c Fr G M env b (.p l)) (hl : LsOf c Fr M l (xs.map D.v)) (hy : flatV y = true) (hx : xs.all flatV = true) (hm : behindInMarks .NotIn b = false := by rfl) : Pv X c Fr G M env (.Compare a [.NotIn] [b] pos) (.b (!inV y xs)) := fun σ H A Q q =>
  (pe_cmpR op_notIn_seq we we hm).w (ha σ H A _ fun v H1 A1 i1 r => hb σ H1 A1 _ fun u H2 A2 i2 r2 => by
    obtain ⟨zs, h1, h2⟩ := A2.ls hl
    rw [h2.vmap_eq] at h1
    rw [rp_v.mp r]
    exact ⟨l, xs, rp_v.mp r2, .inl (.inl h1), hy, hx, q _ H2 A2 (i1.trans i2) (rp_v.mpr rfl)⟩)
theorem rv_inS {k : Nat} {z : Str} : RV2 c (fun x y H Q => ∃ (c : Nat) (z : Str), x = .str ⟨#[c]⟩ ∧ y = .str z ∧ Q (.bl (decide (c ∈ z.cps.toList))) H) (.s ⟨#[k]⟩) (.s z) (.b (decide (k ∈ z.cps.toList))) := fun H x y Q h1 h2 q => ⟨k, z, rp_v.mp h1, rp_v.mp h2, q _ H (Ex.refl H) (rp_v.mpr rfl)⟩

/-! ### tuple, list, all of lists -/
theorem v_tupN (hm : X.mg "tuple" = none) (hK : X.K = c.K) (h : Pl X c Fr G M env e ds) (hg : Gl X "tuple" := by rfl) (hs : starEach (e :: []) X.env = (false, eval e X.env) :: starEach [] X.env := by rfl) (hpl : (backTo p2 (starEach [] X.env)).any (·.1) = false := by rfl) : Pv X c Fr G M env (.Call (.Name "tuple" p1) [e] [] p2) (.t ds) := fun σ H A Q q =>
  (pe_callTy call_tuple_of hg hm boot_tuple (pa_cons we pa_nil hs) (by decide) (by decide) hs hpl).w (h σ H A _ fun l H1 A1 i1 => by
    obtain ⟨xs, h3, h4⟩ := A1.ls (.inr List.mem_cons_self)
    exact ⟨l, xs, rfl, .inl ⟨.inl h3, fun p hp => q _ _ (A1.drop1.ex (Ex.new hp)) (i1.trans (IM.new hp)) (rp_t.mpr ⟨p, xs, rfl, SqT.of upd_same, h4.im (IM.new hp)⟩)⟩⟩)
theorem v_tupL (hm : X.mg "tuple" = none) (hK : X.K = c.K) (h : Pv X c Fr G M env e (.p l)) (hl : LsOf c Fr M l ds) (hg : Gl X "tuple" := by rfl) (hs : starEach (e :: []) X.env = (false, eval e X.env) :: starEach [] X.env := by rfl) (hpl : (backTo p2 (starEach [] X.env)).any (·.1) = false := by rfl) : Pv X c Fr G M env (.Call (.Name "tuple" p1) [e] [] p2) (.t ds) := fun σ H A Q q =>
  (pe_callTy call_tuple_of hg hm boot_tuple (pa_cons we pa_nil hs) (by decide) (by decide) hs hpl).w (h σ H A _ fun v H1 A1 i1 r => by
    obtain ⟨xs, h3, h4⟩ := A1.ls hl
    exact ⟨l, xs, by rw [rp_v.mp r], .inl ⟨.inl h3, fun p hp => q _ _ (A1.ex (Ex.new hp)) (i1.trans (IM.new hp)) (rp_t.mpr ⟨p, xs, rfl, SqT.of upd_same, h4.im (IM.new hp)⟩)⟩⟩)
theorem l_listT (hm : X.mg "list" = none) (hK : X.K = c.K) (h : Pv X c Fr G M env e (.t ds)) (hg : Gl X "list" := by rfl) (hs : starEach (e :: []) X.env = (false, eval e X.env) :: starEach [] X.env := by rfl) (hpl : (backTo p2 (starEach [] X.env)).any (·.1) = false := by rfl) : Pl X c Fr G M env (.Call (.Name "list" p1) [e] [] p2) ds := fun σ H A Q q =>
  (pe_callTy call_list_of hg hm boot_list (pa_cons we pa_nil hs) (by decide) (by decide) hs hpl).w (h σ H A _ fun v H1 A1 i1 r => by
    obtain ⟨a, xs, rfl, h3, h4⟩ := rp_t.mp r
    exact ⟨a, xs, rfl, .inr (hK ▸ h3), fun p hp => q p _ (A1.new hp (Ex.new hp) ⟨xs, upd_same, h4.im (IM.new hp)⟩) (i1.trans (IM.new hp))⟩)
theorem l_listL (hm : X.mg "list" = none) (hK : X.K = c.K) (h : Pv X c Fr G M env e (.p l)) (hl : LsOf c Fr M l ds) (hg : Gl X "list" := by rfl) (hs : starEach (e :: []) X.env = (false, eval e X.env) :: starEach [] X.env := by rfl) (hpl : (backTo p2 (starEach [] X.env)).any (·.1) = false := by rfl) : Pl X c Fr G M env (.Call (.Name "list" p1) [e] [] p2) ds := fun σ H A Q q =>
  (pe_callTy call_list_of hg hm boot_list (pa_cons we pa_nil hs) (by decide) (by decide) hs hpl).w (h σ H A _ fun v H1 A1 i1 r => by
    obtain ⟨xs, h3, h4⟩ := A1.ls hl
    exact ⟨l, xs, by rw [rp_v.mp r], .inl (.inl h3), fun p hp => q p _ (A1.new hp (Ex.new hp) ⟨xs, upd_same, h4.im (IM.new hp)⟩) (i1.trans (IM.new hp))⟩)
theorem v_all {bs : List Bool} (hc : X.calm = true) (hm : X.mg "all" = none) (hK : X.K = c.K) (h : Pl X c Fr G M env e (bs.map D.b)) (hg : Gl X "all" := by rfl) (hs : starEach (e :: []) X.env = (false, eval e X.env) :: starEach [] X.env := by rfl) (hpl : (backTo p2 (starEach [] X.env)).any (·.1) = false := by rfl) : Pv X c Fr G M env (.Call (.Name "all" p1) [e] [] p2) (.b (bs.all id)) := fun σ H A Q q =>
  (pe_callB (cr_all hc) hg hm boot_all (pa_cons we pa_nil hs) (by decide) (by decide) hs hpl).w (h σ H A _ fun l H1 A1 i1 => by
    obtain ⟨xs, h3, h4⟩ := A1.ls (.inr List.mem_cons_self)
    have e1 : bs.map D.b = (bs.map V.bl).map D.v := by rw [List.map_map]; rfl
    rw [e1] at h4
    rw [h4.vmap_eq] at h3
    exact ⟨l, bs, rfl, .inl h3, q _ H1 A1.drop1 i1 (rp_v.mpr rfl)⟩)
end
end Sx
end
section
set_option maxRecDepth 100000
set_option maxHeartbeats 1000000
namespace Sx
open PySem PySem.Spec PyProof.Rows L2
/-! ### the text by places -/
def top (i : Nat) : Stmt := PySem.Challenge.pw_seerings_k72_whole_sixteen_cards.main.body.getD i (.Pass ⟨0, 0, 0, 0⟩)
abbrev st_is_number : Stmt := top 18
abbrev N_is_number : List Str := ["value", "smallest", "largest"]
theorem sc_is_number : FnScope N_is_number ["value", "smallest", "largest"] (defScope st_is_number) := ⟨rfl, rfl, rfl, by decide +kernel, rfl, by decide +kernel, by decide +kernel⟩
abbrev st_is_word : Stmt := top 19
abbrev N_is_word : List Str := ["value", "letter"]
theorem sc_is_word : FnScope N_is_word ["value"] (defScope st_is_word) := ⟨rfl, rfl, rfl, by decide +kernel, rfl, by decide +kernel, by decide +kernel⟩
abbrev st_check_heading : Stmt := top 20
abbrev N_check_heading : List Str := ["value"]
theorem sc_check_heading : FnScope N_check_heading ["value"] (defScope st_check_heading) := ⟨rfl, rfl, rfl, by decide +kernel, rfl, by decide +kernel, by decide +kernel⟩
abbrev st_check_number : Stmt := top 21
abbrev N_check_number : List Str := ["value", "smallest", "largest"]
theorem sc_check_number : FnScope N_check_number ["value", "smallest", "largest"] (defScope st_check_number) := ⟨rfl, rfl, rfl, by decide +kernel, rfl, by decide +kernel, by decide +kernel⟩
abbrev st_are_books : Stmt := top 22
abbrev N_are_books : List Str := ["row", "one", "other", "book"]
theorem sc_are_books : FnScope N_are_books ["row"] (defScope st_are_books) := ⟨rfl, rfl, rfl, by decide +kernel, rfl, by decide +kernel, by decide +kernel⟩
abbrev st_are_others : Stmt := top 23
abbrev N_are_others : List Str := ["heading", "row", "other"]
theorem sc_are_others : FnScope N_are_others ["heading", "row"] (defScope st_are_others) := ⟨rfl, rfl, rfl, by decide +kernel, rfl, by decide +kernel, by decide +kernel⟩
abbrev st_Card_init : Stmt := inClass (top 24) 1
abbrev N_Card_init : List Str := ["self", "heading", "books", "see", "also", "is_free"]
theorem sc_Card_init : FnScope N_Card_init ["self", "heading", "books", "see", "also"] (defScope st_Card_init) := ⟨rfl, rfl, rfl, by decide +kernel, rfl, by decide +kernel, by decide +kernel⟩
abbrev st_Card_heading : Stmt := inClass (top 24) 2
abbrev N_Card_heading : List Str := ["self"]
theorem sc_Card_heading : FnScope N_Card_heading ["self"] (defScope st_Card_heading) := ⟨rfl, rfl, rfl, by decide +kernel, rfl, by decide +kernel, by decide +kernel⟩
abbrev st_Card_books : Stmt := inClass (top 24) 3
abbrev N_Card_books : List Str := ["self"]
theorem sc_Card_books : FnScope N_Card_books ["self"] (defScope st_Card_books) := ⟨rfl, rfl, rfl, by decide +kernel, rfl, by decide +kernel, by decide +kernel⟩
abbrev st_Card_see : Stmt := inClass (top 24) 4
abbrev N_Card_see : List Str := ["self"]
theorem sc_Card_see : FnScope N_Card_see ["self"] (defScope st_Card_see) := ⟨rfl, rfl, rfl, by decide +kernel, rfl, by decide +kernel, by decide +kernel⟩
abbrev st_Card_also : Stmt := inClass (top 24) 5
abbrev N_Card_also : List Str := ["self"]
theorem sc_Card_also : FnScope N_Card_also ["self"] (defScope st_Card_also) := ⟨rfl, rfl, rfl, by decide +kernel, rfl, by decide +kernel, by decide +kernel⟩
abbrev st_Card_leads : Stmt := inClass (top 24) 6
abbrev N_Card_leads : List Str := ["self"]
theorem sc_Card_leads : FnScope N_Card_leads ["self"] (defScope st_Card_leads) := ⟨rfl, rfl, rfl, by decide +kernel, rfl, by decide +kernel, by decide +kernel⟩
abbrev st_Card_eq : Stmt := inClass (top 24) 7
abbrev N_Card_eq : List Str := ["self", "other"]
theorem sc_Card_eq : FnScope N_Card_eq ["self", "other"] (defScope st_Card_eq) := ⟨rfl, rfl, rfl, by decide +kernel, rfl, by decide +kernel, by decide +kernel⟩
abbrev st_check_rule : Stmt := top 30
abbrev N_check_rule : List Str := ["rule"]
theorem sc_check_rule : FnScope N_check_rule ["rule"] (defScope st_check_rule) := ⟨rfl, rfl, rfl, by decide +kernel, rfl, by decide +kernel, by decide +kernel⟩
abbrev st_by_halves : Stmt := top 31
abbrev N_by_halves : List Str := ["drawer", "heading", "looks", "first", "last", "middle", "here"]
theorem sc_by_halves : FnScope N_by_halves ["drawer", "heading"] (defScope st_by_halves) := ⟨rfl, rfl, rfl, by decide +kernel, rfl, by decide +kernel, by decide +kernel⟩
abbrev st_one_by_one : Stmt := top 32
abbrev N_one_by_one : List Str := ["drawer", "heading", "is_leafing", "place", "card"]
theorem sc_one_by_one : FnScope N_one_by_one ["drawer", "heading", "is_leafing"] (defScope st_one_by_one) := ⟨rfl, rfl, rfl, by decide +kernel, rfl, by decide +kernel, by decide +kernel⟩
abbrev st_looked_up : Stmt := top 33
abbrev N_looked_up : List Str := ["drawer", "rule", "heading"]
theorem sc_looked_up : FnScope N_looked_up ["drawer", "rule", "heading"] (defScope st_looked_up) := ⟨rfl, rfl, rfl, by decide +kernel, rfl, by decide +kernel, by decide +kernel⟩
abbrev st_look_up : Stmt := top 34
abbrev N_look_up : List Str := ["drawer", "rule", "heading"]
theorem sc_look_up : FnScope N_look_up ["drawer", "rule", "heading"] (defScope st_look_up) := ⟨rfl, rfl, rfl, by decide +kernel, rfl, by decide +kernel, by decide +kernel⟩
abbrev st_never_found : Stmt := top 35
abbrev N_never_found : List Str := ["drawer", "rule", "met", "heading", "place"]
theorem sc_never_found : FnScope N_never_found ["drawer", "rule"] (defScope st_never_found) := ⟨rfl, rfl, rfl, by decide +kernel, rfl, by decide +kernel, by decide +kernel⟩
abbrev st_Drawer_init : Stmt := inClass (top 38) 1
abbrev N_Drawer_init : List Str := ["self", "cards"]
theorem sc_Drawer_init : FnScope N_Drawer_init ["self", "cards"] (defScope st_Drawer_init) := ⟨rfl, rfl, rfl, by decide +kernel, rfl, by decide +kernel, by decide +kernel⟩
abbrev st_Drawer_cards : Stmt := inClass (top 38) 2
abbrev N_Drawer_cards : List Str := ["self"]
theorem sc_Drawer_cards : FnScope N_Drawer_cards ["self"] (defScope st_Drawer_cards) := ⟨rfl, rfl, rfl, by decide +kernel, rfl, by decide +kernel, by decide +kernel⟩
abbrev st_Drawer_headings : Stmt := inClass (top 38) 3
abbrev N_Drawer_headings : List Str := ["self", "card"]
theorem sc_Drawer_headings : FnScope N_Drawer_headings ["self"] (defScope st_Drawer_headings) := ⟨rfl, rfl, rfl, by decide +kernel, rfl, by decide +kernel, by decide +kernel⟩
abbrev st_Drawer_len : Stmt := inClass (top 38) 4
abbrev N_Drawer_len : List Str := ["self"]
theorem sc_Drawer_len : FnScope N_Drawer_len ["self"] (defScope st_Drawer_len) := ⟨rfl, rfl, rfl, by decide +kernel, rfl, by decide +kernel, by decide +kernel⟩
abbrev st_Drawer_check_place : Stmt := inClass (top 38) 5
abbrev N_Drawer_check_place : List Str := ["self", "place"]
theorem sc_Drawer_check_place : FnScope N_Drawer_check_place ["self", "place"] (defScope st_Drawer_check_place) := ⟨rfl, rfl, rfl, by decide +kernel, rfl, by decide +kernel, by decide +kernel⟩
abbrev st_Drawer_eq : Stmt := inClass (top 38) 8
abbrev N_Drawer_eq : List Str := ["self", "other"]
theorem sc_Drawer_eq : FnScope N_Drawer_eq ["self", "other"] (defScope st_Drawer_eq) := ⟨rfl, rfl, rfl, by decide +kernel, rfl, by decide +kernel, by decide +kernel⟩
abbrev st_Drawer_without : Stmt := inClass (top 38) 9
abbrev N_Drawer_without : List Str := ["self", "places", "index", "place", "card"]
theorem sc_Drawer_without : FnScope N_Drawer_without ["self", "places"] (defScope st_Drawer_without) := ⟨rfl, rfl, rfl, by decide +kernel, rfl, by decide +kernel, by decide +kernel⟩
abbrev st_filed : Stmt := top 39
abbrev N_filed : List Str := ["drawer"]
theorem sc_filed : FnScope N_filed ["drawer"] (defScope st_filed) := ⟨rfl, rfl, rfl, by decide +kernel, rfl, by decide +kernel, by decide +kernel⟩
abbrev st_is_filed : Stmt := top 40
abbrev N_is_filed : List Str := ["drawer"]
theorem sc_is_filed : FnScope N_is_filed ["drawer"] (defScope st_is_filed) := ⟨rfl, rfl, rfl, by decide +kernel, rfl, by decide +kernel, by decide +kernel⟩
abbrev st_known_headings : Stmt := top 41
abbrev N_known_headings : List Str := ["drawer", "found", "card"]
theorem sc_known_headings : FnScope N_known_headings ["drawer"] (defScope st_known_headings) := ⟨rfl, rfl, rfl, by decide +kernel, rfl, by decide +kernel, by decide +kernel⟩
abbrev st_checksum : Stmt := top 48
abbrev N_checksum : List Str := ["values", "found", "value"]
theorem sc_checksum : FnScope N_checksum ["values"] (defScope st_checksum) := ⟨rfl, rfl, rfl, by decide +kernel, rfl, by decide +kernel, by decide +kernel⟩
abbrev st_word_items : Stmt := top 49
abbrev N_word_items : List Str := ["word", "letter"]
theorem sc_word_items : FnScope N_word_items ["word"] (defScope st_word_items) := ⟨rfl, rfl, rfl, by decide +kernel, rfl, by decide +kernel, by decide +kernel⟩
abbrev st_card_items : Stmt := top 50
abbrev N_card_items : List Str := ["card", "found", "book", "other"]
theorem sc_card_items : FnScope N_card_items ["card"] (defScope st_card_items) := ⟨rfl, rfl, rfl, by decide +kernel, rfl, by decide +kernel, by decide +kernel⟩
abbrev st_encode_drawer : Stmt := top 51
abbrev N_encode_drawer : List Str := ["drawer", "found", "card"]
theorem sc_encode_drawer : FnScope N_encode_drawer ["drawer"] (defScope st_encode_drawer) := ⟨rfl, rfl, rfl, by decide +kernel, rfl, by decide +kernel, by decide +kernel⟩
abbrev st_Reader_init : Stmt := inClass (top 52) 0
abbrev N_Reader_init : List Str := ["self", "values"]
theorem sc_Reader_init : FnScope N_Reader_init ["self", "values"] (defScope st_Reader_init) := ⟨rfl, rfl, rfl, by decide +kernel, rfl, by decide +kernel, by decide +kernel⟩
abbrev st_Reader_item : Stmt := inClass (top 52) 1
abbrev N_Reader_item : List Str := ["self", "low", "high"]
theorem sc_Reader_item : FnScope N_Reader_item ["self", "low", "high"] (defScope st_Reader_item) := ⟨rfl, rfl, rfl, by decide +kernel, rfl, by decide +kernel, by decide +kernel⟩
abbrev st_Reader_read_word : Stmt := inClass (top 52) 2
abbrev N_Reader_read_word : List Str := ["self", "count", "turn"]
theorem sc_Reader_read_word : FnScope N_Reader_read_word ["self"] (defScope st_Reader_read_word) := ⟨rfl, rfl, rfl, by decide +kernel, rfl, by decide +kernel, by decide +kernel⟩
abbrev st_Reader_read_book : Stmt := inClass (top 52) 3
abbrev N_Reader_read_book : List Str := ["self", "last", "begin", "high", "book"]
theorem sc_Reader_read_book : FnScope N_Reader_read_book ["self", "last"] (defScope st_Reader_read_book) := ⟨rfl, rfl, rfl, by decide +kernel, rfl, by decide +kernel, by decide +kernel⟩
abbrev st_Reader_read_card : Stmt := inClass (top 52) 4
abbrev N_Reader_read_card : List Str := ["self", "heading", "count", "books", "turn", "also"]
theorem sc_Reader_read_card : FnScope N_Reader_read_card ["self"] (defScope st_Reader_read_card) := ⟨rfl, rfl, rfl, by decide +kernel, rfl, by decide +kernel, by decide +kernel⟩
abbrev st_Reader_finish : Stmt := inClass (top 52) 5
abbrev N_Reader_finish : List Str := ["self", "check"]
theorem sc_Reader_finish : FnScope N_Reader_finish ["self"] (defScope st_Reader_finish) := ⟨rfl, rfl, rfl, by decide +kernel, rfl, by decide +kernel, by decide +kernel⟩
abbrev st_decode_drawer : Stmt := top 53
abbrev N_decode_drawer : List Str := ["values", "reader", "rows", "turn", "heading", "books", "see", "also"]
theorem sc_decode_drawer : FnScope N_decode_drawer ["values"] (defScope st_decode_drawer) := ⟨rfl, rfl, rfl, by decide +kernel, rfl, by decide +kernel, by decide +kernel⟩
abbrev st_choices : Stmt := top 55
abbrev N_choices : List Str := ["places", "size", "found", "turn", "longer", "some", "place"]
theorem sc_choices : FnScope N_choices ["places", "size"] (defScope st_choices) := ⟨rfl, rfl, rfl, by decide +kernel, rfl, by decide +kernel, by decide +kernel⟩
abbrev st_out_of_order : Stmt := top 56
abbrev N_out_of_order : List Str := ["drawer", "places", "size", "some"]
theorem sc_out_of_order : FnScope N_out_of_order ["drawer"] (defScope st_out_of_order) := ⟨rfl, rfl, rfl, by decide +kernel, rfl, by decide +kernel, by decide +kernel⟩
abbrev st_Walk_init : Stmt := inClass (top 61) 0
abbrev N_Walk_init : List Str := ["self", "drawer", "rule", "heading"]
theorem sc_Walk_init : FnScope N_Walk_init ["self", "drawer", "rule", "heading"] (defScope st_Walk_init) := ⟨rfl, rfl, rfl, by decide +kernel, rfl, by decide +kernel, by decide +kernel⟩
abbrev st_Walk_go_on : Stmt := inClass (top 61) 1
abbrev N_Walk_go_on : List Str := ["self", "drawer", "rule", "heading", "place", "looks", "card"]
theorem sc_Walk_go_on : FnScope N_Walk_go_on ["self", "drawer", "rule", "heading"] (defScope st_Walk_go_on) := ⟨rfl, rfl, rfl, by decide +kernel, rfl, by decide +kernel, by decide +kernel⟩
abbrev st_Walk_landing : Stmt := inClass (top 61) 2
abbrev N_Walk_landing : List Str := ["self"]
theorem sc_Walk_landing : FnScope N_Walk_landing ["self"] (defScope st_Walk_landing) := ⟨rfl, rfl, rfl, by decide +kernel, rfl, by decide +kernel, by decide +kernel⟩
abbrev st_walk : Stmt := top 62
abbrev N_walk : List Str := ["drawer", "rule", "heading", "found"]
theorem sc_walk : FnScope N_walk ["drawer", "rule", "heading"] (defScope st_walk) := ⟨rfl, rfl, rfl, by decide +kernel, rfl, by decide +kernel, by decide +kernel⟩
abbrev st_looks : Stmt := top 63
abbrev N_looks : List Str := ["drawer", "rule", "heading"]
theorem sc_looks : FnScope N_looks ["drawer", "rule", "heading"] (defScope st_looks) := ⟨rfl, rfl, rfl, by decide +kernel, rfl, by decide +kernel, by decide +kernel⟩
abbrev st_Gathering_init : Stmt := inClass (top 70) 0
abbrev N_Gathering_init : List Str := ["self", "drawer", "rule", "way", "heading", "patience"]
theorem sc_Gathering_init : FnScope N_Gathering_init ["self", "drawer", "rule", "way", "heading", "patience"] (defScope st_Gathering_init) := ⟨rfl, rfl, rfl, by decide +kernel, rfl, by decide +kernel, by decide +kernel⟩
abbrev st_Gathering_go_on : Stmt := inClass (top 70) 1
abbrev N_Gathering_go_on : List Str := ["self", "heading", "word", "place"]
theorem sc_Gathering_go_on : FnScope N_Gathering_go_on ["self"] (defScope st_Gathering_go_on) := ⟨rfl, rfl, rfl, by decide +kernel, rfl, by decide +kernel, by decide +kernel⟩
abbrev st_Gathering_visit : Stmt := inClass (top 70) 2
abbrev N_Gathering_visit : List Str := ["self", "place", "card", "book"]
theorem sc_Gathering_visit : FnScope N_Gathering_visit ["self", "place"] (defScope st_Gathering_visit) := ⟨rfl, rfl, rfl, by decide +kernel, rfl, by decide +kernel, by decide +kernel⟩
abbrev st_check_way : Stmt := top 71
abbrev N_check_way : List Str := ["way"]
theorem sc_check_way : FnScope N_check_way ["way"] (defScope st_check_way) := ⟨rfl, rfl, rfl, by decide +kernel, rfl, by decide +kernel, by decide +kernel⟩
abbrev st_gather : Stmt := top 72
abbrev N_gather : List Str := ["drawer", "rule", "way", "heading", "patience", "found"]
theorem sc_gather : FnScope N_gather ["drawer", "rule", "way", "heading", "patience"] (defScope st_gather) := ⟨rfl, rfl, rfl, by decide +kernel, rfl, by decide +kernel, by decide +kernel⟩
abbrev st_reached : Stmt := top 73
abbrev N_reached : List Str := ["drawer", "rule", "heading"]
theorem sc_reached : FnScope N_reached ["drawer", "rule", "heading"] (defScope st_reached) := ⟨rfl, rfl, rfl, by decide +kernel, rfl, by decide +kernel, by decide +kernel⟩
abbrev st_reach : Stmt := top 74
abbrev N_reach : List Str := ["drawer", "rule", "heading"]
theorem sc_reach : FnScope N_reach ["drawer", "rule", "heading"] (defScope st_reach) := ⟨rfl, rfl, rfl, by decide +kernel, rfl, by decide +kernel, by decide +kernel⟩
abbrev st_card_words : Stmt := top 81
abbrev N_card_words : List Str := ["card", "more", "book"]
theorem sc_card_words : FnScope N_card_words ["card"] (defScope st_card_words) := ⟨rfl, rfl, rfl, by decide +kernel, rfl, by decide +kernel, by decide +kernel⟩
abbrev st_format_drawer : Stmt := top 82
abbrev N_format_drawer : List Str := ["drawer", "card"]
theorem sc_format_drawer : FnScope N_format_drawer ["drawer"] (defScope st_format_drawer) := ⟨rfl, rfl, rfl, by decide +kernel, rfl, by decide +kernel, by decide +kernel⟩
abbrev st_is_book : Stmt := top 83
abbrev N_is_book : List Str := ["word", "sign"]
theorem sc_is_book : FnScope N_is_book ["word"] (defScope st_is_book) := ⟨rfl, rfl, rfl, by decide +kernel, rfl, by decide +kernel, by decide +kernel⟩
abbrev st_Row_init : Stmt := inClass (top 84) 0
abbrev N_Row_init : List Str := ["self", "number", "parts"]
theorem sc_Row_init : FnScope N_Row_init ["self", "number", "parts"] (defScope st_Row_init) := ⟨rfl, rfl, rfl, by decide +kernel, rfl, by decide +kernel, by decide +kernel⟩
abbrev st_Row_has_more : Stmt := inClass (top 84) 1
abbrev N_Row_has_more : List Str := ["self"]
theorem sc_Row_has_more : FnScope N_Row_has_more ["self"] (defScope st_Row_has_more) := ⟨rfl, rfl, rfl, by decide +kernel, rfl, by decide +kernel, by decide +kernel⟩
abbrev st_Row_next_part : Stmt := inClass (top 84) 2
abbrev N_Row_next_part : List Str := ["self", "is_right"]
theorem sc_Row_next_part : FnScope N_Row_next_part ["self", "is_right"] (defScope st_Row_next_part) := ⟨rfl, rfl, rfl, by decide +kernel, rfl, by decide +kernel, by decide +kernel⟩
abbrev st_Row_read_books : Stmt := inClass (top 84) 3
abbrev N_Row_read_books : List Str := ["self", "found", "last"]
theorem sc_Row_read_books : FnScope N_Row_read_books ["self"] (defScope st_Row_read_books) := ⟨rfl, rfl, rfl, by decide +kernel, rfl, by decide +kernel, by decide +kernel⟩
abbrev st_Row_read_also : Stmt := inClass (top 84) 4
abbrev N_Row_read_also : List Str := ["self", "found"]
theorem sc_Row_read_also : FnScope N_Row_read_also ["self"] (defScope st_Row_read_also) := ⟨rfl, rfl, rfl, by decide +kernel, rfl, by decide +kernel, by decide +kernel⟩
abbrev st_Row_read_card : Stmt := inClass (top 84) 5
abbrev N_Row_read_card : List Str := ["self", "head", "heading", "books", "goal"]
theorem sc_Row_read_card : FnScope N_Row_read_card ["self"] (defScope st_Row_read_card) := ⟨rfl, rfl, rfl, by decide +kernel, rfl, by decide +kernel, by decide +kernel⟩
abbrev st_made_card : Stmt := top 85
abbrev N_made_card : List Str := ["parts"]
theorem sc_made_card : FnScope N_made_card ["parts"] (defScope st_made_card) := ⟨rfl, rfl, rfl, by decide +kernel, rfl, by decide +kernel, by decide +kernel⟩
abbrev st_parse_drawer : Stmt := top 86
abbrev N_parse_drawer : List Str := ["text", "lines", "rows", "number", "line", "parts"]
theorem sc_parse_drawer : FnScope N_parse_drawer ["text"] (defScope st_parse_drawer) := ⟨rfl, rfl, rfl, by decide +kernel, rfl, by decide +kernel, by decide +kernel⟩
abbrev st_table : Stmt := top 88
abbrev N_table : List Str := ["drawer", "rule", "lines", "heading", "word", "steps", "told", "place"]
theorem sc_table : FnScope N_table ["drawer", "rule"] (defScope st_table) := ⟨rfl, rfl, rfl, by decide +kernel, rfl, by decide +kernel, by decide +kernel⟩
abbrev st_sign_of : Stmt := top 89
abbrev N_sign_of : List Str := ["card"]
theorem sc_sign_of : FnScope N_sign_of ["card"] (defScope st_sign_of) := ⟨rfl, rfl, rfl, by decide +kernel, rfl, by decide +kernel, by decide +kernel⟩
abbrev st_strip : Stmt := top 90
abbrev N_strip : List Str := ["drawer", "found", "last", "card"]
theorem sc_strip : FnScope N_strip ["drawer"] (defScope st_strip) := ⟨rfl, rfl, rfl, by decide +kernel, rfl, by decide +kernel, by decide +kernel⟩
abbrev st_law_taken : Stmt := top 92
abbrev N_law_taken : List Str := ["_law_row", "_law_many", "_law_found", "_law_cell"]
theorem sc_law_taken : FnScope N_law_taken ["_law_row", "_law_many"] (defScope st_law_taken) := ⟨rfl, rfl, rfl, by decide +kernel, rfl, by decide +kernel, by decide +kernel⟩
abbrev st_law_pick : Stmt := top 93
abbrev N_law_pick : List Str := ["_law_row", "_law_some"]
theorem sc_law_pick : FnScope N_law_pick ["_law_row", "_law_some"] (defScope st_law_pick) := ⟨rfl, rfl, rfl, by decide +kernel, rfl, by decide +kernel, by decide +kernel⟩
abbrev st_law_mixed : Stmt := top 94
abbrev N_law_mixed : List Str := ["_law_row", "_law_things", "_law_left", "_law_found"]
theorem sc_law_mixed : FnScope N_law_mixed ["_law_row", "_law_things"] (defScope st_law_mixed) := ⟨rfl, rfl, rfl, by decide +kernel, rfl, by decide +kernel, by decide +kernel⟩
abbrev st_law_drawer : Stmt := top 95
abbrev N_law_drawer : List Str := ["_law_some", "_law_one"]
theorem sc_law_drawer : FnScope N_law_drawer ["_law_some"] (defScope st_law_drawer) := ⟨rfl, rfl, rfl, by decide +kernel, rfl, by decide +kernel, by decide +kernel⟩
abbrev st_law_looked : Stmt := top 96
abbrev N_law_looked : List Str := ["_law_some", "_law_rule", "_law_heading", "_law_met", "_law_low", "_law_high", "_law_turn", "_law_here"]
theorem sc_law_looked : FnScope N_law_looked ["_law_some", "_law_rule", "_law_heading"] (defScope st_law_looked) := ⟨rfl, rfl, rfl, by decide +kernel, rfl, by decide +kernel, by decide +kernel⟩
abbrev st_law_walked : Stmt := top 97
abbrev N_law_walked : List Str := ["_law_some", "_law_rule", "_law_heading", "_law_steps", "_law_count", "_law_sought", "_law_turn", "_law_place", "_law_met"]
theorem sc_law_walked : FnScope N_law_walked ["_law_some", "_law_rule", "_law_heading"] (defScope st_law_walked) := ⟨rfl, rfl, rfl, by decide +kernel, rfl, by decide +kernel, by decide +kernel⟩
abbrev st_law_landing : Stmt := top 98
abbrev N_law_landing : List Str := ["_law_some", "_law_rule", "_law_heading", "_law_word", "_law_steps"]
theorem sc_law_landing : FnScope N_law_landing ["_law_some", "_law_rule", "_law_heading"] (defScope st_law_landing) := ⟨rfl, rfl, rfl, by decide +kernel, rfl, by decide +kernel, by decide +kernel⟩
abbrev st_law_known : Stmt := top 99
abbrev N_law_known : List Str := ["_law_some", "_law_found", "_law_heading", "_law_tomes", "_law_goal_of", "_law_hints"]
theorem sc_law_known : FnScope N_law_known ["_law_some"] (defScope st_law_known) := ⟨rfl, rfl, rfl, by decide +kernel, rfl, by decide +kernel, by decide +kernel⟩
abbrev st_law_headings : Stmt := top 100
abbrev N_law_headings : List Str := ["_law_some", "_law_one"]
theorem sc_law_headings : FnScope N_law_headings ["_law_some"] (defScope st_law_headings) := ⟨rfl, rfl, rfl, by decide +kernel, rfl, by decide +kernel, by decide +kernel⟩
abbrev st_law_gathered : Stmt := top 101
abbrev N_law_gathered : List Str := ["_law_some", "_law_rule", "_law_way", "_law_heading", "_law_patience", "_law_agenda", "_law_done", "_law_visited", "_law_met", "_law_turn", "_law_place", "_law_book", "_law_hints"]
theorem sc_law_gathered : FnScope N_law_gathered ["_law_some", "_law_rule", "_law_way", "_law_heading", "_law_patience"] (defScope st_law_gathered) := ⟨rfl, rfl, rfl, by decide +kernel, rfl, by decide +kernel, by decide +kernel⟩
abbrev st_law_reach : Stmt := top 102
abbrev N_law_reach : List Str := ["_law_some", "_law_rule", "_law_heading", "_law_met", "_law_level", "_law_later", "_law_place", "_law_tomes", "_law_other", "_law_one"]
theorem sc_law_reach : FnScope N_law_reach ["_law_some", "_law_rule", "_law_heading"] (defScope st_law_reach) := ⟨rfl, rfl, rfl, by decide +kernel, rfl, by decide +kernel, by decide +kernel⟩
abbrev st_law_great : Stmt := top 103
abbrev N_law_great : List Str := ["_law_row", "_law_names", "_law_found", "_law_k", "_law_heading", "_law_others", "_law_tomes", "_law_name", "_law_j"]
theorem sc_law_great : FnScope N_law_great ["_law_row"] (defScope st_law_great) := ⟨rfl, rfl, rfl, by decide +kernel, rfl, by decide +kernel, by decide +kernel⟩
abbrev st_law_rising : Stmt := top 104
abbrev N_law_rising : List Str := ["_law_some", "_law_rows", "_law_k", "_law_j"]
theorem sc_law_rising : FnScope N_law_rising ["_law_some"] (defScope st_law_rising) := ⟨rfl, rfl, rfl, by decide +kernel, rfl, by decide +kernel, by decide +kernel⟩
abbrev st_law : Stmt := top 105
abbrev N_law : List Str := ["_law_script", "_law_row", "_law_some", "_law_drawer_here", "_law_again", "_law_rule", "_law_met", "_law_heading", "_law_word", "_law_steps", "_law_count", "_law_sought", "_law_way", "_law_patience", "_law_tomes", "_law_visited", "_law_walks", "_law_most", "_law_name", "_law_k"]
theorem sc_law : FnScope N_law ["_law_script"] (defScope st_law) := ⟨rfl, rfl, rfl, by decide +kernel, rfl, by decide +kernel, by decide +kernel⟩
/-! ### what the top has left -/
def Kn (mg : Str → Option Value) (x : Str) (v : V) : Prop := ∃ u, mg x = some u ∧ RelV v u
def Kt (c : Cs) (mg : Str → Option Value) (x : Str) (vs : List V) : Prop := mg x = some (.ref (He.ga c.K x)) ∧ ∀ H, SqT c.K H (He.ga c.K x) vs
/-- a def of the module -/
def Df (c : Cs) (mg : Str → Option Value) (x : Str) (st : Stmt) : Prop := mg x = some (.ref (He.ga c.K x)) ∧ ∃ fd, FunD c.K x x (defArgs st) (defBody st) (defScope st) [] [] (He.ga c.K x) fd
/-- a method -/
def Dm (c : Cs) (C : Addr) (m qual : Str) (st : Stmt) (dvs : List V) : Prop := ∃ g fd, Meth c.K C m g ∧ FunD c.K m qual (defArgs st) (defBody st) (defScope st) dvs [] g fd
/-- the __init__ of a class, so many defaults -/
def Di (c : Cs) (C : Addr) (qual : Str) (st : Stmt) (n : Nat) : Prop := ∃ g fd dvs, Mk c.K C g ∧ dvs.length = n ∧ FunD c.K "__init__" qual (defArgs st) (defBody st) (defScope st) dvs [] g fd
/-- a property -/
def Dp1 (c : Cs) (C : Addr) (m qual : Str) (st : Stmt) : Prop := ∃ p g fd, PySem.W.findIn c.K (.ref C) m = some (some (.ref p)) ∧ PySem.W.specialIn c.K (.ref p) "__get__" = some (some (.builtin "property.__get__")) ∧ PySem.W.takesIn c.K (.ref p) = some true ∧
  (∃ rest, PySem.W.recIn c.K p "property" = some (.ref g :: rest)) ∧ FunD c.K m qual (defArgs st) (defBody st) (defScope st) [] [] g fd
structure Tx (c : Cs) (mg : Str → Option Value) : Prop where
  n_len : mg "len" = none
  n_isinstance : mg "isinstance" = none
  n_int : mg "int" = none
  n_bool : mg "bool" = none
  n_str : mg "str" = none
  n_tuple : mg "tuple" = none
  n_list : mg "list" = none
  n_all : mg "all" = none
  n_set : mg "set" = none
  n_sorted : mg "sorted" = none
  n_range : mg "range" = none
  n_enumerate : mg "enumerate" = none
  n_zip : mg "zip" = none
  n_max : mg "max" = none
  k_LETTERS : Kn mg "LETTERS" (.str "abcdefghijklmnopqrstuvwxyz")
  k_MAX_LETTERS : Kn mg "MAX_LETTERS" (.int 8)
  k_MAX_BOOKS : Kn mg "MAX_BOOKS" (.int 6)
  k_MAX_BOOK : Kn mg "MAX_BOOK" (.int 999)
  k_MAX_ALSO : Kn mg "MAX_ALSO" (.int 4)
  k_ALL : Kn mg "ALL" (.str "all")
  k_HALF : Kn mg "HALF" (.str "half")
  k_LEAF : Kn mg "LEAF" (.str "leaf")
  k_MAX_CARDS : Kn mg "MAX_CARDS" (.int 16)
  k_FIRST : Kn mg "FIRST" (.int 97)
  k_BASE : Kn mg "BASE" (.int 256)
  k_CHECK_START : Kn mg "CHECK_START" (.int 7)
  k_CHECK_TIMES : Kn mg "CHECK_TIMES" (.int 15)
  k_CHECK_REST : Kn mg "CHECK_REST" (.int 233)
  k_ENTRY : Kn mg "ENTRY" (.str "entry")
  k_LOST : Kn mg "LOST" (.str "lost")
  k_RING : Kn mg "RING" (.str "ring")
  k_BROAD : Kn mg "BROAD" (.str "broad")
  k_DEEP : Kn mg "DEEP" (.str "deep")
  k_STRAIGHT : Kn mg "STRAIGHT" (.str "straight")
  k_MAX_PATIENCE : Kn mg "MAX_PATIENCE" (.int 99)
  k_SEE : Kn mg "SEE" (.str "see")
  k_CARD : Kn mg "CARD" (.str "card")
  k_ALSO : Kn mg "ALSO" (.str "also")
  k_DIGITS : Kn mg "DIGITS" (.str "0123456789")
  k_MOST_DIGITS : Kn mg "MOST_DIGITS" (.int 3)
  k_RULES : Kt c mg "RULES" [.str "all", .str "half", .str "leaf"]
  k_WAYS : Kt c mg "WAYS" [.str "broad", .str "deep", .str "straight"]
  g_Card : mg "Card" = some (.ref c.card)
  g_Drawer : mg "Drawer" = some (.ref c.drw)
  g_Reader : mg "Reader" = some (.ref (He.ga c.K "Reader"))
  g_Walk : mg "Walk" = some (.ref (He.ga c.K "Walk"))
  g_Gathering : mg "Gathering" = some (.ref (He.ga c.K "Gathering"))
  g_Row : mg "Row" = some (.ref (He.ga c.K "Row"))
  d_is_number : Df c mg "is_number" st_is_number
  d_is_word : Df c mg "is_word" st_is_word
  d_check_heading : Df c mg "check_heading" st_check_heading
  d_check_number : Df c mg "check_number" st_check_number
  d_are_books : Df c mg "are_books" st_are_books
  d_are_others : Df c mg "are_others" st_are_others
  d_Card_init : Di c c.card "Card.__init__" st_Card_init 3
  d_Card_heading : Dp1 c c.card "heading" "Card.heading" st_Card_heading
  d_Card_books : Dp1 c c.card "books" "Card.books" st_Card_books
  d_Card_see : Dp1 c c.card "see" "Card.see" st_Card_see
  d_Card_also : Dp1 c c.card "also" "Card.also" st_Card_also
  d_Card_leads : Dp1 c c.card "leads" "Card.leads" st_Card_leads
  d_Card_eq : Dm c c.card "__eq__" "Card.__eq__" st_Card_eq []
  d_check_rule : Df c mg "check_rule" st_check_rule
  d_by_halves : Df c mg "by_halves" st_by_halves
  d_one_by_one : Df c mg "one_by_one" st_one_by_one
  d_looked_up : Df c mg "looked_up" st_looked_up
  d_look_up : Df c mg "look_up" st_look_up
  d_never_found : Df c mg "never_found" st_never_found
  d_Drawer_init : Di c c.drw "Drawer.__init__" st_Drawer_init 0
  d_Drawer_cards : Dp1 c c.drw "cards" "Drawer.cards" st_Drawer_cards
  d_Drawer_headings : Dp1 c c.drw "headings" "Drawer.headings" st_Drawer_headings
  d_Drawer_len : Dm c c.drw "__len__" "Drawer.__len__" st_Drawer_len []
  d_Drawer_check_place : Dm c c.drw "check_place" "Drawer.check_place" st_Drawer_check_place []
  d_Drawer_eq : Dm c c.drw "__eq__" "Drawer.__eq__" st_Drawer_eq []
  d_Drawer_without : Dm c c.drw "without" "Drawer.without" st_Drawer_without []
  d_filed : Df c mg "filed" st_filed
  d_is_filed : Df c mg "is_filed" st_is_filed
  d_known_headings : Df c mg "known_headings" st_known_headings
  d_checksum : Df c mg "checksum" st_checksum
  d_word_items : Df c mg "word_items" st_word_items
  d_card_items : Df c mg "card_items" st_card_items
  d_encode_drawer : Df c mg "encode_drawer" st_encode_drawer
  d_Reader_init : Di c (He.ga c.K "Reader") "Reader.__init__" st_Reader_init 0
  d_Reader_item : Dm c (He.ga c.K "Reader") "item" "Reader.item" st_Reader_item []
  d_Reader_read_word : Dm c (He.ga c.K "Reader") "read_word" "Reader.read_word" st_Reader_read_word []
  d_Reader_read_book : Dm c (He.ga c.K "Reader") "read_book" "Reader.read_book" st_Reader_read_book []
  d_Reader_read_card : Dm c (He.ga c.K "Reader") "read_card" "Reader.read_card" st_Reader_read_card []
  d_Reader_finish : Dm c (He.ga c.K "Reader") "finish" "Reader.finish" st_Reader_finish []
  d_decode_drawer : Df c mg "decode_drawer" st_decode_drawer
  d_choices : Df c mg "choices" st_choices
  d_out_of_order : Df c mg "out_of_order" st_out_of_order
  d_Walk_init : Di c (He.ga c.K "Walk") "Walk.__init__" st_Walk_init 0
  d_Walk_go_on : Dm c (He.ga c.K "Walk") "go_on" "Walk.go_on" st_Walk_go_on []
  d_Walk_landing : Dm c (He.ga c.K "Walk") "landing" "Walk.landing" st_Walk_landing []
  d_walk : Df c mg "walk" st_walk
  d_looks : Df c mg "looks" st_looks
  d_Gathering_init : Di c (He.ga c.K "Gathering") "Gathering.__init__" st_Gathering_init 0
  d_Gathering_go_on : Dm c (He.ga c.K "Gathering") "go_on" "Gathering.go_on" st_Gathering_go_on []
  d_Gathering_visit : Dm c (He.ga c.K "Gathering") "visit" "Gathering.visit" st_Gathering_visit []
  d_check_way : Df c mg "check_way" st_check_way
  d_gather : Df c mg "gather" st_gather
  d_reached : Df c mg "reached" st_reached
  d_reach : Df c mg "reach" st_reach
  d_card_words : Df c mg "card_words" st_card_words
  d_format_drawer : Df c mg "format_drawer" st_format_drawer
  d_is_book : Df c mg "is_book" st_is_book
  d_Row_init : Di c (He.ga c.K "Row") "Row.__init__" st_Row_init 0
  d_Row_has_more : Dm c (He.ga c.K "Row") "has_more" "Row.has_more" st_Row_has_more []
  d_Row_next_part : Dm c (He.ga c.K "Row") "next_part" "Row.next_part" st_Row_next_part []
  d_Row_read_books : Dm c (He.ga c.K "Row") "read_books" "Row.read_books" st_Row_read_books []
  d_Row_read_also : Dm c (He.ga c.K "Row") "read_also" "Row.read_also" st_Row_read_also []
  d_Row_read_card : Dm c (He.ga c.K "Row") "read_card" "Row.read_card" st_Row_read_card []
  d_made_card : Df c mg "made_card" st_made_card
  d_parse_drawer : Df c mg "parse_drawer" st_parse_drawer
  d_table : Df c mg "table" st_table
  d_sign_of : Df c mg "sign_of" st_sign_of
  d_strip : Df c mg "strip" st_strip
  d_law_taken : Df c mg "_law_taken" st_law_taken
  d_law_pick : Df c mg "_law_pick" st_law_pick
  d_law_mixed : Df c mg "_law_mixed" st_law_mixed
  d_law_drawer : Df c mg "_law_drawer" st_law_drawer
  d_law_looked : Df c mg "_law_looked" st_law_looked
  d_law_walked : Df c mg "_law_walked" st_law_walked
  d_law_landing : Df c mg "_law_landing" st_law_landing
  d_law_known : Df c mg "_law_known" st_law_known
  d_law_headings : Df c mg "_law_headings" st_law_headings
  d_law_gathered : Df c mg "_law_gathered" st_law_gathered
  d_law_reach : Df c mg "_law_reach" st_law_reach
  d_law_great : Df c mg "_law_great" st_law_great
  d_law_rising : Df c mg "_law_rising" st_law_rising
  d_law : Df c mg "law" st_law
  c_Reader : Cls c.K (He.ga c.K "Reader")
  a_Reader_data : NoAttr c.K (He.ga c.K "Reader") "data"
  a_Reader_spot : NoAttr c.K (He.ga c.K "Reader") "spot"
  c_Walk : Cls c.K (He.ga c.K "Walk")
  a_Walk_word : NoAttr c.K (He.ga c.K "Walk") "word"
  a_Walk_steps : NoAttr c.K (He.ga c.K "Walk") "steps"
  a_Walk_sought : NoAttr c.K (He.ga c.K "Walk") "sought"
  a_Walk_effort : NoAttr c.K (He.ga c.K "Walk") "effort"
  c_Gathering : Cls c.K (He.ga c.K "Gathering")
  a_Gathering_drawer : NoAttr c.K (He.ga c.K "Gathering") "drawer"
  a_Gathering_rule : NoAttr c.K (He.ga c.K "Gathering") "rule"
  a_Gathering_way : NoAttr c.K (He.ga c.K "Gathering") "way"
  a_Gathering_agenda : NoAttr c.K (He.ga c.K "Gathering") "agenda"
  a_Gathering_walked : NoAttr c.K (He.ga c.K "Gathering") "walked"
  a_Gathering_visited : NoAttr c.K (He.ga c.K "Gathering") "visited"
  a_Gathering_gathered : NoAttr c.K (He.ga c.K "Gathering") "gathered"
  c_Row : Cls c.K (He.ga c.K "Row")
  a_Row_number : NoAttr c.K (He.ga c.K "Row") "number"
  a_Row_parts : NoAttr c.K (He.ga c.K "Row") "parts"
  a_Row_spot : NoAttr c.K (He.ga c.K "Row") "spot"
  s_Card : SlX.SCls c.K c.card
  i_Card : SlX.SIsi c.K c.card
  t_Card : ∃ p, SlX.Slot1 c.K c.card "facts" p 0
  s_Drawer : SlX.SCls c.K c.drw
  i_Drawer : SlX.SIsi c.K c.drw
  t_Drawer : ∃ p, SlX.Slot1 c.K c.drw "row" p 0
  o_Card : PySem.W.kitOne c.K (.ref c.card) (.ref c.card) = some true
  o_Drawer : PySem.W.kitOne c.K (.ref c.drw) (.ref c.drw) = some true
  ne_Drawer : PySem.W.findIn c.K (.ref c.drw) "__ne__" = some (some (.builtin "object.__ne__"))
end Sx
end
section
/-! the head's facts, Tx out of them (printed by genHead.py) -/
set_option maxRecDepth 100000
set_option maxHeartbeats 1000000
namespace Sx
open PySem PySem.Spec PyProof.Rows L2 LamX NdefX
theorem kn_int {mg : Str → Option Value} {x : Str} {i : Int} (h : ∃ t, mg x = some (.int i t)) : Kn mg x (.int i) := let ⟨t, e⟩ := h; ⟨_, e, t, rfl⟩
theorem kn_str {mg : Str → Option Value} {x z : Str} (h : ∃ t, mg x = some (.str z t)) : Kn mg x (.str z) := let ⟨t, e⟩ := h; ⟨_, e, t, rfl⟩
def propB (K : PySem.W.Frag) (C : Addr) (m : Str) : Bool := He.eqO (PySem.W.findIn K (.ref C) m) (some (some (.ref (He.ma K C m)))) && (He.eqO (PySem.W.specialIn K (.ref (He.ma K C m)) "__get__") (some (some (.builtin "property.__get__"))) && (decide (PySem.W.takesIn K (.ref (He.ma K C m)) = some true) && (match PySem.W.recIn K (He.ma K C m) "property" with
    | some (.ref _ :: _) => true
    | _ => false)))
theorem propB_ok {K : PySem.W.Frag} {C : Addr} {m : Str} (h : propB K C m = true) : PySem.W.findIn K (.ref C) m = some (some (.ref (He.ma K C m))) ∧ PySem.W.specialIn K (.ref (He.ma K C m)) "__get__" = some (some (.builtin "property.__get__")) ∧ PySem.W.takesIn K (.ref (He.ma K C m)) = some true ∧ ∃ rest, PySem.W.recIn K (He.ma K C m) "property" = some (.ref (He5.wf K C "property" m) :: rest) := by
  obtain ⟨h1, h⟩ := He.ba h
  obtain ⟨h2, h⟩ := He.ba h
  obtain ⟨h3, h4⟩ := He.ba h
  refine ⟨He.eqO_ok h1, He.eqO_ok h2, of_decide_eq_true h3, ?_⟩
  unfold He5.wf
  split at h4
  · rename_i f r e
    exact ⟨r, by rw [e]⟩
  · cases h4
def sclB (K : PySem.W.Frag) (C : Addr) : Bool := PySem.W.plainGet K C Str.empty && (PySem.W.isClsIn K C && (PySem.W.plainOver K C && He.eqO (PySem.W.findIn K (.ref C) "__setattr__") (some (some (.builtin "object.__setattr__")))))
theorem sclB_ok {K : PySem.W.Frag} {C : Addr} (h : sclB K C = true) : SlX.SCls K C := by
  obtain ⟨h1, h⟩ := He.ba h
  obtain ⟨h2, h⟩ := He.ba h
  obtain ⟨h3, h4⟩ := He.ba h
  exact ⟨h1, h2, h3, He.eqO_ok h4⟩
def sisB (K : PySem.W.Frag) (C : Addr) : Bool := He.eqO (PySem.W.findIn K (.ref C) "__class__") (some (some (.builtin "object.__class__"))) && (He.eqO (PySem.W.specialIn K (.builtin "object.__class__") "__get__") (some (some (.builtin "getset_descriptor.__get__"))) && (decide (PySem.W.takesIn K (.builtin "object.__class__") = some true) && decide (PySem.W.mroIn K C (.type "object") = some true)))
theorem sisB_ok {K : PySem.W.Frag} {C : Addr} (h : sisB K C = true) : SlX.SIsi K C := by
  obtain ⟨h1, h⟩ := He.ba h
  obtain ⟨h2, h⟩ := He.ba h
  obtain ⟨h3, h4⟩ := He.ba h
  exact ⟨He.eqO_ok h1, He.eqO_ok h2, of_decide_eq_true h3, of_decide_eq_true h4⟩
def slotB (K : PySem.W.Frag) (C : Addr) (f : Str) : Bool := He.eqO (PySem.W.findIn K (.ref C) f) (some (some (.ref (He.ma K C f)))) && (He.eqO (PySem.W.specialIn K (.ref (He.ma K C f)) "__get__") (some (some (.builtin "member_descriptor.__get__"))) && (decide (PySem.W.takesIn K (.ref (He.ma K C f)) = some true) && (decide (PySem.W.typeIn K (.ref (He.ma K C f)) = some (.type "member_descriptor")) && decide (PySem.W.slotIn K (He.ma K C f) C = some 0))))
theorem slotB_ok {K : PySem.W.Frag} {C : Addr} {f : Str} (h : slotB K C f = true) : SlX.Slot1 K C f (He.ma K C f) 0 := by
  obtain ⟨h1, h⟩ := He.ba h
  obtain ⟨h2, h⟩ := He.ba h
  obtain ⟨h3, h⟩ := He.ba h
  obtain ⟨h4, h5⟩ := He.ba h
  exact ⟨He.eqO_ok h1, He.eqO_ok h2, of_decide_eq_true h3, of_decide_eq_true h4, of_decide_eq_true h5, by decide⟩
theorem df {fa : List He.Fa} {fn : List He5.DefA} {K : PySem.W.Frag} (c : He5.SaysA fa fn K) (i : Nat) {d : He5.DefA} (h : fn[i]? = some d := by rfl) : ∃ fd, FunD K d.name d.qual d.params d.body d.scope (d.dvs K) (d.kws K) (d.at_ K) fd := c.def_ i h
def hFa0 : List He.Fa := [
  .free "len",
  .free "isinstance",
  .free "int",
  .free "bool",
  .free "str",
  .free "tuple",
  .free "list",
  .free "all",
  .free "set",
  .free "sorted",
  .free "range",
  .free "enumerate",
  .free "zip",
  .free "max",
  .str "LETTERS" "abcdefghijklmnopqrstuvwxyz",
  .int "MAX_LETTERS" 8,
  .int "MAX_BOOKS" 6,
  .int "MAX_BOOK" 999,
  .int "MAX_ALSO" 4,
  .str "ALL" "all",
  .str "HALF" "half",
  .str "LEAF" "leaf",
  .int "MAX_CARDS" 16,
  .int "FIRST" 97,
  .int "BASE" 256,
  .int "CHECK_START" 7,
  .int "CHECK_TIMES" 15,
  .int "CHECK_REST" 233,
  .str "ENTRY" "entry",
  .str "LOST" "lost"]
def hFa1 : List He.Fa := [
  .str "RING" "ring",
  .str "BROAD" "broad",
  .str "DEEP" "deep",
  .str "STRAIGHT" "straight",
  .int "MAX_PATIENCE" 99,
  .str "SEE" "see",
  .str "CARD" "card",
  .str "ALSO" "also",
  .str "DIGITS" "0123456789",
  .int "MOST_DIGITS" 3,
  .glo "RULES",
  .glo "WAYS",
  .glo "Card",
  .glo "Drawer",
  .glo "Reader",
  .glo "Walk",
  .glo "Gathering",
  .glo "Row",
  .glo "is_number",
  .glo "is_word",
  .glo "check_heading",
  .glo "check_number",
  .glo "are_books",
  .glo "are_others",
  .mkr "Card",
  .meth "Card" "__eq__",
  .glo "check_rule",
  .glo "by_halves",
  .glo "one_by_one",
  .glo "looked_up"]
def hFa2 : List He.Fa := [
  .glo "look_up",
  .glo "never_found",
  .mkr "Drawer",
  .meth "Drawer" "__len__",
  .meth "Drawer" "check_place",
  .meth "Drawer" "__eq__",
  .meth "Drawer" "without",
  .glo "filed",
  .glo "is_filed",
  .glo "known_headings",
  .glo "checksum",
  .glo "word_items",
  .glo "card_items",
  .glo "encode_drawer",
  .mkr "Reader",
  .meth "Reader" "item",
  .meth "Reader" "read_word",
  .meth "Reader" "read_book",
  .meth "Reader" "read_card",
  .meth "Reader" "finish",
  .glo "decode_drawer",
  .glo "choices",
  .glo "out_of_order",
  .mkr "Walk",
  .meth "Walk" "go_on",
  .meth "Walk" "landing",
  .glo "walk",
  .glo "looks",
  .mkr "Gathering",
  .meth "Gathering" "go_on"]
def hFa3 : List He.Fa := [
  .meth "Gathering" "visit",
  .glo "check_way",
  .glo "gather",
  .glo "reached",
  .glo "reach",
  .glo "card_words",
  .glo "format_drawer",
  .glo "is_book",
  .mkr "Row",
  .meth "Row" "has_more",
  .meth "Row" "next_part",
  .meth "Row" "read_books",
  .meth "Row" "read_also",
  .meth "Row" "read_card",
  .glo "made_card",
  .glo "parse_drawer",
  .glo "table",
  .glo "sign_of",
  .glo "strip",
  .glo "_law_taken",
  .glo "_law_pick",
  .glo "_law_mixed",
  .glo "_law_drawer",
  .glo "_law_looked",
  .glo "_law_walked",
  .glo "_law_landing",
  .glo "_law_known",
  .glo "_law_headings",
  .glo "_law_gathered",
  .glo "_law_reach"]
def hFa4 : List He.Fa := [
  .glo "_law_great",
  .glo "_law_rising",
  .glo "law",
  .cls "Reader",
  .noat "Reader" "data",
  .noat "Reader" "spot",
  .cls "Walk",
  .noat "Walk" "word",
  .noat "Walk" "steps",
  .noat "Walk" "sought",
  .noat "Walk" "effort",
  .cls "Gathering",
  .noat "Gathering" "drawer",
  .noat "Gathering" "rule",
  .noat "Gathering" "way",
  .noat "Gathering" "agenda",
  .noat "Gathering" "walked",
  .noat "Gathering" "visited",
  .noat "Gathering" "gathered",
  .cls "Row",
  .noat "Row" "number",
  .noat "Row" "parts",
  .noat "Row" "spot"]
def hFa : List He.Fa := hFa0 ++ (hFa1 ++ (hFa2 ++ (hFa3 ++ (hFa4))))
def hFn0 : List He5.DefA := [
  ⟨fun K => He.ga K "is_number", "is_number", "is_number", defArgs st_is_number, defBody st_is_number, defScope st_is_number, [], []⟩,
  ⟨fun K => He.ga K "is_word", "is_word", "is_word", defArgs st_is_word, defBody st_is_word, defScope st_is_word, [], []⟩,
  ⟨fun K => He.ga K "check_heading", "check_heading", "check_heading", defArgs st_check_heading, defBody st_check_heading, defScope st_check_heading, [], []⟩,
  ⟨fun K => He.ga K "check_number", "check_number", "check_number", defArgs st_check_number, defBody st_check_number, defScope st_check_number, [], []⟩,
  ⟨fun K => He.ga K "are_books", "are_books", "are_books", defArgs st_are_books, defBody st_are_books, defScope st_are_books, [], []⟩,
  ⟨fun K => He.ga K "are_others", "are_others", "are_others", defArgs st_are_others, defBody st_are_others, defScope st_are_others, [], []⟩,
  ⟨fun K => He.ma K (He.ga K "Card") "__init__", "__init__", "Card.__init__", defArgs st_Card_init, defBody st_Card_init, defScope st_Card_init, [.adr (He.dflAt ("Card", some "__init__") 0), .str "", .adr (He.dflAt ("Card", some "__init__") 2)], []⟩,
  ⟨fun K => He5.wf K (He.ga K "Card") "property" "heading", "heading", "Card.heading", defArgs st_Card_heading, defBody st_Card_heading, defScope st_Card_heading, [], []⟩,
  ⟨fun K => He5.wf K (He.ga K "Card") "property" "books", "books", "Card.books", defArgs st_Card_books, defBody st_Card_books, defScope st_Card_books, [], []⟩,
  ⟨fun K => He5.wf K (He.ga K "Card") "property" "see", "see", "Card.see", defArgs st_Card_see, defBody st_Card_see, defScope st_Card_see, [], []⟩,
  ⟨fun K => He5.wf K (He.ga K "Card") "property" "also", "also", "Card.also", defArgs st_Card_also, defBody st_Card_also, defScope st_Card_also, [], []⟩,
  ⟨fun K => He5.wf K (He.ga K "Card") "property" "leads", "leads", "Card.leads", defArgs st_Card_leads, defBody st_Card_leads, defScope st_Card_leads, [], []⟩,
  ⟨fun K => He.ma K (He.ga K "Card") "__eq__", "__eq__", "Card.__eq__", defArgs st_Card_eq, defBody st_Card_eq, defScope st_Card_eq, [], []⟩,
  ⟨fun K => He.ga K "check_rule", "check_rule", "check_rule", defArgs st_check_rule, defBody st_check_rule, defScope st_check_rule, [], []⟩,
  ⟨fun K => He.ga K "by_halves", "by_halves", "by_halves", defArgs st_by_halves, defBody st_by_halves, defScope st_by_halves, [], []⟩,
  ⟨fun K => He.ga K "one_by_one", "one_by_one", "one_by_one", defArgs st_one_by_one, defBody st_one_by_one, defScope st_one_by_one, [], []⟩,
  ⟨fun K => He.ga K "looked_up", "looked_up", "looked_up", defArgs st_looked_up, defBody st_looked_up, defScope st_looked_up, [], []⟩,
  ⟨fun K => He.ga K "look_up", "look_up", "look_up", defArgs st_look_up, defBody st_look_up, defScope st_look_up, [], []⟩,
  ⟨fun K => He.ga K "never_found", "never_found", "never_found", defArgs st_never_found, defBody st_never_found, defScope st_never_found, [], []⟩,
  ⟨fun K => He.ma K (He.ga K "Drawer") "__init__", "__init__", "Drawer.__init__", defArgs st_Drawer_init, defBody st_Drawer_init, defScope st_Drawer_init, [], []⟩,
  ⟨fun K => He5.wf K (He.ga K "Drawer") "property" "cards", "cards", "Drawer.cards", defArgs st_Drawer_cards, defBody st_Drawer_cards, defScope st_Drawer_cards, [], []⟩,
  ⟨fun K => He5.wf K (He.ga K "Drawer") "property" "headings", "headings", "Drawer.headings", defArgs st_Drawer_headings, defBody st_Drawer_headings, defScope st_Drawer_headings, [], []⟩,
  ⟨fun K => He.ma K (He.ga K "Drawer") "__len__", "__len__", "Drawer.__len__", defArgs st_Drawer_len, defBody st_Drawer_len, defScope st_Drawer_len, [], []⟩,
  ⟨fun K => He.ma K (He.ga K "Drawer") "check_place", "check_place", "Drawer.check_place", defArgs st_Drawer_check_place, defBody st_Drawer_check_place, defScope st_Drawer_check_place, [], []⟩,
  ⟨fun K => He.ma K (He.ga K "Drawer") "__eq__", "__eq__", "Drawer.__eq__", defArgs st_Drawer_eq, defBody st_Drawer_eq, defScope st_Drawer_eq, [], []⟩]
def hFn1 : List He5.DefA := [
  ⟨fun K => He.ma K (He.ga K "Drawer") "without", "without", "Drawer.without", defArgs st_Drawer_without, defBody st_Drawer_without, defScope st_Drawer_without, [], []⟩,
  ⟨fun K => He.ga K "filed", "filed", "filed", defArgs st_filed, defBody st_filed, defScope st_filed, [], []⟩,
  ⟨fun K => He.ga K "is_filed", "is_filed", "is_filed", defArgs st_is_filed, defBody st_is_filed, defScope st_is_filed, [], []⟩,
  ⟨fun K => He.ga K "known_headings", "known_headings", "known_headings", defArgs st_known_headings, defBody st_known_headings, defScope st_known_headings, [], []⟩,
  ⟨fun K => He.ga K "checksum", "checksum", "checksum", defArgs st_checksum, defBody st_checksum, defScope st_checksum, [], []⟩,
  ⟨fun K => He.ga K "word_items", "word_items", "word_items", defArgs st_word_items, defBody st_word_items, defScope st_word_items, [], []⟩,
  ⟨fun K => He.ga K "card_items", "card_items", "card_items", defArgs st_card_items, defBody st_card_items, defScope st_card_items, [], []⟩,
  ⟨fun K => He.ga K "encode_drawer", "encode_drawer", "encode_drawer", defArgs st_encode_drawer, defBody st_encode_drawer, defScope st_encode_drawer, [], []⟩,
  ⟨fun K => He.ma K (He.ga K "Reader") "__init__", "__init__", "Reader.__init__", defArgs st_Reader_init, defBody st_Reader_init, defScope st_Reader_init, [], []⟩,
  ⟨fun K => He.ma K (He.ga K "Reader") "item", "item", "Reader.item", defArgs st_Reader_item, defBody st_Reader_item, defScope st_Reader_item, [], []⟩,
  ⟨fun K => He.ma K (He.ga K "Reader") "read_word", "read_word", "Reader.read_word", defArgs st_Reader_read_word, defBody st_Reader_read_word, defScope st_Reader_read_word, [], []⟩,
  ⟨fun K => He.ma K (He.ga K "Reader") "read_book", "read_book", "Reader.read_book", defArgs st_Reader_read_book, defBody st_Reader_read_book, defScope st_Reader_read_book, [], []⟩,
  ⟨fun K => He.ma K (He.ga K "Reader") "read_card", "read_card", "Reader.read_card", defArgs st_Reader_read_card, defBody st_Reader_read_card, defScope st_Reader_read_card, [], []⟩,
  ⟨fun K => He.ma K (He.ga K "Reader") "finish", "finish", "Reader.finish", defArgs st_Reader_finish, defBody st_Reader_finish, defScope st_Reader_finish, [], []⟩,
  ⟨fun K => He.ga K "decode_drawer", "decode_drawer", "decode_drawer", defArgs st_decode_drawer, defBody st_decode_drawer, defScope st_decode_drawer, [], []⟩,
  ⟨fun K => He.ga K "choices", "choices", "choices", defArgs st_choices, defBody st_choices, defScope st_choices, [], []⟩,
  ⟨fun K => He.ga K "out_of_order", "out_of_order", "out_of_order", defArgs st_out_of_order, defBody st_out_of_order, defScope st_out_of_order, [], []⟩,
  ⟨fun K => He.ma K (He.ga K "Walk") "__init__", "__init__", "Walk.__init__", defArgs st_Walk_init, defBody st_Walk_init, defScope st_Walk_init, [], []⟩,
  ⟨fun K => He.ma K (He.ga K "Walk") "go_on", "go_on", "Walk.go_on", defArgs st_Walk_go_on, defBody st_Walk_go_on, defScope st_Walk_go_on, [], []⟩,
  ⟨fun K => He.ma K (He.ga K "Walk") "landing", "landing", "Walk.landing", defArgs st_Walk_landing, defBody st_Walk_landing, defScope st_Walk_landing, [], []⟩,
  ⟨fun K => He.ga K "walk", "walk", "walk", defArgs st_walk, defBody st_walk, defScope st_walk, [], []⟩,
  ⟨fun K => He.ga K "looks", "looks", "looks", defArgs st_looks, defBody st_looks, defScope st_looks, [], []⟩,
  ⟨fun K => He.ma K (He.ga K "Gathering") "__init__", "__init__", "Gathering.__init__", defArgs st_Gathering_init, defBody st_Gathering_init, defScope st_Gathering_init, [], []⟩,
  ⟨fun K => He.ma K (He.ga K "Gathering") "go_on", "go_on", "Gathering.go_on", defArgs st_Gathering_go_on, defBody st_Gathering_go_on, defScope st_Gathering_go_on, [], []⟩,
  ⟨fun K => He.ma K (He.ga K "Gathering") "visit", "visit", "Gathering.visit", defArgs st_Gathering_visit, defBody st_Gathering_visit, defScope st_Gathering_visit, [], []⟩]
def hFn2 : List He5.DefA := [
  ⟨fun K => He.ga K "check_way", "check_way", "check_way", defArgs st_check_way, defBody st_check_way, defScope st_check_way, [], []⟩,
  ⟨fun K => He.ga K "gather", "gather", "gather", defArgs st_gather, defBody st_gather, defScope st_gather, [], []⟩,
  ⟨fun K => He.ga K "reached", "reached", "reached", defArgs st_reached, defBody st_reached, defScope st_reached, [], []⟩,
  ⟨fun K => He.ga K "reach", "reach", "reach", defArgs st_reach, defBody st_reach, defScope st_reach, [], []⟩,
  ⟨fun K => He.ga K "card_words", "card_words", "card_words", defArgs st_card_words, defBody st_card_words, defScope st_card_words, [], []⟩,
  ⟨fun K => He.ga K "format_drawer", "format_drawer", "format_drawer", defArgs st_format_drawer, defBody st_format_drawer, defScope st_format_drawer, [], []⟩,
  ⟨fun K => He.ga K "is_book", "is_book", "is_book", defArgs st_is_book, defBody st_is_book, defScope st_is_book, [], []⟩,
  ⟨fun K => He.ma K (He.ga K "Row") "__init__", "__init__", "Row.__init__", defArgs st_Row_init, defBody st_Row_init, defScope st_Row_init, [], []⟩,
  ⟨fun K => He.ma K (He.ga K "Row") "has_more", "has_more", "Row.has_more", defArgs st_Row_has_more, defBody st_Row_has_more, defScope st_Row_has_more, [], []⟩,
  ⟨fun K => He.ma K (He.ga K "Row") "next_part", "next_part", "Row.next_part", defArgs st_Row_next_part, defBody st_Row_next_part, defScope st_Row_next_part, [], []⟩,
  ⟨fun K => He.ma K (He.ga K "Row") "read_books", "read_books", "Row.read_books", defArgs st_Row_read_books, defBody st_Row_read_books, defScope st_Row_read_books, [], []⟩,
  ⟨fun K => He.ma K (He.ga K "Row") "read_also", "read_also", "Row.read_also", defArgs st_Row_read_also, defBody st_Row_read_also, defScope st_Row_read_also, [], []⟩,
  ⟨fun K => He.ma K (He.ga K "Row") "read_card", "read_card", "Row.read_card", defArgs st_Row_read_card, defBody st_Row_read_card, defScope st_Row_read_card, [], []⟩,
  ⟨fun K => He.ga K "made_card", "made_card", "made_card", defArgs st_made_card, defBody st_made_card, defScope st_made_card, [], []⟩,
  ⟨fun K => He.ga K "parse_drawer", "parse_drawer", "parse_drawer", defArgs st_parse_drawer, defBody st_parse_drawer, defScope st_parse_drawer, [], []⟩,
  ⟨fun K => He.ga K "table", "table", "table", defArgs st_table, defBody st_table, defScope st_table, [], []⟩,
  ⟨fun K => He.ga K "sign_of", "sign_of", "sign_of", defArgs st_sign_of, defBody st_sign_of, defScope st_sign_of, [], []⟩,
  ⟨fun K => He.ga K "strip", "strip", "strip", defArgs st_strip, defBody st_strip, defScope st_strip, [], []⟩,
  ⟨fun K => He.ga K "_law_taken", "_law_taken", "_law_taken", defArgs st_law_taken, defBody st_law_taken, defScope st_law_taken, [], []⟩,
  ⟨fun K => He.ga K "_law_pick", "_law_pick", "_law_pick", defArgs st_law_pick, defBody st_law_pick, defScope st_law_pick, [], []⟩,
  ⟨fun K => He.ga K "_law_mixed", "_law_mixed", "_law_mixed", defArgs st_law_mixed, defBody st_law_mixed, defScope st_law_mixed, [], []⟩,
  ⟨fun K => He.ga K "_law_drawer", "_law_drawer", "_law_drawer", defArgs st_law_drawer, defBody st_law_drawer, defScope st_law_drawer, [], []⟩,
  ⟨fun K => He.ga K "_law_looked", "_law_looked", "_law_looked", defArgs st_law_looked, defBody st_law_looked, defScope st_law_looked, [], []⟩,
  ⟨fun K => He.ga K "_law_walked", "_law_walked", "_law_walked", defArgs st_law_walked, defBody st_law_walked, defScope st_law_walked, [], []⟩,
  ⟨fun K => He.ga K "_law_landing", "_law_landing", "_law_landing", defArgs st_law_landing, defBody st_law_landing, defScope st_law_landing, [], []⟩]
def hFn3 : List He5.DefA := [
  ⟨fun K => He.ga K "_law_known", "_law_known", "_law_known", defArgs st_law_known, defBody st_law_known, defScope st_law_known, [], []⟩,
  ⟨fun K => He.ga K "_law_headings", "_law_headings", "_law_headings", defArgs st_law_headings, defBody st_law_headings, defScope st_law_headings, [], []⟩,
  ⟨fun K => He.ga K "_law_gathered", "_law_gathered", "_law_gathered", defArgs st_law_gathered, defBody st_law_gathered, defScope st_law_gathered, [], []⟩,
  ⟨fun K => He.ga K "_law_reach", "_law_reach", "_law_reach", defArgs st_law_reach, defBody st_law_reach, defScope st_law_reach, [], []⟩,
  ⟨fun K => He.ga K "_law_great", "_law_great", "_law_great", defArgs st_law_great, defBody st_law_great, defScope st_law_great, [], []⟩,
  ⟨fun K => He.ga K "_law_rising", "_law_rising", "_law_rising", defArgs st_law_rising, defBody st_law_rising, defScope st_law_rising, [], []⟩,
  ⟨fun K => He.ga K "law", "law", "law", defArgs st_law, defBody st_law, defScope st_law, [], []⟩]
def hFn : List He5.DefA := hFn0 ++ (hFn1 ++ (hFn2 ++ (hFn3)))
def hEx (K : PySem.W.Frag) : List Bool := [
  He.tupB K "RULES" [.str "all", .str "half", .str "leaf"],
  He.tupB K "WAYS" [.str "broad", .str "deep", .str "straight"],
  propB K (He.ga K "Card") "heading",
  propB K (He.ga K "Card") "books",
  propB K (He.ga K "Card") "see",
  propB K (He.ga K "Card") "also",
  propB K (He.ga K "Card") "leads",
  propB K (He.ga K "Drawer") "cards",
  propB K (He.ga K "Drawer") "headings",
  sclB K (He.ga K "Card"),
  sisB K (He.ga K "Card"),
  slotB K (He.ga K "Card") "facts",
  sclB K (He.ga K "Drawer"),
  sisB K (He.ga K "Drawer"),
  slotB K (He.ga K "Drawer") "row",
  decide (PySem.W.kitOne K (.ref (He.ga K "Card")) (.ref (He.ga K "Card")) = some true),
  decide (PySem.W.kitOne K (.ref (He.ga K "Drawer")) (.ref (He.ga K "Drawer")) = some true),
  He.eqO (PySem.W.findIn K (.ref (He.ga K "Drawer")) "__ne__") (some (some (.builtin "object.__ne__")))]
theorem hTx {K : PySem.W.Frag} {h : Heap} {mg : Str → Option Value} (X : K.In h) (G : h.Ns mainGlobals mg) (c : He5.SaysA hFa hFn K) (ex : ((hEx K).all id) = true) : Tx ⟨K, He.ga K "Card", He.ga K "Drawer"⟩ mg := by
  have exB : ∀ (i : Nat) {b : Bool}, (hEx K)[i]? = some b → b = true := fun i b e => List.all_eq_true.mp ex b (List.mem_of_getElem? e)
  exact {
    n_len := He.free_ok X G (c.fact 0 (f := .free "len") rfl)
    n_isinstance := He.free_ok X G (c.fact 1 (f := .free "isinstance") rfl)
    n_int := He.free_ok X G (c.fact 2 (f := .free "int") rfl)
    n_bool := He.free_ok X G (c.fact 3 (f := .free "bool") rfl)
    n_str := He.free_ok X G (c.fact 4 (f := .free "str") rfl)
    n_tuple := He.free_ok X G (c.fact 5 (f := .free "tuple") rfl)
    n_list := He.free_ok X G (c.fact 6 (f := .free "list") rfl)
    n_all := He.free_ok X G (c.fact 7 (f := .free "all") rfl)
    n_set := He.free_ok X G (c.fact 8 (f := .free "set") rfl)
    n_sorted := He.free_ok X G (c.fact 9 (f := .free "sorted") rfl)
    n_range := He.free_ok X G (c.fact 10 (f := .free "range") rfl)
    n_enumerate := He.free_ok X G (c.fact 11 (f := .free "enumerate") rfl)
    n_zip := He.free_ok X G (c.fact 12 (f := .free "zip") rfl)
    n_max := He.free_ok X G (c.fact 13 (f := .free "max") rfl)
    k_LETTERS := kn_str (He.str_ok X G (c.fact 14 (f := .str "LETTERS" "abcdefghijklmnopqrstuvwxyz") rfl))
    k_MAX_LETTERS := kn_int (He.int_ok X G (c.fact 15 (f := .int "MAX_LETTERS" 8) rfl))
    k_MAX_BOOKS := kn_int (He.int_ok X G (c.fact 16 (f := .int "MAX_BOOKS" 6) rfl))
    k_MAX_BOOK := kn_int (He.int_ok X G (c.fact 17 (f := .int "MAX_BOOK" 999) rfl))
    k_MAX_ALSO := kn_int (He.int_ok X G (c.fact 18 (f := .int "MAX_ALSO" 4) rfl))
    k_ALL := kn_str (He.str_ok X G (c.fact 19 (f := .str "ALL" "all") rfl))
    k_HALF := kn_str (He.str_ok X G (c.fact 20 (f := .str "HALF" "half") rfl))
    k_LEAF := kn_str (He.str_ok X G (c.fact 21 (f := .str "LEAF" "leaf") rfl))
    k_MAX_CARDS := kn_int (He.int_ok X G (c.fact 22 (f := .int "MAX_CARDS" 16) rfl))
    k_FIRST := kn_int (He.int_ok X G (c.fact 23 (f := .int "FIRST" 97) rfl))
    k_BASE := kn_int (He.int_ok X G (c.fact 24 (f := .int "BASE" 256) rfl))
    k_CHECK_START := kn_int (He.int_ok X G (c.fact 25 (f := .int "CHECK_START" 7) rfl))
    k_CHECK_TIMES := kn_int (He.int_ok X G (c.fact 26 (f := .int "CHECK_TIMES" 15) rfl))
    k_CHECK_REST := kn_int (He.int_ok X G (c.fact 27 (f := .int "CHECK_REST" 233) rfl))
    k_ENTRY := kn_str (He.str_ok X G (c.fact 28 (f := .str "ENTRY" "entry") rfl))
    k_LOST := kn_str (He.str_ok X G (c.fact 29 (f := .str "LOST" "lost") rfl))
    k_RING := kn_str (He.str_ok X G (c.fact 30 (f := .str "RING" "ring") rfl))
    k_BROAD := kn_str (He.str_ok X G (c.fact 31 (f := .str "BROAD" "broad") rfl))
    k_DEEP := kn_str (He.str_ok X G (c.fact 32 (f := .str "DEEP" "deep") rfl))
    k_STRAIGHT := kn_str (He.str_ok X G (c.fact 33 (f := .str "STRAIGHT" "straight") rfl))
    k_MAX_PATIENCE := kn_int (He.int_ok X G (c.fact 34 (f := .int "MAX_PATIENCE" 99) rfl))
    k_SEE := kn_str (He.str_ok X G (c.fact 35 (f := .str "SEE" "see") rfl))
    k_CARD := kn_str (He.str_ok X G (c.fact 36 (f := .str "CARD" "card") rfl))
    k_ALSO := kn_str (He.str_ok X G (c.fact 37 (f := .str "ALSO" "also") rfl))
    k_DIGITS := kn_str (He.str_ok X G (c.fact 38 (f := .str "DIGITS" "0123456789") rfl))
    k_MOST_DIGITS := kn_int (He.int_ok X G (c.fact 39 (f := .int "MOST_DIGITS" 3) rfl))
    k_RULES := ⟨He.glo_ok X G (c.fact 40 (f := .glo "RULES") rfl), fun H => He.tupB_ok (exB 0 rfl) H⟩
    k_WAYS := ⟨He.glo_ok X G (c.fact 41 (f := .glo "WAYS") rfl), fun H => He.tupB_ok (exB 1 rfl) H⟩
    g_Card := He.glo_ok X G (c.fact 42 (f := .glo "Card") rfl)
    g_Drawer := He.glo_ok X G (c.fact 43 (f := .glo "Drawer") rfl)
    g_Reader := He.glo_ok X G (c.fact 44 (f := .glo "Reader") rfl)
    g_Walk := He.glo_ok X G (c.fact 45 (f := .glo "Walk") rfl)
    g_Gathering := He.glo_ok X G (c.fact 46 (f := .glo "Gathering") rfl)
    g_Row := He.glo_ok X G (c.fact 47 (f := .glo "Row") rfl)
    d_is_number := ⟨He.glo_ok X G (c.fact 48 (f := .glo "is_number") rfl), df (d := ⟨fun K => He.ga K "is_number", "is_number", "is_number", defArgs st_is_number, defBody st_is_number, defScope st_is_number, [], []⟩) c 0⟩
    d_is_word := ⟨He.glo_ok X G (c.fact 49 (f := .glo "is_word") rfl), df (d := ⟨fun K => He.ga K "is_word", "is_word", "is_word", defArgs st_is_word, defBody st_is_word, defScope st_is_word, [], []⟩) c 1⟩
    d_check_heading := ⟨He.glo_ok X G (c.fact 50 (f := .glo "check_heading") rfl), df (d := ⟨fun K => He.ga K "check_heading", "check_heading", "check_heading", defArgs st_check_heading, defBody st_check_heading, defScope st_check_heading, [], []⟩) c 2⟩
    d_check_number := ⟨He.glo_ok X G (c.fact 51 (f := .glo "check_number") rfl), df (d := ⟨fun K => He.ga K "check_number", "check_number", "check_number", defArgs st_check_number, defBody st_check_number, defScope st_check_number, [], []⟩) c 3⟩
    d_are_books := ⟨He.glo_ok X G (c.fact 52 (f := .glo "are_books") rfl), df (d := ⟨fun K => He.ga K "are_books", "are_books", "are_books", defArgs st_are_books, defBody st_are_books, defScope st_are_books, [], []⟩) c 4⟩
    d_are_others := ⟨He.glo_ok X G (c.fact 53 (f := .glo "are_others") rfl), df (d := ⟨fun K => He.ga K "are_others", "are_others", "are_others", defArgs st_are_others, defBody st_are_others, defScope st_are_others, [], []⟩) c 5⟩
    d_Card_init := let ⟨fd, F⟩ := df (d := ⟨fun K => He.ma K (He.ga K "Card") "__init__", "__init__", "Card.__init__", defArgs st_Card_init, defBody st_Card_init, defScope st_Card_init, [.adr (He.dflAt ("Card", some "__init__") 0), .str "", .adr (He.dflAt ("Card", some "__init__") 2)], []⟩) c 6; ⟨_, fd, _, He.mkr_ok (c.fact 54 (f := .mkr "Card") rfl), rfl, F⟩
    d_Card_heading := let ⟨fd, F⟩ := df (d := ⟨fun K => He5.wf K (He.ga K "Card") "property" "heading", "heading", "Card.heading", defArgs st_Card_heading, defBody st_Card_heading, defScope st_Card_heading, [], []⟩) c 7; let ⟨h1, h2, h3, h4⟩ := propB_ok (exB 2 rfl); ⟨_, _, fd, h1, h2, h3, h4, F⟩
    d_Card_books := let ⟨fd, F⟩ := df (d := ⟨fun K => He5.wf K (He.ga K "Card") "property" "books", "books", "Card.books", defArgs st_Card_books, defBody st_Card_books, defScope st_Card_books, [], []⟩) c 8; let ⟨h1, h2, h3, h4⟩ := propB_ok (exB 3 rfl); ⟨_, _, fd, h1, h2, h3, h4, F⟩
    d_Card_see := let ⟨fd, F⟩ := df (d := ⟨fun K => He5.wf K (He.ga K "Card") "property" "see", "see", "Card.see", defArgs st_Card_see, defBody st_Card_see, defScope st_Card_see, [], []⟩) c 9; let ⟨h1, h2, h3, h4⟩ := propB_ok (exB 4 rfl); ⟨_, _, fd, h1, h2, h3, h4, F⟩
    d_Card_also := let ⟨fd, F⟩ := df (d := ⟨fun K => He5.wf K (He.ga K "Card") "property" "also", "also", "Card.also", defArgs st_Card_also, defBody st_Card_also, defScope st_Card_also, [], []⟩) c 10; let ⟨h1, h2, h3, h4⟩ := propB_ok (exB 5 rfl); ⟨_, _, fd, h1, h2, h3, h4, F⟩
    d_Card_leads := let ⟨fd, F⟩ := df (d := ⟨fun K => He5.wf K (He.ga K "Card") "property" "leads", "leads", "Card.leads", defArgs st_Card_leads, defBody st_Card_leads, defScope st_Card_leads, [], []⟩) c 11; let ⟨h1, h2, h3, h4⟩ := propB_ok (exB 6 rfl); ⟨_, _, fd, h1, h2, h3, h4, F⟩
    d_Card_eq := let ⟨fd, F⟩ := df (d := ⟨fun K => He.ma K (He.ga K "Card") "__eq__", "__eq__", "Card.__eq__", defArgs st_Card_eq, defBody st_Card_eq, defScope st_Card_eq, [], []⟩) c 12; ⟨_, fd, He.meth_ok (c.fact 55 (f := .meth "Card" "__eq__") rfl), F⟩
    d_check_rule := ⟨He.glo_ok X G (c.fact 56 (f := .glo "check_rule") rfl), df (d := ⟨fun K => He.ga K "check_rule", "check_rule", "check_rule", defArgs st_check_rule, defBody st_check_rule, defScope st_check_rule, [], []⟩) c 13⟩
    d_by_halves := ⟨He.glo_ok X G (c.fact 57 (f := .glo "by_halves") rfl), df (d := ⟨fun K => He.ga K "by_halves", "by_halves", "by_halves", defArgs st_by_halves, defBody st_by_halves, defScope st_by_halves, [], []⟩) c 14⟩
    d_one_by_one := ⟨He.glo_ok X G (c.fact 58 (f := .glo "one_by_one") rfl), df (d := ⟨fun K => He.ga K "one_by_one", "one_by_one", "one_by_one", defArgs st_one_by_one, defBody st_one_by_one, defScope st_one_by_one, [], []⟩) c 15⟩
    d_looked_up := ⟨He.glo_ok X G (c.fact 59 (f := .glo "looked_up") rfl), df (d := ⟨fun K => He.ga K "looked_up", "looked_up", "looked_up", defArgs st_looked_up, defBody st_looked_up, defScope st_looked_up, [], []⟩) c 16⟩
    d_look_up := ⟨He.glo_ok X G (c.fact 60 (f := .glo "look_up") rfl), df (d := ⟨fun K => He.ga K "look_up", "look_up", "look_up", defArgs st_look_up, defBody st_look_up, defScope st_look_up, [], []⟩) c 17⟩
    d_never_found := ⟨He.glo_ok X G (c.fact 61 (f := .glo "never_found") rfl), df (d := ⟨fun K => He.ga K "never_found", "never_found", "never_found", defArgs st_never_found, defBody st_never_found, defScope st_never_found, [], []⟩) c 18⟩
    d_Drawer_init := let ⟨fd, F⟩ := df (d := ⟨fun K => He.ma K (He.ga K "Drawer") "__init__", "__init__", "Drawer.__init__", defArgs st_Drawer_init, defBody st_Drawer_init, defScope st_Drawer_init, [], []⟩) c 19; ⟨_, fd, _, He.mkr_ok (c.fact 62 (f := .mkr "Drawer") rfl), rfl, F⟩
    d_Drawer_cards := let ⟨fd, F⟩ := df (d := ⟨fun K => He5.wf K (He.ga K "Drawer") "property" "cards", "cards", "Drawer.cards", defArgs st_Drawer_cards, defBody st_Drawer_cards, defScope st_Drawer_cards, [], []⟩) c 20; let ⟨h1, h2, h3, h4⟩ := propB_ok (exB 7 rfl); ⟨_, _, fd, h1, h2, h3, h4, F⟩
    d_Drawer_headings := let ⟨fd, F⟩ := df (d := ⟨fun K => He5.wf K (He.ga K "Drawer") "property" "headings", "headings", "Drawer.headings", defArgs st_Drawer_headings, defBody st_Drawer_headings, defScope st_Drawer_headings, [], []⟩) c 21; let ⟨h1, h2, h3, h4⟩ := propB_ok (exB 8 rfl); ⟨_, _, fd, h1, h2, h3, h4, F⟩
    d_Drawer_len := let ⟨fd, F⟩ := df (d := ⟨fun K => He.ma K (He.ga K "Drawer") "__len__", "__len__", "Drawer.__len__", defArgs st_Drawer_len, defBody st_Drawer_len, defScope st_Drawer_len, [], []⟩) c 22; ⟨_, fd, He.meth_ok (c.fact 63 (f := .meth "Drawer" "__len__") rfl), F⟩
    d_Drawer_check_place := let ⟨fd, F⟩ := df (d := ⟨fun K => He.ma K (He.ga K "Drawer") "check_place", "check_place", "Drawer.check_place", defArgs st_Drawer_check_place, defBody st_Drawer_check_place, defScope st_Drawer_check_place, [], []⟩) c 23; ⟨_, fd, He.meth_ok (c.fact 64 (f := .meth "Drawer" "check_place") rfl), F⟩
    d_Drawer_eq := let ⟨fd, F⟩ := df (d := ⟨fun K => He.ma K (He.ga K "Drawer") "__eq__", "__eq__", "Drawer.__eq__", defArgs st_Drawer_eq, defBody st_Drawer_eq, defScope st_Drawer_eq, [], []⟩) c 24; ⟨_, fd, He.meth_ok (c.fact 65 (f := .meth "Drawer" "__eq__") rfl), F⟩
    d_Drawer_without := let ⟨fd, F⟩ := df (d := ⟨fun K => He.ma K (He.ga K "Drawer") "without", "without", "Drawer.without", defArgs st_Drawer_without, defBody st_Drawer_without, defScope st_Drawer_without, [], []⟩) c 25; ⟨_, fd, He.meth_ok (c.fact 66 (f := .meth "Drawer" "without") rfl), F⟩
    d_filed := ⟨He.glo_ok X G (c.fact 67 (f := .glo "filed") rfl), df (d := ⟨fun K => He.ga K "filed", "filed", "filed", defArgs st_filed, defBody st_filed, defScope st_filed, [], []⟩) c 26⟩
    d_is_filed := ⟨He.glo_ok X G (c.fact 68 (f := .glo "is_filed") rfl), df (d := ⟨fun K => He.ga K "is_filed", "is_filed", "is_filed", defArgs st_is_filed, defBody st_is_filed, defScope st_is_filed, [], []⟩) c 27⟩
    d_known_headings := ⟨He.glo_ok X G (c.fact 69 (f := .glo "known_headings") rfl), df (d := ⟨fun K => He.ga K "known_headings", "known_headings", "known_headings", defArgs st_known_headings, defBody st_known_headings, defScope st_known_headings, [], []⟩) c 28⟩
    d_checksum := ⟨He.glo_ok X G (c.fact 70 (f := .glo "checksum") rfl), df (d := ⟨fun K => He.ga K "checksum", "checksum", "checksum", defArgs st_checksum, defBody st_checksum, defScope st_checksum, [], []⟩) c 29⟩
    d_word_items := ⟨He.glo_ok X G (c.fact 71 (f := .glo "word_items") rfl), df (d := ⟨fun K => He.ga K "word_items", "word_items", "word_items", defArgs st_word_items, defBody st_word_items, defScope st_word_items, [], []⟩) c 30⟩
    d_card_items := ⟨He.glo_ok X G (c.fact 72 (f := .glo "card_items") rfl), df (d := ⟨fun K => He.ga K "card_items", "card_items", "card_items", defArgs st_card_items, defBody st_card_items, defScope st_card_items, [], []⟩) c 31⟩
    d_encode_drawer := ⟨He.glo_ok X G (c.fact 73 (f := .glo "encode_drawer") rfl), df (d := ⟨fun K => He.ga K "encode_drawer", "encode_drawer", "encode_drawer", defArgs st_encode_drawer, defBody st_encode_drawer, defScope st_encode_drawer, [], []⟩) c 32⟩
    d_Reader_init := let ⟨fd, F⟩ := df (d := ⟨fun K => He.ma K (He.ga K "Reader") "__init__", "__init__", "Reader.__init__", defArgs st_Reader_init, defBody st_Reader_init, defScope st_Reader_init, [], []⟩) c 33; ⟨_, fd, _, He.mkr_ok (c.fact 74 (f := .mkr "Reader") rfl), rfl, F⟩
    d_Reader_item := let ⟨fd, F⟩ := df (d := ⟨fun K => He.ma K (He.ga K "Reader") "item", "item", "Reader.item", defArgs st_Reader_item, defBody st_Reader_item, defScope st_Reader_item, [], []⟩) c 34; ⟨_, fd, He.meth_ok (c.fact 75 (f := .meth "Reader" "item") rfl), F⟩
    d_Reader_read_word := let ⟨fd, F⟩ := df (d := ⟨fun K => He.ma K (He.ga K "Reader") "read_word", "read_word", "Reader.read_word", defArgs st_Reader_read_word, defBody st_Reader_read_word, defScope st_Reader_read_word, [], []⟩) c 35; ⟨_, fd, He.meth_ok (c.fact 76 (f := .meth "Reader" "read_word") rfl), F⟩
    d_Reader_read_book := let ⟨fd, F⟩ := df (d := ⟨fun K => He.ma K (He.ga K "Reader") "read_book", "read_book", "Reader.read_book", defArgs st_Reader_read_book, defBody st_Reader_read_book, defScope st_Reader_read_book, [], []⟩) c 36; ⟨_, fd, He.meth_ok (c.fact 77 (f := .meth "Reader" "read_book") rfl), F⟩
    d_Reader_read_card := let ⟨fd, F⟩ := df (d := ⟨fun K => He.ma K (He.ga K "Reader") "read_card", "read_card", "Reader.read_card", defArgs st_Reader_read_card, defBody st_Reader_read_card, defScope st_Reader_read_card, [], []⟩) c 37; ⟨_, fd, He.meth_ok (c.fact 78 (f := .meth "Reader" "read_card") rfl), F⟩
    d_Reader_finish := let ⟨fd, F⟩ := df (d := ⟨fun K => He.ma K (He.ga K "Reader") "finish", "finish", "Reader.finish", defArgs st_Reader_finish, defBody st_Reader_finish, defScope st_Reader_finish, [], []⟩) c 38; ⟨_, fd, He.meth_ok (c.fact 79 (f := .meth "Reader" "finish") rfl), F⟩
    d_decode_drawer := ⟨He.glo_ok X G (c.fact 80 (f := .glo "decode_drawer") rfl), df (d := ⟨fun K => He.ga K "decode_drawer", "decode_drawer", "decode_drawer", defArgs st_decode_drawer, defBody st_decode_drawer, defScope st_decode_drawer, [], []⟩) c 39⟩
    d_choices := ⟨He.glo_ok X G (c.fact 81 (f := .glo "choices") rfl), df (d := ⟨fun K => He.ga K "choices", "choices", "choices", defArgs st_choices, defBody st_choices, defScope st_choices, [], []⟩) c 40⟩
    d_out_of_order := ⟨He.glo_ok X G (c.fact 82 (f := .glo "out_of_order") rfl), df (d := ⟨fun K => He.ga K "out_of_order", "out_of_order", "out_of_order", defArgs st_out_of_order, defBody st_out_of_order, defScope st_out_of_order, [], []⟩) c 41⟩
    d_Walk_init := let ⟨fd, F⟩ := df (d := ⟨fun K => He.ma K (He.ga K "Walk") "__init__", "__init__", "Walk.__init__", defArgs st_Walk_init, defBody st_Walk_init, defScope st_Walk_init, [], []⟩) c 42; ⟨_, fd, _, He.mkr_ok (c.fact 83 (f := .mkr "Walk") rfl), rfl, F⟩
    d_Walk_go_on := let ⟨fd, F⟩ := df (d := ⟨fun K => He.ma K (He.ga K "Walk") "go_on", "go_on", "Walk.go_on", defArgs st_Walk_go_on, defBody st_Walk_go_on, defScope st_Walk_go_on, [], []⟩) c 43; ⟨_, fd, He.meth_ok (c.fact 84 (f := .meth "Walk" "go_on") rfl), F⟩
    d_Walk_landing := let ⟨fd, F⟩ := df (d := ⟨fun K => He.ma K (He.ga K "Walk") "landing", "landing", "Walk.landing", defArgs st_Walk_landing, defBody st_Walk_landing, defScope st_Walk_landing, [], []⟩) c 44; ⟨_, fd, He.meth_ok (c.fact 85 (f := .meth "Walk" "landing") rfl), F⟩
    d_walk := ⟨He.glo_ok X G (c.fact 86 (f := .glo "walk") rfl), df (d := ⟨fun K => He.ga K "walk", "walk", "walk", defArgs st_walk, defBody st_walk, defScope st_walk, [], []⟩) c 45⟩
    d_looks := ⟨He.glo_ok X G (c.fact 87 (f := .glo "looks") rfl), df (d := ⟨fun K => He.ga K "looks", "looks", "looks", defArgs st_looks, defBody st_looks, defScope st_looks, [], []⟩) c 46⟩
    d_Gathering_init := let ⟨fd, F⟩ := df (d := ⟨fun K => He.ma K (He.ga K "Gathering") "__init__", "__init__", "Gathering.__init__", defArgs st_Gathering_init, defBody st_Gathering_init, defScope st_Gathering_init, [], []⟩) c 47; ⟨_, fd, _, He.mkr_ok (c.fact 88 (f := .mkr "Gathering") rfl), rfl, F⟩
    d_Gathering_go_on := let ⟨fd, F⟩ := df (d := ⟨fun K => He.ma K (He.ga K "Gathering") "go_on", "go_on", "Gathering.go_on", defArgs st_Gathering_go_on, defBody st_Gathering_go_on, defScope st_Gathering_go_on, [], []⟩) c 48; ⟨_, fd, He.meth_ok (c.fact 89 (f := .meth "Gathering" "go_on") rfl), F⟩
    d_Gathering_visit := let ⟨fd, F⟩ := df (d := ⟨fun K => He.ma K (He.ga K "Gathering") "visit", "visit", "Gathering.visit", defArgs st_Gathering_visit, defBody st_Gathering_visit, defScope st_Gathering_visit, [], []⟩) c 49; ⟨_, fd, He.meth_ok (c.fact 90 (f := .meth "Gathering" "visit") rfl), F⟩
    d_check_way := ⟨He.glo_ok X G (c.fact 91 (f := .glo "check_way") rfl), df (d := ⟨fun K => He.ga K "check_way", "check_way", "check_way", defArgs st_check_way, defBody st_check_way, defScope st_check_way, [], []⟩) c 50⟩
    d_gather := ⟨He.glo_ok X G (c.fact 92 (f := .glo "gather") rfl), df (d := ⟨fun K => He.ga K "gather", "gather", "gather", defArgs st_gather, defBody st_gather, defScope st_gather, [], []⟩) c 51⟩
    d_reached := ⟨He.glo_ok X G (c.fact 93 (f := .glo "reached") rfl), df (d := ⟨fun K => He.ga K "reached", "reached", "reached", defArgs st_reached, defBody st_reached, defScope st_reached, [], []⟩) c 52⟩
    d_reach := ⟨He.glo_ok X G (c.fact 94 (f := .glo "reach") rfl), df (d := ⟨fun K => He.ga K "reach", "reach", "reach", defArgs st_reach, defBody st_reach, defScope st_reach, [], []⟩) c 53⟩
    d_card_words := ⟨He.glo_ok X G (c.fact 95 (f := .glo "card_words") rfl), df (d := ⟨fun K => He.ga K "card_words", "card_words", "card_words", defArgs st_card_words, defBody st_card_words, defScope st_card_words, [], []⟩) c 54⟩
    d_format_drawer := ⟨He.glo_ok X G (c.fact 96 (f := .glo "format_drawer") rfl), df (d := ⟨fun K => He.ga K "format_drawer", "format_drawer", "format_drawer", defArgs st_format_drawer, defBody st_format_drawer, defScope st_format_drawer, [], []⟩) c 55⟩
    d_is_book := ⟨He.glo_ok X G (c.fact 97 (f := .glo "is_book") rfl), df (d := ⟨fun K => He.ga K "is_book", "is_book", "is_book", defArgs st_is_book, defBody st_is_book, defScope st_is_book, [], []⟩) c 56⟩
    d_Row_init := let ⟨fd, F⟩ := df (d := ⟨fun K => He.ma K (He.ga K "Row") "__init__", "__init__", "Row.__init__", defArgs st_Row_init, defBody st_Row_init, defScope st_Row_init, [], []⟩) c 57; ⟨_, fd, _, He.mkr_ok (c.fact 98 (f := .mkr "Row") rfl), rfl, F⟩
    d_Row_has_more := let ⟨fd, F⟩ := df (d := ⟨fun K => He.ma K (He.ga K "Row") "has_more", "has_more", "Row.has_more", defArgs st_Row_has_more, defBody st_Row_has_more, defScope st_Row_has_more, [], []⟩) c 58; ⟨_, fd, He.meth_ok (c.fact 99 (f := .meth "Row" "has_more") rfl), F⟩
    d_Row_next_part := let ⟨fd, F⟩ := df (d := ⟨fun K => He.ma K (He.ga K "Row") "next_part", "next_part", "Row.next_part", defArgs st_Row_next_part, defBody st_Row_next_part, defScope st_Row_next_part, [], []⟩) c 59; ⟨_, fd, He.meth_ok (c.fact 100 (f := .meth "Row" "next_part") rfl), F⟩
    d_Row_read_books := let ⟨fd, F⟩ := df (d := ⟨fun K => He.ma K (He.ga K "Row") "read_books", "read_books", "Row.read_books", defArgs st_Row_read_books, defBody st_Row_read_books, defScope st_Row_read_books, [], []⟩) c 60; ⟨_, fd, He.meth_ok (c.fact 101 (f := .meth "Row" "read_books") rfl), F⟩
    d_Row_read_also := let ⟨fd, F⟩ := df (d := ⟨fun K => He.ma K (He.ga K "Row") "read_also", "read_also", "Row.read_also", defArgs st_Row_read_also, defBody st_Row_read_also, defScope st_Row_read_also, [], []⟩) c 61; ⟨_, fd, He.meth_ok (c.fact 102 (f := .meth "Row" "read_also") rfl), F⟩
    d_Row_read_card := let ⟨fd, F⟩ := df (d := ⟨fun K => He.ma K (He.ga K "Row") "read_card", "read_card", "Row.read_card", defArgs st_Row_read_card, defBody st_Row_read_card, defScope st_Row_read_card, [], []⟩) c 62; ⟨_, fd, He.meth_ok (c.fact 103 (f := .meth "Row" "read_card") rfl), F⟩
    d_made_card := ⟨He.glo_ok X G (c.fact 104 (f := .glo "made_card") rfl), df (d := ⟨fun K => He.ga K "made_card", "made_card", "made_card", defArgs st_made_card, defBody st_made_card, defScope st_made_card, [], []⟩) c 63⟩
    d_parse_drawer := ⟨He.glo_ok X G (c.fact 105 (f := .glo "parse_drawer") rfl), df (d := ⟨fun K => He.ga K "parse_drawer", "parse_drawer", "parse_drawer", defArgs st_parse_drawer, defBody st_parse_drawer, defScope st_parse_drawer, [], []⟩) c 64⟩
    d_table := ⟨He.glo_ok X G (c.fact 106 (f := .glo "table") rfl), df (d := ⟨fun K => He.ga K "table", "table", "table", defArgs st_table, defBody st_table, defScope st_table, [], []⟩) c 65⟩
    d_sign_of := ⟨He.glo_ok X G (c.fact 107 (f := .glo "sign_of") rfl), df (d := ⟨fun K => He.ga K "sign_of", "sign_of", "sign_of", defArgs st_sign_of, defBody st_sign_of, defScope st_sign_of, [], []⟩) c 66⟩
    d_strip := ⟨He.glo_ok X G (c.fact 108 (f := .glo "strip") rfl), df (d := ⟨fun K => He.ga K "strip", "strip", "strip", defArgs st_strip, defBody st_strip, defScope st_strip, [], []⟩) c 67⟩
    d_law_taken := ⟨He.glo_ok X G (c.fact 109 (f := .glo "_law_taken") rfl), df (d := ⟨fun K => He.ga K "_law_taken", "_law_taken", "_law_taken", defArgs st_law_taken, defBody st_law_taken, defScope st_law_taken, [], []⟩) c 68⟩
    d_law_pick := ⟨He.glo_ok X G (c.fact 110 (f := .glo "_law_pick") rfl), df (d := ⟨fun K => He.ga K "_law_pick", "_law_pick", "_law_pick", defArgs st_law_pick, defBody st_law_pick, defScope st_law_pick, [], []⟩) c 69⟩
    d_law_mixed := ⟨He.glo_ok X G (c.fact 111 (f := .glo "_law_mixed") rfl), df (d := ⟨fun K => He.ga K "_law_mixed", "_law_mixed", "_law_mixed", defArgs st_law_mixed, defBody st_law_mixed, defScope st_law_mixed, [], []⟩) c 70⟩
    d_law_drawer := ⟨He.glo_ok X G (c.fact 112 (f := .glo "_law_drawer") rfl), df (d := ⟨fun K => He.ga K "_law_drawer", "_law_drawer", "_law_drawer", defArgs st_law_drawer, defBody st_law_drawer, defScope st_law_drawer, [], []⟩) c 71⟩
    d_law_looked := ⟨He.glo_ok X G (c.fact 113 (f := .glo "_law_looked") rfl), df (d := ⟨fun K => He.ga K "_law_looked", "_law_looked", "_law_looked", defArgs st_law_looked, defBody st_law_looked, defScope st_law_looked, [], []⟩) c 72⟩
    d_law_walked := ⟨He.glo_ok X G (c.fact 114 (f := .glo "_law_walked") rfl), df (d := ⟨fun K => He.ga K "_law_walked", "_law_walked", "_law_walked", defArgs st_law_walked, defBody st_law_walked, defScope st_law_walked, [], []⟩) c 73⟩
    d_law_landing := ⟨He.glo_ok X G (c.fact 115 (f := .glo "_law_landing") rfl), df (d := ⟨fun K => He.ga K "_law_landing", "_law_landing", "_law_landing", defArgs st_law_landing, defBody st_law_landing, defScope st_law_landing, [], []⟩) c 74⟩
    d_law_known := ⟨He.glo_ok X G (c.fact 116 (f := .glo "_law_known") rfl), df (d := ⟨fun K => He.ga K "_law_known", "_law_known", "_law_known", defArgs st_law_known, defBody st_law_known, defScope st_law_known, [], []⟩) c 75⟩
    d_law_headings := ⟨He.glo_ok X G (c.fact 117 (f := .glo "_law_headings") rfl), df (d := ⟨fun K => He.ga K "_law_headings", "_law_headings", "_law_headings", defArgs st_law_headings, defBody st_law_headings, defScope st_law_headings, [], []⟩) c 76⟩
    d_law_gathered := ⟨He.glo_ok X G (c.fact 118 (f := .glo "_law_gathered") rfl), df (d := ⟨fun K => He.ga K "_law_gathered", "_law_gathered", "_law_gathered", defArgs st_law_gathered, defBody st_law_gathered, defScope st_law_gathered, [], []⟩) c 77⟩
    d_law_reach := ⟨He.glo_ok X G (c.fact 119 (f := .glo "_law_reach") rfl), df (d := ⟨fun K => He.ga K "_law_reach", "_law_reach", "_law_reach", defArgs st_law_reach, defBody st_law_reach, defScope st_law_reach, [], []⟩) c 78⟩
    d_law_great := ⟨He.glo_ok X G (c.fact 120 (f := .glo "_law_great") rfl), df (d := ⟨fun K => He.ga K "_law_great", "_law_great", "_law_great", defArgs st_law_great, defBody st_law_great, defScope st_law_great, [], []⟩) c 79⟩
    d_law_rising := ⟨He.glo_ok X G (c.fact 121 (f := .glo "_law_rising") rfl), df (d := ⟨fun K => He.ga K "_law_rising", "_law_rising", "_law_rising", defArgs st_law_rising, defBody st_law_rising, defScope st_law_rising, [], []⟩) c 80⟩
    d_law := ⟨He.glo_ok X G (c.fact 122 (f := .glo "law") rfl), df (d := ⟨fun K => He.ga K "law", "law", "law", defArgs st_law, defBody st_law, defScope st_law, [], []⟩) c 81⟩
    c_Reader := He.cls_ok (c.fact 123 (f := .cls "Reader") rfl)
    a_Reader_data := He.noat_ok (c.fact 124 (f := .noat "Reader" "data") rfl)
    a_Reader_spot := He.noat_ok (c.fact 125 (f := .noat "Reader" "spot") rfl)
    c_Walk := He.cls_ok (c.fact 126 (f := .cls "Walk") rfl)
    a_Walk_word := He.noat_ok (c.fact 127 (f := .noat "Walk" "word") rfl)
    a_Walk_steps := He.noat_ok (c.fact 128 (f := .noat "Walk" "steps") rfl)
    a_Walk_sought := He.noat_ok (c.fact 129 (f := .noat "Walk" "sought") rfl)
    a_Walk_effort := He.noat_ok (c.fact 130 (f := .noat "Walk" "effort") rfl)
    c_Gathering := He.cls_ok (c.fact 131 (f := .cls "Gathering") rfl)
    a_Gathering_drawer := He.noat_ok (c.fact 132 (f := .noat "Gathering" "drawer") rfl)
    a_Gathering_rule := He.noat_ok (c.fact 133 (f := .noat "Gathering" "rule") rfl)
    a_Gathering_way := He.noat_ok (c.fact 134 (f := .noat "Gathering" "way") rfl)
    a_Gathering_agenda := He.noat_ok (c.fact 135 (f := .noat "Gathering" "agenda") rfl)
    a_Gathering_walked := He.noat_ok (c.fact 136 (f := .noat "Gathering" "walked") rfl)
    a_Gathering_visited := He.noat_ok (c.fact 137 (f := .noat "Gathering" "visited") rfl)
    a_Gathering_gathered := He.noat_ok (c.fact 138 (f := .noat "Gathering" "gathered") rfl)
    c_Row := He.cls_ok (c.fact 139 (f := .cls "Row") rfl)
    a_Row_number := He.noat_ok (c.fact 140 (f := .noat "Row" "number") rfl)
    a_Row_parts := He.noat_ok (c.fact 141 (f := .noat "Row" "parts") rfl)
    a_Row_spot := He.noat_ok (c.fact 142 (f := .noat "Row" "spot") rfl)
    s_Card := sclB_ok (exB 9 rfl)
    i_Card := sisB_ok (exB 10 rfl)
    t_Card := ⟨_, slotB_ok (exB 11 rfl)⟩
    s_Drawer := sclB_ok (exB 12 rfl)
    i_Drawer := sisB_ok (exB 13 rfl)
    t_Drawer := ⟨_, slotB_ok (exB 14 rfl)⟩
    o_Card := of_decide_eq_true (exB 15 rfl)
    o_Drawer := of_decide_eq_true (exB 16 rfl)
    ne_Drawer := He.eqO_ok (exB 17 rfl)
  }
/-! the hook -/
/-- what an object names, as far as is looked at -/
def kidsH (o : Obj) : List Addr := match o.data with
  | .func fd => He.refV fd.code ++ He.refV fd.defaults
  | .cls cd => [cd.ns]
  | .dict es _ => es.toList.flatMap fun e => He.refV e.val
  | .seq its _ => its.toList.flatMap He.refV
  | .fields vs => (match o.cls with
    | .type c => (match decide (c = "property") with
      | true => vs.toList.flatMap He.refV
      | false => [])
    | _ => [])
  | _ => []
def reachH (g : Addr → Option Obj) : Nat → List Addr → List Addr
  | 0, fr => fr
  | n + 1, fr => fr ++ reachH g n (fr.flatMap fun a => match g a with
    | some o => kidsH o
    | none => [])
def asH (g : Addr → Option Obj) (n : Nat) : List Addr := reachH g n [mainGlobals] ++ [cStatics]
/-- what is no list -/
def notL : Obj → Bool
  | ⟨.type c, _, _, _⟩ => !decide (c = "list")
  | _ => true
def frL (g : Addr → Option Obj) (as : List Addr) : PySem.W.Frag := (He.frT g as).filter fun q => notL q.2
theorem frL_mem {g : Addr → Option Obj} {as : List Addr} {a : Addr} {o : Obj} (h : (frL g as).lookup a = some o) : g a = some o ∧ He.emptyTab o = false ∧ notL o = true := by
  obtain ⟨h1, h2⟩ := List.mem_filter.mp (He.lookup_mem h)
  obtain ⟨h3, h4⟩ := List.mem_filter.mp h1
  refine ⟨He.frG_mem h3, ?_, h2⟩
  cases q : He.emptyTab o with
  | false => rfl
  | true =>
    have h5 : (!He.emptyTab o) = true := h4
    rw [q] at h5
    cases h5
theorem frL_in {as : List Addr} {h : Heap} : (frL h.get? as).In h := fun _ _ e => (frL_mem e).1
theorem frL_none {g : Addr → Option Obj} {as : List Addr} {a : Addr} {o : Obj} (h : g a = some o) (ht : He.emptyTab o = true) : (frL g as).lookup a = none := by
  cases e : (frL g as).lookup a with
  | none => rfl
  | some u =>
    obtain ⟨h1, h2, _⟩ := frL_mem e
    rw [h] at h1
    rw [← Option.some.inj h1, ht] at h2
    cases h2
section
variable (fa : List He.Fa) (fn : List He5.DefA) (ex : PySem.W.Frag → List Bool) (tf : List He.Defn)
def ndB (K : PySem.W.Frag) : Bool := decide ((tf.map fun p => (He.cT K p).2).Nodup)
def obsK (g : Addr → Option Obj) (K : PySem.W.Frag) : He.AlD × Bool := (He5.obsA fa fn K, (ex K).all id && (He.tabsB g tf K && ndB tf K))
def obsH (n : Nat) (g : Addr → Option Obj) : He.AlD × Bool := obsK fa fn ex tf g (frL g (asH g n))
structure SaysH (h : Heap) (K : PySem.W.Frag) : Prop where
  t : He5.SaysA fa fn K
  ex : (ex K).all id = true
  nd : (tf.map fun p => (He.cT K p).2).Nodup
  hd : ∀ p ∈ tf, PySem.W.codeHdIn K (He.cT K p).1 (He.cT K p).2 = true
  out : ∀ p ∈ tf, K.lookup (He.cT K p).2 = none
  empty : ∀ p ∈ tf, h.get? (He.cT K p).2 = some { cls := .none, data := .fields #[] }
  nl : ∀ a o, K.lookup a = some o → notL o = true
theorem saysH_of {n : Nat} {h : Heap} (e : obsH fa fn ex tf n h.get? = (He5.valA fn, true)) : SaysH fa fn ex tf h (frL h.get? (asH h.get? n)) := by
  unfold obsH at e
  generalize hK : frL h.get? (asH h.get? n) = K at e
  have e1 : He5.obsA fa fn K = He5.valA fn := congrArg (fun z : He.AlD × Bool => z.1) e
  have e2 : ((ex K).all id && (He.tabsB h.get? tf K && ndB tf K)) = true := congrArg (fun z : He.AlD × Bool => z.2) e
  obtain ⟨h1, h2⟩ := He.ba e2
  obtain ⟨h2, h3⟩ := He.ba h2
  have key : ∀ p ∈ tf, PySem.W.codeHdIn K (He.cT K p).1 (He.cT K p).2 = true ∧ ∃ o, h.get? (He.cT K p).2 = some o ∧ He.emptyTab o = true := fun p hp => by
    obtain ⟨h4, h5⟩ := He.ba (List.all_eq_true.mp h2 p hp)
    refine ⟨h4, ?_⟩
    cases q : h.get? (He.cT K p).2 with
    | none =>
      rw [q] at h5
      cases h5
    | some o =>
      rw [q] at h5
      exact ⟨o, rfl, h5⟩
  refine ⟨e1, h1, of_decide_eq_true h3, fun p hp => (key p hp).1, fun p hp => ?_, fun p hp => ?_, fun a o e => ?_⟩
  · obtain ⟨_, o, q, z⟩ := key p hp
    rw [← hK] at q ⊢
    exact frL_none q z
  · obtain ⟨_, o, q, z⟩ := key p hp
    rw [q, He.emptyTab_eq z]
  · rw [← hK] at e
    exact (frL_mem e).2.2
def hookH (n : Nat) : PySem.W.Hook where
  α := He.AlD × Bool
  obs := fun s => obsH fa fn ex tf n s.heap.get?
  val := fun _ => (He5.valA fn, true)
  says := fun _ h => ∃ K : PySem.W.Frag, K.In h ∧ SaysH fa fn ex tf h K
  of := fun _ _ e => ⟨_, frL_in, saysH_of fa fn ex tf e⟩
  keeps := fun _ _ _ ⟨K, hK, c⟩ k => ⟨K, PySem.W.Frag.In.keeps hK k, c.t, c.ex, c.nd, c.hd, c.out, (fun p hp => k _ _ (c.empty p hp)), c.nl⟩
theorem obsH_eq (n : Nat) (s : PySem.W.SharedT) : obsH fa fn ex tf n (HandSHeadRun.getT s) = (hookH fa fn ex tf n).obs s.abs := by
  have e : HandSHeadRun.getT s = s.abs.heap.get? := funext (HandSHeadRun.getT_eq s)
  show obsH fa fn ex tf n (HandSHeadRun.getT s) = obsH fa fn ex tf n s.abs.heap.get?
  rw [e]
end
def hTf : List He.Defn := [("_law_great", none), ("filed", none), ("Row", some "read_books"), ("Row", some "read_also"), ("Row", some "read_card")]
abbrev hk : PySem.W.Hook := hookH hFa hFn hEx hTf 5
def hOb (s : PySem.W.SharedT) : He.AlD × Bool := obsH hFa hFn hEx hTf 5 (HandSHeadRun.getT s)
theorem hOb_eq (s : PySem.W.SharedT) : hOb s = hk.obs s.abs := obsH_eq hFa hFn hEx hTf 5 s
/-! the run's equation -/
abbrev hR : PySem.W.OpenRow := PySem.W.OpenLaw.row PySem.Challenge.rw_seerings_k72_whole_sixteen_cards
def hNames0 : List Str := ["_wall", "__name__", "SeeError", "InvalidCard", "InvalidDrawer", "UnknownPlace", "InvalidRule", "InvalidHeading", "InvalidWay", "InvalidNumber", "InvalidText", "DecodeError", "LETTERS", "MAX_LETTERS", "MAX_BOOKS", "MAX_BOOK", "MAX_ALSO", "is_number", "is_word", "check_heading", "check_number", "are_books", "are_others", "Card", "ALL", "HALF", "LEAF", "RULES", "check_rule", "by_halves", "one_by_one", "looked_up"]
def hNames1 : List Str := ["look_up", "never_found", "MAX_CARDS", "Drawer", "filed", "is_filed", "known_headings", "FIRST", "BASE", "CHECK_START", "CHECK_TIMES", "CHECK_REST", "checksum", "word_items", "card_items", "encode_drawer", "Reader", "decode_drawer", "choices", "out_of_order", "ENTRY", "LOST", "RING", "Walk", "walk", "looks", "BROAD", "DEEP", "STRAIGHT", "WAYS", "MAX_PATIENCE", "Gathering"]
def hNames2 : List Str := ["check_way", "gather", "reached", "reach", "SEE", "CARD", "ALSO", "DIGITS", "MOST_DIGITS", "card_words", "format_drawer", "is_book", "Row", "made_card", "parse_drawer", "table", "sign_of", "strip", "_law_taken", "_law_pick", "_law_mixed", "_law_drawer", "_law_looked", "_law_walked", "_law_landing", "_law_known", "_law_headings", "_law_gathered", "_law_reach", "_law_great", "_law_rising"]
def hNames : List Str := hNames0 ++ (hNames1 ++ hNames2)
end Sx
end
section
/-! the top's run -/
set_option maxRecDepth 100000
set_option maxHeartbeats 1000000
namespace Sx
open PySem PySem.Spec PyProof.Rows L2 LamX NdefX
noncomputable def hEnd (w : World) (os : OsState) : Option PySem.W.SharedT := HandSHeadRun.endF (HandSHeadRun.stepQ (HandSHeadRun.denQ HandSHeadRun.tabQ) hR.prog w) 20000 hR.prog w os
noncomputable abbrev hSee (w : World) (s : PySem.W.SharedT) := (HandSHeadRun.looksF hR.prog (PySem.W.boot_heap w.params) s.abs, HandSHeadRun.seenQ (PySem.W.view hR.prog [105]) hNames (importedModules hR.prog.main.body) (fun s => PySem.W.xlAt (PySem.W.view hR.prog [105]) [] s && PySem.W.recOk hR.toRowW.records s) s.abs)
theorem hRunA (w : World) (os : OsState) : (hEnd w os).map (hSee w) = some (true, PySem.W.openGood (PySem.W.view hR.prog [105]) hNames) := by
  kernel_rfl
theorem hRunB (w : World) (os : OsState) : (hEnd w os).map hOb = some (hk.val w) := by
  kernel_rfl
theorem two_of {α β γ : Type} {o : Option α} {f : α → β} {g : α → γ} {x : β} {y : γ} (h1 : o.map f = some x) (h2 : o.map g = some y) : ∃ s, o = some s ∧ f s = x ∧ g s = y := by
  obtain ⟨s, hs, e⟩ := Option.map_eq_some_iff.mp h1
  subst hs
  exact ⟨s, rfl, e, Option.some.inj h2⟩
theorem hRun (w : World) : HandSHeadRun.RunEq hR (PySem.W.view hR.prog [105]) hk hOb 20000 hNames w := by
  intro os
  obtain ⟨s, hs, h1, h2⟩ := two_of (hRunA w os) (hRunB w os)
  have hs : HandSHeadRun.endF (HandSHeadRun.stepQ (HandSHeadRun.denQ HandSHeadRun.tabQ) hR.prog w) 20000 hR.prog w os = some s := hs
  rw [hs]
  obtain ⟨e1, e2⟩ := Prod.mk.inj h1
  show some (_, _, _) = some _
  rw [e1, e2, h2]
end Sx
end
section
set_option maxRecDepth 100000
set_option maxHeartbeats 1000000
namespace Sx
open PySem PySem.Spec PyProof.Rows L2
section
variable {P : Program} {w : World} {c : Cs} {mg : Str → Option Value} {base : Heap} {k : Nat} {x qual : Str} {params : Arguments} {body : List Stmt} {scope : Scope} {f : Addr} {fd : FuncData} {ps N : List Str} {dvs : List V} {sp : Sp}
/-- how the parameters bind when all are given -/
def BindsAll (x qual : Str) (params : Arguments) (body : List Stmt) (scope : Scope) (ps : List Str) : Prop :=
  ∀ (dV kV doc pm : Value) (an : Option Addr) (cdv ct : Value) (us : List Value), us.length = ps.length → bindArgs (PySem.W.fnOf x qual params body scope dV kV doc pm an cdv ct) ⟨us, []⟩ = pure (ps.zip us)
theorem fnR_of (F : FunD c.K x qual params body scope dvs [] f fd) (S : FnScope N ps scope)
    (hb : ∀ (kV doc pm : Value) (an : Option Addr) (cdv ct : Value) (us : List Value), us.length = ps.length → bindArgs (PySem.W.fnOf x qual params body scope .none kV doc pm an cdv ct) ⟨us, []⟩ = pure (ps.zip us)) (hd : dvs = [])
    (len : ∀ vs H Q E, sp vs H Q E → vs.length = ps.length)
    (h : ∀ (cdv : Value) (A : Around) (outer : List Env) (s : Shared) (H : Hp) (vs : List V) (Q : VK) (E : XK), Room k (A.deeper (envOfC qual scope s.heap.objs.size f cdv)) → sp vs H Q E →
      WB (cxOf CX0 P w c.K mg base N qual scope f cdv A outer s H E).nox body { nx := fun _ H' => Q .non H', rt := Q } (start N vs) H) : FnR P w c.K mg base CX0 (k + 1) f sp := by
  subst hd
  have G : FnOk P w c.K mg base CX0 (k + 1) f fd ps sp := F.ok S len fun cdv A outer s H vs Q E hr hs => ⟨_, PSs.nox wb, h cdv A outer s H vs Q E hr hs⟩
  exact (G.raw (F.bindsN hb) .nil).imp fun vs H Q E q => by
    rw [List.append_nil]
    exact q
/-- the state at a def's entry -/
theorem At.start {H Fr : Hp} {M0 : Mm} {ds : List D} {vs : List V} (n : Nat) (r : RpL c H ds vs) (hn : vs.length + n = N.length) (e : Ex Fr H) (ho : ∀ p ∈ M0, Fr p.1 = none ∧ ObAt c H p.1 p.2) (hd : (M0.map (·.1)).Nodup) : At c Fr [] M0 (ds.map some ++ List.replicate n none) (L2.start N vs) H := by
  refine ⟨e, fun p hp => (nomatch hp), ho, hd, fun i d h => ?_, ?_⟩
  · have hl := r.len
    by_cases hi : i < ds.length
    · rw [List.getElem?_append_left (by simpa using hi), List.getElem?_map] at h
      obtain ⟨e, e1, e2⟩ := Option.map_eq_some_iff.mp h
      cases e2
      obtain ⟨v, h1, h2⟩ := r.get e1
      refine ⟨v, ?_, h2⟩
      unfold L2.start
      rw [List.getElem?_append_left (by simp; omega), List.getElem?_map, h1]
      rfl
    · rw [List.getElem?_append_right (by simpa using hi), List.getElem?_replicate] at h
      split at h <;> cases h
  · have hl := r.len
    unfold L2.start
    simp only [List.length_append, List.length_map, List.length_replicate]
    omega
/-- a def with a pure promise -/
theorem fnD {R : List D → D → Prop} (F : FunD c.K x qual params body scope [] [] f fd) (S : FnScope N ps scope)
    (hb : ∀ (kV doc pm : Value) (an : Option Addr) (cdv ct : Value) (us : List Value), us.length = ps.length → bindArgs (PySem.W.fnOf x qual params body scope .none kV doc pm an cdv ct) ⟨us, []⟩ = pure (ps.zip us))
    (len : ∀ ds d, R ds d → ds.length = ps.length) (n : Nat) (hn : ps.length + n = N.length)
    (h : ∀ (cdv : Value) (A : Around) (outer : List Env) (s : Shared) (H0 : Hp) (E : XK) (ds : List D) (d : D) (σ : L2.St), Room k (A.deeper (envOfC qual scope s.heap.objs.size f cdv)) → R ds d → At c H0 [] [] (ds.map some ++ List.replicate n none) σ H0 →
      ∀ Q : VK, (∀ G M env σ v H', At c H0 G M env σ H' → Rp c H' d v → Q v H') →
      WB (cxOf CX0 P w c.K mg base N qual scope f cdv A outer s H0 E).nox body { nx := fun _ H' => Q .non H', rt := Q } σ H0) : FnR P w c.K mg base CX0 (k + 1) f (spD c R) := by
  refine fnR_of F S hb rfl (fun vs H Q E q => ?_) fun cdv A outer s H vs Q E hr q => ?_
  · obtain ⟨ds, d, r, q, _⟩ := q
    rw [r.len]
    exact len ds d q
  · obtain ⟨ds, d, r, q, z⟩ := q
    have hl := r.len
    have hl2 := len ds d q
    exact h cdv A outer s H E ds d _ hr q (At.start n r (by omega) (Ex.refl H) (fun _ hp => nomatch hp) List.nodup_nil) Q fun G M env σ v H' B r => z v H' B.fr r
/-- a def with lists that are read, objects that change -/
theorem fnM {S : List D → List (Addr × List D) → Mm → (D → Mm → Prop) → Prop} (F : FunD c.K x qual params body scope dvs [] f fd) (Sc : FnScope N ps scope)
    (hb : ∀ (kV doc pm : Value) (an : Option Addr) (cdv ct : Value) (us : List Value), us.length = ps.length → bindArgs (PySem.W.fnOf x qual params body scope .none kV doc pm an cdv ct) ⟨us, []⟩ = pure (ps.zip us)) (hdv : dvs = [])
    (len : ∀ ds L M0 Z, S ds L M0 Z → ds.length = ps.length) (n : Nat) (hn : ps.length + n = N.length)
    (h : ∀ (cdv : Value) (A : Around) (outer : List Env) (s : Shared) (H0 Fr : Hp) (E : XK) (ds : List D) (L : List (Addr × List D)) (M0 : Mm) (Z : D → Mm → Prop) (σ : L2.St), Room k (A.deeper (envOfC qual scope s.heap.objs.size f cdv)) → S ds L M0 Z → (∀ p ∈ L, LsAt c Fr p.1 p.2) → At c Fr [] M0 (ds.map some ++ List.replicate n none) σ H0 →
      ∀ Q : VK, (∀ d G Mn env σ v H', Z d Mn → At c Fr G Mn env σ H' → Rp c H' d v → Q v H') →
      WB (cxOf CX0 P w c.K mg base N qual scope f cdv A outer s H0 E).nox body { nx := fun _ H' => Q .non H', rt := Q } σ H0) : FnR P w c.K mg base CX0 (k + 1) f (spM c S) := by
  refine fnR_of F Sc hb hdv (fun vs H Q E q => ?_) fun cdv A outer s H vs Q E hr q => ?_
  · obtain ⟨ds, L, M0, Z, q, r, _⟩ := q
    rw [r.len]
    exact len ds L M0 Z q
  · obtain ⟨ds, L, M0, Z, q, r, hL, nd, ho, k0⟩ := q
    have hl := r.len
    have hl2 := len ds L M0 Z q
    let Fr : Hp := fun a => if a ∈ M0.map (·.1) then none else H a
    have fn : ∀ a, a ∉ M0.map (·.1) → Fr a = H a := fun a ha => if_neg ha
    have fy : ∀ a, a ∈ M0.map (·.1) → Fr a = none := fun a ha => if_pos ha
    have e : Ex Fr H := fun a o q => by
      by_cases ha : a ∈ M0.map (·.1)
      · rw [fy a ha] at q
        cases q
      · rw [fn a ha] at q
        exact q
    refine h cdv A outer s H Fr E ds L M0 Z _ hr q (fun p hp => ?_) (At.start n r (by omega) e (fun p hp => ⟨fy _ (List.mem_map_of_mem hp), ho p hp⟩) nd) Q fun d G Mn env σ v H' z B rv => ?_
    · obtain ⟨vs', h1, h2⟩ := (hL p hp).2
      have hp2 : p.1 ∉ M0.map (·.1) := (hL p hp).1
      have im : IM H Fr := fun a o q i => by
        rw [fn a fun ha => ?_]
        · exact q
        · obtain ⟨p', hp', rfl⟩ := List.mem_map.mp ha
          obtain ⟨u, hu, iu⟩ := (ho p' hp').there
          rw [hu] at q
          cases q
          rw [iu] at i
          cases i
      refine ⟨vs', ?_, h2.im im⟩
      rcases h1 with h1 | ⟨o, h1⟩
      · exact .inl ((fn _ hp2).trans h1)
      · exact .inr ⟨o, (fn _ hp2).trans h1⟩
    · refine k0 d Mn v H' z rv B.nd (fun p hp => (B.ob p hp).2) (fun p hp => ?_) (fun a o ha q => B.fr a o ((fn a ha).trans q)) fun a o q i => ?_
      · by_cases ha : p.1 ∈ M0.map (·.1)
        · exact .inl ha
        · exact .inr ((fn _ ha).symm.trans (B.ob p hp).1)
      · refine B.fr a o ((fn a fun ha => ?_).trans q)
        obtain ⟨p', hp', rfl⟩ := List.mem_map.mp ha
        obtain ⟨u, hu, iu⟩ := (ho p' hp').there
        rw [hu] at q
        cases q
        rw [iu] at i
        cases i
end
end Sx
end
section
set_option maxRecDepth 100000
set_option maxHeartbeats 1000000
namespace Sx
open PySem PySem.Spec PyProof.Rows L2
section
variable {P : Program} {w : World} {c : Cs} {mg : Str → Option Value} {base : Heap}
theorem filter_yes {α : Type} (l : List α) : l.filter (fun _ => true) = l := List.filter_eq_self.mpr fun _ _ => rfl
theorem Df.at_ {x : Str} {st : Stmt} {k : Nat} {sp : Sp} (d : Df c mg x st) (h : ∀ f fd, FunD c.K x x (defArgs st) (defBody st) (defScope st) [] [] f fd → FnR P w c.K mg base CX0 k f sp) : FnAt P w c.K mg base x k sp := by
  obtain ⟨h1, fd, F⟩ := d
  exact ⟨_, h1, F.kp, h _ fd F⟩
theorem isi_of {x : V} {t C : String} {b : Bool} (hx : ∀ H, TyX c.K H x (.type t)) (h : kitB t C = some b) : RVC c (rIsi c.K) [.v x, .v (.ty C)] (.b b) := fun H xs Q r k => by
  obtain ⟨v, r1, rfl, h1, h2⟩ := rpl_cons.mp r
  obtain ⟨u, r2, rfl, h3, h4⟩ := rpl_cons.mp h2
  rw [rpl_nil.mp h4, rp_v.mp h1, rp_v.mp h3]
  exact ⟨_, _, _, _, b, rfl, .ty C, hx H, kit_ty h, k _ H (Ex.refl H) (rp_v.mpr rfl)⟩
theorem kit_ii : kitB "int" "int" = some true := by decide +kernel
theorem kit_ib : kitB "int" "bool" = some false := by decide +kernel
theorem kit_ss : kitB "str" "str" = some true := by decide +kernel

def R_is_number : List D → D → Prop := fun ds d => ∃ n a b : Int, ds = [.i n, .i a, .i b] ∧ d = .b (decide (a ≤ n) && decide (n ≤ b))
theorem ok_is_number (T : Tx c mg) : FnAt P w c.K mg base "is_number" 1 (spD c R_is_number) := by
  refine T.d_is_number.at_ fun f fd F => fnD F sc_is_number (fun _ _ _ _ _ _ us hl => match us, hl with | [_, _, _], _ => rfl) (fun ds d h => ?_) 0 rfl fun cdv A0 outer s H0 E ds d σ hr h A Q q => ?_
  · obtain ⟨n, a, b, rfl, _⟩ := h
    rfl
  · obtain ⟨n, a, b, rfl, rfl⟩ := h
    refine x_ret ?_ A fun v H' A' r => q _ _ _ _ v H' A' r
    refine (v_and (k := true) (v_cB call_isi boot_isinstance T.n_isinstance (a_cons (v_var 0) (a_cons (v_ty (T := "int") boot_int T.n_int) a_nil)) (isi_of (fun H => .base (.int n)) kit_ii))
      fun _ => v_and (k := true) (v_not (k := false) (v_cB call_isi boot_isinstance T.n_isinstance (a_cons (v_var 0) (a_cons (v_ty (T := "bool") boot_bool T.n_bool) a_nil)) (isi_of (fun H => .base (.int n)) kit_ib)))
      fun _ => v_one (v_chain op_le op_le (v_var 1) (v_var 0) (v_var 2) rv_I0 rv_I0)).is rfl

def letters : Str := "abcdefghijklmnopqrstuvwxyz"
def wordB (z : Str) : Bool := (decide (1 ≤ z.length) && decide (z.length ≤ 8)) && z.cps.toList.all fun k => decide (k ∈ letters.cps.toList)
def R_is_word : List D → D → Prop := fun ds d => ∃ z : Str, ds = [.s z] ∧ z.length ≤ 100000 ∧ d = .b (wordB z)
theorem ok_is_word (T : Tx c mg) : FnAt P w c.K mg base "is_word" 1 (spD c R_is_word) := by
  refine T.d_is_word.at_ fun f fd F => fnD F sc_is_word (fun _ _ _ _ _ _ us hl => match us, hl with | [_], _ => rfl) (fun ds d h => ?_) 1 rfl fun cdv A0 outer s H0 E ds d σ hr h A Q q => ?_
  · obtain ⟨z, rfl, _⟩ := h
    rfl
  · obtain ⟨z, rfl, hz, rfl⟩ := h
    refine x_if (k := !(decide ((1 : Int) ≤ (z.length : Int)) && decide ((z.length : Int) ≤ 8))) (o_t (o_or (k := false) (t_not (k := true) (t_val (v_cB call_isi boot_isinstance T.n_isinstance (a_cons (v_var 0) (a_cons (v_ty (T := "str") boot_str T.n_str) a_nil)) (isi_of (fun H => .base (.str z)) kit_ss))))
      fun _ => o_or1 (t_not (t_chain op_le op_le v_int (v_lenS T.n_len (v_var 0) hz) (v_glo T.k_MAX_LETTERS) rv_I0 rv_I0)))) A (fun hk H' A' => ?_) fun hk H' A' => ?_
    · refine x_ret v_bl A' fun v H2 A2 r => q _ _ _ _ v H2 A2 ?_
      have e : wordB z = false := by
        unfold wordB
        rw [Bool.not_eq_true'] at hk
        have : (decide (1 ≤ z.length) && decide (z.length ≤ 8)) = false := by
          rw [← hk]
          congr 1 <;> (rw [decide_eq_decide]; omega)
        rw [this, Bool.false_and]
      rw [e]
      exact r
    · refine x_nil (x_ret (v_all rfl T.n_all rfl ((l_lc [("letter", 1)] z.cps.toList (fun k => .s ⟨#[k]⟩) (fun _ => true) (fun k => .b (decide (k ∈ letters.cps.toList))) rfl sc_is_word.nd (i_str (v_var 0)) (blkOk_by (N := N_is_word) (sc := defScope st_is_word) (by decide +kernel)) ?_ ?_).is (ds' := (z.cps.toList.map fun k => decide (k ∈ letters.cps.toList)).map D.b) ?_)) A' fun v H2 A2 r => q _ _ _ _ v H2 A2 ?_)
      · exact (by simpa [Str.length] using hz)
      · intro k hk acc Fr' Gx Dl e
        exact ⟨_, _, fun s H C cl fp => g_name 1 sc_is_word.nd, fun j hj => hj, fun s H C cl fp => n_nil, fun _ s H C cl fp => v_cmp op_in_sign (v_var 1) (v_glo T.k_LETTERS) rv_inS⟩
      · rw [filter_yes, List.map_map]
        rfl
      · rw [Bool.not_eq_false'] at hk
        have e : wordB z = (z.cps.toList.map fun k => decide (k ∈ letters.cps.toList)).all id := by
          unfold wordB
          have : (decide (1 ≤ z.length) && decide (z.length ≤ 8)) = true := by
            rw [← hk]
            congr 1 <;> (rw [decide_eq_decide]; omega)
          rw [this, Bool.true_and, List.all_map]
          rfl
        rw [e]
        exact r
end
end Sx
end
section
set_option maxRecDepth 100000
set_option maxHeartbeats 1000000
namespace Sx
open PySem PySem.Spec PyProof.Rows L2
section
variable {X : Cx} {c : Cs} {Fr : Hp} {G : List (V × D)} {M : Mm} {env : En} {tg a b e : Expr} {es : List Expr} {pos p1 p2 p3 : Pos} {d : D} {ds : List D} {x : Str} {l : Addr} {k : Nat}
theorem cut_drop (vs : List V) (k : Nat) : cutV vs (some (k : Int)) none = vs.drop k := by
  unfold cutV
  rw [HT.sIx_nat, HT.sIx_none]
  by_cases h : k ≤ vs.length
  · rw [Nat.min_eq_left h, List.take_of_length_le (by rw [List.length_drop]; exact Nat.le_refl _)]
  · rw [Nat.min_eq_right (by omega), List.drop_of_length_le (Nat.le_refl _), List.drop_of_length_le (by omega)]
    simp
theorem cut_take (vs : List V) (k : Nat) : cutV vs none (some (k : Int)) = vs.take k := by
  unfold cutV
  rw [HT.sIx_nat, HT.sIx_none, List.drop_zero, Nat.sub_zero]
  by_cases h : k ≤ vs.length
  · rw [Nat.min_eq_left h]
  · rw [Nat.min_eq_right (by omega), List.take_of_length_le (Nat.le_refl _), List.take_of_length_le (by omega)]
theorem RpL.drop {H : Hp} : ∀ (k : Nat) {ds : List D} {vs : List V}, RpL c H ds vs → RpL c H (ds.drop k) (vs.drop k)
  | 0, _, _, h => h
  | k + 1, [], _, h => by
    rw [rpl_nil.mp h]
    exact rpl_nil.mpr rfl
  | k + 1, d :: ds, _, h => by
    obtain ⟨v, r, rfl, _, h⟩ := rpl_cons.mp h
    exact h.drop k
theorem RpL.take {H : Hp} : ∀ (k : Nat) {ds : List D} {vs : List V}, RpL c H ds vs → RpL c H (ds.take k) (vs.take k)
  | 0, _, _, h => rpl_nil.mpr rfl
  | k + 1, [], _, h => by
    rw [rpl_nil.mp h]
    exact rpl_nil.mpr rfl
  | k + 1, d :: ds, _, h => by
    obtain ⟨v, r, rfl, h1, h⟩ := rpl_cons.mp h
    exact rpl_cons.mpr ⟨v, r.take k, rfl, h1, h.take k⟩
/-- t[k:] of a tuple -/
theorem v_dropT (hK : X.K = c.K) (he : Pv X c Fr G M env e (.t ds)) (ha : Pv X c Fr G M env a (.i (k : Int))) : Pv X c Fr G M env (.Subscript e (.Slice (some a) none none p2) pos) (.t (ds.drop k)) := fun σ H A Q q =>
  (pe_slice sl_tupA we (po_some we) po_none).w (he σ H A _ fun v H1 A1 i1 r => ha σ H1 A1 _ fun u H2 A2 i2 r2 => ⟨k, rp_v.mp r2, by
    obtain ⟨p, vs, rfl, h1, h2⟩ := rp_t.mp (r.im i2)
    refine ⟨p, vs, rfl, hK ▸ h1, fun z => ?_, fun z p hp => ?_⟩
    · refine q _ H2 A2 (i1.trans i2) (rp_t.mpr ⟨p, vs, rfl, h1, ?_⟩)
      have z1 := z.1
      rw [HT.sIx_nat] at z1
      have hl := h2.len
      have : ds.drop k = ds := by
        by_cases h0 : k = 0
        · rw [h0, List.drop_zero]
        · have : ds = [] := by
            cases ds with
            | nil => rfl
            | cons d ds =>
              simp only [List.length_cons] at hl
              omega
          rw [this]
          simp
      rw [this]
      exact h2
    · rw [cut_drop]
      exact q _ _ (A2.ex (Ex.new hp)) ((i1.trans i2).trans (IM.new hp)) (rp_t.mpr ⟨p, _, rfl, SqT.of upd_same, (h2.drop k).im (IM.new hp)⟩)⟩)
/-- t[:k] of a tuple -/
theorem v_takeT (hK : X.K = c.K) (he : Pv X c Fr G M env e (.t ds)) (ha : Pv X c Fr G M env a (.i (k : Int))) : Pv X c Fr G M env (.Subscript e (.Slice none (some a) none p2) pos) (.t (ds.take k)) := fun σ H A Q q =>
  (pe_slice sl_tupA we po_none (po_some we)).w (he σ H A _ fun v H1 A1 i1 r => ha σ H1 A1 _ fun u H2 A2 i2 r2 => ⟨k, rp_v.mp r2, by
    obtain ⟨p, vs, rfl, h1, h2⟩ := rp_t.mp (r.im i2)
    refine ⟨p, vs, rfl, hK ▸ h1, fun z => ?_, fun z p hp => ?_⟩
    · refine q _ H2 A2 (i1.trans i2) (rp_t.mpr ⟨p, vs, rfl, h1, ?_⟩)
      have z1 := z.2
      rw [HT.sIx_nat] at z1
      have hl := h2.len
      rw [List.take_of_length_le (by omega)]
      exact h2
    · rw [cut_take]
      exact q _ _ (A2.ex (Ex.new hp)) ((i1.trans i2).trans (IM.new hp)) (rp_t.mpr ⟨p, _, rfl, SqT.of upd_same, (h2.take k).im (IM.new hp)⟩)⟩)
/-- l[k:], l[:k] of a list -/
theorem l_dropL (hK : X.K = c.K) (he : Pv X c Fr G M env e (.p l)) (hl : LsOf c Fr M l ds) (ha : Pv X c Fr G M env a (.i (k : Int))) : Pl X c Fr G M env (.Subscript e (.Slice (some a) none none p2) pos) (ds.drop k) := fun σ H A Q q =>
  (pe_slice sl_list we (po_some we) po_none).w (he σ H A _ fun v H1 A1 i1 r => ha σ H1 A1 _ fun u H2 A2 i2 r2 => ⟨k, rp_v.mp r2, by
    obtain ⟨vs, h1, h2⟩ := A2.ls hl
    refine ⟨l, vs, rp_v.mp r, .inl h1, fun p hp => ?_⟩
    rw [cut_drop]
    exact q p _ (A2.new hp (Ex.new hp) ⟨_, upd_same, (h2.drop k).im (IM.new hp)⟩) ((i1.trans i2).trans (IM.new hp))⟩)
theorem l_takeL (hK : X.K = c.K) (he : Pv X c Fr G M env e (.p l)) (hl : LsOf c Fr M l ds) (ha : Pv X c Fr G M env a (.i (k : Int))) : Pl X c Fr G M env (.Subscript e (.Slice none (some a) none p2) pos) (ds.take k) := fun σ H A Q q =>
  (pe_slice sl_list we po_none (po_some we)).w (he σ H A _ fun v H1 A1 i1 r => ha σ H1 A1 _ fun u H2 A2 i2 r2 => ⟨k, rp_v.mp r2, by
    obtain ⟨vs, h1, h2⟩ := A2.ls hl
    refine ⟨l, vs, rp_v.mp r, .inl h1, fun p hp => ?_⟩
    rw [cut_take]
    exact q p _ (A2.new hp (Ex.new hp) ⟨_, upd_same, (h2.take k).im (IM.new hp)⟩) ((i1.trans i2).trans (IM.new hp))⟩)
/-- a list that was just made, cut -/
theorem l_takeN (hK : X.K = c.K) (he : Pl X c Fr G M env e ds) (ha : ∀ q : Addr × Ob, Pv X c Fr G (q :: M) env a (.i (k : Int))) : Pl X c Fr G M env (.Subscript e (.Slice none (some a) none p2) pos) (ds.take k) := fun σ H A Q q =>
  (pe_slice sl_list we po_none (po_some we)).w (he σ H A _ fun l H1 A1 i1 => ha _ σ H1 A1 _ fun u H2 A2 i2 r2 => ⟨k, rp_v.mp r2, by
    obtain ⟨vs, h1, h2⟩ := A2.ls (.inr List.mem_cons_self)
    refine ⟨l, vs, rfl, .inl h1, fun p hp => ?_⟩
    rw [cut_take]
    exact q p _ (A2.drop1.new hp (Ex.new hp) ⟨_, upd_same, (h2.take k).im (IM.new hp)⟩) ((i1.trans i2).trans (IM.new hp))⟩)

/-- zip of two tuples -/
theorem i_zipT {elts : List Expr} {kk : Nat} {tpos : Pos} {xs ys : List D} (hm : X.mg "zip" = none) (hK : X.K = c.K) (h : Pa X c Fr G M env [a, b] [.t xs, .t ys]) (hg : Gl X "zip" := by rfl)
    (hs : starEach [a, b] X.env = (false, eval a X.env) :: starEach [b] X.env := by rfl) (hpl : (backTo p2 (starEach [b] X.env)).any (·.1) = false := by rfl) : Pi X c Fr G M env (.Tuple elts kk tpos) (.Call (.Name "zip" p1) [a, b] [] p2) (List.zipWith (fun x y => .t [x, y]) xs ys) := fun σ H A R q =>
  (RZ.pi_zipA hg hm wa hs hpl).w (h σ H A _ fun vs H1 A1 i1 r => by
    obtain ⟨v, r2, rfl, h1, h2⟩ := rpl_cons.mp r
    obtain ⟨u, r3, rfl, h3, h4⟩ := rpl_cons.mp h2
    rw [rpl_nil.mp h4]
    obtain ⟨p, us, e1, h5, h6⟩ := rp_t.mp h1
    obtain ⟨p', us', e2, h7, h8⟩ := rp_t.mp h3
    refine ⟨p, p', us, us', by rw [e1, e2], .inr ⟨hK ▸ h5, hK ▸ h7, q _ Fr [(v, .t xs), (u, .t ys)] H1 (Ex.refl _) ((A1.ghost h3).ghost h1) i1 ?_⟩⟩
    have key : ∀ H', (∀ q ∈ [(v, D.t xs), (u, D.t ys)], Rp c H' q.2 q.1) → ∃ ws ws', SqT X.K H' p ws ∧ RpL c H' xs ws ∧ SqT X.K H' p' ws' ∧ RpL c H' ys ws' := fun H' h => by
      obtain ⟨q1, ws, e3, h9, h10⟩ := rp_t.mp (h _ List.mem_cons_self)
      obtain ⟨q2, ws', e4, h11, h12⟩ := rp_t.mp (h _ (List.mem_cons_of_mem _ List.mem_cons_self))
      have e3 : v = .ref q1 := e3
      have e4 : u = .ref q2 := e4
      rw [e1] at e3
      rw [e2] at e4
      cases e3
      cases e4
      exact ⟨ws, ws', hK ▸ h9, h10, hK ▸ h11, h12⟩
    have hl : (List.zipWith (fun x y => D.t [x, y]) xs ys).length = min xs.length ys.length := List.length_zipWith
    rw [hl]
    refine ⟨fun i H' hi q => ?_, fun H' q => ?_, fun i H' y H'' hi q z => ?_⟩
    · obtain ⟨ws, ws', k1, k2, k3, k4⟩ := key H' q.2
      have l1 := k2.len
      have l2 := k4.len
      exact ⟨ws, ws', ws[i]'(by omega), ws'[i]'(by omega), k1, k3, by simp, by simp⟩
    · obtain ⟨ws, ws', k1, k2, k3, k4⟩ := key H' q.2
      have l1 := k2.len
      have l2 := k4.len
      exact ⟨ws, ws', k1, k3, by omega⟩
    · obtain ⟨ws, ws', k1, k2, k3, k4⟩ := key H' q.2
      obtain ⟨T, x, x', rfl, z2, rfl, z4, z5⟩ := z
      refine ⟨Ex.new z2, fun d hd => ?_⟩
      rw [List.getElem?_zipWith] at hd
      obtain ⟨d1, e5, g1⟩ := k2.getV (z4 ws k1)
      obtain ⟨d2, e6, g2⟩ := k4.getV (z5 ws' k3)
      rw [e5, e6] at hd
      cases hd
      exact rp_t.mpr ⟨T, _, rfl, SqT.of upd_same, rpl_cons.mpr ⟨x, [x'], rfl, g1.im (IM.new z2), RpL.one (g2.im (IM.new z2))⟩⟩)
end
end Sx
end
section
set_option maxRecDepth 100000
set_option maxHeartbeats 1000000
namespace Sx
open PySem PySem.Spec PyProof.Rows L2
/-! ### == of flat data -/
mutual
def pyOf : D → Option PyData
  | .v .non => some .none
  | .v (.bl b) => some (.bool b)
  | .v (.int i) => some (.int i)
  | .v (.str s) => some (.str s)
  | .t ds => (pyAll ds).map .tuple
  | _ => none
def pyAll : List D → Option (List PyData)
  | [] => some []
  | d :: ds => match pyOf d, pyAll ds with
    | some p, some ps => some (p :: ps)
    | _, _ => none
end
section
variable {c : Cs} {H : Hp}
mutual
theorem dp_of : ∀ {d : D} {v : V} {p : PyData}, pyOf d = some p → Rp c H d v → Dp c.K H v p
  | .v x, v, p, h, r => by
    rw [rp_v.mp r]
    cases x <;> simp only [pyOf] at h <;> first | (cases h; done) | (cases h; constructor)
  | .t ds, v, p, h, r => by
    simp only [pyOf] at h
    obtain ⟨ps, h1, rfl⟩ := Option.map_eq_some_iff.mp h
    obtain ⟨a, vs, rfl, h2, h3⟩ := rp_t.mp r
    exact .tup h2 (dpAll_of h1 h3)
  | .sl k d, v, p, h, r => by
    simp only [pyOf] at h
    cases h
theorem dpAll_of : ∀ {ds : List D} {vs : List V} {ps : List PyData}, pyAll ds = some ps → RpL c H ds vs → DpAll c.K H vs ps
  | [], vs, ps, h, r => by
    simp only [pyAll] at h
    cases h
    rw [rpl_nil.mp r]
    exact .nil
  | d :: ds, vs, ps, h, r => by
    obtain ⟨v, r2, rfl, h1, h2⟩ := rpl_cons.mp r
    simp only [pyAll] at h
    cases e1 : pyOf d with
    | none => rw [e1] at h; cases h
    | some p =>
      cases e2 : pyAll ds with
      | none => rw [e1, e2] at h; cases h
      | some ps' =>
        rw [e1, e2] at h
        cases h
        exact .cons (dp_of e1 h1) (dpAll_of e2 h2)
end
end
theorem pyAll_map {α : Type} (f : α → D) (g : α → PyData) (h : ∀ x, pyOf (f x) = some (g x)) : ∀ xs : List α, pyAll (xs.map f) = some (xs.map g)
  | [] => by simp [pyAll]
  | x :: xs => by
    rw [List.map_cons, List.map_cons]
    simp only [pyAll, h x, pyAll_map f g h xs]
theorem eqvAll_int : ∀ xs ys : List Int, PyData.eqvAll (xs.map PyData.int) (ys.map PyData.int) = decide (xs = ys)
  | [], [] => by simp [PyData.eqvAll]
  | [], y :: ys => by simp [PyData.eqvAll]
  | x :: xs, [] => by simp [PyData.eqvAll]
  | x :: xs, y :: ys => by
    rw [List.map_cons, List.map_cons, PyData.eqvAll, eqvAll_int xs ys, PyData.eqv]
    by_cases h1 : x = y <;> by_cases h2 : xs = ys <;> simp [h1, h2]
theorem eqvAll_str : ∀ xs ys : List Str, PyData.eqvAll (xs.map PyData.str) (ys.map PyData.str) = decide (xs = ys)
  | [], [] => by simp [PyData.eqvAll]
  | [], y :: ys => by simp [PyData.eqvAll]
  | x :: xs, [] => by simp [PyData.eqvAll]
  | x :: xs, y :: ys => by
    rw [List.map_cons, List.map_cons, PyData.eqvAll, eqvAll_str xs ys, PyData.eqv]
    by_cases h1 : x = y <;> by_cases h2 : xs = ys <;> simp [h1, h2]
section
variable {X : Cx} {c : Cs} {Fr : Hp} {G : List (V × D)} {M : Mm} {env : En} {a b e : Expr} {es : List Expr} {pos p1 p2 p3 : Pos} {d d0 da db : D} {ds : List D} {x f : Str} {l : Addr} {p q : PyData}
theorem rv_eqD (h1 : pyOf da = some p) (h2 : pyOf db = some q) (s1 : SeqAt.shaped p = true) (s2 : SeqAt.shaped q = true) : RV2 c (rEqD c.K) da db (.b (PyData.eqv p q)) := fun H x y Q r1 r2 k => ⟨p, q, dp_of h1 r1, dp_of h2 r2, s1, s2, k _ H (Ex.refl H) (rp_v.mpr rfl)⟩
theorem rv_neD (h1 : pyOf da = some p) (h2 : pyOf db = some q) (s1 : SeqAt.shaped p = true) (s2 : SeqAt.shaped q = true) : RV2 c (rNeD c.K) da db (.b (!PyData.eqv p q)) := fun H x y Q r1 r2 k => ⟨p, q, dp_of h1 r1, dp_of h2 r2, s1, s2, k _ H (Ex.refl H) (rp_v.mpr rfl)⟩
/-- a list compared with another -/
theorem v_neL {r : Addr} {es : List D} {ps qs : List PyData} {k : Nat} (hK : X.K = c.K) (hr : Room k X.A) (ha : Pv X c Fr G M env a (.p l)) (hl : LsOf c Fr M l ds) (hb : Pl X c Fr G M env b es) (h1 : pyAll ds = some ps) (h2 : pyAll es = some qs) (s1 : SeqAt.shaped (.list ps) = true) (s2 : SeqAt.shaped (.list qs) = true)
    (hm : behindInMarks .NotEq b = false := by exact nomark _) : Pv X c Fr G M env (.Compare a [.NotEq] [b] pos) (.b (!PyData.eqvAll ps qs)) := fun σ H A Q q =>
  (pe_cmpR (op_neD hr.units) we we hm).w (ha σ H A _ fun v H1 A1 i1 r => hb σ H1 A1 _ fun l2 H2 A2 i2 => by
    obtain ⟨vs, g1, g2⟩ := A2.drop1.ls hl
    obtain ⟨us, g3, g4⟩ := A2.ls (.inr List.mem_cons_self)
    refine ⟨.list ps, .list qs, ?_, .lst (hK ▸ .inl g3) (hK ▸ dpAll_of h2 g4), s1, s2, ?_⟩
    · rw [rp_v.mp r]
      exact .lst (hK ▸ .inl g1) (hK ▸ dpAll_of h1 g2)
    · rw [PyData.eqv]
      exact q _ H2 A2.drop1 (i1.trans i2) (rp_v.mpr rfl))
/-! ### instances with a slot -/
theorem v_slot {k : Bool} (hK : X.K = c.K) (hs : SlX.SCls c.K (c.cl k)) (ht : ∃ p, SlX.Slot1 c.K (c.cl k) f p 0) (he : Pv X c Fr G M env e (.sl k d)) (hb : attributeBase e f X.env (eval e X.env) = eval e X.env := by rfl) : Pv X c Fr G M env (.Attribute e f pos) d := fun σ H A Q q =>
  (SlX.pe_sl we hb).w (he σ H A _ fun v H1 A1 i1 r => by
    obtain ⟨a, dx, u, rfl, h1, h2⟩ := rp_sl.mp r
    obtain ⟨p, ht⟩ := ht
    exact ⟨a, c.cl k, dx, p, [some u], 0, u, rfl, h1, hK ▸ hs, hK ▸ ht, rfl, q u H1 A1 i1 h2⟩)
/-- a property's getter keeps the promise sp, level n -/
def PrAt (P : Program) (w : World) (c : Cs) (mg : Str → Option Value) (base : Heap) (C : Addr) (f : Str) (n : Nat) (sp : Sp) : Prop := ∃ p g, PySem.W.findIn c.K (.ref C) f = some (some (.ref p)) ∧ PySem.W.specialIn c.K (.ref p) "__get__" = some (some (.builtin "property.__get__")) ∧ PySem.W.takesIn c.K (.ref p) = some true ∧
  (∃ rest, PySem.W.recIn c.K p "property" = some (.ref g :: rest)) ∧ FnR P w c.K mg base CX0 n g sp
theorem Dp1.at_ {P : Program} {w : World} {mg : Str → Option Value} {base : Heap} {C : Addr} {m qual : Str} {st : Stmt} {k : Nat} {sp : Sp} (d : Dp1 c C m qual st) (h : ∀ f fd, FunD c.K m qual (defArgs st) (defBody st) (defScope st) [] [] f fd → FnR P w c.K mg base CX0 k f sp) : PrAt P w c mg base C m k sp := by
  obtain ⟨p, g, fd, h1, h2, h3, h4, F⟩ := d
  exact ⟨p, g, h1, h2, h3, h4, h g fd F⟩
theorem v_prop {k : Bool} {n j : Nat} {R : List D → D → Prop} (hK : X.K = c.K) (T : PrAt X.prog X.w c X.mg X.base (c.cl k) f n (spD c R)) (hs : SlX.SCls c.K (c.cl k)) (hr : Room j X.A) (he : Pv X c Fr G M env e (.sl k d0)) (h : R [.sl k d0] d) (hj : n + 1 ≤ j := by decide)
    (hb : attributeBase e f X.env (eval e X.env) = eval e X.env := by rfl) : Pv X c Fr G M env (.Attribute e f pos) d := fun σ H A Q q => by
  obtain ⟨p, g, h1, h2, h3, h4, F⟩ := T
  rw [← hK] at h1 h2 h3 h4 hs F
  refine (SlX.pe_propSl (E := fun _ _ _ => False) we hs h1 h2 h3 h4 F (hr.mono hj) (fun _ _ _ _ h => h) hb).w (he σ H A _ fun v H1 A1 i1 r => ?_)
  obtain ⟨a, dx, u, rfl, g1, g2⟩ := rp_sl.mp r
  exact ⟨a, dx, _, rfl, g1, [.sl k d0], d, RpL.one r, h, fun v H2 e2 rv => q v H2 (A1.ex e2) (i1.trans e2.im) rv⟩
/-- the promise of an __init__ that fills the one slot -/
def spI (c : Cs) (k : Bool) (R : List D → D → Prop) : Sp := fun vs H Q _ => ∃ x dx ws ds d, vs = .ref x :: ws ∧ H x = some (.ins (c.cl k) dx []) ∧ H dx = some (.own x) ∧ dx ≠ x ∧ RpL c H ds ws ∧ R ds d ∧
  ∀ H' f, (∀ a o, a ≠ x → a ≠ dx → H a = some o → H' a = some o) → SlX.Slt H' x (c.cl k) dx [some f] → Rp c H' d f → Q .non H'
theorem mk_slot {σ : L2.St} {H : Hp} {vs : List V} {k : Bool} {R : List D → D → Prop} {Q : VK} {E : XK} (A : At c Fr G M env σ H) (rs : RpL c H ds vs) (h : R ds d) (q : ∀ v H2, At c Fr G M env σ H2 → IM H H2 → Rp c H2 (.sl k d) v → Q v H2) :
    ∀ x dx, H x = none → H dx = none → dx ≠ x → spI c k R (.ref x :: vs) (upd (upd H dx (.own x)) x (.ins (c.cl k) dx [])) (fun v H2 => v = .non ∧ Q (.ref x) H2) E := fun x dx hx hdx ne => by
  have e1 : Ex H (upd (upd H dx (.own x)) x (.ins (c.cl k) dx [])) := (Ex.new hdx).trans (Ex.new (by rw [upd_ne (Ne.symm ne)]; exact hx))
  refine ⟨x, dx, vs, ds, d, rfl, upd_same, by rw [upd_ne ne, upd_same], ne, rs.im e1.im, h, fun H' f kp hs rf => ⟨rfl, ?_⟩⟩
  have e2 : Ex H H' := fun a o q => kp a o (ne_of_none q hx) (ne_of_none q hdx) (e1 a o q)
  exact q _ H' (A.ex e2) e2.im (rp_sl.mpr ⟨x, dx, f, rfl, hs, rf⟩)
def MkAt (P : Program) (w : World) (c : Cs) (mg : Str → Option Value) (base : Heap) (C : Addr) (x : Str) (n : Nat) (sp : Sp) : Prop := ∃ g, mg x = some (.ref C) ∧ Mk c.K C g ∧ FnR P w c.K mg base CX0 n g sp
theorem v_make {k : Bool} {n j : Nat} {R : List D → D → Prop} (hK : X.K = c.K) (T : MkAt X.prog X.w c X.mg X.base (c.cl k) x n (spI c k R)) (hr : Room j X.A) (ha : Pa X c Fr G M env (e :: es) ds) (h : R ds d) (hj : n + 1 ≤ j := by decide) (hg : Gl X x := by rfl) (hdb : (x == ("__debug__" : Str)) = false := by decide)
    (hst : starEach (e :: es) X.env = (false, eval e X.env) :: starEach es X.env := by rfl) (hpl : (backTo p2 (starEach es X.env)).any (·.1) = false := by rfl) : Pv X c Fr G M env (.Call (.Name x p1) (e :: es) [] p2) (.sl k d) := fun σ H A Q q => by
  obtain ⟨g, hm, M1, F⟩ := T
  rw [← hK] at M1 F
  exact (StX.pe_makeR (E := fun _ _ _ => False) M1 F (hr.mono hj) hg hm (fun _ _ _ _ _ _ _ h => h.elim) wa hdb hst hpl).w (ha σ H A _ fun vs H1 A1 i1 rs => mk_slot A1 rs h fun v H2 A2 i2 rv => q v H2 A2 (i1.trans i2) rv)
/-- an __init__ whose last row fills the slot -/
theorem fnIok {P : Program} {w : World} {mg : Str → Option Value} {base : Heap} {k : Bool} {qual : Str} {params : Arguments} {body : List Stmt} {scope : Scope} {g : Addr} {fd : FuncData} {ps N : List Str} {dvs : List V} {j : Nat} {R : List D → D → Prop} (F : FunD c.K "__init__" qual params body scope dvs [] g fd) (S : FnScope N ps scope)
    (len : ∀ ds d, R ds d → ds.length + 1 = ps.length) (n : Nat) (hn : ps.length + n = N.length)
    (h : ∀ (cdv : Value) (A : Around) (outer : List Env) (s : Shared) (H0 Fr : Hp) (E : XK) (ds : List D) (d : D) (x dx : Addr) (σ : L2.St), Room j (A.deeper (envOfC qual scope s.heap.objs.size g cdv)) → R ds d → At c Fr [] [(x, .ins (c.cl k) dx [])] (some (.p x) :: (ds.map some ++ List.replicate n none)) σ H0 →
      ∀ D0 : Ends, (∀ G env σ v H', At c Fr G [(x, .ins (c.cl k) dx [])] env σ H' → Rp c H' d v → D0.nx σ (SlX.slH H' x (c.cl k) dx [some v])) →
      WB (cxOf CX0 P w c.K mg base N qual scope g cdv A outer s H0 E).nox body D0 σ H0) : FnOk P w c.K mg base CX0 (j + 1) g fd ps (spI c k R) := by
  refine F.ok S (fun vs H Q E q => ?_) fun cdv A outer s H vs Q E hr q => ⟨_, PSs.nox wb, ?_⟩
  · obtain ⟨x, dx, ws, ds, d, rfl, _, _, _, r, h1, _⟩ := q
    have := len ds d h1
    rw [List.length_cons, r.len]
    exact this
  · obtain ⟨x, dx, ws, ds, d, rfl, hx, hdx, ne, r, h1, q⟩ := q
    have l1 := len ds d h1
    have l2 := r.len
    let Fr : Hp := fun a => if a = x then none else H a
    have fn : ∀ a, a ≠ x → Fr a = H a := fun a ha => if_neg ha
    have fx : Fr x = none := if_pos rfl
    have e : Ex Fr H := fun a o z => by
      by_cases ha : a = x
      · rw [ha, fx] at z
        cases z
      · rw [fn a ha] at z
        exact z
    have st : L2.start N (.ref x :: ws) = L2.start N (.ref x :: ws) := rfl
    have A0 : At c Fr [] [(x, .ins (c.cl k) dx [])] (((D.p x) :: ds).map some ++ List.replicate n none) (L2.start N (.ref x :: ws)) H := At.start n (rpl_cons.mpr ⟨_, _, rfl, rp_v.mpr rfl, r⟩) (by simp only [List.length_cons]; omega) e (fun p hp => by
      rw [List.mem_singleton.mp hp]
      exact ⟨fx, [], hx, rfl, rpl_nil.mpr rfl⟩) (by simp)
    refine h cdv A outer s H Fr E ds d x dx _ hr h1 A0 _ fun G env σ v H' B rv => q _ v (fun a o z1 z2 z => ?_) (SlX.slH_slt ne) (rv.im ?_)
    · rw [SlX.slH_ne z1 z2]
      exact B.fr a o ((fn a z1).trans z)
    · intro a o z i
      have : a ≠ x := fun za => by
        obtain ⟨_, u, hu, _⟩ := B.ob (x, .ins (c.cl k) dx []) List.mem_cons_self
        have hu : H' x = some (.ins (c.cl k) dx u) := hu
        rw [za, hu] at z
        cases z
        cases i
      have : a ≠ dx := fun za => by
        have hd := B.fr dx _ ((fn dx ne).trans hdx)
        rw [za, hd] at z
        cases z
        cases i
      rw [SlX.slH_ne (by assumption) (by assumption)]
      exact z
theorem fnI {P : Program} {w : World} {mg : Str → Option Value} {base : Heap} {k : Bool} {g : Addr} {fd : FuncData} {ps : List Str} {j : Nat} {R : List D → D → Prop} (G : FnOk P w c.K mg base CX0 (j + 1) g fd ps (spI c k R)) (hb : ∃ ds, Vals [] ds ∧ Binds c.K fd ps ds) : FnR P w c.K mg base CX0 (j + 1) g (spI c k R) := by
  obtain ⟨bs, b0, hb⟩ := hb
  exact (G.raw hb b0).imp fun vs H Q E q => by
    rw [List.append_nil]
    exact q
/-- self.f = e, the one slot -/
theorem x_slot {k : Bool} {D0 : Ends} {σ : L2.St} {H : Hp} {rest : List Stmt} {x dx : Addr} {o : Expr} (hK : X.K = c.K) (hs : SlX.SCls c.K (c.cl k)) (ht : ∃ p, SlX.Slot1 c.K (c.cl k) f p 0) (he : Pv X c Fr G M env e d) (ho : Pv X c Fr G M env o (.p x)) (hM : (x, Ob.ins (c.cl k) dx []) ∈ M) (A : At c Fr G M env σ H)
    (q : ∀ v H', At c Fr G M env σ H' → Rp c H' d v → WB X rest D0 σ (SlX.slH H' x (c.cl k) dx [some v])) (hsw : swapsWith e (some (.Attribute o f p1)) p2.line X.env = pure false := by rfl) : WB X (.Assign [.Attribute o f p1] e p2 :: rest) D0 σ H :=
  x_cons ((SlX.ps_sl we we hsw).w (he σ H A _ fun v H1 A1 i1 r => ho σ H1 A1 _ fun u H2 A2 i2 r2 => by
    obtain ⟨p, ht⟩ := ht
    obtain ⟨_, vs, h1, h2, _⟩ := A2.ob _ hM
    have h1 : H2 x = some (.ins (c.cl k) dx vs) := h1
    have e0 : vs = [] := by
      cases vs with
      | nil => rfl
      | cons z zs => simp at h2
    rw [e0] at h1
    exact ⟨x, c.cl k, dx, p, [], 0, rp_v.mp r2, .inl ⟨h1, rfl⟩, hK ▸ hs, hK ▸ ht, q v H2 A2 (r.im i2)⟩))
end
end Sx
end
section
set_option maxRecDepth 100000
set_option maxHeartbeats 1000000
namespace Sx
open PySem PySem.Spec PyProof.Rows L2
theorem Pi.is {X : Cx} {c : Cs} {Fr : Hp} {G : List (V × D)} {M : Mm} {env : En} {tg e : Expr} {ds ds' : List D} (h : Pi X c Fr G M env tg e ds) (q : ds = ds') : Pi X c Fr G M env tg e ds' := q ▸ h
/-! ### cards as data -/
structure Crd where
  h : Str
  b : List Int
  s : Str
  a : List Str
  deriving DecidableEq
def cardD (r : Crd) : D := .t [.s r.h, .t (r.b.map D.i), .s r.s, .t (r.a.map D.s)]
def dCard (r : Crd) : D := .sl true (cardD r)
def dDrw (cs : List Crd) : D := .sl false (.t (cs.map dCard))
def booksOk (b : List Int) : Prop := b.length ≤ 6 ∧ (∀ x ∈ b, 1 ≤ x ∧ x ≤ 999) ∧ b.Pairwise (· < ·)
def othersOk (h : Str) (a : List Str) : Prop := a.length ≤ 4 ∧ a.Nodup ∧ ∀ x ∈ a, wordB x = true ∧ x ≠ h
structure Crd.Ok (r : Crd) : Prop where
  h : wordB r.h = true
  b : booksOk r.b
  a : othersOk r.h r.a
  s : r.s = ("" : Str) ∨ (r.b = [] ∧ r.a = [] ∧ wordB r.s = true ∧ r.s ≠ r.h)
theorem word_len {z : Str} (h : wordB z = true) : 1 ≤ z.length ∧ z.length ≤ 8 := by
  unfold wordB at h
  simp only [Bool.and_eq_true, decide_eq_true_eq] at h
  exact ⟨h.1.1, h.1.2⟩
theorem letters_small : letters.cps.toList.all (fun k => decide (k < 123)) = true := by decide +kernel
theorem word_ok {z : Str} (h : wordB z = true) : PyData.canLay0 (.str z) = true := by
  unfold wordB at h
  simp only [Bool.and_eq_true] at h
  show (z.cps.all (· < 0x110000)) = true
  rw [Array.all_eq_true]
  intro i hi
  have h1 := List.all_eq_true.mp h.2 z.cps[i] (by simp)
  have h2 := List.all_eq_true.mp letters_small _ (of_decide_eq_true h1)
  exact decide_eq_true (Nat.lt_trans (of_decide_eq_true h2) (by decide))
section
variable {P : Program} {w : World} {c : Cs} {mg : Str → Option Value} {base : Heap}
def R_check_heading : List D → D → Prop := fun ds d => ∃ z : Str, ds = [.s z] ∧ wordB z = true ∧ d = .n
theorem ok_check_heading (T : Tx c mg) : FnAt P w c.K mg base "check_heading" 2 (spD c R_check_heading) := by
  refine T.d_check_heading.at_ fun f fd F => fnD F sc_check_heading (fun _ _ _ _ _ _ us hl => match us, hl with | [_], _ => rfl) (fun ds d h => ?_) 0 rfl fun cdv A0 outer s H0 E ds d σ hr h A Q q => ?_
  · obtain ⟨z, rfl, _⟩ := h
    rfl
  · obtain ⟨z, rfl, hz, rfl⟩ := h
    refine x_if (k := false) (t_not (k := true) (t_val ((v_call (ok_is_word T) hr (a_cons (v_var 0) a_nil) ⟨z, rfl, by have := (word_len hz).2; omega, rfl⟩).is (by rw [hz])))) A (fun h => nomatch h) fun _ H' A' => x_nil (x_nil (q _ _ _ _ _ H' A' (rp_v.mpr rfl)))
def R_check_number : List D → D → Prop := fun ds d => ∃ n a b : Int, ds = [.i n, .i a, .i b] ∧ a ≤ n ∧ n ≤ b ∧ d = .n
theorem ok_check_number (T : Tx c mg) : FnAt P w c.K mg base "check_number" 2 (spD c R_check_number) := by
  refine T.d_check_number.at_ fun f fd F => fnD F sc_check_number (fun _ _ _ _ _ _ us hl => match us, hl with | [_, _, _], _ => rfl) (fun ds d h => ?_) 0 rfl fun cdv A0 outer s H0 E ds d σ hr h A Q q => ?_
  · obtain ⟨n, a, b, rfl, _⟩ := h
    rfl
  · obtain ⟨n, a, b, rfl, h1, h2, rfl⟩ := h
    refine x_if (k := false) (t_not (k := true) (t_val ((v_call (ok_is_number T) hr (a_cons (v_var 0) (a_cons (v_var 1) (a_cons (v_var 2) a_nil))) ⟨n, a, b, rfl, rfl⟩).is (by rw [decide_eq_true h1, decide_eq_true h2]; rfl)))) A (fun h => nomatch h) fun _ H' A' => x_nil (x_nil (q _ _ _ _ _ H' A' (rp_v.mpr rfl)))
theorem zip_items (b : List Int) : List.zipWith (fun x y => D.t [x, y]) (b.map D.i) ((b.map D.i).drop 1) = (b.zip (b.drop 1)).map (fun p : Int × Int => D.t [.i p.1, .i p.2]) := by
  rw [← List.map_drop, List.zipWith_map]
  induction b.drop 1 generalizing b with
  | nil => simp
  | cons y ys ih =>
    cases b with
    | nil => simp
    | cons x xs =>
      rw [List.zipWith_cons_cons, List.zip_cons_cons, List.map_cons, ih xs]
def R_are_books : List D → D → Prop := fun ds d => ∃ b : List Int, ds = [.t (b.map D.i)] ∧ booksOk b ∧ d = .b true
theorem ok_are_books (T : Tx c mg) : FnAt P w c.K mg base "are_books" 2 (spD c R_are_books) := by
  refine T.d_are_books.at_ fun f fd F => fnD F sc_are_books (fun _ _ _ _ _ _ us hl => match us, hl with | [_], _ => rfl) (fun ds d h => ?_) 3 rfl fun cdv A0 outer s H0 E ds d σ hr h A Q q => ?_
  · obtain ⟨b, rfl, _⟩ := h
    rfl
  · obtain ⟨b, rfl, ⟨h1, h2, h3⟩, rfl⟩ := h
    refine x_if (k := false) (o_t (o_or (k := false) (Pt.is (t_cmp op_gt (v_lenT T.n_len rfl (v_var 0)) (v_glo T.k_MAX_BOOKS) rv_I0) ?_) fun _ => o_or1 (t_not (k := true) (t_val (Pv.is (v_all (bs := b.map fun x => decide ((1 : Int) ≤ x) && decide (x ≤ 999)) rfl T.n_all rfl (Pl.is (l_lc [("book", 3)] b D.i (fun _ => true) (fun x => .b (decide ((1 : Int) ≤ x) && decide (x ≤ 999))) rfl sc_are_books.nd (i_tup rfl (v_var 0)) (blkOk_by (N := N_are_books) (sc := defScope st_are_books) (by decide +kernel)) ?_ ?_) ?_)) ?_))))) A (fun h => nomatch h) fun _ H' A' => x_nil (x_ret (Pv.is (v_all (bs := (b.zip (b.drop 1)).map fun p => decide (p.1 < p.2)) rfl T.n_all rfl (Pl.is (l_lc [("one", 1), ("other", 2)] (b.zip (b.drop 1)) (fun p => D.t [.i p.1, .i p.2]) (fun _ => true) (fun p => .b (decide (p.1 < p.2))) rfl sc_are_books.nd
      (Pi.is (i_zipT T.n_zip rfl (a_cons (v_var 0) (a_cons (v_dropT (k := 1) rfl (v_var 0) v_int) a_nil))) (zip_items b)) (blkOk_by (N := N_are_books) (sc := defScope st_are_books) (by decide +kernel)) ?_ ?_) ?_)) ?_) A' fun v H2 A2 r => q _ _ _ _ v H2 A2 r)
    · rw [List.length_map]
      exact decide_eq_false (by omega)
    · omega
    · intro x hx acc Fr' Gx Dl e
      exact ⟨_, _, fun s H C cl fp => g_name 3 sc_are_books.nd, fun j hj => hj, fun s H C cl fp => n_nil, fun _ s H C cl fp => v_call (ok_is_number T) hr (a_cons (v_var 3) (a_cons v_int (a_cons (v_glo T.k_MAX_BOOK) a_nil))) ⟨x, 1, 999, rfl, rfl⟩⟩
    · rw [filter_yes, List.map_map]
      rfl
    · congr 1
      rw [List.all_map, List.all_eq_true.mpr]
      intro x hx
      show (decide _ && decide _) = true
      rw [decide_eq_true (h2 x hx).1, decide_eq_true (h2 x hx).2]
      rfl
    · rw [List.length_zip, List.length_drop]
      omega
    · intro p hp acc Fr' Gx Dl e
      exact ⟨_, _, fun s H C cl fp => g_tup rfl rfl (gs_cons (g_name 1 sc_are_books.nd) (gs_cons (g_name 2 sc_are_books.nd) gs_nil)), fun j hj => hj, fun s H C cl fp => n_nil, fun _ s H C cl fp => v_cmp op_lt (v_var 1) (v_var 2) rv_I0⟩
    · rw [filter_yes, List.map_map]
      rfl
    · congr 1
      rw [List.all_map, List.all_eq_true.mpr]
      intro p hp
      have : ∀ l : List Int, l.Pairwise (· < ·) → ∀ p ∈ l.zip (l.drop 1), p.1 < p.2 := by
        intro l hl
        induction l with
        | nil => intro p hp; simp at hp
        | cons x xs ih =>
          intro p hp
          cases xs with
          | nil => simp at hp
          | cons y ys =>
            rw [List.drop_one, List.tail_cons, List.zip_cons_cons] at hp
            rcases List.mem_cons.mp hp with rfl | hp
            · exact (List.pairwise_cons.mp hl).1 y List.mem_cons_self
            · exact ih (List.pairwise_cons.mp hl).2 p (by rw [List.drop_one, List.tail_cons]; exact hp)
      exact decide_eq_true (this b h3 p hp)
end
end Sx
end
section
set_option maxRecDepth 100000
set_option maxHeartbeats 1000000
namespace Sx
open PySem PySem.Spec PyProof.Rows L2
/-! ### one's own objects by place -/
theorem set_perm {α : Type} {l : List α} {i : Nat} {x y : α} (h : l[i]? = some x) : l.Perm (x :: l.eraseIdx i) ∧ (l.set i y).Perm (y :: l.eraseIdx i) := by
  induction l generalizing i with
  | nil => simp at h
  | cons z zs ih =>
    cases i with
    | zero =>
      simp only [List.getElem?_cons_zero, Option.some.injEq] at h
      subst h
      exact ⟨List.Perm.refl _, List.Perm.refl _⟩
    | succ i =>
      rw [List.getElem?_cons_succ] at h
      obtain ⟨h1, h2⟩ := ih h
      exact ⟨(h1.cons z).trans (List.Perm.swap _ _ _), (h2.cons z).trans (List.Perm.swap _ _ _)⟩
theorem At.mutI {c : Cs} {Fr H : Hp} {G : List (V × D)} {M : Mm} {env : En} {σ : L2.St} {i : Nat} {a : Addr} {o o' : Ob} {u : HO} (A : At c Fr G M env σ H) (hi : M[i]? = some (a, o)) (h : ObAt c (upd H a u) a o') : At c Fr G (M.set i (a, o')) env σ (upd H a u) :=
  ((A.perm (set_perm (y := (a, o')) hi).1).mut h).perm (set_perm hi).2.symm
theorem At.obI {c : Cs} {Fr H : Hp} {G : List (V × D)} {M : Mm} {env : En} {σ : L2.St} {i : Nat} {a : Addr} {o : Ob} (A : At c Fr G M env σ H) (hi : M[i]? = some (a, o)) : ObAt c H a o := (A.ob _ (List.mem_of_getElem? hi)).2
theorem At.imI {c : Cs} {Fr H : Hp} {G : List (V × D)} {M : Mm} {env : En} {σ : L2.St} {i : Nat} {a : Addr} {o : Ob} {u : HO} (A : At c Fr G M env σ H) (hi : M[i]? = some (a, o)) : IM H (upd H a u) := by
  obtain ⟨w, e1, e2⟩ := (A.obI hi).there
  exact IM.upd e1 e2
def putD (f : Str) (d : D) : List (Str × D) → List (Str × D)
  | [] => [(f, d)]
  | (g, x) :: r => if g = f then (g, d) :: r else (g, x) :: putD f d r
theorem kvr_nil {c : Cs} {H : Hp} {κ : Type} {vs : List (κ × V)} (h : KvR c H [] vs) : vs = [] := by
  have h1 : [] = vs.map (·.1) := h.1
  exact List.map_eq_nil_iff.mp h1.symm
theorem kvr_cons {c : Cs} {H : Hp} {κ : Type} {g : κ} {x : D} {r : List (κ × D)} {vs : List (κ × V)} (h : KvR c H ((g, x) :: r) vs) : ∃ v ws, vs = (g, v) :: ws ∧ Rp c H x v ∧ KvR c H r ws := by
  obtain ⟨h1, h2⟩ := h
  cases vs with
  | nil => simp at h1
  | cons p ws =>
    obtain ⟨g', v⟩ := p
    simp only [List.map_cons, List.cons.injEq] at h1
    obtain ⟨h3, h4⟩ := h1
    obtain ⟨v', r', e, h5, h6⟩ := rpl_cons.mp h2
    simp only [List.map_cons, List.cons.injEq] at e
    obtain ⟨e1, e2⟩ := e
    refine ⟨v, ws, by rw [show g = g' from h3], e1 ▸ h5, h4, e2 ▸ h6⟩
theorem kvr_mk {c : Cs} {H : Hp} {κ : Type} {g : κ} {x : D} {v : V} {r : List (κ × D)} {ws : List (κ × V)} (h : Rp c H x v) (h2 : KvR c H r ws) : KvR c H ((g, x) :: r) ((g, v) :: ws) := by
  refine ⟨?_, rpl_cons.mpr ⟨v, _, rfl, h, h2.2⟩⟩
  show g :: r.map (·.1) = g :: ws.map (·.1)
  rw [h2.1]
theorem KvR.im {c : Cs} {H H' : Hp} {κ : Type} {r : List (κ × D)} {ws : List (κ × V)} (h : KvR c H r ws) (i : IM H H') : KvR c H' r ws := ⟨h.1, h.2.im i⟩
theorem KvR.look {c : Cs} {H : Hp} {f : Str} {d : D} : ∀ {fs : List (Str × D)} {vs : List (Str × V)}, KvR c H fs vs → fs.lookup f = some d → ∃ v, vs.lookup f = some v ∧ Rp c H d v
  | [], vs, h, e => by simp at e
  | (g, x) :: r, vs, h, e => by
    obtain ⟨v, ws, rfl, h1, h2⟩ := kvr_cons h
    rw [List.lookup_cons] at e ⊢
    split at e
    · rename_i q
      cases e
      exact ⟨v, rfl, h1⟩
    · exact h2.look e
theorem KvR.lookN {c : Cs} {H : Hp} {f : Str} : ∀ {fs : List (Str × D)} {vs : List (Str × V)}, KvR c H fs vs → fs.lookup f = none → vs.lookup f = none
  | [], vs, h, e => by rw [kvr_nil h]; rfl
  | (g, x) :: r, vs, h, e => by
    obtain ⟨v, ws, rfl, h1, h2⟩ := kvr_cons h
    rw [List.lookup_cons] at e ⊢
    split at e
    · cases e
    · exact h2.lookN e
theorem KvR.put {c : Cs} {H : Hp} {f : Str} {d : D} {u : V} (hu : Rp c H d u) : ∀ {fs : List (Str × D)} {vs : List (Str × V)}, KvR c H fs vs → KvR c H (putD f d fs) (putF f u vs)
  | [], vs, h => by
    rw [kvr_nil h]
    exact kvr_mk hu h_nil
  | (g, x) :: r, vs, h => by
    obtain ⟨v, ws, rfl, h1, h2⟩ := kvr_cons h
    show KvR c H (if g = f then (g, d) :: r else (g, x) :: putD f d r) (if g = f then (g, u) :: ws else (g, v) :: putF f u ws)
    split
    · exact kvr_mk hu h2
    · exact kvr_mk h1 (h2.put hu)
where h_nil {c : Cs} {H : Hp} : KvR c H ([] : List (Str × D)) [] := ⟨rfl, rpl_nil.mpr rfl⟩
theorem KvR.len {c : Cs} {H : Hp} {κ : Type} {fs : List (κ × D)} {vs : List (κ × V)} (h : KvR c H fs vs) : vs.length = fs.length := by
  have := congrArg List.length h.1
  simpa using this.symm
/-- dicts of flat data -/
def dicV (kvs : List (Key × V)) : Ob := .dic (kvs.map fun p => (p.1, D.v p.2))
theorem kvr_flat {c : Cs} {H : Hp} : ∀ {kvs vs : List (Key × V)}, KvR c H (kvs.map fun p => (p.1, D.v p.2)) vs → vs = kvs
  | [], vs, h => kvr_nil h
  | (g, x) :: r, vs, h => by
    obtain ⟨v, ws, rfl, h1, h2⟩ := kvr_cons (g := g) (x := .v x) (r := r.map fun p => (p.1, D.v p.2)) h
    rw [rp_v.mp h1, kvr_flat h2]
theorem flat_kvr {c : Cs} {H : Hp} (kvs : List (Key × V)) : KvR c H (kvs.map fun p => (p.1, D.v p.2)) kvs := by
  refine ⟨by rw [List.map_map]; rfl, ?_⟩
  rw [List.map_map]
  have := RpL.vmap (c := c) (H := H) (xs := kvs.map (·.2))
  rw [List.map_map] at this
  exact this
theorem dic_at {c : Cs} {H : Hp} {a : Addr} {kvs : List (Key × V)} : ObAt c H a (dicV kvs) ↔ H a = some (.dK kvs) := by
  constructor
  · rintro ⟨vs, h1, h2⟩
    rw [kvr_flat h2] at h1
    exact h1
  · exact fun h => ⟨kvs, h, flat_kvr kvs⟩

section
variable {X : Cx} {c : Cs} {Fr : Hp} {G : List (V × D)} {M : Mm} {env : En} {a b e o : Expr} {es : List Expr} {pos p1 p2 p3 tpos : Pos} {d d0 da db : D} {ds : List D} {x f m : Str} {l : Addr} {C dx q : Addr} {fs : List (Str × D)}
/-- e.f of an instance -/
theorem v_fld (i : Nat) (hK : X.K = c.K) (hc : Cls c.K C) (hn : NoAttr c.K C f) (he : Pv X c Fr G M env e (.p q)) (hM : M[i]? = some (q, .ins C dx fs) := by rfl) (hl : fs.lookup f = some d := by rfl) (hb : attributeBase e f X.env (eval e X.env) = eval e X.env := by rfl) : Pv X c Fr G M env (.Attribute e f pos) d := fun σ H A Q k =>
  (pe_fld we hb).w (he σ H A _ fun v H1 A1 i1 r => by
    obtain ⟨vs, h1, h2⟩ := A1.obI hM
    obtain ⟨u, h3, h4⟩ := h2.look hl
    exact ⟨q, C, dx, vs, u, rp_v.mp r, h1, hK ▸ hc, hK ▸ hn, h3, k u H1 A1 i1 h4⟩)
section
variable {D0 : Ends} {σ : L2.St} {H : Hp} {rest : List Stmt}
/-- o.f = e -/
theorem x_fld (i : Nat) (hK : X.K = c.K) (hc : Cls c.K C) (hn : NoAttr c.K C f) (he : Pv X c Fr G M env e d) (ho : Pv X c Fr G M env o (.p q)) (A : At c Fr G M env σ H) (k : ∀ H', At c Fr G (M.set i (q, .ins C dx (putD f d fs))) env σ H' → WB X rest D0 σ H')
    (hM : M[i]? = some (q, .ins C dx fs) := by rfl) (hz : fs.length < 1000 := by exact Nat.le_of_ble_eq_true rfl) (hsw : swapsWith e (some (.Attribute o f p1)) p2.line X.env = pure false := by rfl) : WB X (.Assign [.Attribute o f p1] e p2 :: rest) D0 σ H :=
  x_cons ((ps_fld we we hsw).w (he σ H A _ fun v H1 A1 i1 r => ho σ H1 A1 _ fun u H2 A2 i2 r2 => by
    obtain ⟨vs, h1, h2⟩ := A2.obI hM
    refine ⟨q, C, dx, vs, rp_v.mp r2, h1, hK ▸ hc, hK ▸ hn, by rw [h2.len]; exact hz, ?_⟩
    have im : IM H2 (upd H2 q (.ins C dx (putF f v vs))) := A2.imI hM
    exact k _ (A2.mutI hM ⟨_, upd_same, ((h2.put (r.im i2)).im im)⟩)))
/-- o.f = a list that was just made -/
theorem x_fldL (i : Nat) (hK : X.K = c.K) (hc : Cls c.K C) (hn : NoAttr c.K C f) (he : Pl X c Fr G M env e ds) (ho : ∀ z, Pv X c Fr G (z :: M) env o (.p q)) (A : At c Fr G M env σ H) (k : ∀ l H', At c Fr G ((l, .lst ds) :: M.set i (q, .ins C dx (putD f (.p l) fs))) env σ H' → WB X rest D0 σ H')
    (hM : M[i]? = some (q, .ins C dx fs) := by rfl) (hz : fs.length < 1000 := by exact Nat.le_of_ble_eq_true rfl) (hsw : swapsWith e (some (.Attribute o f p1)) p2.line X.env = pure false := by rfl) : WB X (.Assign [.Attribute o f p1] e p2 :: rest) D0 σ H :=
  x_cons ((ps_fld we we hsw).w (he σ H A _ fun l H1 A1 i1 => ho _ σ H1 A1 _ fun u H2 A2 i2 r2 => by
    have hM : ((l, Ob.lst ds) :: M)[i + 1]? = some (q, .ins C dx fs) := by rw [List.getElem?_cons_succ]; exact hM
    obtain ⟨vs, h1, h2⟩ := A2.obI hM
    refine ⟨q, C, dx, vs, rp_v.mp r2, h1, hK ▸ hc, hK ▸ hn, by rw [h2.len]; exact hz, ?_⟩
    have im : IM H2 (upd H2 q (.ins C dx (putF f (.ref l) vs))) := A2.imI hM
    exact k l _ (A2.mutI hM ⟨_, upd_same, ((h2.put (rp_v.mpr rfl)).im im)⟩)))
/-- o.f = {} -/
theorem x_fldD (i : Nat) (hK : X.K = c.K) (hc : Cls c.K C) (hn : NoAttr c.K C f) (ho : ∀ z, Pv X c Fr G (z :: M) env o (.p q)) (A : At c Fr G M env σ H) (k : ∀ l H', At c Fr G ((l, dicV []) :: M.set i (q, .ins C dx (putD f (.p l) fs))) env σ H' → WB X rest D0 σ H')
    (hM : M[i]? = some (q, .ins C dx fs) := by rfl) (hz : fs.length < 1000 := by exact Nat.le_of_ble_eq_true rfl) (hsw : swapsWith (.Dict [] [] p3) (some (.Attribute o f p1)) p2.line X.env = pure false := by rfl) : WB X (.Assign [.Attribute o f p1] (.Dict [] [] p3) p2 :: rest) D0 σ H :=
  x_cons ((ps_fld we pe_dnewK hsw).w fun l hl => ho (l, dicV []) σ _ (A.new hl (Ex.new hl) (dic_at.mpr upd_same)) _ fun u H2 A2 i2 r2 => by
    have hM : ((l, dicV []) :: M)[i + 1]? = some (q, .ins C dx fs) := by rw [List.getElem?_cons_succ]; exact hM
    obtain ⟨vs, h1, h2⟩ := A2.obI hM
    refine ⟨q, C, dx, vs, rp_v.mp r2, h1, hK ▸ hc, hK ▸ hn, by rw [h2.len]; exact hz, ?_⟩
    have im : IM H2 (upd H2 q (.ins C dx (putF f (.ref l) vs))) := A2.imI hM
    exact k l _ (A2.mutI hM ⟨_, upd_same, ((h2.put (rp_v.mpr rfl)).im im)⟩))
/-- x = {} -/
theorem x_setD (i : Nat) (hN : X.N.Nodup) (A : At c Fr G M env σ H) (k : ∀ l σ' H', At c Fr G ((l, dicV []) :: M) (env.set i (some (.p l))) σ' H' → WB X rest D0 σ' H')
    (hi : X.N[i]? = some x := by rfl) (hx : Loc X.env.scope x := by first | exact Or.inl rfl | exact Or.inr rfl) (hs : swapsWith (.Dict [] [] p3) (some (.Name x p1)) p2.line X.env = pure false := by rfl) (hf : X.fn x = true ∨ X.env.scope.names.lookup x = some .local := by first | exact .inl rfl | exact .inr rfl) : WB X (.Assign [.Name x p1] (.Dict [] [] p3) p2 :: rest) D0 σ H :=
  x_cons ((ps_set hN hi hx pe_dnewK hs hf).w fun l hl => k l _ _ ((A.new hl (Ex.new hl) (dic_at.mpr upd_same)).set (rp_v.mpr rfl)))
/-- o.f += e, an int -/
theorem x_fldaug (i : Nat) {n : Int} {k0 : Int} (hK : X.K = c.K) (hc : Cls c.K C) (hn : NoAttr c.K C f) (ho : Pv X c Fr G M env o (.p q)) (he : Pv X c Fr G M env e (.i n)) (A : At c Fr G M env σ H) (k : ∀ H', At c Fr G (M.set i (q, .ins C dx (putD f (.i (k0 + n)) fs))) env σ H' → WB X rest D0 σ H')
    (hM : M[i]? = some (q, .ins C dx fs) := by rfl) (hl : fs.lookup f = some (.i k0) := by rfl) (hz : fs.length < 1000 := by exact Nat.le_of_ble_eq_true rfl) : WB X (.AugAssign (.Attribute o f p1) .Add e p2 :: rest) D0 σ H :=
  x_cons ((ps_fldaug we we in_add).w (ho σ H A _ fun u H1 A1 i1 r1 => by
    obtain ⟨vs, h1, h2⟩ := A1.obI hM
    obtain ⟨w, h3, h4⟩ := h2.look hl
    refine ⟨q, C, dx, vs, w, rp_v.mp r1, h1, hK ▸ hc, hK ▸ hn, h3, he σ H1 A1 _ fun v H2 A2 i2 r2 => ⟨k0, n, rp_v.mp h4, rp_v.mp r2, ?_⟩⟩
    obtain ⟨us, h5, h6⟩ := A2.obI hM
    refine ⟨dx, us, h5, by rw [h6.len]; exact hz, ?_⟩
    have im : IM H2 (upd H2 q (.ins C dx (putF f (.int (k0 + n)) us))) := A2.imI hM
    exact k _ (A2.mutI hM ⟨_, upd_same, ((h6.put (rp_v.mpr rfl)).im im)⟩)))
end
/-- l.append(e) -/
theorem tyl {K : PySem.W.Frag} {H : Hp} {l : Addr} {vs : List V} (h : H l = some (.lst vs)) : tyV K "list" (.ref l) H := Or.inl ⟨rfl, _, Or.inl (Or.inl h)⟩
theorem e_app {Z : D → Mm → Prop} {Z2 : D → Mm → Prop} {ds0 : List D} (hK : X.K = c.K) (ho : Pv X c Fr G M env o (.p l)) (hl : LsOf c (fun _ => none) M l ds0) (he : Ev X c Fr G M env e Z) (hz : ∀ d M', Z d M' → ∃ i ds, M'[i]? = some (l, .lst ds) ∧ ds.length < 100000 ∧ Z2 .n (M'.set i (l, .lst (ds ++ [d]))))
    (hbase : attributeBase o "append" X.env (eval o X.env) = eval o X.env := by rfl)
    (hfew : ((backTo p2 (starEach (e :: []) X.env)).all (fun x => !x.1) && (backToKw p2 (keywordEach [] X.env)).all (fun x => x.1.isSome)
      && decide ((e :: ([] : List Expr)).length + ([] : List Keyword).length + (if ([] : List Keyword).isEmpty then 0 else 1) < 30)) = true := by rfl)
    (hline : (p1.endLine == p2.line) = true := by rfl) (hs : starEach (e :: []) X.env = (false, eval e X.env) :: starEach [] X.env := by rfl) (hplain : (backTo p2 (starEach [] X.env)).any (·.1) = false := by rfl) : Ev X c Fr G M env (.Call (.Attribute o "append" p1) [e] [] p2) Z2 := fun σ H A Q k =>
  (pe_bm PySem.F.plainAttrs_list PySem.F.slot_list_append PySem.F.type_list_append mt_append we (pa_cons we pa_nil hs) hbase hfew hline hs hplain).w (ho σ H A _ fun u H1 A1 i1 r1 => by
    have hl1 : ∃ vs, H1 l = some (.lst vs) := by
      rcases hl with hl | hl
      · obtain ⟨vs, h1, _⟩ := hl
        rcases h1 with h1 | ⟨o, h1⟩ <;> cases h1
      · obtain ⟨vs, h1, _⟩ := (A1.ob _ hl).2
        exact ⟨vs, h1⟩
    obtain ⟨vs, h1⟩ := hl1
    rw [rp_v.mp r1]
    refine ⟨tyl h1, he σ H1 A1 _ fun d M' v H2 z A2 i2 rv => ?_⟩
    obtain ⟨i, ds, hM, hlen, z2⟩ := hz d M' z
    obtain ⟨us, h2, h3⟩ := A2.obI hM
    have im : IM H2 (upd H2 l (.lst (us ++ [v]))) := A2.imI hM
    exact ⟨l, us, v, rfl, rfl, h2, by rw [h3.len]; exact Nat.lt_of_lt_of_le hlen (by decide), k _ _ _ _ z2 (A2.mutI hM ⟨_, upd_same, (h3.app (RpL.one rv)).im im⟩) ((i1.trans i2).trans im) (rp_v.mpr rfl)⟩)
/-- l.append(e), e without effect -/
theorem e_app1 (i : Nat) (hK : X.K = c.K) (ho : Pv X c Fr G M env o (.p l)) (he : Pv X c Fr G M env e d) (hlen : ds.length < 100000) (hM : M[i]? = some (l, .lst ds) := by rfl)
    (hbase : attributeBase o "append" X.env (eval o X.env) = eval o X.env := by rfl)
    (hfew : ((backTo p2 (starEach (e :: []) X.env)).all (fun x => !x.1) && (backToKw p2 (keywordEach [] X.env)).all (fun x => x.1.isSome)
      && decide ((e :: ([] : List Expr)).length + ([] : List Keyword).length + (if ([] : List Keyword).isEmpty then 0 else 1) < 30)) = true := by rfl)
    (hline : (p1.endLine == p2.line) = true := by rfl) (hs : starEach (e :: []) X.env = (false, eval e X.env) :: starEach [] X.env := by rfl) (hplain : (backTo p2 (starEach [] X.env)).any (·.1) = false := by rfl) : Ev X c Fr G M env (.Call (.Attribute o "append" p1) [e] [] p2) (fun d' M' => d' = .n ∧ M' = M.set i (l, .lst (ds ++ [d]))) :=
  e_app hK ho (.inr (List.mem_of_getElem? hM)) he.ev (fun d' M' z => by
    obtain ⟨rfl, rfl⟩ := z
    exact ⟨i, ds, hM, hlen, rfl, rfl⟩) hbase hfew hline hs hplain
/-- the statement l.append(e) -/
theorem x_app {D0 : Ends} {σ : L2.St} {H : Hp} {rest : List Stmt} (i : Nat) (hK : X.K = c.K) (ho : Pv X c Fr G M env o (.p l)) (he : Pv X c Fr G M env e d) (A : At c Fr G M env σ H) (hlen : ds.length < 100000) (k : ∀ H', At c Fr G (M.set i (l, .lst (ds ++ [d]))) env σ H' → WB X rest D0 σ H') (hM : M[i]? = some (l, .lst ds) := by rfl)
    (hbase : attributeBase o "append" X.env (eval o X.env) = eval o X.env := by rfl)
    (hfew : ((backTo p2 (starEach (e :: []) X.env)).all (fun x => !x.1) && (backToKw p2 (keywordEach [] X.env)).all (fun x => x.1.isSome)
      && decide ((e :: ([] : List Expr)).length + ([] : List Keyword).length + (if ([] : List Keyword).isEmpty then 0 else 1) < 30)) = true := by rfl)
    (hline : (p1.endLine == p2.line) = true := by rfl) (hs : starEach (e :: []) X.env = (false, eval e X.env) :: starEach [] X.env := by rfl) (hplain : (backTo p2 (starEach [] X.env)).any (·.1) = false := by rfl)
    (hsw : swapsWith (.Call (.Attribute o "append" p1) [e] [] p2) none pos.line X.env = pure false := by rfl) : WB X (.Expr (.Call (.Attribute o "append" p1) [e] [] p2) pos :: rest) D0 σ H :=
  x_exp (e_app1 i hK ho he hlen hM hbase hfew hline hs hplain) A (fun d' M' H' z A' => by
    obtain ⟨_, rfl⟩ := z
    exact k H' A') hsw
/-- l.extend(e), e a list that was just made -/
theorem x_extL {D0 : Ends} {σ : L2.St} {H : Hp} {rest : List Stmt} {es : List D} (i : Nat) (hK : X.K = c.K) (ho : Pv X c Fr G M env o (.p l)) (he : Pl X c Fr G M env e es) (A : At c Fr G M env σ H) (hlen : ds.length + es.length ≤ 100000) (k : ∀ H', At c Fr G (M.set i (l, .lst (ds ++ es))) env σ H' → WB X rest D0 σ H') (hM : M[i]? = some (l, .lst ds) := by rfl)
    (hbase : attributeBase o "extend" X.env (eval o X.env) = eval o X.env := by rfl)
    (hfew : ((backTo p2 (starEach (e :: []) X.env)).all (fun x => !x.1) && (backToKw p2 (keywordEach [] X.env)).all (fun x => x.1.isSome)
      && decide ((e :: ([] : List Expr)).length + ([] : List Keyword).length + (if ([] : List Keyword).isEmpty then 0 else 1) < 30)) = true := by rfl)
    (hline : (p1.endLine == p2.line) = true := by rfl) (hs : starEach (e :: []) X.env = (false, eval e X.env) :: starEach [] X.env := by rfl) (hplain : (backTo p2 (starEach [] X.env)).any (·.1) = false := by rfl)
    (hsw : swapsWith (.Call (.Attribute o "extend" p1) [e] [] p2) none pos.line X.env = pure false := by rfl) : WB X (.Expr (.Call (.Attribute o "extend" p1) [e] [] p2) pos :: rest) D0 σ H :=
  x_cons ((ps_expr (pe_bm PySem.F.plainAttrs_list PySem.F.slot_list_extend PySem.F.type_list_extend mt_extend we (pa_cons we pa_nil hs) hbase hfew hline hs hplain) hsw).w (ho σ H A _ fun u H1 A1 i1 r1 => by
    obtain ⟨vs, h1, _⟩ := A1.obI hM
    rw [rp_v.mp r1]
    refine ⟨tyl h1, he σ H1 A1 _ fun l2 H2 A2 i2 => ?_⟩
    have hM2 : ((l2, Ob.lst es) :: M)[i + 1]? = some (l, .lst ds) := by rw [List.getElem?_cons_succ]; exact hM
    obtain ⟨us, h2, h3⟩ := A2.obI hM2
    obtain ⟨ws, h4, h5⟩ := A2.obI (i := 0) rfl
    have im : IM H2 (upd H2 l (.lst (us ++ ws))) := A2.imI hM2
    refine ⟨l, l2, us, ws, rfl, rfl, h2, h4, by rw [h3.len, h5.len]; exact Nat.le_trans hlen (by decide), k _ ?_⟩
    have B := A2.mutI (o' := .lst (ds ++ es)) hM2 ⟨_, upd_same, (h3.app h5).im im⟩
    exact At.drop1 (p := (l2, .lst es)) B))
/-- the last item taken -/
theorem e_pop {y : D} {ys : List D} (i : Nat) (hK : X.K = c.K) (ho : Pv X c Fr G M env o (.p l)) (hM : M[i]? = some (l, .lst (ys ++ [y])))
    (hbase : attributeBase o "pop" X.env (eval o X.env) = eval o X.env := by rfl) (hline : (p1.endLine == p2.line) = true := by rfl) : Ev X c Fr G M env (.Call (.Attribute o "pop" p1) [] [] p2) (fun d M' => d = y ∧ M' = M.set i (l, .lst ys)) := fun σ H A Q k =>
  (pe_bm0 PySem.F.plainAttrs_list PySem.F.slot_list_pop PySem.F.type_list_pop mt_pop we hbase hline).w (ho σ H A _ fun u H1 A1 i1 r1 => by
    obtain ⟨vs, h1, h2⟩ := A1.obI hM
    rw [rp_v.mp r1]
    have hl := h2.len
    rw [List.length_append] at hl
    obtain ⟨v, h3, h4⟩ := h2.get (i := ys.length) (d := y) (by simp)
    have im : IM H1 (upd H1 l (.lst vs.dropLast)) := A1.imI hM
    have hv : vs.dropLast = vs.take ys.length := by rw [List.dropLast_eq_take, hl]; rfl
    refine ⟨tyl h1, l, vs, v, rfl, rfl, h1, by rw [hl]; exact h3, k _ _ _ _ ⟨rfl, rfl⟩ (A1.mutI hM ⟨_, upd_same, RpL.im im ?_⟩) (i1.trans im) (h4.im im)⟩
    rw [hv]
    have := h2.take ys.length
    rw [List.take_left] at this
    exact this)
end
end Sx
end
section
set_option maxRecDepth 100000
set_option maxHeartbeats 1000000
namespace Sx
open PySem PySem.Spec PyProof.Rows L2
/-! ### promises about lists that are read: a value, a new list -/
def spR (c : Cs) (R : List D → List (Addr × List D) → D → Prop) : Sp := spM c fun ds L M0 Z => M0 = [] ∧ ∃ d0, R ds L d0 ∧ Z = fun d Mn => d = d0 ∧ Mn = []
def spL (c : Cs) (R : List D → List (Addr × List D) → List D → Prop) : Sp := spM c fun ds L M0 Z => M0 = [] ∧ ∃ ys, R ds L ys ∧ Z = fun d Mn => ∃ l, d = .p l ∧ Mn = [(l, .lst ys)]
/-- a method of a class -/
def MtAt (P : Program) (w : World) (c : Cs) (mg : Str → Option Value) (base : Heap) (C : Addr) (m : Str) (k : Nat) (sp : Sp) : Prop := ∃ g, Meth c.K C m g ∧ FnR P w c.K mg base CX0 k g sp
theorem Dm.at_ {P : Program} {w : World} {c : Cs} {mg : Str → Option Value} {base : Heap} {C : Addr} {m qual : Str} {st : Stmt} {k : Nat} {sp : Sp} (d : Dm c C m qual st []) (h : ∀ f fd, FunD c.K m qual (defArgs st) (defBody st) (defScope st) [] [] f fd → FnR P w c.K mg base CX0 k f sp) : MtAt P w c mg base C m k sp := by
  obtain ⟨g, fd, M, F⟩ := d
  exact ⟨g, M, h g fd F⟩
/-- o.m() by a positional promise -/
theorem pe_meth0R {X : Cx} {CX : CXT} {k : Nat} {C f : Addr} {m : Str} {sp : Sp} {E : XK} {o : Expr} {ta : TE} {apos pos : Pos} {pl : Sem Bool} (he : PE X o ta) (c : Cls X.K C) (hm : Meth X.K C m f)
    (F : FnR X.prog X.w X.K X.mg X.base CX k f sp) (hr : Room k X.A) (hx : Passes CX X E)
    (ht : eval (.Call (.Attribute o m apos) [] [] pos) X.env = (do
      let ov ← eval o X.env
      standAt apos.atName
      let (f, first) ← holding [ov] (getMethod ov m pl)
      callWith pos f first (backTo pos (starEach [] X.env)) (backToKw pos (keywordEach [] X.env))) := by rfl) :
    PE X (.Call (.Attribute o m apos) [] [] pos) (fun σ H Q => ta σ H fun x H1 => ∃ a dx fs, x = .ref a ∧ H1 a = some (.ins C dx fs) ∧ fs.lookup m = none ∧ sp [x] H1 Q E) := by
  refine ⟨fun pins s σ H Q I h => ?_⟩
  refine PySem.W.methodCall_KW (pl := pl) (thn (he.run pins s σ H _ I h) fun u s1 ⟨x, H1, I1, rx, a, dx, fs, ex, ea, l, q⟩ => ?_) ht
  subst ex
  obtain rfl : u = Value.ref a := rx
  refine getmeth_ok I1 ea c hm l ?_
  exact PySem.W.callWith_K0 (first := [.ref a]) I1.kIn hm.kp (wpAny_call (run_fnR (us := [.ref a]) (vs := [.ref a]) F hr hx I1 (.cons rfl .nil) q))
section
variable {X : Cx} {c : Cs} {Fr : Hp} {G : List (V × D)} {M : Mm} {env : En} {a b e o : Expr} {es : List Expr} {pos p1 p2 p3 tpos apos : Pos} {d d0 da db : D} {ds ys : List D} {x f m : Str} {l : Addr} {C dx q : Addr} {fs : List (Str × D)} {k j : Nat} {pl : Sem Bool}
theorem lsOf_more {M M' : Mm} {p : Addr × List D} (h : LsOf c Fr M p.1 p.2) (s : ∀ z ∈ M, z ∈ M') : LsOf c Fr M' p.1 p.2 := h.imp id fun h => s _ h
/-- a def that reads lists, its answer a value -/
theorem v_callR {R : List D → List (Addr × List D) → D → Prop} (L : List (Addr × List D)) (F : FnAt X.prog X.w X.K X.mg X.base x k (spR c R)) (hr : Room j X.A) (ha : Pa X c Fr G M env (e :: es) ds) (h : R ds L d) (hL : ∀ p ∈ L, LsOf c Fr M p.1 p.2) (hk : k ≤ j := by decide) (hg : Gl X x := by rfl) (hdb : (x == ("__debug__" : Str)) = false := by decide)
    (hst : starEach (e :: es) X.env = (false, eval e X.env) :: starEach es X.env := by rfl) (hpl : (backTo p2 (starEach es X.env)).any (·.1) = false := by rfl) : Pv X c Fr G M env (.Call (.Name x p1) (e :: es) [] p2) d := fun σ H A Q q =>
  (e_call (Mr := M) (M0 := []) (Z2 := fun d' M' => d' = d ∧ M' = M) (L := L) F hr ha (List.Perm.refl _) ⟨rfl, d, h, rfl⟩ hL (fun d' Mn z => by
    obtain ⟨rfl, rfl⟩ := z
    exact ⟨rfl, rfl⟩) hk hg hdb hst hpl) σ H A Q fun d' M' v H2 z A2 i2 r => by
    obtain ⟨rfl, rfl⟩ := z
    exact q v H2 A2 i2 r
/-- its answer a new list -/
theorem l_callL {R : List D → List (Addr × List D) → List D → Prop} (L : List (Addr × List D)) (F : FnAt X.prog X.w X.K X.mg X.base x k (spL c R)) (hr : Room j X.A) (ha : Pa X c Fr G M env (e :: es) ds) (h : R ds L ys) (hL : ∀ p ∈ L, LsOf c Fr M p.1 p.2) (hk : k ≤ j := by decide) (hg : Gl X x := by rfl) (hdb : (x == ("__debug__" : Str)) = false := by decide)
    (hst : starEach (e :: es) X.env = (false, eval e X.env) :: starEach es X.env := by rfl) (hpl : (backTo p2 (starEach es X.env)).any (·.1) = false := by rfl) : Pl X c Fr G M env (.Call (.Name x p1) (e :: es) [] p2) ys := fun σ H A Q q =>
  (e_call (Mr := M) (M0 := []) (Z2 := fun d' M' => ∃ l, d' = .p l ∧ M' = (l, .lst ys) :: M) (L := L) F hr ha (List.Perm.refl _) ⟨rfl, ys, h, rfl⟩ hL (fun d' Mn z => by
    obtain ⟨l, rfl, rfl⟩ := z
    exact ⟨l, rfl, rfl⟩) hk hg hdb hst hpl) σ H A Q fun d' M' v H2 z A2 i2 r => by
    obtain ⟨l, rfl, rfl⟩ := z
    rw [rp_v.mp r]
    exact q l H2 A2 i2
/-- the object, then what its method may do -/
def Mq (X : Cx) (c : Cs) (Fr : Hp) (G : List (V × D)) (env : En) (C : Addr) (m : Str) (S : List D → List (Addr × List D) → Mm → (D → Mm → Prop) → Prop) (es : List Expr) (Z2 : D → Mm → Prop) (d0 : D) (M1 : Mm) : Prop :=
  ∃ (q dx : Addr) (fs : List (Str × D)) (ds : List D) (L : List (Addr × List D)) (M0 Mr : Mm) (Z : D → Mm → Prop), d0 = .p q ∧ (q, Ob.ins C dx fs) ∈ M1 ∧ fs.lookup m = none ∧ Pa X c Fr G M1 env es ds ∧ M1.Perm (M0 ++ Mr) ∧ S (.p q :: ds) L M0 Z ∧ (∀ p ∈ L, LsOf c Fr Mr p.1 p.2) ∧ ∀ d Mn, Z d Mn → Z2 d (Mn ++ Mr)
theorem e_meth {S : List D → List (Addr × List D) → Mm → (D → Mm → Prop) → Prop} {Z0 Z2 : D → Mm → Prop} (hK : X.K = c.K) (hc : Cls c.K C) (F : MtAt X.prog X.w c X.mg X.base C m k (spM c S)) (hr : Room j X.A) (ho : Ev X c Fr G M env o Z0)
    (h : ∀ d0 M1, Z0 d0 M1 → Mq X c Fr G env C m S (e :: es) Z2 d0 M1) (hk : k ≤ j := by decide)
    (hst : starEach (e :: es) X.env = (false, eval e X.env) :: starEach es X.env := by rfl) (hpl : (backTo pos (starEach es X.env)).any (·.1) = false := by rfl)
    (ht : eval (.Call (.Attribute o m apos) (e :: es) [] pos) X.env = (do
      let ov ← eval o X.env
      standAt apos.atName
      let (f, first) ← holding [ov] (getMethod ov m pl)
      callWith pos f first (backTo pos (starEach (e :: es) X.env)) (backToKw pos (keywordEach [] X.env))) := by rfl) : Ev X c Fr G M env (.Call (.Attribute o m apos) (e :: es) [] pos) Z2 := fun σ H A Q q => by
  obtain ⟨g, hm, F⟩ := F
  rw [← hK] at hc hm F
  refine (pe_methR (E := fun _ _ _ => False) (pl := pl) we hc hm F (hr.mono hk) (fun _ _ _ _ _ _ _ h => h.elim) wa hst hpl ht).w (ho σ H A _ fun d0 M1 v H1 z A1 i1 r => ?_)
  obtain ⟨q1, dx, fs, ds, L, M0, Mr, Z, rfl, hM, hl, ha, hp, hS, hL, hz⟩ := h d0 M1 z
  obtain ⟨vs, h1, h2⟩ := (A1.ob _ hM).2
  refine ⟨q1, dx, vs, rp_v.mp r, h1, h2.lookN hl, ha σ H1 A1 _ fun us H2 A2 i2 rs => A2.takes hp (rpl_cons.mpr ⟨_, us, rfl, r.im i2, rs⟩) hS hL fun d Mn v H3 z A3 i3 rv => q d _ v H3 (hz d Mn z) A3 ((i1.trans i2).trans i3) rv⟩
def Mq0 (c : Cs) (Fr : Hp) (C : Addr) (m : Str) (S : List D → List (Addr × List D) → Mm → (D → Mm → Prop) → Prop) (Z2 : D → Mm → Prop) (d0 : D) (M1 : Mm) : Prop :=
  ∃ (q dx : Addr) (fs : List (Str × D)) (L : List (Addr × List D)) (M0 Mr : Mm) (Z : D → Mm → Prop), d0 = .p q ∧ (q, Ob.ins C dx fs) ∈ M1 ∧ fs.lookup m = none ∧ M1.Perm (M0 ++ Mr) ∧ S [.p q] L M0 Z ∧ (∀ p ∈ L, LsOf c Fr Mr p.1 p.2) ∧ ∀ d Mn, Z d Mn → Z2 d (Mn ++ Mr)
theorem e_meth0 {S : List D → List (Addr × List D) → Mm → (D → Mm → Prop) → Prop} {Z0 Z2 : D → Mm → Prop} (hK : X.K = c.K) (hc : Cls c.K C) (F : MtAt X.prog X.w c X.mg X.base C m k (spM c S)) (hr : Room j X.A) (ho : Ev X c Fr G M env o Z0)
    (h : ∀ d0 M1, Z0 d0 M1 → Mq0 c Fr C m S Z2 d0 M1) (hk : k ≤ j := by decide)
    (ht : eval (.Call (.Attribute o m apos) [] [] pos) X.env = (do
      let ov ← eval o X.env
      standAt apos.atName
      let (f, first) ← holding [ov] (getMethod ov m pl)
      callWith pos f first (backTo pos (starEach [] X.env)) (backToKw pos (keywordEach [] X.env))) := by rfl) : Ev X c Fr G M env (.Call (.Attribute o m apos) [] [] pos) Z2 := fun σ H A Q q => by
  obtain ⟨g, hm, F⟩ := F
  rw [← hK] at hc hm F
  refine (pe_meth0R (E := fun _ _ _ => False) (pl := pl) we hc hm F (hr.mono hk) (fun _ _ _ _ _ _ _ h => h.elim) ht).w (ho σ H A _ fun d0 M1 v H1 z A1 i1 r => ?_)
  obtain ⟨q1, dx, fs, L, M0, Mr, Z, rfl, hM, hl, hp, hS, hL, hz⟩ := h d0 M1 z
  obtain ⟨vs, h1, h2⟩ := (A1.ob _ hM).2
  exact ⟨q1, dx, vs, rp_v.mp r, h1, h2.lookN hl, A1.takes hp (rpl_cons.mpr ⟨_, [], rfl, r, rpl_nil.mpr rfl⟩) hS hL fun d Mn v H3 z A3 i3 rv => q d _ v H3 (hz d Mn z) A3 (i1.trans i3) rv⟩
/-- the object stands by a place, the method's objects first -/
theorem e_methI (i : Nat) (L : List (Addr × List D)) (M0 Mr : Mm) {S : List D → List (Addr × List D) → Mm → (D → Mm → Prop) → Prop} {Z Z2 : D → Mm → Prop} (hK : X.K = c.K) (hc : Cls c.K C) (F : MtAt X.prog X.w c X.mg X.base C m k (spM c S)) (hr : Room j X.A) (ho : Pv X c Fr G M env o (.p q)) (ha : Pa X c Fr G M env (e :: es) ds)
    (hS : S (.p q :: ds) L M0 Z) (hL : ∀ p ∈ L, LsOf c Fr Mr p.1 p.2) (hz : ∀ d Mn, Z d Mn → Z2 d (Mn ++ Mr)) (hM : M[i]? = some (q, .ins C dx fs) := by rfl) (hl : fs.lookup m = none := by rfl) (hp : M.Perm (M0 ++ Mr) := by exact List.Perm.refl _) (hk : k ≤ j := by decide)
    (hst : starEach (e :: es) X.env = (false, eval e X.env) :: starEach es X.env := by rfl) (hpl : (backTo pos (starEach es X.env)).any (·.1) = false := by rfl)
    (ht : eval (.Call (.Attribute o m apos) (e :: es) [] pos) X.env = (do
      let ov ← eval o X.env
      standAt apos.atName
      let (f, first) ← holding [ov] (getMethod ov m pl)
      callWith pos f first (backTo pos (starEach (e :: es) X.env)) (backToKw pos (keywordEach [] X.env))) := by rfl) : Ev X c Fr G M env (.Call (.Attribute o m apos) (e :: es) [] pos) Z2 :=
  e_meth (pl := pl) hK hc F hr ho.ev (fun d0 M1 z => by
    obtain ⟨rfl, rfl⟩ := z
    exact ⟨q, dx, fs, ds, L, M0, Mr, Z, rfl, List.mem_of_getElem? hM, hl, ha, hp, hS, hL, hz⟩) hk hst hpl ht
theorem e_meth0I (i : Nat) (L : List (Addr × List D)) (M0 Mr : Mm) {S : List D → List (Addr × List D) → Mm → (D → Mm → Prop) → Prop} {Z Z2 : D → Mm → Prop} (hK : X.K = c.K) (hc : Cls c.K C) (F : MtAt X.prog X.w c X.mg X.base C m k (spM c S)) (hr : Room j X.A) (ho : Pv X c Fr G M env o (.p q))
    (hS : S [.p q] L M0 Z) (hL : ∀ p ∈ L, LsOf c Fr Mr p.1 p.2) (hz : ∀ d Mn, Z d Mn → Z2 d (Mn ++ Mr)) (hM : M[i]? = some (q, .ins C dx fs) := by rfl) (hl : fs.lookup m = none := by rfl) (hp : M.Perm (M0 ++ Mr) := by exact List.Perm.refl _) (hk : k ≤ j := by decide)
    (ht : eval (.Call (.Attribute o m apos) [] [] pos) X.env = (do
      let ov ← eval o X.env
      standAt apos.atName
      let (f, first) ← holding [ov] (getMethod ov m pl)
      callWith pos f first (backTo pos (starEach [] X.env)) (backToKw pos (keywordEach [] X.env))) := by rfl) : Ev X c Fr G M env (.Call (.Attribute o m apos) [] [] pos) Z2 :=
  e_meth0 (pl := pl) hK hc F hr ho.ev (fun d0 M1 z => by
    obtain ⟨rfl, rfl⟩ := z
    exact ⟨q, dx, fs, L, M0, Mr, Z, rfl, List.mem_of_getElem? hM, hl, hp, hS, hL, hz⟩) hk ht
/-- no effect after all -/
theorem Ev.pure {Z : D → Mm → Prop} (h : Ev X c Fr G M env e Z) (hz : ∀ d' M', Z d' M' → d' = d ∧ M'.Perm M) : Pv X c Fr G M env e d := fun σ H A Q q => h σ H A Q fun d' M' v H2 z A2 i2 r => by
  obtain ⟨rfl, hp⟩ := hz d' M' z
  exact q v H2 (A2.perm hp) i2 r
theorem Ev.imp {Z Z2 : D → Mm → Prop} (h : Ev X c Fr G M env e Z) (hz : ∀ d' M', Z d' M' → ∃ M2, M'.Perm M2 ∧ Z2 d' M2) : Ev X c Fr G M env e Z2 := fun σ H A Q q => h σ H A Q fun d' M' v H2 z A2 i2 r => by
  obtain ⟨M2, hp, z2⟩ := hz d' M' z
  exact q d' M2 v H2 z2 (A2.perm hp) i2 r
/-- a test with an effect, by a value -/
theorem Ev.toL {Z : D → Mm → Prop} (h : Ev X c Fr G M env e Z) (hz : ∀ d' M', Z d' M' → ∃ l, d' = .p l ∧ M' = (l, .lst ds) :: M) : Pl X c Fr G M env e ds := fun σ H A Q q => h σ H A Q fun d' M' v H2 z A2 i2 r => by
  obtain ⟨l, rfl, rfl⟩ := hz d' M' z
  rw [rp_v.mp r]
  exact q l H2 A2 i2
/-- a class called: the new instance, what its __init__ leaves -/
theorem e_make {S : List D → List (Addr × List D) → Mm → (D → Mm → Prop) → Prop} {Z2 : D → Mm → Prop} (L : List (Addr × List D)) (M0 Mr : Mm) (F : MkAt X.prog X.w c X.mg X.base C x k (spM c S)) (hK : X.K = c.K) (hr : Room j X.A) (ha : Pa X c Fr G M env (e :: es) ds)
    (hS : ∀ x dx, ∃ Z, S (.p x :: ds) L ((x, .ins C dx []) :: M0) Z ∧ ∀ d Mn, Z d Mn → d = .n ∧ Z2 (.p x) (Mn ++ Mr)) (hL : ∀ p ∈ L, LsOf c Fr Mr p.1 p.2) (hp : M.Perm (M0 ++ Mr) := by exact List.Perm.refl _) (hj : k + 1 ≤ j := by decide) (hg : Gl X x := by rfl) (hdb : (x == ("__debug__" : Str)) = false := by decide)
    (hst : starEach (e :: es) X.env = (false, eval e X.env) :: starEach es X.env := by rfl) (hpl : (backTo p2 (starEach es X.env)).any (·.1) = false := by rfl) : Ev X c Fr G M env (.Call (.Name x p1) (e :: es) [] p2) Z2 := fun σ H A Q q => by
  obtain ⟨g, hm, M1, F⟩ := F
  rw [← hK] at M1 F
  refine (StX.pe_makeR (E := fun _ _ _ => False) M1 F (hr.mono hj) hg hm (fun _ _ _ _ _ _ _ h => h.elim) wa hdb hst hpl).w (ha σ H A _ fun vs H1 A1 i1 rs => fun x dx hx hdx ne => ?_)
  obtain ⟨Z, hS, hZ⟩ := hS x dx
  have e1 : Ex H1 (upd H1 dx (.own x)) := Ex.new hdx
  have hx' : upd H1 dx (.own x) x = none := by rw [upd_ne (Ne.symm ne)]; exact hx
  have A2 : At c Fr G ((x, .ins C dx []) :: M) env σ (upd (upd H1 dx (.own x)) x (.ins C dx [])) := (A1.ex e1).new hx' (Ex.new hx') ⟨[], upd_same, rfl, rpl_nil.mpr rfl⟩
  have i2 : IM H1 (upd (upd H1 dx (.own x)) x (.ins C dx [])) := e1.im.trans (IM.new hx')
  exact A2.takes (hp.cons _) (rpl_cons.mpr ⟨_, vs, rfl, rp_v.mpr rfl, rs.im i2⟩) hS hL fun d Mn v H3 z A3 i3 rv => by
    obtain ⟨rfl, z2⟩ := hZ d Mn z
    exact ⟨rp_v.mp rv, q _ _ _ H3 z2 A3 ((i1.trans i2).trans i3) (rp_v.mpr rfl)⟩
/-- methods of slotted instances: no effect -/
theorem v_methSl {kb : Bool} {R : List D → D → Prop} (hK : X.K = c.K) (F : MtAt X.prog X.w c X.mg X.base (c.cl kb) m k (spD c R)) (hs : SlX.SCls c.K (c.cl kb)) (hr : Room j X.A) (ho : Pv X c Fr G M env o (.sl kb d0)) (ha : Pa X c Fr G M env (e :: es) ds) (h : R (.sl kb d0 :: ds) d) (hk : k ≤ j := by decide)
    (hst : starEach (e :: es) X.env = (false, eval e X.env) :: starEach es X.env := by rfl) (hpl : (backTo pos (starEach es X.env)).any (·.1) = false := by rfl)
    (ht : eval (.Call (.Attribute o m apos) (e :: es) [] pos) X.env = (do
      let ov ← eval o X.env
      standAt apos.atName
      let (f, first) ← holding [ov] (getMethod ov m pl)
      callWith pos f first (backTo pos (starEach (e :: es) X.env)) (backToKw pos (keywordEach [] X.env))) := by rfl) : Pv X c Fr G M env (.Call (.Attribute o m apos) (e :: es) [] pos) d := fun σ H A Q q => by
  obtain ⟨g, hm, F⟩ := F
  rw [← hK] at hm F hs
  refine (SlX.pe_methSl (E := fun _ _ _ => False) (pl := pl) we hs hm F (hr.mono hk) (fun _ _ _ _ _ _ _ h => h.elim) wa hst hpl ht).w (ho σ H A _ fun v H1 A1 i1 r => ?_)
  obtain ⟨a, dx, u, rfl, g1, g2⟩ := rp_sl.mp r
  exact ⟨a, dx, _, rfl, g1, ha σ H1 A1 _ fun ws H2 A2 i2 rs => ⟨_, d, rpl_cons.mpr ⟨_, ws, rfl, r.im i2, rs⟩, h, fun v H3 e3 rv => q v H3 (A2.ex e3) ((i1.trans i2).trans e3.im) rv⟩⟩
end

section
variable {P : Program} {w : World} {c : Cs} {mg : Str → Option Value} {base : Heap} {k : Nat} {x qual : Str} {params : Arguments} {body : List Stmt} {scope : Scope} {f : Addr} {fd : FuncData} {ps N : List Str}
theorem fnMR {R : List D → List (Addr × List D) → D → Prop} (F : FunD c.K x qual params body scope [] [] f fd) (Sc : FnScope N ps scope)
    (hb : ∀ (kV doc pm : Value) (an : Option Addr) (cdv ct : Value) (us : List Value), us.length = ps.length → bindArgs (PySem.W.fnOf x qual params body scope .none kV doc pm an cdv ct) ⟨us, []⟩ = pure (ps.zip us))
    (len : ∀ ds L d, R ds L d → ds.length = ps.length) (n : Nat) (hn : ps.length + n = N.length)
    (h : ∀ (cdv : Value) (A : Around) (outer : List Env) (s : Shared) (H0 Fr : Hp) (E : XK) (ds : List D) (L : List (Addr × List D)) (d : D) (σ : L2.St), Room k (A.deeper (envOfC qual scope s.heap.objs.size f cdv)) → R ds L d → (∀ p ∈ L, LsAt c Fr p.1 p.2) → At c Fr [] [] (ds.map some ++ List.replicate n none) σ H0 →
      ∀ Q : VK, (∀ G M env σ v H', At c Fr G M env σ H' → Rp c H' d v → Q v H') →
      WB (cxOf CX0 P w c.K mg base N qual scope f cdv A outer s H0 E).nox body { nx := fun _ H' => Q .non H', rt := Q } σ H0) : FnR P w c.K mg base CX0 (k + 1) f (spR c R) :=
  fnM F Sc hb rfl (fun ds L M0 Z z => by
    obtain ⟨_, d0, h, _⟩ := z
    exact len ds L d0 h) n hn fun cdv A outer s H0 Fr E ds L M0 Z σ hr z hL At0 Q q => by
    obtain ⟨rfl, d0, hR, rfl⟩ := z
    exact h cdv A outer s H0 Fr E ds L d0 σ hr hR hL At0 Q fun G M env σ v H' B r => q d0 G [] env σ v H' ⟨rfl, rfl⟩ (B.less (List.nil_sublist _)) r
theorem fnML {R : List D → List (Addr × List D) → List D → Prop} (F : FunD c.K x qual params body scope [] [] f fd) (Sc : FnScope N ps scope)
    (hb : ∀ (kV doc pm : Value) (an : Option Addr) (cdv ct : Value) (us : List Value), us.length = ps.length → bindArgs (PySem.W.fnOf x qual params body scope .none kV doc pm an cdv ct) ⟨us, []⟩ = pure (ps.zip us))
    (len : ∀ ds L d, R ds L d → ds.length = ps.length) (n : Nat) (hn : ps.length + n = N.length)
    (h : ∀ (cdv : Value) (A : Around) (outer : List Env) (s : Shared) (H0 Fr : Hp) (E : XK) (ds : List D) (L : List (Addr × List D)) (ys : List D) (σ : L2.St), Room k (A.deeper (envOfC qual scope s.heap.objs.size f cdv)) → R ds L ys → (∀ p ∈ L, LsAt c Fr p.1 p.2) → At c Fr [] [] (ds.map some ++ List.replicate n none) σ H0 →
      ∀ Q : VK, (∀ G M env σ l H', At c Fr G M env σ H' → (l, Ob.lst ys) ∈ M → Q (.ref l) H') →
      WB (cxOf CX0 P w c.K mg base N qual scope f cdv A outer s H0 E).nox body { nx := fun _ H' => Q .non H', rt := Q } σ H0) : FnR P w c.K mg base CX0 (k + 1) f (spL c R) :=
  fnM F Sc hb rfl (fun ds L M0 Z z => by
    obtain ⟨_, d0, h, _⟩ := z
    exact len ds L d0 h) n hn fun cdv A outer s H0 Fr E ds L M0 Z σ hr z hL At0 Q q => by
    obtain ⟨rfl, ys, hR, rfl⟩ := z
    exact h cdv A outer s H0 Fr E ds L ys σ hr hR hL At0 Q fun G M env σ l H' B hm => q (.p l) G [(l, .lst ys)] env σ (.ref l) H' ⟨l, rfl, rfl⟩ (B.less (List.singleton_sublist.mpr hm)) (rp_v.mpr rfl)
end
end Sx
end
section
set_option maxRecDepth 100000
set_option maxHeartbeats 3200000
/-! sets of keys (ints, texts) made from a list, a tuple: the members by a list without order -/
namespace Sx
open PySem PySem.Spec PyProof.Rows L2
def keyK (e : Int × Value) : Key := match e.2 with
  | .int i _ => .inl i
  | .str z _ => .inr z
  | _ => .inl 0
def MadeOf (w : World) (e : Int × Value) : Prop := RelV (kV (keyK e)) e.2 ∧ e.1 = keyH w (keyK e)
theorem key_of {k : Key} {u : Value} {h : Int} (r : RelV (kV k) u) : keyK (h, u) = k := by
  cases k with
  | inl i =>
    obtain ⟨t, rfl⟩ := r
    rfl
  | inr z =>
    obtain ⟨t, rfl⟩ := r
    rfl
section
variable {P : Program} {w : World}
theorem made_elems {l : List (Int × Value)} (g : ∀ e ∈ l, MadeOf w e) : ElemsOf (mixKind P w) l := fun e he => ⟨⟨keyK e, kV_is (g e he).1, (g e he).2⟩, key_scan (g e he).1⟩
theorem made_is {e : Int × Value} (g : MadeOf w e) (k : Key) : (mixKind P w).is k e.2 = true ↔ keyK e = k := by
  constructor
  · intro h
    exact (mixKind P w).inj e.2 _ _ (kV_is g.1) h
  · rintro rfl
    exact kV_is g.1
/-- the set at a holds just these keys -/
def SetQ (w : World) (h : Heap) (a : Addr) (l : List Key) : Prop :=
  ∃ o es ep t, h.get? a = some o ∧ o.ExactSet ∧ o.data = .set es ep t ∧ ((∀ e ∈ es.toList, MadeOf w e) ∧ (es.toList.map keyK).Perm l ∧ l.Nodup) ∧ es.size < scanBound ∧ t.fits es.size = true ∧ Ris t.place.toList ∧ (w.params.followText "set-order" = true ∨ t.led = true)
theorem SetQ.at {h h' : Heap} {a : Addr} {l : List Key} (R : SetQ w h a l) (k : ∀ o, h.get? a = some o → h'.get? a = some o) : SetQ w h' a l := by
  obtain ⟨o, es, ep, t, ho, r⟩ := R
  exact ⟨o, es, ep, t, k o ho, r⟩
theorem SetQ.size {h : Heap} {a : Addr} {l : List Key} (R : SetQ w h a l) : l.length < scanBound := by
  obtain ⟨o, es, ep, t, ho, _, _, ⟨_, p, _⟩, hb, _⟩ := R
  rw [← p.length_eq, List.length_map, Array.length_toList]
  exact hb
def decK (k : Key) (l : List Key) : Decidable (k ∈ l) := @List.instDecidableMemOfLawfulBEq Key instBEqOfDecidableEq inferInstance k l
def insK (l : List Key) (k : Key) : List Key := @ite _ (k ∈ l) (decK k l) l (k :: l)
theorem setq_none {h : Heap} {a : Addr} (ho : h.get? a = some { cls := .type "set", dict := none, data := .set #[] 0 (.fresh 0 0 (!w.params.followText "set-order")) }) : SetQ w h a [] :=
  ⟨_, #[], 0, _, ho, ⟨rfl, rfl, rfl⟩, rfl, ⟨fun e he => by simp at he, List.Perm.refl _, List.nodup_nil⟩, by decide, by rfl, List.Pairwise.nil, by
    show _ ∨ (!w.params.followText "set-order") = true
    cases w.params.followText "set-order" <;> simp⟩
end
section
variable {P : Program} {w : World} {A : Around} {E : Value → Shared → Prop} {s : Shared} {a : Addr} {l : List Key}
/-- behind the new row: the table may be laid anew -/
theorem setq_tail {g : Bool → Sem Unit} (hg : ∀ (b : Bool) (s₁ : Shared) (Q' : Unit → Shared → Prop), Q' () s₁ → wpAny (model P w) A (g b) Q' E s₁)
    {o : Obj} {es : Array (Int × Value)} {ep : Nat} {t : SetTable} (ho : s.heap.get? a = some o) (hex : o.ExactSet) (hd : o.data = .set es ep t) {es1 : Array (Int × Value)} {t2 : SetTable} (hm : (∀ e ∈ es1.toList, MadeOf w e) ∧ (es1.toList.map keyK).Perm l ∧ l.Nodup)
    (hb1 : es1.size < scanBound) (hf2 : t2.fits es1.size = true) (hr : Ris t2.place.toList) (hl : w.params.followText "set-order" = true ∨ t2.led = true) {dum : Bool} {R : Option Bool → Shared → Prop}
    (hR : ∀ h', Heap.SameBut a s.heap h' → SetQ w h' a l → R (some true) { s with heap := h' }) :
    wpAny (model P w) A (do
        storeSet a es1 t2
        if (!dum && t2.tooFull) = true then do
            g (relayAll t2 es1 (SetTable.grown es1.size)).2.2
            storeSet a (relayAll t2 es1 (SetTable.grown es1.size)).1 (relayAll t2 es1 (SetTable.grown es1.size)).2.1
            pure (some true)
          else pure (some true)) R E s := by
  have first := store_at (es' := es1) (t' := t2) ho hd
  have same := Heap.SameBut.update s.heap a (Obj.putSet es1 t2)
  refine wpAny_bind (wpAny_storeSet_of ho hd ?_ (fits_of_scanBound hb1))
  by_cases full : (!dum && t2.tooFull) = true
  · rw [if_pos full]
    have pm := relayAll_perm t2 es1 (SetTable.grown es1.size)
    have ff := relayAll_fits t2 es1 (SetTable.grown es1.size)
    have rr := relayAll_ris t2 es1 (SetTable.grown es1.size)
    have ll := relayAll_led t2 es1 (SetTable.grown es1.size)
    revert pm ff rr ll
    generalize relayAll t2 es1 (SetTable.grown es1.size) = Z
    obtain ⟨es2, t3, gave⟩ := Z
    intro pm ff rr ll
    dsimp only at pm ff rr ll ⊢
    have hb2 : es2.size < scanBound := by
      rw [← Array.length_toList, pm.length_eq, Array.length_toList]
      exact hb1
    refine wpAny_bind (hg _ _ _ (wpAny_bind (wpAny_storeSet_of first rfl ?_ (fits_of_scanBound hb2))))
    exact wpAny_pure (hR _ (same.trans (Heap.SameBut.update _ a _)) ⟨_, es2, _, t3, store_at (es' := es2) (t' := t3) first rfl, hex, rfl, ⟨fun e he => hm.1 e (pm.mem_iff.mp he), (pm.map keyK).trans hm.2.1, hm.2.2⟩, hb2, ff, rr, hl.imp id fun z => ll.trans z⟩)
  · rw [if_neg full]
    exact wpAny_pure (hR _ same ⟨_, es1, _, t2, first, hex, rfl, hm, hb1, hf2, hr, hl⟩)
theorem setq_add {k : Key} {u : Value} {Q : Bool → Shared → Prop} (hu : RelV (kV k) u) (R : SetQ w s.heap a l) (room : l.length + 1 < scanBound) (hQ : ∀ b h', Heap.SameBut a s.heap h' → SetQ w h' a (insK l k) → Q b { s with heap := h' }) :
    wpAny (model P w) A (setAddHashed a u ((mixKind P w).hash k)) Q E s := by
  obtain ⟨o, es, ep, t, ho, hex, hd, ⟨g, pl, nd⟩, hb, hf, hr, hl⟩ := R
  have hkey : (mixKind P w).is k u = true := kV_is hu
  have hsc := key_scan hu
  have hel : ElemsOf (mixKind P w) es.toList := made_elems g
  have hgw : ∀ (b : Bool) {s₁ : Shared} {Q' : Unit → Shared → Prop}, Q' () s₁ → wpAny (model P w) A (match b with | true => rule "set.scan.the-table-gave-way" | false => pure ()) Q' E s₁ := fun b s₁ Q' q => by
    cases b
    · exact wpAny_pure q
    · exact wpAny_rule q
  unfold setAddHashed setAddHashedIn
  refine wpAny_holding (wpAny_bind (wpAny_setState_of ho hd hf ?_))
  dsimp only
  rw [byScan_of hsc hb hel]
  simp only [↓reduceIte]
  unfold setAddByScan
  refine wpAny_bind (wpAny_bind (wpAny_rule (wpAny_bind (wpAny_setScan_of hkey ho hd hf hel ?_))))
  cases hfi : List.findIdx? (fun e => (mixKind P w).is k e.2) es.toList with
  | some j =>
    obtain ⟨hj, pj, _⟩ := List.findIdx?_eq_some_iff_getElem.mp hfi
    have hin : k ∈ l := pl.mem_iff.mp (List.mem_map.mpr ⟨_, List.getElem_mem hj, (made_is (g _ (List.getElem_mem hj)) k).mp pj⟩)
    dsimp only
    refine wpAny_pure (wpAny_pure (hQ _ s.heap (Heap.SameBut.refl a s.heap) ⟨o, es, ep, t, ho, hex, hd, ?_, hb, hf, hr, hl⟩))
    unfold insK
    rw [if_pos hin]
    exact ⟨g, pl, nd⟩
  | none =>
    have hnk : k ∉ l := fun z => by
      obtain ⟨e, he, q⟩ := List.mem_map.mp (pl.mem_iff.mpr z)
      have c := List.findIdx?_eq_none_iff.mp hfi e he
      rw [(made_is (g e he) k).mpr q] at c
      cases c
    dsimp only
    have pm := layNew_perm t es ((mixKind P w).hash k) u
    have ff := layNew_fits t es ((mixKind P w).hash k) u
    have rr := layNew_ris t es ((mixKind P w).hash k) u hr
    have ll := layNew_led t es ((mixKind P w).hash k) u
    revert pm ff rr ll
    generalize layNew t es ((mixKind P w).hash k) u = Z
    obtain ⟨es1, t1, dum, gave⟩ := Z
    intro pm ff rr ll
    dsimp only at pm ff rr ll ⊢
    rw [Array.toList_push] at pm
    have pc : es1.toList.Perm (((mixKind P w).hash k, u) :: es.toList) := pm.trans (List.perm_append_singleton _ _)
    have mk : MadeOf w ((mixKind P w).hash k, u) := by
      unfold MadeOf
      rw [key_of hu]
      exact ⟨hu, rfl⟩
    have hm : (∀ e ∈ es1.toList, MadeOf w e) ∧ (es1.toList.map keyK).Perm (insK l k) ∧ (insK l k).Nodup := by
      unfold insK
      rw [if_neg hnk]
      refine ⟨fun e he => ?_, ?_, List.nodup_cons.mpr ⟨hnk, nd⟩⟩
      · rcases List.mem_cons.mp (pc.mem_iff.mp he) with z | z
        · rw [z]
          exact mk
        · exact g e z
      · have q := pc.map keyK
        rw [List.map_cons, key_of hu] at q
        exact q.trans (pl.cons k)
    have hb1 : es1.size < scanBound := by
      have := pc.length_eq
      rw [List.length_cons, Array.length_toList, Array.length_toList] at this
      have h2 := pl.length_eq
      rw [List.length_map, Array.length_toList] at h2
      omega
    have hled : w.params.followText "set-order" = true ∨ t1.led = true := hl.imp id fun z => ll.trans z
    refine wpAny_bind (hgw _ ?_)
    split
    · refine wpAny_bind ?_
      rw [hashByValue_scannable 8 hsc]
      refine wpAny_pure (setq_tail ?_ ho hex hd hm hb1 ?_ ?_ ?_ ?_)
      · intro b s₁ Q' q
        exact hgw b q
      · first | (split <;> first | exact ff | exact SetTable.fits_plain_off ff) | exact ff
      · first | (split <;> exact rr) | exact rr
      · first | (split <;> exact hled) | exact hled
      · intro h' sb r
        exact wpAny_pure (hQ _ h' sb r)
    · refine wpAny_bind (wpAny_pure ?_)
      simp only [↓reduceIte]
      refine setq_tail ?_ ho hex hd hm hb1 ff rr hled ?_
      · intro b s₁ Q' q
        exact hgw b q
      · intro h' sb r
        exact wpAny_pure (hQ _ h' sb r)
def keysOf (ks : List Key) : List Key := ks.foldl insK []
theorem ins_le (l : List Key) (k : Key) : (insK l k).length ≤ l.length + 1 := by
  unfold insK
  split <;> simp
theorem keysOf_le : ∀ (ks l : List Key), (ks.foldl insK l).length ≤ l.length + ks.length
  | [], l => Nat.le_refl _
  | k :: ks, l => by
    have h1 := keysOf_le ks (insK l k)
    have h2 := ins_le l k
    rw [List.foldl_cons, List.length_cons]
    omega
theorem setq_loop {I : Addr} {fp wr : List Addr} {G : Array GenState → Array GenState → Prop} {n : Nat} {Pv : Nat → Value → Prop} {St : Nat → Shared → Prop} {R : Result → Shared → Prop}
    (W : WalksS P w A.in1 I fp wr G n Pv St) (S : Addr) (hSf : S ∉ fp) (ks : List Key) (hn : n = ks.length) (hb : ks.length + 1 < scanBound) (hval : ∀ i v, Pv i v → ∃ k, ks[i]? = some k ∧ RelV (kV k) v) :
    ∀ (m i : Nat) (s : Shared), n - i = m → i ≤ n → St i s → SetQ w s.heap S (keysOf (ks.take i)) → (∀ s', Moved (S :: wr) G s s' → SetQ w s'.heap S (keysOf ks) → R (.ok (.ret .none)) s') → codeAny (model P w) A (.builtin "set.update.loop" ⟨[.ref S, .ref I], []⟩) R s := by
  have hSw : S ∉ wr := fun h => hSf (W.sub _ h)
  have hsub : ∀ b ∈ wr, b ∈ S :: wr := fun b hb => List.mem_cons_of_mem _ hb
  intro m
  induction m with
  | zero =>
    intro i s hm hi hst hS hR
    obtain rfl : i = n := by omega
    refine codeAny_builtin F.entry_set_update_loop ?_
    rw [Around.under_plainId F.plain_set_update_loop _]
    show wpAny _ A.in1 (pyNext (.ref I) >>= _) _ _ s
    refine wpAny_bind (W.done s _ _ hst fun s' mv => ?_)
    show wpAny _ A.in1 (ret Value.none) _ _ s'
    rw [List.take_of_length_le (Nat.le_of_eq hn.symm)] at hS
    exact wpAny_pure (hR s' (mv.mono hsub) (hS.at fun o e => mv.heap S o hSw e))
  | succ m ih =>
    intro i s hm hi hst hS hR
    have hlt : i < n := by omega
    refine codeAny_builtin F.entry_set_update_loop ?_
    rw [Around.under_plainId F.plain_set_update_loop _]
    show wpAny _ A.in1 (pyNext (.ref I) >>= _) _ _ s
    refine wpAny_bind (W.item i s _ _ hlt hst fun v s' hP hst' mv => ?_)
    obtain ⟨z, hz, hv⟩ := hval i v hP
    show wpAny _ A.in1 (holding [v] (setAdd S v) >>= _) _ _ s'
    refine wpAny_bind (wpAny_holding ?_)
    unfold setAdd
    refine wpAny_holding (wpAny_bind ((mixKind P w).pyHash (k := z) (kV_is hv) ?_))
    have sz : (keysOf (ks.take i)).length + 1 < scanBound := by
      have h1 := keysOf_le (ks.take i) []
      have h2 : (ks.take i).length ≤ ks.length := by rw [List.length_take]; exact Nat.min_le_right _ _
      have h3 : keysOf (ks.take i) = (ks.take i).foldl insK [] := rfl
      rw [h3]
      rw [List.length_nil] at h1
      omega
    refine setq_add (s := { s' with toks := s'.toks + 1 }) hv (hS.at fun o e => mv.heap S o hSw e) sz fun b h' sb hS2 => ?_
    have hS3 : SetQ w h' S (keysOf (ks.take (i + 1))) := by
      rw [List.take_add_one, hz]
      unfold keysOf
      rw [List.foldl_append]
      exact hS2
    refine wpAny_pure ⟨plainId_quiet F.plain_set_update_loop _, ih (i + 1) _ (by omega) hlt (W.frame _ s' _ _ hst' (Nat.le_succ _) fun b hb o e => ?_) hS3 fun s'' mv' hS'' => ?_⟩
    · rw [sb.2 b (fun h : b = S => hSf (h ▸ hb))]
      exact e
    · refine hR s'' (Moved.trans W.gtrans ((mv.mono hsub).then_heap (Nat.le_succ _) fun b o hb e => ?_) mv') hS''
      rw [sb.2 b (fun h : b = S => hb (h ▸ List.mem_cons_self))]
      exact e

def SeqIs (h : Heap) (T : String) (a : Addr) (items : Array Value) : Prop := ∃ o, h.get? a = some o ∧ o.cls = .type T ∧ ∃ n, o.data = .seq items n
def IterIs (h : Heap) (T : String) (a l : Addr) (i : Nat) : Prop := ∃ o, h.get? a = some o ∧ o.cls = .type T ∧ o.data = .fields #[.ref l, .int i 0]
theorem SeqIs.push {h : Heap} {T : String} {a : Addr} {items : Array Value} {o : Obj} (x : SeqIs h T a items) : SeqIs (h.push o) T a items := by
  obtain ⟨u, h1, h2⟩ := x
  exact ⟨u, Heap.get?_push_of_some _ h1, h2⟩
structure Walkable (P : Program) (w : World) (T IT : String) : Prop where
  ss : isSubtype (.type T) (.type "set") = pure false
  sf : isSubtype (.type T) (.type "frozenset") = pure false
  nd : (Value.type T == Value.type "dict") = false
  it : ∀ {A : Around} {E : Value → Shared → Prop} {s : Shared} {l : Addr} {items : Array Value} {Q : Value → Shared → Prop}, SeqIs s.heap T l items → Q (.ref s.heap.objs.size) { s with heap := s.heap.push { cls := .type IT, data := .fields #[.ref l, .int 0 0] } } → wpAny (model P w) A (pyIter (.ref l)) Q E s
  wk : ∀ {A : Around} {I ax : Addr}, A.handled = none → ax ≠ I → ∀ items : Array Value, Walks P w A I [I, ax] [I] items.size (fun i v => items[i]? = some v) (fun i h => IterIs h IT I ax i ∧ SeqIs h T ax items)
theorem walk_list : Walkable P w "list" "list_iterator" := ⟨F.sub_list_set, F.sub_list_frozenset, by decide, fun h q => wpAny_pyIter_list h q, fun h n items => Walks.list h _ _ n items⟩
theorem walk_tuple : Walkable P w "tuple" "tuple_iterator" := ⟨F.sub_tuple_set, F.sub_tuple_frozenset, by decide, fun h q => wpAny_pyIter_tuple h q, fun h n items => Walks.tuple h _ _ n items⟩
theorem vals_at : ∀ {xs : List V} {us : List Value} {i : Nat} {u : Value}, Vals xs us → us[i]? = some u → ∃ x, xs[i]? = some x ∧ RelV x u
  | _, _, i, u, .nil, h => by simp at h
  | _, _, 0, u, .cons r rs, h => by
    simp only [List.getElem?_cons_zero, Option.some.injEq] at h
    exact ⟨_, rfl, h ▸ r⟩
  | _, _, i + 1, u, .cons r rs, h => by
    rw [List.getElem?_cons_succ] at h
    obtain ⟨x, h1, h2⟩ := vals_at rs h
    exact ⟨x, by rw [List.getElem?_cons_succ]; exact h1, h2⟩

theorem set_of {T IT : String} (k0 : Walkable P w T IT) {l : Addr} {items : Array Value} (ks : List Key) {Q : Value → Shared → Prop} (hh : A.handled = none) (hl : SeqIs s.heap T l items) (hit : Vals (ks.map kV) items.toList) (hb : ks.length + 1 < scanBound)
    (h : ∀ (h' : Heap) (tk : Nat), SetQ w h' s.heap.objs.size (keysOf ks) → (∀ b o, s.heap.get? b = some o → h'.get? b = some o) → Q (.ref s.heap.objs.size) { s with heap := h', toks := tk }) :
    wpAny (model P w) A (call (.type "set") [.ref l]) Q E s := by
  have hisz : items.size = ks.length := by
    have q := hit.length
    rw [List.length_map, Array.length_toList] at q
    exact q.symm
  obtain ⟨c, tl, hmro⟩ := F.called_set.mro
  have hmade := F.called_set.made
  have hsub := F.called_set.sub
  refine wpAny_call (codeAny_of_tree ?_)
  show wpAny _ _ (callAny (.type "set") _) _ _ _
  refine wpAny_pure ⟨Code.quiet_builtin _ (by decide +kernel), codeAny_builtin F.entry_type_call ?_⟩
  rw [Around.under_plain (weight_type_call_type "set" [.ref l] []) rfl]
  have h1 := F.called_set.notType
  have h2 := F.called_set.canCreate
  have hct := F.typeCall_set_1 (.ref l)
  repeat (any_goals (first | assumption | wp_step))
  refine codeAny_mono (code_set_led1 (.ref l) (E := E) (Q₁ := fun ob s₁ => ob = .ref s.heap.objs.size ∧ s₁ = { s with heap := s.heap.push { cls := .type "set", dict := none, data := .set #[] 0 (.fresh 0 0 (!w.params.followText "set-order")) } }) ⟨rfl, rfl⟩) fun r s₁ hr => ?_
  cases r with
  | error e => exact hr
  | ok fl =>
    cases fl with
    | ret ob =>
      obtain ⟨rfl, rfl⟩ := hr
      have hS : (s.heap.push { cls := .type "set", dict := none, data := .set #[] 0 (.fresh 0 0 (!w.params.followText "set-order")) }).get? s.heap.objs.size = some { cls := .type "set", dict := none, data := .set #[] 0 (.fresh 0 0 (!w.params.followText "set-order")) } := Heap.get?_push_size _ rfl
      have hT : Shared.TypeIs { s with heap := s.heap.push { cls := .type "set", dict := none, data := .set #[] 0 (.fresh 0 0 (!w.params.followText "set-order")) } } (.ref s.heap.objs.size) "set" := ⟨_, hS, rfl⟩
      have hli := F.called_set.init.lookup
      have hbi := F.called_set.init.bind (.ref s.heap.objs.size)
      repeat (any_goals (first | assumption | wp_step))
      refine codeAny_mono (codeAny_call_builtin (R := wants (fun r s₂ => r = .none ∧ ∃ h' tk, s₂ = { s with heap := h', toks := tk } ∧ SetQ w h' s.heap.objs.size (keysOf ks) ∧ (∀ b o, s.heap.get? b = some o → h'.get? b = some o)) E) F.called_set.init.plain F.entry_set_init (check_set_init_1 hT ?_)) fun r₂ s₂ hr₂ => ?_
      · obtain ⟨ol, hol, hcl, nl, hdl⟩ := hl
        obtain ⟨ocls, odict, odata, oslots⟩ := ol
        simp only at hcl hdl
        subst hcl
        subst hdl
        have hol' : (s.heap.push { cls := .type "set", dict := none, data := .set #[] 0 (.fresh 0 0 (!w.params.followText "set-order")) }).get? l = some { cls := .type T, dict := odict, data := .seq items nl, slots := oslots } := Heap.get?_push_of_some _ hol
        have hsls := k0.ss
        have hslf := k0.sf
        have hne := k0.nd
        have hl1 : SeqIs (s.heap.push { cls := .type "set", dict := none, data := .set #[] 0 (.fresh 0 0 (!w.params.followText "set-order")) }) T l items := ⟨_, hol', rfl, nl, rfl⟩
        unfold Builtin.«set.__init__» noKeywords Builtin.Frozenset.updateFrom
        generalize hPI : pyIter = PI
        wp_walk
        subst hPI
        refine k0.it hl1 ?_
        refine wpAny_bind (wpAny_runValue ?_)
        have hlS : l < s.heap.objs.size := Heap.lt_size hol
        have hh3 : A.in1.in1.in1.handled = none := by simp [hh]
        have hz1 : (s.heap.push { cls := .type "set", dict := none, data := .set #[] 0 (.fresh 0 0 (!w.params.followText "set-order")) }).objs.size = s.heap.objs.size + 1 := Heap.size_push ..
        have hneI : l ≠ (s.heap.push { cls := .type "set", dict := none, data := .set #[] 0 (.fresh 0 0 (!w.params.followText "set-order")) }).objs.size := by
          rw [Heap.size_push]
          exact Nat.ne_of_lt (Nat.lt_succ_of_lt hlS)
        have hSf : s.heap.objs.size ∉ [(s.heap.push { cls := .type "set", dict := none, data := .set #[] 0 (.fresh 0 0 (!w.params.followText "set-order")) }).objs.size, l] := by
          rw [Heap.size_push, List.mem_cons, List.mem_singleton, not_or]
          exact ⟨Nat.ne_of_lt (Nat.lt_succ_self _), Nat.ne_of_gt hlS⟩
        have hval : ∀ (i : Nat) (v : Value), items[i]? = some v → ∃ k, ks[i]? = some k ∧ RelV (kV k) v := fun i v hv => by
          obtain ⟨x, hx, rx⟩ := vals_at hit (show items.toList[i]? = some v by rw [Array.getElem?_toList]; exact hv)
          rw [List.getElem?_map] at hx
          obtain ⟨k, hk, rfl⟩ := Option.map_eq_some_iff.mp hx
          exact ⟨k, hk, rx⟩
        refine setq_loop ((k0.wk hh3 hneI items).toS) s.heap.objs.size hSf ks hisz hb hval (items.size - 0) 0 _ (by omega) (Nat.zero_le _) ⟨⟨_, Heap.get?_push_size _ rfl, rfl, rfl⟩, hl1.push⟩ ?_ ?_
        · exact setq_none (Heap.get?_push_of_some _ hS)
        · intro s' hm hS'
          obtain ⟨h', g2, d', tk', os'⟩ := s'
          have eg : g2 = s.gens := hm.gens
          have ed : d' = s.drawn := hm.drawn
          have eo : os' = s.os := hm.os
          subst eg
          subst ed
          subst eo
          show wpAny _ _ _ _ _ _
          refine wpAny_pure ?_
          show wpAny _ _ (ret Value.none) _ _ _
          refine wpAny_pure ⟨rfl, h', tk', rfl, hS', fun b o e => ?_⟩
          have hb0 : b < s.heap.objs.size := Heap.lt_size e
          refine hm.heap b o ?_ (Heap.get?_push_of_some _ (Heap.get?_push_of_some _ e))
          rw [List.mem_cons, List.mem_singleton, not_or]
          refine ⟨Nat.ne_of_lt hb0, fun z => ?_⟩
          rw [Heap.size_push] at z
          rw [z] at hb0
          exact Nat.not_lt_of_le (Nat.le_succ _) hb0
      · cases r₂ with
        | error e => exact hr₂
        | ok fl₂ =>
          cases fl₂ with
          | ret r =>
            obtain ⟨rfl, h', tk, rfl, hS', hk'⟩ := hr₂
            repeat (any_goals (first | assumption | wp_step))
            exact h _ _ hS' hk'
          | _ => exact hr₂.elim
    | _ => exact hr.elim
end
end Sx
end
section
set_option maxRecDepth 100000
set_option maxHeartbeats 3200000
namespace Sx
open PySem PySem.Spec PyProof.Rows L2
/-- the set of keys at a -/
def SetQO (w : World) (a : Addr) (l : List Key) : HO := .ext fun h => SetQ w h a l
section
variable {X : Cx} {pins : List (Addr × Obj)} {σ : L2.St} {H : Hp} {s : Shared}
theorem setQO_get {a : Addr} {l : List Key} (I : Inv X pins σ H s) (ha : H a = some (SetQO X.w a l)) : SetQ X.w s.heap a l := (I.hok a _ ha).1
theorem setQO_new {P : Program} {w : World} {H : Hp} {h : Heap} {a : Addr} {l : List Key} (R : SetQ w h a l) : ObjOk P w H h a (SetQO w a l) := by
  have ⟨o, _, _, _, ho, _⟩ := R
  exact ⟨R, ⟨o, ho⟩, fun h1 h2 p k => SetQ.at p k⟩
/-- set(xs), xs a list, a tuple of keys -/
def rSetQ (K : PySem.W.Frag) (w : World) : List V → Hp → VK → Prop := fun vs H Q => ∃ (a : Addr) (ks : List Key), vs = [V.ref a] ∧ (SqL K H a (ks.map kV) ∨ SqT K H a (ks.map kV)) ∧ ks.length + 1 < scanBound ∧ ∀ p, H p = none → Q (.ref p) (upd H p (SetQO w p (keysOf ks)))
theorem cr_setQ (hc : X.calm = true) : CallR X (.type "set") (rSetQ X.K X.w) := by
  intro pins s σ H vs us Q I r h
  obtain ⟨a, ks, rfl, hs, hb, q⟩ := h
  rw [Vals.ref1 r]
  have fin : ∀ (h' : Heap) (tk : Nat), SetQ X.w h' s.heap.objs.size (keysOf ks) → (∀ b o, s.heap.get? b = some o → h'.get? b = some o) → EP X pins σ Q (.ref s.heap.objs.size) { s with heap := h', toks := tk } := fun h' tk R kp =>
    ⟨.ref _, upd H s.heap.objs.size (SetQO X.w s.heap.objs.size (keysOf ks)), I.laid (t' := tk) kp (Nat.le_refl _) (setQO_new R), rfl, q _ (I.hok.fresh (Nat.le_refl _))⟩
  rcases hs with hs | hs
  · obtain ⟨its, rv, hl, _⟩ := I.list hs
    exact set_of walk_list ks (I.ok.hd hc) hl.isList rv hb fin
  · obtain ⟨its, rv, hl, _⟩ := I.tuple hs
    exact set_of walk_tuple ks (I.ok.hd hc) hl (by simpa using rv) hb fin
/-- len of a set -/
theorem cr_lenQ : CallR X (.builtin "len") (fun vs H Q => ∃ (a : Addr) (l : List Key), vs = [V.ref a] ∧ H a = some (SetQO X.w a l) ∧ Q (.int l.length) H) := by
  intro pins s σ H vs us Q I r h
  obtain ⟨a, l, rfl, ha, q⟩ := h
  rw [Vals.ref1 r]
  have R := setQO_get I ha
  have sz := R.size
  obtain ⟨o, es, ep, t, ho, hex, hd, ⟨_, pl, _⟩, hb, hf, _⟩ := R
  have e : es.size = l.length := by
    rw [← pl.length_eq, List.length_map, Array.length_toList]
  refine call_len_set ho hex hd hf (by unfold scanBound at hb; omega) ?_
  exact ⟨.int l.length, H, (I.tok _), ⟨_, by rw [e]⟩, q⟩
/-- sorted(..) behind the gathering -/
theorem sort_new_ints {vs : List Value} {ns : List Int} (hI : IntsAre vs ns) (hL : vs.length ≤ sizeLine) {A : Around} {E : Value → Shared → Prop} {R : PySem.Fin → Shared → Prop} {s1 : Shared}
    (hR : ∀ (out : Array Value) (c : Nat) (ys : List Int) (h' : Heap), IntsAre out.toList ys → ys.Perm ns → ys.Pairwise (· ≤ ·) → (∀ b o, s1.heap.get? b = some o → h'.get? b = some o) → h'.get? s1.heap.objs.size = some (seqObj "list" out c) → R (.done (.ret (.ref s1.heap.objs.size))) { s1 with heap := h' }) :
    wpAny (model X.prog X.w) A (do
      let l ← newList vs
      let _ ← holding [l] (call (.builtin "list.sort") [l])
      ret l) R E s1 := by
  refine wpAny_bind (wpAny_newList ?_ hL)
  have hoL : (s1.heap.push (seqObj "list" vs.toArray 0)).get? s1.heap.objs.size = some (seqObj "list" vs.toArray 0) := Heap.get?_push_size _ rfl
  refine wpAny_bind (wpAny_holding (wpAny_call_entry slot_list_sort ⟨_, hoL, rfl⟩ entry_list_sort (list_sort_treeAny (s := { s1 with heap := s1.heap.push (seqObj "list" vs.toArray 0) }) hoL hI hL fun out ys a1 a2 a3 => ⟨_, rfl, ?_⟩) (args_list_sort _)))
  obtain ⟨c, hc⟩ := sortedHeap_at (vs := vs) (out := out) hoL
  refine wpAny_pure (hR out c ys _ a1 a2 a3 (fun b u e => ?_) hc)
  have hlt := Heap.lt_size e
  rw [sortedHeap_old (Nat.ne_of_lt hlt) (by rw [size_push']; exact Nat.lt_succ_of_lt hlt)]
  exact Heap.get?_push_of_some _ e
theorem sort_new_strs {vs : List Value} {ns : List Str} (hI : StrsAre vs ns) (hL : vs.length ≤ sizeLine) {A : Around} {E : Value → Shared → Prop} {R : PySem.Fin → Shared → Prop} {s1 : Shared}
    (hR : ∀ (out : Array Value) (c : Nat) (ys : List Str) (h' : Heap), StrsAre out.toList ys → ys.Perm ns → sortedS ys = true → (∀ b o, s1.heap.get? b = some o → h'.get? b = some o) → h'.get? s1.heap.objs.size = some (seqObj "list" out c) → R (.done (.ret (.ref s1.heap.objs.size))) { s1 with heap := h' }) :
    wpAny (model X.prog X.w) A (do
      let l ← newList vs
      let _ ← holding [l] (call (.builtin "list.sort") [l])
      ret l) R E s1 := by
  refine wpAny_bind (wpAny_newList ?_ hL)
  have hoL : (s1.heap.push (seqObj "list" vs.toArray 0)).get? s1.heap.objs.size = some (seqObj "list" vs.toArray 0) := Heap.get?_push_size _ rfl
  refine wpAny_bind (wpAny_holding (wpAny_call_entry slot_list_sort ⟨_, hoL, rfl⟩ entry_list_sort (list_sort_treeKAny strKind_oneLt (s := { s1 with heap := s1.heap.push (seqObj "list" vs.toArray 0) }) hoL hI.keysOf (fun v₁ v₂ rest e => keyKind_strs (by rw [← e]; exact hI)) hL fun st' hp hs => ⟨_, rfl, ?_⟩) (args_list_sort _)))
  obtain ⟨ys, a1, a2, a3⟩ := sorted_out_str hI hp hs
  obtain ⟨c, hc⟩ := sortedHeap_at (vs := vs) (out := (arrOf st').map (·.2)) hoL
  refine wpAny_pure (hR _ c ys _ a1 a2 a3 (fun b u e => ?_) hc)
  have hlt := Heap.lt_size e
  rw [sortedHeap_old (Nat.ne_of_lt hlt) (by rw [size_push']; exact Nat.lt_succ_of_lt hlt)]
  exact Heap.get?_push_of_some _ e
end
end Sx
end
section
set_option maxRecDepth 100000
set_option maxHeartbeats 3200000
namespace Sx
open PySem PySem.Spec PyProof.Rows L2
section
variable {X : Cx}
theorem ints_keys : ∀ (l : List Value) (es : List (Int × Value)) (w : World), (∀ e ∈ es, MadeOf w e) → l.Perm (es.map (·.2)) → ∀ ns : List Int, (es.map keyK).Perm (ns.map Sum.inl) → ∃ ms : List Int, IntsAre l ms ∧ ms.Perm ns := fun l es w g p ns pk => by
  have h1 : ∀ v ∈ l, ∃ i t, v = Value.int i t ∧ keyK (0, v) = .inl i := fun v hv => by
    obtain ⟨e, he, rfl⟩ := List.mem_map.mp (p.mem_iff.mp hv)
    have h2 := pk.mem_iff.mp (List.mem_map_of_mem he)
    obtain ⟨i, _, hi⟩ := List.mem_map.mp h2
    have r := (g e he).1
    rw [← hi] at r
    obtain ⟨t, ht⟩ := r
    exact ⟨i, t, ht, by rw [ht]; rfl⟩
  have key2 : ∀ e : Int × Value, keyK e = keyK (0, e.2) := fun e => rfl
  have pk2 : (l.map fun v => keyK (0, v)).Perm (ns.map Sum.inl) := by
    have q := p.map fun v => keyK (0, v)
    rw [List.map_map] at q
    exact q.trans pk
  have conv : ∀ l : List Value, (∀ v ∈ l, ∃ i t, v = Value.int i t ∧ keyK (0, v) = .inl i) → ∃ ms : List Int, IntsAre l ms ∧ l.map (fun v => keyK (0, v)) = ms.map Sum.inl := by
    intro l
    induction l with
    | nil => exact fun _ => ⟨[], .nil, rfl⟩
    | cons v vs ih =>
      intro h
      obtain ⟨i, t, rfl, e⟩ := h v List.mem_cons_self
      obtain ⟨ms, a, b⟩ := ih fun u hu => h u (List.mem_cons_of_mem _ hu)
      exact ⟨i :: ms, .cons i t a, by rw [List.map_cons, List.map_cons, b, e]⟩
  obtain ⟨ms, a, b⟩ := conv l h1
  refine ⟨ms, a, ?_⟩
  rw [b] at pk2
  have q := pk2.map fun k : Key => match k with | .inl i => i | .inr _ => 0
  rw [List.map_map, List.map_map] at q
  have id1 : ∀ xs : List Int, xs.map ((fun k : Key => match k with | .inl i => i | .inr _ => 0) ∘ Sum.inl) = xs := fun xs => by
    rw [show ((fun k : Key => match k with | .inl i => i | .inr _ => 0) ∘ (Sum.inl : Int → Key)) = id from rfl, List.map_id]
  rw [id1, id1] at q
  exact q
theorem strs_keys : ∀ (l : List Value) (es : List (Int × Value)) (w : World), (∀ e ∈ es, MadeOf w e) → l.Perm (es.map (·.2)) → ∀ ns : List Str, (es.map keyK).Perm (ns.map Sum.inr) → ∃ ms : List Str, StrsAre l ms ∧ ms.Perm ns := fun l es w g p ns pk => by
  have h1 : ∀ v ∈ l, ∃ i t, v = Value.str i t ∧ keyK (0, v) = .inr i := fun v hv => by
    obtain ⟨e, he, rfl⟩ := List.mem_map.mp (p.mem_iff.mp hv)
    have h2 := pk.mem_iff.mp (List.mem_map_of_mem he)
    obtain ⟨i, _, hi⟩ := List.mem_map.mp h2
    have r := (g e he).1
    rw [← hi] at r
    obtain ⟨t, ht⟩ := r
    exact ⟨i, t, ht, by rw [ht]; rfl⟩
  have pk2 : (l.map fun v => keyK (0, v)).Perm (ns.map Sum.inr) := by
    have q := p.map fun v => keyK (0, v)
    rw [List.map_map] at q
    exact q.trans pk
  have conv : ∀ l : List Value, (∀ v ∈ l, ∃ i t, v = Value.str i t ∧ keyK (0, v) = .inr i) → ∃ ms : List Str, StrsAre l ms ∧ l.map (fun v => keyK (0, v)) = ms.map Sum.inr := by
    intro l
    induction l with
    | nil => exact fun _ => ⟨[], .nil, rfl⟩
    | cons v vs ih =>
      intro h
      obtain ⟨i, t, rfl, e⟩ := h v List.mem_cons_self
      obtain ⟨ms, a, b⟩ := ih fun u hu => h u (List.mem_cons_of_mem _ hu)
      exact ⟨i :: ms, .cons i t a, by rw [List.map_cons, List.map_cons, b, e]⟩
  obtain ⟨ms, a, b⟩ := conv l h1
  refine ⟨ms, a, ?_⟩
  rw [b] at pk2
  have q := pk2.map fun k : Key => match k with | .inl _ => ("" : Str) | .inr z => z
  rw [List.map_map, List.map_map] at q
  have id1 : ∀ xs : List Str, xs.map ((fun k : Key => match k with | .inl _ => ("" : Str) | .inr z => z) ∘ Sum.inr) = xs := fun xs => by
    rw [show ((fun k : Key => match k with | .inl _ => ("" : Str) | .inr z => z) ∘ (Sum.inr : Str → Key)) = id from rfl, List.map_id]
  rw [id1, id1] at q
  exact q
/-- sorted(xs), xs a set of ints -/
theorem cr_sortedQI (hc : X.calm = true) : CallR X (.builtin "sorted") (fun vs H Q => ∃ (a : Addr) (ns : List Int), vs = [V.ref a] ∧ H a = some (SetQO X.w a (ns.map Sum.inl)) ∧ ∀ (ys : List Int) (p : Addr), ys.Perm ns → ys.Pairwise (· ≤ ·) → H p = none → Q (.ref p) (upd H p (.lst (ys.map V.int)))) := by
  intro pins s σ H vs us Q I r h
  obtain ⟨a, ns, rfl, ha, q⟩ := h
  obtain ⟨o, es, ep, t, ho, hex, hd, ⟨g, pl, nd⟩, hb, hf, hr, hl⟩ := setQO_get I ha
  rw [Vals.ref1 r]
  have hL : ns.length ≤ sizeLine := by
    have e := pl.length_eq
    rw [List.length_map, List.length_map, Array.length_toList] at e
    rw [← e]
    exact fits_of_scanBound hb
  refine Calls.call_function_entry kind_sorted plain_sorted entry_sorted (args_sorted1 _) ?_
  unfold Builtin.«sorted»
  refine wpAny_bind (m := checkCount "sorted" 1 1 _) (wpAny_pure ?_)
  refine wpAny_bind (collect_set (A := X.A.in1) (I.ok.hd hc) ⟨o, ho, hex.1, hd⟩ hf hb hr hl fun s1 vs k1 hz g1 o1 pm => ?_)
  obtain ⟨ms, hI, hp⟩ := ints_keys vs es.toList X.w g pm ns pl
  have hvl : vs.length ≤ sizeLine := by rw [hI.length, hp.length_eq]; exact hL
  refine sort_new_ints hI hvl fun out c ys h' a1 a2 a3 kp hg => ⟨_, rfl, ?_⟩
  have hn : H s1.heap.objs.size = none := I.hok.fresh hz
  have hlen : (ys.map V.int).length ≤ sizeLine := by rw [List.length_map, a2.length_eq, hp.length_eq]; exact hL
  have J : Inv X pins σ (upd H s1.heap.objs.size (.lst (ys.map V.int))) { s with heap := h', gens := s1.gens, drawn := s1.drawn, toks := s1.toks } :=
    I.call (ch := []) (Un.laid (fun b o e => kp b o (k1 b o e)) hz hn) (I.hok.laid (fun b o e => kp b o (k1 b o e)) hz ⟨hlen, out.toList, c, vals_of_ints a1, by rw [Array.toArray_toList]; exact hg⟩) (by rw [g1]; exact I.bare) (fun _ z => nomatch z)
  have e : { s1 with heap := h' } = { s with heap := h', gens := s1.gens, drawn := s1.drawn, toks := s1.toks } := by
    cases s1
    cases s
    cases o1
    rfl
  rw [e]
  exact ⟨.ref _, _, J, rfl, q ys _ (a2.trans hp) a3 hn⟩
/-- sorted(xs), xs a set of texts -/
theorem cr_sortedQS (hc : X.calm = true) : CallR X (.builtin "sorted") (fun vs H Q => ∃ (a : Addr) (ns : List Str), vs = [V.ref a] ∧ H a = some (SetQO X.w a (ns.map Sum.inr)) ∧ ∀ (ys : List Str) (p : Addr), ys.Perm ns → sortedS ys = true → H p = none → Q (.ref p) (upd H p (.lst (ys.map V.str)))) := by
  intro pins s σ H vs us Q I r h
  obtain ⟨a, ns, rfl, ha, q⟩ := h
  obtain ⟨o, es, ep, t, ho, hex, hd, ⟨g, pl, nd⟩, hb, hf, hr, hl⟩ := setQO_get I ha
  rw [Vals.ref1 r]
  have hL : ns.length ≤ sizeLine := by
    have e := pl.length_eq
    rw [List.length_map, List.length_map, Array.length_toList] at e
    rw [← e]
    exact fits_of_scanBound hb
  refine Calls.call_function_entry kind_sorted plain_sorted entry_sorted (args_sorted1 _) ?_
  unfold Builtin.«sorted»
  refine wpAny_bind (m := checkCount "sorted" 1 1 _) (wpAny_pure ?_)
  refine wpAny_bind (collect_set (A := X.A.in1) (I.ok.hd hc) ⟨o, ho, hex.1, hd⟩ hf hb hr hl fun s1 vs k1 hz g1 o1 pm => ?_)
  obtain ⟨ms, hI, hp⟩ := strs_keys vs es.toList X.w g pm ns pl
  have hvl : vs.length ≤ sizeLine := by rw [hI.length, hp.length_eq]; exact hL
  refine sort_new_strs hI hvl fun out c ys h' a1 a2 a3 kp hg => ⟨_, rfl, ?_⟩
  have hn : H s1.heap.objs.size = none := I.hok.fresh hz
  have hlen : (ys.map V.str).length ≤ sizeLine := by rw [List.length_map, a2.length_eq, hp.length_eq]; exact hL
  have J : Inv X pins σ (upd H s1.heap.objs.size (.lst (ys.map V.str))) { s with heap := h', gens := s1.gens, drawn := s1.drawn, toks := s1.toks } :=
    I.call (ch := []) (Un.laid (fun b o e => kp b o (k1 b o e)) hz hn) (I.hok.laid (fun b o e => kp b o (k1 b o e)) hz ⟨hlen, out.toList, c, vals_of_strs a1, by rw [Array.toArray_toList]; exact hg⟩) (by rw [g1]; exact I.bare) (fun _ z => nomatch z)
  have e : { s1 with heap := h' } = { s with heap := h', gens := s1.gens, drawn := s1.drawn, toks := s1.toks } := by
    cases s1
    cases s
    cases o1
    rfl
  rw [e]
  exact ⟨.ref _, _, J, rfl, q ys _ (a2.trans hp) a3 hn⟩
/-- sorted(d), the keys of d ints -/
theorem cr_sortedDA (hc : X.calm = true) : CallR X (.builtin "sorted") (fun xs H Q => ∃ (a : Addr) (kvs : List (Key × V)) (ks : List Int), xs = [.ref a] ∧ Rd H a (.dK kvs) ∧ kvs.map (·.1) = ks.map Sum.inl ∧
    ∀ (ys : List Int) (p : Addr), ys.Perm ks → ys.Pairwise (· ≤ ·) → H p = none → Q (.ref p) (upd H p (.lst (ys.map V.int)))) := by
  intro pins s σ H xs us Q I r q
  obtain ⟨a, kvs, ks, rfl, hd, hks, q⟩ := q
  rw [Vals.ref1 r]
  obtain ⟨z, lo, vs, rel, dd⟩ := dk_rd I.hok hd
  obtain ⟨ep, hat⟩ := dd.dictAt
  have hkeys : vs.map (·.1) = ks.map Sum.inl := rel.keys.symm.trans hks
  have hl : vs.length = ks.length := by
    have e := congrArg List.length hkeys
    rw [List.length_map, List.length_map] at e
    exact e
  have h16 : vs.length ≤ sizeLine := by rw [← rel.length]; exact z
  refine Calls.call_function_entry kind_sorted plain_sorted entry_sorted (args_sorted1 _) ?_
  unfold Builtin.«sorted»
  refine wpAny_bind (m := checkCount "sorted" 1 1 _) (wpAny_pure ?_)
  refine wpAny_bind (PySem.W.kdu_collect (A := X.A.in1) (PySem.W.kdl_dict (knd := mixKind X.prog X.w) (kvs := vs) (ep := ep) lo) (I.ok.hd hc) hat h16 fun h' tk acc hk hacc => ?_)
  have hal : acc.toList.length = ks.length := by rw [Array.length_toList, hacc.1, hl]
  have hS : IntsAre acc.toList ks := ints_each hal fun j v e => by
    obtain ⟨k, x, e1, e2⟩ := hacc.2 j v (by rw [← Array.getElem?_toList]; exact e)
    have e3 : (vs.map (·.1))[j]? = some k := by rw [List.getElem?_map, e1]; rfl
    rw [hkeys, List.getElem?_map] at e3
    obtain ⟨y, e4, rfl⟩ := Option.map_eq_some_iff.mp e3
    rcases keyIs_shape (show keyIs (Sum.inl y) v = true from e2) with ⟨i, t, ek, ev⟩ | ⟨z, t, ek, ev⟩
    · cases ek
      exact ⟨y, t, e4, ev⟩
    · cases ek
  have I1 : Inv X pins σ H { s with heap := h', toks := tk } := I.kept hk
  refine sort_new_ints (s1 := { s with heap := h', toks := tk }) hS (by rw [hal, ← hl]; exact h16) fun out c ys h2 a1 a2 a3 kp hg => ⟨_, rfl, ?_⟩
  have hlen : (ys.map V.int).length ≤ sizeLine := by rw [List.length_map, a2.length_eq, ← hl]; exact h16
  exact ⟨.ref h'.objs.size, upd H h'.objs.size (.lst (ys.map V.int)), I1.laid (t' := tk) kp (Nat.le_refl _) ⟨hlen, out.toList, c, vals_of_ints a1, by rw [Array.toArray_toList]; exact hg⟩, rfl, q ys _ a2 a3 (I1.hok.fresh (Nat.le_refl _))⟩
end
end Sx
end
section
set_option maxRecDepth 100000
set_option maxHeartbeats 1000000
namespace Sx
open PySem PySem.Spec PyProof.Rows L2
/-! ### sorted lists without repeats -/
section
variable {α : Type}
theorem strict_uniq {r : α → α → Prop} (ir : ∀ x, ¬ r x x) (as : ∀ x y, r x y → ¬ r y x) : ∀ {l m : List α}, l.Pairwise r → m.Pairwise r → (∀ x, x ∈ l ↔ x ∈ m) → l = m
  | [], [], _, _, _ => rfl
  | [], y :: m, _, _, h => absurd ((h y).mpr List.mem_cons_self) (by simp)
  | x :: l, [], _, _, h => absurd ((h x).mp List.mem_cons_self) (by simp)
  | x :: l, y :: m, hl, hm, h => by
    obtain ⟨l1, l2⟩ := List.pairwise_cons.mp hl
    obtain ⟨m1, m2⟩ := List.pairwise_cons.mp hm
    have e : x = y := by
      rcases List.mem_cons.mp ((h x).mp List.mem_cons_self) with e | a
      · exact e
      · rcases List.mem_cons.mp ((h y).mpr List.mem_cons_self) with e | b
        · exact e.symm
        · exact absurd (l1 y b) (as _ _ (m1 x a))
    subst e
    have : l = m := strict_uniq ir as l2 m2 fun z => by
      constructor
      · intro hz
        rcases List.mem_cons.mp ((h z).mp (List.mem_cons_of_mem _ hz)) with e | q
        · subst e
          exact absurd (l1 z hz) (ir z)
        · exact q
      · intro hz
        rcases List.mem_cons.mp ((h z).mpr (List.mem_cons_of_mem _ hz)) with e | q
        · subst e
          exact absurd (m1 z hz) (ir z)
        · exact q
    rw [this]
/-- put into its place, once -/
def putIn (lt : α → α → Bool) (x : α) : List α → List α
  | [] => [x]
  | y :: l => if lt x y then x :: y :: l else if lt y x then y :: putIn lt x l else y :: l
def sortU (lt : α → α → Bool) (l : List α) : List α := l.foldr (putIn lt) []
variable {lt : α → α → Bool}
theorem putIn_mem (tri : ∀ x y, lt x y = false → lt y x = false → x = y) (x z : α) : ∀ l : List α, z ∈ putIn lt x l ↔ z = x ∨ z ∈ l
  | [] => by simp [putIn]
  | y :: l => by
    unfold putIn
    split
    · simp
    · split
      · rw [List.mem_cons, putIn_mem tri x z l, List.mem_cons]
        constructor
        · rintro (h | h | h) <;> simp [h]
        · rintro (h | h | h) <;> simp [h]
      · rename_i h1 h2
        have := tri x y (by simpa using h1) (by simpa using h2)
        subst this
        simp
theorem putIn_pw (tr : ∀ x y z, lt x y = true → lt y z = true → lt x z = true) (tri : ∀ x y, lt x y = false → lt y x = false → x = y) (x : α) : ∀ l : List α, l.Pairwise (fun a b => lt a b = true) → (putIn lt x l).Pairwise (fun a b => lt a b = true)
  | [], _ => by simp [putIn]
  | y :: l, h => by
    obtain ⟨h1, h2⟩ := List.pairwise_cons.mp h
    unfold putIn
    split
    · rename_i q
      refine List.pairwise_cons.mpr ⟨fun z hz => ?_, h⟩
      rcases List.mem_cons.mp hz with rfl | hz
      · exact q
      · exact tr _ _ _ q (h1 z hz)
    · split
      · rename_i q
        refine List.pairwise_cons.mpr ⟨fun z hz => ?_, putIn_pw tr tri x l h2⟩
        rcases (putIn_mem tri x z l).mp hz with rfl | hz
        · exact q
        · exact h1 z hz
      · exact h
theorem sortU_mem (tri : ∀ x y, lt x y = false → lt y x = false → x = y) (z : α) : ∀ l : List α, z ∈ sortU lt l ↔ z ∈ l
  | [] => by simp [sortU]
  | x :: l => by
    show z ∈ putIn lt x (sortU lt l) ↔ _
    rw [putIn_mem tri, sortU_mem tri z l, List.mem_cons]
theorem sortU_pw (tr : ∀ x y z, lt x y = true → lt y z = true → lt x z = true) (tri : ∀ x y, lt x y = false → lt y x = false → x = y) : ∀ l : List α, (sortU lt l).Pairwise (fun a b => lt a b = true)
  | [] => List.Pairwise.nil
  | x :: l => putIn_pw tr tri x _ (sortU_pw tr tri l)
end
def ltI (a b : Int) : Bool := decide (a < b)
def ltS (a b : Str) : Bool := decide (a.cps.toList < b.cps.toList)
theorem ltI_tr (x y z : Int) (h : ltI x y = true) (k : ltI y z = true) : ltI x z = true := by
  have := of_decide_eq_true h
  have := of_decide_eq_true k
  exact decide_eq_true (by omega)
theorem ltI_tri (x y : Int) (h : ltI x y = false) (k : ltI y x = false) : x = y := by
  have := of_decide_eq_false h
  have := of_decide_eq_false k
  omega
theorem str_ext {a b : Str} (h : a.cps.toList = b.cps.toList) : a = b := by
  cases a
  cases b
  simpa using h
theorem ltS_tr (x y z : Str) (h : ltS x y = true) (k : ltS y z = true) : ltS x z = true := decide_eq_true (List.lt_trans (of_decide_eq_true h) (of_decide_eq_true k))
theorem ltS_tri (x y : Str) (h : ltS x y = false) (k : ltS y x = false) : x = y := by
  have h := of_decide_eq_false h
  have k := of_decide_eq_false k
  exact str_ext (List.le_antisymm (List.not_lt.mp k) (List.not_lt.mp h))
theorem ltS_ir (x : Str) : ¬ ltS x x = true := fun h => List.lt_irrefl _ (of_decide_eq_true h)
theorem ltS_as (x y : Str) (h : ltS x y = true) : ¬ ltS y x = true := fun k => ltS_ir x (ltS_tr _ _ _ h k)
def sortI (l : List Int) : List Int := sortU ltI l
def sortS (l : List Str) : List Str := sortU ltS l
theorem sortI_mem {l : List Int} {x : Int} : x ∈ sortI l ↔ x ∈ l := sortU_mem ltI_tri x l
theorem sortS_mem {l : List Str} {x : Str} : x ∈ sortS l ↔ x ∈ l := sortU_mem ltS_tri x l
theorem sortI_pw (l : List Int) : (sortI l).Pairwise (fun a b => ltI a b = true) := sortU_pw ltI_tr ltI_tri l
theorem sortS_pw (l : List Str) : (sortS l).Pairwise (fun a b => ltS a b = true) := sortU_pw ltS_tr ltS_tri l
theorem sortI_is {l m : List Int} (h : m.Pairwise (fun a b => ltI a b = true)) (hm : ∀ x, x ∈ m ↔ x ∈ l) : m = sortI l :=
  strict_uniq (fun x h => by have := of_decide_eq_true h; omega) (fun x y h k => by have := of_decide_eq_true h; have := of_decide_eq_true k; omega) h (sortI_pw l) fun x => (hm x).trans sortI_mem.symm
theorem sortS_is {l m : List Str} (h : m.Pairwise (fun a b => ltS a b = true)) (hm : ∀ x, x ∈ m ↔ x ∈ l) : m = sortS l :=
  strict_uniq ltS_ir ltS_as h (sortS_pw l) fun x => (hm x).trans sortS_mem.symm
theorem sortI_congr {l m : List Int} (h : ∀ x, x ∈ l ↔ x ∈ m) : sortI l = sortI m := sortI_is (sortI_pw l) fun x => sortI_mem.trans (h x)
theorem sortS_congr {l m : List Str} (h : ∀ x, x ∈ l ↔ x ∈ m) : sortS l = sortS m := sortS_is (sortS_pw l) fun x => sortS_mem.trans (h x)
theorem nodup_of_pw {α : Type} {lt : α → α → Bool} (ir : ∀ x, ¬ lt x x = true) {l : List α} (h : l.Pairwise (fun a b => lt a b = true)) : l.Nodup := List.Pairwise.imp (fun {a b} q => fun e => ir a (by rw [← e] at q; exact q)) h
theorem sortS_nodup (l : List Str) : (sortS l).Nodup := nodup_of_pw ltS_ir (sortS_pw l)
theorem sortI_nodup (l : List Int) : (sortI l).Nodup := nodup_of_pw (fun x h => by have := of_decide_eq_true h; omega) (sortI_pw l)
theorem keysOf_mem (k : Key) : ∀ (ks l : List Key), k ∈ ks.foldl insK l ↔ k ∈ l ∨ k ∈ ks
  | [], l => by simp
  | j :: ks, l => by
    rw [List.foldl_cons, keysOf_mem k ks]
    have : k ∈ insK l j ↔ k = j ∨ k ∈ l := by
      unfold insK
      split
      · rename_i h
        exact ⟨.inr, fun z => z.elim (fun e => e ▸ h) id⟩
      · exact List.mem_cons
    rw [this, List.mem_cons]
    constructor
    · rintro ((h | h) | h) <;> simp [h]
    · rintro (h | h | h) <;> simp [h]
theorem keysOf_nodup : ∀ (ks l : List Key), l.Nodup → (ks.foldl insK l).Nodup
  | [], l, h => h
  | j :: ks, l, h => by
    refine keysOf_nodup ks _ ?_
    unfold insK
    split
    · exact h
    · rename_i q
      exact List.nodup_cons.mpr ⟨q, h⟩
theorem keysOf_ints (ns : List Int) : ∃ ms : List Int, keysOf (ns.map Sum.inl) = ms.map Sum.inl ∧ ms.Nodup ∧ ∀ x, x ∈ ms ↔ x ∈ ns := by
  have h0 := keysOf_nodup (ns.map Sum.inl) [] List.nodup_nil
  have h1 : ∀ k, k ∈ keysOf (ns.map Sum.inl) ↔ k ∈ ns.map Sum.inl := fun k => (keysOf_mem k _ []).trans (by simp)
  have h0 : (keysOf (ns.map Sum.inl)).Nodup := h0
  have conv : ∀ l : List Key, (∀ k ∈ l, k ∈ ns.map (Sum.inl : Int → Key)) → ∃ ms : List Int, l = ms.map Sum.inl := by
    intro l
    induction l with
    | nil => exact fun _ => ⟨[], rfl⟩
    | cons k l ih =>
      intro h
      obtain ⟨i, _, rfl⟩ := List.mem_map.mp (h k List.mem_cons_self)
      obtain ⟨ms, rfl⟩ := ih fun z hz => h z (List.mem_cons_of_mem _ hz)
      exact ⟨i :: ms, rfl⟩
  obtain ⟨ms, e⟩ := conv _ fun k hk => (h1 k).mp hk
  rw [e] at h0 h1
  have inj : ∀ a b : Int, (Sum.inl a : Key) = Sum.inl b → a = b := fun a b h => Sum.inl.inj h
  refine ⟨ms, e, (List.pairwise_map.mp h0).imp fun h e => h (congrArg _ e), fun x => ?_⟩
  have := h1 (.inl x)
  rw [List.mem_map, List.mem_map] at this
  constructor
  · intro hx
    obtain ⟨y, hy, q⟩ := this.mp ⟨x, hx, rfl⟩
    exact inj _ _ q ▸ hy
  · intro hx
    obtain ⟨y, hy, q⟩ := this.mpr ⟨x, hx, rfl⟩
    exact inj _ _ q ▸ hy
theorem keysOf_strs (ns : List Str) : ∃ ms : List Str, keysOf (ns.map Sum.inr) = ms.map Sum.inr ∧ ms.Nodup ∧ ∀ x, x ∈ ms ↔ x ∈ ns := by
  have h1 : ∀ k, k ∈ keysOf (ns.map Sum.inr) ↔ k ∈ ns.map Sum.inr := fun k => (keysOf_mem k _ []).trans (by simp)
  have h0 : (keysOf (ns.map Sum.inr)).Nodup := keysOf_nodup (ns.map Sum.inr) [] List.nodup_nil
  have conv : ∀ l : List Key, (∀ k ∈ l, k ∈ ns.map (Sum.inr : Str → Key)) → ∃ ms : List Str, l = ms.map Sum.inr := by
    intro l
    induction l with
    | nil => exact fun _ => ⟨[], rfl⟩
    | cons k l ih =>
      intro h
      obtain ⟨i, _, rfl⟩ := List.mem_map.mp (h k List.mem_cons_self)
      obtain ⟨ms, rfl⟩ := ih fun z hz => h z (List.mem_cons_of_mem _ hz)
      exact ⟨i :: ms, rfl⟩
  obtain ⟨ms, e⟩ := conv _ fun k hk => (h1 k).mp hk
  rw [e] at h0 h1
  have inj : ∀ a b : Str, (Sum.inr a : Key) = Sum.inr b → a = b := fun a b h => Sum.inr.inj h
  refine ⟨ms, e, (List.pairwise_map.mp h0).imp fun h e => h (congrArg _ e), fun x => ?_⟩
  have := h1 (.inr x)
  rw [List.mem_map, List.mem_map] at this
  constructor
  · intro hx
    obtain ⟨y, hy, q⟩ := this.mp ⟨x, hx, rfl⟩
    exact inj _ _ q ▸ hy
  · intro hx
    obtain ⟨y, hy, q⟩ := this.mpr ⟨x, hx, rfl⟩
    exact inj _ _ q ▸ hy
theorem strict_int {l : List Int} (h : l.Pairwise (· ≤ ·)) (d : l.Nodup) : l.Pairwise (fun a b => ltI a b = true) := by
  induction l with
  | nil => exact List.Pairwise.nil
  | cons x l ih =>
    obtain ⟨h1, h2⟩ := List.pairwise_cons.mp h
    obtain ⟨d1, d2⟩ := List.nodup_cons.mp d
    refine List.pairwise_cons.mpr ⟨fun y hy => decide_eq_true ?_, ih h2 d2⟩
    have a := h1 y hy
    have b : x ≠ y := fun e => d1 (e ▸ hy)
    omega
theorem rising_pw : ∀ (x : Str) (l : List Str), risingS x l = true → (x :: l).Nodup → (x :: l).Pairwise (fun a b => ltS a b = true)
  | x, [], _, _ => List.pairwise_singleton _ _
  | x, y :: l, h, d => by
    have h : (!ltCps y.cps.toList x.cps.toList && risingS y l) = true := h
    rw [Bool.and_eq_true, Bool.not_eq_true', ltCps_eq] at h
    obtain ⟨h1, h2⟩ := h
    obtain ⟨d1, d2⟩ := List.nodup_cons.mp d
    have ih := rising_pw y l h2 d2
    have xy : ltS x y = true := by
      cases q : ltS x y with
      | true => rfl
      | false => exact absurd (ltS_tri x y q h1) (fun e => d1 (e ▸ List.mem_cons_self))
    refine List.pairwise_cons.mpr ⟨fun z hz => ?_, ih⟩
    rcases List.mem_cons.mp hz with rfl | hz
    · exact xy
    · exact ltS_tr _ _ _ xy ((List.pairwise_cons.mp ih).1 z hz)
theorem strict_str {l : List Str} (h : sortedS l = true) (d : l.Nodup) : l.Pairwise (fun a b => ltS a b = true) := by
  cases l with
  | nil => exact List.Pairwise.nil
  | cons x l => exact rising_pw x l h d
/-! ### the rules -/
section
variable {X : Cx} {c : Cs} {Fr : Hp} {G : List (V × D)} {M : Mm} {env : En} {a b e o : Expr} {es : List Expr} {pos p1 p2 p3 p4 : Pos}
theorem ints_kV (ns : List Int) : (ns.map D.i).map id = (ns.map V.int).map D.v := by rw [List.map_map, List.map_map]; rfl
/-- sorted(set(e)) of a new list of ints -/
theorem l_sortSetI {ns : List Int} (hc : X.calm = true) (hm1 : X.mg "sorted" = none) (hm2 : X.mg "set" = none) (hK : X.K = c.K) (h : Pl X c Fr G M env e (ns.map D.i)) (hl : ns.length + 1 < scanBound) (hg1 : Gl X "sorted" := by rfl) (hg2 : Gl X "set" := by rfl)
    (hs1 : starEach (e :: []) X.env = (false, eval e X.env) :: starEach [] X.env := by rfl) (hs2 : starEach ((Expr.Call (.Name "set" p1) [e] [] p2) :: []) X.env = (false, eval (Expr.Call (.Name "set" p1) [e] [] p2) X.env) :: starEach [] X.env := by rfl) (hpl1 : (backTo p2 (starEach [] X.env)).any (·.1) = false := by rfl) (hpl2 : (backTo p4 (starEach [] X.env)).any (·.1) = false := by rfl) :
    Pl X c Fr G M env (.Call (.Name "sorted" p3) [.Call (.Name "set" p1) [e] [] p2] [] p4) ((sortI ns).map D.i) := fun σ H A Q q =>
  (pe_callB (cr_sortedQI hc) hg1 hm1 boot_sorted (pa_cons (pe_callTy (cr_setQ hc) hg2 hm2 boot_set (pa_cons we pa_nil hs1) (by decide) (by decide) hs1 hpl1) pa_nil hs2) (by decide) (by decide) hs2 hpl2).w (h σ H A _ fun l H1 A1 i1 => by
    obtain ⟨xs, h3, h4⟩ := A1.ls (.inr List.mem_cons_self)
    have e1 : ns.map D.i = (ns.map V.int).map D.v := by rw [List.map_map]; rfl
    have e2 : ns.map V.int = (ns.map (Sum.inl : Int → Key)).map kV := by rw [List.map_map]; rfl
    rw [e1] at h4
    rw [h4.vmap_eq, e2] at h3
    refine ⟨l, ns.map Sum.inl, rfl, .inl (.inl h3), by rw [List.length_map]; exact hl, fun p hp => ?_⟩
    obtain ⟨ms, em, nd, hmem⟩ := keysOf_ints ns
    rw [em]
    refine ⟨p, ms, rfl, upd_same, fun ys p2 py pw hp2 => ?_⟩
    have ey : ys = sortI ns := sortI_is (strict_int pw (py.nodup_iff.mpr nd)) fun x => (py.mem_iff).trans (hmem x)
    subst ey
    refine q p2 _ ((A1.drop1.ex (Ex.new hp)).new hp2 (Ex.new hp2) ⟨_, upd_same, ?_⟩) ((i1.trans (IM.new hp)).trans (IM.new hp2))
    have := RpL.vmap (c := c) (H := upd (upd H1 p (SetQO X.w p (ms.map Sum.inl))) p2 (.lst ((sortI ns).map V.int))) (xs := (sortI ns).map V.int)
    rw [List.map_map] at this
    exact this)
theorem l_sortSetS {ns : List Str} (hc : X.calm = true) (hm1 : X.mg "sorted" = none) (hm2 : X.mg "set" = none) (hK : X.K = c.K) (h : Pl X c Fr G M env e (ns.map D.s)) (hl : ns.length + 1 < scanBound) (hg1 : Gl X "sorted" := by rfl) (hg2 : Gl X "set" := by rfl)
    (hs1 : starEach (e :: []) X.env = (false, eval e X.env) :: starEach [] X.env := by rfl) (hs2 : starEach ((Expr.Call (.Name "set" p1) [e] [] p2) :: []) X.env = (false, eval (Expr.Call (.Name "set" p1) [e] [] p2) X.env) :: starEach [] X.env := by rfl) (hpl1 : (backTo p2 (starEach [] X.env)).any (·.1) = false := by rfl) (hpl2 : (backTo p4 (starEach [] X.env)).any (·.1) = false := by rfl) :
    Pl X c Fr G M env (.Call (.Name "sorted" p3) [.Call (.Name "set" p1) [e] [] p2] [] p4) ((sortS ns).map D.s) := fun σ H A Q q =>
  (pe_callB (cr_sortedQS hc) hg1 hm1 boot_sorted (pa_cons (pe_callTy (cr_setQ hc) hg2 hm2 boot_set (pa_cons we pa_nil hs1) (by decide) (by decide) hs1 hpl1) pa_nil hs2) (by decide) (by decide) hs2 hpl2).w (h σ H A _ fun l H1 A1 i1 => by
    obtain ⟨xs, h3, h4⟩ := A1.ls (.inr List.mem_cons_self)
    have e1 : ns.map D.s = (ns.map V.str).map D.v := by rw [List.map_map]; rfl
    have e2 : ns.map V.str = (ns.map (Sum.inr : Str → Key)).map kV := by rw [List.map_map]; rfl
    rw [e1] at h4
    rw [h4.vmap_eq, e2] at h3
    refine ⟨l, ns.map Sum.inr, rfl, .inl (.inl h3), by rw [List.length_map]; exact hl, fun p hp => ?_⟩
    obtain ⟨ms, em, nd, hmem⟩ := keysOf_strs ns
    rw [em]
    refine ⟨p, ms, rfl, upd_same, fun ys p2 py pw hp2 => ?_⟩
    have ey : ys = sortS ns := sortS_is (strict_str pw (py.nodup_iff.mpr nd)) fun x => (py.mem_iff).trans (hmem x)
    subst ey
    refine q p2 _ ((A1.drop1.ex (Ex.new hp)).new hp2 (Ex.new hp2) ⟨_, upd_same, ?_⟩) ((i1.trans (IM.new hp)).trans (IM.new hp2))
    have := RpL.vmap (c := c) (H := upd (upd H1 p (SetQO X.w p (ms.map Sum.inr))) p2 (.lst ((sortS ns).map V.str))) (xs := (sortS ns).map V.str)
    rw [List.map_map] at this
    exact this)
/-- the same, of a list that is read -/
theorem l_sortSetSL {ns : List Str} {l : Addr} (hc : X.calm = true) (hm1 : X.mg "sorted" = none) (hm2 : X.mg "set" = none) (hK : X.K = c.K) (h : Pv X c Fr G M env e (.p l)) (hL : LsOf c Fr M l (ns.map D.s)) (hl : ns.length + 1 < scanBound) (hg1 : Gl X "sorted" := by rfl) (hg2 : Gl X "set" := by rfl)
    (hs1 : starEach (e :: []) X.env = (false, eval e X.env) :: starEach [] X.env := by rfl) (hs2 : starEach ((Expr.Call (.Name "set" p1) [e] [] p2) :: []) X.env = (false, eval (Expr.Call (.Name "set" p1) [e] [] p2) X.env) :: starEach [] X.env := by rfl) (hpl1 : (backTo p2 (starEach [] X.env)).any (·.1) = false := by rfl) (hpl2 : (backTo p4 (starEach [] X.env)).any (·.1) = false := by rfl) :
    Pl X c Fr G M env (.Call (.Name "sorted" p3) [.Call (.Name "set" p1) [e] [] p2] [] p4) ((sortS ns).map D.s) := fun σ H A Q q =>
  (pe_callB (cr_sortedQS hc) hg1 hm1 boot_sorted (pa_cons (pe_callTy (cr_setQ hc) hg2 hm2 boot_set (pa_cons we pa_nil hs1) (by decide) (by decide) hs1 hpl1) pa_nil hs2) (by decide) (by decide) hs2 hpl2).w (h σ H A _ fun v H1 A1 i1 r => by
    obtain ⟨xs, h3, h4⟩ := A1.ls hL
    have e1 : ns.map D.s = (ns.map V.str).map D.v := by rw [List.map_map]; rfl
    have e2 : ns.map V.str = (ns.map (Sum.inr : Str → Key)).map kV := by rw [List.map_map]; rfl
    rw [e1] at h4
    rw [h4.vmap_eq, e2] at h3
    refine ⟨l, ns.map Sum.inr, by rw [rp_v.mp r], .inl (.inl h3), by rw [List.length_map]; exact hl, fun p hp => ?_⟩
    obtain ⟨ms, em, nd, hmem⟩ := keysOf_strs ns
    rw [em]
    refine ⟨p, ms, rfl, upd_same, fun ys p2 py pw hp2 => ?_⟩
    have ey : ys = sortS ns := sortS_is (strict_str pw (py.nodup_iff.mpr nd)) fun x => (py.mem_iff).trans (hmem x)
    subst ey
    refine q p2 _ ((A1.ex (Ex.new hp)).new hp2 (Ex.new hp2) ⟨_, upd_same, ?_⟩) ((i1.trans (IM.new hp)).trans (IM.new hp2))
    have := RpL.vmap (c := c) (H := upd (upd H1 p (SetQO X.w p (ms.map Sum.inr))) p2 (.lst ((sortS ns).map V.str))) (xs := (sortS ns).map V.str)
    rw [List.map_map] at this
    exact this)
theorem l_sortSetIL {ns : List Int} {l : Addr} (hc : X.calm = true) (hm1 : X.mg "sorted" = none) (hm2 : X.mg "set" = none) (hK : X.K = c.K) (h : Pv X c Fr G M env e (.p l)) (hL : LsOf c Fr M l (ns.map D.i)) (hl : ns.length + 1 < scanBound) (hg1 : Gl X "sorted" := by rfl) (hg2 : Gl X "set" := by rfl)
    (hs1 : starEach (e :: []) X.env = (false, eval e X.env) :: starEach [] X.env := by rfl) (hs2 : starEach ((Expr.Call (.Name "set" p1) [e] [] p2) :: []) X.env = (false, eval (Expr.Call (.Name "set" p1) [e] [] p2) X.env) :: starEach [] X.env := by rfl) (hpl1 : (backTo p2 (starEach [] X.env)).any (·.1) = false := by rfl) (hpl2 : (backTo p4 (starEach [] X.env)).any (·.1) = false := by rfl) :
    Pl X c Fr G M env (.Call (.Name "sorted" p3) [.Call (.Name "set" p1) [e] [] p2] [] p4) ((sortI ns).map D.i) := fun σ H A Q q =>
  (pe_callB (cr_sortedQI hc) hg1 hm1 boot_sorted (pa_cons (pe_callTy (cr_setQ hc) hg2 hm2 boot_set (pa_cons we pa_nil hs1) (by decide) (by decide) hs1 hpl1) pa_nil hs2) (by decide) (by decide) hs2 hpl2).w (h σ H A _ fun v H1 A1 i1 r => by
    obtain ⟨xs, h3, h4⟩ := A1.ls hL
    have e1 : ns.map D.i = (ns.map V.int).map D.v := by rw [List.map_map]; rfl
    have e2 : ns.map V.int = (ns.map (Sum.inl : Int → Key)).map kV := by rw [List.map_map]; rfl
    rw [e1] at h4
    rw [h4.vmap_eq, e2] at h3
    refine ⟨l, ns.map Sum.inl, by rw [rp_v.mp r], .inl (.inl h3), by rw [List.length_map]; exact hl, fun p hp => ?_⟩
    obtain ⟨ms, em, nd, hmem⟩ := keysOf_ints ns
    rw [em]
    refine ⟨p, ms, rfl, upd_same, fun ys p2 py pw hp2 => ?_⟩
    have ey : ys = sortI ns := sortI_is (strict_int pw (py.nodup_iff.mpr nd)) fun x => (py.mem_iff).trans (hmem x)
    subst ey
    refine q p2 _ ((A1.ex (Ex.new hp)).new hp2 (Ex.new hp2) ⟨_, upd_same, ?_⟩) ((i1.trans (IM.new hp)).trans (IM.new hp2))
    have := RpL.vmap (c := c) (H := upd (upd H1 p (SetQO X.w p (ms.map Sum.inl))) p2 (.lst ((sortI ns).map V.int))) (xs := (sortI ns).map V.int)
    rw [List.map_map] at this
    exact this)
/-- sorted(d) of one's own dict with ints as keys -/
theorem l_sortDict {kvs : List (Key × V)} {ns : List Int} {q0 : Addr} (i : Nat) (hc : X.calm = true) (hm1 : X.mg "sorted" = none) (h : Pv X c Fr G M env e (.p q0)) (hk : kvs.map (·.1) = ns.map Sum.inl) (nd : ns.Nodup) (hM : M[i]? = some (q0, dicV kvs) := by rfl) (hg1 : Gl X "sorted" := by rfl)
    (hs1 : starEach (e :: []) X.env = (false, eval e X.env) :: starEach [] X.env := by rfl) (hpl1 : (backTo p2 (starEach [] X.env)).any (·.1) = false := by rfl) :
    Pl X c Fr G M env (.Call (.Name "sorted" p1) [e] [] p2) ((sortI ns).map D.i) := fun σ H A Q q =>
  (pe_callB (cr_sortedDA hc) hg1 hm1 boot_sorted (pa_cons we pa_nil hs1) (by decide) (by decide) hs1 hpl1).w (h σ H A _ fun v H1 A1 i1 r => by
    refine ⟨q0, kvs, ns, by rw [rp_v.mp r], .inl (dic_at.mp (A1.obI hM)), hk, fun ys p2 py pw hp2 => ?_⟩
    have ey : ys = sortI ns := sortI_is (strict_int pw (py.nodup_iff.mpr nd)) fun x => py.mem_iff
    subst ey
    refine q p2 _ (A1.new hp2 (Ex.new hp2) ⟨_, upd_same, ?_⟩) (i1.trans (IM.new hp2))
    have := RpL.vmap (c := c) (H := upd H1 p2 (.lst ((sortI ns).map V.int))) (xs := (sortI ns).map V.int)
    rw [List.map_map] at this
    exact this)
/-- len(set(t)), t a tuple of texts -/
theorem v_lenSetS {ns : List Str} (hc : X.calm = true) (hm1 : X.mg "len" = none) (hm2 : X.mg "set" = none) (hK : X.K = c.K) (h : Pv X c Fr G M env e (.t (ns.map D.s))) (nd : ns.Nodup) (hl : ns.length + 1 < scanBound) (hg1 : Gl X "len" := by rfl) (hg2 : Gl X "set" := by rfl)
    (hs1 : starEach (e :: []) X.env = (false, eval e X.env) :: starEach [] X.env := by rfl) (hs2 : starEach ((Expr.Call (.Name "set" p1) [e] [] p2) :: []) X.env = (false, eval (Expr.Call (.Name "set" p1) [e] [] p2) X.env) :: starEach [] X.env := by rfl) (hpl1 : (backTo p2 (starEach [] X.env)).any (·.1) = false := by rfl) (hpl2 : (backTo p4 (starEach [] X.env)).any (·.1) = false := by rfl) :
    Pv X c Fr G M env (.Call (.Name "len" p3) [.Call (.Name "set" p1) [e] [] p2] [] p4) (.i (ns.length : Int)) := fun σ H A Q q =>
  (pe_callB cr_lenQ hg1 hm1 PySem.boot_len (pa_cons (pe_callTy (cr_setQ hc) hg2 hm2 boot_set (pa_cons we pa_nil hs1) (by decide) (by decide) hs1 hpl1) pa_nil hs2) (by decide) (by decide) hs2 hpl2).w (h σ H A _ fun v H1 A1 i1 r => by
    obtain ⟨a, xs, rfl, h3, h4⟩ := rp_t.mp r
    have e1 : ns.map D.s = (ns.map V.str).map D.v := by rw [List.map_map]; rfl
    have e2 : ns.map V.str = (ns.map (Sum.inr : Str → Key)).map kV := by rw [List.map_map]; rfl
    rw [e1] at h4
    rw [h4.vmap_eq, e2] at h3
    refine ⟨a, ns.map Sum.inr, rfl, .inr (hK ▸ h3), by rw [List.length_map]; exact hl, fun p hp => ?_⟩
    obtain ⟨ms, em, nd2, hmem⟩ := keysOf_strs ns
    rw [em]
    refine ⟨p, ms.map Sum.inr, rfl, upd_same, ?_⟩
    have : ms.length = ns.length := ((List.perm_ext_iff_of_nodup nd2 nd).mpr hmem).length_eq
    rw [List.length_map, this]
    exact q _ _ (A1.ex (Ex.new hp)) (i1.trans (IM.new hp)) (rp_v.mpr rfl))
end
end Sx
end
section
set_option maxRecDepth 100000
set_option maxHeartbeats 1000000
namespace Sx
open PySem PySem.Spec PyProof.Rows L2
section
variable {P : Program} {w : World} {c : Cs} {mg : Str → Option Value} {base : Heap}
/-! ### what a card tells -/
def R_heading : List D → D → Prop := fun ds d => ∃ r, ds = [dCard r] ∧ d = .s r.h
theorem ok_heading (T : Tx c mg) : PrAt P w c mg base c.card "heading" 1 (spD c R_heading) := by
  refine T.d_Card_heading.at_ fun f fd F => fnD F sc_Card_heading (fun _ _ _ _ _ _ us hl => match us, hl with | [_], _ => rfl) (fun ds d h => ?_) 0 rfl fun cdv A0 outer s H0 E ds d σ hr h A Q q => ?_
  · obtain ⟨r, rfl, _⟩ := h
    rfl
  · obtain ⟨r, rfl, rfl⟩ := h
    exact x_ret (v_ixT rfl (v_slot (k := true) rfl T.s_Card T.t_Card (v_var 0)) v_int rfl) A fun v H' A' r => q _ _ _ _ v H' A' r
def R_books : List D → D → Prop := fun ds d => ∃ r, ds = [dCard r] ∧ d = .t (r.b.map D.i)
theorem ok_books (T : Tx c mg) : PrAt P w c mg base c.card "books" 1 (spD c R_books) := by
  refine T.d_Card_books.at_ fun f fd F => fnD F sc_Card_books (fun _ _ _ _ _ _ us hl => match us, hl with | [_], _ => rfl) (fun ds d h => ?_) 0 rfl fun cdv A0 outer s H0 E ds d σ hr h A Q q => ?_
  · obtain ⟨r, rfl, _⟩ := h
    rfl
  · obtain ⟨r, rfl, rfl⟩ := h
    exact x_ret (v_ixT rfl (v_slot (k := true) rfl T.s_Card T.t_Card (v_var 0)) v_int rfl) A fun v H' A' r => q _ _ _ _ v H' A' r
def R_see : List D → D → Prop := fun ds d => ∃ r, ds = [dCard r] ∧ d = .s r.s
theorem ok_see (T : Tx c mg) : PrAt P w c mg base c.card "see" 1 (spD c R_see) := by
  refine T.d_Card_see.at_ fun f fd F => fnD F sc_Card_see (fun _ _ _ _ _ _ us hl => match us, hl with | [_], _ => rfl) (fun ds d h => ?_) 0 rfl fun cdv A0 outer s H0 E ds d σ hr h A Q q => ?_
  · obtain ⟨r, rfl, _⟩ := h
    rfl
  · obtain ⟨r, rfl, rfl⟩ := h
    exact x_ret (v_ixT rfl (v_slot (k := true) rfl T.s_Card T.t_Card (v_var 0)) v_int rfl) A fun v H' A' r => q _ _ _ _ v H' A' r
def R_also : List D → D → Prop := fun ds d => ∃ r, ds = [dCard r] ∧ d = .t (r.a.map D.s)
theorem ok_also (T : Tx c mg) : PrAt P w c mg base c.card "also" 1 (spD c R_also) := by
  refine T.d_Card_also.at_ fun f fd F => fnD F sc_Card_also (fun _ _ _ _ _ _ us hl => match us, hl with | [_], _ => rfl) (fun ds d h => ?_) 0 rfl fun cdv A0 outer s H0 E ds d σ hr h A Q q => ?_
  · obtain ⟨r, rfl, _⟩ := h
    rfl
  · obtain ⟨r, rfl, rfl⟩ := h
    exact x_ret (v_ixT rfl (v_slot (k := true) rfl T.s_Card T.t_Card (v_var 0)) v_int rfl) A fun v H' A' r => q _ _ _ _ v H' A' r
def R_leads : List D → D → Prop := fun ds d => ∃ r, ds = [dCard r] ∧ d = .b (!decide (r.s = ("" : Str)))
theorem dec_str (a b : Str) : decide (V.str a = V.str b) = decide (a = b) := by
  rw [decide_eq_decide]
  exact ⟨fun h => V.str.inj h, fun h => congrArg _ h⟩
theorem ok_leads (T : Tx c mg) : PrAt P w c mg base c.card "leads" 1 (spD c R_leads) := by
  refine T.d_Card_leads.at_ fun f fd F => fnD F sc_Card_leads (fun _ _ _ _ _ _ us hl => match us, hl with | [_], _ => rfl) (fun ds d h => ?_) 0 rfl fun cdv A0 outer s H0 E ds d σ hr h A Q q => ?_
  · obtain ⟨r, rfl, _⟩ := h
    rfl
  · obtain ⟨r, rfl, rfl⟩ := h
    exact x_ret (Pv.is (v_cmp op_ne (v_ixT rfl (v_slot (k := true) rfl T.s_Card T.t_Card (v_var 0)) v_int rfl) v_str rv_ne) (by rw [dec_str])) A fun v H' A' r => q _ _ _ _ v H' A' r
/-! ### the checks -/
def R_are_others : List D → D → Prop := fun ds d => ∃ (h : Str) (a : List Str), ds = [.s h, .t (a.map D.s)] ∧ othersOk h a ∧ d = .b true
theorem ok_are_others (T : Tx c mg) : FnAt P w c.K mg base "are_others" 2 (spD c R_are_others) := by
  refine T.d_are_others.at_ fun f fd F => fnD F sc_are_others (fun _ _ _ _ _ _ us hl => match us, hl with | [_, _], _ => rfl) (fun ds d h => ?_) 1 rfl fun cdv A0 outer s H0 E ds d σ hr h A Q q => ?_
  · obtain ⟨h, a, rfl, _⟩ := h
    rfl
  · obtain ⟨h, a, rfl, ⟨h1, h2, h3⟩, rfl⟩ := h
    refine x_if (k := false) (o_t (o_or (k := false) (Pt.is (t_cmp op_gt (v_lenT T.n_len rfl (v_var 1)) (v_glo T.k_MAX_ALSO) rv_I0) ?_) fun _ => o_or1 (Pt.is (t_cmp op_lt (v_lenSetS (ns := a) rfl T.n_len T.n_set rfl (v_var 1) h2 ?_) (v_lenT T.n_len rfl (v_var 1)) rv_I0) ?_))) A (fun h => nomatch h) fun _ H' A' =>
      x_nil (x_ret (Pv.is (v_all (bs := a.map fun x => wordB x && !decide (x = h)) rfl T.n_all rfl (Pl.is (l_lc [("other", 2)] a D.s (fun _ => true) (fun x => .b (wordB x && !decide (x = h))) rfl sc_are_others.nd (i_tup rfl (v_var 1)) (blkOk_by (N := N_are_others) (sc := defScope st_are_others) (by decide +kernel)) ?_ ?_) ?_)) ?_) A' fun v H2 A2 r => q _ _ _ _ v H2 A2 r)
    · rw [List.length_map]
      exact decide_eq_false (by omega)
    · unfold scanBound
      omega
    · rw [List.length_map]
      exact decide_eq_false (by omega)
    · omega
    · intro x hx acc Fr' Gx Dl e
      refine ⟨_, _, fun s H C cl fp => g_name 2 sc_are_others.nd, fun j hj => hj, fun s H C cl fp => n_nil, fun _ s H C cl fp => v_and (k := wordB x) (v_call (ok_is_word T) hr (a_cons (v_var 2) a_nil) ⟨x, rfl, ?_, rfl⟩) fun _ => v_one (Pv.is (v_cmp op_ne (v_var 2) (v_var 0) rv_ne) (by rw [dec_str]))⟩
      have := (word_len (h3 x hx).1).2
      omega
    · rw [filter_yes, List.map_map]
      rfl
    · congr 1
      rw [List.all_map, List.all_eq_true.mpr]
      intro x hx
      show (wordB x && !decide (x = h)) = true
      rw [(h3 x hx).1, decide_eq_false (h3 x hx).2]
      rfl
/-! ### Card(..) -/
theorem py_ints (b : List Int) : pyOf (.t (b.map D.i)) = some (.tuple (b.map PyData.int)) := by
  simp only [pyOf, pyAll_map D.i PyData.int (fun _ => by simp only [pyOf]), Option.map]
theorem py_strs (b : List Str) : pyOf (.t (b.map D.s)) = some (.tuple (b.map PyData.str)) := by
  simp only [pyOf, pyAll_map D.s PyData.str (fun _ => by simp only [pyOf]), Option.map]
theorem py_none : pyOf (.t []) = some (.tuple []) := by simp only [pyOf, pyAll, Option.map]
def R_Card : List D → D → Prop := fun ds d => ∃ r : Crd, ds = [.s r.h, .t (r.b.map D.i), .s r.s, .t (r.a.map D.s)] ∧ r.Ok ∧ d = cardD r
def Sh (n : Nat) (d : PyData) : Prop := d.canLay0 = true ∧ d.depth ≤ n
theorem sh_int (n : Nat) (i : Int) : Sh n (.int i) := ⟨by simp only [PyData.canLay0], by simp only [PyData.depth]; omega⟩
theorem sh_non (n : Nat) : Sh n .none := ⟨by simp only [PyData.canLay0], by simp only [PyData.depth]; omega⟩
theorem sh_str (n : Nat) {z : Str} (h : PyData.canLay0 (.str z) = true) : Sh n (.str z) := ⟨h, by simp only [PyData.depth]; omega⟩
theorem sh_all {n : Nat} : ∀ {xs : List PyData}, (∀ x ∈ xs, Sh n x) → PyData.canLayAll0 xs = true ∧ PyData.depthAll xs ≤ n
  | [], _ => ⟨by simp only [PyData.canLayAll0], by simp only [PyData.depthAll]; omega⟩
  | x :: xs, h => by
    obtain ⟨h1, h2⟩ := h x List.mem_cons_self
    obtain ⟨h3, h4⟩ := sh_all fun y hy => h y (List.mem_cons_of_mem _ hy)
    refine ⟨?_, ?_⟩
    · simp only [PyData.canLayAll0, h1, h3, Bool.and_self]
    · simp only [PyData.depthAll]
      omega
theorem sh_tup {n : Nat} {xs : List PyData} (h : ∀ x ∈ xs, Sh n x) : Sh (n + 1) (.tuple xs) := by
  obtain ⟨h1, h2⟩ := sh_all h
  refine ⟨?_, ?_⟩
  · simp only [PyData.canLay0, h1]
  · simp only [PyData.depth]
    omega
theorem sh_lst {n : Nat} {xs : List PyData} (h : ∀ x ∈ xs, Sh n x) : Sh (n + 1) (.list xs) := by
  obtain ⟨h1, h2⟩ := sh_all h
  refine ⟨?_, ?_⟩
  · simp only [PyData.canLay0, h1]
  · simp only [PyData.depth]
    omega
theorem Sh.up {n m : Nat} {d : PyData} (h : Sh n d) (e : n ≤ m) : Sh m d := ⟨h.1, Nat.le_trans h.2 e⟩
theorem Sh.ed {n : Nat} {d : PyData} (h : Sh n d) (e : n ≤ 64 := by decide) : SeqAt.shaped d = true := by
  unfold SeqAt.shaped
  rw [h.1, decide_eq_true (Nat.le_trans h.2 e)]
  rfl
theorem sh_ints (b : List Int) : Sh 1 (.tuple (b.map PyData.int)) := sh_tup fun x hx => by
  obtain ⟨i, _, rfl⟩ := List.mem_map.mp hx
  exact sh_int 0 i
theorem sh_strs {b : List Str} (h : ∀ z ∈ b, PyData.canLay0 (.str z) = true) : Sh 1 (.tuple (b.map PyData.str)) := sh_tup fun x hx => by
  obtain ⟨i, hi, rfl⟩ := List.mem_map.mp hx
  exact sh_str 0 (h i hi)
theorem sh_none : Sh 1 (.tuple []) := sh_tup fun x hx => nomatch hx
theorem Crd.Ok.len {r : Crd} (o : r.Ok) : r.s.length ≤ 100000 := by
  rcases o.s with h | ⟨_, _, h, _⟩
  · rw [h]
    decide
  · have := (word_len h).2
    omega
theorem lay_word {z : Str} (h : wordB z = true) : PyData.canLay0 (.str z) = true := word_ok h
theorem Crd.Ok.lay {r : Crd} (o : r.Ok) : PyData.canLay0 (.str r.s) = true := by
  rcases o.s with h | ⟨_, _, h, _⟩
  · rw [h]
    decide +kernel
  · exact word_ok h
theorem eqv_ints (a b : List Int) : PyData.eqv (.tuple (a.map PyData.int)) (.tuple (b.map PyData.int)) = decide (a = b) := by
  rw [PyData.eqv, eqvAll_int]
theorem eqv_strs (a b : List Str) : PyData.eqv (.tuple (a.map PyData.str)) (.tuple (b.map PyData.str)) = decide (a = b) := by
  rw [PyData.eqv, eqvAll_str]
theorem dec_and (p q : Prop) [Decidable p] [Decidable q] : (decide p && decide q) = decide (p ∧ q) := by
  by_cases h : p <;> by_cases k : q <;> simp [h, k]
theorem ok_Card_init (T : Tx c mg) : ∃ g fd dvs, Mk c.K c.card g ∧ dvs.length = 3 ∧ FunD c.K "__init__" "Card.__init__" (defArgs st_Card_init) (defBody st_Card_init) (defScope st_Card_init) dvs [] g fd ∧ FnOk P w c.K mg base CX0 3 g fd ["self", "heading", "books", "see", "also"] (spI c true R_Card) := by
  obtain ⟨g, fd, dvs, M, hd, F⟩ := T.d_Card_init
  refine ⟨g, fd, dvs, M, hd, F, fnIok (k := true) F sc_Card_init (fun ds d h => ?_) 1 rfl fun cdv A0 outer s H0 Fr E ds d x dx σ hr h A D0 q => ?_⟩
  · obtain ⟨r, rfl, _⟩ := h
    rfl
  · obtain ⟨r, rfl, o, rfl⟩ := h
    have lh := (word_len o.h).2
    have ls := o.len
    refine x_if (k := false) (t_not (k := true) (t_val (Pv.is (v_call (ok_is_word T) hr (a_cons (v_var 1) a_nil) ⟨r.h, rfl, by omega, rfl⟩) (by rw [o.h])))) A (fun h => nomatch h) fun _ H1 A1 => x_nil ?_
    refine x_if (k := false) (t_not (k := true) (t_val (v_call (ok_are_books T) hr (a_cons (v_var 2) a_nil) ⟨r.b, rfl, o.b, rfl⟩))) A1 (fun h => nomatch h) fun _ H2 A2 => x_nil ?_
    refine x_set 5 sc_Card_init.nd (d := .b (decide (r.b = []) && (decide (r.a = []) && (wordB r.s && !decide (r.s = r.h))))) ?_ A2 fun σ3 H3 A3 => ?_
    · refine v_and (Pv.is (v_cmp (op_eqD hr.units) (v_var 2) (v_tup a_nil) (rv_eqD (py_ints r.b) py_none (sh_ints r.b).ed sh_none.ed)) (by rw [show ([] : List PyData) = ([] : List Int).map PyData.int from rfl, eqv_ints])) fun _ => ?_
      refine v_and (Pv.is (v_cmp (op_eqD hr.units) (v_var 4) (v_tup a_nil) (rv_eqD (py_strs r.a) py_none (sh_strs fun z hz => word_ok (o.a.2.2 z hz).1).ed sh_none.ed)) (by rw [show ([] : List PyData) = ([] : List Str).map PyData.str from rfl, eqv_strs])) fun _ => ?_
      refine v_and (v_call (ok_is_word T) hr (a_cons (v_var 3) a_nil) ⟨r.s, rfl, ls, rfl⟩) fun _ => v_one (Pv.is (v_cmp op_ne (v_var 3) (v_var 1) rv_ne) (by rw [dec_str]))
    · refine x_if (k := false) (Pt.is (o_t (o_and (t_cmp op_ne (v_var 3) v_str rv_ne) fun _ => o_and1 (t_not (t_val (v_var 5))))) ?_) A3 (fun h => nomatch h) fun _ H4 A4 => x_nil ?_
      · rw [dec_str]
        rcases o.s with h | ⟨h1, h2, h3, h4⟩
        · rw [h]
          rfl
        · rw [decide_eq_true h1, decide_eq_true h2, h3, decide_eq_false h4]
          simp
      · refine x_if (k := false) (t_not (k := true) (t_val (v_call (ok_are_others T) hr (a_cons (v_var 1) (a_cons (v_var 4) a_nil)) ⟨r.h, r.a, rfl, o.a, rfl⟩))) A4 (fun h => nomatch h) fun _ H5 A5 => x_nil ?_
        exact x_slot (k := true) rfl T.s_Card T.t_Card (v_tup (a_cons (v_var 1) (a_cons (v_var 2) (a_cons (v_var 3) (a_cons (v_var 4) a_nil))))) (v_var 0) List.mem_cons_self A5 fun v H' A' rv => x_nil (q _ _ _ v H' A' rv)
theorem ok_Card (T : Tx c mg) : MkAt P w c mg base c.card "Card" 3 (spI c true R_Card) := by
  obtain ⟨g, fd, dvs, M, hd, F, G⟩ := ok_Card_init (P := P) (w := w) (base := base) T
  refine ⟨g, T.g_Card, M, fnI (k := true) G ?_⟩
  have h := F.binds1 (ps := ["self", "heading", "books", "see", "also"]) 5 3 (fun z => by rw [z] at hd; cases hd) (by rw [hd]; rfl) (fun Tt kV doc pm an cdv ct us its hl h2 => match us, hl, its, h2.trans hd with | [_, _, _, _, _], _, [_, _, _], _ => ⟨_, rfl, rfl⟩)
  rw [List.drop_of_length_le (Nat.le_of_eq hd)] at h
  exact h
end
end Sx
end
section
set_option maxRecDepth 100000
set_option maxHeartbeats 2000000
namespace Sx
open PySem PySem.SeqAt PyProof.Rows L2
open AutoSeq1 (wpAny_loadPart')
section
variable {prog : Program} {w : World} {A : Around} {R : Result → Shared → Prop}
/-- == of two tuples, as many items in both; the i-th two give e i -/
theorem tup_eqB (l b : Addr) (xs ys : Array Value) (n n2 : Nat) (dd dd2 : Option Addr) (sl sl2 : Array (Option Value)) (hsz : xs.size = ys.size) (e : Nat → Bool) (I : Nat → Shared → Prop)
    (turn : ∀ i (h1 : i < xs.size) (h2 : i < ys.size) s, I i s → wpAny (model prog w) A.in1 (eqBool xs[i] ys[i]) (fun r s' => r = e i ∧ I (i + 1) s') (fun e s' => R (.error e) s') s)
    (yes : ∀ s, (∀ i, i < xs.size → e i = true) → I xs.size s → R (.ok (.ret (.bool true))) s) (no : ∀ i s, i < xs.size → e i = false → I (i + 1) s → R (.ok (.ret (.bool false))) s) {s : Shared}
    (hl : s.heap.get? l = some { cls := .type "tuple", dict := dd, data := .seq xs n, slots := sl }) (hb : s.heap.get? b = some { cls := .type "tuple", dict := dd2, data := .seq ys n2, slots := sl2 }) (h : I 0 s) :
    wpAny (model prog w) A.in1 (Builtin.«tuple.__eq__» ⟨[.ref l, .ref b], []⟩) (GQ.FinOf prog w A R) (fun e s' => R (.error e) s') s := by
  have sub := AutoSeq1.sub_tuple_tuple
  have hZ : (xs.toList.zip ys.toList).length = xs.size := by simp [hsz]
  have h0 := h
  obtain ⟨hp, g, d, tk, os⟩ := s
  wp_walk using wpAny_loadPart' hl, wpAny_loadPart' hb, wpAny_forIn_list _ (fun rest b s' => b.1 = none ∧ ∃ i, rest = (xs.toList.zip ys.toList).drop i ∧ i ≤ xs.size ∧ (∀ j, j < i → e j = true) ∧ I i s') _
  case turn =>
    rintro ⟨y, x⟩ rest b s' ⟨hb', i, hz, hi, hj, hI⟩
    have hlt : i < (xs.toList.zip ys.toList).length := by
      rcases Nat.lt_or_ge i (xs.toList.zip ys.toList).length with h' | h'
      · exact h'
      · rw [List.drop_of_length_le h'] at hz
        cases hz
    have h1 : i < xs.size := hZ ▸ hlt
    have h2 : i < ys.size := hsz ▸ h1
    rw [List.drop_eq_getElem_cons hlt] at hz
    injection hz with hyx hrest
    have hy : y = xs[i] := by have := congrArg Prod.fst hyx; simpa using this
    have hx : x = ys[i] := by have := congrArg Prod.snd hyx; simpa using this
    subst hy hx
    refine wpAny_bind (wpAny_mono (turn i h1 h2 s' hI) (fun r s2 q2 => ?_) fun _ _ x => x)
    obtain ⟨hr, q2⟩ := q2
    cases q : e i with
    | true =>
      rw [q] at hr
      subst hr
      wp_walk
      exact ⟨rfl, i + 1, hrest, h1, fun j hj2 => by
        rcases Nat.lt_succ_iff_lt_or_eq.mp hj2 with h | h
        · exact hj j h
        · rw [h]
          exact q, q2⟩
    | false =>
      rw [q] at hr
      subst hr
      have := no i s2 h1 q q2
      wp_walk

      exact this
  case fin =>
    rintro ⟨b1, b2⟩ s' ⟨hb', i, hz, hi, hj, hI⟩
    simp only at hb'
    subst hb'
    have hge : xs.size ≤ i := by
      rcases Nat.lt_or_ge i (xs.toList.zip ys.toList).length with h' | h'
      · rw [List.drop_eq_getElem_cons h'] at hz
        cases hz
      · exact hZ ▸ h'
    obtain rfl : i = xs.size := by omega
    have hR := yes s' hj hI
    wp_walk
    simpa [Builtin.Tuple.tupleCompareSizes, hsz] using hR
  case h => exact ⟨rfl, 0, rfl, Nat.zero_le _, (fun j hj => absurd hj (Nat.not_lt_zero _)), h0⟩
end
section
variable {X : Cx} {c : Cs} {pins : List (Addr × Obj)} {σ : L2.St} {H : Hp} {s : Shared}
/-- data by its value is one -/
theorem sqt_one (I : Inv X pins σ H s) {a : Addr} {xs ys : List V} (h : SqT X.K H a xs) (k : SqT X.K H a ys) : xs = ys := by
  obtain ⟨its, r, e, z⟩ := I.tuple h
  obtain ⟨its2, r2, e2, z2⟩ := I.tuple k
  obtain ⟨o, ho, hc, n, hd⟩ := e
  obtain ⟨o', ho', hc', n', hd'⟩ := e2
  rw [ho] at ho'
  cases ho'
  rw [hd] at hd'
  injection hd' with e3 e4
  have e3 : its = its2 := by simpa using e3
  subst e3
  exact r.inj r2
mutual
theorem rp_one (I : Inv X pins σ H s) (hK : X.K = c.K) : ∀ {d d' : D} {v : V} {p q : PyData}, pyOf d = some p → pyOf d' = some q → Rp c H d v → Rp c H d' v → d = d'
  | .v x, d', v, p, q, h, k, r, r2 => by
    have e := rp_v.mp r
    subst e
    cases d' with
    | v y => rw [rp_v.mp r2]
    | t ds =>
      obtain ⟨a, vs, e, _⟩ := rp_t.mp r2
      subst e
      simp only [pyOf] at h
      cases h
    | sl k d =>
      simp only [pyOf] at k
      cases k
    | x φ =>
      simp only [pyOf] at k
      cases k
  | .t ds, d', v, p, q, h, k, r, r2 => by
    obtain ⟨a, vs, e, h1, h2⟩ := rp_t.mp r
    subst e
    cases d' with
    | v y =>
      have e := rp_v.mp r2
      subst e
      simp only [pyOf] at k
      cases k
    | t ds' =>
      obtain ⟨a', vs', e, k1, k2⟩ := rp_t.mp r2
      cases e
      have e := sqt_one I (hK ▸ h1) (hK ▸ k1)
      subst e
      simp only [pyOf] at h k
      obtain ⟨ps, e1, _⟩ := Option.map_eq_some_iff.mp h
      obtain ⟨qs, e2, _⟩ := Option.map_eq_some_iff.mp k
      rw [rpl_one I hK e1 e2 h2 k2]
    | sl kk d =>
      simp only [pyOf] at k
      cases k
    | x φ =>
      simp only [pyOf] at k
      cases k
  | .sl kk d, d', v, p, q, h, k, r, r2 => by
    simp only [pyOf] at h
    cases h
  | .x φ, d', v, p, q, h, k, r, r2 => by
    simp only [pyOf] at h
    cases h
theorem rpl_one (I : Inv X pins σ H s) (hK : X.K = c.K) : ∀ {ds ds' : List D} {vs : List V} {ps qs : List PyData}, pyAll ds = some ps → pyAll ds' = some qs → RpL c H ds vs → RpL c H ds' vs → ds = ds'
  | [], ds', vs, ps, qs, h, k, r, r2 => by
    rw [rpl_nil.mp r] at r2
    cases ds' with
    | nil => rfl
    | cons d ds' =>
      obtain ⟨_, _, e, _⟩ := rpl_cons.mp r2
      cases e
  | d :: ds, ds', vs, ps, qs, h, k, r, r2 => by
    obtain ⟨v, ws, e, h1, h2⟩ := rpl_cons.mp r
    subst e
    cases ds' with
    | nil =>
      have := rpl_nil.mp r2
      cases this
    | cons d' ds' =>
      obtain ⟨v', ws', e, k1, k2⟩ := rpl_cons.mp r2
      cases e
      simp only [pyAll] at h k
      cases e1 : pyOf d with
      | none => rw [e1] at h; cases h
      | some p =>
        cases e2 : pyAll ds with
        | none => rw [e1, e2] at h; cases h
        | some ps' =>
          cases e3 : pyOf d' with
          | none => rw [e3] at k; cases k
          | some q =>
            cases e4 : pyAll ds' with
            | none => rw [e3, e4] at k; cases k
            | some qs' => rw [rp_one I hK e1 e3 h1 k1, rpl_one I hK e2 e4 h2 k2]
end
theorem slt_one (I : Inv X pins σ H s) {a C dx dx' : Addr} {f g : V} (h : SlX.Slt H a C dx [some f]) (k : SlX.Slt H a C dx' [some g]) : f = g := by
  obtain ⟨sl, od, r, J, _⟩ := SlX.slt_inst I h
  obtain ⟨sl', od', r', J', _⟩ := SlX.slt_inst I k
  have e := J.at_.symm.trans J'.at_
  have e2 : sl = sl' := congrArg Obj.slots (Option.some.inj e)
  subst e2
  obtain ⟨u, h1, h2⟩ := r 0 f rfl
  obtain ⟨u', h3, h4⟩ := r' 0 g rfl
  rw [h1] at h3
  cases h3
  exact h2.inj h4
theorem py_card (r : Crd) : pyOf (cardD r) = some (.tuple [.str r.h, .tuple (r.b.map PyData.int), .str r.s, .tuple (r.a.map PyData.str)]) := by
  unfold cardD
  simp only [pyOf, pyAll, pyAll_map D.i PyData.int (fun _ => by simp only [pyOf]), pyAll_map D.s PyData.str (fun _ => by simp only [pyOf]), Option.map]
theorem map_inj {α β : Type} {f : α → β} (h : ∀ x y, f x = f y → x = y) : ∀ {l m : List α}, l.map f = m.map f → l = m
  | [], [], _ => rfl
  | [], _ :: _, e => by simp at e
  | _ :: _, [], e => by simp at e
  | x :: l, y :: m, e => by
    simp only [List.map_cons, List.cons.injEq] at e
    rw [h _ _ e.1, map_inj h e.2]
theorem D.s_inj (x y : Str) (h : D.s x = D.s y) : x = y := by
  injection h with h
  injection h
theorem D.i_inj (x y : Int) (h : D.i x = D.i y) : x = y := by
  injection h with h
  injection h
theorem cardD_inj {r q : Crd} (h : cardD r = cardD q) : r = q := by
  obtain ⟨h1, b1, s1, a1⟩ := r
  obtain ⟨h2, b2, s2, a2⟩ := q
  unfold cardD at h
  simp only [D.t.injEq, List.cons.injEq, and_true] at h
  obtain ⟨e1, e2, e3, e4⟩ := h
  rw [D.s_inj _ _ e1, D.s_inj _ _ e3, map_inj D.s_inj e4, map_inj D.i_inj e2]
theorem card_one (I : Inv X pins σ H s) (hK : X.K = c.K) {r q : Crd} {v : V} (h : Rp c H (dCard r) v) (k : Rp c H (dCard q) v) : r = q := by
  obtain ⟨a, dx, f, e, h1, h2⟩ := rp_sl.mp h
  subst e
  obtain ⟨a', dx', f', e, k1, k2⟩ := rp_sl.mp k
  cases e
  have e := slt_one I h1 k1
  subst e
  exact cardD_inj (rp_one I hK (py_card r) (py_card q) h2 k2)
end
/-! ### == of cards -/
theorem eqv_card (r q : Crd) : PyData.eqv (.tuple [.str r.h, .tuple (r.b.map PyData.int), .str r.s, .tuple (r.a.map PyData.str)]) (.tuple [.str q.h, .tuple (q.b.map PyData.int), .str q.s, .tuple (q.a.map PyData.str)]) = decide (r = q) := by
  obtain ⟨h1, b1, s1, a1⟩ := r
  obtain ⟨h2, b2, s2, a2⟩ := q
  simp only [PyData.eqv, PyData.eqvAll, eqvAll_int, eqvAll_str, Bool.and_true]
  by_cases e1 : h1 = h2 <;> by_cases e2 : b1 = b2 <;> by_cases e3 : s1 = s2 <;> by_cases e4 : a1 = a2 <;> simp [e1, e2, e3, e4]
theorem sh_card {r : Crd} (o : r.Ok) : Sh 2 (.tuple [.str r.h, .tuple (r.b.map PyData.int), .str r.s, .tuple (r.a.map PyData.str)]) := sh_tup fun x hx => by
  simp only [List.mem_cons, List.not_mem_nil, or_false] at hx
  rcases hx with rfl | rfl | rfl | rfl
  · exact sh_str 1 (word_ok o.h)
  · exact sh_ints _
  · exact sh_str 1 o.lay
  · exact sh_strs fun z hz => word_ok (o.a.2.2 z hz).1
def R_Card_eq : List D → D → Prop := fun ds d => ∃ r q : Crd, ds = [dCard r, dCard q] ∧ r.Ok ∧ q.Ok ∧ d = .b (decide (r = q))
section
variable {P : Program} {w : World} {c : Cs} {mg : Str → Option Value} {base : Heap}
theorem isi_sl {kb : Bool} {d0 : D} (hs : SlX.SCls c.K (c.cl kb)) (hi : SlX.SIsi c.K (c.cl kb)) (hk : PySem.W.kitOne c.K (.ref (c.cl kb)) (.ref (c.cl kb)) = some true) : RVC c (SlX.rIsiSl c.K (.ref (c.cl kb))) [.sl kb d0, .p (c.cl kb)] (.b true) := fun H xs Q r k => by
  obtain ⟨v, r1, rfl, h1, h2⟩ := rpl_cons.mp r
  obtain ⟨u, r2, rfl, h3, h4⟩ := rpl_cons.mp h2
  rw [rpl_nil.mp h4, rp_v.mp h3]
  obtain ⟨a, dx, f, rfl, g1, g2⟩ := rp_sl.mp h1
  exact ⟨a, c.cl kb, dx, _, .ref (c.cl kb), true, rfl, rfl, fun w h => h, g1, hs, hi, hk, k _ H (Ex.refl H) (rp_v.mpr rfl)⟩
theorem ok_Card_eq (T : Tx c mg) : MtAt P w c mg base c.card "__eq__" 1 (spD c R_Card_eq) := by
  refine T.d_Card_eq.at_ fun f fd F => fnD F sc_Card_eq (fun _ _ _ _ _ _ us hl => match us, hl with | [_, _], _ => rfl) (fun ds d h => ?_) 0 rfl fun cdv A0 outer s H0 E ds d σ hr h A Q q => ?_
  · obtain ⟨r, q, rfl, _⟩ := h
    rfl
  · obtain ⟨r, q1, rfl, o1, o2, rfl⟩ := h
    refine x_ret (Pv.is (v_and (k := true) (v_cB (SlX.call_isiSl (.ref c.card)) boot_isinstance T.n_isinstance (a_cons (v_var 1) (a_cons (v_glo (v := .ref c.card) ⟨_, T.g_Card, rfl⟩) a_nil)) (isi_sl (kb := true) T.s_Card T.i_Card T.o_Card)) fun _ => v_one (Pv.is (v_cmp (op_eqD hr.units) (v_slot (k := true) rfl T.s_Card T.t_Card (v_var 0)) (v_slot (k := true) rfl T.s_Card T.t_Card (v_var 1)) (rv_eqD (py_card r) (py_card q1) (sh_card o1).ed (sh_card o2).ed)) (by rw [eqv_card]))) (by rw [Bool.true_and])) A fun v H' A' r => q _ _ _ _ v H' A' r
end
end Sx
end
section
set_option maxRecDepth 100000
set_option maxHeartbeats 2000000
namespace Sx
open PySem PySem.Spec PyProof.Rows L2
section
variable {X : Cx} {c : Cs} {pins : List (Addr × Obj)} {σ : L2.St} {H : Hp} {s : Shared} {n : Nat}
theorem card_eqB (hK : X.K = c.K) (F : MtAt X.prog X.w c X.mg X.base c.card "__eq__" n (spD c R_Card_eq)) {A : Around} (sb : Sub X n A) {x y : V} {u v : Value} (I : L2.Inv X pins σ H s) (rx : RelV x u) (ry : RelV y v) {r q : Crd} (hx : Rp c H (dCard r) x) (hy : Rp c H (dCard q) y) (o1 : r.Ok) (o2 : q.Ok) :
    wpAny (model X.prog X.w) A (eqBool u v) (fun b s' => b = decide (r = q) ∧ ∃ H', L2.Inv X pins σ H' s' ∧ Ex H H') X.xe s := by
  obtain ⟨g, hm, F⟩ := F
  obtain ⟨a, dx, f, rfl, h1, h2⟩ := rp_sl.mp hx
  obtain ⟨b, dy, f', rfl, k1, k2⟩ := rp_sl.mp hy
  obtain rfl : u = Value.ref a := rx
  obtain rfl : v = Value.ref b := ry
  by_cases hab : a = b
  · subst hab
    have e := card_one I hK hx hy
    exact SeqAt.EqAt.same (A := A) (s := s) (.ref a) X.prog X.w X.xe _ ⟨(decide_eq_true e).symm, H, I, Ex.refl H⟩
  · refine GQ.eqBool_refG hab ?_
    obtain ⟨sl, od, _, J, _⟩ := SlX.slt_inst I h1
    obtain ⟨sl', od', _, J', _⟩ := SlX.slt_inst I k1
    obtain ⟨m, hF⟩ := I.fr
    rw [← hK] at hm F
    refine PySem.W.cmp_K (op := .Eq) (tb := .ref (c.cl true)) sb.room.units0 hF I.ok.mod.kin J J'.type (by simp [PySem.W.notFirst]) hm.at_ hm.fn ?_
    have e0 : Env0 X.prog X.w X.K X.mg X.base A X.stack s H := by
      have e := I.env0
      exact ⟨by rw [sb.fr]; exact e.frames, e.mod, e.bs, e.bsz, e.funs, e.frf, e.hok, e.bare⟩
    refine wpAny_mono (wpAny_call (SlX.run_at (Q := fun z H' => z = .bl (decide (r = q)) ∧ Ex H H') (E := fun _ _ _ => False) (ws := [.ref a, .ref b]) F sb.room e0 (fun _ _ _ _ _ _ _ h => h.elim) I (.cons rfl (.cons rfl .nil)) ⟨[dCard r, dCard q], .b (decide (r = q)), rpl_cons.mpr ⟨_, _, rfl, hx, RpL.one hy⟩, ⟨r, q, rfl, o1, o2, rfl⟩, fun v H' e rv => ⟨rp_v.mp rv, e⟩⟩)) (fun z s' hz => ?_) fun _ _ x => x
    obtain ⟨z', H', I', rz, e1, e2⟩ := hz
    subst e1
    obtain rfl : z = .bool (decide (r = q)) := rz
    exact ⟨_, rfl, rfl, H', I', e2⟩
/-- == of two tuples of cards, as many in both -/
theorem op_eqCards (hK : X.K = c.K) (FE : MtAt X.prog X.w c X.mg X.base c.card "__eq__" n (spD c R_Card_eq)) (hr : Room (n + 1) X.A) : OpR X (compareOp .Eq) (fun x y H Q => ∃ rs qs : List Crd, Rp c H (.t (rs.map dCard)) x ∧ Rp c H (.t (qs.map dCard)) y ∧ rs.length = qs.length ∧ (∀ r ∈ rs, r.Ok) ∧ (∀ r ∈ qs, r.Ok) ∧ ∀ H', Ex H H' → Q (.bl (decide (rs = qs))) H') := by
  intro pins s σ H x y v u Q I rx ry h
  obtain ⟨rs, qs, hx, hy, hl, o1, o2, k⟩ := h
  obtain ⟨a, xs, rfl, h1, h2⟩ := rp_t.mp hx
  obtain ⟨b, ys, rfl, k1, k2⟩ := rp_t.mp hy
  obtain rfl : v = Value.ref a := rx
  obtain rfl : u = Value.ref b := ry
  rw [← hK] at h1 k1
  obtain ⟨its, r, e, z⟩ := I.tuple h1
  obtain ⟨its2, r2, e2, z2⟩ := I.tuple k1
  obtain ⟨⟨cls, dd, data, sl⟩, ho, hc, n1, hd⟩ := id e
  obtain ⟨⟨cls2, dd2, data2, sl2⟩, ho2, hc2, n2, hd2⟩ := id e2
  simp only at hc hd hc2 hd2
  subst hc hd hc2 hd2
  have l1 : its.length = rs.length := by rw [← r.length, h2.len, List.length_map]
  have l2 : its2.length = qs.length := by rw [← r2.length, k2.len, List.length_map]
  have sb : Sub X (n + 1) X.A := ⟨hr, rfl⟩
  show wpAny (model X.prog X.w) X.A (richCompare .Eq (.ref a) (.ref b)) (EP X pins σ Q) X.xe s
  refine wpAny_richCompare_same_room (op := .Eq) ⟨_, ho, rfl⟩ ⟨_, ho2, rfl⟩ F.slot_tuple_eq (GQ.call_here F.slot_tuple_eq ⟨_, ho, rfl⟩ F.entry_tuple_eq (F.args_tuple_eq_2 _ _) ?_) hr.units0
  refine tup_eqB (R := wants (fun v s' => v ≠ .notImplemented ∧ EP X pins σ Q v s') X.xe) a b its.toArray its2.toArray n1 n2 dd dd2 sl sl2 (by rw [List.size_toArray, List.size_toArray, l1, l2, hl]) (fun i => decide (rs[i]? = qs[i]?)) (fun _ s' => ∃ H', L2.Inv X pins σ H' s' ∧ Ex H H') (fun i i1 i2 s' q => ?_) (fun s' all q => ?_) (fun i s' hi no q => ?_) ho ho2 ⟨H, I, Ex.refl H⟩
  · obtain ⟨H1, I1, e1⟩ := q
    have j1 : i < its.length := by simpa using i1
    have j2 : i < its2.length := by simpa using i2
    have c1 : i < rs.length := by omega
    have c2 : i < qs.length := by omega
    obtain ⟨x1, g1, g2⟩ := h2.get (i := i) (d := dCard rs[i]) (by rw [List.getElem?_map, List.getElem?_eq_getElem c1]; rfl)
    obtain ⟨y1, g3, g4⟩ := k2.get (i := i) (d := dCard qs[i]) (by rw [List.getElem?_map, List.getElem?_eq_getElem c2]; rfl)
    obtain ⟨u1, g5, g6⟩ := r.get g1
    obtain ⟨v1, g7, g8⟩ := r2.get g3
    rw [List.getElem?_eq_getElem j1] at g5
    rw [List.getElem?_eq_getElem j2] at g7
    cases g5
    cases g7
    have t1 : its.toArray[i] = its[i] := by simp
    have t2 : its2.toArray[i] = its2[i] := by simp
    rw [t1, t2]
    refine wpAny_mono (card_eqB hK FE sb.in1 I1 g6 g8 (g2.im e1.im) (g4.im e1.im) (o1 _ (List.getElem_mem c1)) (o2 _ (List.getElem_mem c2))) (fun w s2 hw => ?_) fun _ _ x => x
    obtain ⟨hw, H2, I2, e3⟩ := hw
    refine ⟨?_, H2, I2, e1.trans e3⟩
    rw [hw, List.getElem?_eq_getElem c1, List.getElem?_eq_getElem c2, decide_eq_decide]
    exact ⟨fun h => congrArg _ h, fun h => Option.some.inj h⟩
  · obtain ⟨H1, I1, e1⟩ := q
    have ee : rs = qs := by
      refine List.ext_getElem? fun i => ?_
      by_cases hi : i < rs.length
      · exact of_decide_eq_true (all i (by rw [List.size_toArray]; omega))
      · rw [List.getElem?_eq_none (by omega), List.getElem?_eq_none (by omega)]
    have q := k H1 e1
    rw [decide_eq_true ee] at q
    exact ⟨(fun x => nomatch x), .bl true, H1, I1, rfl, q⟩
  · obtain ⟨H1, I1, e1⟩ := q
    have ne : rs ≠ qs := fun ee => of_decide_eq_false no (by rw [ee])
    have q := k H1 e1
    rw [decide_eq_false ne] at q
    exact ⟨(fun x => nomatch x), .bl false, H1, I1, rfl, q⟩
theorem rv_eqC {rs qs : List Crd} (hl : rs.length = qs.length) (o1 : ∀ r ∈ rs, r.Ok) (o2 : ∀ r ∈ qs, r.Ok) : RV2 c (fun x y H Q => ∃ rs qs : List Crd, Rp c H (.t (rs.map dCard)) x ∧ Rp c H (.t (qs.map dCard)) y ∧ rs.length = qs.length ∧ (∀ r ∈ rs, r.Ok) ∧ (∀ r ∈ qs, r.Ok) ∧ ∀ H', Ex H H' → Q (.bl (decide (rs = qs))) H') (.t (rs.map dCard)) (.t (qs.map dCard)) (.b (decide (rs = qs))) := fun H x y Q h1 h2 k =>
  ⟨rs, qs, h1, h2, hl, o1, o2, fun H' e => k _ H' e (rp_v.mpr rfl)⟩
end
/-! ### drawers -/
section
variable {P : Program} {w : World} {c : Cs} {mg : Str → Option Value} {base : Heap}
def R_cards : List D → D → Prop := fun ds d => ∃ cs : List Crd, ds = [dDrw cs] ∧ d = .t (cs.map dCard)
theorem ok_cards (T : Tx c mg) : PrAt P w c mg base c.drw "cards" 1 (spD c R_cards) := by
  refine T.d_Drawer_cards.at_ fun f fd F => fnD F sc_Drawer_cards (fun _ _ _ _ _ _ us hl => match us, hl with | [_], _ => rfl) (fun ds d h => ?_) 0 rfl fun cdv A0 outer s H0 E ds d σ hr h A Q q => ?_
  · obtain ⟨r, rfl, _⟩ := h
    rfl
  · obtain ⟨r, rfl, rfl⟩ := h
    exact x_ret (v_slot (k := false) rfl T.s_Drawer T.t_Drawer (v_var 0)) A fun v H' A' r => q _ _ _ _ v H' A' r
def R_len : List D → D → Prop := fun ds d => ∃ cs : List Crd, ds = [dDrw cs] ∧ d = .i (cs.length : Int)
theorem ok_len (T : Tx c mg) : MtAt P w c mg base c.drw "__len__" 1 (spD c R_len) := by
  refine T.d_Drawer_len.at_ fun f fd F => fnD F sc_Drawer_len (fun _ _ _ _ _ _ us hl => match us, hl with | [_], _ => rfl) (fun ds d h => ?_) 0 rfl fun cdv A0 outer s H0 E ds d σ hr h A Q q => ?_
  · obtain ⟨r, rfl, _⟩ := h
    rfl
  · obtain ⟨r, rfl, rfl⟩ := h
    exact x_ret (Pv.is (v_lenT T.n_len rfl (v_slot (k := false) rfl T.s_Drawer T.t_Drawer (v_var 0))) (by rw [List.length_map])) A fun v H' A' r => q _ _ _ _ v H' A' r
def R_Drawer : List D → D → Prop := fun ds d => ∃ cs : List Crd, ds = [.t (cs.map dCard)] ∧ cs.length ≤ 16 ∧ d = .t (cs.map dCard)
theorem ok_Drawer (T : Tx c mg) : MkAt P w c mg base c.drw "Drawer" 1 (spI c false R_Drawer) := by
  obtain ⟨g, fd, dvs, M, hd, F⟩ := T.d_Drawer_init
  have e0 : dvs = [] := List.eq_nil_of_length_eq_zero hd
  subst e0
  refine ⟨g, T.g_Drawer, M, fnI (k := false) (fnIok (k := false) F sc_Drawer_init (fun ds d h => ?_) 0 rfl fun cdv A0 outer s H0 Fr E ds d x dx σ hr h A D0 q => ?_) ⟨[], .nil, F.bindsN (fun _ _ _ _ _ _ us hl => match us, hl with | [_, _], _ => rfl)⟩⟩
  · obtain ⟨r, rfl, _⟩ := h
    rfl
  · obtain ⟨cs, rfl, hl, rfl⟩ := h
    refine x_if (k := false) (Pt.is (t_cmp op_gt (v_lenT T.n_len rfl (v_var 1)) (v_glo T.k_MAX_CARDS) rv_I0) (by rw [List.length_map]; exact decide_eq_false (by omega))) A (fun h => nomatch h) fun _ H1 A1 => x_nil ?_
    exact x_slot (k := false) rfl T.s_Drawer T.t_Drawer (v_var 1) (v_var 0) List.mem_cons_self A1 fun v H' A' rv => x_nil (q _ _ _ v H' A' rv)
def R_check_place : List D → D → Prop := fun ds d => ∃ (cs : List Crd) (n : Int), ds = [dDrw cs, .i n] ∧ 0 ≤ n ∧ n < cs.length ∧ d = .n
theorem ok_check_place (T : Tx c mg) : MtAt P w c mg base c.drw "check_place" 2 (spD c R_check_place) := by
  refine T.d_Drawer_check_place.at_ fun f fd F => fnD F sc_Drawer_check_place (fun _ _ _ _ _ _ us hl => match us, hl with | [_, _], _ => rfl) (fun ds d h => ?_) 0 rfl fun cdv A0 outer s H0 E ds d σ hr h A Q q => ?_
  · obtain ⟨cs, n, rfl, _⟩ := h
    rfl
  · obtain ⟨cs, n, rfl, h0, h1, rfl⟩ := h
    refine x_if (k := false) (t_not (k := true) (t_val (Pv.is (v_call (ok_is_number T) hr (a_cons (v_var 1) (a_cons v_int (a_cons (v_op op_sub (v_lenT T.n_len rfl (v_slot (k := false) rfl T.s_Drawer T.t_Drawer (v_var 0))) v_int rv_I0) a_nil))) ⟨n, 0, _, rfl, rfl⟩) (by rw [List.length_map, decide_eq_true h0, decide_eq_true (by omega)]; rfl)))) A (fun h => nomatch h) fun _ H1 A1 => x_nil (x_nil (q _ _ _ _ _ H1 A1 (rp_v.mpr rfl)))
def R_headings : List D → D → Prop := fun ds d => ∃ cs : List Crd, ds = [dDrw cs] ∧ cs.length ≤ 16 ∧ d = .t ((sortS (cs.map (·.h))).map D.s)
theorem ok_headings (T : Tx c mg) : PrAt P w c mg base c.drw "headings" 3 (spD c R_headings) := by
  refine T.d_Drawer_headings.at_ fun f fd F => fnD F sc_Drawer_headings (fun _ _ _ _ _ _ us hl => match us, hl with | [_], _ => rfl) (fun ds d h => ?_) 1 rfl fun cdv A0 outer s H0 E ds d σ hr h A Q q => ?_
  · obtain ⟨r, rfl, _⟩ := h
    rfl
  · obtain ⟨cs, rfl, hl, rfl⟩ := h
    refine x_ret (v_tupN T.n_tuple rfl (l_sortSetS (ns := cs.map (·.h)) rfl T.n_sorted T.n_set rfl (Pl.is (l_lc [("card", 1)] cs dCard (fun _ => true) (fun r => .s r.h) rfl sc_Drawer_headings.nd (i_tup rfl (v_slot (k := false) rfl T.s_Drawer T.t_Drawer (v_var 0))) (blkOk_by (N := N_Drawer_headings) (sc := defScope st_Drawer_headings) (by decide +kernel)) (by omega) ?_) ?_) ?_)) A fun v H' A' r => q _ _ _ _ v H' A' r
    · intro r hx acc Fr' Gx Dl e
      exact ⟨_, _, fun s H C cl fp => g_name 1 sc_Drawer_headings.nd, fun j hj => hj, fun s H C cl fp => n_nil, fun _ s H C cl fp => v_prop (k := true) rfl (ok_heading T) T.s_Card hr (v_var 1) ⟨r, rfl, rfl⟩⟩
    · rw [filter_yes, List.map_map]
      rfl
    · rw [List.length_map]
      unfold scanBound
      omega
def drwOk (cs : List Crd) : Prop := cs.length ≤ 16 ∧ ∀ r ∈ cs, r.Ok
def R_Drawer_eq : List D → D → Prop := fun ds d => ∃ cs es : List Crd, ds = [dDrw cs, dDrw es] ∧ drwOk cs ∧ drwOk es ∧ cs.length = es.length ∧ d = .b (decide (cs = es))
theorem ok_Drawer_eq (T : Tx c mg) : MtAt P w c mg base c.drw "__eq__" 3 (spD c R_Drawer_eq) := by
  refine T.d_Drawer_eq.at_ fun f fd F => fnD F sc_Drawer_eq (fun _ _ _ _ _ _ us hl => match us, hl with | [_, _], _ => rfl) (fun ds d h => ?_) 0 rfl fun cdv A0 outer s H0 E ds d σ hr h A Q q => ?_
  · obtain ⟨r, q, rfl, _⟩ := h
    rfl
  · obtain ⟨cs, es, rfl, o1, o2, hl, rfl⟩ := h
    refine x_ret (Pv.is (v_and (k := true) (v_cB (SlX.call_isiSl (.ref c.drw)) boot_isinstance T.n_isinstance (a_cons (v_var 1) (a_cons (v_glo (v := .ref c.drw) ⟨_, T.g_Drawer, rfl⟩) a_nil)) (isi_sl (kb := false) T.s_Drawer T.i_Drawer T.o_Drawer)) fun _ => v_one (v_cmp (op_eqCards rfl (ok_Card_eq T) hr) (v_slot (k := false) rfl T.s_Drawer T.t_Drawer (v_var 0)) (v_prop (k := false) rfl (ok_cards T) T.s_Drawer hr (v_var 1) ⟨es, rfl, rfl⟩) (rv_eqC hl o1.2 o2.2))) (by rw [Bool.true_and])) A fun v H' A' r => q _ _ _ _ v H' A' r
end
end Sx
end
section
namespace Sx
open PySem PySem.Spec PyProof.Rows L2
/-! ### looking up, in plain words -/
def lk (half all : Bool) (hs : List Str) (h : Str) : Nat → Nat → Nat → List Nat → Option Nat × List Nat
  | 0, _, _, met => (none, met)
  | n + 1, lo, hi, met =>
    if hi ≤ lo then (none, met) else
    let here := if half = true then (lo + hi - 1) / 2 else lo
    let x := hs.getD here ("" : Str)
    if x = h then (some here, met ++ [here])
    else if (ltS h x && !all) = true then lk half all hs h n lo (if half = true then here else lo) (met ++ [here])
    else lk half all hs h n (here + 1) hi (met ++ [here])
def isHalf (r : Str) : Bool := decide (r = ("half" : Str))
def isAll (r : Str) : Bool := decide (r = ("all" : Str))
def looked (r : Str) (hs : List Str) (h : Str) : Option Nat × List Nat := lk (isHalf r) (isAll r) hs h (hs.length + 1) 0 hs.length []
def natD (k : Nat) : D := .i (k : Int)
def optD : Option Nat → D
  | none => .n
  | some k => natD k
def lkD (p : Option Nat × List Nat) : D := .t [optD p.1, .t (p.2.map natD)]
def ruleOk (r : Str) : Prop := r = ("all" : Str) ∨ r = ("half" : Str) ∨ r = ("leaf" : Str)
theorem lk_done {half all : Bool} {hs : List Str} {h : Str} {n lo hi : Nat} {met : List Nat} (e : hi ≤ lo) : lk half all hs h n lo hi met = (none, met) := by
  cases n with
  | zero => rfl
  | succ n =>
    unfold lk
    rw [if_pos e]
/-- what is found: a place of the row, met no more often than there are places -/
theorem lk_ok {half all : Bool} {hs : List Str} {h : Str} : ∀ {n lo hi : Nat} {met : List Nat}, hi ≤ hs.length → ∀ k, (lk half all hs h n lo hi met).1 = some k → k < hs.length
  | 0, lo, hi, met, _, k, e => by
    unfold lk at e
    cases e
  | n + 1, lo, hi, met, hh, k, e => by
    unfold lk at e
    by_cases q : hi ≤ lo
    · rw [if_pos q] at e
      cases e
    · rw [if_neg q] at e
      dsimp only at e
      have hb : (if half = true then (lo + hi - 1) / 2 else lo) < hi := by split <;> omega
      generalize (if half = true then (lo + hi - 1) / 2 else lo) = here at e hb
      by_cases q1 : hs.getD here ("" : Str) = h
      · rw [if_pos q1] at e
        cases e
        omega
      · rw [if_neg q1] at e
        by_cases q2 : (ltS h (hs.getD here ("" : Str)) && !all) = true
        · rw [if_pos q2] at e
          exact lk_ok (by split <;> omega) k e
        · rw [if_neg q2] at e
          exact lk_ok hh k e
theorem lk_len {half all : Bool} {hs : List Str} {h : Str} : ∀ {n lo hi : Nat} {met : List Nat}, (lk half all hs h n lo hi met).2.length ≤ met.length + n
  | 0, lo, hi, met => by
    unfold lk
    exact Nat.le_refl _
  | n + 1, lo, hi, met => by
    unfold lk
    by_cases q : hi ≤ lo
    · rw [if_pos q]
      dsimp only
      omega
    · rw [if_neg q]
      dsimp only
      generalize (if half = true then (lo + hi - 1) / 2 else lo) = here
      by_cases q1 : hs.getD here ("" : Str) = h
      · rw [if_pos q1]
        simp
      · rw [if_neg q1]
        by_cases q2 : (ltS h (hs.getD here ("" : Str)) && !all) = true
        · rw [if_pos q2]
          refine Nat.le_trans lk_len ?_
          simp
          omega
        · rw [if_neg q2]
          refine Nat.le_trans lk_len ?_
          simp
          omega
theorem looked_ok {r : Str} {hs : List Str} {h : Str} {k : Nat} (e : (looked r hs h).1 = some k) : k < hs.length := lk_ok (Nat.le_refl _) k e
theorem looked_len (r : Str) (hs : List Str) (h : Str) : (looked r hs h).2.length ≤ hs.length + 1 := by
  have := lk_len (half := isHalf r) (all := isAll r) (hs := hs) (h := h) (n := hs.length + 1) (lo := 0) (hi := hs.length) (met := [])
  rw [List.length_nil, Nat.zero_add] at this
  exact this
end Sx
end
section
set_option maxRecDepth 100000
set_option maxHeartbeats 2000000
namespace Sx
open PySem PySem.Spec PyProof.Rows L2
open AutoSeq1 (wpAny_loadPart')
/-! ### enumerate of a tuple -/
theorem enum_newT (l : Addr) (items : Array Value) (n : Nat) (dct : Option Addr) (sl : Array (Option Value)) :
    Meets (Builtin.«enumerate.__new__» ⟨[.type "enumerate", .ref l], []⟩) (fun _ R s => s.heap.get? l = some { cls := .type "tuple", dict := dct, data := .seq items n, slots := sl } ∧
      R (.ok (.ret (.ref (s.heap.push { cls := .type "tuple_iterator", data := .fields #[.ref l, .int 0 0] }).objs.size)))
        { s with heap := (s.heap.push { cls := .type "tuple_iterator", data := .fields #[.ref l, .int 0 0] }).push { cls := .type "enumerate", data := .fields #[.none, .bool false, .ref s.heap.objs.size, rawInt 0, .none, .none] } }) :=
  .of_wp fun prog w A R s h => by
    obtain ⟨hp, g, d, tk, os⟩ := s
    obtain ⟨hl, h⟩ := h
    have sub := sub_enumerate
    have hT : Heap.IsTuple (Shared.heap ⟨hp, g, d, tk, os⟩) l items := ⟨_, hl, rfl, n, rfl⟩
    wp_walk using wpAny_loadPart' hl
    refine wpAny_stack_any fun st => wpAny_pure ?_
    split
    · rename_i c _ _ _ _ _
      cases (c == Value.type "enumerate")
      · wp_walk using wpAny_loadPart' hl, wpAny_pyIter_tuple hT
        exact ⟨_, rfl, h⟩
      · wp_walk using wpAny_loadPart' hl, wpAny_pyIter_tuple hT
        exact ⟨_, rfl, h⟩
    · wp_walk using wpAny_loadPart' hl, wpAny_pyIter_tuple hT
      exact ⟨_, rfl, h⟩
section
variable {prog : Program} {w : World} {A : Around} {E : Value → Shared → Prop} {s : Shared}
theorem call_enumT {l : Addr} {items : Array Value} {Q : Value → Shared → Prop} (hL : s.heap.IsTuple l items)
    (h : ∀ h', IsEnum h' (s.heap.objs.size + 1) s.heap.objs.size 0 .none → h'.IsTupleIter s.heap.objs.size l 0 → h'.IsTuple l items → (∀ b o, s.heap.get? b = some o → h'.get? b = some o) → Q (.ref (s.heap.objs.size + 1)) { s with heap := h' }) :
    wpAny (model prog w) A (call (.type "enumerate") [.ref l]) Q E s := by
  obtain ⟨⟨c, dct, dt, sl⟩, hl, hc, n, hd⟩ := id hL
  obtain rfl : c = .type "tuple" := hc
  obtain rfl : dt = .seq items n := hd
  refine callType_new F.called_enumerate (by decide) (F.typeCall_enumerate_1 _) (F.newCall_enumerate_1 _) (fun obj => F.args_object_init_2 obj _) F.entry_enumerate_new (enum_newT l items n dct sl) ⟨hl, ?_⟩
  have hz : (s.heap.push { cls := .type "tuple_iterator", data := .fields #[.ref l, .int 0 0] }).objs.size = s.heap.objs.size + 1 := Heap.size_push ..
  show _ ∧ _
  rw [hz]
  have he : IsEnum ((s.heap.push { cls := .type "tuple_iterator", data := .fields #[.ref l, .int 0 0] }).push { cls := .type "enumerate", data := .fields #[.none, .bool false, .ref s.heap.objs.size, rawInt 0, .none, .none] }) (s.heap.objs.size + 1) s.heap.objs.size 0 .none := by
    have := Heap.get?_push_size (s.heap.push { cls := .type "tuple_iterator", data := .fields #[.ref l, .int 0 0] }) (o := { cls := .type "enumerate", data := .fields #[.none, .bool false, .ref s.heap.objs.size, rawInt 0, .none, .none] }) rfl
    rw [hz] at this
    exact this
  exact ⟨⟨_, he, rfl⟩, h _ he ⟨_, Heap.get?_push_of_some _ (Heap.get?_push_size _ rfl), rfl, rfl⟩ ⟨_, Heap.get?_push_of_some _ (Heap.get?_push_of_some _ hl), rfl, n, rfl⟩ fun b o x => Heap.get?_push_of_some _ (Heap.get?_push_of_some _ x)⟩
end
theorem enum_endT {prog : Program} {w : World} {A : Around} {E : Value → Shared → Prop} {s : Shared} {e it l : Addr} {i : Nat} {items : Array Value} {old : Value} {Q : Option Value → Shared → Prop} (hh : A.handled = none)
    (he : IsEnum s.heap e it i old) (hit : s.heap.IsTupleIter it l i) (hl : s.heap.IsTuple l items) (hx : items[i]? = none) (hQ : ∀ h', Heap.ExtBut it s.heap h' → Q none { s with heap := h' }) : wpAny (model prog w) A (pyNext (.ref e)) Q E s := by
  have hT : s.TypeIs (.ref e) "enumerate" := ⟨_, he, rfl⟩
  unfold pyNext
  refine wpAny_bind (wpAny_attempt (wpAny_callSpecial?_slot (name := Str.ofString "__next__") hT F.slot_enumerate_next (wpAny_call_entry F.slot_enumerate_next hT F.entry_enumerate_next ?_ (F.args_enumerate_next_1 _))))
  show wpAny _ _ (field (.ref e) 2 >>= _) _ _ _
  refine wpAny_bind (wpAny_field he rfl (x := .ref it) rfl ?_)
  refine wpAny_bind (wpAny_nextOf_tuple_end (by simpa using hh) hit hl hx fun h' x he' hx' => ?_)
  obtain ⟨o, ho, hc⟩ := hx'
  exact wpAny_bind (wpAny_isInstance (T := "StopIteration") (b := true) ⟨o, ho, hc⟩ isSubtype_stop (wpAny_pure (hQ _ he')))
/-- the items of the tuple at a, each in a new pair behind its number -/
def Iet (K : PySem.W.Frag) (a : Addr) : It :=
  ⟨fun i H => ∃ (xs : List V) (x : V), SqT K H a xs ∧ xs[i]? = some x, fun i H v H' => ∃ T x, v = .ref T ∧ H T = none ∧ H' = upd H T (.tup [.int (i : Nat), x]) ∧ ∀ xs, SqT K H a xs → xs[i]? = some x, fun i H => ∃ xs : List V, SqT K H a xs ∧ xs.length ≤ i⟩
theorem sqt_inj {X : Cx} {pins : List (Addr × Obj)} {σ : L2.St} {H : Hp} {s : Shared} (I : L2.Inv X pins σ H s) {a : Addr} {xs ys : List V} (h : SqT X.K H a xs) (k : SqT X.K H a ys) : xs = ys := by
  obtain ⟨its, r, e, z⟩ := I.tuple h
  obtain ⟨its2, r2, e2, z2⟩ := I.tuple k
  obtain ⟨o, ho, hc, n, hd⟩ := e
  obtain ⟨o', ho', hc', n', hd'⟩ := e2
  rw [ho] at ho'
  cases ho'
  rw [hd] at hd'
  injection hd' with e3 e4
  have e3 : its = its2 := by simpa using e3
  subst e3
  exact r.inj r2
theorem turn_enumT {P : Program} {w : World} {K : PySem.W.Frag} {elts : List Expr} {kk : Nat} {tpos : Pos} (a e it : Addr) :
    Turn P w K (.Tuple elts kk tpos) (Iet K a) [e, it] e (fun i h => (∃ old, IsEnum h e it ((i : Nat) : Int) old) ∧ h.IsTupleIter it a i ∧ e ≠ it ∧ a ≠ it ∧ a ≠ e) where
  mem := by simp
  obj := fun i h st b hb => by
    obtain ⟨⟨old, he⟩, ⟨o, ho, hc, hd⟩, _⟩ := st
    have e' : b = e ∨ b = it := by simpa using hb
    rcases e' with z | z
    · rw [z]
      exact ⟨_, he, fun v q => nomatch q⟩
    · rw [z]
      exact ⟨o, ho, fun v q => by rw [hd] at q; cases q⟩
  keep := fun i h h' st k => let ⟨⟨old, he⟩, hi, hne⟩ := st; ⟨⟨old, k e (by simp) _ he⟩, hi.at fun o q => k it (by simp) o q, hne⟩
  item := by
    intro X hP hw hK hc i pins s σ H E I hf st hg
    subst hP hw hK
    obtain ⟨⟨old, he⟩, hit, hne, n1, n2⟩ := st
    obtain ⟨xs, x, hq, hx⟩ := hg
    obtain ⟨its, rv, p, hz⟩ := I.tuple hq
    obtain ⟨u, hu, ru⟩ := rv.get hx
    have hel : e < s.heap.objs.size := Heap.lt_size he
    have hil : it < s.heap.objs.size := by
      obtain ⟨_, q, _⟩ := hit
      exact Heap.lt_size q
    have hi : i < its.toArray.size := by
      rw [List.size_toArray]
      exact (List.getElem?_eq_some_iff.mp hu).1
    refine wpAny_pyNext_enum_itemD (Draws.tuple (show X.A.in1.handled = none from I.ok.hd hc) it a n1 its.toArray) he ⟨hit, p⟩ hi hne (by simp only [List.mem_cons, List.not_mem_nil, or_false, not_or]; exact ⟨hne, Ne.symm n2⟩) fun x1 h' tk hP ho st' hT hsz hk => ?_
    obtain ⟨hit', _⟩ := st'
    have ex : x1 = u := by
      have hP : its.toArray[i]? = some x1 := hP
      rw [List.getElem?_toArray, hu] at hP
      exact (Option.some.inj hP).symm
    subst ex
    refine ⟨_, rfl, wpAny_letOwnedTupleGo_enum (s := { s with heap := h', toks := tk + 1 }) ho fun h'' he' sb => ?_⟩
    have hT2 : h''.get? s.heap.objs.size = some { cls := .type "tuple", data := .seq #[.int i tk, x1] } := (sb.2 _ (Nat.ne_of_gt hel)).trans hT
    have new : ObjOk X.prog X.w (upd H s.heap.objs.size (.tup [.int (i : Nat), x])) h'' s.heap.objs.size (.tup [.int (i : Nat), x]) :=
      ⟨by show 2 ≤ sizeLine; decide, [.int i tk, x1], .cons ⟨_, rfl⟩ (.cons ru .nil), ⟨_, hT2, rfl, _, rfl⟩⟩
    have I1 : L2.Inv X pins σ (upd H s.heap.objs.size (.tup [.int (i : Nat), x])) { s with heap := h'', toks := tk + 1 } :=
      I.turnedNew (ch := [e, it]) (fun b ob hb q => (sb.2 b (fun z => hb (by simp [z]))).trans (hk b ob (fun z => hb (by simp [z])) (fun z => hb (by simp [z])) q)) hf (Nat.le_refl _) new
    refine ⟨.ref s.heap.objs.size, _, I1, rfl, ⟨_, x, rfl, I.hok.fresh (Nat.le_refl _), rfl, fun ys hy => by rw [sqt_inj I hy hq]; exact hx⟩, ⟨⟨x1, ?_⟩, hit'.at fun o q => (sb.2 it (Ne.symm hne)).trans q, hne, n1, n2⟩, fun b hb => ?_⟩
    · have e1 : ((i + 1 : Nat) : Int) = (i : Int) + 1 := by omega
      rw [e1]
      exact he'
    · have hb' : b < s.heap.objs.size := by
        have e' : b = e ∨ b = it := by simpa using hb
        rcases e' with z | z
        · rw [z]
          exact hel
        · rw [z]
          exact hil
      rw [upd_ne (Nat.ne_of_lt hb')]
      exact (hf b hb).1
  done := by
    intro X hP hw hK hc i pins s σ H E I hf st hg
    subst hP hw hK
    obtain ⟨⟨old, he⟩, hit, hne, n1, n2⟩ := st
    obtain ⟨xs, hq, hx⟩ := hg
    obtain ⟨its, rv, p, hz⟩ := I.tuple hq
    obtain ⟨f0, f1, f2, f3, f4, f5⟩ := hf it (by simp)
    have hl := rv.length
    exact enum_endT (I.ok.hd hc) he hit p (by simp; omega) fun h' eb => ⟨rfl, I.turned (t' := s.toks) (fun b o hb q => eb b o hb q) f0 f1 f3 f4 f5⟩
  self := fun A i s Q E st h => let ⟨⟨_, he⟩, _⟩ := st; wpAny_pyIter_enum he h
theorem pi_enumT {X : Cx} {e : Expr} {ta : TA} {p pos tpos : Pos} {elts : List Expr} {kk : Nat} (hg : Gl X "enumerate") (hm : X.mg "enumerate" = none) (ha : PA X [e] ta) (hs : starEach [e] X.env = [(false, eval e X.env)] := by rfl) :
    PI X (.Tuple elts kk tpos) (.Call (.Name "enumerate" p) [e] [] pos) (fun σ H R => ta σ H fun vs H1 => ∃ a xs, vs = [.ref a] ∧ SqT X.K H1 a xs ∧ R (Iet X.K a) H1) := by
  refine ⟨fun pins s σ H R I h => ?_⟩
  refine Call_ (ld_blt I hg hm boot_enumerate (PyProof.Rows.callWith_type1 (thn (ha.run pos pins s σ H _ I h) fun us s1 ⟨vs, H1, I1, r1, q1⟩ => ?_) hs rfl))
  obtain ⟨a, xs, rfl, hq, q⟩ := q1
  rw [Vals.ref1 r1]
  obtain ⟨its, rv, p', hz⟩ := I1.tuple hq
  have hal : a < s1.heap.objs.size := by
    obtain ⟨o, ho, _⟩ := p'
    exact Heap.lt_size ho
  refine call_enumT p' fun h' he hit hT hk => wpAny_pyIter_enum he ?_
  have I2 : L2.Inv X pins σ H1 { s1 with heap := h' } := I1.kept (t' := s1.toks) hk
  refine ⟨s1.heap.objs.size + 1, [s1.heap.objs.size + 1, s1.heap.objs.size], _, _, H1, rfl, I2, turn_enumT a (s1.heap.objs.size + 1) s1.heap.objs.size, ⟨⟨.none, he⟩, hit, Nat.succ_ne_self _, Nat.ne_of_lt hal, Nat.ne_of_lt (Nat.lt_succ_of_lt hal)⟩, fun b hb => ?_, q⟩
  have e' : b = s1.heap.objs.size + 1 ∨ b = s1.heap.objs.size := by simpa using hb
  have hle : s1.heap.objs.size ≤ b := by
    rcases e' with z | z
    · rw [z]
      exact Nat.le_add_right _ _
    · rw [z]
      exact Nat.le_refl _
  exact I1.fpOk hle (I1.hok.fresh hle)
section
variable {X : Cx} {c : Cs} {Fr : Hp} {G : List (V × D)} {M : Mm} {env : En} {a b e : Expr} {es : List Expr} {pos p1 p2 p3 p4 : Pos} {d : D} {ds : List D} {x : Str} {l : Addr}
/-- the items, each behind its number -/
def numbered (ds : List D) : List D := (List.range ds.length).map fun (i : Nat) => .t [.i (i : Int), ds.getD i .n]
theorem numbered_get {ds : List D} {i : Nat} {d : D} (h : (numbered ds)[i]? = some d) : ∃ x, ds[i]? = some x ∧ d = .t [.i (i : Int), x] := by
  unfold numbered at h
  rw [List.getElem?_map] at h
  obtain ⟨j, h1, rfl⟩ := Option.map_eq_some_iff.mp h
  obtain ⟨h2, h3⟩ := List.getElem?_eq_some_iff.mp h1
  rw [List.length_range] at h2
  rw [List.getElem_range] at h3
  subst h3
  exact ⟨ds[i], List.getElem?_eq_getElem h2, by rw [List.getD_eq_getElem?_getD, List.getElem?_eq_getElem h2]; rfl⟩
theorem numbered_len {ds : List D} : (numbered ds).length = ds.length := by
  unfold numbered
  rw [List.length_map, List.length_range]
theorem i_enumT {elts : List Expr} {kk : Nat} {tpos : Pos} (hK : X.K = c.K) (hm : X.mg "enumerate" = none) (h : Pv X c Fr G M env e (.t ds)) (hg : Gl X "enumerate" := by rfl) (hs : starEach (e :: []) X.env = (false, eval e X.env) :: starEach [] X.env := by rfl) : Pi X c Fr G M env (.Tuple elts kk tpos) (.Call (.Name "enumerate" p1) [e] [] p2) (numbered ds) := fun σ H A R k =>
  (pi_enumT hg hm (pa_cons we pa_nil hs) hs).w (h σ H A _ fun v H1 A1 i1 r => by
    obtain ⟨a, vs, e1, h1, h2⟩ := rp_t.mp r
    refine ⟨a, vs, by rw [e1], hK ▸ h1, ?_⟩
    have hl := h2.len
    refine k (Iet X.K a) Fr [(v, .t ds)] H1 (Ex.refl _) (A1.ghost r) i1 ?_
    rw [numbered_len, ← hl]
    have key : ∀ H', (∀ p ∈ [(v, D.t ds)], Rp c H' p.2 p.1) → ∃ vs', SqT X.K H' a vs' ∧ RpL c H' ds vs' := fun H' h => by
      have h := h _ List.mem_cons_self
      obtain ⟨b, vs', e2, h3, h4⟩ := rp_t.mp h
      have e2 : v = .ref b := e2
      rw [e1] at e2
      cases e2
      exact ⟨vs', hK ▸ h3, h4⟩
    refine ⟨fun i H' hi q => ?_, fun H' q => ?_, fun i H' y H'' hi q z => ?_⟩
    · obtain ⟨vs', h3, h4⟩ := key H' q.2
      have hl2 := h4.len
      exact ⟨vs', vs'[i]'(by omega), h3, by simp⟩
    · obtain ⟨vs', h3, h4⟩ := key H' q.2
      have hl2 := h4.len
      exact ⟨vs', h3, by omega⟩
    · obtain ⟨vs', h3, h4⟩ := key H' q.2
      obtain ⟨T, x, rfl, z2, rfl, z4⟩ := z
      refine ⟨Ex.new z2, fun d hd => ?_⟩
      obtain ⟨dx, hdx, rfl⟩ := numbered_get hd
      obtain ⟨u, q1, q2⟩ := h4.get hdx
      rw [z4 vs' h3] at q1
      cases q1
      exact rp_t.mpr ⟨T, _, rfl, SqT.of upd_same, rpl_cons.mpr ⟨_, [x], rfl, rp_v.mpr rfl, RpL.one (q2.im (IM.new z2))⟩⟩)
theorem i_enumN {elts : List Expr} {kk : Nat} {tpos : Pos} (hK : X.K = c.K) (hm : X.mg "enumerate" = none) (h : Pv X c Fr G M env e (.p l)) (hl : LsAt c Fr l ds) (hg : Gl X "enumerate" := by rfl) (hs : starEach (e :: []) X.env = (false, eval e X.env) :: starEach [] X.env := by rfl) : Pi X c Fr G M env (.Tuple elts kk tpos) (.Call (.Name "enumerate" p1) [e] [] p2) (numbered ds) := fun σ H A R k =>
  (pi_enum hg hm (pa_cons we pa_nil hs) hs).w (h σ H A _ fun v H1 A1 i1 r => by
    obtain ⟨vs, h1, h2⟩ := hl
    refine ⟨l, vs, by rw [rp_v.mp r], .inl (rd_ex A1.fr h1), ?_⟩
    have hlen := h2.len
    refine k (Ite X.K l) Fr [] H1 (Ex.refl _) A1 i1 ?_
    rw [numbered_len, ← hlen]
    refine ⟨fun i H' hi q => ?_, fun H' q => ?_, fun i H' y H'' hi q z => ?_⟩
    · exact ⟨vs, vs[i], .inl (rd_ex q.1 h1), by simp⟩
    · exact ⟨vs, .inl (rd_ex q.1 h1), Nat.le_refl _⟩
    · obtain ⟨T, x, rfl, z2, rfl, z4⟩ := z
      refine ⟨Ex.new z2, fun d hd => ?_⟩
      obtain ⟨dx, hdx, rfl⟩ := numbered_get hd
      obtain ⟨u, q1, q2⟩ := h2.get hdx
      rw [z4 vs (.inl (rd_ex q.1 h1))] at q1
      cases q1
      exact rp_t.mpr ⟨T, _, rfl, SqT.of upd_same, rpl_cons.mpr ⟨_, [x], rfl, rp_v.mpr rfl, RpL.one ((q2.im q.1.im).im (IM.new z2))⟩⟩)
/-! ### tuple(range(..)), list(range(..)) -/
theorem rgV_nat (n : Nat) : rgV 0 (n : Int) = (List.range n).map fun (i : Nat) => V.int (i : Int) := by
  unfold rgV
  simp
theorem v_tupRange {n : Nat} (hc : X.calm = true) (hm : X.mg "range" = none) (hm2 : X.mg "tuple" = none) (h : Pv X c Fr G M env e (.i (n : Int))) (hn : n ≤ 100000) (hg : Gl X "range" := by rfl) (hg2 : Gl X "tuple" := by rfl) (na : starEach [e] X.env = (false, eval e X.env) :: starEach [] X.env := by rfl) : Pv X c Fr G M env (.Call (.Name "tuple" p1) [.Call (.Name "range" p2) [e] [] p3] [] p4) (.t ((List.range n).map fun (i : Nat) => D.i (i : Int))) := fun σ H A Q q =>
  (pe_tupRg hc hg2 hm2 (prg_1 hg hm we (na := na))).w (h σ H A _ fun v H1 A1 i1 r => ⟨(n : Int), rp_v.mp r, RgOk.of_le (by omega) (by omega) (by omega) (by omega), fun p hp => by
    rw [rgV_nat]
    refine q _ _ (A1.ex (Ex.new hp)) (i1.trans (IM.new hp)) (rp_t.mpr ⟨p, _, rfl, SqT.of upd_same, ?_⟩)
    have := RpL.vmap (c := c) (H := upd H1 p (.tup ((List.range n).map fun (i : Nat) => V.int (i : Int)))) (xs := (List.range n).map fun (i : Nat) => V.int (i : Int))
    rw [List.map_map] at this
    exact this⟩)
theorem l_listRange {n : Nat} (hc : X.calm = true) (hm : X.mg "range" = none) (hm2 : X.mg "list" = none) (h : Pv X c Fr G M env e (.i (n : Int))) (hn : n ≤ 100000) (hg : Gl X "range" := by rfl) (hg2 : Gl X "list" := by rfl) (na : starEach [e] X.env = (false, eval e X.env) :: starEach [] X.env := by rfl) : Pl X c Fr G M env (.Call (.Name "list" p1) [.Call (.Name "range" p2) [e] [] p3] [] p4) ((List.range n).map fun (i : Nat) => D.i (i : Int)) := fun σ H A Q q =>
  (pe_listRg hc hg2 hm2 (prg_1 hg hm we (na := na))).w (h σ H A _ fun v H1 A1 i1 r => ⟨(n : Int), rp_v.mp r, RgOk.of_le (by omega) (by omega) (by omega) (by omega), fun p hp => by
    rw [rgV_nat]
    refine q p _ (A1.new hp (Ex.new hp) ⟨_, upd_same, ?_⟩) (i1.trans (IM.new hp))
    have := RpL.vmap (c := c) (H := upd H1 p (.lst ((List.range n).map fun (i : Nat) => V.int (i : Int)))) (xs := (List.range n).map fun (i : Nat) => V.int (i : Int))
    rw [List.map_map] at this
    exact this⟩)
end
end Sx
end
section
set_option maxRecDepth 100000
set_option maxHeartbeats 1000000
namespace Sx
open PySem PySem.Spec PyProof.Rows L2
section
variable {P : Program} {w : World} {c : Cs} {mg : Str → Option Value} {base : Heap}
theorem v_gloT {X : Cx} {c : Cs} {Fr : Hp} {G : List (V × D)} {M : Mm} {env : En} {x : Str} {pos : Pos} {vs : List V} (hK : X.K = c.K) (h : Kt c X.mg x vs) (hg : Gl X x := by rfl) (hd : (x == ("__debug__" : Str)) = false := by decide) : Pv X c Fr G M env (.Name x pos) (.t (vs.map D.v)) := fun σ H A Q k =>
  (pe_glob (v := .ref (He.ga c.K x)) hg h.1 rfl hd).w (k _ H A (IM.refl H) (rp_t.mpr ⟨_, vs, rfl, h.2 H, RpL.vmap⟩))
theorem rv_inT {K : PySem.W.Frag} {y : V} {xs : List V} (hK : K = c.K) (hy : flatV y = true := by rfl) (hx : xs.all flatV = true := by rfl) : RV2 c (rIn K false) (.v y) (.t (xs.map D.v)) (.b (inV y xs)) := fun H x z Q h1 h2 k => by
  obtain ⟨p, zs, rfl, g1, g2⟩ := rp_t.mp h2
  rw [g2.vmap_eq] at g1
  rw [rp_v.mp h1]
  exact ⟨p, xs, rfl, .inr (hK ▸ g1), hy, hx, k _ H (Ex.refl H) (rp_v.mpr rfl)⟩
theorem rv_niT {K : PySem.W.Frag} {y : V} {xs : List V} (hK : K = c.K) (hy : flatV y = true := by rfl) (hx : xs.all flatV = true := by rfl) : RV2 c (rIn K true) (.v y) (.t (xs.map D.v)) (.b (!inV y xs)) := fun H x z Q h1 h2 k => by
  obtain ⟨p, zs, rfl, g1, g2⟩ := rp_t.mp h2
  rw [g2.vmap_eq] at g1
  rw [rp_v.mp h1]
  exact ⟨p, xs, rfl, .inr (hK ▸ g1), hy, hx, k _ H (Ex.refl H) (rp_v.mpr rfl)⟩
def R_check_rule : List D → D → Prop := fun ds d => ∃ r : Str, ds = [.s r] ∧ ruleOk r ∧ d = .n
theorem ok_check_rule (T : Tx c mg) : FnAt P w c.K mg base "check_rule" 1 (spD c R_check_rule) := by
  refine T.d_check_rule.at_ fun f fd F => fnD F sc_check_rule (fun _ _ _ _ _ _ us hl => match us, hl with | [_], _ => rfl) (fun ds d h => ?_) 0 rfl fun cdv A0 outer s H0 E ds d σ hr h A Q q => ?_
  · obtain ⟨r, rfl, _⟩ := h
    rfl
  · obtain ⟨r, rfl, hr, rfl⟩ := h
    refine x_if (k := false) (Pt.is (t_cmp op_notIn_seq (v_var 0) (v_gloT rfl T.k_RULES) (rv_niT rfl)) ?_) A (fun h => nomatch h) fun _ H1 A1 => x_nil (x_nil (q _ _ _ _ _ H1 A1 (rp_v.mpr rfl)))
    rcases hr with rfl | rfl | rfl <;> rfl
def R_by_halves : List D → D → Prop := fun ds d => ∃ (cs : List Crd) (h : Str), ds = [dDrw cs, .s h] ∧ cs.length ≤ 16 ∧ d = lkD (lk true false (cs.map (·.h)) h (cs.length + 1) 0 cs.length [])
theorem ok_by_halves (T : Tx c mg) : FnAt P w c.K mg base "by_halves" 3 (spD c R_by_halves) := by
  refine T.d_by_halves.at_ fun f fd F => fnD F sc_by_halves (fun _ _ _ _ _ _ us hl => match us, hl with | [_, _], _ => rfl) (fun ds d h => ?_) 5 rfl fun cdv A0 outer s H0 E ds d σ hr h A Q q => ?_
  · obtain ⟨r, h, rfl, _⟩ := h
    rfl
  · obtain ⟨cs, h, rfl, hc, rfl⟩ := h
    have key := lk_len (half := true) (all := false) (hs := cs.map (·.h)) (h := h) (n := cs.length + 1) (lo := 0) (hi := cs.length) (met := [])
    generalize et : lk true false (cs.map (·.h)) h (cs.length + 1) 0 cs.length [] = tgt at q key
    refine x_setL 2 sc_by_halves.nd (l_lst a_nil) A fun l σ1 H1 A1 => ?_
    refine x_par (i := 3) (j := 4) rfl sc_by_halves.nd (by decide) (a_cons v_int (a_cons (v_op op_sub (v_lenT T.n_len rfl (v_prop (k := false) rfl (ok_cards T) T.s_Drawer hr (v_var 0) ⟨cs, rfl, rfl⟩)) v_int rv_I0) a_nil)) A1 fun σ2 H2 A2 => ?_
    refine x_while PassesOwn.never (fun n M' env' => ∃ (lo hi : Nat) (met : List Nat) (mid here : Option D), M' = [(l, .lst (met.map natD))] ∧ env' = [some (dDrw cs), some (.s h), some (.p l), some (.i (lo : Int)), some (.i ((hi : Int) - 1)), mid, here] ∧ lk true false (cs.map (·.h)) h n lo hi met = tgt ∧ hi - lo < n ∧ hi ≤ cs.length ∧ met.length + n ≤ 17) (cs.length + 1) A2 ⟨0, cs.length, [], none, none, rfl, by rw [List.length_map]; rfl, et, by omega, Nat.le_refl _, by simp; omega⟩ ?_
    rintro n M' env' ⟨lo, hi, met, mid, here, rfl, rfl, e, hn, hh, hz⟩
    refine ⟨decide ((lo : Int) ≤ (hi : Int) - 1), t_cmp op_le (v_var 3) (v_var 4) rv_I0, fun b σ3 H3 A3 => ?_, fun b σ3 H3 A3 => ?_⟩
    · have hlt : lo < hi := by
        have := of_decide_eq_true b
        omega
      cases n with
      | zero => omega
      | succ n =>
        have em : ((lo : Int) + ((hi : Int) - 1)) / 2 = (((lo + hi - 1) / 2 : Nat) : Int) := by omega
        have hm : (lo + hi - 1) / 2 < cs.length := by omega
        unfold lk at e
        rw [if_neg (by omega)] at e
        simp only [if_true] at e
        have eh : (cs.map (·.h)).getD ((lo + hi - 1) / 2) ("" : Str) = cs[(lo + hi - 1) / 2].h := by
          rw [List.getD_eq_getElem?_getD, List.getElem?_map, List.getElem?_eq_getElem hm]
          rfl
        rw [eh] at e
        refine x_set 5 sc_by_halves.nd (Pv.is (d' := natD ((lo + hi - 1) / 2)) (v_op op_fdiv (v_op op_add (v_var 3) (v_var 4) rv_I0) v_int (rv_I ⟨by decide, by decide⟩)) (by rw [em]; rfl)) A3 fun σ4 H4 A4 => ?_
        refine x_app 0 (ds := met.map natD) rfl (v_var 2) (v_var 5) A4 (by rw [List.length_map]; omega) fun H5 A5 => ?_
        refine x_set 6 sc_by_halves.nd (v_prop (k := true) rfl (ok_heading T) T.s_Card hr (v_ixT (ds := cs.map dCard) rfl (v_prop (k := false) rfl (ok_cards T) T.s_Drawer hr (v_var 0) ⟨cs, rfl, rfl⟩) (v_var 5) (atI_nat (by rw [List.getElem?_map, List.getElem?_eq_getElem hm]; rfl))) ⟨cs[(lo + hi - 1) / 2], rfl, rfl⟩) A5 fun σ6 H6 A6 => ?_
        have ap : (met.map natD) ++ [natD ((lo + hi - 1) / 2)] = (met ++ [(lo + hi - 1) / 2]).map natD := by rw [List.map_append]; rfl
        refine x_if (Pt.is (t_cmp op_eq (v_var 6) (v_var 1) rv_eq) (by rw [dec_str])) A6 (fun b2 H7 A7 => ?_) fun b2 H7 A7 => ?_
        · rw [if_pos (of_decide_eq_true b2)] at e
          refine x_ret (v_tup (a_cons (v_var 5) (a_cons (v_tupL T.n_tuple rfl (v_var 2) (.inr List.mem_cons_self)) a_nil))) A7 fun v H' A' r => q _ _ _ _ v H' A' ?_
          rw [ap] at r
          rw [← e]
          exact r
        · rw [if_neg (of_decide_eq_false b2)] at e
          refine x_nil (x_if (k := ltS h cs[(lo + hi - 1) / 2].h) (t_cmp op_gt_str (v_var 6) (v_var 1) fun H x y Q h1 h2 k => ⟨_, _, rp_v.mp h1, rp_v.mp h2, k _ H (Ex.refl H) (rp_v.mpr rfl)⟩) A7 (fun b3 H8 A8 => ?_) fun b3 H8 A8 => ?_)
          · rw [b3] at e
            refine x_set 4 sc_by_halves.nd (v_op op_sub (v_var 5) v_int rv_I0) A8 fun σ9 H9 A9 => x_nil (x_nil ⟨n, _, _, Nat.lt_succ_self n, ⟨lo, (lo + hi - 1) / 2, met ++ [(lo + hi - 1) / 2], _, _, ?_, rfl, e, by omega, by omega, by simp; omega⟩, A9⟩)
            rw [← ap]
            rfl
          · rw [b3] at e
            refine x_set 3 sc_by_halves.nd (Pv.is (d' := natD ((lo + hi - 1) / 2 + 1)) (v_op op_add (v_var 5) v_int rv_I0) (by unfold natD; congr 2)) A8 fun σ9 H9 A9 => x_nil (x_nil ⟨n, _, _, Nat.lt_succ_self n, ⟨(lo + hi - 1) / 2 + 1, hi, met ++ [(lo + hi - 1) / 2], _, _, ?_, rfl, e, by omega, by omega, by simp; omega⟩, A9⟩)
            rw [← ap]
            rfl
    · have hge : hi ≤ lo := by
        have := of_decide_eq_false b
        omega
      rw [lk_done hge] at e
      refine x_ret (v_tup (a_cons v_non (a_cons (v_tupL T.n_tuple rfl (v_var 2) (.inr List.mem_cons_self)) a_nil))) A3 fun v H' A' r => q _ _ _ _ v H' A' ?_
      rw [← e]
      exact r
end
end Sx
end
section
set_option maxRecDepth 100000
set_option maxHeartbeats 1000000
namespace Sx
open PySem PySem.Spec PyProof.Rows L2
section
variable {P : Program} {w : World} {c : Cs} {mg : Str → Option Value} {base : Heap}
theorem rv_gtS {a b : Str} : RV2 c (fun x y H Q => ∃ i j, x = .str i ∧ y = .str j ∧ Q (.bl (decide (j.cps.toList < i.cps.toList))) H) (.s a) (.s b) (.b (ltS b a)) := fun H x y Q h1 h2 k => ⟨_, _, rp_v.mp h1, rp_v.mp h2, k _ H (Ex.refl H) (rp_v.mpr rfl)⟩
theorem rv_ltS {a b : Str} : RV2 c (fun x y H Q => ∃ i j, x = .str i ∧ y = .str j ∧ Q (.bl (decide (i.cps.toList < j.cps.toList))) H) (.s a) (.s b) (.b (ltS a b)) := fun H x y Q h1 h2 k => ⟨_, _, rp_v.mp h1, rp_v.mp h2, k _ H (Ex.refl H) (rp_v.mpr rfl)⟩
theorem getD_map {cs : List Crd} {i : Nat} (hi : i < cs.length) : (cs.map (·.h)).getD i ("" : Str) = cs[i].h := by
  rw [List.getD_eq_getElem?_getD, List.getElem?_map, List.getElem?_eq_getElem hi]
  rfl
def R_one_by_one : List D → D → Prop := fun ds d => ∃ (cs : List Crd) (h : Str) (leaf : Bool), ds = [dDrw cs, .s h, .b leaf] ∧ cs.length ≤ 16 ∧ d = lkD (lk false (!leaf) (cs.map (·.h)) h (cs.length + 1) 0 cs.length [])
theorem ok_one_by_one (T : Tx c mg) : FnAt P w c.K mg base "one_by_one" 3 (spD c R_one_by_one) := by
  refine T.d_one_by_one.at_ fun f fd F => fnD F sc_one_by_one (fun _ _ _ _ _ _ us hl => match us, hl with | [_, _, _], _ => rfl) (fun ds d h => ?_) 2 rfl fun cdv A0 outer s H0 E ds d σ hr h A Q q => ?_
  · obtain ⟨r, h, leaf, rfl, _⟩ := h
    rfl
  · obtain ⟨cs, h, leaf, rfl, hc, rfl⟩ := h
    generalize et : lk false (!leaf) (cs.map (·.h)) h (cs.length + 1) 0 cs.length [] = tgt at q
    refine x_for rfl PassesOwn.never (fun i M' env' => M' = [] ∧ ∃ p cd : Option D, env' = [some (dDrw cs), some (.s h), some (.b leaf), p, cd] ∧ lk false (!leaf) (cs.map (·.h)) h (cs.length + 1 - i) i cs.length (List.range i) = tgt) (i_enumT (ds := cs.map dCard) rfl T.n_enumerate (v_prop (k := false) rfl (ok_cards T) T.s_Drawer hr (v_var 0) ⟨cs, rfl, rfl⟩)) A ⟨rfl, none, none, rfl, et⟩ (fun i d M' env' Fr' Gx hd hI hE => ?_) (fun M' env' σ' H' hI A' => ?_)
    · obtain ⟨rfl, p, cd, rfl, e⟩ := hI
      obtain ⟨x, hx, rfl⟩ := numbered_get hd
      rw [List.getElem?_map] at hx
      obtain ⟨r, hr1, rfl⟩ := Option.map_eq_some_iff.mp hx
      obtain ⟨hi, rfl⟩ := List.getElem?_eq_some_iff.mp hr1
      refine ⟨_, _, g_tup rfl rfl (gs_cons (g_name 3 sc_one_by_one.nd) (gs_cons (g_name 4 sc_one_by_one.nd) gs_nil)), fun σ' H' A' => ?_⟩
      have en : cs.length + 1 - i = (cs.length + 1 - (i + 1)) + 1 := by omega
      rw [en] at e
      unfold lk at e
      rw [if_neg (by omega)] at e
      simp only [Bool.false_eq_true, if_false] at e
      rw [getD_map hi] at e
      have er : List.range i ++ [i] = List.range (i + 1) := List.range_succ.symm
      rw [er] at e
      have ei : D.i ((i : Int) + 1) = D.i ((i + 1 : Nat) : Int) := by congr 2
      refine x_if (Pt.is (t_cmp op_eq (v_prop (k := true) rfl (ok_heading T) T.s_Card hr (v_var 4) ⟨cs[i], rfl, rfl⟩) (v_var 1) rv_eq) (by rw [dec_str])) A' (fun b2 H7 A7 => ?_) fun b2 H7 A7 => ?_
      · rw [if_pos (of_decide_eq_true b2)] at e
        refine x_ret (v_tup (a_cons (v_var 3) (a_cons (v_tupRange (n := i + 1) rfl T.n_range T.n_tuple (Pv.is (v_op op_add (v_var 3) v_int rv_I0) ei) (by omega)) a_nil))) A7 fun v H' A8 r => q _ _ _ _ v H' ⟨hE.trans A8.fr, fun p hp => A8.gh p hp, fun p hp => ⟨hE.back (A8.ob p hp).1, (A8.ob p hp).2⟩, A8.nd, A8.sl, A8.ln⟩ ?_
        rw [← e]
        exact r
      · rw [if_neg (of_decide_eq_false b2)] at e
        rw [Bool.not_not] at e
        refine x_nil (x_if (k := leaf && ltS h cs[i].h) (o_t (o_and (t_val (v_var 2)) fun _ => o_and1 (t_cmp op_gt_str (v_prop (k := true) rfl (ok_heading T) T.s_Card hr (v_var 4) ⟨cs[i], rfl, rfl⟩) (v_var 1) rv_gtS))) A7 (fun b3 H8 A8 => ?_) fun b3 H8 A8 => ?_)
        · rw [Bool.and_comm, b3, if_pos rfl, lk_done (Nat.le_refl _)] at e
          refine x_ret (v_tup (a_cons v_non (a_cons (v_tupRange (n := i + 1) rfl T.n_range T.n_tuple (Pv.is (v_op op_add (v_var 3) v_int rv_I0) ei) (by omega)) a_nil))) A8 fun v H' A8 r => q _ _ _ _ v H' ⟨hE.trans A8.fr, fun p hp => A8.gh p hp, fun p hp => ⟨hE.back (A8.ob p hp).1, (A8.ob p hp).2⟩, A8.nd, A8.sl, A8.ln⟩ ?_
          rw [← e]
          exact r
        · rw [Bool.and_comm, b3, if_neg Bool.false_ne_true] at e
          exact x_nil (x_nil ⟨[], _, ⟨rfl, _, _, rfl, e⟩, A8⟩)
    · obtain ⟨rfl, p, cd, rfl, e⟩ := hI
      rw [numbered_len, List.length_map] at e
      rw [lk_done (Nat.le_refl _)] at e
      refine x_ret (v_tup (a_cons v_non (a_cons (v_tupRange (n := cs.length) rfl T.n_range T.n_tuple (Pv.is (v_lenT T.n_len rfl (v_prop (k := false) rfl (ok_cards T) T.s_Drawer hr (v_var 0) ⟨cs, rfl, rfl⟩)) (by rw [List.length_map])) (by omega)) a_nil))) A' fun v H' A8 r => q _ _ _ _ v H' A8 ?_
      rw [← e]
      exact r
def R_looked_up : List D → D → Prop := fun ds d => ∃ (cs : List Crd) (r h : Str), ds = [dDrw cs, .s r, .s h] ∧ cs.length ≤ 16 ∧ ruleOk r ∧ d = lkD (looked r (cs.map (·.h)) h)
theorem ok_looked_up (T : Tx c mg) : FnAt P w c.K mg base "looked_up" 4 (spD c R_looked_up) := by
  refine T.d_looked_up.at_ fun f fd F => fnD F sc_looked_up (fun _ _ _ _ _ _ us hl => match us, hl with | [_, _, _], _ => rfl) (fun ds d h => ?_) 0 rfl fun cdv A0 outer s H0 E ds d σ hr h A Q q => ?_
  · obtain ⟨_, r, h, rfl, _⟩ := h
    rfl
  · obtain ⟨cs, r, h, rfl, hc, hrule, rfl⟩ := h
    have ll : (cs.map (·.h)).length = cs.length := List.length_map _
    refine x_if (k := isHalf r) (Pt.is (t_cmp op_eq (v_var 1) (v_glo T.k_HALF) rv_eq) (by rw [dec_str]; rfl)) A (fun b H1 A1 => ?_) fun b H1 A1 => ?_
    · refine x_ret (v_call (ok_by_halves T) hr (a_cons (v_var 0) (a_cons (v_var 2) a_nil)) ⟨cs, h, rfl, hc, ?_⟩) A1 fun v H' A' r => q _ _ _ _ v H' A' r
      have e : r = ("half" : Str) := of_decide_eq_true b
      unfold looked
      rw [e, ll]
      rfl
    · refine x_nil (x_ret (v_call (ok_one_by_one T) hr (a_cons (v_var 0) (a_cons (v_var 2) (a_cons (Pv.is (v_cmp op_eq (v_var 1) (v_glo T.k_LEAF) rv_eq) (by rw [dec_str])) a_nil))) ⟨cs, h, decide (r = ("leaf" : Str)), rfl, hc, ?_⟩) A1 fun v H' A' r => q _ _ _ _ v H' A' r)
      unfold looked
      rw [b, ll]
      rcases hrule with rfl | rfl | rfl
      · rfl
      · cases b
      · rfl
def R_look_up : List D → D → Prop := fun ds d => ∃ (cs : List Crd) (r h : Str), ds = [dDrw cs, .s r, .s h] ∧ cs.length ≤ 16 ∧ ruleOk r ∧ wordB h = true ∧ d = lkD (looked r (cs.map (·.h)) h)
theorem ok_look_up (T : Tx c mg) : FnAt P w c.K mg base "look_up" 5 (spD c R_look_up) := by
  refine T.d_look_up.at_ fun f fd F => fnD F sc_look_up (fun _ _ _ _ _ _ us hl => match us, hl with | [_, _, _], _ => rfl) (fun ds d h => ?_) 0 rfl fun cdv A0 outer s H0 E ds d σ hr h A Q q => ?_
  · obtain ⟨_, r, h, rfl, _⟩ := h
    rfl
  · obtain ⟨cs, r, h, rfl, hc, hrule, hw, rfl⟩ := h
    refine x_exp (v_call (ok_check_rule T) hr (a_cons (v_var 1) a_nil) ⟨r, rfl, hrule, rfl⟩).ev A fun d M' H1 z A1 => ?_
    obtain ⟨rfl, rfl⟩ := z
    refine x_exp (v_call (ok_check_heading T) hr (a_cons (v_var 2) a_nil) ⟨h, rfl, hw, rfl⟩).ev A1 fun d M' H2 z A2 => ?_
    obtain ⟨rfl, rfl⟩ := z
    exact x_ret (v_call (ok_looked_up T) hr (a_cons (v_var 0) (a_cons (v_var 1) (a_cons (v_var 2) a_nil))) ⟨cs, r, h, rfl, hc, hrule, rfl⟩) A2 fun v H' A' r => q _ _ _ _ v H' A' r
end
end Sx
end
section
namespace Sx
open PySem PySem.Spec PyProof.Rows L2
/-! ### walks, in plain words -/
structure Wst where
  steps : List Nat
  cnt : Nat
  sought : List Str
/-- one turn: the word if the walk ends, the next heading -/
def goOn (cs : List Crd) (r h : Str) (w : Wst) : Option Str × Str × Wst :=
  if h ∈ w.sought then (some ("ring" : Str), h, w) else
  let p := looked r (cs.map (·.h)) h
  match p.1 with
  | none => (some ("lost" : Str), h, ⟨w.steps, w.cnt + p.2.length, w.sought ++ [h]⟩)
  | some k => match cs[k]? with
    | none => (some ("lost" : Str), h, ⟨w.steps, w.cnt + p.2.length, w.sought ++ [h]⟩)
    | some c => if c.s = ("" : Str) then (some ("entry" : Str), h, ⟨w.steps ++ [k], w.cnt + p.2.length, w.sought ++ [h]⟩) else (none, c.s, ⟨w.steps ++ [k], w.cnt + p.2.length, w.sought ++ [h]⟩)
def wk (cs : List Crd) (r : Str) : Nat → Str → Wst → Str × Wst
  | 0, _, w => (("ring" : Str), w)
  | n + 1, h, w => match goOn cs r h w with
    | (some e, _, w') => (e, w')
    | (none, h', w') => wk cs r n h' w'
def walked (cs : List Crd) (r h : Str) : Str × Wst := wk cs r 99 h ⟨[], 0, []⟩
def landOf (p : Str × Wst) : Option Nat := if p.1 = ("entry" : Str) then p.2.steps.getLast? else none
theorem nodup_len {α : Type} [DecidableEq α] : ∀ {l m : List α}, l.Nodup → (∀ x ∈ l, x ∈ m) → l.length ≤ m.length
  | [], m, _, _ => Nat.zero_le _
  | x :: l, m, h, k => by
    obtain ⟨h1, h2⟩ := List.nodup_cons.mp h
    have hx := k x List.mem_cons_self
    have := nodup_len (m := m.erase x) h2 fun y hy => by
      have : y ≠ x := fun e => h1 (e ▸ hy)
      exact (List.mem_erase_of_ne this).mpr (k y (List.mem_cons_of_mem _ hy))
    rw [List.length_erase_of_mem hx] at this
    have pos := List.length_pos_of_mem hx
    simp only [List.length_cons]
    omega
/-- what a walk keeps -/
structure Wok (cs : List Crd) (h0 h : Str) (w : Wst) : Prop where
  nd : w.sought.Nodup
  sub : ∀ x ∈ w.sought, x ∈ h0 :: cs.map (·.s)
  hd : h ∈ h0 :: cs.map (·.s)
  st : w.steps.length = w.sought.length
theorem Wok.len {cs : List Crd} {h0 h : Str} {w : Wst} (o : Wok cs h0 h w) : w.sought.length ≤ cs.length + 1 := by
  have := nodup_len o.nd o.sub
  rw [List.length_cons, List.length_map] at this
  exact this
theorem Wok.next {cs : List Crd} {r h0 h h' : Str} {w w' : Wst} (o : Wok cs h0 h w) (e : goOn cs r h w = (none, h', w')) : Wok cs h0 h' w' ∧ w'.sought.length = w.sought.length + 1 := by
  unfold goOn at e
  by_cases q : h ∈ w.sought
  · rw [if_pos q] at e
    cases e
  · rw [if_neg q] at e
    dsimp only at e
    cases e1 : (looked r (cs.map (·.h)) h).1 with
    | none =>
      rw [e1] at e
      cases e
    | some k =>
      rw [e1] at e
      dsimp only at e
      cases e2 : cs[k]? with
      | none =>
        rw [e2] at e
        cases e
      | some cd =>
        rw [e2] at e
        dsimp only at e
        by_cases q2 : cd.s = ("" : Str)
        · rw [if_pos q2] at e
          cases e
        · rw [if_neg q2] at e
          simp only [Prod.mk.injEq, true_and] at e
          obtain ⟨rfl, rfl⟩ := e
          refine ⟨⟨?_, fun x hx => ?_, List.mem_cons_of_mem _ (List.mem_map_of_mem (List.mem_of_getElem? e2)), by simp [o.st]⟩, by simp⟩
          · rw [List.nodup_append]
            refine ⟨o.nd, by simp, fun a ha b hb e => ?_⟩
            rw [List.mem_singleton] at hb
            subst hb
            subst e
            exact q ha
          · rcases List.mem_append.mp hx with hx | hx
            · exact o.sub x hx
            · rw [List.mem_singleton] at hx
              subst hx
              exact o.hd
theorem Wok.start (cs : List Crd) (h : Str) : Wok cs h h ⟨[], 0, []⟩ := ⟨List.nodup_nil, (fun x hx => nomatch hx), List.mem_cons_self, rfl⟩
theorem inV_str (h : Str) (l : List Str) : inV (.str h) (l.map V.str) = decide (h ∈ l) := by
  unfold inV
  rw [List.any_map, Bool.eq_iff_iff, List.any_eq_true, decide_eq_true_eq]
  constructor
  · rintro ⟨x, hx, e⟩
    have e : (x == h) = true := e
    rw [← eq_of_beq e]
    exact hx
  · intro hx
    exact ⟨h, hx, beq_self_eq_true h⟩
theorem inV_nat (k : Nat) (l : List Nat) : inV (.int (k : Int)) (l.map fun (i : Nat) => V.int (i : Int)) = decide (k ∈ l) := by
  unfold inV
  rw [List.any_map, Bool.eq_iff_iff, List.any_eq_true, decide_eq_true_eq]
  constructor
  · rintro ⟨x, hx, e⟩
    have e : ((x : Int) == (k : Int)) = true := e
    have := eq_of_beq e
    have : x = k := by omega
    rw [← this]
    exact hx
  · intro hx
    exact ⟨k, hx, beq_self_eq_true (k : Int)⟩
end Sx
end
section
namespace Sx
open PySem PySem.Spec PyProof.Rows L2
/-! ### gatherings, in plain words -/
theorem goOn_steps {cs : List Crd} {r h : Str} {w : Wst} (hs : ∀ k ∈ w.steps, k < cs.length) : (∀ k ∈ (goOn cs r h w).2.2.steps, k < cs.length) ∧ ((goOn cs r h w).1 = some ("entry" : Str) → (goOn cs r h w).2.2.steps ≠ []) := by
  unfold goOn
  by_cases q : h ∈ w.sought
  · rw [if_pos q]
    exact ⟨hs, fun e => absurd (Option.some.inj e) (by decide)⟩
  · rw [if_neg q]
    dsimp only
    cases e1 : (looked r (cs.map (·.h)) h).1 with
    | none => exact ⟨hs, fun e => absurd (Option.some.inj e) (by decide)⟩
    | some k =>
      dsimp only
      cases e2 : cs[k]? with
      | none => exact ⟨hs, fun e => absurd (Option.some.inj e) (by decide)⟩
      | some cd =>
        have hk : k < cs.length := (List.getElem?_eq_some_iff.mp e2).1
        have all : ∀ j ∈ w.steps ++ [k], j < cs.length := fun j hj => by
          rcases List.mem_append.mp hj with hj | hj
          · exact hs j hj
          · rw [List.mem_singleton.mp hj]
            exact hk
        dsimp only
        by_cases q2 : cd.s = ("" : Str)
        · rw [if_pos q2]
          exact ⟨all, fun _ => by simp⟩
        · rw [if_neg q2]
          exact ⟨all, fun e => nomatch e⟩
theorem wk_steps {cs : List Crd} {r : Str} : ∀ {n : Nat} {h : Str} {w : Wst}, (∀ k ∈ w.steps, k < cs.length) → (∀ k ∈ (wk cs r n h w).2.steps, k < cs.length) ∧ ((wk cs r n h w).1 = ("entry" : Str) → (wk cs r n h w).2.steps ≠ [])
  | 0, h, w, hs => ⟨hs, fun e => absurd (show ("ring" : Str) = ("entry" : Str) from e) (by decide)⟩
  | n + 1, h, w, hs => by
    have g := goOn_steps (r := r) (h := h) hs
    unfold wk
    generalize goOn cs r h w = p at g
    obtain ⟨wo, h2, w2⟩ := p
    cases wo with
    | some z => exact ⟨g.1, fun e => g.2 (congrArg some e)⟩
    | none => exact wk_steps g.1
theorem walked_entry {cs : List Crd} {r h : Str} : (walked cs r h).1 = ("entry" : Str) → (walked cs r h).2.steps ≠ [] := (wk_steps (w := ⟨[], 0, []⟩) fun k hk => nomatch hk).2
theorem land_lt {cs : List Crd} {r h : Str} {k : Nat} (e : landOf (walked cs r h) = some k) : k < cs.length := by
  unfold landOf at e
  by_cases q : (walked cs r h).1 = ("entry" : Str)
  · rw [if_pos q] at e
    exact (wk_steps (n := 99) (h := h) (w := ⟨[], 0, []⟩) fun k hk => nomatch hk).1 k (List.mem_of_getLast? e)
  · rw [if_neg q] at e
    cases e
structure Gst where
  agenda : List Str
  done : List Str
  visited : List Nat
  met : List Int
def addB (met : List Int) (bs : List Int) : List Int := bs.foldl (fun m b => if b ∈ m then m else m ++ [b]) met
def byWay (way : Str) (rest hints : List Str) : List Str := if way = ("broad" : Str) then rest ++ hints else if way = ("deep" : Str) then hints ++ rest else hints
def gstep (cs : List Crd) (r way : Str) (g : Gst) : Gst := match g.agenda with
  | [] => g
  | h :: rest => if h ∈ g.done then ⟨rest, g.done, g.visited, g.met⟩ else
    match landOf (walked cs r h) with
    | none => ⟨rest, g.done ++ [h], g.visited, g.met⟩
    | some k => if k ∈ g.visited then ⟨rest, g.done ++ [h], g.visited, g.met⟩ else
      match cs[k]? with
      | none => ⟨rest, g.done ++ [h], g.visited, g.met⟩
      | some cd => ⟨byWay way rest cd.a, g.done ++ [h], g.visited ++ [k], addB g.met cd.b⟩
def gath (cs : List Crd) (r way : Str) (pat : Nat) : Nat → Gst → Gst
  | 0, g => g
  | n + 1, g => if g.agenda = [] ∨ g.done.length = pat then g else gath cs r way pat n (gstep cs r way g)
def gathered (cs : List Crd) (r way h : Str) (pat : Nat) : Gst := gath cs r way pat 400 ⟨[h], [], [], []⟩
theorem addB_mem {bs : List Int} : ∀ {met : List Int} {x : Int}, x ∈ addB met bs ↔ x ∈ met ∨ x ∈ bs := by
  induction bs with
  | nil => simp [addB]
  | cons b bs ih =>
    intro met x
    show x ∈ addB (if b ∈ met then met else met ++ [b]) bs ↔ _
    rw [ih]
    by_cases q : b ∈ met
    · rw [if_pos q, List.mem_cons]
      constructor
      · rintro (h | h) <;> simp [h]
      · rintro (h | rfl | h) <;> simp [*]
    · rw [if_neg q, List.mem_append, List.mem_singleton, List.mem_cons]
      constructor
      · rintro ((h | h) | h) <;> simp [h]
      · rintro (h | h | h) <;> simp [h]
theorem addB_nd {bs : List Int} : ∀ {met : List Int}, met.Nodup → (addB met bs).Nodup := by
  induction bs with
  | nil => exact fun h => h
  | cons b bs ih =>
    intro met h
    refine ih ?_
    dsimp only
    split
    · exact h
    · rename_i q
      rw [List.nodup_append]
      refine ⟨h, by simp, fun a ha c hc e => ?_⟩
      rw [List.mem_singleton] at hc
      subst hc
      subst e
      exact q ha
theorem addB_len {bs : List Int} : ∀ {met : List Int}, (addB met bs).length ≤ met.length + bs.length := by
  induction bs with
  | nil => intro met; exact Nat.le_refl _
  | cons b bs ih =>
    intro met
    refine Nat.le_trans ih ?_
    dsimp only
    split <;> simp <;> omega
/-- what a gathering keeps, i turns made -/
structure Gok (cs : List Crd) (pat i : Nat) (g : Gst) : Prop where
  wd : ∀ z ∈ g.agenda, wordB z = true
  ag : i + g.agenda.length ≤ 1 + 4 * g.visited.length
  vn : g.visited.Nodup
  vl : ∀ k ∈ g.visited, k < cs.length
  dl : g.done.length ≤ pat
  dn : g.done.Nodup
  mn : g.met.Nodup
  ml : g.met.length ≤ 6 * g.visited.length
theorem Gok.vis {cs : List Crd} {pat i : Nat} {g : Gst} (o : Gok cs pat i g) : g.visited.length ≤ cs.length := by
  have := nodup_len (m := List.range cs.length) o.vn fun x hx => List.mem_range.mpr (o.vl x hx)
  rw [List.length_range] at this
  exact this
theorem byWay_len (way : Str) (rest hints : List Str) : (byWay way rest hints).length ≤ rest.length + hints.length := by
  unfold byWay
  split
  · simp
  · split
    · simp
      omega
    · omega
theorem byWay_mem {way : Str} {rest hints : List Str} {z : Str} (h : z ∈ byWay way rest hints) : z ∈ rest ∨ z ∈ hints := by
  unfold byWay at h
  split at h
  · exact List.mem_append.mp h
  · split at h
    · exact (List.mem_append.mp h).symm
    · exact .inr h
theorem Gok.start {cs : List Crd} {pat : Nat} {h : Str} (hw : wordB h = true) : Gok cs pat 0 ⟨[h], [], [], []⟩ :=
  ⟨fun z hz => by rw [List.mem_singleton.mp hz]; exact hw, by simp, List.nodup_nil, (fun k hk => nomatch hk), Nat.zero_le _, List.nodup_nil, List.nodup_nil, Nat.le_refl _⟩
theorem snoc_nd {α : Type} {l : List α} {x : α} (h : l.Nodup) (q : x ∉ l) : (l ++ [x]).Nodup := by
  rw [List.nodup_append]
  refine ⟨h, by simp, fun a ha c hc e => ?_⟩
  rw [List.mem_singleton] at hc
  subst hc
  subst e
  exact q ha
theorem Gok.step {cs : List Crd} {r way : Str} {pat i : Nat} {g : Gst} (hc : drwOk cs) (o : Gok cs pat i g) (ne : g.agenda ≠ []) (hl : g.done.length < pat) : Gok cs pat (i + 1) (gstep cs r way g) := by
  obtain ⟨agenda, done, visited, met⟩ := g
  cases agenda with
  | nil => exact absurd rfl ne
  | cons h rest =>
    obtain ⟨wd, ag, vn, vl, dl, dn, mn, ml⟩ := o
    dsimp only at wd ag vn vl dl dn mn ml hl
    have wr : ∀ z ∈ rest, wordB z = true := fun z hz => wd z (List.mem_cons_of_mem _ hz)
    rw [List.length_cons] at ag
    unfold gstep
    dsimp only
    by_cases q : h ∈ done
    · rw [if_pos q]
      exact ⟨wr, by show i + 1 + rest.length ≤ 1 + 4 * visited.length; omega, vn, vl, dl, dn, mn, ml⟩
    · rw [if_neg q]
      have dn' := snoc_nd dn q
      have dl' : (done ++ [h]).length ≤ pat := by simp; omega
      have base : Gok cs pat (i + 1) ⟨rest, done ++ [h], visited, met⟩ := ⟨wr, by show i + 1 + rest.length ≤ 1 + 4 * visited.length; omega, vn, vl, dl', dn', mn, ml⟩
      cases e1 : landOf (walked cs r h) with
      | none => exact base
      | some k =>
        dsimp only
        by_cases q2 : k ∈ visited
        · rw [if_pos q2]
          exact base
        · rw [if_neg q2]
          have hk := land_lt e1
          rw [List.getElem?_eq_getElem hk]
          dsimp only
          have oc := hc.2 _ (List.getElem_mem hk)
          refine ⟨fun z hz => ?_, ?_, snoc_nd vn q2, fun j hj => ?_, dl', dn', addB_nd mn, ?_⟩
          · rcases byWay_mem hz with h1 | h1
            · exact wr z h1
            · exact (oc.a.2.2 z h1).1
          · have := byWay_len way rest cs[k].a
            have := oc.a.1
            show i + 1 + (byWay way rest cs[k].a).length ≤ 1 + 4 * (visited ++ [k]).length
            rw [List.length_append, List.length_singleton]
            omega
          · rcases List.mem_append.mp hj with h1 | h1
            · exact vl j h1
            · rw [List.mem_singleton.mp h1]
              exact hk
          · have := addB_len (bs := cs[k].b) (met := met)
            have := oc.b.1
            show (addB met cs[k].b).length ≤ 6 * (visited ++ [k]).length
            rw [List.length_append, List.length_singleton]
            omega
end Sx
end
section
set_option maxRecDepth 100000
set_option maxHeartbeats 1000000
namespace Sx
open PySem PySem.Spec PyProof.Rows L2
theorem At.back {c : Cs} {Fr Fr' H : Hp} {G G' : List (V × D)} {M : Mm} {env : En} {σ : L2.St} (A : At c Fr' G' M env σ H) (e : Ex Fr Fr') (g : ∀ p ∈ G, p ∈ G') : At c Fr G M env σ H :=
  ⟨e.trans A.fr, fun p hp => A.gh p (g p hp), fun p hp => ⟨e.back (A.ob p hp).1, (A.ob p hp).2⟩, A.nd, A.sl, A.ln⟩
section
variable {X : Cx} {c : Cs} {Fr : Hp} {G : List (V × D)} {M : Mm} {env : En} {a b e : Expr} {pos : Pos} {l : Addr}
theorem t_inL {y : V} {xs : List V} (hK : X.K = c.K) (ha : Pv X c Fr G M env a (.v y)) (hb : Pv X c Fr G M env b (.p l)) (hl : LsOf c Fr M l (xs.map D.v)) (hy : flatV y = true) (hx : xs.all flatV = true) (hm : behindInMarks .In b = false := by rfl) : Pt X c Fr G M env (.Compare a [.In] [b] pos) (inV y xs) := fun σ H A Q q =>
  (pt_cmpR op_in_seq we we hm).w (ha σ H A _ fun v H1 A1 i1 r => hb σ H1 A1 _ fun u H2 A2 i2 r2 => by
    obtain ⟨zs, h1, h2⟩ := A2.ls hl
    rw [h2.vmap_eq] at h1
    rw [rp_v.mp r]
    exact ⟨l, xs, rp_v.mp r2, .inl (.inl h1), hy, hx, _, rfl, q H2 A2 (i1.trans i2)⟩)
theorem t_niL {y : V} {xs : List V} (hK : X.K = c.K) (ha : Pv X c Fr G M env a (.v y)) (hb : Pv X c Fr G M env b (.p l)) (hl : LsOf c Fr M l (xs.map D.v)) (hy : flatV y = true) (hx : xs.all flatV = true) (hm : behindInMarks .NotIn b = false := by rfl) : Pt X c Fr G M env (.Compare a [.NotIn] [b] pos) (!inV y xs) := fun σ H A Q q =>
  (pt_cmpR op_notIn_seq we we hm).w (ha σ H A _ fun v H1 A1 i1 r => hb σ H1 A1 _ fun u H2 A2 i2 r2 => by
    obtain ⟨zs, h1, h2⟩ := A2.ls hl
    rw [h2.vmap_eq] at h1
    rw [rp_v.mp r]
    exact ⟨l, xs, rp_v.mp r2, .inl (.inl h1), hy, hx, _, rfl, q H2 A2 (i1.trans i2)⟩)
theorem rv_isN {y : V} : RV2 c (fun x y H Q => y = .non ∧ Q (.bl (decide (x = .non))) H) (.v y) .n (.b (decide (y = .non))) := fun H x z Q h1 h2 k => ⟨rp_v.mp h2, by rw [rp_v.mp h1]; exact k _ H (Ex.refl H) (rp_v.mpr rfl)⟩
theorem rv_notN {y : V} : RV2 c (fun x y H Q => y = .non ∧ Q (.bl (!decide (x = .non))) H) (.v y) .n (.b (!decide (y = .non))) := fun H x z Q h1 h2 k => ⟨rp_v.mp h2, by rw [rp_v.mp h1]; exact k _ H (Ex.refl H) (rp_v.mpr rfl)⟩
theorem strs_v (l : List Str) : l.map D.s = (l.map V.str).map D.v := by rw [List.map_map]; rfl
theorem nats_v (l : List Nat) : l.map natD = (l.map fun (i : Nat) => V.int (i : Int)).map D.v := by rw [List.map_map]; rfl
theorem all_strs (l : List Str) : (l.map V.str).all flatV = true := by
  rw [List.all_map]
  exact List.all_eq_true.mpr fun _ _ => rfl
theorem all_nats (l : List Nat) : (l.map fun (i : Nat) => V.int (i : Int)).all flatV = true := by
  rw [List.all_map]
  exact List.all_eq_true.mpr fun _ _ => rfl
end
/-- a walk's objects -/
def WM (C x dx st so : Addr) (word : D) (w : Wst) : Mm := [(so, .lst (w.sought.map D.s)), (st, .lst (w.steps.map natD)), (x, .ins C dx [("word", word), ("steps", .p st), ("sought", .p so), ("effort", natD w.cnt)])]
def optS : Option Str → D
  | none => .n
  | some z => .s z
section
variable {P : Program} {w : World} {c : Cs} {mg : Str → Option Value} {base : Heap}
def S_go_on (C : Addr) : List D → List (Addr × List D) → Mm → (D → Mm → Prop) → Prop := fun ds L M0 Z => ∃ (x dx st so : Addr) (cs : List Crd) (r h : Str) (ws : Wst), ds = [.p x, dDrw cs, .s r, .s h] ∧ L = [] ∧ M0 = WM C x dx st so .n ws ∧ cs.length ≤ 16 ∧ ruleOk r ∧ ws.sought.length < 1000 ∧ ws.steps.length < 1000 ∧
  Z = fun d Mn => d = .s (goOn cs r h ws).2.1 ∧ Mn = WM C x dx st so (optS (goOn cs r h ws).1) (goOn cs r h ws).2.2
theorem ok_go_on (T : Tx c mg) : MtAt P w c mg base (He.ga c.K "Walk") "go_on" 5 (spM c (S_go_on (He.ga c.K "Walk"))) := by
  refine T.d_Walk_go_on.at_ fun f fd F => fnM F sc_Walk_go_on (fun _ _ _ _ _ _ us hl => match us, hl with | [_, _, _, _], _ => rfl) rfl (fun ds L M0 Z h => ?_) 3 rfl fun cdv A0 outer s H0 Fr E ds L M0 Z σ hr h hL A Q q => ?_
  · obtain ⟨x, dx, st, so, cs, r, h, ws, rfl, _⟩ := h
    rfl
  · obtain ⟨x, dx, st, so, cs, r, h, ws, rfl, rfl, rfl, hc, hrule, z1, z2, rfl⟩ := h
    have hC := T.c_Walk
    generalize eg : goOn cs r h ws = g at q
    unfold goOn at eg
    refine x_if (Pt.is (t_inL (xs := ws.sought.map V.str) rfl (v_var 3) (v_fld 2 rfl hC T.a_Walk_sought (v_var 0)) (.inr (by rw [← strs_v]; exact List.mem_cons_self)) rfl (all_strs _)) (inV_str h ws.sought)) A (fun b H1 A1 => ?_) fun b H1 A1 => ?_
    · rw [if_pos (of_decide_eq_true b)] at eg
      subst eg
      refine x_fld 2 rfl hC T.a_Walk_word (v_glo T.k_RING) (v_var 0) A1 fun H2 A2 => ?_
      exact x_ret (v_var 3) A2 fun v H' A' r => q _ _ _ _ _ v H' ⟨rfl, rfl⟩ A' r
    · rw [if_neg (of_decide_eq_false b)] at eg
      dsimp only at eg
      refine x_nil (x_app 0 (ds := ws.sought.map D.s) rfl (v_fld 2 rfl hC T.a_Walk_sought (v_var 0)) (v_var 3) A1 (by rw [List.length_map]; omega) fun H2 A2 => ?_)
      have ap : ws.sought.map D.s ++ [D.s h] = (ws.sought ++ [h]).map D.s := by rw [List.map_append]; rfl
      refine x_tup (v_call (ok_looked_up T) hr (a_cons (v_var 1) (a_cons (v_var 2) (a_cons (v_var 3) a_nil))) ⟨cs, r, h, rfl, hc, hrule, rfl⟩) (g_tup rfl rfl (gs_cons (g_name 4 sc_Walk_go_on.nd) (gs_cons (g_name 5 sc_Walk_go_on.nd) gs_nil))) A2 fun σ3 H3 A3 => ?_
      have hk : ∀ k, (looked r (cs.map (·.h)) h).1 = some k → k < cs.length := fun k e => by
        have := looked_ok e
        rw [List.length_map] at this
        exact this
      generalize looked r (cs.map (·.h)) h = p at eg A3 hk
      obtain ⟨pl, met⟩ := p
      refine x_fldaug 2 rfl hC T.a_Walk_effort (v_var 0) (Pv.is (v_lenT T.n_len rfl (v_var 5)) (by rw [List.length_map])) A3 fun H4 A4 => ?_
      have ec : D.i ((ws.cnt : Int) + (met.length : Int)) = natD (ws.cnt + met.length) := by unfold natD; congr 2
      cases pl with
      | none =>
        dsimp only at eg
        subst eg
        refine x_if (k := true) (t_cmp op_isN (v_var 4) v_non rv_isN) A4 (fun _ H5 A5 => ?_) (fun h => nomatch h)
        refine x_fld 2 rfl hC T.a_Walk_word (v_glo T.k_LOST) (v_var 0) A5 fun H6 A6 => ?_
        refine x_ret (v_var 3) A6 fun v H' A' r => q _ _ _ _ _ v H' ⟨rfl, ?_⟩ A' r
        unfold WM
        simp only [← ap, ← ec]
        rfl
      | some k =>
        have hk := hk k rfl
        dsimp only at eg
        rw [List.getElem?_eq_getElem hk] at eg
        dsimp only at eg
        refine x_if (k := false) (t_cmp op_isN (v_var 4) v_non rv_isN) A4 (fun h => nomatch h) fun _ H5 A5 => x_nil ?_
        refine x_app 1 (ds := ws.steps.map natD) rfl (v_fld 2 rfl hC T.a_Walk_steps (v_var 0)) (v_var 4) A5 (by rw [List.length_map]; omega) fun H6 A6 => ?_
        have ap2 : ws.steps.map natD ++ [natD k] = (ws.steps ++ [k]).map natD := by rw [List.map_append]; rfl
        refine x_set 6 sc_Walk_go_on.nd (v_ixT (ds := cs.map dCard) rfl (v_prop (k := false) rfl (ok_cards T) T.s_Drawer hr (v_var 1) ⟨cs, rfl, rfl⟩) (v_var 4) (atI_nat (by rw [List.getElem?_map, List.getElem?_eq_getElem hk]; rfl))) A6 fun σ7 H7 A7 => ?_
        refine x_if (k := decide (cs[k].s = ("" : Str))) (Pt.is (t_not (t_val (v_prop (k := true) rfl (ok_leads T) T.s_Card hr (v_var 6) ⟨cs[k], rfl, rfl⟩))) (by rw [Bool.not_not])) A7 (fun b H8 A8 => ?_) fun b H8 A8 => ?_
        · rw [if_pos (of_decide_eq_true b)] at eg
          subst eg
          refine x_fld 2 rfl hC T.a_Walk_word (v_glo T.k_ENTRY) (v_var 0) A8 fun H9 A9 => ?_
          refine x_ret (v_var 3) A9 fun v H' A' r => q _ _ _ _ _ v H' ⟨rfl, ?_⟩ A' r
          unfold WM
          simp only [← ap, ← ec, ← ap2]
          rfl
        · rw [if_neg (of_decide_eq_false b)] at eg
          subst eg
          refine x_nil (x_ret (v_prop (k := true) rfl (ok_see T) T.s_Card hr (v_var 6) ⟨cs[k], rfl, rfl⟩) A8 fun v H' A' r => q _ _ _ _ _ v H' ⟨rfl, ?_⟩ A' r)
          unfold WM
          simp only [← ap, ← ec, ← ap2]
          rfl
end
end Sx
end
section
set_option maxRecDepth 100000
set_option maxHeartbeats 1000000
namespace Sx
open PySem PySem.Spec PyProof.Rows L2
section
variable {X : Cx} {c : Cs} {Fr : Hp} {G : List (V × D)} {M : Mm} {env : En} {e : Expr} {pos : Pos} {f : Str} {C : Addr}
/-- e.f behind an effect -/
theorem e_fld {Z0 Z2 : D → Mm → Prop} (hK : X.K = c.K) (hc : Cls c.K C) (hn : NoAttr c.K C f) (he : Ev X c Fr G M env e Z0) (h : ∀ d0 M1, Z0 d0 M1 → ∃ q dx fs d, d0 = .p q ∧ (q, Ob.ins C dx fs) ∈ M1 ∧ fs.lookup f = some d ∧ Z2 d M1) (hb : attributeBase e f X.env (eval e X.env) = eval e X.env := by rfl) : Ev X c Fr G M env (.Attribute e f pos) Z2 := fun σ H A Q k =>
  (pe_fld we hb).w (he σ H A _ fun d0 M1 v H1 z A1 i1 r => by
    obtain ⟨q, dx, fs, d, rfl, hM, hl, z2⟩ := h d0 M1 z
    obtain ⟨vs, h1, h2⟩ := (A1.ob _ hM).2
    obtain ⟨u, h3, h4⟩ := h2.look hl
    exact ⟨q, C, dx, vs, u, rp_v.mp r, h1, hK ▸ hc, hK ▸ hn, h3, k d M1 u H1 z2 A1 i1 h4⟩)
end
section
variable {P : Program} {w : World} {c : Cs} {mg : Str → Option Value} {base : Heap}
def S_Walk (C : Addr) : List D → List (Addr × List D) → Mm → (D → Mm → Prop) → Prop := fun ds L M0 Z => ∃ (x dx : Addr) (cs : List Crd) (r h : Str), ds = [.p x, dDrw cs, .s r, .s h] ∧ L = [] ∧ M0 = [(x, .ins C dx [])] ∧ cs.length ≤ 16 ∧ ruleOk r ∧
  Z = fun d Mn => d = .n ∧ ∃ st so, Mn = WM C x dx st so (.s (walked cs r h).1) (walked cs r h).2
theorem ok_Walk (T : Tx c mg) : MkAt P w c mg base (He.ga c.K "Walk") "Walk" 6 (spM c (S_Walk (He.ga c.K "Walk"))) := by
  obtain ⟨g, fd, dvs, Mk0, hd, F⟩ := T.d_Walk_init
  have e0 : dvs = [] := List.eq_nil_of_length_eq_zero hd
  subst e0
  refine ⟨g, T.g_Walk, Mk0, fnM F sc_Walk_init (fun _ _ _ _ _ _ us hl => match us, hl with | [_, _, _, _], _ => rfl) rfl (fun ds L M0 Z h => ?_) 0 rfl fun cdv A0 outer s H0 Fr E ds L M0 Z σ hr h hL A Q q => ?_⟩
  · obtain ⟨x, dx, cs, r, h, rfl, _⟩ := h
    rfl
  · obtain ⟨x, dx, cs, r, h, rfl, rfl, rfl, hc, hrule, rfl⟩ := h
    have hC := T.c_Walk
    generalize et : walked cs r h = tgt at q
    refine x_fld 0 rfl hC T.a_Walk_word v_non (v_var 0) A fun H1 A1 => ?_
    refine x_fldL 0 rfl hC T.a_Walk_steps (l_lst a_nil) (fun z => v_var 0) A1 fun st H2 A2 => ?_
    refine x_fldL 1 rfl hC T.a_Walk_sought (l_lst a_nil) (fun z => v_var 0) A2 fun so H3 A3 => ?_
    refine x_fld 2 rfl hC T.a_Walk_effort v_int (v_var 0) A3 fun H4 A4 => ?_
    refine x_while PassesOwn.never (fun n M' env' => ∃ h', env' = [some (.p x), some (dDrw cs), some (.s r), some (.s h')] ∧ ((∃ ws, M' = WM (He.ga c.K "Walk") x dx st so .n ws ∧ wk cs r n h' ws = tgt ∧ Wok cs h h' ws ∧ n + ws.sought.length = 99) ∨ M' = WM (He.ga c.K "Walk") x dx st so (.s tgt.1) tgt.2)) 99 A4 ⟨h, rfl, .inl ⟨⟨[], 0, []⟩, rfl, et, Wok.start cs h, rfl⟩⟩ ?_
    rintro n M' env' ⟨h', rfl, ⟨ws, rfl, e, o, hn⟩ | rfl⟩
    · refine ⟨true, Pt.is (t_cmp op_isN (v_fld 2 rfl hC T.a_Walk_word (v_var 0)) v_non rv_isN) rfl, fun _ σ5 H5 A5 => ?_, fun h => nomatch h⟩
      have len := o.len
      cases n with
      | zero => omega
      | succ n =>
        refine x_setE 3 sc_Walk_init.nd (Z := fun d M2 => d = .s (goOn cs r h' ws).2.1 ∧ M2 = WM (He.ga c.K "Walk") x dx st so (optS (goOn cs r h' ws).1) (goOn cs r h' ws).2.2) (e_methI 2 [] (WM (He.ga c.K "Walk") x dx st so .n ws) [] rfl hC (ok_go_on T) hr (v_var 0) (a_cons (v_var 1) (a_cons (v_var 2) (a_cons (v_var 3) a_nil))) ⟨x, dx, st, so, cs, r, h', ws, rfl, rfl, rfl, hc, hrule, by omega, by have := o.st; omega, rfl⟩ (fun p hp => nomatch hp) (fun d Mn z => by
          rw [List.append_nil]
          exact z)) A5 fun d M2 σ6 H6 z A6 => ?_
        obtain ⟨rfl, rfl⟩ := z
        unfold wk at e
        generalize eg : goOn cs r h' ws = g at e A6
        obtain ⟨wo, h2, w2⟩ := g
        cases wo with
        | some z =>
          have e : (z, w2) = tgt := e
          subst e
          exact x_nil ⟨n, _, _, Nat.lt_succ_self n, ⟨h2, rfl, .inr rfl⟩, A6⟩
        | none =>
          have e : wk cs r n h2 w2 = tgt := e
          obtain ⟨o2, l2⟩ := o.next eg
          exact x_nil ⟨n, _, _, Nat.lt_succ_self n, ⟨h2, rfl, .inl ⟨w2, rfl, e, o2, by omega⟩⟩, A6⟩
    · refine ⟨false, Pt.is (t_cmp op_isN (v_fld 2 rfl hC T.a_Walk_word (v_var 0)) v_non rv_isN) rfl, (fun h => nomatch h), fun _ σ5 H5 A5 => ?_⟩
      exact x_nil (q _ _ _ _ _ _ H5 ⟨rfl, st, so, rfl⟩ A5 (rp_v.mpr rfl))
def S_landing (C : Addr) : List D → List (Addr × List D) → Mm → (D → Mm → Prop) → Prop := fun ds L M0 Z => ∃ (x dx st so : Addr) (p : Str × Wst), ds = [.p x] ∧ L = [] ∧ M0 = WM C x dx st so (.s p.1) p.2 ∧ (p.1 = ("entry" : Str) → p.2.steps ≠ []) ∧
  Z = fun d Mn => d = .t [.s p.1, optD (landOf p)] ∧ Mn = M0
theorem ok_landing (T : Tx c mg) : MtAt P w c mg base (He.ga c.K "Walk") "landing" 1 (spM c (S_landing (He.ga c.K "Walk"))) := by
  refine T.d_Walk_landing.at_ fun f fd F => fnM F sc_Walk_landing (fun _ _ _ _ _ _ us hl => match us, hl with | [_], _ => rfl) rfl (fun ds L M0 Z h => ?_) 0 rfl fun cdv A0 outer s H0 Fr E ds L M0 Z σ hr h hL A Q q => ?_
  · obtain ⟨x, dx, st, so, p, rfl, _⟩ := h
    rfl
  · obtain ⟨x, dx, st, so, ⟨wd, ws⟩, rfl, rfl, rfl, hs, rfl⟩ := h
    have hC := T.c_Walk
    refine x_ret (v_tup (a_cons (v_fld 2 rfl hC T.a_Walk_word (v_var 0)) (a_cons (v_if (k := decide (wd = ("entry" : Str))) (d := optD (landOf (wd, ws))) (Pt.is (t_cmp op_eq (v_fld 2 rfl hC T.a_Walk_word (v_var 0)) (v_glo T.k_ENTRY) rv_eq) (by rw [dec_str])) (fun b => ?_) fun b => ?_) a_nil))) A fun v H' A' r => q _ _ _ _ _ v H' ⟨rfl, rfl⟩ A' r
    · have e := of_decide_eq_true b
      obtain ⟨k, hk⟩ := Option.isSome_iff_exists.mp (List.getLast?_isSome.mpr (hs e))
      obtain ⟨ys, hy⟩ := List.getLast?_eq_some_iff.mp hk
      have hy : ws.steps = ys ++ [k] := hy
      refine Pv.is (v_ixL (ds := ws.steps.map natD) (d := natD k) rfl (v_fld 2 rfl hC T.a_Walk_steps (v_var 0)) (.inr (List.mem_cons_of_mem _ List.mem_cons_self)) (v_neg v_int) (by rw [hy, List.map_append]; exact atI_last _ _)) ?_
      unfold landOf
      rw [if_pos e]
      show natD k = optD ws.steps.getLast?
      have hk : ws.steps.getLast? = some k := hk
      rw [hk]
      rfl
    · refine Pv.is v_non ?_
      unfold landOf
      rw [if_neg (of_decide_eq_false b)]
      rfl
def R_walk : List D → D → Prop := fun ds d => ∃ (cs : List Crd) (r h : Str), ds = [dDrw cs, .s r, .s h] ∧ cs.length ≤ 16 ∧ ruleOk r ∧ wordB h = true ∧ d = .t [.s (walked cs r h).1, .t ((walked cs r h).2.steps.map natD)]
theorem ok_walk (T : Tx c mg) : FnAt P w c.K mg base "walk" 8 (spD c R_walk) := by
  refine T.d_walk.at_ fun f fd F => fnD F sc_walk (fun _ _ _ _ _ _ us hl => match us, hl with | [_, _, _], _ => rfl) (fun ds d h => ?_) 1 rfl fun cdv A0 outer s H0 E ds d σ hr h A Q q => ?_
  · obtain ⟨_, r, h, rfl, _⟩ := h
    rfl
  · obtain ⟨cs, r, h, rfl, hc, hrule, hw, rfl⟩ := h
    have hC := T.c_Walk
    refine x_exp (v_call (ok_check_rule T) hr (a_cons (v_var 1) a_nil) ⟨r, rfl, hrule, rfl⟩).ev A fun d M' H1 z A1 => ?_
    obtain ⟨rfl, rfl⟩ := z
    refine x_exp (v_call (ok_check_heading T) hr (a_cons (v_var 2) a_nil) ⟨h, rfl, hw, rfl⟩).ev A1 fun d M' H2 z A2 => ?_
    obtain ⟨rfl, rfl⟩ := z
    refine x_setE 3 sc_walk.nd (e_make (Z2 := fun d M' => ∃ x dx st so, d = .p x ∧ M' = WM (He.ga c.K "Walk") x dx st so (.s (walked cs r h).1) (walked cs r h).2) [] [] [] (ok_Walk T) rfl hr (a_cons (v_var 0) (a_cons (v_var 1) (a_cons (v_var 2) a_nil))) (fun x dx => ⟨_, ⟨x, dx, cs, r, h, rfl, rfl, rfl, hc, hrule, rfl⟩, fun d Mn z => ?_⟩) (fun p hp => nomatch hp)) A2 fun d M' σ3 H3 z A3 => ?_
    · obtain ⟨rfl, st, so, rfl⟩ := z
      exact ⟨rfl, x, dx, st, so, rfl, List.append_nil _⟩
    · obtain ⟨x, dx, st, so, rfl, rfl⟩ := z
      exact x_ret (v_tup (a_cons (v_fld 2 rfl hC T.a_Walk_word (v_var 3)) (a_cons (v_tupL (ds := (walked cs r h).2.steps.map natD) T.n_tuple rfl (v_fld 2 rfl hC T.a_Walk_steps (v_var 3)) (.inr (List.mem_cons_of_mem _ List.mem_cons_self))) a_nil))) A3 fun v H' A' r => q _ _ _ _ v H' A' r
def R_looks : List D → D → Prop := fun ds d => ∃ (cs : List Crd) (r h : Str), ds = [dDrw cs, .s r, .s h] ∧ cs.length ≤ 16 ∧ ruleOk r ∧ wordB h = true ∧ d = natD (walked cs r h).2.cnt
theorem ok_looks (T : Tx c mg) : FnAt P w c.K mg base "looks" 8 (spD c R_looks) := by
  refine T.d_looks.at_ fun f fd F => fnD F sc_looks (fun _ _ _ _ _ _ us hl => match us, hl with | [_, _, _], _ => rfl) (fun ds d h => ?_) 0 rfl fun cdv A0 outer s H0 E ds d σ hr h A Q q => ?_
  · obtain ⟨_, r, h, rfl, _⟩ := h
    rfl
  · obtain ⟨cs, r, h, rfl, hc, hrule, hw, rfl⟩ := h
    have hC := T.c_Walk
    refine x_exp (v_call (ok_check_rule T) hr (a_cons (v_var 1) a_nil) ⟨r, rfl, hrule, rfl⟩).ev A fun d M' H1 z A1 => ?_
    obtain ⟨rfl, rfl⟩ := z
    refine x_exp (v_call (ok_check_heading T) hr (a_cons (v_var 2) a_nil) ⟨h, rfl, hw, rfl⟩).ev A1 fun d M' H2 z A2 => ?_
    obtain ⟨rfl, rfl⟩ := z
    refine x_retE (e_fld (Z2 := fun d M' => d = natD (walked cs r h).2.cnt) rfl hC T.a_Walk_effort (e_make (Z2 := fun d M' => ∃ x dx st so, d = .p x ∧ M' = WM (He.ga c.K "Walk") x dx st so (.s (walked cs r h).1) (walked cs r h).2) [] [] [] (ok_Walk T) rfl hr (a_cons (v_var 0) (a_cons (v_var 1) (a_cons (v_var 2) a_nil))) (fun x dx => ⟨_, ⟨x, dx, cs, r, h, rfl, rfl, rfl, hc, hrule, rfl⟩, fun d Mn z => ?_⟩) (fun p hp => nomatch hp)) fun d0 M1 z => ?_) A2 fun d M' v H' z A' i r => ?_
    · obtain ⟨rfl, st, so, rfl⟩ := z
      exact ⟨rfl, x, dx, st, so, rfl, List.append_nil _⟩
    · obtain ⟨x, dx, st, so, rfl, rfl⟩ := z
      exact ⟨x, dx, _, _, rfl, List.mem_cons_of_mem _ (List.mem_cons_of_mem _ List.mem_cons_self), rfl, rfl⟩
    · subst z
      exact q _ _ _ _ v H' A' r
end
end Sx
end
section
set_option maxRecDepth 100000
set_option maxHeartbeats 1000000
namespace Sx
open PySem PySem.Spec PyProof.Rows L2
section
variable {X : Cx} {c : Cs} {Fr : Hp} {G : List (V × D)} {M : Mm} {env : En} {a b e f o : Expr} {es : List Expr} {pos p1 p2 p3 p4 : Pos} {d : D} {ds ds2 : List D} {x : Str} {l q0 : Addr} {kvs : List (Key × V)} {k : Key}
/-- key in one's own dict -/
theorem t_inD {n : Nat} (i : Nat) (hr : Room n X.A) (ha : Pv X c Fr G M env a (.v (kV k))) (hb : Pv X c Fr G M env b (.p q0)) (hM : M[i]? = some (q0, dicV kvs) := by rfl) (hm : behindInMarks .In b = false := by rfl) : Pt X c Fr G M env (.Compare a [.In] [b] pos) (valV kvs k).isSome := fun σ H A Q q =>
  (pt_cmp (pc_din (by have := hr.units; omega) we we) hm).w (ha σ H A _ fun v H1 A1 i1 r => hb σ H1 A1 _ fun u H2 A2 i2 r2 => ⟨q0, valV kvs k, rp_v.mp r2, by rw [rp_v.mp r]; exact DGet.k (dic_at.mp (A2.obI hM)), _, rfl, q H2 A2 (i1.trans i2)⟩)
/-- d[key] = value, d one's own dict -/
theorem x_dput {D0 : Ends} {σ : L2.St} {H : Hp} {rest : List Stmt} {n : Nat} {y : V} (i : Nat) (hr : Room n X.A) (ho : Pv X c Fr G M env o (.p q0)) (hk : Pv X c Fr G M env a (.v (kV k))) (hv : Pv X c Fr G M env e (.v y)) (A : At c Fr G M env σ H) (hl : kvs.length < 100000)
    (q : ∀ H', At c Fr G (M.set i (q0, dicV (putK kvs k y))) env σ H' → WB X rest D0 σ H') (hM : M[i]? = some (q0, dicV kvs) := by rfl) (hs : swapsWith e (some (.Subscript o a p1)) p2.line X.env = pure false := by rfl) : WB X (.Assign [.Subscript o a p1] e p2 :: rest) D0 σ H :=
  x_cons ((ps_dput (by have := hr.units; omega) we we we hs).w (hv σ H A _ fun v H1 A1 i1 r1 => ho σ H1 A1 _ fun u H2 A2 i2 r2 => hk σ H2 A2 _ fun t H3 A3 i3 r3 => by
    have hd := dic_at.mp (A3.obI hM)
    refine ⟨q0, upd H3 q0 (.dK (putK kvs k y)), rp_v.mp r2, ?_, q _ (A3.mutI hM (dic_at.mpr upd_same))⟩
    rw [rp_v.mp r3, rp_v.mp r1]
    exact DPut.k hd (Nat.lt_of_lt_of_le hl (by decide))))
/-- len of one's own dict -/
theorem v_lenD (i : Nat) (hm : X.mg "len" = none) (h : Pv X c Fr G M env e (.p q0)) (hM : M[i]? = some (q0, dicV kvs) := by rfl) (hg : Gl X "len" := by rfl) (hs : starEach (e :: []) X.env = (false, eval e X.env) :: starEach [] X.env := by rfl) (hpl : (backTo p2 (starEach [] X.env)).any (·.1) = false := by rfl) : Pv X c Fr G M env (.Call (.Name "len" p1) [e] [] p2) (natD kvs.length) := fun σ H A Q q =>
  (pe_callB call_lenD hg hm PySem.boot_len (pa_cons we pa_nil hs) (by decide) (by decide) hs hpl).w (h σ H A _ fun v H1 A1 i1 r => ⟨q0, kvs, by rw [rp_v.mp r], dic_at.mp (A1.obI hM), q _ H1 A1 i1 (rp_v.mpr rfl)⟩)
/-- d.setdefault(key, value) as a statement -/
theorem x_setd {D0 : Ends} {σ : L2.St} {H : Hp} {rest : List Stmt} {y : V} (i : Nat) (ho : Pv X c Fr G M env o (.p q0)) (hk : Pv X c Fr G M env e (.v (kV k))) (hv : Pv X c Fr G M env f (.v y)) (A : At c Fr G M env σ H) (hl : kvs.length < 100000)
    (q : ∀ H', At c Fr G (M.set i (q0, dicV (if (valV kvs k).isSome then kvs else putK kvs k y))) env σ H' → WB X rest D0 σ H') (hM : M[i]? = some (q0, dicV kvs) := by rfl) (m : M2 X o "setdefault" p1 e f p2 := by exact ⟨rfl, rfl, rfl, rfl⟩) (hs : swapsWith (.Call (.Attribute o "setdefault" p1) [e, f] [] p2) none pos.line X.env = pure false := by rfl) :
    WB X (.Expr (.Call (.Attribute o "setdefault" p1) [e, f] [] p2) pos :: rest) D0 σ H :=
  x_cons ((ps_expr (pe_dsetd we we we m) hs).w (ho σ H A _ fun u H1 A1 i1 r1 => ⟨q0, rp_v.mp r1, .inl ⟨kvs, .inl (dic_at.mp (A1.obI hM))⟩, hk σ H1 A1 _ fun t H2 A2 i2 r2 => hv σ H2 A2 _ fun v H3 A3 i3 r3 => by
    have hd := dic_at.mp (A3.obI hM)
    refine ⟨kvs, k, hd, rp_v.mp r2, Nat.lt_of_lt_of_le hl (by decide), fun v hv => ?_, fun hn => ?_⟩
    · refine q H3 ?_
      rw [hv]
      have : M.set i (q0, dicV kvs) = M := by
        have hi := List.getElem?_eq_some_iff.mp hM
        obtain ⟨h1, h2⟩ := hi
        rw [← h2]
        exact List.set_getElem_self h1
      simp only [Option.isSome_some, if_true, this]
      exact A3
    · have B := A3.mutI (o' := dicV (putK kvs k y)) hM (dic_at.mpr upd_same)
      have q2 := q (upd H3 q0 (.dK (putK kvs k y)))
      rw [hn] at q2
      rw [rp_v.mp r3]
      exact q2 B⟩))
/-- the first item taken -/
theorem e_pop0 {y : D} {ys : List D} (i : Nat) (ho : Pv X c Fr G M env o (.p l)) (he : Pv X c Fr G M env e (.i 0)) (hM : M[i]? = some (l, .lst (y :: ys)))
    (hbase : attributeBase o "pop" X.env (eval o X.env) = eval o X.env := by rfl)
    (hfew : ((backTo p2 (starEach (e :: []) X.env)).all (fun x => !x.1) && (backToKw p2 (keywordEach [] X.env)).all (fun x => x.1.isSome)
      && decide ((e :: ([] : List Expr)).length + ([] : List Keyword).length + (if ([] : List Keyword).isEmpty then 0 else 1) < 30)) = true := by rfl)
    (hline : (p1.endLine == p2.line) = true := by rfl) (hs : starEach (e :: []) X.env = (false, eval e X.env) :: starEach [] X.env := by rfl) (hplain : (backTo p2 (starEach [] X.env)).any (·.1) = false := by rfl) : Ev X c Fr G M env (.Call (.Attribute o "pop" p1) [e] [] p2) (fun d M' => d = y ∧ M' = M.set i (l, .lst ys)) := fun σ H A Q k =>
  (pe_bm PySem.F.plainAttrs_list PySem.F.slot_list_pop PySem.F.type_list_pop mt_popAt we (pa_cons we pa_nil hs) hbase hfew hline hs hplain).w (ho σ H A _ fun u H1 A1 i1 r1 => by
    obtain ⟨vs, h1, h2⟩ := A1.obI hM
    rw [rp_v.mp r1]
    refine ⟨tyl h1, he σ H1 A1 _ fun v H2 A2 i2 r2 => ?_⟩
    obtain ⟨us, h3, h4⟩ := A2.obI hM
    obtain ⟨u1, r, rfl, g1, g2⟩ := rpl_cons.mp h4
    rw [rp_v.mp r2]
    have im : IM H2 (upd H2 l (.lst r)) := A2.imI hM
    refine ⟨l, u1 :: r, 0, 0, u1, rfl, rfl, h3, by decide, by decide, ?_, rfl, k _ _ _ _ ⟨rfl, rfl⟩ (A2.mutI hM ⟨_, upd_same, g2.im im⟩) ((i1.trans i2).trans im) (g1.im im)⟩
    unfold seqIndex?
    simp)
/-- an item chosen by its place, taken -/
theorem e_popAt {y : D} {ys : List D} {Z0 : D → Mm → Prop} {Z2 : D → Mm → Prop} (ho : Pv X c Fr G M env o (.p l)) (hl : LsOf c (fun _ => none) M l ys) (he : Ev X c Fr G M env e Z0) (hz : ∀ d M', Z0 d M' → ∃ i k y, d = natD k ∧ M'[i]? = some (l, .lst ys) ∧ k < 100000 ∧ ys[k]? = some y ∧ Z2 y (M'.set i (l, .lst (ys.eraseIdx k))))
    (hbase : attributeBase o "pop" X.env (eval o X.env) = eval o X.env := by rfl)
    (hfew : ((backTo p2 (starEach (e :: []) X.env)).all (fun x => !x.1) && (backToKw p2 (keywordEach [] X.env)).all (fun x => x.1.isSome)
      && decide ((e :: ([] : List Expr)).length + ([] : List Keyword).length + (if ([] : List Keyword).isEmpty then 0 else 1) < 30)) = true := by rfl)
    (hline : (p1.endLine == p2.line) = true := by rfl) (hs : starEach (e :: []) X.env = (false, eval e X.env) :: starEach [] X.env := by rfl) (hplain : (backTo p2 (starEach [] X.env)).any (·.1) = false := by rfl) : Ev X c Fr G M env (.Call (.Attribute o "pop" p1) [e] [] p2) Z2 := fun σ H A Q k =>
  (pe_bm PySem.F.plainAttrs_list PySem.F.slot_list_pop PySem.F.type_list_pop mt_popAt we (pa_cons we pa_nil hs) hbase hfew hline hs hplain).w (ho σ H A _ fun u H1 A1 i1 r1 => by
    have hl1 : ∃ vs, H1 l = some (.lst vs) := by
      rcases hl with hl | hl
      · obtain ⟨vs, h1, _⟩ := hl
        rcases h1 with h1 | ⟨o, h1⟩ <;> cases h1
      · obtain ⟨vs, h1, _⟩ := (A1.ob _ hl).2
        exact ⟨vs, h1⟩
    obtain ⟨vs, h1⟩ := hl1
    rw [rp_v.mp r1]
    refine ⟨tyl h1, he σ H1 A1 _ fun d M' v H2 z A2 i2 r2 => ?_⟩
    obtain ⟨i, n, y, rfl, hM, hn, hy, z2⟩ := hz d M' z
    obtain ⟨us, h3, h4⟩ := A2.obI hM
    obtain ⟨u1, g1, g2⟩ := h4.get hy
    rw [rp_v.mp r2]
    have im : IM H2 (upd H2 l (.lst (us.eraseIdx n))) := A2.imI hM
    have er : ∀ (n : Nat) {ds : List D} {vs : List V} {H : Hp}, RpL c H ds vs → RpL c H (ds.eraseIdx n) (vs.eraseIdx n) := by
      intro n
      induction n with
      | zero =>
        intro ds vs H h
        cases ds with
        | nil =>
          rw [rpl_nil.mp h]
          exact rpl_nil.mpr rfl
        | cons d ds =>
          obtain ⟨v, r, rfl, _, h⟩ := rpl_cons.mp h
          exact h
      | succ n ih =>
        intro ds vs H h
        cases ds with
        | nil =>
          rw [rpl_nil.mp h]
          exact rpl_nil.mpr rfl
        | cons d ds =>
          obtain ⟨v, r, rfl, h1, h⟩ := rpl_cons.mp h
          exact rpl_cons.mpr ⟨v, _, rfl, h1, ih h⟩
    have hlt : n < us.length := (List.getElem?_eq_some_iff.mp g1).1
    refine ⟨l, us, (n : Int), n, u1, rfl, rfl, h3, by omega, by omega, ?_, g1, k _ _ _ _ z2 (A2.mutI hM ⟨_, upd_same, (er n h4).im im⟩) ((i1.trans i2).trans im) (g2.im im)⟩
    have h0 : ¬ ((n : Int) < 0) := by omega
    unfold seqIndex?
    simp [h0, hlt])
/-- a list compared with another -/
theorem t_neL {n : Nat} {es' : List D} {ps qs : List PyData} (hK : X.K = c.K) (hr : Room n X.A) (ha : Pv X c Fr G M env a (.p l)) (hl : LsOf c Fr M l ds) (hb : Pl X c Fr G M env b es') (h1 : pyAll ds = some ps) (h2 : pyAll es' = some qs) (s1 : SeqAt.shaped (.list ps) = true) (s2 : SeqAt.shaped (.list qs) = true)
    (hm : behindInMarks .NotEq b = false := by exact nomark _) : Pt X c Fr G M env (.Compare a [.NotEq] [b] pos) (!PyData.eqvAll ps qs) := fun σ H A Q q =>
  (pt_cmpR (op_neD hr.units) we we hm).w (ha σ H A _ fun v H1 A1 i1 r => hb σ H1 A1 _ fun l2 H2 A2 i2 => by
    obtain ⟨vs, g1, g2⟩ := A2.drop1.ls hl
    obtain ⟨us, g3, g4⟩ := A2.ls (.inr List.mem_cons_self)
    refine ⟨.list ps, .list qs, ?_, .lst (hK ▸ .inl g3) (hK ▸ dpAll_of h2 g4), s1, s2, ?_⟩
    · rw [rp_v.mp r]
      exact .lst (hK ▸ .inl g1) (hK ▸ dpAll_of h1 g2)
    · rw [PyData.eqv]
      exact ⟨_, rfl, q H2 A2.drop1 (i1.trans i2)⟩)
/-- a starred list, a starred tuple among the items -/
theorem a_starL (hK : X.K = c.K) (he : Pv X c Fr G M env e (.p l)) (hl : LsOf c Fr M l ds) (hr : Pa X c Fr G M env es ds2) (hs : starEach (.Starred e p1 :: es) X.env = (true, eval e X.env) :: starEach es X.env := by rfl) : Pa X c Fr G M env (.Starred e p1 :: es) (ds ++ ds2) := fun σ H A Q q =>
  (StX.pa_star we wa hs).w (he σ H A _ fun v H1 A1 i1 r => by
    obtain ⟨xs, h1, h2⟩ := A1.ls hl
    exact ⟨l, xs, rp_v.mp r, .inr (.inl h1), hr σ H1 A1 _ fun vs H2 A2 i2 rs => q _ H2 A2 (i1.trans i2) ((h2.im i2).app rs)⟩)
theorem a_starT (hK : X.K = c.K) (he : Pv X c Fr G M env e (.t ds)) (hr : Pa X c Fr G M env es ds2) (hs : starEach (.Starred e p1 :: es) X.env = (true, eval e X.env) :: starEach es X.env := by rfl) : Pa X c Fr G M env (.Starred e p1 :: es) (ds ++ ds2) := fun σ H A Q q =>
  (StX.pa_star we wa hs).w (he σ H A _ fun v H1 A1 i1 r => by
    obtain ⟨a, xs, rfl, h1, h2⟩ := rp_t.mp r
    exact ⟨a, xs, rfl, .inl (hK ▸ h1), hr σ H1 A1 _ fun vs H2 A2 i2 rs => q _ H2 A2 (i1.trans i2) ((h2.im i2).app rs)⟩)
/-- a starred list that was just made -/
theorem a_starN (hK : X.K = c.K) (he : Pl X c Fr G M env e ds) (hr : ∀ z, Pa X c Fr G (z :: M) env es ds2) (hs : starEach (.Starred e p1 :: es) X.env = (true, eval e X.env) :: starEach es X.env := by rfl) : Pa X c Fr G M env (.Starred e p1 :: es) (ds ++ ds2) := fun σ H A Q q =>
  (StX.pa_star we wa hs).w (he σ H A _ fun l H1 A1 i1 => by
    obtain ⟨xs, h1, h2⟩ := A1.ls (.inr List.mem_cons_self)
    exact ⟨l, xs, rfl, .inr (.inl h1), hr _ σ H1 A1 _ fun vs H2 A2 i2 rs => q _ H2 A2.drop1 (i1.trans i2) ((h2.im i2).app rs)⟩)
end
end Sx
end
section
set_option maxRecDepth 100000
set_option maxHeartbeats 1000000
namespace Sx
open PySem PySem.Spec PyProof.Rows L2
section
variable {X : Cx} {c : Cs} {Fr : Hp} {G : List (V × D)} {M : Mm} {env : En} {e : Expr} {pos p1 p2 : Pos}
/-- sorted(e) of a dict with ints as keys, behind an effect -/
theorem e_sortDict {Z0 Z2 : D → Mm → Prop} (hc : X.calm = true) (hm1 : X.mg "sorted" = none) (he : Ev X c Fr G M env e Z0) (h : ∀ d0 M1, Z0 d0 M1 → ∃ q0 kvs ns, d0 = .p q0 ∧ (q0, dicV kvs) ∈ M1 ∧ kvs.map (·.1) = ns.map Sum.inl ∧ ns.Nodup ∧ ∀ l, Z2 (.p l) ((l, .lst ((sortI ns).map D.i)) :: M1)) (hg1 : Gl X "sorted" := by rfl)
    (hs1 : starEach (e :: []) X.env = (false, eval e X.env) :: starEach [] X.env := by rfl) (hpl1 : (backTo p2 (starEach [] X.env)).any (·.1) = false := by rfl) :
    Ev X c Fr G M env (.Call (.Name "sorted" p1) [e] [] p2) Z2 := fun σ H A Q q =>
  (pe_callB (cr_sortedDA hc) hg1 hm1 boot_sorted (pa_cons we pa_nil hs1) (by decide) (by decide) hs1 hpl1).w (he σ H A _ fun d0 M1 v H1 z A1 i1 r => by
    obtain ⟨q0, kvs, ns, rfl, hM, hk, nd, hz⟩ := h d0 M1 z
    refine ⟨q0, kvs, ns, by rw [rp_v.mp r], .inl (dic_at.mp (A1.ob _ hM).2), hk, fun ys p2 py pw hp2 => ?_⟩
    have ey : ys = sortI ns := sortI_is (strict_int pw (py.nodup_iff.mpr nd)) fun x => py.mem_iff
    subst ey
    refine q _ _ _ _ (hz p2) (A1.new hp2 (Ex.new hp2) ⟨_, upd_same, ?_⟩) (i1.trans (IM.new hp2)) (rp_v.mpr rfl)
    have := RpL.vmap (c := c) (H := upd H1 p2 (.lst ((sortI ns).map V.int))) (xs := (sortI ns).map V.int)
    rw [List.map_map] at this
    exact this)
/-- tuple(e) of a list, behind an effect -/
theorem e_tupL {Z0 Z2 : D → Mm → Prop} (hm : X.mg "tuple" = none) (hK : X.K = c.K) (he : Ev X c Fr G M env e Z0) (h : ∀ d0 M1, Z0 d0 M1 → ∃ l ds, d0 = .p l ∧ LsOf c Fr M1 l ds ∧ Z2 (.t ds) M1) (hg : Gl X "tuple" := by rfl) (hs : starEach (e :: []) X.env = (false, eval e X.env) :: starEach [] X.env := by rfl) (hpl : (backTo p2 (starEach [] X.env)).any (·.1) = false := by rfl) : Ev X c Fr G M env (.Call (.Name "tuple" p1) [e] [] p2) Z2 := fun σ H A Q q =>
  (pe_callTy call_tuple_of hg hm boot_tuple (pa_cons we pa_nil hs) (by decide) (by decide) hs hpl).w (he σ H A _ fun d0 M1 v H1 z A1 i1 r => by
    obtain ⟨l, ds, rfl, hl, z2⟩ := h d0 M1 z
    obtain ⟨xs, h3, h4⟩ := A1.ls hl
    exact ⟨l, xs, by rw [rp_v.mp r], .inl ⟨.inl h3, fun p hp => q _ _ _ _ z2 (A1.ex (Ex.new hp)) (i1.trans (IM.new hp)) (rp_t.mpr ⟨p, xs, rfl, SqT.of upd_same, h4.im (IM.new hp)⟩)⟩⟩)
end
/-! ### dicts of marks -/
def keysI (kvs : List (Key × V)) (ns : List Int) : Prop := kvs.map (·.1) = ns.map Sum.inl
def keysS (kvs : List (Key × V)) (ns : List Str) : Prop := kvs.map (·.1) = ns.map Sum.inr
theorem val_some (kvs : List (Key × V)) (k : Key) : (valV kvs k).isSome = true ↔ k ∈ kvs.map (·.1) := by
  rw [← valV_any, List.any_eq_true, List.mem_map]
  constructor
  · rintro ⟨p, hp, e⟩
    exact ⟨p, hp, of_decide_eq_true e⟩
  · rintro ⟨p, hp, e⟩
    exact ⟨p, hp, decide_eq_true e⟩
theorem keysS_in {kvs : List (Key × V)} {ns : List Str} (h : keysS kvs ns) (z : Str) : (valV kvs (.inr z)).isSome = decide (z ∈ ns) := by
  rw [Bool.eq_iff_iff, val_some, decide_eq_true_eq, show kvs.map (·.1) = _ from h, List.mem_map]
  constructor
  · rintro ⟨x, hx, e⟩
    cases e
    exact hx
  · exact fun hx => ⟨z, hx, rfl⟩
theorem keysI_in {kvs : List (Key × V)} {ns : List Int} (h : keysI kvs ns) (z : Int) : (valV kvs (.inl z)).isSome = decide (z ∈ ns) := by
  rw [Bool.eq_iff_iff, val_some, decide_eq_true_eq, show kvs.map (·.1) = _ from h, List.mem_map]
  constructor
  · rintro ⟨x, hx, e⟩
    cases e
    exact hx
  · exact fun hx => ⟨z, hx, rfl⟩
theorem keysS_put {kvs : List (Key × V)} {ns : List Str} (h : keysS kvs ns) {z : Str} (q : z ∉ ns) (y : V) : keysS (putK kvs (.inr z) y) (ns ++ [z]) := by
  have e : valV kvs (.inr z) = none := by
    have := keysS_in h z
    rw [decide_eq_false q] at this
    exact Option.isSome_eq_false_iff.mp this |> Option.isNone_iff_eq_none.mp
  unfold keysS
  rw [putK_new _ e, List.map_append, show kvs.map (·.1) = _ from h, List.map_append]
  rfl
theorem keysI_put {kvs : List (Key × V)} {ns : List Int} (h : keysI kvs ns) {z : Int} (q : z ∉ ns) (y : V) : keysI (putK kvs (.inl z) y) (ns ++ [z]) := by
  have e : valV kvs (.inl z) = none := by
    have := keysI_in h z
    rw [decide_eq_false q] at this
    exact Option.isSome_eq_false_iff.mp this |> Option.isNone_iff_eq_none.mp
  unfold keysI
  rw [putK_new _ e, List.map_append, show kvs.map (·.1) = _ from h, List.map_append]
  rfl
theorem keysS_len {kvs : List (Key × V)} {ns : List Str} (h : keysS kvs ns) : kvs.length = ns.length := by
  have := congrArg List.length (show kvs.map (·.1) = _ from h)
  simpa using this
theorem keysI_len {kvs : List (Key × V)} {ns : List Int} (h : keysI kvs ns) : kvs.length = ns.length := by
  have := congrArg List.length (show kvs.map (·.1) = _ from h)
  simpa using this
/-- a gathering's objects -/
def GM (C x dx ag wa vi ga : Addr) (cs : List Crd) (r way : Str) (g : Gst) (kw kg : List (Key × V)) : Mm := [(ga, dicV kg), (vi, .lst (g.visited.map natD)), (wa, dicV kw), (ag, .lst (g.agenda.map D.s)), (x, .ins C dx [("drawer", dDrw cs), ("rule", .s r), ("way", .s way), ("agenda", .p ag), ("walked", .p wa), ("visited", .p vi), ("gathered", .p ga)])]
section
variable {P : Program} {w : World} {c : Cs} {mg : Str → Option Value} {base : Heap}
/-- behind a new agenda -/
theorem gm_new {c : Cs} {Fr H : Hp} {G : List (V × D)} {env : En} {σ : L2.St} {C x dx ag ag2 wa vi ga : Addr} {o1 o2 o3 o4 o5 : Ob} (A : At c Fr G [(ag2, o4), (ga, o1), (vi, o2), (wa, o3), (ag, o5), (x, .ins C dx fs)] env σ H) : At c Fr G [(ga, o1), (vi, o2), (wa, o3), (ag2, o4), (x, .ins C dx fs)] env σ H :=
  (A.less (M' := [(ag2, o4), (ga, o1), (vi, o2), (wa, o3), (x, .ins C dx fs)]) (.cons₂ _ (.cons₂ _ (.cons₂ _ (.cons₂ _ (.cons _ (.cons₂ _ .slnil))))))).perm (List.perm_middle (l₁ := [(ga, o1), (vi, o2), (wa, o3)])).symm
def S_visit (C : Addr) : List D → List (Addr × List D) → Mm → (D → Mm → Prop) → Prop := fun ds L M0 Z => ∃ (x dx ag wa vi ga : Addr) (cs : List Crd) (r way : Str) (g : Gst) (kw kg : List (Key × V)) (k : Nat) (cd : Crd), ds = [.p x, natD k] ∧ L = [] ∧ M0 = GM C x dx ag wa vi ga cs r way g kw kg ∧ cs[k]? = some cd ∧ cd.Ok ∧
  g.agenda.length < 1000 ∧ g.visited.length < 1000 ∧ g.met.length < 1000 ∧ keysI kg g.met ∧
  Z = fun d Mn => d = .n ∧ ∃ ag' kg', Mn = GM C x dx ag' wa vi ga cs r way ⟨byWay way g.agenda cd.a, g.done, g.visited ++ [k], addB g.met cd.b⟩ kw kg' ∧ keysI kg' (addB g.met cd.b)
theorem ok_visit (T : Tx c mg) : MtAt P w c mg base (He.ga c.K "Gathering") "visit" 3 (spM c (S_visit (He.ga c.K "Gathering"))) := by
  refine T.d_Gathering_visit.at_ fun f fd F => fnM F sc_Gathering_visit (fun _ _ _ _ _ _ us hl => match us, hl with | [_, _], _ => rfl) rfl (fun ds L M0 Z h => ?_) 2 rfl fun cdv A0 outer s H0 Fr E ds L M0 Z σ hr h hL A Q q => ?_
  · obtain ⟨x, dx, ag, wa, vi, ga, cs, r, way, g, kw, kg, k, cd, rfl, _⟩ := h
    rfl
  · obtain ⟨x, dx, ag, wa, vi, ga, cs, r, way, g, kw, kg, k, cd, rfl, rfl, rfl, hk, oc, z1, z2, z3, hkg, rfl⟩ := h
    have hC := T.c_Gathering
    obtain ⟨hk1, rfl⟩ := List.getElem?_eq_some_iff.mp hk
    refine x_app 1 (ds := g.visited.map natD) rfl (v_fld 4 rfl hC T.a_Gathering_visited (v_var 0)) (v_var 1) A (by rw [List.length_map]; omega) fun H1 A1 => ?_
    have ap : g.visited.map natD ++ [natD k] = (g.visited ++ [k]).map natD := by rw [List.map_append]; rfl
    refine x_set 2 sc_Gathering_visit.nd (v_ixT (ds := cs.map dCard) rfl (v_prop (k := false) (d0 := .t (cs.map dCard)) rfl (ok_cards T) T.s_Drawer hr (v_fld 4 rfl hC T.a_Gathering_drawer (v_var 0)) ⟨cs, rfl, rfl⟩) (v_var 1) (atI_nat (by rw [List.getElem?_map, List.getElem?_eq_getElem hk1]; rfl))) A1 fun σ2 H2 A2 => ?_
    refine x_for rfl PassesOwn.never (fun i M' env' => ∃ (o : Option D) (kg' : List (Key × V)), M' = GM (He.ga c.K "Gathering") x dx ag wa vi ga cs r way ⟨g.agenda, g.done, g.visited ++ [k], addB g.met (cs[k].b.take i)⟩ kw kg' ∧ env' = [some (.p x), some (natD k), some (dCard cs[k]), o] ∧ keysI kg' (addB g.met (cs[k].b.take i))) (i_tup rfl (v_prop (k := true) rfl (ok_books T) T.s_Card hr (v_var 2) ⟨cs[k], rfl, rfl⟩)) A2 ⟨none, kg, by unfold GM; simp only [← ap]; rfl, rfl, by simpa [addB] using hkg⟩ (fun i d M' env' Fr' Gx hd hI hE => ?_) (fun M' env' σ' H' hI A' => ?_)
    · obtain ⟨o, kg', rfl, rfl, hk'⟩ := hI
      rw [List.getElem?_map] at hd
      obtain ⟨b, hb, rfl⟩ := Option.map_eq_some_iff.mp hd
      refine ⟨_, _, g_name 3 sc_Gathering_visit.nd, fun σ3 H3 A3 => ?_⟩
      have hlen : (addB g.met (cs[k].b.take i)).length ≤ g.met.length + 6 := by
        have := addB_len (bs := cs[k].b.take i) (met := g.met)
        have h6 := oc.b.1
        have : (cs[k].b.take i).length ≤ cs[k].b.length := by rw [List.length_take]; omega
        omega
      have ht : cs[k].b.take (i + 1) = cs[k].b.take i ++ [b] := by
        rw [List.take_add_one, hb]
        rfl
      have ea : addB g.met (cs[k].b.take (i + 1)) = if b ∈ addB g.met (cs[k].b.take i) then addB g.met (cs[k].b.take i) else addB g.met (cs[k].b.take i) ++ [b] := by
        rw [ht]
        unfold addB
        rw [List.foldl_append]
        rfl
      refine x_setd 0 (kvs := kg') (k := .inl b) (y := .int (kw.length : Int)) (v_fld 4 rfl hC T.a_Gathering_gathered (v_var 0)) (v_var 3) (v_lenD 2 (kvs := kw) T.n_len (v_fld 4 rfl hC T.a_Gathering_walked (v_var 0))) A3 (by rw [keysI_len hk']; omega) fun H4 A4 => x_nil ?_
      rw [keysI_in hk'] at A4
      by_cases qb : b ∈ addB g.met (cs[k].b.take i)
      · rw [decide_eq_true qb, if_pos rfl] at A4
        rw [if_pos qb] at ea
        exact ⟨_, _, ⟨_, kg', by rw [ea]; rfl, rfl, by rw [ea]; exact hk'⟩, A4⟩
      · rw [decide_eq_false qb, if_neg Bool.false_ne_true] at A4
        rw [if_neg qb] at ea
        exact ⟨_, _, ⟨_, putK kg' (.inl b) (.int (kw.length : Int)), by rw [ea]; rfl, rfl, by rw [ea]; exact keysI_put hk' qb _⟩, A4⟩
    · obtain ⟨o, kg', rfl, rfl, hk'⟩ := hI
      rw [List.length_map, List.take_length] at *
      have la := oc.a.1
      have fin : ∀ (ag2 : Addr) (Ag : List Str) (Fr : Hp) (G : List (V × D)) (env : En) (σ : L2.St) (H : Hp), Ag = byWay way g.agenda cs[k].a → At c Fr G ((ag2, .lst (Ag.map D.s)) :: (GM (He.ga c.K "Gathering") x dx ag wa vi ga cs r way ⟨g.agenda, g.done, g.visited ++ [k], addB g.met cs[k].b⟩ kw kg').set 4 (x, .ins (He.ga c.K "Gathering") dx (putD "agenda" (.p ag2) [("drawer", dDrw cs), ("rule", .s r), ("way", .s way), ("agenda", .p ag), ("walked", .p wa), ("visited", .p vi), ("gathered", .p ga)]))) env σ H →
          At c Fr G (GM (He.ga c.K "Gathering") x dx ag2 wa vi ga cs r way ⟨byWay way g.agenda cs[k].a, g.done, g.visited ++ [k], addB g.met cs[k].b⟩ kw kg') env σ H := fun ag2 Ag Fr G env σ H e B => by
        subst e
        exact gm_new (C := He.ga c.K "Gathering") (x := x) (dx := dx) (ag := ag) B
      refine x_if (k := decide (way = ("broad" : Str))) (Pt.is (t_cmp op_eq (v_fld 4 rfl hC T.a_Gathering_way (v_var 0)) (v_glo T.k_BROAD) rv_eq) (by rw [dec_str])) A' (fun b H5 A5 => ?_) fun b H5 A5 => ?_
      · refine x_fldL 4 rfl hC T.a_Gathering_agenda (Pl.is (ds' := (g.agenda ++ cs[k].a).map D.s) (l_lst (a_starL (ds := g.agenda.map D.s) rfl (v_fld 4 rfl hC T.a_Gathering_agenda (v_var 0)) (.inr (List.mem_cons_of_mem _ (List.mem_cons_of_mem _ (List.mem_cons_of_mem _ List.mem_cons_self)))) (a_starT rfl (v_prop (k := true) rfl (ok_also T) T.s_Card hr (v_var 2) ⟨cs[k], rfl, rfl⟩) a_nil)) (by simp; omega)) (by rw [List.map_append, List.append_nil])) (fun z => v_var 0) A5 fun ag2 H6 A6 => ?_
        exact x_nil (x_nil (q _ _ _ _ _ _ H6 ⟨rfl, ag2, kg', rfl, hk'⟩ (fin ag2 _ _ _ _ _ _ (by unfold byWay; rw [if_pos (of_decide_eq_true b)]) A6) (rp_v.mpr rfl)))
      · refine x_if (k := decide (way = ("deep" : Str))) (Pt.is (t_cmp op_eq (v_fld 4 rfl hC T.a_Gathering_way (v_var 0)) (v_glo T.k_DEEP) rv_eq) (by rw [dec_str])) A5 (fun b2 H6 A6 => ?_) fun b2 H6 A6 => ?_
        · refine x_fldL 4 rfl hC T.a_Gathering_agenda (Pl.is (ds' := (cs[k].a ++ g.agenda).map D.s) (l_lst (a_starT rfl (v_prop (k := true) rfl (ok_also T) T.s_Card hr (v_var 2) ⟨cs[k], rfl, rfl⟩) (a_starL (ds := g.agenda.map D.s) rfl (v_fld 4 rfl hC T.a_Gathering_agenda (v_var 0)) (.inr (List.mem_cons_of_mem _ (List.mem_cons_of_mem _ (List.mem_cons_of_mem _ List.mem_cons_self)))) a_nil)) (by simp; omega)) (by rw [List.map_append, List.append_nil])) (fun z => v_var 0) A6 fun ag2 H7 A7 => ?_
          exact x_nil (x_nil (x_nil (q _ _ _ _ _ _ H7 ⟨rfl, ag2, kg', rfl, hk'⟩ (fin ag2 _ _ _ _ _ _ (by unfold byWay; rw [if_neg (of_decide_eq_false b), if_pos (of_decide_eq_true b2)]) A7) (rp_v.mpr rfl))))
        · refine x_fldL 4 rfl hC T.a_Gathering_agenda (l_listT (ds := cs[k].a.map D.s) T.n_list rfl (v_prop (k := true) rfl (ok_also T) T.s_Card hr (v_var 2) ⟨cs[k], rfl, rfl⟩)) (fun z => v_var 0) A6 fun ag2 H7 A7 => ?_
          exact x_nil (x_nil (x_nil (q _ _ _ _ _ _ H7 ⟨rfl, ag2, kg', rfl, hk'⟩ (fin ag2 _ _ _ _ _ _ (by unfold byWay; rw [if_neg (of_decide_eq_false b), if_neg (of_decide_eq_false b2)]) A7) (rp_v.mpr rfl))))
end
end Sx
end
section
set_option maxRecDepth 100000
set_option maxHeartbeats 1000000
namespace Sx
open PySem PySem.Spec PyProof.Rows L2
section
variable {P : Program} {w : World} {c : Cs} {mg : Str → Option Value} {base : Heap}
def wayOk (z : Str) : Prop := z = ("broad" : Str) ∨ z = ("deep" : Str) ∨ z = ("straight" : Str)
def S_ggo (C : Addr) : List D → List (Addr × List D) → Mm → (D → Mm → Prop) → Prop := fun ds L M0 Z => ∃ (x dx ag wa vi ga : Addr) (cs : List Crd) (r way : Str) (g : Gst) (kw kg : List (Key × V)), ds = [.p x] ∧ L = [] ∧ M0 = GM C x dx ag wa vi ga cs r way g kw kg ∧ drwOk cs ∧ ruleOk r ∧
  g.agenda ≠ [] ∧ g.agenda.length < 1000 ∧ g.done.length < 1000 ∧ g.visited.length < 1000 ∧ g.met.length < 1000 ∧ keysS kw g.done ∧ keysI kg g.met ∧
  Z = fun d Mn => d = .n ∧ ∃ ag' kw' kg', Mn = GM C x dx ag' wa vi ga cs r way (gstep cs r way g) kw' kg' ∧ keysS kw' (gstep cs r way g).done ∧ keysI kg' (gstep cs r way g).met
theorem ok_ggo (T : Tx c mg) : MtAt P w c mg base (He.ga c.K "Gathering") "go_on" 8 (spM c (S_ggo (He.ga c.K "Gathering"))) := by
  refine T.d_Gathering_go_on.at_ fun f fd F => fnM F sc_Gathering_go_on (fun _ _ _ _ _ _ us hl => match us, hl with | [_], _ => rfl) rfl (fun ds L M0 Z h => ?_) 3 rfl fun cdv A0 outer s H0 Fr E ds L M0 Z σ hr h hL A Q q => ?_
  · obtain ⟨x, dx, ag, wa, vi, ga, cs, r, way, g, kw, kg, rfl, _⟩ := h
    rfl
  · obtain ⟨x, dx, ag, wa, vi, ga, cs, r, way, ⟨agenda, done, visited, met⟩, kw, kg, rfl, rfl, rfl, hc, hrule, ne, z1, z2, z3, z4, hkw, hkg, rfl⟩ := h
    have hC := T.c_Gathering
    have hCW := T.c_Walk
    dsimp only at ne z1 z2 z3 z4 hkw hkg
    cases agenda with
    | nil => exact absurd rfl ne
    | cons h rest =>
    generalize eg : gstep cs r way ⟨h :: rest, done, visited, met⟩ = g' at q
    unfold gstep at eg
    dsimp only at eg
    rw [List.length_cons] at z1
    refine x_setE 1 sc_Gathering_go_on.nd (e_pop0 (y := .s h) (ys := rest.map D.s) 3 (v_fld 4 rfl hC T.a_Gathering_agenda (v_var 0)) v_int rfl) A fun d M' σ1 H1 z A1 => ?_
    obtain ⟨rfl, rfl⟩ := z
    refine x_if (Pt.is (t_inD (kvs := kw) (k := .inr h) 2 hr (v_var 1) (v_fld 4 rfl hC T.a_Gathering_walked (v_var 0))) (keysS_in hkw h)) A1 (fun b H2 A2 => ?_) fun b H2 A2 => ?_
    · rw [if_pos (of_decide_eq_true b)] at eg
      subst eg
      exact x_retN (q _ _ _ _ _ _ H2 ⟨rfl, ag, kw, kg, rfl, hkw, hkg⟩ A2 (rp_v.mpr rfl))
    · have qh := of_decide_eq_false b
      rw [if_neg qh] at eg
      refine x_nil (x_dput (kvs := kw) (k := .inr h) (y := .bl true) 2 hr (v_fld 4 rfl hC T.a_Gathering_walked (v_var 0)) (v_var 1) v_bl A2 (by rw [keysS_len hkw]; omega) fun H3 A3 => ?_)
      have hkw' := keysS_put hkw qh (.bl true)
      refine x_tupE (e_meth0 (Z2 := fun d M' => d = .t [.s (walked cs r h).1, optD (landOf (walked cs r h))] ∧ ∃ Mw, M' = Mw ++ GM (He.ga c.K "Gathering") x dx ag wa vi ga cs r way ⟨rest, done ++ [h], visited, met⟩ (putK kw (.inr h) (.bl true)) kg) rfl hCW (ok_landing T) hr (e_make (Z2 := fun d M' => ∃ x' dx' st so, d = .p x' ∧ M' = WM (He.ga c.K "Walk") x' dx' st so (.s (walked cs r h).1) (walked cs r h).2 ++ GM (He.ga c.K "Gathering") x dx ag wa vi ga cs r way ⟨rest, done ++ [h], visited, met⟩ (putK kw (.inr h) (.bl true)) kg) [] [] (GM (He.ga c.K "Gathering") x dx ag wa vi ga cs r way ⟨rest, done ++ [h], visited, met⟩ (putK kw (.inr h) (.bl true)) kg) (ok_Walk T) rfl hr (a_cons (v_fld 4 rfl hC T.a_Gathering_drawer (v_var 0)) (a_cons (v_fld 4 rfl hC T.a_Gathering_rule (v_var 0)) (a_cons (v_var 1) a_nil))) (fun x' dx' => ⟨_, ⟨x', dx', cs, r, h, rfl, rfl, rfl, hc.1, hrule, rfl⟩, fun d Mn z => ?_⟩) (fun p hp => nomatch hp)) fun d0 M1 z => ?_) A3 fun d M' z => ?_
      · obtain ⟨rfl, st, so, rfl⟩ := z
        exact ⟨rfl, x', dx', st, so, rfl, rfl⟩
      · obtain ⟨x', dx', st, so, rfl, rfl⟩ := z
        exact ⟨x', dx', _, [], WM (He.ga c.K "Walk") x' dx' st so (.s (walked cs r h).1) (walked cs r h).2, _, _, rfl, List.mem_append_left _ (List.mem_cons_of_mem _ (List.mem_cons_of_mem _ List.mem_cons_self)), rfl, List.Perm.refl _, ⟨x', dx', st, so, walked cs r h, rfl, rfl, rfl, walked_entry, rfl⟩, (fun p hp => nomatch hp), fun d Mn z => ⟨z.1, Mn, rfl⟩⟩
      · obtain ⟨rfl, Mw, rfl⟩ := z
        refine ⟨_, _, g_tup rfl rfl (gs_cons (g_name 2 sc_Gathering_go_on.nd) (gs_cons (g_name 3 sc_Gathering_go_on.nd) gs_nil)), fun σ4 H4 A4 => ?_⟩
        have A4 := A4.less (List.sublist_append_right Mw _)
        have fin0 : g' = ⟨rest, done ++ [h], visited, met⟩ → ∀ (env : En) σ H, At c Fr [] (GM (He.ga c.K "Gathering") x dx ag wa vi ga cs r way ⟨rest, done ++ [h], visited, met⟩ (putK kw (.inr h) (.bl true)) kg) env σ H → Q .non H := fun e env σ H B => q _ _ _ _ _ _ H ⟨rfl, ag, _, kg, by rw [e], by rw [e]; exact hkw', by rw [e]; exact hkg⟩ B (rp_v.mpr rfl)
        cases el : landOf (walked cs r h) with
        | none =>
          rw [el] at eg A4
          refine x_if (k := false) (o_t (o_and (k := false) (t_cmp op_notN (v_var 3) v_non rv_notN) (fun h => nomatch h) (l := false))) A4 (fun h => nomatch h) fun _ H5 A5 => x_nil (x_nil (fin0 eg.symm _ _ _ A5))
        | some k =>
          rw [el] at eg A4
          dsimp only at eg
          have hk := land_lt el
          rw [List.getElem?_eq_getElem hk] at eg
          dsimp only at eg
          refine x_if (k := !decide (k ∈ visited)) (Pt.is (o_t (o_and (k := true) (t_cmp op_notN (v_var 3) v_non rv_notN) fun _ => o_and1 (t_niL (xs := visited.map fun (i : Nat) => V.int (i : Int)) rfl (v_var 3) (v_fld 4 rfl hC T.a_Gathering_visited (v_var 0)) (.inr (by rw [← nats_v]; exact List.mem_cons_of_mem _ List.mem_cons_self)) rfl (all_nats _)))) (by rw [inV_nat]; rfl)) A4 (fun b5 H5 A5 => ?_) fun b5 H5 A5 => ?_
          · have qk : k ∉ visited := by simpa using b5
            rw [if_neg qk] at eg
            refine x_exp (Z := fun d M2 => d = .n ∧ ∃ ag' kg', M2 = GM (He.ga c.K "Gathering") x dx ag' wa vi ga cs r way ⟨byWay way rest cs[k].a, done ++ [h], visited ++ [k], addB met cs[k].b⟩ (putK kw (.inr h) (.bl true)) kg' ∧ keysI kg' (addB met cs[k].b)) (e_methI 4 [] (GM (He.ga c.K "Gathering") x dx ag wa vi ga cs r way ⟨rest, done ++ [h], visited, met⟩ (putK kw (.inr h) (.bl true)) kg) [] rfl hC (ok_visit T) hr (v_var 0) (a_cons (v_var 3) a_nil) ⟨x, dx, ag, wa, vi, ga, cs, r, way, _, _, kg, k, cs[k], rfl, rfl, rfl, List.getElem?_eq_getElem hk, hc.2 _ (List.getElem_mem hk), by show rest.length < 1000; omega, z3, z4, hkg, rfl⟩ (fun p hp => nomatch hp) (fun d Mn z => by
              rw [List.append_nil]
              exact z)) A5 fun d M2 H6 z A6 => ?_
            obtain ⟨rfl, ag', kg', rfl, hk'⟩ := z
            subst eg
            exact x_nil (x_nil (q _ _ _ _ _ _ H6 ⟨rfl, ag', _, kg', rfl, hkw', hk'⟩ A6 (rp_v.mpr rfl)))
          · have qk : k ∈ visited := by simpa using b5
            rw [if_pos qk] at eg
            exact x_nil (x_nil (fin0 eg.symm _ _ _ A5))
end
end Sx
end
section
set_option maxRecDepth 100000
set_option maxHeartbeats 1000000
namespace Sx
open PySem PySem.Spec PyProof.Rows L2
section
variable {P : Program} {w : World} {c : Cs} {mg : Str → Option Value} {base : Heap}
def S_Gathering (C : Addr) : List D → List (Addr × List D) → Mm → (D → Mm → Prop) → Prop := fun ds L M0 Z => ∃ (x dx : Addr) (cs : List Crd) (r way h : Str) (pat : Nat), ds = [.p x, dDrw cs, .s r, .s way, .s h, natD pat] ∧ L = [] ∧ M0 = [(x, .ins C dx [])] ∧ drwOk cs ∧ ruleOk r ∧ wordB h = true ∧ pat ≤ 99 ∧
  Z = fun d Mn => d = .n ∧ ∃ ag wa vi ga kw kg, Mn = GM C x dx ag wa vi ga cs r way (gathered cs r way h pat) kw kg ∧ keysS kw (gathered cs r way h pat).done ∧ keysI kg (gathered cs r way h pat).met
theorem gath_done {cs : List Crd} {r way : Str} {pat n : Nat} {g : Gst} (h : g.agenda = [] ∨ g.done.length = pat) : gath cs r way pat n g = g := by
  cases n with
  | zero => rfl
  | succ n =>
    unfold gath
    rw [if_pos h]
theorem ok_Gathering (T : Tx c mg) : MkAt P w c mg base (He.ga c.K "Gathering") "Gathering" 9 (spM c (S_Gathering (He.ga c.K "Gathering"))) := by
  obtain ⟨g0, fd, dvs, Mk0, hd, F⟩ := T.d_Gathering_init
  have e0 : dvs = [] := List.eq_nil_of_length_eq_zero hd
  subst e0
  refine ⟨g0, T.g_Gathering, Mk0, fnM F sc_Gathering_init (fun _ _ _ _ _ _ us hl => match us, hl with | [_, _, _, _, _, _], _ => rfl) rfl (fun ds L M0 Z h => ?_) 0 rfl fun cdv A0 outer s H0 Fr E ds L M0 Z σ hr h hL A Q q => ?_⟩
  · obtain ⟨x, dx, cs, r, way, h, pat, rfl, _⟩ := h
    rfl
  · obtain ⟨x, dx, cs, r, way, h, pat, rfl, rfl, rfl, hc, hrule, hw, hp, rfl⟩ := h
    have hC := T.c_Gathering
    generalize et : gathered cs r way h pat = tgt at q
    refine x_fld 0 rfl hC T.a_Gathering_drawer (v_var 1) (v_var 0) A fun H1 A1 => ?_
    refine x_fld 0 rfl hC T.a_Gathering_rule (v_var 2) (v_var 0) A1 fun H2 A2 => ?_
    refine x_fld 0 rfl hC T.a_Gathering_way (v_var 3) (v_var 0) A2 fun H3 A3 => ?_
    refine x_fldL 0 rfl hC T.a_Gathering_agenda (l_lst (a_cons (v_var 4) a_nil)) (fun z => v_var 0) A3 fun ag H4 A4 => ?_
    refine x_fldD 1 rfl hC T.a_Gathering_walked (fun z => v_var 0) A4 fun wa H5 A5 => ?_
    refine x_fldL 2 rfl hC T.a_Gathering_visited (l_lst a_nil) (fun z => v_var 0) A5 fun vi H6 A6 => ?_
    refine x_fldD 3 rfl hC T.a_Gathering_gathered (fun z => v_var 0) A6 fun ga H7 A7 => ?_
    refine x_while PassesOwn.never (fun n M' env' => ∃ (ag : Addr) (kw kg : List (Key × V)) (g : Gst) (i : Nat), M' = GM (He.ga c.K "Gathering") x dx ag wa vi ga cs r way g kw kg ∧ env' = [some (.p x), some (dDrw cs), some (.s r), some (.s way), some (.s h), some (natD pat)] ∧ gath cs r way pat n g = tgt ∧ Gok cs pat i g ∧ n + i = 400 ∧ keysS kw g.done ∧ keysI kg g.met) 400 A7 ⟨ag, [], [], ⟨[h], [], [], []⟩, 0, rfl, rfl, et, Gok.start hw, rfl, rfl, rfl⟩ ?_
    rintro n M' env' ⟨ag, kw, kg, g, i, rfl, rfl, e, o, hn, hkw, hkg⟩
    have hv := o.vis
    have h16 := hc.1
    have oa := o.ag
    have om := o.ml
    have od := o.dl
    have sh : ∀ l : List Str, (∀ z ∈ l, wordB z = true) → SeqAt.shaped (.list (l.map PyData.str)) = true := fun l hl => (sh_lst (n := 0) fun x hx => by
      obtain ⟨z, hz, rfl⟩ := List.mem_map.mp hx
      exact sh_str 0 (word_ok (hl z hz))).ed
    have py : ∀ l : List Str, pyAll (l.map D.s) = some (l.map PyData.str) := fun l => pyAll_map D.s PyData.str (fun _ => by simp only [pyOf]) l
    refine ⟨!decide (g.agenda = []) && decide (g.done.length < pat), o_t (o_and (Pt.is (t_neL (ds := g.agenda.map D.s) rfl hr (v_fld 4 rfl hC T.a_Gathering_agenda (v_var 0)) (.inr (List.mem_cons_of_mem _ (List.mem_cons_of_mem _ (List.mem_cons_of_mem _ List.mem_cons_self)))) (l_lst a_nil) (py _) (py []) (sh _ o.wd) (sh [] fun z hz => nomatch hz)) (by rw [eqvAll_str])) fun _ => o_and1 (Pt.is (t_cmp op_lt (v_lenD 2 (kvs := kw) T.n_len (v_fld 4 rfl hC T.a_Gathering_walked (v_var 0))) (v_var 5) rv_I0) (by rw [keysS_len hkw, decide_eq_decide]; omega))), fun b σ8 H8 A8 => ?_, fun b σ8 H8 A8 => ?_⟩
    · rw [Bool.and_eq_true, Bool.not_eq_true'] at b
      have b1 := of_decide_eq_false b.1
      have b2 := of_decide_eq_true b.2
      cases n with
      | zero =>
        have : 1 ≤ g.agenda.length := by
          cases ha : g.agenda with
          | nil => exact absurd ha b1
          | cons z zs => simp
        omega
      | succ n =>
        unfold gath at e
        rw [if_neg (fun z => z.elim b1 fun z => by omega)] at e
        refine x_exp (Z := fun d M2 => d = .n ∧ ∃ ag' kw' kg', M2 = GM (He.ga c.K "Gathering") x dx ag' wa vi ga cs r way (gstep cs r way g) kw' kg' ∧ keysS kw' (gstep cs r way g).done ∧ keysI kg' (gstep cs r way g).met) (e_meth0I 4 [] (GM (He.ga c.K "Gathering") x dx ag wa vi ga cs r way g kw kg) [] rfl hC (ok_ggo T) hr (v_var 0) ⟨x, dx, ag, wa, vi, ga, cs, r, way, g, kw, kg, rfl, rfl, rfl, hc, hrule, b1, by omega, by omega, by omega, by omega, hkw, hkg, rfl⟩ (fun p hp => nomatch hp) (fun d Mn z => by
          rw [List.append_nil]
          exact z)) A8 fun d M2 H9 z A9 => ?_
        obtain ⟨rfl, ag', kw', kg', rfl, hk1, hk2⟩ := z
        exact x_nil ⟨n, _, _, Nat.lt_succ_self n, ⟨ag', kw', kg', _, i + 1, rfl, rfl, e, o.step hc b1 b2, by omega, hk1, hk2⟩, A9⟩
    · have hd : g.agenda = [] ∨ g.done.length = pat := by
        rw [Bool.and_eq_false_iff] at b
        rcases b with b | b
        · left
          simpa using b
        · right
          have := of_decide_eq_false b
          omega
      rw [gath_done hd] at e
      subst e
      exact x_nil (q _ _ _ _ _ _ H8 ⟨rfl, ag, wa, vi, ga, kw, kg, rfl, hkw, hkg⟩ A8 (rp_v.mpr rfl))
theorem gath_ok {cs : List Crd} {r way : Str} {pat : Nat} (hc : drwOk cs) : ∀ {n i : Nat} {g : Gst}, Gok cs pat i g → ∃ j, Gok cs pat j (gath cs r way pat n g)
  | 0, i, g, o => ⟨i, o⟩
  | n + 1, i, g, o => by
    unfold gath
    by_cases q : g.agenda = [] ∨ g.done.length = pat
    · rw [if_pos q]
      exact ⟨i, o⟩
    · rw [if_neg q]
      have := o.dl
      exact gath_ok hc (o.step hc (fun z => q (.inl z)) (by
        have : ¬ g.done.length = pat := fun z => q (.inr z)
        omega))
theorem gathered_ok {cs : List Crd} {r way h : Str} {pat : Nat} (hc : drwOk cs) (hw : wordB h = true) : ∃ j, Gok cs pat j (gathered cs r way h pat) := gath_ok hc (Gok.start hw)
def R_check_way : List D → D → Prop := fun ds d => ∃ r : Str, ds = [.s r] ∧ wayOk r ∧ d = .n
theorem ok_check_way (T : Tx c mg) : FnAt P w c.K mg base "check_way" 1 (spD c R_check_way) := by
  refine T.d_check_way.at_ fun f fd F => fnD F sc_check_way (fun _ _ _ _ _ _ us hl => match us, hl with | [_], _ => rfl) (fun ds d h => ?_) 0 rfl fun cdv A0 outer s H0 E ds d σ hr h A Q q => ?_
  · obtain ⟨r, rfl, _⟩ := h
    rfl
  · obtain ⟨r, rfl, hr, rfl⟩ := h
    refine x_if (k := false) (Pt.is (t_cmp op_notIn_seq (v_var 0) (v_gloT rfl T.k_WAYS) (rv_niT rfl)) ?_) A (fun h => nomatch h) fun _ H1 A1 => x_nil (x_nil (q _ _ _ _ _ H1 A1 (rp_v.mpr rfl)))
    rcases hr with rfl | rfl | rfl <;> rfl
def gatD (g : Gst) : D := .t [.t ((sortI g.met).map D.i), .t (g.visited.map natD), natD g.done.length]
def R_gather : List D → D → Prop := fun ds d => ∃ (cs : List Crd) (r way h : Str) (pat : Nat), ds = [dDrw cs, .s r, .s way, .s h, natD pat] ∧ drwOk cs ∧ ruleOk r ∧ wayOk way ∧ wordB h = true ∧ 1 ≤ pat ∧ pat ≤ 99 ∧ d = gatD (gathered cs r way h pat)
theorem ok_gather (T : Tx c mg) : FnAt P w c.K mg base "gather" 11 (spD c R_gather) := by
  refine T.d_gather.at_ fun f fd F => fnD F sc_gather (fun _ _ _ _ _ _ us hl => match us, hl with | [_, _, _, _, _], _ => rfl) (fun ds d h => ?_) 1 rfl fun cdv A0 outer s H0 E ds d σ hr h A Q q => ?_
  · obtain ⟨_, r, way, h, pat, rfl, _⟩ := h
    rfl
  · obtain ⟨cs, r, way, h, pat, rfl, hc, hrule, hway, hw, hp1, hp2, rfl⟩ := h
    have hC := T.c_Gathering
    obtain ⟨j, o⟩ := gathered_ok (r := r) (way := way) (pat := pat) hc hw
    refine x_exp (v_call (ok_check_rule T) hr (a_cons (v_var 1) a_nil) ⟨r, rfl, hrule, rfl⟩).ev A fun d M' H1 z A1 => ?_
    obtain ⟨rfl, rfl⟩ := z
    refine x_exp (v_call (ok_check_way T) hr (a_cons (v_var 2) a_nil) ⟨way, rfl, hway, rfl⟩).ev A1 fun d M' H2 z A2 => ?_
    obtain ⟨rfl, rfl⟩ := z
    refine x_exp (v_call (ok_check_heading T) hr (a_cons (v_var 3) a_nil) ⟨h, rfl, hw, rfl⟩).ev A2 fun d M' H3 z A3 => ?_
    obtain ⟨rfl, rfl⟩ := z
    refine x_exp (Pv.ev (v_call (ok_check_number T) hr (a_cons (v_var 4) (a_cons v_int (a_cons (v_glo T.k_MAX_PATIENCE) a_nil))) ⟨(pat : Int), 1, 99, rfl, by omega, by omega, rfl⟩)) A3 fun d M' H4 z A4 => ?_
    obtain ⟨rfl, rfl⟩ := z
    refine x_setE 5 sc_gather.nd (e_make (Z2 := fun d M' => ∃ x dx ag wa vi ga kw kg, d = .p x ∧ M' = GM (He.ga c.K "Gathering") x dx ag wa vi ga cs r way (gathered cs r way h pat) kw kg ∧ keysS kw (gathered cs r way h pat).done ∧ keysI kg (gathered cs r way h pat).met) [] [] [] (ok_Gathering T) rfl hr (a_cons (v_var 0) (a_cons (v_var 1) (a_cons (v_var 2) (a_cons (v_var 3) (a_cons (v_var 4) a_nil))))) (fun x dx => ⟨_, ⟨x, dx, cs, r, way, h, pat, rfl, rfl, rfl, hc, hrule, hw, hp2, rfl⟩, fun d Mn z => ?_⟩) (fun p hp => nomatch hp)) A4 fun d M' σ3 H5 z A5 => ?_
    · obtain ⟨rfl, ag, wa, vi, ga, kw, kg, rfl, k1, k2⟩ := z
      exact ⟨rfl, x, dx, ag, wa, vi, ga, kw, kg, rfl, List.append_nil _, k1, k2⟩
    · obtain ⟨x, dx, ag, wa, vi, ga, kw, kg, rfl, rfl, k1, k2⟩ := z
      refine x_ret (v_tup (a_cons (v_tupN T.n_tuple rfl (l_sortDict (kvs := kg) 0 rfl T.n_sorted (v_fld 4 rfl hC T.a_Gathering_gathered (v_var 5)) k2 o.mn)) (a_cons (v_tupL (ds := (gathered cs r way h pat).visited.map natD) T.n_tuple rfl (v_fld 4 rfl hC T.a_Gathering_visited (v_var 5)) (.inr (List.mem_cons_of_mem _ List.mem_cons_self))) (a_cons (v_lenD 2 (kvs := kw) T.n_len (v_fld 4 rfl hC T.a_Gathering_walked (v_var 5))) a_nil)))) A5 fun v H' A' r => q _ _ _ _ v H' A' ?_
      rw [keysS_len k1] at r
      exact r
def reachD (cs : List Crd) (r h : Str) : D := .t ((sortI (gathered cs r ("broad" : Str) h 99).met).map D.i)
def R_reached : List D → D → Prop := fun ds d => ∃ (cs : List Crd) (r h : Str), ds = [dDrw cs, .s r, .s h] ∧ drwOk cs ∧ ruleOk r ∧ wordB h = true ∧ d = reachD cs r h
theorem ok_reached (T : Tx c mg) : FnAt P w c.K mg base "reached" 11 (spD c R_reached) := by
  refine T.d_reached.at_ fun f fd F => fnD F sc_reached (fun _ _ _ _ _ _ us hl => match us, hl with | [_, _, _], _ => rfl) (fun ds d h => ?_) 0 rfl fun cdv A0 outer s H0 E ds d σ hr h A Q q => ?_
  · obtain ⟨_, r, h, rfl, _⟩ := h
    rfl
  · obtain ⟨cs, r, h, rfl, hc, hrule, hw, rfl⟩ := h
    have hC := T.c_Gathering
    obtain ⟨j, o⟩ := gathered_ok (r := r) (way := ("broad" : Str)) (pat := 99) hc hw
    refine x_retE (e_tupL (Z2 := fun d M' => d = reachD cs r h) T.n_tuple rfl (e_sortDict (Z2 := fun d M' => ∃ l, d = .p l ∧ (l, Ob.lst ((sortI (gathered cs r ("broad" : Str) h 99).met).map D.i)) ∈ M') rfl T.n_sorted (e_fld (Z2 := fun d M' => ∃ ga kg, d = .p ga ∧ (ga, dicV kg) ∈ M' ∧ keysI kg (gathered cs r ("broad" : Str) h 99).met) rfl hC T.a_Gathering_gathered (e_make (Z2 := fun d M' => ∃ x dx ag wa vi ga kw kg, d = .p x ∧ M' = GM (He.ga c.K "Gathering") x dx ag wa vi ga cs r ("broad" : Str) (gathered cs r ("broad" : Str) h 99) kw kg ∧ keysS kw (gathered cs r ("broad" : Str) h 99).done ∧ keysI kg (gathered cs r ("broad" : Str) h 99).met) [] [] [] (ok_Gathering T) rfl hr (a_cons (v_var 0) (a_cons (v_var 1) (a_cons (v_glo T.k_BROAD) (a_cons (v_var 2) (a_cons (Pv.is (d' := natD 99) (v_glo T.k_MAX_PATIENCE) rfl) a_nil))))) (fun x dx => ⟨_, ⟨x, dx, cs, r, ("broad" : Str), h, 99, rfl, rfl, rfl, hc, hrule, hw, by decide, rfl⟩, fun d Mn z => ?_⟩) (fun p hp => nomatch hp)) fun d0 M1 z => ?_) fun d0 M1 z => ?_) fun d0 M1 z => ?_) A fun d M' v H' z A' i r => ?_
    · obtain ⟨rfl, ag, wa, vi, ga, kw, kg, rfl, k1, k2⟩ := z
      exact ⟨rfl, x, dx, ag, wa, vi, ga, kw, kg, rfl, List.append_nil _, k1, k2⟩
    · obtain ⟨x, dx, ag, wa, vi, ga, kw, kg, rfl, rfl, k1, k2⟩ := z
      exact ⟨x, dx, _, .p ga, rfl, List.mem_of_getElem? (i := 4) rfl, rfl, ga, kg, rfl, List.mem_cons_self, k2⟩
    · obtain ⟨ga, kg, rfl, hm, k2⟩ := z
      exact ⟨ga, kg, _, rfl, hm, k2, o.mn, fun l => ⟨l, rfl, List.mem_cons_self⟩⟩
    · obtain ⟨l, rfl, hm⟩ := z
      exact ⟨l, _, rfl, .inr hm, rfl⟩
    · subst z
      exact q _ _ _ _ v H' A' r
def R_reach : List D → D → Prop := R_reached
theorem ok_reach (T : Tx c mg) : FnAt P w c.K mg base "reach" 12 (spD c R_reached) := by
  refine T.d_reach.at_ fun f fd F => fnD F sc_reach (fun _ _ _ _ _ _ us hl => match us, hl with | [_, _, _], _ => rfl) (fun ds d h => ?_) 0 rfl fun cdv A0 outer s H0 E ds d σ hr h A Q q => ?_
  · obtain ⟨_, r, h, rfl, _⟩ := h
    rfl
  · obtain ⟨cs, r, h, rfl, hc, hrule, hw, rfl⟩ := h
    refine x_exp (v_call (ok_check_rule T) hr (a_cons (v_var 1) a_nil) ⟨r, rfl, hrule, rfl⟩).ev A fun d M' H1 z A1 => ?_
    obtain ⟨rfl, rfl⟩ := z
    refine x_exp (v_call (ok_check_heading T) hr (a_cons (v_var 2) a_nil) ⟨h, rfl, hw, rfl⟩).ev A1 fun d M' H2 z A2 => ?_
    obtain ⟨rfl, rfl⟩ := z
    exact x_ret (v_call (ok_reached T) hr (a_cons (v_var 0) (a_cons (v_var 1) (a_cons (v_var 2) a_nil))) ⟨cs, r, h, rfl, hc, hrule, hw, rfl⟩) A2 fun v H' A' r => q _ _ _ _ v H' A' r
end
end Sx
end
section
set_option maxRecDepth 100000
set_option maxHeartbeats 2000000
namespace Sx
open PySem PySem.Spec PyProof.Rows L2
/-! ### len(x) by x's own __len__ -/
theorem len_own {prog : Program} {w : World} {A : Around} {E : Value → Shared → Prop} {s : Shared} {K : PySem.W.Frag} {x C f : Addr} {ox : Obj} {odd : Option Obj} {Q : Value → Shared → Prop} (X : K.In s.heap) (I : PySem.W.InstAt s.heap x ox C odd) (hs : PySem.W.findIn K (.ref C) "__len__" = some (some (.ref f))) (hf : PySem.W.isFn K (.ref f) = true)
    (h : wpAny (model prog w) A.in1 (call (.ref f) [.ref x]) (fun r s₁ => ∃ (n : Nat) (u : Tok), r = Value.int (n : Int) u ∧ n < 100000 ∧ Q (.int (n : Int) s₁.toks) { s₁ with toks := s₁.toks + 1 }) E s) : wpAny (model prog w) A (call (.builtin "len") [.ref x]) Q E s := by
  refine Calls.call_function_entry kind_len plain_len entry_len (args_len1 _) ?_
  unfold Builtin.«len»
  refine wpAny_bind (m := oneArg "len" _) (wpAny_pure ?_)
  refine wpAny_bind (m := callSpecial? (.ref x) (PySem.Str.ofString "__len__")) (PySem.W.special_fn X I hs (beq_iff_eq.mp hf) (wpAny_mono h (fun r s1 hr => ?_) fun _ _ y => y))
  obtain ⟨n, u, rfl, hn, hq⟩ := hr
  refine wpAny_bind (wpAny_holding (wpAny_pure ?_))
  refine wpAny_bind (wpAny_letGo ?_)
  show wpAny _ _ (if ((n : Nat) : Int) < 0 then _ else _) _ _ _
  rw [if_neg (by omega)]
  show wpAny _ _ (if ((n : Nat) : Int) ≥ 2 ^ 63 then _ else _) _ _ _
  rw [if_neg (by omega)]
  exact wpAny_bind (wpAny_mkInt (wpAny_pure ⟨_, rfl, hq⟩))
section
variable {X : Cx} {c : Cs} {Fr : Hp} {G : List (V × D)} {M : Mm} {env : En} {a b e o : Expr} {es : List Expr} {pos p1 p2 : Pos} {d d0 : D} {ds : List D} {x : Str}
theorem cr_lenOwn {C g : Addr} {n : Nat} {sp : Sp} {E : XK} {CX : CXT} (hs : PySem.W.findIn X.K (.ref C) "__len__" = some (some (.ref g))) (hf : PySem.W.isFn X.K (.ref g) = true) (F : FnR X.prog X.w X.K X.mg X.base CX n g sp) (hr : Room (n + 1) X.A) (hx : Passes CX X E) :
    CallR X (.builtin "len") (fun xs H Q => ∃ a dx vs, xs = [V.ref a] ∧ SlX.Slt H a C dx vs ∧ sp [.ref a] H (fun z H' => ∃ n : Nat, z = .int (n : Int) ∧ n < 100000 ∧ Q z H') E) := by
  intro pins s σ H xs us Q I r h
  obtain ⟨a, dx, vs, rfl, hsl, q⟩ := h
  rw [Vals.ref1 r]
  obtain ⟨sl, od, _, J, _⟩ := SlX.slt_inst I hsl
  refine len_own I.kIn J hs hf (wpAny_mono (wpAny_call (SlX.run_at (us := [.ref a]) (ws := [.ref a]) F hr.in1 I.env0.in1 hx I (.cons rfl .nil) q)) (fun w s' z => ?_) fun _ _ x => x)
  obtain ⟨z', H', I', rz, i, ei, hi, qz⟩ := z
  subst ei
  obtain ⟨t, e⟩ := (show ∃ t, w = Value.int (i : Int) t from rz)
  subst e
  exact ⟨i, t, rfl, hi, .int (i : Int), H', I'.tok _, ⟨_, rfl⟩, qz⟩
theorem v_lenOwn {kb : Bool} {n j m : Nat} {R : List D → D → Prop} (hK : X.K = c.K) (F : MtAt X.prog X.w c X.mg X.base (c.cl kb) "__len__" n (spD c R)) (hr : Room j X.A) (hm : X.mg "len" = none) (he : Pv X c Fr G M env e (.sl kb d0)) (h : R [.sl kb d0] (natD m)) (hz : m < 100000) (hj : n + 1 ≤ j := by decide) (hg : Gl X "len" := by rfl) (hs : starEach (e :: []) X.env = (false, eval e X.env) :: starEach [] X.env := by rfl) (hpl : (backTo p2 (starEach [] X.env)).any (·.1) = false := by rfl) : Pv X c Fr G M env (.Call (.Name "len" p1) [e] [] p2) (natD m) := fun σ H A Q q => by
  obtain ⟨g, hM, F⟩ := F
  rw [← hK] at hM F
  refine (pe_callB (cr_lenOwn (E := fun _ _ _ => False) hM.at_ hM.fn F (hr.mono hj) (fun _ _ _ _ _ _ _ h => h.elim)) hg hm PySem.boot_len (pa_cons we pa_nil hs) (by decide) (by decide) hs hpl).w (he σ H A _ fun v H1 A1 i1 r => ?_)
  obtain ⟨a, dx, u, rfl, g1, g2⟩ := rp_sl.mp r
  exact ⟨a, dx, _, rfl, g1, [.sl kb d0], natD m, RpL.one r, h, fun v H2 e2 rv => ⟨m, rp_v.mp rv, hz, q v H2 (A1.ex e2) (i1.trans e2.im) rv⟩⟩
/-- x += e, texts -/
theorem x_augS {D0 : Ends} {σ : L2.St} {H : Hp} {rest : List Stmt} (i : Nat) (hN : X.N.Nodup) {a b : Str} (he : Pv X c Fr G M env e (.s b)) (A : At c Fr G M env σ H) (hz : a.length + b.length ≤ 100000) (k : ∀ σ' H', At c Fr G M (env.set i (some (.s (a ++ b)))) σ' H' → WB X rest D0 σ' H') (h : env[i]? = some (some (.s a)) := by rfl)
    (hi : X.N[i]? = some x := by rfl) (hx : Loc X.env.scope x := by first | exact Or.inl rfl | exact Or.inr rfl) (hf : X.fn x = true ∨ X.env.scope.names.lookup x = some .local := by first | exact .inl rfl | exact .inr rfl) : WB X (.AugAssign (.Name x p1) .Add e p2 :: rest) D0 σ H := by
  obtain ⟨v, hs, hr⟩ := A.sl i _ h
  exact x_cons ((ps_aug hN hi hx we (ti := rAddS) in_addS hf).w ⟨v, hs, he σ H A _ fun u H' A' i' r => ⟨a, b, rp_v.mp hr, rp_v.mp r, Nat.le_trans hz (by decide), k _ H' (A'.set (rp_v.mpr rfl))⟩⟩)
theorem rv_addS {a b : Str} (hz : a.length + b.length ≤ 100000) : RV2 c (fun x y H Q => ∃ i j, x = .str i ∧ y = .str j ∧ i.length + j.length ≤ sizeLine ∧ Q (.str (i ++ j)) H) (.s a) (.s b) (.s (a ++ b)) := fun H x y Q h1 h2 k => ⟨a, b, rp_v.mp h1, rp_v.mp h2, Nat.le_trans hz (by decide), k _ H (Ex.refl H) (rp_v.mpr rfl)⟩
/-- a text's method with arguments, no effect -/
theorem v_bmS {name : Str} {id : String} {r : V → List V → Hp → VK → Prop} {z : Str} (slot : Slot "str" name id) (hty : typeOf (.builtin id) = pure (.type "method_descriptor")) (hm : MtR X id r) (ho : Pv X c Fr G M env o (.s z)) (ha : Pa X c Fr G M env (e :: es) ds) (hr : ∀ (H : Hp) (xs : List V) (Q : VK), RpL c H ds xs → (∀ v H2, Ex H H2 → Rp c H2 d v → Q v H2) → r (.str z) xs H Q)
    (hbase : attributeBase o name X.env (eval o X.env) = eval o X.env := by rfl)
    (hfew : ((backTo p2 (starEach (e :: es) X.env)).all (fun x => !x.1) && (backToKw p2 (keywordEach [] X.env)).all (fun x => x.1.isSome)
      && decide ((e :: es).length + ([] : List Keyword).length + (if ([] : List Keyword).isEmpty then 0 else 1) < 30)) = true := by rfl)
    (hline : (p1.endLine == p2.line) = true := by rfl) (hs : starEach (e :: es) X.env = (false, eval e X.env) :: starEach es X.env := by rfl) (hplain : (backTo p2 (starEach es X.env)).any (·.1) = false := by rfl) : Pv X c Fr G M env (.Call (.Attribute o name p1) (e :: es) [] p2) d := fun σ H A Q q =>
  (pe_bm PySem.F.plainAttrs_str slot hty hm we wa hbase hfew hline hs hplain).w (ho σ H A _ fun v H1 A1 i1 r1 => by
    rw [rp_v.mp r1]
    exact ⟨rfl, ha σ H1 A1 _ fun xs H2 A2 i2 rs => hr H2 xs Q rs fun v H3 e3 rv => q v H3 (A2.ex e3) ((i1.trans i2).trans e3.im) rv⟩)
end
end Sx
end
section
set_option maxRecDepth 100000
set_option maxHeartbeats 1000000
namespace Sx
open PySem PySem.Spec PyProof.Rows L2
/-! ### strips, the code: in plain words -/
theorem str_len (a b : Str) : (a ++ b).length = a.length + b.length := by
  show (a.cps ++ b.cps).size = _
  rw [Array.size_append]
  rfl
def signF (r : Crd) : Str := if r.s ≠ ("" : Str) then (">" : Str) else if r.a ≠ [] then ("+" : Str) else ("." : Str)
theorem signF_len (r : Crd) : (signF r).length = 1 := by
  unfold signF
  split
  · rfl
  · split <;> rfl
def ckF (ns : List Int) : Int := ns.foldl (fun f v => (15 * f + v) % 233) 7
def wordI (z : Str) : List Int := (z.length : Int) :: z.cps.toList.map fun k => ((k - 97 : Nat) : Int) + 1
def cardI (r : Crd) : List Int := if r.s ≠ ("" : Str) then wordI r.h ++ (0 :: wordI r.s) else
  wordI r.h ++ [(r.b.length : Int) + 1] ++ r.b.flatMap (fun b => [b / 256, b % 256]) ++ [(r.a.length : Int)] ++ r.a.flatMap wordI
def drwI (cs : List Crd) : List Int := [97, (cs.length : Int)] ++ cs.flatMap cardI
def codeI (cs : List Crd) : List Int := drwI cs ++ [ckF (drwI cs)]
theorem ckF_range : ∀ (ns : List Int) (f : Int), 0 ≤ f → f < 233 → 0 ≤ ns.foldl (fun f v => (15 * f + v) % 233) f ∧ ns.foldl (fun f v => (15 * f + v) % 233) f < 233
  | [], f, h0, h1 => ⟨h0, h1⟩
  | v :: ns, f, h0, h1 => ckF_range ns _ (Int.emod_nonneg _ (by decide)) (Int.emod_lt_of_pos _ (by decide))
theorem ints_iv (l : List Int) : l.map D.i = (l.map V.int).map D.v := by rw [List.map_map]; rfl
theorem letters_pos : (letters.cps.toList.all fun k => decide ((Builtin.Str.occurrences letters ⟨#[k]⟩ 0 letters.length 1).head? = some (k - 97))) = true := by decide +kernel
section
variable {P : Program} {w : World} {c : Cs} {mg : Str → Option Value} {base : Heap}
def R_sign_of : List D → D → Prop := fun ds d => ∃ r : Crd, ds = [dCard r] ∧ r.Ok ∧ d = .s (signF r)
theorem ok_sign_of (T : Tx c mg) : FnAt P w c.K mg base "sign_of" 3 (spD c R_sign_of) := by
  refine T.d_sign_of.at_ fun f fd F => fnD F sc_sign_of (fun _ _ _ _ _ _ us hl => match us, hl with | [_], _ => rfl) (fun ds d h => ?_) 0 rfl fun cdv A0 outer s H0 E ds d σ hr h A Q q => ?_
  · obtain ⟨r, rfl, _⟩ := h
    rfl
  · obtain ⟨r, rfl, o, rfl⟩ := h
    unfold signF at q
    refine x_if (k := !decide (r.s = ("" : Str))) (t_val (v_prop (k := true) rfl (ok_leads T) T.s_Card hr (v_var 0) ⟨r, rfl, rfl⟩)) A (fun b H1 A1 => ?_) fun b H1 A1 => ?_
    · rw [if_pos (by simpa using b)] at q
      exact x_ret v_str A1 fun v H' A' r => q _ _ _ _ v H' A' r
    · rw [if_neg (by simpa using b)] at q
      refine x_nil (x_ret (v_if (k := !decide (r.a = [])) (d := .s (if r.a ≠ [] then ("+" : Str) else ("." : Str))) (Pt.is (t_cmp (op_neD hr.units) (v_prop (k := true) rfl (ok_also T) T.s_Card hr (v_var 0) ⟨r, rfl, rfl⟩) (v_tup a_nil) (rv_neD (py_strs r.a) py_none (sh_strs fun z hz => word_ok (o.a.2.2 z hz).1).ed sh_none.ed)) (by rw [show ([] : List PyData) = ([] : List Str).map PyData.str from rfl, eqv_strs])) (fun b => Pv.is v_str (by rw [if_pos (by simpa using b)])) fun b => Pv.is v_str (by rw [if_neg (by simpa using b)])) A1 fun v H' A' r => q _ _ _ _ v H' A' r)
def R_strip : List D → D → Prop := fun ds d => ∃ cs : List Crd, ds = [dDrw cs] ∧ drwOk cs ∧ ∃ z : Str, d = .s z ∧ cs.length ≤ z.length ∧ z.length ≤ 2 * cs.length
/-- the promise of a text, only its length told -/
def S_strip : List D → List (Addr × List D) → Mm → (D → Mm → Prop) → Prop := fun ds L M0 Z => ∃ cs : List Crd, ds = [dDrw cs] ∧ L = [] ∧ M0 = [] ∧ drwOk cs ∧ Z = fun d Mn => Mn = [] ∧ ∃ z : Str, d = .s z ∧ cs.length ≤ z.length ∧ z.length ≤ 2 * cs.length
theorem ok_strip (T : Tx c mg) : FnAt P w c.K mg base "strip" 4 (spM c S_strip) := by
  refine T.d_strip.at_ fun f fd F => fnM F sc_strip (fun _ _ _ _ _ _ us hl => match us, hl with | [_], _ => rfl) rfl (fun ds L M0 Z h => ?_) 3 rfl fun cdv A0 outer s H0 Fr E ds L M0 Z σ hr h hL A Q q => ?_
  · obtain ⟨cs, rfl, _⟩ := h
    rfl
  · obtain ⟨cs, rfl, rfl, rfl, hc, rfl⟩ := h
    refine x_tup (v_tup (a_cons v_str (a_cons v_str a_nil))) (g_tup rfl rfl (gs_cons (g_name 1 sc_strip.nd) (gs_cons (g_name 2 sc_strip.nd) gs_nil))) A fun σ1 H1 A1 => ?_
    refine x_for rfl PassesOwn.never (fun i M' env' => M' = [] ∧ ∃ (z l : Str) (o : Option D), env' = [some (dDrw cs), some (.s z), some (.s l), o] ∧ i ≤ z.length ∧ z.length ≤ 2 * i) (i_tup (ds := cs.map dCard) rfl (v_prop (k := false) rfl (ok_cards T) T.s_Drawer hr (v_var 0) ⟨cs, rfl, rfl⟩)) A1 ⟨rfl, _, _, _, rfl, Nat.zero_le _, Nat.le_refl _⟩ (fun i d M' env' Fr' Gx hd hI hE => ?_) (fun M' env' σ' H' hI A' => ?_)
    · obtain ⟨rfl, z, l, o, rfl, g1, g2⟩ := hI
      rw [List.getElem?_map] at hd
      obtain ⟨r, hr1, rfl⟩ := Option.map_eq_some_iff.mp hd
      have hi := (List.getElem?_eq_some_iff.mp hr1).1
      have or := hc.2 r (List.mem_of_getElem? hr1)
      have h16 := hc.1
      refine ⟨_, _, g_name 3 sc_strip.nd, fun σ2 H2 A2 => ?_⟩
      have sl := signF_len r
      have ml : ∀ b : Bool, (if b then ("!" : Str) else ("" : Str)).length ≤ 1 := fun b => by cases b <;> decide
      have ml2 := ml (ltS r.h l)
      have el : (signF r ++ (if ltS r.h l then ("!" : Str) else ("" : Str))).length = 1 + (if ltS r.h l then ("!" : Str) else ("" : Str)).length := by rw [str_len, sl]
      refine x_augS 1 sc_strip.nd (a := z) (b := signF r ++ (if ltS r.h l then ("!" : Str) else ("" : Str))) (v_op op_add_str (v_call (ok_sign_of T) hr (a_cons (v_var 3) a_nil) ⟨r, rfl, or, rfl⟩) (v_if (k := ltS r.h l) (t_cmp op_lt_str (v_prop (k := true) rfl (ok_heading T) T.s_Card hr (v_var 3) ⟨r, rfl, rfl⟩) (v_var 2) rv_ltS) (fun b => Pv.is v_str (by rw [if_pos b])) fun b => Pv.is v_str (by rw [if_neg (by rw [b]; decide)])) (rv_addS (by omega))) A2 (by omega) fun σ3 H3 A3 => ?_
      refine x_set 2 sc_strip.nd (v_prop (k := true) rfl (ok_heading T) T.s_Card hr (v_var 3) ⟨r, rfl, rfl⟩) A3 fun σ4 H4 A4 => x_nil ⟨[], _, ⟨rfl, _, _, _, rfl, ?_, ?_⟩, A4⟩
      · rw [str_len, el]
        omega
      · rw [str_len, el]
        omega
    · obtain ⟨rfl, z, l, o, rfl, g1, g2⟩ := hI
      rw [List.length_map] at g1 g2
      exact x_ret (v_var 1) A' fun v H' A' r => q _ _ _ _ _ v H' ⟨rfl, z, rfl, g1, g2⟩ A' r
def R_checksum : List D → List (Addr × List D) → D → Prop := fun ds L d => ∃ (a : Addr) (ns : List Int), ds = [.p a] ∧ L = [(a, ns.map D.i)] ∧ d = .i (ckF ns)
theorem ok_checksum (T : Tx c mg) : FnAt P w c.K mg base "checksum" 1 (spR c R_checksum) := by
  refine T.d_checksum.at_ fun f fd F => fnMR F sc_checksum (fun _ _ _ _ _ _ us hl => match us, hl with | [_], _ => rfl) (fun ds L d h => ?_) 2 rfl fun cdv A0 outer s H0 Fr E ds L d σ hr h hL A Q q => ?_
  · obtain ⟨a, ns, rfl, _⟩ := h
    rfl
  · obtain ⟨a, ns, rfl, rfl, rfl⟩ := h
    have hl := hL (a, ns.map D.i) List.mem_cons_self
    refine x_set 1 sc_checksum.nd (v_glo T.k_CHECK_START) A fun σ1 H1 A1 => ?_
    refine x_for rfl PassesOwn.never (fun i M' env' => M' = [] ∧ ∃ o : Option D, env' = [some (.p a), some (.i (ckF (ns.take i))), o]) (i_lst rfl (v_var 0) hl) A1 ⟨rfl, none, rfl⟩ (fun i d M' env' Fr' Gx hd hI hE => ?_) (fun M' env' σ' H' hI A' => ?_)
    · obtain ⟨rfl, o, rfl⟩ := hI
      rw [List.getElem?_map] at hd
      obtain ⟨v, hv, rfl⟩ := Option.map_eq_some_iff.mp hd
      have rg := ckF_range (ns.take i) 7 (by decide) (by decide)
      refine ⟨_, _, g_name 2 sc_checksum.nd, fun σ2 H2 A2 => ?_⟩
      refine x_set 1 sc_checksum.nd (d := .i ((15 * ckF (ns.take i) + v) % 233)) (v_op op_mod (v_cT (d := .i (15 * ckF (ns.take i) + v)) call_int1 boot_int T.n_int (a_cons (v_op op_add (v_op op_mul (v_glo T.k_CHECK_TIMES) (v_var 1) (rv_I (.inl ⟨by decide, by decide⟩))) (v_var 2) rv_I0) a_nil) (fun H xs Q r k => ?_)) (v_glo T.k_CHECK_REST) (rv_I (by decide))) A2 fun σ3 H3 A3 => x_nil ⟨[], _, ⟨rfl, some (.i v), ?_⟩, A3⟩
      · obtain ⟨u, r2, rfl, h1, h2⟩ := rpl_cons.mp r
        rw [rpl_nil.mp h2, rp_v.mp h1]
        exact .inl ⟨_, rfl, k _ H (Ex.refl H) (rp_v.mpr rfl)⟩
      · have : ckF (ns.take (i + 1)) = (15 * ckF (ns.take i) + v) % 233 := by
          unfold ckF
          rw [List.take_add_one, hv, List.foldl_append]
          rfl
        rw [this]
        rfl
    · obtain ⟨rfl, o, rfl⟩ := hI
      rw [List.length_map, List.take_length] at A'
      exact x_ret (v_var 1) A' fun v H' A' r => q _ _ _ _ v H' A' r
end
end Sx
end
section
set_option maxRecDepth 100000
set_option maxHeartbeats 1000000
namespace Sx
open PySem PySem.Spec PyProof.Rows L2
theorem x_retL {X : Cx} {c : Cs} {Fr : Hp} {G : List (V × D)} {M : Mm} {env : En} {e : Expr} {ds : List D} {pos : Pos} {D0 : Ends} {σ : L2.St} {H : Hp} {rest : List Stmt} (he : Pl X c Fr G M env e ds) (A : At c Fr G M env σ H) (k : ∀ l H', At c Fr G ((l, .lst ds) :: M) env σ H' → D0.rt (.ref l) H') : WB X (.Return (some e) pos :: rest) D0 σ H :=
  x_cons ((ps_ret we).w (he σ H A _ fun l H' A' _ => k l H' A'))
theorem flat_len {α β : Type} {f : α → List β} {n : Nat} : ∀ {l : List α}, (∀ x ∈ l, (f x).length ≤ n) → (l.flatMap f).length ≤ l.length * n
  | [], _ => by simp
  | x :: l, h => by
    rw [List.flatMap_cons, List.length_append, List.length_cons, Nat.succ_mul]
    have h1 := h x List.mem_cons_self
    have h2 := flat_len (l := l) fun y hy => h y (List.mem_cons_of_mem _ hy)
    omega
theorem flat_take {α β : Type} {f : α → List β} {l : List α} {i : Nat} {x : α} (h : l[i]? = some x) : (l.take (i + 1)).flatMap f = (l.take i).flatMap f ++ f x := by
  rw [List.take_add_one, h, List.flatMap_append]
  simp
theorem lst_snoc (l : Addr) (xs ys : List Int) : [(l, Ob.lst (xs.map D.i ++ ys.map D.i))] = [(l, Ob.lst ((xs ++ ys).map D.i))] := by rw [List.map_append]
theorem wordI_len (z : Str) : (wordI z).length = z.length + 1 := by
  unfold wordI
  rw [List.length_cons, List.length_map]
  rfl
theorem word_len9 {z : Str} (h : wordB z = true) : (wordI z).length ≤ 9 := by
  rw [wordI_len]
  have := (word_len h).2
  omega
theorem cardI_len {r : Crd} (o : r.Ok) : (cardI r).length ≤ 60 := by
  have h1 := word_len9 o.h
  unfold cardI
  split
  · rename_i q
    rcases o.s with h | ⟨_, _, h, _⟩
    · exact absurd h q
    · have := word_len9 h
      rw [List.length_append, List.length_cons]
      omega
  · have hb := o.b.1
    have ha := o.a.1
    have f1 : (r.b.flatMap fun b => [b / 256, b % 256]).length ≤ r.b.length * 2 := flat_len fun x _ => Nat.le_refl _
    have f2 : (r.a.flatMap wordI).length ≤ r.a.length * 9 := flat_len fun x hx => word_len9 (o.a.2.2 x hx).1
    simp only [List.length_append, List.length_cons, List.length_nil]
    omega
theorem drwI_len {cs : List Crd} (o : drwOk cs) : (drwI cs).length ≤ 1000 := by
  have f1 : (cs.flatMap cardI).length ≤ cs.length * 60 := flat_len fun x hx => cardI_len (o.2 x hx)
  have := o.1
  unfold drwI
  simp only [List.length_append, List.length_cons, List.length_nil]
  omega
section
variable {P : Program} {w : World} {c : Cs} {mg : Str → Option Value} {base : Heap}
def R_word_items : List D → List (Addr × List D) → List D → Prop := fun ds L ys => ∃ z : Str, ds = [.s z] ∧ L = [] ∧ wordB z = true ∧ ys = (wordI z).map D.i
theorem ok_word_items (T : Tx c mg) : FnAt P w c.K mg base "word_items" 1 (spL c R_word_items) := by
  refine T.d_word_items.at_ fun f fd F => fnML F sc_word_items (fun _ _ _ _ _ _ us hl => match us, hl with | [_], _ => rfl) (fun ds L d h => ?_) 1 rfl fun cdv A0 outer s H0 Fr E ds L ys σ hr h hL A Q q => ?_
  · obtain ⟨z, rfl, _⟩ := h
    rfl
  · obtain ⟨z, rfl, rfl, hz, rfl⟩ := h
    have hl := (word_len hz).2
    have hc : z.cps.toList.length = z.length := by simp [Str.length]
    refine x_retL (Pl.is (ds' := (wordI z).map D.i) (l_lst (a_cons (v_lenS T.n_len (v_var 0) (by omega)) (a_starN rfl (l_lc [("letter", 1)] z.cps.toList (fun k => .s ⟨#[k]⟩) (fun _ => true) (fun k => .i (((k - 97 : Nat) : Int) + 1)) rfl sc_word_items.nd (i_str (v_var 0)) (blkOk_by (N := N_word_items) (sc := defScope st_word_items) (by decide +kernel)) ?_ ?_) fun z => a_nil)) ?_) ?_) A fun l H' A' => q _ _ _ _ l H' A' List.mem_cons_self
    · omega
    · intro k hk acc Fr' Gx Dl e
      refine ⟨_, _, fun s H C cl fp => g_name 1 sc_word_items.nd, fun j hj => hj, fun s H C cl fp => n_nil, fun _ s H C cl fp => v_op op_add (v_bmS (d := .i ((k - 97 : Nat) : Int)) PySem.F.slot_str_index PySem.F.type_str_index mt_sindex (v_glo T.k_LETTERS) (a_cons (v_var 1) a_nil) fun H xs Q r q => ?_) v_int rv_I0⟩
      obtain ⟨u, r2, rfl, h1, h2⟩ := rpl_cons.mp r
      rw [rpl_nil.mp h2, rp_v.mp h1]
      have hk2 : k ∈ letters.cps.toList := by
        unfold wordB at hz
        rw [Bool.and_eq_true] at hz
        exact of_decide_eq_true (List.all_eq_true.mp hz.2 k hk)
      have hp := of_decide_eq_true (List.all_eq_true.mp letters_pos k hk2)
      obtain ⟨rest, hr⟩ := List.head?_eq_some_iff.mp hp
      exact ⟨letters, ⟨#[k]⟩, k - 97, rest, rfl, rfl, hr, q _ H (Ex.refl H) (rp_v.mpr rfl)⟩
    · rw [filter_yes]
      simp only [List.length_map, List.length_append, List.length_cons, List.length_nil]
      omega
    · rw [filter_yes, List.append_nil]
      unfold wordI
      rw [List.map_cons, List.map_map]
      rfl
def R_card_items : List D → List (Addr × List D) → List D → Prop := fun ds L ys => ∃ r : Crd, ds = [dCard r] ∧ L = [] ∧ r.Ok ∧ ys = (cardI r).map D.i
theorem ok_card_items (T : Tx c mg) : FnAt P w c.K mg base "card_items" 3 (spL c R_card_items) := by
  refine T.d_card_items.at_ fun f fd F => fnML F sc_card_items (fun _ _ _ _ _ _ us hl => match us, hl with | [_], _ => rfl) (fun ds L d h => ?_) 3 rfl fun cdv A0 outer s H0 Fr E ds L ys σ hr h hL A Q q => ?_
  · obtain ⟨r, rfl, _⟩ := h
    rfl
  · obtain ⟨r, rfl, rfl, o, rfl⟩ := h
    have h9 := word_len9 o.h
    refine x_setL 1 sc_card_items.nd (l_callL [] (ok_word_items T) hr (a_cons (v_prop (k := true) rfl (ok_heading T) T.s_Card hr (v_var 0) ⟨r, rfl, rfl⟩) a_nil) ⟨r.h, rfl, rfl, o.h, rfl⟩ (fun p hp => nomatch hp)) A fun l σ1 H1 A1 => ?_
    refine x_if (k := !decide (r.s = ("" : Str))) (t_val (v_prop (k := true) rfl (ok_leads T) T.s_Card hr (v_var 0) ⟨r, rfl, rfl⟩)) A1 (fun b H2 A2 => ?_) fun b H2 A2 => ?_
    · have q1 : r.s ≠ ("" : Str) := by simpa using b
      have os : wordB r.s = true := by
        rcases o.s with h | ⟨_, _, h, _⟩
        · exact absurd h q1
        · exact h
      have s9 := word_len9 os
      refine x_retL (Pl.is (l_lst (a_starL (ds := (wordI r.h).map D.i) rfl (v_var 1) (.inr List.mem_cons_self) (a_cons v_int (a_starN rfl (l_callL [] (ok_word_items T) hr (a_cons (v_prop (k := true) rfl (ok_see T) T.s_Card hr (v_var 0) ⟨r, rfl, rfl⟩) a_nil) ⟨r.s, rfl, rfl, os, rfl⟩ (fun p hp => nomatch hp)) fun z => a_nil))) ?_) ?_) A2 fun l H' A' => q _ _ _ _ l H' A' List.mem_cons_self
      · simp only [List.length_map, List.length_append, List.length_cons, List.length_nil]
        omega
      · unfold cardI
        rw [if_pos q1, List.map_append, List.map_cons, List.append_nil]
    · have q1 : ¬ r.s ≠ ("" : Str) := by simpa using b
      have hb := o.b.1
      have ha := o.a.1
      refine x_nil (x_app 0 (ds := (wordI r.h).map D.i) (d := .i ((r.b.length : Int) + 1)) rfl (v_var 1) (v_op op_add (Pv.is (v_lenT T.n_len rfl (v_prop (k := true) rfl (ok_books T) T.s_Card hr (v_var 0) ⟨r, rfl, rfl⟩)) (by rw [List.length_map])) v_int rv_I0) A2 (by rw [List.length_map]; omega) fun H3 A3 => ?_)
      refine x_for rfl PassesOwn.never (fun i M' env' => ∃ (o1 o2 : Option D), M' = [(l, .lst ((wordI r.h ++ [(r.b.length : Int) + 1] ++ (r.b.take i).flatMap fun b => [b / 256, b % 256]).map D.i))] ∧ env' = [some (dCard r), some (.p l), o1, o2]) (i_tup rfl (v_prop (k := true) rfl (ok_books T) T.s_Card hr (v_var 0) ⟨r, rfl, rfl⟩)) A3 ⟨none, none, by simp, rfl⟩ (fun i d M' env' Fr' Gx hd hI hE => ?_) (fun M' env' σ' H' hI A' => ?_)
      · obtain ⟨o1, o2, rfl, rfl⟩ := hI
        rw [List.getElem?_map] at hd
        obtain ⟨v, hv, rfl⟩ := Option.map_eq_some_iff.mp hd
        refine ⟨_, _, g_name 2 sc_card_items.nd, fun σ4 H4 A4 => ?_⟩
        have f1 : ((r.b.take i).flatMap fun b => [b / 256, b % 256]).length ≤ (r.b.take i).length * 2 := flat_len fun x _ => Nat.le_refl _
        have f3 : (r.b.take i).length ≤ r.b.length := by rw [List.length_take]; omega
        refine x_extL 0 (ds := (wordI r.h ++ [(r.b.length : Int) + 1] ++ (r.b.take i).flatMap fun b => [b / 256, b % 256]).map D.i) (es := [v / 256, v % 256].map D.i) rfl (v_var 1) (l_lst (a_cons (v_op op_fdiv (v_var 2) (v_glo T.k_BASE) (rv_I ⟨by decide, by decide⟩)) (a_cons (v_op op_mod (v_cT (d := .i v) call_int1 boot_int T.n_int (a_cons (v_var 2) a_nil) (fun H xs Q r k => ?_)) (v_glo T.k_BASE) (rv_I (by decide))) a_nil))) A4 (by simp only [List.length_map, List.length_append, List.length_cons, List.length_nil]; omega) fun H5 A5 => x_nil ⟨_, _, ⟨_, _, ?_, rfl⟩, A5⟩
        · obtain ⟨u, r2, rfl, h1, h2⟩ := rpl_cons.mp r
          rw [rpl_nil.mp h2, rp_v.mp h1]
          exact .inl ⟨_, rfl, k _ H (Ex.refl H) (rp_v.mpr rfl)⟩
        · rw [flat_take hv, ← List.append_assoc]
          exact lst_snoc l _ _
      · obtain ⟨o1, o2, rfl, rfl⟩ := hI
        rw [List.length_map, List.take_length] at A'
        have f1 : (r.b.flatMap fun b => [b / 256, b % 256]).length ≤ r.b.length * 2 := flat_len fun x _ => Nat.le_refl _
        refine x_app 0 (ds := (wordI r.h ++ [(r.b.length : Int) + 1] ++ r.b.flatMap fun b => [b / 256, b % 256]).map D.i) (d := .i (r.a.length : Int)) rfl (v_var 1) (Pv.is (v_lenT T.n_len rfl (v_prop (k := true) rfl (ok_also T) T.s_Card hr (v_var 0) ⟨r, rfl, rfl⟩)) (by rw [List.length_map])) A' (by simp only [List.length_map, List.length_append, List.length_cons, List.length_nil]; omega) fun H5 A5 => ?_
        refine x_for rfl PassesOwn.never (fun i M' env' => ∃ (o1 o2 : Option D), M' = [(l, .lst ((wordI r.h ++ [(r.b.length : Int) + 1] ++ r.b.flatMap (fun b => [b / 256, b % 256]) ++ [(r.a.length : Int)] ++ (r.a.take i).flatMap wordI).map D.i))] ∧ env' = [some (dCard r), some (.p l), o1, o2]) (i_tup rfl (v_prop (k := true) rfl (ok_also T) T.s_Card hr (v_var 0) ⟨r, rfl, rfl⟩)) A5 ⟨o1, o2, by simp, rfl⟩ (fun i d M' env' Fr' Gx hd hI hE => ?_) (fun M' env' σ' H' hI A' => ?_)
        · obtain ⟨o1, o2, rfl, rfl⟩ := hI
          rw [List.getElem?_map] at hd
          obtain ⟨v, hv, rfl⟩ := Option.map_eq_some_iff.mp hd
          have wv := (o.a.2.2 v (List.mem_of_getElem? hv)).1
          have v9 := word_len9 wv
          refine ⟨_, _, g_name 3 sc_card_items.nd, fun σ4 H4 A4 => ?_⟩
          have f2 : ((r.a.take i).flatMap wordI).length ≤ (r.a.take i).length * 9 := flat_len fun x hx => word_len9 (o.a.2.2 x (List.mem_of_mem_take hx)).1
          have f3 : (r.a.take i).length ≤ r.a.length := by rw [List.length_take]; omega
          refine x_extL 0 (ds := (wordI r.h ++ [(r.b.length : Int) + 1] ++ r.b.flatMap (fun b => [b / 256, b % 256]) ++ [(r.a.length : Int)] ++ (r.a.take i).flatMap wordI).map D.i) (es := (wordI v).map D.i) rfl (v_var 1) (l_callL [] (ok_word_items T) hr (a_cons (v_var 3) a_nil) ⟨v, rfl, rfl, wv, rfl⟩ (fun p hp => nomatch hp)) A4 (by simp only [List.length_map, List.length_append, List.length_cons, List.length_nil]; omega) fun H5 A5 => x_nil ⟨_, _, ⟨_, _, ?_, rfl⟩, A5⟩
          rw [flat_take hv, ← List.append_assoc]
          exact lst_snoc l _ _
        · obtain ⟨o1, o2, rfl, rfl⟩ := hI
          rw [List.length_map, List.take_length] at A'
          refine x_ret (v_var 1) A' fun v H' A' rr => ?_
          rw [rp_v.mp rr]
          refine q _ _ _ _ l H' A' ?_
          unfold cardI
          rw [if_neg q1]
          exact List.mem_cons_self
def R_encode_drawer : List D → List (Addr × List D) → List D → Prop := fun ds L ys => ∃ cs : List Crd, ds = [dDrw cs] ∧ L = [] ∧ drwOk cs ∧ ys = (codeI cs).map D.i
theorem ok_encode_drawer (T : Tx c mg) : FnAt P w c.K mg base "encode_drawer" 4 (spL c R_encode_drawer) := by
  refine T.d_encode_drawer.at_ fun f fd F => fnML F sc_encode_drawer (fun _ _ _ _ _ _ us hl => match us, hl with | [_], _ => rfl) (fun ds L d h => ?_) 2 rfl fun cdv A0 outer s H0 Fr E ds L ys σ hr h hL A Q q => ?_
  · obtain ⟨r, rfl, _⟩ := h
    rfl
  · obtain ⟨cs, rfl, rfl, o, rfl⟩ := h
    have h16 := o.1
    have hlen := drwI_len o
    refine x_setL 1 sc_encode_drawer.nd (l_lst (a_cons (v_glo T.k_FIRST) (a_cons (v_lenOwn (kb := false) (m := cs.length) rfl (ok_len T) hr T.n_len (v_var 0) ⟨cs, rfl, rfl⟩ (by omega)) a_nil))) A fun l σ1 H1 A1 => ?_
    refine x_for rfl PassesOwn.never (fun i M' env' => ∃ (o1 : Option D), M' = [(l, .lst (([97, (cs.length : Int)] ++ (cs.take i).flatMap cardI).map D.i))] ∧ env' = [some (dDrw cs), some (.p l), o1]) (i_tup (ds := cs.map dCard) rfl (v_prop (k := false) rfl (ok_cards T) T.s_Drawer hr (v_var 0) ⟨cs, rfl, rfl⟩)) A1 ⟨none, by simp; rfl, rfl⟩ (fun i d M' env' Fr' Gx hd hI hE => ?_) (fun M' env' σ' H' hI A' => ?_)
    · obtain ⟨o1, rfl, rfl⟩ := hI
      rw [List.getElem?_map] at hd
      obtain ⟨r, hv, rfl⟩ := Option.map_eq_some_iff.mp hd
      have or := o.2 r (List.mem_of_getElem? hv)
      have r60 := cardI_len or
      have f1 : ((cs.take i).flatMap cardI).length ≤ (cs.take i).length * 60 := flat_len fun x hx => cardI_len (o.2 x (List.mem_of_mem_take hx))
      have f3 : (cs.take i).length ≤ cs.length := by rw [List.length_take]; omega
      refine ⟨_, _, g_name 2 sc_encode_drawer.nd, fun σ4 H4 A4 => ?_⟩
      refine x_extL 0 (ds := ([97, (cs.length : Int)] ++ (cs.take i).flatMap cardI).map D.i) (es := (cardI r).map D.i) rfl (v_var 1) (l_callL [] (ok_card_items T) hr (a_cons (v_var 2) a_nil) ⟨r, rfl, rfl, or, rfl⟩ (fun p hp => nomatch hp)) A4 (by simp only [List.length_map, List.length_append, List.length_cons, List.length_nil]; omega) fun H5 A5 => x_nil ⟨_, _, ⟨_, ?_, rfl⟩, A5⟩
      rw [flat_take hv, ← List.append_assoc]
      exact lst_snoc l _ _
    · obtain ⟨o1, rfl, rfl⟩ := hI
      rw [List.length_map, List.take_length] at A'
      have e0 : [97, (cs.length : Int)] ++ cs.flatMap cardI = drwI cs := rfl
      rw [e0] at A'
      refine x_retL (Pl.is (l_lst (a_starL (ds := (drwI cs).map D.i) rfl (v_var 1) (.inr List.mem_cons_self) (a_cons (v_callR [(l, (drwI cs).map D.i)] (ok_checksum T) hr (a_cons (v_var 1) a_nil) ⟨l, drwI cs, rfl, rfl, rfl⟩ (fun p hp => by
        rw [List.mem_singleton.mp hp]
        exact .inr List.mem_cons_self)) a_nil)) ?_) ?_) A' fun l H' A' => q _ _ _ _ l H' A' List.mem_cons_self
      · simp only [List.length_map, List.length_append, List.length_cons, List.length_nil]
        omega
      · unfold codeI
        rw [List.map_append]
        rfl
end
end Sx
end
section
set_option maxRecDepth 100000
set_option maxHeartbeats 1000000
namespace Sx
open PySem PySem.Spec PyProof.Rows L2
/-! ### rules with effects -/
section
variable {X : Cx} {c : Cs} {Fr : Hp} {G : List (V × D)} {M : Mm} {env : En} {a b e o : Expr} {es : List Expr} {pos p1 p2 : Pos} {d da : D} {ds : List D} {x : Str}
theorem e_op1 {op : Operator} {r : R2} {Z0 Z2 : D → Mm → Prop} (ho : OpR X (binaryOp op) r) (ha : Ev X c Fr G M env a Z0) (h : ∀ d M1, Z0 d M1 → ∃ db d', Pv X c Fr G M1 env b db ∧ RV2 c r d db d' ∧ Z2 d' M1) : Ev X c Fr G M env (.BinOp a op b pos) Z2 := fun σ H A k =>
  fun q => (pe_op ho we we).w (ha σ H A _ fun d M1 x H1 z A1 i1 rx => by
    obtain ⟨db, d', hb, hr, z2⟩ := h d M1 z
    exact hb σ H1 A1 _ fun y H2 A2 i2 ry => hr H2 x y k (rx.im i2) ry fun z H3 e3 rz => q d' M1 z H3 z2 (A2.ex e3) ((i1.trans i2).trans e3.im) rz)
theorem e_op2 {op : Operator} {r : R2} {Z0 Z2 : D → Mm → Prop} (ho : OpR X (binaryOp op) r) (ha : Pv X c Fr G M env a da) (hb : Ev X c Fr G M env b Z0) (h : ∀ d M1, Z0 d M1 → ∃ d', RV2 c r da d d' ∧ Z2 d' M1) : Ev X c Fr G M env (.BinOp a op b pos) Z2 := fun σ H A k q =>
  (pe_op ho we we).w (ha σ H A _ fun x H1 A1 i1 rx => hb σ H1 A1 _ fun d M1 y H2 z A2 i2 ry => by
    obtain ⟨d', hr, z2⟩ := h d M1 z
    exact hr H2 x y k (rx.im i2) ry fun z H3 e3 rz => q d' M1 z H3 z2 (A2.ex e3) ((i1.trans i2).trans e3.im) rz)
/-- a sign of a text, the place behind an effect -/
theorem e_ixS {z : Str} {Z0 Z2 : D → Mm → Prop} (ha : Pv X c Fr G M env a (.s z)) (hb : Ev X c Fr G M env b Z0) (hz : z.length ≤ 100000) (h : ∀ d M1, Z0 d M1 → ∃ n k, d = .i n ∧ atI z.cps.toList n = some k ∧ Z2 (.s ⟨#[k]⟩) M1) (hs : PlainIx b := by exact fun _ _ => rfl) : Ev X c Fr G M env (.Subscript a b pos) Z2 := fun σ H A Q q =>
  (pe_ix ix_str we we hs).w (ha σ H A _ fun v H1 A1 i1 r => hb σ H1 A1 _ fun d M1 u H2 zz A2 i2 r2 => by
    obtain ⟨n, k, rfl, hk, z2⟩ := h d M1 zz
    exact ⟨z, n, k, rp_v.mp r, rp_v.mp r2, Nat.le_trans hz (by decide), hk, q _ M1 _ H2 z2 A2 (i1.trans i2) (rp_v.mpr rfl)⟩)
/-- s.join(e), e a list behind an effect -/
theorem e_join {z : Str} {Z0 Z2 : D → Mm → Prop} (ho : Pv X c Fr G M env o (.s z)) (he : Ev X c Fr G M env e Z0) (h : ∀ d M1, Z0 d M1 → ∃ l ys, d = .p l ∧ LsOf c Fr M1 l (ys.map D.s) ∧ (ys.map (·.length)).sum + ys.length * z.length ≤ 100000 ∧ Z2 (.s (Txt.join z ys)) M1)
    (hbase : attributeBase o "join" X.env (eval o X.env) = eval o X.env := by rfl)
    (hfew : ((backTo p2 (starEach (e :: []) X.env)).all (fun x => !x.1) && (backToKw p2 (keywordEach [] X.env)).all (fun x => x.1.isSome)
      && decide ((e :: ([] : List Expr)).length + ([] : List Keyword).length + (if ([] : List Keyword).isEmpty then 0 else 1) < 30)) = true := by rfl)
    (hline : (p1.endLine == p2.line) = true := by rfl) (hs : starEach (e :: []) X.env = (false, eval e X.env) :: starEach [] X.env := by rfl) (hplain : (backTo p2 (starEach [] X.env)).any (·.1) = false := by rfl) : Ev X c Fr G M env (.Call (.Attribute o "join" p1) [e] [] p2) Z2 := fun σ H A Q q =>
  (pe_bm PySem.F.plainAttrs_str PySem.F.slot_str_join PySem.F.type_str_join mt_join we (pa_cons we pa_nil hs) hbase hfew hline hs hplain).w (ho σ H A _ fun v H1 A1 i1 r1 => by
    rw [rp_v.mp r1]
    refine ⟨rfl, he σ H1 A1 _ fun d M1 u H2 zz A2 i2 r2 => ?_⟩
    obtain ⟨l, ys, rfl, hl, hz, z2⟩ := h d M1 zz
    obtain ⟨vs, h1, h2⟩ := A2.ls hl
    have e1 : ys.map D.s = (ys.map V.str).map D.v := by rw [List.map_map]; rfl
    rw [e1] at h2
    rw [h2.vmap_eq] at h1
    exact ⟨z, l, ys, rfl, by rw [rp_v.mp r2], .inl (.inl h1), Nat.le_trans hz (by decide), q _ M1 _ H2 z2 A2 (i1.trans i2) (rp_v.mpr rfl)⟩)
/-- a def that reads the one list it is given, just made: its answer a value -/
theorem v_callRN {k j : Nat} {R : List D → List (Addr × List D) → D → Prop} (F : FnAt X.prog X.w X.K X.mg X.base x k (spR c R)) (hr : Room j X.A) (he : Pl X c Fr G M env e ds) (h : ∀ l, R [.p l] [(l, ds)] d) (hk : k ≤ j := by decide) (hg : Gl X x := by rfl) (hdb : (x == ("__debug__" : Str)) = false := by decide)
    (hst : starEach (e :: []) X.env = (false, eval e X.env) :: starEach [] X.env := by rfl) (hpl : (backTo p2 (starEach [] X.env)).any (·.1) = false := by rfl) : Pv X c Fr G M env (.Call (.Name x p1) [e] [] p2) d := fun σ H A Q q => by
  obtain ⟨f, hm, hkp, F⟩ := F
  exact (pe_callR (E := fun _ _ _ => False) F (hr.mono hk) hg hm hkp (pa_cons we pa_nil hst) hdb hst hpl).w (he σ H A _ fun l H1 A1 i1 => A1.takes (E := fun _ _ _ => False) (L := [(l, ds)]) (M0 := []) (List.Perm.refl _) (RpL.one (rp_v.mpr rfl)) ⟨rfl, d, h l, rfl⟩ (fun p hp => by
    rw [List.mem_singleton.mp hp]
    exact .inr List.mem_cons_self) fun d' Mn v H2 z A2 i2 rv => by
    obtain ⟨rfl, rfl⟩ := z
    exact q v H2 (At.drop1 A2) (i1.trans i2) rv)
end
/-! ### comprehensions over what comes behind an effect -/
def Pe (X : Cx) (c : Cs) (Fr : Hp) (G : List (V × D)) (M : Mm) (env : En) (tg iter : Expr) (Z : List D → Mm → Prop) : Prop :=
  ∀ (σ : L2.St) (H : Hp), At c Fr G M env σ H → ∀ R : It → Hp → Prop,
    (∀ (ds : List D) (M1 : Mm) (J : It) (Fr' : Hp) (Gx : List (V × D)) (H2 : Hp), Z ds M1 → Ex Fr Fr' → At c Fr' (Gx ++ G) M1 env σ H2 → IM H H2 →
      Walk J ds.length (fun H' => Ex Fr' H' ∧ ∀ p ∈ Gx, Rp c H' p.2 p.1) (fun i H x H' => Ex H H' ∧ ∀ d, ds[i]? = some d → Rp c H' d x) → R J H2) → WI X tg iter σ H R
section
variable {X : Cx} {c : Cs} {Fr : Hp} {G : List (V × D)} {M : Mm} {env : En} {tg e iter elt : Expr} {ifs : List Expr} {scope : Scope} {own : List (Str × Nat)} {pos p1 p2 : Pos}
theorem Pi.pe {ds : List D} (h : Pi X c Fr G M env tg iter ds) : Pe X c Fr G M env tg iter (fun ds' M' => ds' = ds ∧ M' = M) := fun σ H A R k => h σ H A R fun J Fr' Gx H2 e1 A2 i2 w => k ds M J Fr' Gx H2 ⟨rfl, rfl⟩ e1 A2 i2 w
theorem i_rngE {Z0 : D → Mm → Prop} {Z2 : List D → Mm → Prop} (hm : X.mg "range" = none) (h : Ev X c Fr G M env e Z0) (hz : ∀ d M1, Z0 d M1 → ∃ n : Nat, d = natD n ∧ n ≤ 100000 ∧ Z2 ((List.range n).map natD) M1) (hg : Gl X "range" := by rfl) (hs : starEach [e] X.env = [(false, eval e X.env)] := by rfl) (hs2 : starEach (e :: []) X.env = (false, eval e X.env) :: starEach [] X.env := by rfl) : Pe X c Fr G M env tg (.Call (.Name "range" p1) [e] [] p2) Z2 := fun σ H A R k =>
  (pi_range1 hg hm (pa_cons we pa_nil hs2) hs).w (h σ H A _ fun d M1 v H1 z A1 i1 r => by
    obtain ⟨n, rfl, hn, z2⟩ := hz d M1 z
    rw [rp_v.mp r]
    refine ⟨(n : Int), rfl, by omega, by omega, k _ M1 _ Fr [] H1 z2 (Ex.refl _) A1 i1 ?_⟩
    have e1 : ((n : Int)).toNat = n := by omega
    rw [e1, List.length_map, List.length_range]
    refine ⟨fun i _ hi _ => hi, fun _ _ => Nat.le_refl _, fun i H' y H'' hi q z => ?_⟩
    obtain ⟨z1, z2⟩ := z
    subst z1
    refine ⟨Ex.refl _, fun d hd => ?_⟩
    rw [List.getElem?_map, List.getElem?_range hi] at hd
    cases hd
    rw [z2]
    exact rp_v.mpr (by simp))
theorem lcE_core (own : List (Str × Nat)) (Zi : List D → Mm → Prop) (I : List D → Nat → Mm → List D → Prop) (hc : X.calm = true) (hN : X.N.Nodup) (hi : Pe X c Fr G M env tg iter Zi) (ok : BlkOk X.N X.env.scope scope own) (h0 : ∀ ds M1, Zi ds M1 → I ds 0 M1 [] ∧ ds.length ≤ 100000)
    (hl : ∀ ds i M' acc, i ≤ ds.length → I ds i M' acc → acc.length ≤ i)
    (hb : ∀ (ds : List D) (i : Nat) (d : D) M' acc Fr' Gx Dl, ds[i]? = some d → I ds i M' acc → Ex Fr Fr' → ∃ env2 js b, (∀ (s : Shared) (H : Hp) (C : Addr) (cl : List (Str × Addr)) (fp : List Addr), Pg (X.blk s H scope (compEnvC scope cl C X.env) fp) c tg d (wipeE env (own.map (·.2))) env2 js) ∧ (∀ j ∈ js, j ∈ own.map (·.2)) ∧
      (∀ (s : Shared) (H : Hp) (C : Addr) (cl : List (Str × Addr)) (fp : List Addr), Pn (X.blk s H scope (compEnvC scope cl C X.env) fp) c Fr' (Gx ++ G) ((Dl, .lst acc) :: M') env2 ifs b) ∧
      (b = true → ∀ (s : Shared) (H : Hp) (C : Addr) (cl : List (Str × Addr)) (fp : List Addr), Ev (X.blk s H scope (compEnvC scope cl C X.env) fp) c Fr' (Gx ++ G) ((Dl, .lst acc) :: M') env2 elt (fun d' M2 => ∃ M3, M2 = (Dl, .lst acc) :: M3 ∧ I ds (i + 1) M3 (acc ++ [d']))) ∧ (b = false → I ds (i + 1) M' acc))
    (σ : L2.St) (H : Hp) (A : At c Fr G M env σ H) (Q : VK) (q : ∀ d M' v H2, (∃ ds l M2 acc, d = D.p l ∧ M' = (l, Ob.lst acc) :: M2 ∧ I ds ds.length M2 acc) → At c Fr G M' env σ H2 → IM H H2 → Rp c H2 d v → Q v H2) :
    tLc (WI X tg iter) (KG X scope tg) (KT X scope ifs) (KE X scope elt) (own.map (·.2)) σ H Q := by
  refine hi σ H A _ fun ds M1 J Fr' Gx H2 zi e1 A2 i2 w Dl hD => ?_
  obtain ⟨h0, hz⟩ := h0 ds M1 zi
  have B0 : At c Fr' (Gx ++ G) ((Dl, .lst []) :: M1) env σ (upd H2 Dl (.lst [])) := A2.new hD (Ex.new hD) ⟨[], upd_same, rpl_nil.mpr rfl⟩
  have same : ∀ vs : List Nat, wipe (wipe σ vs) vs = wipe σ vs := by
    have a1 : ∀ (us : List Nat) (v : Nat) (τ : L2.St), v ∈ us → wipe (τ.set v none) us = wipe τ us := fun us v τ h => wipe_set h
    have a2 : ∀ (vs us : List Nat) (τ : L2.St), (∀ v ∈ vs, v ∈ us) → wipe (wipe τ vs) us = wipe τ us := by
      intro vs
      induction vs with
      | nil => intro us τ _; rfl
      | cons v vs ih =>
        intro us τ h
        show wipe ((wipe τ vs).set v none) us = _
        rw [a1 us v _ (h v List.mem_cons_self), ih us τ fun u hu => h u (List.mem_cons_of_mem _ hu)]
    exact fun vs => a2 vs vs σ fun _ h => h
  refine lc_it w (g := KG X scope tg) (tt := KT X scope ifs) (te := KE X scope elt) (vs := own.map (·.2)) (σ := σ) (Qd := fun H => Q (.ref Dl) H) (fun i H' => ∃ M' acc, I ds i M' acc ∧ At c Fr' (Gx ++ G) ((Dl, .lst acc) :: M') env σ H' ∧ IM H H') ⟨M1, [], h0, B0, i2.trans (IM.new hD)⟩ (fun i H' _ ⟨M', acc, _, B, _⟩ => ⟨B.fr, fun p hp => B.gh p (List.mem_append_left _ hp)⟩) (fun i y H' H'' hlt ⟨M', acc, z, B, im⟩ ⟨e2, r⟩ => ?_) (fun H' ⟨M', acc, z, B, im⟩ => ?_)
  · have hd2 : ds[i]? = some ds[i] := by simp [hlt]
    obtain ⟨env2, js, b, hg, hj, hn, he, hf⟩ := hb ds i ds[i] M' acc Fr' Gx Dl hd2 z e1
    have hlen := hl ds i M' acc (Nat.le_of_lt hlt) z
    intro s H0 C cl fp
    refine hg s H0 C cl fp Fr' (Gx ++ G) _ _ H'' y ((B.ex e2).wiped (own.map (·.2))) (r _ hd2) _ fun σ2 B2 w2 => ⟨(w2 _ hj).trans (same _), fun s H0 C cl fp => ?_⟩
    have un : ∀ (M'' : Mm) (acc' : List D) (H3 : Hp), IM H' H3 → At c Fr' (Gx ++ G) ((Dl, .lst acc') :: M'') env2 σ2 H3 → At c Fr' (Gx ++ G) ((Dl, .lst acc') :: M'') env σ H3 := fun M'' acc' H3 i3 B3 =>
      ⟨B3.fr, B3.gh, B3.ob, B3.nd, fun j d h => let ⟨v, h1, h2⟩ := B.sl j d h; ⟨v, h1, h2.im i3⟩, A2.ln⟩
    refine hn s H0 C cl fp σ2 H'' B2 _ fun H3 B3 i3 => ?_
    cases b with
    | false => exact iteF ⟨M', acc, hf rfl, un _ _ _ (e2.im.trans i3) B3, (im.trans e2.im).trans i3⟩
    | true =>
      refine iteT fun s H0 C cl fp => he rfl s H0 C cl fp σ2 H3 B3 _ fun d' M2 v H4 ⟨M3, e3, z3⟩ B4 i4 rv => ?_
      subst e3
      obtain ⟨fD, vs, h1, h2⟩ := B4.ob (Dl, .lst acc) List.mem_cons_self
      have i5 : IM H4 (upd H4 Dl (.lst (vs ++ [v]))) := IM.upd h1 rfl
      refine ⟨vs, h1, by rw [h2.len]; exact Nat.lt_of_le_of_lt hlen (Nat.lt_of_lt_of_le hlt (Nat.le_trans hz (by decide))), M3, acc ++ [d'], z3, un _ _ _ (((e2.im.trans i3).trans i4).trans i5) ?_, (((im.trans e2.im).trans i3).trans i4).trans i5⟩
      exact B4.mut ⟨_, upd_same, (h2.app (RpL.one rv)).im i5⟩
  · exact q (.p Dl) _ (.ref Dl) H' ⟨ds, Dl, M', acc, rfl, rfl, z⟩ ⟨e1.trans B.fr, fun p hp => B.gh p (List.mem_append_right _ hp), fun p hp => ⟨e1.back (B.ob p hp).1, (B.ob p hp).2⟩, B.nd, B.sl, B.ln⟩ im (rp_v.mpr rfl)
theorem e_lcE (own : List (Str × Nat)) (Zi : List D → Mm → Prop) (I : List D → Nat → Mm → List D → Prop) (hc : X.calm = true) (hN : X.N.Nodup) (hi : Pe X c Fr G M env tg iter Zi) (ok : BlkOk X.N X.env.scope scope own) (h0 : ∀ ds M1, Zi ds M1 → I ds 0 M1 [] ∧ ds.length ≤ 100000)
    (hl : ∀ ds i M' acc, i ≤ ds.length → I ds i M' acc → acc.length ≤ i)
    (hb : ∀ (ds : List D) (i : Nat) (d : D) M' acc Fr' Gx Dl, ds[i]? = some d → I ds i M' acc → Ex Fr Fr' → ∃ env2 js b, (∀ (s : Shared) (H : Hp) (C : Addr) (cl : List (Str × Addr)) (fp : List Addr), Pg (X.blk s H scope (compEnvC scope cl C X.env) fp) c tg d (wipeE env (own.map (·.2))) env2 js) ∧ (∀ j ∈ js, j ∈ own.map (·.2)) ∧
      (∀ (s : Shared) (H : Hp) (C : Addr) (cl : List (Str × Addr)) (fp : List Addr), Pn (X.blk s H scope (compEnvC scope cl C X.env) fp) c Fr' (Gx ++ G) ((Dl, .lst acc) :: M') env2 ifs b) ∧
      (b = true → ∀ (s : Shared) (H : Hp) (C : Addr) (cl : List (Str × Addr)) (fp : List Addr), Ev (X.blk s H scope (compEnvC scope cl C X.env) fp) c Fr' (Gx ++ G) ((Dl, .lst acc) :: M') env2 elt (fun d' M2 => ∃ M3, M2 = (Dl, .lst acc) :: M3 ∧ I ds (i + 1) M3 (acc ++ [d']))) ∧ (b = false → I ds (i + 1) M' acc))
    (hs : ∀ x, foldedSetIterable iter X.env x = pure x := by intro _; rfl) :
    Ev X c Fr G M env (.ListComp elt [⟨tg, iter, ifs, 0⟩] scope pos) (fun d M' => ∃ ds l M2 acc, d = .p l ∧ M' = (l, .lst acc) :: M2 ∧ I ds ds.length M2 acc) := fun σ H A Q q =>
  (pe_lc (wi := WI X tg iter) (g := KG X scope tg) (tt := KT X scope ifs) (te := KE X scope elt) hc hN wi ok (fun s H0 C cl fp => ⟨fun pins s' σ H v u Q I r h => h s H0 C cl fp pins s' u I r⟩) (fun s H0 C cl fp => ⟨fun pins s' σ H Q I h => h s H0 C cl fp pins s' I⟩) (fun s H0 C cl fp => ⟨fun pins s' σ H Q I h => h s H0 C cl fp pins s' I⟩) hs).w (lcE_core own Zi I hc hN hi ok h0 hl hb σ H A Q q)
/-- x = [..] on one line -/
theorem x_setLcE {D0 : Ends} {σ : L2.St} {H : Hp} {rest : List Stmt} {x : Str} {spos : Pos} (n : Nat) (own : List (Str × Nat)) (Zi : List D → Mm → Prop) (I : List D → Nat → Mm → List D → Prop) (hc : X.calm = true) (hN : X.N.Nodup) (hi : Pe X c Fr G M env tg iter Zi) (ok : BlkOk X.N X.env.scope scope own) (h0 : ∀ ds M1, Zi ds M1 → I ds 0 M1 [] ∧ ds.length ≤ 100000)
    (hl : ∀ ds i M' acc, i ≤ ds.length → I ds i M' acc → acc.length ≤ i)
    (hb : ∀ (ds : List D) (i : Nat) (d : D) M' acc Fr' Gx Dl, ds[i]? = some d → I ds i M' acc → Ex Fr Fr' → ∃ env2 js b, (∀ (s : Shared) (H : Hp) (C : Addr) (cl : List (Str × Addr)) (fp : List Addr), Pg (X.blk s H scope (compEnvC scope cl C X.env) fp) c tg d (wipeE env (own.map (·.2))) env2 js) ∧ (∀ j ∈ js, j ∈ own.map (·.2)) ∧
      (∀ (s : Shared) (H : Hp) (C : Addr) (cl : List (Str × Addr)) (fp : List Addr), Pn (X.blk s H scope (compEnvC scope cl C X.env) fp) c Fr' (Gx ++ G) ((Dl, .lst acc) :: M') env2 ifs b) ∧
      (b = true → ∀ (s : Shared) (H : Hp) (C : Addr) (cl : List (Str × Addr)) (fp : List Addr), Ev (X.blk s H scope (compEnvC scope cl C X.env) fp) c Fr' (Gx ++ G) ((Dl, .lst acc) :: M') env2 elt (fun d' M2 => ∃ M3, M2 = (Dl, .lst acc) :: M3 ∧ I ds (i + 1) M3 (acc ++ [d']))) ∧ (b = false → I ds (i + 1) M' acc))
    (A : At c Fr G M env σ H) (k : ∀ ds l M2 acc σ' H', I ds ds.length M2 acc → At c Fr G ((l, .lst acc) :: M2) (env.set n (some (.p l))) σ' H' → WB X rest D0 σ' H') (hx : X.N[n]? = some x := by rfl) (hxl : X.env.scope.names.lookup x = some .local := by rfl) (hsw : swapsWith (.ListComp elt [⟨tg, iter, ifs, 0⟩] scope pos) (some (.Name x p1)) spos.line X.env = pure true := by rfl)
    (hs : ∀ x, foldedSetIterable iter X.env x = pure x := by intro _; rfl) : WB X (.Assign [.Name x p1] (.ListComp elt [⟨tg, iter, ifs, 0⟩] scope pos) spos :: rest) D0 σ H :=
  x_cons ((ps_setLc (wi := WI X tg iter) (g := KG X scope tg) (tt := KT X scope ifs) (te := KE X scope elt) hc hN hx hxl hsw wi ok (fun s H0 C cl fp => ⟨fun pins s' σ H v u Q I r h => h s H0 C cl fp pins s' u I r⟩) (fun s H0 C cl fp => ⟨fun pins s' σ H Q I h => h s H0 C cl fp pins s' I⟩) (fun s H0 C cl fp => ⟨fun pins s' σ H Q I h => h s H0 C cl fp pins s' I⟩) hs).w (lcE_core own Zi I hc hN hi ok h0 hl hb σ H A _ fun d M' v H2 z A2 i2 r => by
    obtain ⟨ds, l, M2, acc, rfl, rfl, z⟩ := z
    exact k ds l M2 acc _ H2 z (A2.set r)))
/-- x = [..] on one line, without effects -/
theorem x_setLc {D0 : Ends} {σ : L2.St} {H : Hp} {rest : List Stmt} {x : Str} {spos : Pos} {α : Type} (n : Nat) (own : List (Str × Nat)) (xs : List α) (g : α → D) (tst : α → Bool) (val : α → D) (hc : X.calm = true) (hN : X.N.Nodup) (hi : Pi X c Fr G M env tg iter (xs.map g)) (ok : BlkOk X.N X.env.scope scope own) (hz : xs.length ≤ 100000)
    (hb : ∀ x ∈ xs, ∀ (acc : List D) Fr' Gx Dl, Ex Fr Fr' → ∃ env2 js, (∀ (s : Shared) (H : Hp) (C : Addr) (cl : List (Str × Addr)) (fp : List Addr), Pg (X.blk s H scope (compEnvC scope cl C X.env) fp) c tg (g x) (wipeE env (own.map (·.2))) env2 js) ∧ (∀ j ∈ js, j ∈ own.map (·.2)) ∧
      (∀ (s : Shared) (H : Hp) (C : Addr) (cl : List (Str × Addr)) (fp : List Addr), Pn (X.blk s H scope (compEnvC scope cl C X.env) fp) c Fr' (Gx ++ G) ((Dl, .lst acc) :: M) env2 ifs (tst x)) ∧
      (tst x = true → ∀ (s : Shared) (H : Hp) (C : Addr) (cl : List (Str × Addr)) (fp : List Addr), Pv (X.blk s H scope (compEnvC scope cl C X.env) fp) c Fr' (Gx ++ G) ((Dl, .lst acc) :: M) env2 elt (val x)))
    (A : At c Fr G M env σ H) (k : ∀ l σ' H', At c Fr G ((l, .lst ((xs.filter tst).map val)) :: M) (env.set n (some (.p l))) σ' H' → WB X rest D0 σ' H') (hx : X.N[n]? = some x := by rfl) (hxl : X.env.scope.names.lookup x = some .local := by rfl) (hsw : swapsWith (.ListComp elt [⟨tg, iter, ifs, 0⟩] scope pos) (some (.Name x p1)) spos.line X.env = pure true := by rfl)
    (hs : ∀ x, foldedSetIterable iter X.env x = pure x := by intro _; rfl) : WB X (.Assign [.Name x p1] (.ListComp elt [⟨tg, iter, ifs, 0⟩] scope pos) spos :: rest) D0 σ H := by
  refine x_setLcE n own (fun ds M1 => ds = xs.map g ∧ M1 = M) (fun ds i M' acc => ds = xs.map g ∧ M' = M ∧ acc = ((xs.take i).filter tst).map val) hc hN hi.pe ok (fun ds M1 h => ?_) (fun ds i M' acc hi h => ?_) (fun ds i d M' acc Fr' Gx Dl hd h e => ?_) A (fun ds l M2 acc σ' H' z A' => ?_) hx hxl hsw hs
  · obtain ⟨rfl, rfl⟩ := h
    exact ⟨⟨rfl, rfl, rfl⟩, by rw [List.length_map]; exact hz⟩
  · obtain ⟨rfl, rfl, rfl⟩ := h
    rw [List.length_map]
    refine Nat.le_trans (List.length_filter_le _ _) ?_
    rw [List.length_take]
    omega
  · obtain ⟨rfl, rfl, rfl⟩ := h
    rw [List.getElem?_map] at hd
    obtain ⟨x, hx, rfl⟩ := Option.map_eq_some_iff.mp hd
    obtain ⟨env2, js, h1, h2, h3, h4⟩ := hb x (List.mem_of_getElem? hx) _ Fr' Gx Dl e
    have ht : xs.take (i + 1) = xs.take i ++ [x] := by
      rw [List.take_add_one, hx]
      rfl
    refine ⟨env2, js, tst x, h1, h2, h3, fun hb s H7 C cl fp => ?_, fun hb => ⟨rfl, rfl, ?_⟩⟩
    · refine fun σ H A Q q => h4 hb s H7 C cl fp σ H A Q fun v H2 A2 i r => q _ _ v H2 ⟨_, rfl, rfl, rfl, ?_⟩ A2 i r
      rw [ht, List.filter_append, List.map_append, List.filter_cons, if_pos hb]
      rfl
    · rw [ht, List.filter_append, List.map_append, List.filter_cons, if_neg (by rw [hb]; decide)]
      simp
  · obtain ⟨rfl, rfl, rfl⟩ := z
    have e : xs.take ((xs.map g).length) = xs := by rw [List.length_map, List.take_length]
    rw [e] at A'
    exact k l σ' H' A'
end
end Sx
end
section
set_option maxRecDepth 100000
set_option maxHeartbeats 1000000
namespace Sx
open PySem PySem.Spec PyProof.Rows L2
theorem drop_cons {α : Type} {ns rest : List α} {k : Nat} {v : α} (h : ns.drop k = v :: rest) : ns[k]? = some v ∧ ns.drop (k + 1) = rest := by
  constructor
  · have := congrArg (fun l => l[0]?) h
    simpa using this
  · have := congrArg (List.drop 1) h
    rw [List.drop_drop] at this
    exact this
theorem drop_app {α : Type} {ns l rest : List α} {k : Nat} (h : ns.drop k = l ++ rest) : ns.drop (k + l.length) = rest := by
  rw [← List.drop_drop, h, List.drop_left]
theorem drop_mid {α : Type} {ns l rest : List α} {k i : Nat} {v : α} (h : ns.drop k = l ++ rest) (hi : l[i]? = some v) : ns[k + i]? = some v := by
  have h2 := (List.getElem?_eq_some_iff.mp hi).1
  rw [← List.getElem?_drop, h, List.getElem?_append_left h2]
  exact hi
theorem letters_at : (letters.cps.toList.all fun k => decide (letters.cps.toList[k - 97]? = some k) && (decide (97 ≤ k) && decide (k ≤ 122))) = true := by decide +kernel
theorem letter_at {z : Str} (h : wordB z = true) {k : Nat} (hk : k ∈ z.cps.toList) : letters.cps.toList[k - 97]? = some k ∧ 97 ≤ k ∧ k ≤ 122 := by
  unfold wordB at h
  rw [Bool.and_eq_true] at h
  have h2 := of_decide_eq_true (List.all_eq_true.mp h.2 k hk)
  have h3 := List.all_eq_true.mp letters_at k h2
  simp only [Bool.and_eq_true, decide_eq_true_eq] at h3
  exact ⟨h3.1, h3.2.1, h3.2.2⟩
theorem join_signs (z : Str) : Txt.join ("" : Str) (z.cps.toList.map fun k => (⟨#[k]⟩ : Str)) = z := by
  refine str_ext ?_
  rw [TL.join_eq]
  show TL.tl _ = _
  rw [TL.tl_join, List.map_map]
  have : ∀ l : List Nat, TL.joinL (TL.tl ("" : Str)) (l.map (TL.tl ∘ fun k => (⟨#[k]⟩ : Str))) = l := by
    intro l
    induction l with
    | nil => rfl
    | cons k l ih =>
      cases l with
      | nil => rfl
      | cons k2 l2 =>
        have e : TL.joinL (TL.tl ("" : Str)) ((k :: k2 :: l2).map (TL.tl ∘ fun k => (⟨#[k]⟩ : Str))) = [k] ++ (TL.tl ("" : Str) ++ TL.joinL (TL.tl ("" : Str)) ((k2 :: l2).map (TL.tl ∘ fun k => (⟨#[k]⟩ : Str)))) := rfl
        rw [e, ih]
        rfl
  exact this _
/-- a reader's object -/
def RM (C x dx a : Addr) (k : Nat) : Mm := [(x, .ins C dx [("data", .p a), ("spot", natD k)])]
section
variable {P : Program} {w : World} {c : Cs} {mg : Str → Option Value} {base : Heap}
def S_Reader (C : Addr) : List D → List (Addr × List D) → Mm → (D → Mm → Prop) → Prop := fun ds L M0 Z => ∃ (x dx a : Addr), ds = [.p x, .p a] ∧ L = [] ∧ M0 = [(x, .ins C dx [])] ∧ Z = fun d Mn => d = .n ∧ Mn = RM C x dx a 0
theorem ok_Reader (T : Tx c mg) : MkAt P w c mg base (He.ga c.K "Reader") "Reader" 1 (spM c (S_Reader (He.ga c.K "Reader"))) := by
  obtain ⟨g, fd, dvs, Mk0, hd, F⟩ := T.d_Reader_init
  have e0 : dvs = [] := List.eq_nil_of_length_eq_zero hd
  subst e0
  refine ⟨g, T.g_Reader, Mk0, fnM F sc_Reader_init (fun _ _ _ _ _ _ us hl => match us, hl with | [_, _], _ => rfl) rfl (fun ds L M0 Z h => ?_) 0 rfl fun cdv A0 outer s H0 Fr E ds L M0 Z σ hr h hL A Q q => ?_⟩
  · obtain ⟨x, dx, a, rfl, _⟩ := h
    rfl
  · obtain ⟨x, dx, a, rfl, rfl, rfl, rfl⟩ := h
    have hC := T.c_Reader
    refine x_fld 0 rfl hC T.a_Reader_data (v_var 1) (v_var 0) A fun H1 A1 => ?_
    refine x_fld 0 rfl hC T.a_Reader_spot v_int (v_var 0) A1 fun H2 A2 => ?_
    exact x_nil (q _ _ _ _ _ _ H2 ⟨rfl, rfl⟩ A2 (rp_v.mpr rfl))
def S_item (C : Addr) : List D → List (Addr × List D) → Mm → (D → Mm → Prop) → Prop := fun ds L M0 Z => ∃ (x dx a : Addr) (lo hi v : Int) (ns : List Int) (k : Nat), ds = [.p x, .i lo, .i hi] ∧ L = [(a, ns.map D.i)] ∧ M0 = RM C x dx a k ∧ ns[k]? = some v ∧ lo ≤ v ∧ v ≤ hi ∧ Z = fun d Mn => d = .i v ∧ Mn = RM C x dx a (k + 1)
theorem ok_item (T : Tx c mg) : MtAt P w c mg base (He.ga c.K "Reader") "item" 2 (spM c (S_item (He.ga c.K "Reader"))) := by
  refine T.d_Reader_item.at_ fun f fd F => fnM F sc_Reader_item (fun _ _ _ _ _ _ us hl => match us, hl with | [_, _, _], _ => rfl) rfl (fun ds L M0 Z h => ?_) 0 rfl fun cdv A0 outer s H0 Fr E ds L M0 Z σ hr h hL A Q q => ?_
  · obtain ⟨x, dx, a, lo, hi, v, ns, k, rfl, _⟩ := h
    rfl
  · obtain ⟨x, dx, a, lo, hi, v, ns, k, rfl, rfl, rfl, hk, h1, h2, rfl⟩ := h
    have hC := T.c_Reader
    have hl := hL (a, ns.map D.i) List.mem_cons_self
    have hlt := (List.getElem?_eq_some_iff.mp hk).1
    have hkd : (ns.map D.i)[k]? = some (D.i v) := by rw [List.getElem?_map, hk]; rfl
    refine x_if (k := false) (o_t (o_or (k := false) (Pt.is (t_cmp op_ge (v_fld 0 rfl hC T.a_Reader_spot (v_var 0)) (v_lenL T.n_len rfl (v_fld 0 rfl hC T.a_Reader_data (v_var 0)) (.inl hl)) rv_I0) (decide_eq_false (by simp; omega))) fun _ => o_or1 (t_not (k := true) (t_val (Pv.is (v_call (ok_is_number T) hr (a_cons (v_ixL (d := .i v) rfl (v_fld 0 rfl hC T.a_Reader_data (v_var 0)) (.inl hl) (v_fld 0 rfl hC T.a_Reader_spot (v_var 0)) (atI_nat hkd)) (a_cons (v_var 1) (a_cons (v_var 2) a_nil))) ⟨v, lo, hi, rfl, rfl⟩) (by rw [decide_eq_true h1, decide_eq_true h2]; rfl)))))) A (fun h => nomatch h) fun _ H1 A1 => x_nil ?_
    refine x_fldaug 0 rfl hC T.a_Reader_spot (v_var 0) v_int A1 fun H2 A2 => ?_
    refine x_ret (v_ixL (d := .i v) (n := (k : Int)) rfl (v_fld 0 rfl hC T.a_Reader_data (v_var 0)) (.inl hl) (Pv.is (v_op op_sub (v_fld 0 rfl hC T.a_Reader_spot (v_var 0)) v_int rv_I0) (by congr 2; omega)) (atI_nat hkd)) A2 fun v H' A' r => q _ _ _ _ _ v H' ⟨rfl, ?_⟩ A' r
    rfl
def S_read_word (C : Addr) : List D → List (Addr × List D) → Mm → (D → Mm → Prop) → Prop := fun ds L M0 Z => ∃ (x dx a : Addr) (ns rest : List Int) (k : Nat) (z : Str), ds = [.p x] ∧ L = [(a, ns.map D.i)] ∧ M0 = RM C x dx a k ∧ ns.drop k = wordI z ++ rest ∧ wordB z = true ∧ Z = fun d Mn => d = .s z ∧ Mn = RM C x dx a (k + (z.length + 1))
theorem ok_read_word (T : Tx c mg) : MtAt P w c mg base (He.ga c.K "Reader") "read_word" 3 (spM c (S_read_word (He.ga c.K "Reader"))) := by
  refine T.d_Reader_read_word.at_ fun f fd F => fnM F sc_Reader_read_word (fun _ _ _ _ _ _ us hl => match us, hl with | [_], _ => rfl) rfl (fun ds L M0 Z h => ?_) 2 rfl fun cdv A0 outer s H0 Fr E ds L M0 Z σ hr h hL A Q q => ?_
  · obtain ⟨x, dx, a, ns, rest, k, z, rfl, _⟩ := h
    rfl
  · obtain ⟨x, dx, a, ns, rest, k, z, rfl, rfl, rfl, hd, hz, rfl⟩ := h
    have hC := T.c_Reader
    have hl := hL (a, ns.map D.i) List.mem_cons_self
    have wl := word_len hz
    have hcl : z.cps.toList.length = z.length := by simp [Str.length]
    have hd0 := drop_cons (show ns.drop k = (z.length : Int) :: (z.cps.toList.map (fun k => ((k - 97 : Nat) : Int) + 1) ++ rest) from hd)
    refine x_setE 1 sc_Reader_read_word.nd (Z := fun d M2 => d = natD z.length ∧ M2 = RM (He.ga c.K "Reader") x dx a (k + 1)) (e_methI 0 [(a, ns.map D.i)] (RM (He.ga c.K "Reader") x dx a k) [] rfl hC (ok_item T) hr (v_var 0) (a_cons v_int (a_cons (v_glo T.k_MAX_LETTERS) a_nil)) ⟨x, dx, a, 1, 8, (z.length : Int), ns, k, rfl, rfl, rfl, hd0.1, by omega, by omega, rfl⟩ (fun p hp => by
      rw [List.mem_singleton.mp hp]
      exact .inl hl) (fun d Mn z => by
      rw [List.append_nil]
      exact z)) A fun d M2 σ1 H1 zz A1 => ?_
    obtain ⟨rfl, rfl⟩ := zz
    refine x_retE (e_join (z := ("" : Str)) (Z2 := fun d M' => d = .s z ∧ ∃ l0 o0, M' = (l0, o0) :: RM (He.ga c.K "Reader") x dx a (k + (z.length + 1))) v_str (e_lcE [("turn", 2)] (fun ds M1 => ds = (List.range z.length).map natD ∧ M1 = RM (He.ga c.K "Reader") x dx a (k + 1)) (fun ds i M' acc => ds = (List.range z.length).map natD ∧ M' = RM (He.ga c.K "Reader") x dx a (k + 1 + i) ∧ acc = (z.cps.toList.take i).map fun k => D.s ⟨#[k]⟩) rfl sc_Reader_read_word.nd (i_rngE T.n_range (Pv.ev (v_var 1)) (fun d M1 zz => ?_)) (blkOk_by (N := N_Reader_read_word) (sc := defScope st_Reader_read_word) (by decide +kernel)) (fun ds M1 zz => ?_) (fun ds i M' acc hi zz => ?_) (fun ds i d M' acc Fr' Gx Dl hdi zz e => ?_)) fun d M1 zz => ?_) A1 fun d M' v H' zz A' i r => ?_
    · obtain ⟨rfl, rfl⟩ := zz
      exact ⟨z.length, rfl, by omega, rfl, rfl⟩
    · obtain ⟨rfl, rfl⟩ := zz
      exact ⟨⟨rfl, rfl, by simp⟩, by simp; omega⟩
    · obtain ⟨rfl, rfl, rfl⟩ := zz
      rw [List.length_map, List.length_take]
      omega
    · obtain ⟨rfl, rfl, rfl⟩ := zz
      rw [List.getElem?_map] at hdi
      obtain ⟨j, hj, rfl⟩ := Option.map_eq_some_iff.mp hdi
      have hi : i < z.length := by
        have := (List.getElem?_eq_some_iff.mp hj).1
        simpa using this
      have hi2 : i < z.cps.toList.length := by omega
      have la := letter_at hz (List.getElem_mem hi2)
      have hit : ns[k + 1 + i]? = some (((z.cps.toList[i] - 97 : Nat) : Int) + 1) := by
        have := drop_mid (i := i) (v := ((z.cps.toList[i] - 97 : Nat) : Int) + 1) hd0.2 (by rw [List.getElem?_map, List.getElem?_eq_getElem hi2]; rfl)
        exact this
      refine ⟨_, _, true, fun s H C cl fp => g_name 2 sc_Reader_read_word.nd, fun j hj => hj, fun s H C cl fp => n_nil, fun _ s H C cl fp => ?_, fun h => nomatch h⟩
      refine e_ixS (z := letters) (Z0 := fun d M2 => d = .i ((z.cps.toList[i] - 97 : Nat) : Int) ∧ M2 = (Dl, Ob.lst ((z.cps.toList.take i).map fun k => D.s ⟨#[k]⟩)) :: RM (He.ga c.K "Reader") x dx a (k + 1 + i + 1)) (v_glo T.k_LETTERS) (e_op1 (Z0 := fun d M2 => d = .i (((z.cps.toList[i] - 97 : Nat) : Int) + 1) ∧ M2 = (Dl, Ob.lst ((z.cps.toList.take i).map fun k => D.s ⟨#[k]⟩)) :: RM (He.ga c.K "Reader") x dx a (k + 1 + i + 1)) op_sub (Ev.imp (e_methI 1 [(a, ns.map D.i)] (RM (He.ga c.K "Reader") x dx a (k + 1 + i)) [(Dl, Ob.lst ((z.cps.toList.take i).map fun k => D.s ⟨#[k]⟩))] (Z2 := fun d M2 => d = .i (((z.cps.toList[i] - 97 : Nat) : Int) + 1) ∧ M2 = RM (He.ga c.K "Reader") x dx a (k + 1 + i + 1) ++ [(Dl, Ob.lst ((z.cps.toList.take i).map fun k => D.s ⟨#[k]⟩))]) rfl hC (ok_item T) hr (v_var 0) (a_cons v_int (a_cons (v_lenS T.n_len (v_glo T.k_LETTERS) (by decide)) a_nil)) ⟨x, dx, a, 1, 26, _, ns, k + 1 + i, rfl, rfl, rfl, hit, by omega, by omega, rfl⟩ (fun p hp => by
        rw [List.mem_singleton.mp hp]
        exact .inl (hl.ex e)) (fun d Mn z => ⟨z.1, by rw [z.2]⟩) (hp := List.Perm.swap _ _ _)) fun d M2 z2 => ⟨(Dl, Ob.lst ((z.cps.toList.take i).map fun k => D.s ⟨#[k]⟩)) :: RM (He.ga c.K "Reader") x dx a (k + 1 + i + 1), z2.2 ▸ List.Perm.swap _ _ _, z2.1, rfl⟩) fun d M2 z2 => ?_) (by decide) fun d M2 z2 => ?_
      · obtain ⟨rfl, rfl⟩ := z2
        exact ⟨_, _, v_int, rv_I0, by congr 2; omega, rfl⟩
      · obtain ⟨rfl, rfl⟩ := z2
        refine ⟨_, z.cps.toList[i], rfl, atI_nat la.1, _, rfl, rfl, rfl, ?_⟩
        rw [List.take_add_one, List.getElem?_eq_getElem hi2, List.map_append]
        rfl
    · obtain ⟨ds, l, M2, acc, rfl, rfl, rfl, rfl, rfl⟩ := zz
      have e1 : ((List.range z.length).map natD).length = z.length := by simp
      rw [e1, List.take_of_length_le (by omega)]
      refine ⟨l, z.cps.toList.map fun k => (⟨#[k]⟩ : Str), rfl, .inr (by rw [List.map_map]; exact List.mem_cons_self), ?_, by rw [join_signs], l, _, by rw [show k + 1 + z.length = k + (z.length + 1) by omega]⟩
      have : ∀ l : List Nat, ((l.map fun k => (⟨#[k]⟩ : Str)).map (·.length)).sum = l.length := by
        intro l
        induction l with
        | nil => rfl
        | cons k l ih =>
          simp only [List.map_cons, List.sum_cons, List.length_cons, ih]
          show 1 + _ = _
          omega
      rw [this]
      have z0 : (("" : Str)).length = 0 := rfl
      rw [z0]
      omega
    · obtain ⟨rfl, l0, o0, rfl⟩ := zz
      exact q _ _ _ _ _ v H' ⟨rfl, rfl⟩ A'.drop1 r
end
end Sx
end
section
set_option maxRecDepth 100000
set_option maxHeartbeats 1000000
namespace Sx
open PySem PySem.Spec PyProof.Rows L2
section
variable {P : Program} {w : World} {c : Cs} {mg : Str → Option Value} {base : Heap}
def S_read_book (C : Addr) : List D → List (Addr × List D) → Mm → (D → Mm → Prop) → Prop := fun ds L M0 Z => ∃ (x dx a : Addr) (ns rest : List Int) (k : Nat) (last b : Int), ds = [.p x, .i last] ∧ L = [(a, ns.map D.i)] ∧ M0 = RM C x dx a k ∧ ns.drop k = (b / 256) :: (b % 256) :: rest ∧ last < b ∧ 0 ≤ b ∧ b ≤ 999 ∧ Z = fun d Mn => d = .i b ∧ Mn = RM C x dx a (k + 2)
theorem ok_read_book (T : Tx c mg) : MtAt P w c mg base (He.ga c.K "Reader") "read_book" 3 (spM c (S_read_book (He.ga c.K "Reader"))) := by
  refine T.d_Reader_read_book.at_ fun f fd F => fnM F sc_Reader_read_book (fun _ _ _ _ _ _ us hl => match us, hl with | [_, _], _ => rfl) rfl (fun ds L M0 Z h => ?_) 3 rfl fun cdv A0 outer s H0 Fr E ds L M0 Z σ hr h hL A Q q => ?_
  · obtain ⟨x, dx, a, ns, rest, k, last, b, rfl, _⟩ := h
    rfl
  · obtain ⟨x, dx, a, ns, rest, k, last, b, rfl, rfl, rfl, hd, h1, h0, h2, rfl⟩ := h
    have hC := T.c_Reader
    have hl := hL (a, ns.map D.i) List.mem_cons_self
    have d1 := drop_cons hd
    have d2 := drop_cons d1.2
    refine x_set 2 sc_Reader_read_book.nd (v_fld 0 rfl hC T.a_Reader_spot (v_var 0)) A fun σ1 H1 A1 => ?_
    refine x_setE 3 sc_Reader_read_book.nd (Z := fun d M2 => d = .i (b / 256) ∧ M2 = RM (He.ga c.K "Reader") x dx a (k + 1)) (e_methI 0 [(a, ns.map D.i)] (RM (He.ga c.K "Reader") x dx a k) [] rfl hC (ok_item T) hr (v_var 0) (a_cons v_int (a_cons (v_op op_fdiv (v_glo T.k_MAX_BOOK) (v_glo T.k_BASE) (rv_I ⟨by decide, by decide⟩)) a_nil)) ⟨x, dx, a, 0, 999 / 256, b / 256, ns, k, rfl, rfl, rfl, d1.1, by omega, by omega, rfl⟩ (fun p hp => by
      rw [List.mem_singleton.mp hp]
      exact .inl hl) (fun d Mn z => by
      rw [List.append_nil]
      exact z)) A1 fun d M2 σ2 H2 zz A2 => ?_
    obtain ⟨rfl, rfl⟩ := zz
    refine x_setE 4 sc_Reader_read_book.nd (Z := fun d M2 => d = .i b ∧ M2 = RM (He.ga c.K "Reader") x dx a (k + 2)) (e_op2 (Z0 := fun d M2 => d = .i (b % 256) ∧ M2 = RM (He.ga c.K "Reader") x dx a (k + 2)) op_add (v_op op_mul (v_glo T.k_BASE) (v_var 3) (rv_I (.inl ⟨by decide, by decide⟩))) (e_methI 0 [(a, ns.map D.i)] (RM (He.ga c.K "Reader") x dx a (k + 1)) [] rfl hC (ok_item T) hr (v_var 0) (a_cons v_int (a_cons (v_op op_sub (v_glo T.k_BASE) v_int rv_I0) a_nil)) ⟨x, dx, a, 0, 256 - 1, b % 256, ns, k + 1, rfl, rfl, rfl, d2.1, by omega, by omega, rfl⟩ (fun p hp => by
      rw [List.mem_singleton.mp hp]
      exact .inl hl) (fun d Mn z => by
      rw [List.append_nil]
      exact z)) fun d M2 zz => ?_) A2 fun d M2 σ3 H3 zz A3 => ?_
    · obtain ⟨rfl, rfl⟩ := zz
      exact ⟨_, rv_I0, by congr 2; omega, rfl⟩
    · obtain ⟨rfl, rfl⟩ := zz
      refine x_if (k := false) (Pt.is (t_not (t_chain op_lt op_le (v_var 1) (v_var 4) (v_glo T.k_MAX_BOOK) rv_I0 rv_I0)) (by rw [decide_eq_true h1, decide_eq_true h2]; rfl)) A3 (fun h => nomatch h) fun _ H4 A4 => x_nil ?_
      exact x_ret (v_var 4) A4 fun v H' A' r => q _ _ _ _ _ v H' ⟨rfl, rfl⟩ A' r
def S_read_card (C : Addr) : List D → List (Addr × List D) → Mm → (D → Mm → Prop) → Prop := fun ds L M0 Z => ∃ (x dx a : Addr) (ns rest : List Int) (k : Nat) (r : Crd), ds = [.p x] ∧ L = [(a, ns.map D.i)] ∧ M0 = RM C x dx a k ∧ ns.drop k = cardI r ++ rest ∧ r.Ok ∧ Z = fun d Mn => d = cardD r ∧ Mn = RM C x dx a (k + (cardI r).length)
theorem ok_read_card (T : Tx c mg) : MtAt P w c mg base (He.ga c.K "Reader") "read_card" 4 (spM c (S_read_card (He.ga c.K "Reader"))) := by
  refine T.d_Reader_read_card.at_ fun f fd F => fnM F sc_Reader_read_card (fun _ _ _ _ _ _ us hl => match us, hl with | [_], _ => rfl) rfl (fun ds L M0 Z h => ?_) 5 rfl fun cdv A0 outer s H0 Fr E ds L M0 Z σ hr h hL A Q q => ?_
  · obtain ⟨x, dx, a, ns, rest, k, r, rfl, _⟩ := h
    rfl
  · obtain ⟨x, dx, a, ns, rest, k, r, rfl, rfl, rfl, hd, o, rfl⟩ := h
    have hC := T.c_Reader
    have hl := hL (a, ns.map D.i) List.mem_cons_self
    have hb6 := o.b.1
    have ha4 := o.a.1
    have wfin : ∀ (Fr' : Hp) (Mr : Mm), LsAt c Fr' a (ns.map D.i) → ∀ p ∈ [(a, ns.map D.i)], LsOf c Fr' Mr p.1 p.2 := fun Fr' Mr h p hp => by
      rw [List.mem_singleton.mp hp]
      exact .inl h
    by_cases qs : r.s ≠ ("" : Str)
    · have os := o.s.resolve_left qs
      have ec : cardI r = wordI r.h ++ (0 :: wordI r.s) := by
        unfold cardI
        rw [if_pos qs]
      rw [ec] at q hd
      have hd1 : ns.drop k = wordI r.h ++ (0 :: (wordI r.s ++ rest)) := by rw [hd]; simp
      have d1 := drop_app hd1
      have d2 := drop_cons d1
      rw [wordI_len] at d1 d2
      refine x_setE 1 sc_Reader_read_card.nd (Z := fun d M2 => d = .s r.h ∧ M2 = RM (He.ga c.K "Reader") x dx a (k + (r.h.length + 1))) (e_meth0I 0 [(a, ns.map D.i)] (RM (He.ga c.K "Reader") x dx a k) [] rfl hC (ok_read_word T) hr (v_var 0) ⟨x, dx, a, ns, _, k, r.h, rfl, rfl, rfl, hd1, o.h, rfl⟩ (wfin _ _ hl) (fun d Mn z => by
        rw [List.append_nil]
        exact z)) A fun d M2 σ1 H1 zz A1 => ?_
      obtain ⟨rfl, rfl⟩ := zz
      refine x_setE 2 sc_Reader_read_card.nd (Z := fun d M2 => d = .i 0 ∧ M2 = RM (He.ga c.K "Reader") x dx a (k + (r.h.length + 1) + 1)) (e_methI 0 [(a, ns.map D.i)] (RM (He.ga c.K "Reader") x dx a (k + (r.h.length + 1))) [] rfl hC (ok_item T) hr (v_var 0) (a_cons v_int (a_cons (v_op op_add (v_glo T.k_MAX_BOOKS) v_int rv_I0) a_nil)) ⟨x, dx, a, 0, 6 + 1, 0, ns, _, rfl, rfl, rfl, d2.1, by decide, by decide, rfl⟩ (wfin _ _ hl) (fun d Mn z => by
        rw [List.append_nil]
        exact z)) A1 fun d M2 σ2 H2 zz A2 => ?_
      obtain ⟨rfl, rfl⟩ := zz
      refine x_if (k := true) (Pt.is (t_cmp op_eq (v_var 2) v_int rv_eq) (decide_eq_true rfl)) A2 (fun _ H3 A3 => ?_) (fun h => nomatch h)
      refine x_retE (e_tup (Z := fun ds M2 => ds = [.s r.h, .t [], .s r.s, .t []] ∧ M2 = RM (He.ga c.K "Reader") x dx a (k + (r.h.length + 1) + 1 + (r.s.length + 1))) (Z2 := fun d M2 => d = .t [.s r.h, .t [], .s r.s, .t []] ∧ M2 = RM (He.ga c.K "Reader") x dx a (k + (r.h.length + 1) + 1 + (r.s.length + 1))) (ea_cons (Pv.ev (v_var 1)) fun d M2 zz => ?_) fun ds M2 zz => ?_) A3 fun d M2 v H' zz A' i rr => ?_
      · obtain ⟨rfl, rfl⟩ := zz
        refine ea_cons (Pv.ev (v_tup a_nil)) fun d M2 zz => ?_
        obtain ⟨rfl, rfl⟩ := zz
        refine ea_cons (Z := fun d M2 => d = .s r.s ∧ M2 = RM (He.ga c.K "Reader") x dx a (k + (r.h.length + 1) + 1 + (r.s.length + 1))) (e_meth0I 0 [(a, ns.map D.i)] (RM (He.ga c.K "Reader") x dx a (k + (r.h.length + 1) + 1)) [] rfl hC (ok_read_word T) hr (v_var 0) ⟨x, dx, a, ns, rest, _, r.s, rfl, rfl, rfl, d2.2, os.2.2.1, rfl⟩ (wfin _ _ hl) (fun d Mn z => by
          rw [List.append_nil]
          exact z)) fun d M2 zz => ?_
        obtain ⟨rfl, rfl⟩ := zz
        refine ea_cons (Pv.ev (v_tup a_nil)) fun d M2 zz => ?_
        obtain ⟨rfl, rfl⟩ := zz
        exact ea_nil ⟨rfl, rfl⟩
      · obtain ⟨rfl, rfl⟩ := zz
        exact ⟨Nat.le_of_ble_eq_true rfl, rfl, rfl⟩
      · obtain ⟨rfl, rfl⟩ := zz
        refine q _ _ _ _ _ v H' ⟨?_, ?_⟩ A' rr
        · unfold cardD
          rw [os.1, os.2.1]
          rfl
        · congr 1
          rw [List.length_append, List.length_cons, wordI_len, wordI_len]
          omega
    · have qs2 : r.s = ("" : Str) := by simpa using qs
      have ec : cardI r = wordI r.h ++ [(r.b.length : Int) + 1] ++ r.b.flatMap (fun b => [b / 256, b % 256]) ++ [(r.a.length : Int)] ++ r.a.flatMap wordI := by
        unfold cardI
        rw [if_neg qs]
      rw [ec] at q hd
      have hd1 : ns.drop k = wordI r.h ++ (((r.b.length : Int) + 1) :: (r.b.flatMap (fun b => [b / 256, b % 256]) ++ ((r.a.length : Int) :: (r.a.flatMap wordI ++ rest)))) := by rw [hd]; simp
      have d1 := drop_app hd1
      have d2 := drop_cons d1
      rw [wordI_len] at d1 d2
      generalize hk1 : k + (r.h.length + 1) = k1 at d1 d2
      have fb : ∀ l : List Int, (l.flatMap fun b => [b / 256, b % 256]).length = 2 * l.length := by
        intro l
        induction l with
        | nil => rfl
        | cons b l ih =>
          rw [List.flatMap_cons, List.length_append, ih, List.length_cons]
          simp
          omega
      have d3 := drop_app d2.2
      have d4 := drop_cons d3
      rw [fb] at d3 d4
      refine x_setE 1 sc_Reader_read_card.nd (Z := fun d M2 => d = .s r.h ∧ M2 = RM (He.ga c.K "Reader") x dx a k1) (e_meth0I 0 [(a, ns.map D.i)] (RM (He.ga c.K "Reader") x dx a k) [] rfl hC (ok_read_word T) hr (v_var 0) ⟨x, dx, a, ns, _, k, r.h, rfl, rfl, rfl, hd1, o.h, rfl⟩ (wfin _ _ hl) (fun d Mn z => by
        rw [List.append_nil, ← hk1]
        exact z)) A fun d M2 σ1 H1 zz A1 => ?_
      obtain ⟨rfl, rfl⟩ := zz
      refine x_setE 2 sc_Reader_read_card.nd (Z := fun d M2 => d = .i ((r.b.length : Int) + 1) ∧ M2 = RM (He.ga c.K "Reader") x dx a (k1 + 1)) (e_methI 0 [(a, ns.map D.i)] (RM (He.ga c.K "Reader") x dx a k1) [] rfl hC (ok_item T) hr (v_var 0) (a_cons v_int (a_cons (v_op op_add (v_glo T.k_MAX_BOOKS) v_int rv_I0) a_nil)) ⟨x, dx, a, 0, 6 + 1, _, ns, _, rfl, rfl, rfl, d2.1, by omega, by omega, rfl⟩ (wfin _ _ hl) (fun d Mn z => by
        rw [List.append_nil]
        exact z)) A1 fun d M2 σ2 H2 zz A2 => ?_
      obtain ⟨rfl, rfl⟩ := zz
      refine x_if (k := false) (Pt.is (t_cmp op_eq (v_var 2) v_int rv_eq) (decide_eq_false (fun z => by injection z with z; omega))) A2 (fun h => nomatch h) fun _ H3 A3 => x_nil ?_
      refine x_setL 3 sc_Reader_read_card.nd (l_lst a_nil) A3 fun bl σ4 H4 A4 => ?_
      refine x_for rfl PassesOwn.never (fun i M' env' => ∃ o1 : Option D, M' = (bl, Ob.lst ((r.b.take i).map D.i)) :: RM (He.ga c.K "Reader") x dx a (k1 + 1 + 2 * i) ∧ env' = [some (.p x), some (.s r.h), some (.i ((r.b.length : Int) + 1)), some (.p bl), o1, none]) (i_rng (n := r.b.length) T.n_range (a_cons (Pv.is (v_op op_sub (v_var 2) v_int rv_I0) (by congr 2; omega)) a_nil) (by omega)) A4 ⟨none, by simp, rfl⟩ (fun i d M' env' Fr' Gx hdi hI hE => ?_) (fun M' env' σ' H' hI A' => ?_)
      · obtain ⟨o1, rfl, rfl⟩ := hI
        rw [List.getElem?_map] at hdi
        obtain ⟨j, hj, rfl⟩ := Option.map_eq_some_iff.mp hdi
        have hi : i < r.b.length := by
          have := (List.getElem?_eq_some_iff.mp hj).1
          simpa using this
        have bi := o.b.2.1 _ (List.getElem_mem hi)
        have pw := o.b.2.2
        have hdb : ∃ rest', ns.drop (k1 + 1 + 2 * i) = (r.b[i] / 256) :: (r.b[i] % 256) :: rest' := by
          refine ⟨(r.b.drop (i + 1)).flatMap (fun b => [b / 256, b % 256]) ++ ((r.a.length : Int) :: (r.a.flatMap wordI ++ rest)), ?_⟩
          have e1 : r.b.flatMap (fun b => [b / 256, b % 256]) = (r.b.take i).flatMap (fun b => [b / 256, b % 256]) ++ ((r.b[i] / 256) :: (r.b[i] % 256) :: (r.b.drop (i + 1)).flatMap (fun b => [b / 256, b % 256])) := by
            conv => lhs; rw [← List.take_append_drop i r.b, List.drop_eq_getElem_cons hi]
            rw [List.flatMap_append, List.flatMap_cons]
            rfl
          have d2 := d2.2
          rw [e1, List.append_assoc] at d2
          have := drop_app d2
          rw [fb, List.length_take, Nat.min_eq_left (Nat.le_of_lt hi)] at this
          exact this
        obtain ⟨rest', hdb⟩ := hdb
        refine ⟨_, _, g_name 4 sc_Reader_read_card.nd, fun σ5 H5 A5 => ?_⟩
        have shp : ∀ l : List Int, SeqAt.shaped (.list (l.map PyData.int)) = true := fun l => (sh_lst (n := 0) fun x hx => by
          obtain ⟨i, _, rfl⟩ := List.mem_map.mp hx
          exact sh_int 0 i).ed
        have pyi : ∀ l : List Int, pyAll (l.map D.i) = some (l.map PyData.int) := fun l => pyAll_map D.i PyData.int (fun _ => by simp only [pyOf]) l
        let last : Int := if r.b.take i = [] then 0 else (r.b.take i).getLast?.getD 0
        have hlast : last < r.b[i] := by
          show (if r.b.take i = [] then 0 else (r.b.take i).getLast?.getD 0) < r.b[i]
          split
          · omega
          · rename_i hne
            have hi0 : i ≠ 0 := fun z => hne (by rw [z]; rfl)
            have hgl : (r.b.take i).getLast? = some (r.b[i - 1]'(by omega)) := by
              rw [List.getLast?_eq_getElem?, List.length_take, Nat.min_eq_left (Nat.le_of_lt hi), List.getElem?_take, if_pos (by omega), List.getElem?_eq_getElem]
            rw [hgl]
            exact List.pairwise_iff_getElem.mp pw (i - 1) i (by omega) hi (by omega)
        refine x_exp (e_app (Z := fun d M2 => d = .i r.b[i] ∧ M2 = RM (He.ga c.K "Reader") x dx a (k1 + 1 + 2 * i + 2) ++ [(bl, Ob.lst ((r.b.take i).map D.i))]) (Z2 := fun d M2 => M2 = RM (He.ga c.K "Reader") x dx a (k1 + 1 + 2 * i + 2) ++ [(bl, Ob.lst ((r.b.take (i + 1)).map D.i))]) rfl (v_var 3) (.inr List.mem_cons_self) (e_methI 1 [(a, ns.map D.i)] (RM (He.ga c.K "Reader") x dx a (k1 + 1 + 2 * i)) [(bl, Ob.lst ((r.b.take i).map D.i))] rfl hC (ok_read_book T) hr (v_var 0) (a_cons (v_if (k := !decide (r.b.take i = [])) (d := .i last) (Pt.is (t_neL (ds := (r.b.take i).map D.i) rfl hr (v_var 3) (.inr List.mem_cons_self) (l_lst a_nil) (pyi _) (pyi []) (shp _) (shp [])) (by rw [eqvAll_int])) (fun b => ?_) fun b => ?_) a_nil) ⟨x, dx, a, ns, rest', _, last, r.b[i], rfl, rfl, rfl, hdb, hlast, by omega, by omega, rfl⟩ (wfin _ _ (hl.ex hE)) (fun d Mn z => ⟨z.1, by rw [z.2]⟩) (hp := List.Perm.swap _ _ _)) fun d M2 zz => ?_) A5 fun d M2 H6 zz A6 => ?_
        · have hne : ¬ r.b.take i = [] := by
            rw [Bool.not_eq_true'] at b
            exact of_decide_eq_false b
          obtain ⟨v, hv⟩ := Option.isSome_iff_exists.mp (List.getLast?_isSome.mpr hne)
          obtain ⟨ys, hy⟩ := List.getLast?_eq_some_iff.mp hv
          refine Pv.is (v_ixL (ds := (r.b.take i).map D.i) (d := .i v) rfl (v_var 3) (.inr List.mem_cons_self) (v_neg v_int) (by rw [hy, List.map_append]; exact atI_last _ _)) ?_
          show D.i v = D.i (if r.b.take i = [] then 0 else (r.b.take i).getLast?.getD 0)
          rw [if_neg hne, hv]
          rfl
        · have he : r.b.take i = [] := by
            rw [Bool.not_eq_false'] at b
            exact of_decide_eq_true b
          refine Pv.is v_int ?_
          show D.i 0 = D.i (if r.b.take i = [] then 0 else (r.b.take i).getLast?.getD 0)
          rw [if_pos he]
        · obtain ⟨rfl, rfl⟩ := zz
          refine ⟨1, (r.b.take i).map D.i, rfl, by rw [List.length_map, List.length_take]; omega, ?_⟩
          rw [List.take_add_one, List.getElem?_eq_getElem hi, List.map_append]
          rfl
        · subst zz
          exact x_nil ⟨_, _, ⟨_, rfl, rfl⟩, A6.perm (List.Perm.swap _ _ _)⟩
      · obtain ⟨o1, rfl, rfl⟩ := hI
        have e1 : ((List.range r.b.length).map fun (i : Nat) => D.i (i : Int)).length = r.b.length := by simp
        rw [e1, List.take_length] at A'
        refine x_setE 5 sc_Reader_read_card.nd (Z := fun d M2 => d = .t (r.a.map D.s) ∧ ∃ l0 o0, M2 = (l0, o0) :: (bl, Ob.lst (r.b.map D.i)) :: RM (He.ga c.K "Reader") x dx a (k1 + 1 + 2 * r.b.length + 1 + (r.a.flatMap wordI).length)) (e_tupL T.n_tuple rfl (e_lcE [("turn", 4)] (fun ds M1 => ds = (List.range r.a.length).map natD ∧ M1 = (bl, Ob.lst (r.b.map D.i)) :: RM (He.ga c.K "Reader") x dx a (k1 + 1 + 2 * r.b.length + 1)) (fun ds i M' acc => ds = (List.range r.a.length).map natD ∧ M' = (bl, Ob.lst (r.b.map D.i)) :: RM (He.ga c.K "Reader") x dx a (k1 + 1 + 2 * r.b.length + 1 + ((r.a.take i).flatMap wordI).length) ∧ acc = (r.a.take i).map D.s) rfl sc_Reader_read_card.nd (i_rngE (Z0 := fun d M2 => d = natD r.a.length ∧ M2 = (bl, Ob.lst (r.b.map D.i)) :: RM (He.ga c.K "Reader") x dx a (k1 + 1 + 2 * r.b.length + 1)) T.n_range (Ev.imp (e_methI 1 [(a, ns.map D.i)] (RM (He.ga c.K "Reader") x dx a (k1 + 1 + 2 * r.b.length)) [(bl, Ob.lst (r.b.map D.i))] (Z2 := fun d M2 => d = natD r.a.length ∧ M2 = RM (He.ga c.K "Reader") x dx a (k1 + 1 + 2 * r.b.length + 1) ++ [(bl, Ob.lst (r.b.map D.i))]) rfl hC (ok_item T) hr (v_var 0) (a_cons v_int (a_cons (v_glo T.k_MAX_ALSO) a_nil)) ⟨x, dx, a, 0, 4, _, ns, _, rfl, rfl, rfl, d4.1, by omega, by omega, rfl⟩ (wfin _ _ hl) (fun d Mn z => ⟨z.1, by rw [z.2]⟩) (hp := List.Perm.swap _ _ _)) fun d M2 z2 => ⟨_, z2.2 ▸ List.Perm.swap _ _ _, z2.1, rfl⟩) (fun d M1 zz => ⟨r.a.length, zz.1, by omega, rfl, zz.2⟩)) (blkOk_by (N := N_Reader_read_card) (sc := defScope st_Reader_read_card) (by decide +kernel)) (fun ds M1 zz => ?_) (fun ds i M' acc hi zz => ?_) (fun ds i d M' acc Fr' Gx Dl hdi zz e => ?_)) fun d M1 zz => ?_) A' fun d M2 σ6 H6 zz A6 => ?_
        · obtain ⟨rfl, rfl⟩ := zz
          exact ⟨⟨rfl, by simp, by simp⟩, by simp; omega⟩
        · obtain ⟨rfl, rfl, rfl⟩ := zz
          rw [List.length_map, List.length_take]
          omega
        · obtain ⟨rfl, rfl, rfl⟩ := zz
          rw [List.getElem?_map] at hdi
          obtain ⟨j, hj, rfl⟩ := Option.map_eq_some_iff.mp hdi
          have hi : i < r.a.length := by
            have := (List.getElem?_eq_some_iff.mp hj).1
            simpa using this
          have hdw : ∃ rest', ns.drop (k1 + 1 + 2 * r.b.length + 1 + ((r.a.take i).flatMap wordI).length) = wordI r.a[i] ++ rest' := by
            refine ⟨(r.a.drop (i + 1)).flatMap wordI ++ rest, ?_⟩
            have e1 : r.a.flatMap wordI = (r.a.take i).flatMap wordI ++ (wordI r.a[i] ++ (r.a.drop (i + 1)).flatMap wordI) := by
              conv => lhs; rw [← List.take_append_drop i r.a, List.drop_eq_getElem_cons hi]
              rw [List.flatMap_append, List.flatMap_cons]
            have d4 := d4.2
            rw [e1, List.append_assoc, List.append_assoc] at d4
            exact drop_app d4
          obtain ⟨rest', hdw⟩ := hdw
          refine ⟨_, _, true, fun s H C cl fp => g_name 4 sc_Reader_read_card.nd, fun j hj => hj, fun s H C cl fp => n_nil, fun _ s H C cl fp => ?_, fun h => nomatch h⟩
          refine Ev.imp (e_meth0I 2 [(a, ns.map D.i)] (RM (He.ga c.K "Reader") x dx a (k1 + 1 + 2 * r.b.length + 1 + ((r.a.take i).flatMap wordI).length)) [(Dl, Ob.lst ((r.a.take i).map D.s)), (bl, Ob.lst (r.b.map D.i))] (Z2 := fun d M2 => d = .s r.a[i] ∧ M2 = RM (He.ga c.K "Reader") x dx a (k1 + 1 + 2 * r.b.length + 1 + ((r.a.take i).flatMap wordI).length + (r.a[i].length + 1)) ++ [(Dl, Ob.lst ((r.a.take i).map D.s)), (bl, Ob.lst (r.b.map D.i))]) rfl hC (ok_read_word T) hr (v_var 0) ⟨x, dx, a, ns, rest', _, r.a[i], rfl, rfl, rfl, hdw, (o.a.2.2 _ (List.getElem_mem hi)).1, rfl⟩ (wfin _ _ (hl.ex e)) (fun d Mn z => ⟨z.1, by rw [z.2]⟩) (hp := List.perm_append_singleton _ [(Dl, Ob.lst ((r.a.take i).map D.s)), (bl, Ob.lst (r.b.map D.i))])) fun d M2 z2 => ⟨(Dl, Ob.lst ((r.a.take i).map D.s)) :: (bl, Ob.lst (r.b.map D.i)) :: RM (He.ga c.K "Reader") x dx a (k1 + 1 + 2 * r.b.length + 1 + ((r.a.take i).flatMap wordI).length + (r.a[i].length + 1)), by rw [z2.2]; exact (List.perm_append_singleton _ [(Dl, Ob.lst ((r.a.take i).map D.s)), (bl, Ob.lst (r.b.map D.i))]).symm, _, rfl, rfl, ?_, ?_⟩
          · rw [flat_take (List.getElem?_eq_getElem hi), List.length_append, wordI_len]
            simp only [Nat.add_assoc]
          · rw [List.take_add_one, List.getElem?_eq_getElem hi, List.map_append, z2.1]
            rfl
        · obtain ⟨ds, l, M2, acc, rfl, rfl, rfl, rfl, rfl⟩ := zz
          have e2 : ((List.range r.a.length).map natD).length = r.a.length := by simp
          rw [e2, List.take_length]
          exact ⟨l, _, rfl, .inr List.mem_cons_self, rfl, l, _, rfl⟩
        · obtain ⟨rfl, l0, o0, rfl⟩ := zz
          refine x_ret (v_tup (a_cons (v_var 1) (a_cons (v_tupL (ds := r.b.map D.i) T.n_tuple rfl (v_var 3) (.inr (List.mem_cons_of_mem _ List.mem_cons_self))) (a_cons v_str (a_cons (v_var 5) a_nil))))) A6 fun v H' A7 rr => ?_
          refine q _ _ _ _ _ v H' ⟨?_, rfl⟩ (A7.drop1.drop1.less (M' := RM (He.ga c.K "Reader") x dx a _) ?_) rr
          · unfold cardD
            rw [qs2]
          · have : k + (wordI r.h ++ [(r.b.length : Int) + 1] ++ r.b.flatMap (fun b => [b / 256, b % 256]) ++ [(r.a.length : Int)] ++ r.a.flatMap wordI).length = k1 + 1 + 2 * r.b.length + 1 + (r.a.flatMap wordI).length := by
              simp only [List.length_append, List.length_cons, List.length_nil, wordI_len, fb]
              omega
            rw [this]
            exact List.Sublist.refl _
end
end Sx
end
section
set_option maxRecDepth 100000
set_option maxHeartbeats 1000000
namespace Sx
open PySem PySem.Spec PyProof.Rows L2
section
variable {P : Program} {w : World} {c : Cs} {mg : Str → Option Value} {base : Heap}
def S_finish (C : Addr) : List D → List (Addr × List D) → Mm → (D → Mm → Prop) → Prop := fun ds L M0 Z => ∃ (x dx a : Addr) (pre : List Int), ds = [.p x] ∧ L = [(a, (pre ++ [ckF pre]).map D.i)] ∧ M0 = RM C x dx a pre.length ∧ Z = fun d Mn => d = .n ∧ Mn = RM C x dx a (pre.length + 1)
theorem ok_finish (T : Tx c mg) : MtAt P w c mg base (He.ga c.K "Reader") "finish" 3 (spM c (S_finish (He.ga c.K "Reader"))) := by
  refine T.d_Reader_finish.at_ fun f fd F => fnM F sc_Reader_finish (fun _ _ _ _ _ _ us hl => match us, hl with | [_], _ => rfl) rfl (fun ds L M0 Z h => ?_) 1 rfl fun cdv A0 outer s H0 Fr E ds L M0 Z σ hr h hL A Q q => ?_
  · obtain ⟨x, dx, a, pre, rfl, _⟩ := h
    rfl
  · obtain ⟨x, dx, a, pre, rfl, rfl, rfl, rfl⟩ := h
    have hC := T.c_Reader
    have hl := hL (a, (pre ++ [ckF pre]).map D.i) List.mem_cons_self
    refine x_set 1 sc_Reader_finish.nd (v_callRN (d := .i (ckF pre)) (ok_checksum T) hr (Pl.is (ds' := pre.map D.i) (l_takeL (k := pre.length) rfl (v_fld 0 rfl hC T.a_Reader_data (v_var 0)) (.inl hl) (v_fld 0 rfl hC T.a_Reader_spot (v_var 0))) (by rw [← List.map_take, List.take_left])) fun l => ⟨l, pre, rfl, rfl, rfl⟩) A fun σ1 H1 A1 => ?_
    refine x_exp (Z := fun d M2 => M2 = RM (He.ga c.K "Reader") x dx a (pre.length + 1)) (e_methI 0 [(a, (pre ++ [ckF pre]).map D.i)] (RM (He.ga c.K "Reader") x dx a pre.length) [] rfl hC (ok_item T) hr (v_var 0) (a_cons (v_var 1) (a_cons (v_var 1) a_nil)) ⟨x, dx, a, _, _, ckF pre, pre ++ [ckF pre], pre.length, rfl, rfl, rfl, by simp, Int.le_refl _, Int.le_refl _, rfl⟩ (fun p hp => by
      rw [List.mem_singleton.mp hp]
      exact .inl hl) (fun d Mn z => by
      rw [List.append_nil]
      exact z.2)) A1 fun d M2 H2 zz A2 => ?_
    subst zz
    refine x_if (k := false) (Pt.is (t_cmp op_lt (v_fld 0 rfl hC T.a_Reader_spot (v_var 0)) (v_lenL T.n_len rfl (v_fld 0 rfl hC T.a_Reader_data (v_var 0)) (.inl hl)) rv_I0) (decide_eq_false (by simp))) A2 (fun h => nomatch h) fun _ H3 A3 => x_nil (x_nil (q _ _ _ _ _ _ H3 ⟨rfl, rfl⟩ A3 (rp_v.mpr rfl)))
def R_decode_drawer : List D → List (Addr × List D) → D → Prop := fun ds L d => ∃ (a : Addr) (cs : List Crd), ds = [.p a] ∧ L = [(a, (codeI cs).map D.i)] ∧ drwOk cs ∧ d = dDrw cs
theorem ok_decode_drawer (T : Tx c mg) : FnAt P w c.K mg base "decode_drawer" 5 (spR c R_decode_drawer) := by
  refine T.d_decode_drawer.at_ fun f fd F => fnMR F sc_decode_drawer (fun _ _ _ _ _ _ us hl => match us, hl with | [_], _ => rfl) (fun ds L d h => ?_) 7 rfl fun cdv A0 outer s H0 Fr E ds L d σ hr h hL A Q q => ?_
  · obtain ⟨a, cs, rfl, _⟩ := h
    rfl
  · obtain ⟨a, cs, rfl, rfl, o, rfl⟩ := h
    have hC := T.c_Reader
    have h16 := o.1
    have hl := hL (a, (codeI cs).map D.i) List.mem_cons_self
    have wfin : ∀ (Fr' : Hp) (Mr : Mm), LsAt c Fr' a ((codeI cs).map D.i) → ∀ p ∈ [(a, (codeI cs).map D.i)], LsOf c Fr' Mr p.1 p.2 := fun Fr' Mr h p hp => by
      rw [List.mem_singleton.mp hp]
      exact .inl h
    have ec : codeI cs = 97 :: (cs.length : Int) :: (cs.flatMap cardI ++ [ckF (drwI cs)]) := rfl
    have d0 := drop_cons (show (codeI cs).drop 0 = _ from ec)
    have d1 := drop_cons d0.2
    refine x_setE 1 sc_decode_drawer.nd (Z := fun d M2 => ∃ x dx, d = .p x ∧ M2 = RM (He.ga c.K "Reader") x dx a 0) (e_make [] [] [] (ok_Reader T) rfl hr (a_cons (v_var 0) a_nil) (fun x dx => ⟨_, ⟨x, dx, a, rfl, rfl, rfl, rfl⟩, fun d Mn z => ⟨z.1, x, dx, rfl, by rw [z.2, List.append_nil]⟩⟩) (fun p hp => nomatch hp)) A fun d M2 σ1 H1 zz A1 => ?_
    obtain ⟨x, dx, rfl, rfl⟩ := zz
    refine x_exp (Z := fun d M2 => M2 = RM (He.ga c.K "Reader") x dx a 1) (e_methI 0 [(a, (codeI cs).map D.i)] (RM (He.ga c.K "Reader") x dx a 0) [] rfl hC (ok_item T) hr (v_var 1) (a_cons (v_glo T.k_FIRST) (a_cons (v_glo T.k_FIRST) a_nil)) ⟨x, dx, a, 97, 97, 97, codeI cs, 0, rfl, rfl, rfl, d0.1, by decide, by decide, rfl⟩ (wfin _ _ hl) (fun d Mn z => by
      rw [List.append_nil]
      exact z.2)) A1 fun d M2 H2 zz A2 => ?_
    subst zz
    refine x_setLcE 2 [("turn", 3)] (fun ds M1 => ds = (List.range cs.length).map natD ∧ M1 = RM (He.ga c.K "Reader") x dx a 2) (fun ds i M' acc => ds = (List.range cs.length).map natD ∧ M' = RM (He.ga c.K "Reader") x dx a (2 + ((cs.take i).flatMap cardI).length) ∧ acc = (cs.take i).map cardD) rfl sc_decode_drawer.nd (i_rngE (Z0 := fun d M2 => d = natD cs.length ∧ M2 = RM (He.ga c.K "Reader") x dx a 2) T.n_range (e_methI 0 [(a, (codeI cs).map D.i)] (RM (He.ga c.K "Reader") x dx a 1) [] rfl hC (ok_item T) hr (v_var 1) (a_cons v_int (a_cons (v_glo T.k_MAX_CARDS) a_nil)) ⟨x, dx, a, 0, 16, _, codeI cs, 1, rfl, rfl, rfl, d1.1, by omega, by omega, rfl⟩ (wfin _ _ hl) (fun d Mn z => by
        rw [List.append_nil]
        exact z)) (fun d M1 zz => ⟨cs.length, zz.1, by omega, rfl, zz.2⟩)) (blkOk_by (N := N_decode_drawer) (sc := defScope st_decode_drawer) (by decide +kernel)) (fun ds M1 zz => ?_) (fun ds i M' acc hi zz => ?_) (fun ds i d M' acc Fr' Gx Dl hdi zz e => ?_) A2 fun ds l M2 acc σ3 H3 zz A3 => ?_
    · obtain ⟨rfl, rfl⟩ := zz
      exact ⟨⟨rfl, by simp, by simp⟩, by simp; omega⟩
    · obtain ⟨rfl, rfl, rfl⟩ := zz
      rw [List.length_map, List.length_take]
      omega
    · obtain ⟨rfl, rfl, rfl⟩ := zz
      rw [List.getElem?_map] at hdi
      obtain ⟨j, hj, rfl⟩ := Option.map_eq_some_iff.mp hdi
      have hi : i < cs.length := by
        have := (List.getElem?_eq_some_iff.mp hj).1
        simpa using this
      have hdw : ∃ rest', (codeI cs).drop (2 + ((cs.take i).flatMap cardI).length) = cardI cs[i] ++ rest' := by
        refine ⟨(cs.drop (i + 1)).flatMap cardI ++ [ckF (drwI cs)], ?_⟩
        have e1 : cs.flatMap cardI = (cs.take i).flatMap cardI ++ (cardI cs[i] ++ (cs.drop (i + 1)).flatMap cardI) := by
          conv => lhs; rw [← List.take_append_drop i cs, List.drop_eq_getElem_cons hi]
          rw [List.flatMap_append, List.flatMap_cons]
        have d1 := d1.2
        rw [e1, List.append_assoc, List.append_assoc] at d1
        exact drop_app d1
      obtain ⟨rest', hdw⟩ := hdw
      refine ⟨_, _, true, fun s H C cl fp => g_name 3 sc_decode_drawer.nd, fun j hj => hj, fun s H C cl fp => n_nil, fun _ s H C cl fp => ?_, fun h => nomatch h⟩
      refine Ev.imp (e_meth0I 1 [(a, (codeI cs).map D.i)] (RM (He.ga c.K "Reader") x dx a (2 + ((cs.take i).flatMap cardI).length)) [(Dl, Ob.lst ((cs.take i).map cardD))] (Z2 := fun d M2 => d = cardD cs[i] ∧ M2 = RM (He.ga c.K "Reader") x dx a (2 + ((cs.take i).flatMap cardI).length + (cardI cs[i]).length) ++ [(Dl, Ob.lst ((cs.take i).map cardD))]) rfl hC (ok_read_card T) hr (v_var 1) ⟨x, dx, a, codeI cs, rest', _, cs[i], rfl, rfl, rfl, hdw, o.2 _ (List.getElem_mem hi), rfl⟩ (wfin _ _ (hl.ex e)) (fun d Mn z => ⟨z.1, by rw [z.2]⟩) (hp := List.Perm.swap _ _ _)) fun d M2 z2 => ⟨(Dl, Ob.lst ((cs.take i).map cardD)) :: RM (He.ga c.K "Reader") x dx a (2 + ((cs.take i).flatMap cardI).length + (cardI cs[i]).length), by rw [z2.2]; exact List.Perm.swap _ _ _, _, rfl, rfl, ?_, ?_⟩
      · rw [flat_take (List.getElem?_eq_getElem hi), List.length_append]
        simp only [Nat.add_assoc]
      · rw [List.take_add_one, List.getElem?_eq_getElem hi, List.map_append, z2.1]
        rfl
    · obtain ⟨rfl, rfl, rfl⟩ := zz
      have e2 : ((List.range cs.length).map natD).length = cs.length := by simp
      rw [e2, List.take_length] at A3
      have elen : 2 + (cs.flatMap cardI).length = (drwI cs).length := by
        unfold drwI
        simp only [List.length_append, List.length_cons, List.length_nil]
      rw [elen] at A3
      refine x_exp (Z := fun d M2 => ∃ Mz, M2 = Mz ++ [(l, Ob.lst (cs.map cardD))]) (e_meth0I 1 [(a, (codeI cs).map D.i)] (RM (He.ga c.K "Reader") x dx a (drwI cs).length) [(l, Ob.lst (cs.map cardD))] rfl hC (ok_finish T) hr (v_var 1) ⟨x, dx, a, drwI cs, rfl, rfl, rfl, rfl⟩ (wfin _ _ hl) (fun d Mn z => ⟨Mn, rfl⟩) (hp := List.Perm.swap _ _ _)) A3 fun d M2 H4 zz A4 => ?_
      obtain ⟨Mz, rfl⟩ := zz
      obtain ⟨Fr', e1, hrow, A5⟩ := (A4.less (List.sublist_append_right Mz _)).freeze
      refine x_ret (v_make (k := false) (ds := [.t (cs.map dCard)]) rfl (ok_Drawer T) hr (a_cons (v_tupN T.n_tuple rfl (Pl.is (l_lc [("heading", 4), ("books", 5), ("see", 6), ("also", 7)] cs cardD (fun _ => true) dCard rfl sc_decode_drawer.nd (i_lst rfl (v_var 2) hrow) (blkOk_by (N := N_decode_drawer) (sc := defScope st_decode_drawer) (by decide +kernel)) (by omega) ?_) ?_)) a_nil) ⟨cs, rfl, h16, rfl⟩) A5 fun v H' A' r => q _ _ _ _ v H' (A'.back e1 (fun p hp => hp)) r
      · intro r hr' acc Fr'' Gx Dl e
        exact ⟨_, _, fun s H C cl fp => g_tup rfl rfl (gs_cons (g_name 4 sc_decode_drawer.nd) (gs_cons (g_name 5 sc_decode_drawer.nd) (gs_cons (g_name 6 sc_decode_drawer.nd) (gs_cons (g_name 7 sc_decode_drawer.nd) gs_nil)))), fun j hj => hj, fun s H C cl fp => n_nil, fun _ s H C cl fp => v_make (k := true) rfl (ok_Card T) hr (a_cons (v_var 4) (a_cons (v_var 5) (a_cons (v_var 6) (a_cons (v_var 7) a_nil)))) ⟨r, rfl, o.2 r hr', rfl⟩⟩
      · rw [filter_yes]
end
end Sx
end
section
set_option maxRecDepth 100000
set_option maxHeartbeats 2000000
/-! lambdas: made, known, called -/
namespace Sx
open PySem PySem.Spec PyProof.Rows L2 LamX NdefX
/-- the object at f is this lambda -/
def LnO (f : Addr) (F : NF) (b : Expr) : HO := .ext fun h => ∃ pm ctv : Value, h.get? f = some (PySem.W.kla_obj F.name F.qual F.params b F.scope F.cl pm F.c ctv)
theorem lnO_at {P : Program} {w : World} {H : Hp} {h : Heap} {f : Addr} {F : NF} {b : Expr} (hok : HOk P w H h) (e : H f = some (LnO f F b)) : ∃ pm ctv : Value, h.get? f = some (PySem.W.kla_obj F.name F.qual F.params b F.scope F.cl pm F.c ctv) := by
  obtain ⟨z, _, _⟩ := hok f _ e
  exact z
abbrev lamF (X : Cx) (params : Arguments) (scope : Scope) (c' : Addr) : NF := ⟨"<lambda>", X.env.qual ++ "<lambda>", params, [], scope, cloFrom X.env.cells scope.names [], c'⟩
section
variable {X : Cx} {pins : List (Addr × Obj)} {σ : L2.St} {H : Hp} {s : Shared}
theorem inv_ln {F : NF} {b : Expr} {t' : Nat} {pm ctv : Value} (I : Inv X pins σ H s) :
    Inv X pins σ (upd H s.heap.objs.size (LnO s.heap.objs.size F b)) { s with heap := s.heap.push (PySem.W.kla_obj F.name F.qual F.params b F.scope F.cl pm F.c ctv), toks := t' } := by
  refine I.laid (a := s.heap.objs.size) (fun b u e => Heap.get?_push_of_some _ e) (Nat.le_refl _) ?_
  have e : (s.heap.push (PySem.W.kla_obj F.name F.qual F.params b F.scope F.cl pm F.c ctv)).get? s.heap.objs.size = some (PySem.W.kla_obj F.name F.qual F.params b F.scope F.cl pm F.c ctv) := Heap.get?_push_size _ rfl
  exact ⟨⟨pm, ctv, e⟩, ⟨_, e⟩, fun h1 h2 ⟨p, t, z⟩ st => ⟨p, t, st _ z⟩⟩
/-- a lambda is made: its code object is new, or found in the table -/
theorem lam_made {c P : Addr} {params : Arguments} {body : Expr} {scope : Scope} {pos : Pos} {E : Value → Shared → Prop} {Q : Value → Shared → Prop} (I : Inv X pins σ H s) (TB : TabB X.base X.mg c P) (hcode : X.env.code = .ref c)
    (hT : TabS H P (X.env.qual ++ "<lambda>")) (hdef : defaultsOf params X.env = ([], [])) (hfree : ∀ y ∈ scope.names, y.2 = .free → ∃ c, X.env.cells.lookup y.1 = some c)
    (h : ∀ (f c' : Addr) (H1 : Hp) (s' : Shared), Inv X pins σ H1 s' → (∀ b o, b ≠ P → H b = some o → H1 b = some o) → TabS H1 P (X.env.qual ++ "<lambda>") → H1 f = some (LnO f (lamF X params scope c') body) → H1 c' = some (CodeO c' (X.env.qual ++ "<lambda>")) → Q (.ref f) s') :
    wpAny (model X.prog X.w) X.A (eval (.Lambda params body scope pos) X.env) Q E s := by
  obtain ⟨ps, hP, ht, ha⟩ := hT
  refine PySem.W.kla_eval hdef ?_
  have bP : s.heap.BuiltinsAt X.mg P := TB.bm.keeps I.bk
  have hP' : s.heap.get? P = some { cls := .none, data := .fields ps } := I.hok P _ hP
  cases hc : codeAmong pos ps.toList with
  | none =>
    refine PySem.W.kla_makeFunction (mg := X.mg) (c := c) (P := P) (ps := ps) (closure_ok hfree) I.ok.glob (I.mod.glob.keeps I.bk) hcode (TB.code.keeps I.bk) hP' ht hc TB.gP bP fun c' ctv h' tk hx hge hlt hrec htb => ?_
    obtain ⟨c2, oc, vs, t, e2, hoc, hd, hv⟩ := hrec
    cases e2
    have nC : H c' = none := I.hok.fresh hge
    have I1 := inv_table (t' := tk) (more := #[rawInt pos.line, rawInt pos.col, .ref c']) (h' := h') I hP (fun b o hb e => hx b o hb e) htb hge ⟨oc, vs, t, hoc, hd, hv⟩
    have nF := I1.hok.fresh (Nat.le_refl _)
    have I2 := inv_ln (F := lamF X params scope c') (b := body) (t' := tk) (pm := (X.mg "__name__").getD .none) (ctv := ctv) I1
    have hE : ∀ b o, b ≠ P → H b = some o → upd (upd (upd H P (.tbl (ps ++ #[rawInt pos.line, rawInt pos.col, .ref c']))) c' (CodeO c' (X.env.qual ++ "<lambda>"))) h'.objs.size (LnO h'.objs.size (lamF X params scope c') body) b = some o := fun b o n e => by
      have e1 : upd (upd H P (.tbl (ps ++ #[rawInt pos.line, rawInt pos.col, .ref c']))) c' (CodeO c' (X.env.qual ++ "<lambda>")) b = some o := by
        rw [upd_ne (ne_of_none e nC), upd_ne n]
        exact e
      rw [upd_ne (ne_of_none e1 nF)]
      exact e1
    have eC : upd (upd (upd H P (.tbl (ps ++ #[rawInt pos.line, rawInt pos.col, .ref c']))) c' (CodeO c' (X.env.qual ++ "<lambda>"))) h'.objs.size (LnO h'.objs.size (lamF X params scope c') body) c' = some (CodeO c' (X.env.qual ++ "<lambda>")) := by
      rw [upd_ne (Nat.ne_of_lt hlt), upd_same]
    refine h h'.objs.size c' _ _ I2 hE ⟨ps ++ #[rawInt pos.line, rawInt pos.col, .ref c'], ?_, ?_, fun p' cv hcv => ?_⟩ upd_same eC
    · have e1 : upd (upd H P (.tbl (ps ++ #[rawInt pos.line, rawInt pos.col, .ref c']))) c' (CodeO c' (X.env.qual ++ "<lambda>")) P = some (.tbl (ps ++ #[rawInt pos.line, rawInt pos.col, .ref c'])) := by
        rw [upd_ne (ne_of_none hP nC), upd_same]
      rw [upd_ne (ne_of_none e1 nF)]
      exact e1
    · have eL : (ps ++ #[rawInt pos.line, rawInt pos.col, .ref c']).toList = ps.toList ++ [rawInt pos.line, rawInt pos.col, .ref c'] := by simp
      rw [eL]
      exact PySem.TriplesOk_snoc _ _ _ _ ht
    · have eL : (ps ++ #[rawInt pos.line, rawInt pos.col, .ref c']).toList = ps.toList ++ [rawInt pos.line, rawInt pos.col, .ref c'] := by simp
      rw [eL] at hcv
      rcases among_app _ ht hcv with z | z
      · obtain ⟨c0, e1, e2⟩ := ha p' cv z
        refine ⟨c0, e1, hE _ _ (fun z => ?_) e2⟩
        rw [z, hP] at e2
        exact codeO_ne ps (Option.some.inj e2).symm
      · exact ⟨c', z, eC⟩
  | some cv =>
    obtain ⟨c', e, hco⟩ := ha pos cv hc
    subst e
    refine PySem.W.kla_makeFunctionHit (mg := X.mg) (c := c) (P := P) (ps := ps) (closure_ok hfree) I.ok.glob (I.mod.glob.keeps I.bk) hcode (TB.code.keeps I.bk) hP' ht hc bP fun ctv h' tk hx hsz => ?_
    have I1 : Inv X pins σ H { s with heap := h', toks := tk } := I.kept hx
    have nF : H h'.objs.size = none := I1.hok.fresh (Nat.le_refl _)
    have I2 := inv_ln (F := lamF X params scope c') (b := body) (t' := tk) (pm := (X.mg "__name__").getD .none) (ctv := ctv) I1
    have hE : ∀ b o, H b = some o → upd H h'.objs.size (LnO h'.objs.size (lamF X params scope c') body) b = some o := fun b o e => (upd_ne (ne_of_none e nF)).trans e
    exact h h'.objs.size c' _ _ I2 (fun b o _ e => hE b o e) (TabS.ext ⟨ps, hP, ht, ha⟩ hE) upd_same (hE _ _ hco)
end
/-! ### a lambda called -/
section
variable {P : Program} {w : World} {K : PySem.W.Frag} {mg : Str → Option Value} {base : Heap} {N ps fr : List Str} {F : NF} {f : Addr} {k : Nat} {b : Expr}
theorem lam_run {A : Around} {outer : List Env} {s : Shared} {H : Hp} {us : List Value} {vs : List V} {ws : List (Option V)} {Q : VK} {E : XK} (S : NScope N ps fr F.scope)
    (hb : ∀ (pm ctv : Value) (us : List Value), us.length = ps.length → bindArgs (PySem.W.kla_fn F.name F.qual F.params b F.scope F.cl pm (.ref F.c) ctv) ⟨us, []⟩ = pure (ps.zip us)) (hr : Room (k + 1) A) (e0 : Env0 P w K mg base A outer s H)
    (hf : H f = some (LnO f F b)) (hc : H F.c = some (CodeO F.c F.qual)) (C : CellsAt F.cl fr ws s.heap H) (r : Vals vs us) (hl : vs.length = ps.length)
    (hbody : Room k (A.deeper (envF F f s.heap.objs.size)) → WE (ncx CX0 P w K mg base N F f A outer s H E).nox b (startF N vs ws) H Q) : codeAny (model P w) A (.call (.ref f) ⟨us, []⟩) (CR CX0 outer P w H s Q E) s := by
  have lim : s.heap.NoLimit := e0.mod.nolimit.keeps fun b o e => (e0.bs b o e).1
  obtain ⟨pm, ctv, ho⟩ := lnO_at e0.hok hf
  refine PySem.W.kla_callFunE hr.depth ho rfl S.co S.gen rfl (codeO_at e0.hok hc) ?_
  rw [hb pm ctv us (by rw [← r.length]; exact hl)]
  refine wpAny_pure (wpAny_newFunctionEnv S.nocell (fun ⟨n, _⟩ hy => S.par n (List.of_mem_zip hy).1) (fun h₁ hns hsb => ⟨lim.fresh _ hsb, ?_⟩) S.kind)
  show codeAny _ _ (.expr b (envF F f s.heap.objs.size)) _ _
  have kp : ∀ b o, s.heap.get? b = some o → h₁.get? b = some o := fun b o e => hsb.extBut b o (Nat.ne_of_lt (Heap.lt_size e)) (Heap.get?_push_of_some _ e)
  have I : Inv (ncx CX0 P w K mg base N F f A outer s H E) [] (startF N vs ws) H { s with heap := h₁, toks := s.toks + (ps.zip us).length } := inv_startN S hr.hd e0 hl r C hns kp
  have pe : PE (ncx CX0 P w K mg base N F f A outer s H E) b (WE (ncx CX0 P w K mg base N F f A outer s H E).nox b) := PE.nox we
  refine PySem.W.kla_codeExpr (wpAny_mono (pe.run [] _ (startF N vs ws) H Q I (hbody (hr.deeper _))) (fun v s' hq => ?_) fun e s' hq => hq)
  obtain ⟨w', H', J, rv, q⟩ := hq
  exact ⟨w', H', J.os, J.bare, J.base, J.hok, rv, q⟩
end
end Sx
end
section
set_option maxRecDepth 100000
set_option maxHeartbeats 4000000
/-! sorted(.., key=f), the keys texts; f may do what it likes as long as all that stands stays -/
namespace Sx
open PySem PyProof.Rows L2
def skey : Value → Str
  | .str z _ => z
  | _ => ("" : Str)
def ltK (u v : Value) : Bool := ltS (skey u) (skey v)
theorem ltS_swo : SrtO.Swo ltS := by
  refine ⟨fun x y h => ?_, fun x y z h1 h2 => ?_⟩
  · cases q : ltS y x with
    | false => rfl
    | true => exact absurd q (ltS_as x y h)
  · have a := of_decide_eq_false h1
    have b := of_decide_eq_false h2
    exact decide_eq_false (List.not_lt.mpr (List.le_trans (List.not_lt.mp a) (List.not_lt.mp b)))
theorem ltK_swo : SrtO.Swo ltK := ⟨fun x y => ltS_swo.asym (skey x) (skey y), fun x y z => ltS_swo.tr (skey x) (skey y) (skey z)⟩

/-- where a sort stands: what was there stands, ow is the sort's own -/
def Jk (P : Program) (w : World) (fs : List Addr) (H : Hp) (s0 : Shared) (R : Hp → Prop) (ow : List (Addr × Obj)) (s : Shared) : Prop :=
  ∃ H1, s.os = s0.os ∧ AllBare s.gens ∧ Un fs [] H H1 s0.heap s.heap ∧ HOk P w H1 s.heap ∧ R H1 ∧ (∀ p ∈ ow, s.heap.get? p.1 = some p.2 ∧ H1 p.1 = none ∧ s0.heap.objs.size ≤ p.1) ∧ (ow.map (·.1)).Nodup
section
variable {P : Program} {w : World} {fs : List Addr} {H : Hp} {s0 s : Shared} {R : Hp → Prop} {ow pre post : List (Addr × Obj)} {a : Addr} {o o' : Obj} {h' : Heap}
theorem Jk.push (hf : o.isFreed = false) (hle : s0.heap.objs.size ≤ s.heap.objs.size) (J : Jk P w fs H s0 R ow s) : Jk P w fs H s0 R ((s.heap.objs.size, o) :: ow) { s with heap := s.heap.push o } := by
  obtain ⟨H1, h1, h2, h3, h4, h5, h6, h7⟩ := J
  have k : ∀ b u, s.heap.get? b = some u → (s.heap.push o).get? b = some u := fun b u e => Heap.get?_push_of_some _ e
  refine ⟨H1, h1, h2, h3.trans (Un.kept k), h4.kept k, h5, fun p hp => ?_, ?_⟩
  · rcases List.mem_cons.mp hp with rfl | hp
    · exact ⟨Heap.get?_push_size _ hf, h4.fresh (Nat.le_refl _), hle⟩
    · exact ⟨k _ _ (h6 p hp).1, (h6 p hp).2⟩
  · rw [List.map_cons, List.nodup_cons]
    refine ⟨fun z => ?_, h7⟩
    obtain ⟨p, hp, e⟩ := List.mem_map.mp z
    have := Heap.lt_size (h6 p hp).1
    have e : p.1 = s.heap.objs.size := e
    rw [e] at this
    exact Nat.lt_irrefl _ this
theorem Jk.upd (J : Jk P w fs H s0 R (pre ++ (a, o) :: post) s) (k : ∀ b u, b ≠ a → s.heap.get? b = some u → h'.get? b = some u) (ha : h'.get? a = some o') : Jk P w fs H s0 R (pre ++ (a, o') :: post) { s with heap := h' } := by
  obtain ⟨H1, h1, h2, h3, h4, h5, h6, h7⟩ := J
  obtain ⟨z1, z2, z3⟩ := h6 (a, o) (List.mem_append_right _ List.mem_cons_self)
  have na : ∀ b u, s0.heap.get? b = some u → b ≠ a := fun b u e => Nat.ne_of_lt (Nat.lt_of_lt_of_le (Heap.lt_size e) z3)
  have nt : ∀ b u, H1 b = some u → b ≠ a := fun b u e => ne_of_none e z2
  have nd := h7
  rw [List.map_append, List.map_cons, List.nodup_append, List.nodup_cons] at nd
  refine ⟨H1, h1, h2, ⟨fun b u e n x y => k b u (na b u e) (h3.keep b u e n x y), fun b u e n x y => ?_, h3.free, fun b u e x => ?_, h3.tups, h3.frzs, h3.tbls⟩, fun b u e => (h4 b u e).stay (fun d v hd q => k d v ?_ q) (fun _ q => q) fun _ _ q => q, h5, fun p hp => ?_, ?_⟩
  · obtain ⟨sl, q⟩ := h3.slot b u e n x y
    exact ⟨sl, k b _ (na b u e) q⟩
  · obtain ⟨v, q⟩ := h3.there b u e x
    exact ⟨v, k b v (na b u e) q⟩
  · rcases hd with z | z
    · rw [z]
      exact nt b u e
    · exact nt d _ z
  · rcases List.mem_append.mp hp with hp | hp
    · have q := h6 p (List.mem_append_left _ hp)
      refine ⟨k _ _ (fun z => nd.2.2 _ (List.mem_map_of_mem hp) _ List.mem_cons_self z) q.1, q.2⟩
    · rcases List.mem_cons.mp hp with rfl | hp
      · exact ⟨ha, z2, z3⟩
      · have q := h6 p (List.mem_append_right _ (List.mem_cons_of_mem _ hp))
        refine ⟨k _ _ (fun z => nd.2.1.1 (by have := List.mem_map_of_mem (f := (·.1)) hp; rw [z] at this; exact this)) q.1, q.2⟩
  · rw [List.map_append, List.map_cons] at h7 ⊢
    exact h7
theorem Jk.at_ (J : Jk P w fs H s0 R ow s) {p : Addr × Obj} (hp : p ∈ ow) : s.heap.get? p.1 = some p.2 := by
  obtain ⟨H1, h1, h2, h3, h4, h5, h6, h7⟩ := J
  exact (h6 p hp).1
theorem Jk.less (J : Jk P w fs H s0 R ow s) {ow' : List (Addr × Obj)} (hs : ow'.Sublist ow) : Jk P w fs H s0 R ow' s := by
  obtain ⟨H1, h1, h2, h3, h4, h5, h6, h7⟩ := J
  exact ⟨H1, h1, h2, h3, h4, h5, fun p hp => h6 p (hs.subset hp), h7.sublist (hs.map _)⟩
/-- behind a call -/
theorem Jk.call {R2 : Hp → Prop} {s2 : Shared} (J : Jk P w fs H s0 R ow s) (hfs : ∀ b ∈ fs, b < s0.heap.objs.size)
    (h : ∀ H1, R H1 → HOk P w H1 s.heap → Un fs [] H H1 s0.heap s.heap → AllBare s.gens → ∃ H2, s2.os = s.os ∧ AllBare s2.gens ∧ Un fs [] H1 H2 s.heap s2.heap ∧ HOk P w H2 s2.heap ∧ R2 H2) : Jk P w fs H s0 R2 ow s2 := by
  obtain ⟨H1, h1, h2, h3, h4, h5, h6, h7⟩ := J
  obtain ⟨H2, k1, k2, k3, k4, k5⟩ := h H1 h5 h4 h3 h2
  refine ⟨H2, k1.trans h1, k2, h3.trans k3, k4, k5, fun p hp => ?_, h7⟩
  obtain ⟨q1, q2, q3⟩ := h6 p hp
  exact ⟨k3.keep _ _ q1 q2 (fun z => absurd (hfs _ z) (Nat.not_lt.mpr q3)) (by simp), k3.free _ _ q1 q2 (by simp), q3⟩
end
section
variable {prog : Program} {w : World} {A : Around} {E : Value → Shared → Prop} {fs : List Addr} {H : Hp} {s0 s : Shared} {R : Hp → Prop} {ow : List (Addr × Obj)} {a kS : Addr} {vs : List Value} {keys : Array Value} {e e1 n : Nat} {P : PySem.Fin → Shared → Prop} {f : Value}
theorem upd_other {h : Heap} {c : Addr} {g : Obj → Obj} : ∀ b u, b ≠ c → h.get? b = some u → (h.update c g).get? b = some u := fun b u hb e => (Heap.get?_update_other _ _ (Ne.symm hb)).trans e
theorem sort_tail {st : SortSt} (J : Jk prog w fs H s0 R ((kS, seqObj "list" keys e) :: (a, seqObj "list" #[] e1) :: ow) s) (hsz : keys.size ≤ sizeLine) (hz : (arrOf st).size ≤ sizeLine) (hfl : failedOf st = none)
    (h : ∀ s' c, Jk prog w fs H s0 R ((a, seqObj "list" ((arrOf st).map (·.2)) c) :: ow) s' → P (.done (.ret .none)) s') : wpAny (model prog w) A (ksk_tail a false e1 (.ref kS) st) P E s := by
  have hk := J.at_ (p := (kS, _)) List.mem_cons_self
  obtain ⟨c1, hc1⟩ : ∃ c1, (s.heap.update kS (Obj.mapSeq fun _ => (#[] : Array Value))).get? kS = some (seqObj "list" #[] c1) := ⟨_, get?_update_seq hk fun _ => #[]⟩
  have J1 : Jk prog w fs H s0 R ([] ++ (kS, seqObj "list" #[] c1) :: (a, seqObj "list" #[] e1) :: ow) { s with heap := s.heap.update kS (Obj.mapSeq fun _ => (#[] : Array Value)) } := Jk.upd (pre := []) J upd_other hc1
  have ha1 := J1.at_ (p := (a, _)) (List.mem_cons_of_mem _ List.mem_cons_self)
  obtain ⟨c2, hc2⟩ : ∃ c2, ((s.heap.update kS (Obj.mapSeq fun _ => (#[] : Array Value))).update a (Obj.mapSeq fun _ => (arrOf st).map (·.2))).get? a = some (seqObj "list" ((arrOf st).map (·.2)) c2) :=
    ⟨_, get?_update_seq ha1 fun _ => (arrOf st).map (·.2)⟩
  have J2 := Jk.upd (pre := [(kS, seqObj "list" #[] c1)]) J1 upd_other hc2
  unfold ksk_tail
  try dsimp only
  simp only [Bool.false_eq_true, if_false]
  refine wpAny_bind (listUpdate_at hk rfl ?_ hsz (Nat.zero_le _))
  refine wpAny_bind (wpAny_letGo ?_)
  refine wpAny_bind (seqEpoch_at ha1 rfl ?_)
  refine wpAny_bind (listUpdate_at ha1 rfl ?_ (Nat.zero_le _) (by rw [Array.size_map]; exact Nat.le_succ_of_le hz))
  rw [hfl]
  simp only [bne_self_eq_false, Bool.false_eq_true, if_false]
  exact wpAny_pure (h _ c2 (J2.less (List.sublist_cons_self _ _)))
/-- the pairs in order -/
def PairsOut (ks : List Str) (vs out : List Value) : Prop := ∃ qs : List (Str × Value), SrtO.Srtd (fun x y => ltS x.1 y.1) qs ∧ SrtO.Stb (fun x y => ltS x.1 y.1) qs (ks.zip vs) ∧ out = qs.map (·.2)
theorem zip_keys : ∀ {keys : List Value} {ks : List Str} (vs : List Value), StrsAre keys ks → (keys.zip vs).map (fun p : Keyed => (skey p.1, p.2)) = ks.zip vs
  | _, _, vs, .nil => by simp
  | _, _, [], .cons x t r => by simp
  | _, _, v :: vs, .cons x t r => by
    rw [List.zip_cons_cons, List.map_cons, zip_keys vs r, List.zip_cons_cons]
    rfl
theorem sort_end {ks : List Str} (J : Jk prog w fs H s0 R ((kS, seqObj "list" keys e) :: (a, seqObj "list" #[] e1) :: ow) s) (hS : StrsAre keys.toList ks) (hsz : keys.size = vs.length) (hZ : vs.length ≤ sizeLine)
    (h : ∀ s' (out : List Value) c, Jk prog w fs H s0 R ((a, seqObj "list" out.toArray c) :: ow) s' → PairsOut ks vs out → P (.done (.ret .none)) s') : wpAny (model prog w) A (ksk_end a false vs.toArray e1 (.ref kS) keys) P E s := by
  have hzl : (keys.zip vs.toArray).toList = keys.toList.zip vs := ksk_zip keys vs
  have hzs : (keys.zip vs.toArray).size = vs.length := by rw [Array.size_zip, hsz, List.size_toArray, Nat.min_self]
  have fin : ∀ st' : SortSt, SrtO.Srtd (SrtO.lt2 ltK) (arrOf st').toList → SrtO.Stb (SrtO.lt2 ltK) (arrOf st').toList (keys.zip vs.toArray).toList → failedOf st' = none → wpAny (model prog w) A (ksk_tail a false e1 (.ref kS) st') P E s := fun st' h1 h2 hf => by
    have hl : (arrOf st').size = vs.length := by
      have := h2.perm.length_eq
      rw [Array.length_toList, Array.length_toList, hzs] at this
      exact this
    refine sort_tail J (by rw [hsz]; exact hZ) (by rw [hl]; exact hZ) hf fun s' c J' => ?_
    refine h s' ((arrOf st').map (·.2)).toList c (by rw [Array.toArray_toList]; exact J') ⟨(arrOf st').toList.map fun p : Keyed => (skey p.1, p.2), ?_, ?_, ?_⟩
    · exact List.pairwise_map.mpr h1
    · have := SrtO.Stb.map (lt := fun x y : Str × Value => ltS x.1 y.1) ⟨fun x y => ltS_swo.asym x.1 y.1, fun x y z => ltS_swo.tr x.1 y.1 z.1⟩ (fun p : Keyed => (skey p.1, p.2)) (l := (arrOf st').toList) (m := (keys.zip vs.toArray).toList) h2
      rw [hzl, zip_keys vs hS] at this
      exact this
    · rw [Array.toList_map, List.map_map]
      rfl
  unfold ksk_end
  try dsimp only
  simp only [Bool.false_eq_true, if_false]
  by_cases hl2 : vs.toArray.size < 2
  · rw [if_pos hl2, if_pos hl2]
    refine wpAny_bind (wpAny_pure ?_)
    rw [StateT.run_pure]
    refine wpAny_bind (wpAny_pure ?_)
    try dsimp only
    refine fin (SortSt.mk' general' (keys.zip vs.toArray) #[] 7 none) ?_ (SrtO.Stb.refl _) rfl
    show SrtO.Srtd (SrtO.lt2 ltK) (keys.zip vs.toArray).toList
    rw [List.size_toArray] at hl2
    have hl : (keys.zip vs.toArray).toList.length < 2 := by rw [Array.length_toList, hzs]; exact hl2
    match (keys.zip vs.toArray).toList, hl with
    | [], _ => exact List.Pairwise.nil
    | [v], _ => exact List.pairwise_singleton _ _
  · rw [if_neg hl2, if_neg hl2]
    rw [List.size_toArray] at hl2
    have hkk : keyKind' keys = pure oneType' := by
      have hl : keys.toList.length = vs.length := by rw [Array.length_toList]; exact hsz
      have ek : keys = keys.toList.toArray := by rw [Array.toArray_toList]
      match e : keys.toList, hS, hl with
      | v1 :: v2 :: rest, hS, _ =>
        rw [ek, e]
        exact keyKind_strs hS
      | [v], _, hl => simp at hl; omega
      | [], _, hl => simp at hl; omega
    refine wpAny_bind (wpAny_of_eq hkk ?_)
    have cmp : SrtO.Cmp prog w A s oneType' (fun p => p.1 ∈ keys.toList) (SrtO.lt2 ltK) := by
      intro p q hm hm'
      obtain ⟨x, t, e⟩ := hS.all _ hm
      obtain ⟨y, u, e'⟩ := hS.all _ hm'
      show wpAny (model prog w) A (keyLt' oneType' p.1 q.1) (fun r s' => s' = s ∧ r = ltK p.1 q.1) (fun _ _ => False) s
      rw [e, e', keyLt'_oneType]
      exact oneLt_str ⟨rfl, rfl⟩
    have hall : SrtO.AllL (fun p : Keyed => p.1 ∈ keys.toList) (keys.zip vs.toArray).toList := fun p hm => by
      rw [hzl] at hm
      exact (List.of_mem_zip hm).1
    refine wpAny_bind (wpAny_mono (SrtO.wpS_sortO (st0 := SortSt.mk' oneType' (keys.zip vs.toArray) #[] 7 none)
      (Q := fun _ st' => SrtO.Srtd (SrtO.lt2 ltK) (arrOf st').toList ∧ SrtO.Stb (SrtO.lt2 ltK) (arrOf st').toList (keys.zip vs.toArray).toList ∧ failedOf st' = none) (SrtO.swo2 ltK_swo) cmp rfl hall rfl rfl fun st' a1 a2 a3 => ⟨a1, a2, a3⟩) ?_ fun _ _ e => e)
    rintro ⟨⟨⟩, st'⟩ s' ⟨rfl, hp1, hp2, hf⟩
    exact fin st' hp1 hp2 hf
theorem sort_tree {ks : List Str} (J0 : Jk prog w fs H s0 R ((a, seqObj "list" vs.toArray n) :: ow) s) (hlen : ks.length = vs.length) (hZ : vs.length ≤ sizeLine)
    (turn : ∀ (i : Nat) (v : Value) (z : Str), vs[i]? = some v → ks[i]? = some z → ∀ (ow' : List (Addr × Obj)) (s1 : Shared), Jk prog w fs H s0 R ow' s1 →
      wpAny (model prog w) A (call f [v]) (fun r s2 => Jk prog w fs H s0 R ow' s2 ∧ ∃ t, r = .str z t) (fun _ _ => False) s1)
    (h : ∀ s' (out : List Value) c, Jk prog w fs H s0 R ((a, seqObj "list" out.toArray c) :: ow) s' → PairsOut ks vs out → P (.done (.ret .none)) s') : wpAny (model prog w) A (ksk_tree a f false) P E s := by
  have ho := J0.at_ (p := (a, _)) List.mem_cons_self
  obtain ⟨e1, ho1⟩ : ∃ e1, (s.heap.update a (Obj.mapSeq fun _ => (#[] : Array Value))).get? a = some (seqObj "list" #[] e1) := ⟨_, get?_update_seq ho fun _ => #[]⟩
  have J1 : Jk prog w fs H s0 R ((a, seqObj "list" #[] e1) :: ow) { s with heap := s.heap.update a (Obj.mapSeq fun _ => (#[] : Array Value)) } := Jk.upd (pre := []) J0 upd_other ho1
  have hle : s0.heap.objs.size ≤ s.heap.objs.size := by
    obtain ⟨H1, h1, h2, h3, h4, h5, h6, h7⟩ := J0
    exact Nat.le_of_lt (Nat.lt_of_le_of_lt (h6 _ List.mem_cons_self).2.2 (Heap.lt_size ho))
  have hle1 : s0.heap.objs.size ≤ (s.heap.update a (Obj.mapSeq fun _ => (#[] : Array Value))).objs.size := by
    rw [Heap.size_update]
    exact hle
  have J2 := J1.push (o := seqObj "tuple" vs.toArray 0) rfl hle1
  have J3 := J2.push (o := seqObj "list" #[] 0) rfl (by
    show s0.heap.objs.size ≤ ((s.heap.update a (Obj.mapSeq fun _ => (#[] : Array Value))).push (seqObj "tuple" vs.toArray 0)).objs.size
    rw [size_push']
    exact Nat.le_succ_of_le hle1)
  have J4 := J3.less (ow' := ((((s.heap.update a (Obj.mapSeq fun _ => (#[] : Array Value))).push (seqObj "tuple" vs.toArray 0)).objs.size, seqObj "list" #[] 0) :: (a, seqObj "list" #[] e1) :: ow)) (List.Sublist.cons₂ _ (List.sublist_cons_self _ _))
  unfold ksk_tree
  refine wpAny_bind (listItems_at ho rfl ?_)
  refine wpAny_bind (listUpdate_at ho rfl ?_ (by rw [List.size_toArray]; exact hZ) (Nat.zero_le _))
  refine wpAny_bind (seqEpoch_at ho1 rfl ?_)
  refine wpAny_bind (wpAny_newTuple ?_ (by show vs.length ≤ _; exact hZ))
  refine wpAny_bind (wpAny_newList ?_ (Nat.zero_le _))
  refine wpAny_holding ?_
  show wpAny (model prog w) A (ksk_rest a f false vs.toArray e1 (.ref ((s.heap.update a (Obj.mapSeq fun _ => (#[] : Array Value))).push (seqObj "tuple" vs.toArray 0)).objs.size)) P E { s with heap := ((s.heap.update a (Obj.mapSeq fun _ => (#[] : Array Value))).push (seqObj "tuple" vs.toArray 0)).push (seqObj "list" #[] 0) }
  generalize ((s.heap.update a (Obj.mapSeq fun _ => (#[] : Array Value))).push (seqObj "tuple" vs.toArray 0)).objs.size = kS at J4 ⊢
  generalize ({ s with heap := ((s.heap.update a (Obj.mapSeq fun _ => (#[] : Array Value))).push (seqObj "tuple" vs.toArray 0)).push (seqObj "list" #[] 0) } : Shared) = s3 at J4 ⊢
  unfold ksk_rest
  refine wpAny_bind (wpAny_rule ?_)
  first
    | rw [List.forIn_toArray]
    | (rw [← Array.forIn_toList]; simp only [List.toList_toArray])
    | rw [← Array.forIn_toList]
  refine wpAny_bind (ksk_fold (fun i s' => ∃ kA e, Jk prog w fs H s0 R ((kS, seqObj "list" kA e) :: (a, seqObj "list" #[] e1) :: ow) s' ∧ StrsAre kA.toList (ks.take i)) vs 0 _ ⟨#[], 0, J4, by rw [List.take_zero]; exact .nil⟩ ?_ ?_)
  · rintro j x s' hx ⟨kA, e, J', hS⟩
    simp only [Nat.zero_add] at hS ⊢
    have hj : j < vs.length := (List.getElem?_eq_some_iff.mp hx).1
    obtain ⟨z, hz⟩ : ∃ z, ks[j]? = some z := ⟨_, List.getElem?_eq_getElem (by omega)⟩
    have hkz : kA.size ≤ vs.length := by
      have q := hS.length
      rw [Array.length_toList, List.length_take] at q
      omega
    refine wpAny_bind (wpAny_attempt (wpAny_mono (turn j x z hx hz _ s' J') (fun v s'' he => ?_) fun _ _ hF => hF.elim))
    obtain ⟨J'', t, rfl⟩ := he
    try dsimp only
    have hk2 := J''.at_ (p := (kS, _)) List.mem_cons_self
    obtain ⟨c2, hc2⟩ : ∃ c2, (s''.heap.update kS (Obj.mapSeq (·.push (.str z t)))).get? kS = some (seqObj "list" (kA.push (.str z t)) c2) := ⟨_, get?_update_seq hk2 (·.push (.str z t))⟩
    refine wpAny_bind (listUpdate_at hk2 rfl ?_ (Nat.le_trans hkz hZ) (Nat.le_trans (Nat.le_of_eq (Array.size_push ..)) (Nat.succ_le_succ (Nat.le_trans hkz hZ))))
    refine wpAny_pure ⟨rfl, kA.push (.str z t), c2, Jk.upd (pre := []) J'' upd_other hc2, ?_⟩
    have ek : ks.take (j + 1) = ks.take j ++ [z] := by rw [List.take_add_one, hz]; simp
    rw [ek, Array.toList_push]
    have snoc : ∀ {l : List Value} {m : List Str}, StrsAre l m → StrsAre (l ++ [.str z t]) (m ++ [z]) := by
      intro l m h
      induction h with
      | nil => exact .cons _ _ .nil
      | cons y u r ih => exact .cons _ _ ih
    exact snoc hS
  · rintro s' ⟨kA, e, J', hS⟩
    have e3 : ks.take (0 + vs.length) = ks := List.take_of_length_le (by omega)
    rw [e3] at hS
    try dsimp only
    refine wpAny_bind (listItems_at (J'.at_ (p := (kS, _)) List.mem_cons_self) rfl ?_)
    have hsz : kA.size = vs.length := by
      have q := hS.length
      rw [Array.length_toList] at q
      omega
    exact sort_end J' hS hsz hZ h
end
end Sx
end
section
set_option maxRecDepth 100000
set_option maxHeartbeats 2000000
/-! sorted(.., key=a lambda) -/
namespace Sx
open PySem PySem.Spec PyProof.Rows L2 LamX NdefX
/-! ### the stable sort by a text -/
section
variable {α β : Type}
def kput (key : α → Str) (x : α) : List α → List α
  | [] => [x]
  | y :: l => if ltS (key y) (key x) then y :: kput key x l else x :: y :: l
def ksort (key : α → Str) (l : List α) : List α := l.foldr (kput key) []
theorem kput_perm (key : α → Str) (x : α) : ∀ l : List α, (kput key x l).Perm (x :: l)
  | [] => List.Perm.refl _
  | y :: l => by
    unfold kput
    split
    · exact ((kput_perm key x l).cons y).trans (List.Perm.swap x y l)
    · exact List.Perm.refl _
theorem ksort_perm (key : α → Str) : ∀ l : List α, (ksort key l).Perm l
  | [] => List.Perm.refl _
  | x :: l => (kput_perm key x _).trans ((ksort_perm key l).cons x)
theorem ksort_len (key : α → Str) (l : List α) : (ksort key l).length = l.length := (ksort_perm key l).length_eq
def ltF (key : α → Str) (x y : α) : Bool := ltS (key x) (key y)
theorem ltF_swo (key : α → Str) : SrtO.Swo (ltF key) := ⟨fun x y => ltS_swo.asym _ _, fun x y z => ltS_swo.tr _ _ _⟩
theorem kput_srtd (key : α → Str) (x : α) : ∀ l : List α, SrtO.Srtd (ltF key) l → SrtO.Srtd (ltF key) (kput key x l)
  | [], _ => List.pairwise_singleton _ _
  | y :: l, h => by
    obtain ⟨h1, h2⟩ := List.pairwise_cons.mp h
    unfold kput
    split
    · rename_i q
      refine List.pairwise_cons.mpr ⟨fun z hz => ?_, kput_srtd key x l h2⟩
      rcases List.mem_cons.mp ((kput_perm key x l).subset hz) with rfl | hz
      · exact (ltF_swo key).asym _ _ q
      · exact h1 z hz
    · rename_i q
      have q : ltF key y x = false := by
        cases e : ltF key y x with
        | false => rfl
        | true => exact absurd e q
      refine List.pairwise_cons.mpr ⟨fun z hz => ?_, h⟩
      rcases List.mem_cons.mp hz with rfl | hz
      · exact q
      · exact (ltF_swo key).tr _ _ _ q (h1 z hz)
theorem ksort_srtd (key : α → Str) : ∀ l : List α, SrtO.Srtd (ltF key) (ksort key l)
  | [] => List.Pairwise.nil
  | x :: l => kput_srtd key x _ (ksort_srtd key l)
theorem kput_stb (key : α → Str) (x : α) : ∀ l : List α, SrtO.Srtd (ltF key) l → SrtO.Stb (ltF key) (kput key x l) (x :: l)
  | [], _ => SrtO.Stb.refl _
  | y :: l, h => by
    obtain ⟨h1, h2⟩ := List.pairwise_cons.mp h
    unfold kput
    split
    · rename_i q
      have a : SrtO.Stb (ltF key) ([y] ++ kput key x l) ([y] ++ (x :: l)) := (SrtO.Stb.refl [y]).app (kput_stb key x l h2)
      have b : SrtO.Stb (ltF key) ([y] ++ [x]) ([x] ++ [y]) := SrtO.Stb.swap (ltF_swo key) fun a ha b hb => by
        rw [List.mem_singleton.mp ha, List.mem_singleton.mp hb]
        exact q
      exact a.trans (b.app (SrtO.Stb.refl l))
    · exact SrtO.Stb.refl _
theorem ksort_stb (key : α → Str) : ∀ l : List α, SrtO.Stb (ltF key) (ksort key l) l
  | [] => SrtO.Stb.refl _
  | x :: l => (kput_stb key x _ (ksort_srtd key l)).trans ((SrtO.Stb.refl [x]).app (ksort_stb key l))
/-- the only one -/
theorem ksort_uniq {key : α → Str} {l m : List α} (h1 : SrtO.Srtd (ltF key) m) (h2 : SrtO.Stb (ltF key) m l) : m = ksort key l :=
  SrtO.stb_uniq (ltF_swo key) h1 (ksort_srtd key l) (h2.trans ⟨(ksort_stb key l).perm.symm, fun x => ((ksort_stb key l).cls x).symm⟩)
theorem kput_rel {ka : α → Str} {kb : β → Str} {R : α → β → Prop} (hk : ∀ a b, R a b → ka a = kb b) {x : α} {y : β} (hx : R x y) : ∀ {l : List α} {m : List β}, Paired R l m → Paired R (kput ka x l) (kput kb y m)
  | _, _, .nil => .cons hx .nil
  | _, _, .cons (a := a) (b := b) h t => by
    unfold kput
    rw [hk _ _ h, hk _ _ hx]
    split
    · exact .cons h (kput_rel hk hx t)
    · exact .cons hx (.cons h t)
theorem ksort_rel {ka : α → Str} {kb : β → Str} {R : α → β → Prop} (hk : ∀ a b, R a b → ka a = kb b) : ∀ {l : List α} {m : List β}, Paired R l m → Paired R (ksort ka l) (ksort kb m)
  | _, _, .nil => .nil
  | _, _, .cons h t => kput_rel hk h (ksort_rel hk t)
end
/-! ### the items of a tuple, of a list -/
section
variable {prog : Program} {w : World} {A : Around} {E : Value → Shared → Prop} {s : Shared}
theorem collect_tup {l : Addr} {vs : List Value} {Q : List Value → Shared → Prop} (hl : IsTup s.heap l vs.toArray)
    (h : Q vs { s with heap := (s.heap.push (seqObj "list" #[] 0)).update s.heap.objs.size (Obj.mapSeq (· ++ vs.toArray)) }) (hsz : vs.length ≤ sizeLine) :
    wpAny (model prog w) A (collect (.ref l)) Q E s := by
  obtain ⟨o, ho, hc, n, hd⟩ := id hl
  unfold collect
  refine wpAny_bind (wpAny_runValue (codeAny_builtin entry_proto_collect' ?_))
  show wpAny _ _ (do again (.builtin "list.__iadd__" ⟨[← newList [], .ref l], []⟩)) _ _ s
  refine wpAny_bind (wpAny_newList (wpAny_pure ⟨Code.quiet_builtin _ (by decide +kernel), codeAny_builtin entry_list_iadd' ?_⟩))
  show wpAny _ _ (Builtin.List.listExtendWith (.ref s.heap.objs.size) (.ref l) (.ref s.heap.objs.size)) _ _ { s with heap := s.heap.push (seqObj "list" #[] 0) }
  unfold Builtin.List.listExtendWith
  have ho' : (s.heap.push (seqObj "list" #[] 0)).get? l = some o := Heap.get?_push_of_some _ ho
  refine wpAny_bind (wpAny_typeOf (T := "tuple") ⟨o, ho', hc⟩ ?_)
  have ht : (Value.type "tuple" == Value.type "tuple") = true := by rfl
  rw [if_pos (by rw [ht]; simp)]
  refine wpAny_bind (listItems_at ho' hd ?_)
  refine wpAny_bind (listItems_at (xs := #[]) (n := 0) (Heap.get?_push_size _ rfl) rfl ?_)
  rw [if_neg (by simp)]
  refine wpAny_bind (listUpdate_at (xs := #[]) (n := 0) (Heap.get?_push_size _ rfl) rfl ?_ (Nat.zero_le _) (by show (#[] ++ vs.toArray).size ≤ sizeLine + 1; simp only [Array.size_append, List.size_toArray, List.length_nil]; omega))
  refine wpAny_pure ?_
  show wpAny (model prog w) A (do
      let o ← load s.heap.objs.size
      match o.data with
      | .seq xs _ => pure xs.toList
      | _ => unsupported "internal:collect") Q E { s with heap := (s.heap.push (seqObj "list" #[] 0)).update s.heap.objs.size (Obj.mapSeq (· ++ vs.toArray)) }
  refine wpAny_bind (wpAny_load (get?_update_seq (Heap.get?_push_size _ rfl) _) ?_)
  show wpAny _ _ (pure ((#[] : Array Value) ++ vs.toArray).toList) Q E _
  rw [show ((#[] : Array Value) ++ vs.toArray).toList = vs by simp]
  exact wpAny_pure h
theorem sorted_of_tup {l : Addr} {vs : List Value} {kw : List (Str × Value)} {Q : Value → Shared → Prop} (hl : IsTup s.heap l vs.toArray) (hL : vs.length ≤ sizeLine) (ha1 : argsOk "sorted" ⟨[.ref l], kw⟩) (ha2 : ∀ x, argsOk "list.sort" ⟨[.ref x], kw⟩)
    (body : ∀ E' : Value → Shared → Prop, wpAny (model prog w) A.in1.in1 (Builtin.«list.sort» ⟨[.ref (s.heap.objs.size + 1)], kw⟩) (fun f s' => f = .done (.ret .none) ∧ Q (.ref (s.heap.objs.size + 1)) s') E' { s with heap := PySem.W.copyHeap s.heap vs }) :
    wpAny (model prog w) A (call (.builtin "sorted") [.ref l] kw) Q E s := by
  refine call_function_entry_kw kind_sorted plain_sorted entry_sorted ha1 ?_
  unfold Builtin.«sorted»
  refine wpAny_bind (m := checkCount "sorted" 1 1 _) (wpAny_pure ?_)
  refine wpAny_bind (collect_tup hl ?_ hL)
  refine wpAny_bind (wpAny_newList ?_ hL)
  have hsz : ((s.heap.push (seqObj "list" #[] 0)).update s.heap.objs.size (Obj.mapSeq (· ++ vs.toArray))).objs.size = s.heap.objs.size + 1 := by
    rw [Heap.size_update, size_push']
  show wpAny _ _ _ _ _ { s with heap := PySem.W.copyHeap s.heap vs }
  rw [hsz]
  refine wpAny_bind (wpAny_holding (wpAny_call_entry_kw slot_list_sort ⟨_, PySem.W.copyHeap_at s.heap vs, rfl⟩ entry_list_sort ?body (ha2 _)))
  case body =>
    show wpAny (model prog w) A.in1.in1 (Builtin.«list.sort» ⟨[.ref (s.heap.objs.size + 1)], kw⟩) _ _ _
    refine wpAny_mono (body _) (fun f s' hf => ?_) fun _ _ e => e
    obtain ⟨rfl, hq⟩ := hf
    exact ⟨_, rfl, wpAny_pure ⟨_, rfl, hq⟩⟩
end
/-! ### the rule -/
/-- what f answers to vs from H on -/
def Calls (P : Program) (w : World) (K : PySem.W.Frag) (mg : Str → Option Value) (base : Heap) (k : Nat) (f : Addr) (H : Hp) (vs : List V) (W : VK) : Prop :=
  ∀ (A : Around) (outer : List Env) (s : Shared) (us : List Value), Room k A → Env0 P w K mg base A outer s H → Vals vs us → codeAny (model P w) A (.call (.ref f) ⟨us, []⟩) (CR CX0 outer P w H s W (fun _ _ _ => False)) s
def rSortKey (X : Cx) (k : Nat) : List V → List V → Hp → VK → Prop := fun xs zs H Q => ∃ (a : Addr) (vs : List V) (ks : List Str) (f : Addr), xs = [.ref a] ∧ zs = [.ref f] ∧ (SqT X.K H a vs ∨ SqL X.K H a vs) ∧ ks.length = vs.length ∧
  (∀ (i : Nat) (v : V) (z : Str), vs[i]? = some v → ks[i]? = some z → ∀ H1, Ex H H1 → Calls X.prog X.w X.K X.mg X.base k f H1 [v] fun u H2 => u = .str z ∧ Ex H1 H2) ∧
  ∀ (H1 : Hp) (l : Addr), Ex H H1 → H1 l = none → Q (.ref l) (upd H1 l (.lst ((ksort (·.1) (ks.zip vs)).map (·.2))))
theorem vals_snd {vs : List V} {its : List Value} (r : Vals vs its) : ∀ (ks : List Str), Paired (fun (p : Str × V) (q : Str × Value) => p.1 = q.1 ∧ RelV p.2 q.2) (ks.zip vs) (ks.zip its) := by
  induction r with
  | nil => intro ks; simp only [List.zip_nil_right]; exact .nil
  | cons h t ih =>
    intro ks
    cases ks with
    | nil => exact .nil
    | cons k ks => exact .cons ⟨rfl, h⟩ (ih ks)
theorem snd_vals : ∀ {l : List (Str × V)} {m : List (Str × Value)}, Paired (fun (p : Str × V) (q : Str × Value) => p.1 = q.1 ∧ RelV p.2 q.2) l m → Vals (l.map (·.2)) (m.map (·.2))
  | _, _, .nil => .nil
  | _, _, .cons h t => .cons h.2 (snd_vals t)
section
variable {X : Cx} {k j : Nat}
theorem cr_sortKey (hr : Room (k + 2) X.A) : CallRK X (.builtin "sorted") [Str.ofString "key"] (rSortKey X k) := by
  intro pins s σ H xs zs us ws Q I r1 r2 h
  obtain ⟨a, vs, ks, f, rfl, rfl, hs, hlen, turn, hQ⟩ := h
  obtain ⟨u, us', e1, e2, e3⟩ : ∃ u us', us = u :: us' ∧ u = .ref a ∧ us' = [] := by
    cases r1 with
    | cons h t =>
      cases t with
      | nil => exact ⟨_, _, rfl, h, rfl⟩
  obtain ⟨v, ws', g1, g2, g3⟩ : ∃ u us', ws = u :: us' ∧ u = .ref f ∧ us' = [] := by
    cases r2 with
    | cons h t =>
      cases t with
      | nil => exact ⟨_, _, rfl, h, rfl⟩
  subst e1 e2 e3 g1 g2 g3
  obtain ⟨its, rv, hL, hgo⟩ : ∃ its : List Value, Vals vs its ∧ its.length ≤ sizeLine ∧ ∀ {Q : Value → Shared → Prop},
      (∀ E' : Value → Shared → Prop, wpAny (model X.prog X.w) X.A.in1.in1 (Builtin.«list.sort» ⟨[.ref (s.heap.objs.size + 1)], [(Str.ofString "key", .ref f)]⟩) (fun f s' => f = .done (.ret .none) ∧ Q (.ref (s.heap.objs.size + 1)) s') E' { s with heap := PySem.W.copyHeap s.heap its }) →
      wpAny (model X.prog X.w) X.A (call (.builtin "sorted") [.ref a] [(Str.ofString "key", .ref f)]) Q X.xe s := by
    rcases hs with hs | hs
    · obtain ⟨its, rv, pl, hz⟩ := I.tuple hs
      have hL : its.length ≤ sizeLine := by rw [← rv.length]; exact hz
      exact ⟨its, rv, hL, fun body => sorted_of_tup pl hL (ksk_s1 _ _) (fun _ => ksk_l1 _ _) body⟩
    · obtain ⟨its, rv, pl, hz⟩ := I.list hs
      have hL : its.length ≤ sizeLine := by rw [← rv.length]; exact hz
      exact ⟨its, rv, hL, fun body => PySem.W.sorted_of_sort pl.isList hL (ksk_s1 _ _) (fun _ => ksk_l1 _ _) body⟩
  show wpAny (model X.prog X.w) X.A (call (.builtin "sorted") [.ref a] [(Str.ofString "key", .ref f)]) _ _ s
  refine hgo fun E' => ?_
  rw [ksk_t1]
  have hfs : ∀ b ∈ frs X.stack, b < s.heap.objs.size := fun b hb => by
    rcases List.mem_cons.mp (I.stkSub b hb) with e | hb
    · rw [e]
      exact I.lt
    · exact Nat.lt_of_not_le fun z => I.nofs z hb
  have J0 : Jk X.prog X.w (frs X.stack) H s (Ex H) [(s.heap.objs.size + 1, seqObj "list" its.toArray 0)] { s with heap := PySem.W.copyHeap s.heap its } :=
    ⟨H, rfl, I.bare, Un.kept fun _ _ => PySem.W.copyHeap_old, I.hok.kept fun _ _ => PySem.W.copyHeap_old, Ex.refl H, fun p hp => by
      rw [List.mem_singleton.mp hp]
      exact ⟨PySem.W.copyHeap_at _ _, I.hok.fresh (Nat.le_succ _), Nat.le_succ _⟩, by simp⟩
  refine sort_tree (ks := ks) J0 (by rw [hlen, rv.length]) hL (fun i v z hv hz ow' s1 J' => ?_) fun s' out cc J' hout => ⟨rfl, ?_⟩
  · obtain ⟨x, hx, rx⟩ : ∃ x, vs[i]? = some x ∧ RelV x v := by
      have hi : i < vs.length := by
        rw [rv.length]
        exact (List.getElem?_eq_some_iff.mp hv).1
      obtain ⟨u, hu, r⟩ := rv.get (List.getElem?_eq_getElem hi)
      rw [hv] at hu
      cases hu
      exact ⟨_, List.getElem?_eq_getElem hi, r⟩
    obtain ⟨H1, h1, h2, h3, h4, h5, h6, h7⟩ := J'
    have e0 : Env0 X.prog X.w X.K X.mg X.base X.A.in1.in1 X.stack s1 H1 := by
      have I1 : Inv X pins σ H1 s1 := by
        obtain ⟨hh, g, d, t, os⟩ := s1
        have h1 : os = s.os := h1
        subst h1
        exact I.call (h' := hh) (g' := g) (d' := d) (t' := t) (ch := []) h3 h4 h2 (fun b z => absurd z (by simp))
      have e := I1.env0
      exact ⟨e.frames, e.mod, e.bs, e.bsz, e.funs, e.frf, e.hok, e.bare⟩
    refine wpAny_call (codeAny_mono (turn i x z hx hz H1 h5 X.A.in1.in1 X.stack s1 [v] hr.in1.in1 e0 (.cons rx .nil)) fun r s2 hq => ?_)
    cases r with
    | error e => exact hq.elim
    | ok fl =>
      cases fl with
      | next => exact False.elim hq
      | brk => exact False.elim hq
      | cont => exact False.elim hq
      | ret u =>
        obtain ⟨v', H2, os2, b2, un2, hok2, rv2, rfl, ex2⟩ := hq
        obtain ⟨t, rfl⟩ := rv2
        refine ⟨⟨H2, os2.trans h1, b2, h3.trans un2, hok2, h5.trans ex2, fun p hp => ?_, h7⟩, t, rfl⟩
        obtain ⟨q1, q2, q3⟩ := h6 p hp
        exact ⟨un2.keep _ _ q1 q2 (fun z => absurd (hfs _ z) (Nat.not_lt.mpr q3)) (by simp), un2.free _ _ q1 q2 (by simp), q3⟩
  · obtain ⟨H1, h1, h2, h3, h4, h5, h6, h7⟩ := J'
    obtain ⟨q1, q2, q3⟩ := h6 _ List.mem_cons_self
    obtain ⟨qs, k1, k2, rfl⟩ := hout
    have eq : qs = ksort (·.1) (ks.zip its) := ksort_uniq (key := fun p : Str × Value => p.1) k1 k2
    have rel : Vals ((ksort (·.1) (ks.zip vs)).map (·.2)) (qs.map (·.2)) := by
      rw [eq]
      exact snd_vals (ksort_rel (fun _ _ h => h.1) (vals_snd rv ks))
    have hz2 : ((ksort (·.1) (ks.zip vs)).map (·.2)).length ≤ sizeLine := by
      rw [List.length_map, ksort_len, List.length_zip, hlen, Nat.min_self, rv.length]
      exact hL
    have na : ∀ b u, s.heap.get? b = some u → b ≠ s.heap.objs.size + 1 := fun b u e => Nat.ne_of_lt (Nat.lt_succ_of_lt (Heap.lt_size e))
    have nt : ∀ b u, H1 b = some u → b ≠ s.heap.objs.size + 1 := fun b u e => ne_of_none e q2
    refine I.after ⟨.ref (s.heap.objs.size + 1), upd H1 (s.heap.objs.size + 1) (.lst ((ksort (·.1) (ks.zip vs)).map (·.2))), h1, h2, ⟨h3.keep, h3.slot, fun b o e n x => by rw [upd_ne (na b o e)]; exact h3.free b o e n x, h3.there,
      fun b xs e => by rw [upd_ne (nt b _ (h3.tups b xs e))]; exact h3.tups b xs e, fun b o u e => by rw [upd_ne (nt b _ (h3.frzs b o u e))]; exact h3.frzs b o u e, fun b ps e => ?_⟩, fun b u e => ?_, rfl, hQ H1 _ h5 q2⟩
    · obtain ⟨more, q⟩ := h3.tbls b ps e
      exact ⟨more, by rw [upd_ne (nt b _ q)]; exact q⟩
    · by_cases hb : b = s.heap.objs.size + 1
      · subst hb
        rw [upd_same] at e
        cases e
        exact ⟨hz2, _, cc, rel, q1⟩
      · rw [upd_ne hb] at e
        refine (h4 b u e).stay (fun _ _ _ q => q) (fun d q => ?_) fun d xs q => ?_
        · rw [upd_ne (nt d _ q)]
          exact q
        · rw [upd_ne (nt d _ q)]
          exact q
end
end Sx
end
section
set_option maxRecDepth 100000
set_option maxHeartbeats 2000000
/-! lambdas as data; defs that hold lambdas -/
namespace Sx
open PySem PySem.Spec PyProof.Rows L2 LamX NdefX
/-- the lambda that X's def makes -/
def LamV (X : Cx) (params : Arguments) (body : Expr) (scope : Scope) : Hp → V → Prop := fun H u => ∃ f c', u = .ref f ∧ H f = some (LnO f (lamF X params scope c') body) ∧ H c' = some (CodeO c' (X.env.qual ++ "<lambda>"))
section
variable {X : Cx} {c : Cs} {Fr H H' : Hp} {G : List (V × D)} {M : Mm} {env : En} {e : Expr} {d : D} {ds : List D} {u v : V} {params : Arguments} {body : Expr} {scope : Scope} {pos p1 p2 kp : Pos} {x : Str} {k j : Nat}
theorem LamV.im (h : LamV X params body scope H u) (i : IM H H') : LamV X params body scope H' u := by
  obtain ⟨f, c', e, h1, h2⟩ := h
  exact ⟨f, c', e, i _ _ h1 rfl, i _ _ h2 rfl⟩
theorem rp_lam : Rp c H (.x (LamV X params body scope)) u ↔ LamV X params body scope H u := by
  rw [rp_x]
  exact ⟨fun ⟨H0, i, h⟩ => h.im i, fun h => ⟨H, IM.refl H, h⟩⟩
def lamFB (sc scope : Scope) : Bool := scope.names.all fun y => !decide (y.2 = .free) || decide (sc.names.lookup y.1 = some .cell) || decide (sc.names.lookup y.1 = some .free)
theorem lamFB_ok {sc scope : Scope} (h : lamFB sc scope = true) : ∀ y ∈ scope.names, y.2 = .free → sc.names.lookup y.1 = some .cell ∨ sc.names.lookup y.1 = some .free := fun y hy e => by
  have q := List.all_eq_true.mp h y hy
  simp only [Bool.or_eq_true, Bool.not_eq_true', decide_eq_false_iff_not, decide_eq_true_eq] at q
  rcases q with (q | q) | q
  · exact absurd e q
  · exact .inl q
  · exact .inr q
/-- a lambda made; its def's table is at hand -/
theorem v_lam {P cc : Addr} {q : Str} (i : Nat) (TB : TabB X.base X.mg cc P) (hcode : X.env.code = .ref cc) (hM : M[i]? = some (P, .tab q) := by rfl) (hq : q = X.env.qual ++ "<lambda>" := by rfl) (hdef : defaultsOf params X.env = ([], []) := by rfl)
    (hfr : lamFB X.env.scope scope = true := by rfl) : Pv X c Fr G M env (.Lambda params body scope pos) (.x (LamV X params body scope)) := fun σ H A Q k pins s I => by
  subst hq
  have hfree := lamFB_ok hfr
  have hT : TabS H P (X.env.qual ++ "<lambda>") := (A.ob _ (List.mem_of_getElem? hM)).2
  have hP := (A.ob _ (List.mem_of_getElem? hM)).1
  have hP : Fr P = none := hP
  obtain ⟨ps, hps, _⟩ := id hT
  refine lam_made I TB hcode hT hdef (fun y hy e => (hfree y hy e).elim (fun z => I.ok.has _ (.inl z)) fun z => I.ok.has _ (.inr z)) fun f c' H1 s' I1 hk hT1 h1 h2 => ?_
  have im : IM H H1 := fun b o e i => hk b o (fun z => by
    rw [z, hps] at e
    cases e
    cases i) e
  have A1 : At c Fr G M env σ H1 := by
    refine ⟨fun b o e => hk b o (fun z => by
      rw [z, hP] at e
      cases e) (A.fr b o e), fun p hp => (A.gh p hp).im im, fun p hp => ⟨(A.ob p hp).1, ?_⟩, A.nd, fun i d h => let ⟨v, h1, h2⟩ := A.sl i d h; ⟨v, h1, h2.im im⟩, A.ln⟩
    by_cases hb : p.1 = P
    · have e : p = (P, .tab (X.env.qual ++ "<lambda>")) := by
        obtain ⟨n, hn⟩ := List.mem_iff_getElem?.mp hp
        have e1 : (M.map (·.1))[n]? = some P := by
          rw [List.getElem?_map, hn]
          exact congrArg some hb
        have e2 : (M.map (·.1))[i]? = some P := by
          rw [List.getElem?_map, hM]
          rfl
        have := nd_ix A.nd e1 e2
        subst this
        rw [hM] at hn
        exact (Option.some.inj hn).symm
      rw [e]
      exact hT1
    · obtain ⟨u, hu, _⟩ := (A.ob p hp).2.there
      exact (A.ob p hp).2.keep ((hk _ _ hb hu).trans hu.symm) im
  exact ⟨.ref f, H1, I1, rfl, k _ H1 A1 im (rp_lam.mpr ⟨f, c', rfl, h1, h2⟩)⟩
/-- the context of a lambda's body -/
abbrev lamX (X : Cx) (params : Arguments) (scope : Scope) (N : List Str) (f c' : Addr) (A : Around) (outer : List Env) (s : Shared) (H : Hp) (E : XK) : Cx := (ncx CX0 X.prog X.w X.K X.mg X.base N (lamF X params scope c') f A outer s H E).nox
/-- a lambda of one parameter that captures nothing -/
theorem lam_calls {r : D} (S : NScope [x] [x] [] scope) (hb : ∀ (q : Str) (c' : Addr) (pm ctv u : Value), bindArgs (PySem.W.kla_fn "<lambda>" q params body scope [] pm (.ref c') ctv) ⟨[u], []⟩ = pure [(x, u)]) (hcl : cloFrom X.env.cells scope.names [] = [])
    (h : LamV X params body scope H u) (rv : Rp c H d v)
    (hbody : ∀ (A : Around) (outer : List Env) (s : Shared) (f c' : Addr) (E : XK), Room k (A.deeper (envF (lamF X params scope c') f s.heap.objs.size)) → Pv (lamX X params scope [x] f c' A outer s H E) c H [] [] [some d] body r) :
    ∃ f, u = .ref f ∧ Calls X.prog X.w X.K X.mg X.base (k + 1) f H [v] fun z H2 => Rp c H2 r z ∧ Ex H H2 := by
  obtain ⟨f, c', rfl, h1, h2⟩ := h
  refine ⟨f, rfl, fun A outer s us hr e0 rus => ?_⟩
  refine lam_run (N := [x]) (ps := [x]) (fr := []) (ws := []) (F := lamF X params scope c') S (fun pm ctv us hl => ?_) hr e0 h1 h2 ⟨rfl, fun y a e => ?_, fun x y a e => ?_, fun i y e => by simp at e⟩ rus rfl fun hr2 => ?_
  · obtain ⟨u, rfl⟩ : ∃ u, us = [u] := by
      match us, hl with
      | [u], _ => exact ⟨u, rfl⟩
    show bindArgs (PySem.W.kla_fn "<lambda>" (X.env.qual ++ "<lambda>") params body scope (cloFrom X.env.cells scope.names []) pm (.ref c') ctv) ⟨[u], []⟩ = _
    rw [hcl, hb]
    rfl
  · have e : (cloFrom X.env.cells scope.names []).lookup y = some a := e
    rw [hcl] at e
    cases e
  · have e : (cloFrom X.env.cells scope.names []).lookup x = some a := e
    rw [hcl] at e
    cases e
  · refine hbody A outer s f c' _ hr2 (startF [x] [v] []) H ?_ _ fun z H2 A2 i2 rz => ⟨rz, A2.fr⟩
    exact ⟨Ex.refl H, fun p hp => (nomatch hp), fun p hp => (nomatch hp), List.nodup_nil, fun i d' e => by
      match i, e with
      | 0, e =>
        cases e
        exact ⟨v, rfl, rv⟩
      | n + 1, e => simp at e, rfl⟩
theorem zipK {key : D → Str} : ∀ {ds : List D} {vs : List V}, RpL c H ds vs → Paired (fun (d : D) (p : Str × V) => key d = p.1 ∧ Rp c H d p.2) ds ((ds.map key).zip vs)
  | [], vs, h => by
    rw [rpl_nil.mp h]
    exact .nil
  | d :: ds, vs, h => by
    obtain ⟨v, r, rfl, h1, h⟩ := rpl_cons.mp h
    exact .cons ⟨rfl, h1⟩ (zipK h)
theorem unzipK {key : D → Str} : ∀ {ds : List D} {ps : List (Str × V)}, Paired (fun (d : D) (p : Str × V) => key d = p.1 ∧ Rp c H d p.2) ds ps → RpL c H ds (ps.map (·.2))
  | _, _, .nil => rpl_nil.mpr rfl
  | _, _, .cons h t => rpl_cons.mpr ⟨_, _, rfl, h.2, unzipK t⟩
/-- sorted(e, key=a lambda); e a tuple (or a list that is at hand) -/
theorem l_sortKey {φ : Hp → V → Prop} {lam : Expr} (key : D → Str) (hm : X.mg "sorted" = none) (hK : X.K = c.K) (hr : Room (k + 3) X.A) (h : Pv X c Fr G M env e (.t ds)) (hl : Pv X c Fr G M env lam (.x φ))
    (turn : ∀ d ∈ ds, ∀ (H : Hp) (u v : V), Ex Fr H → Rp c H (.x φ) u → Rp c H d v → ∃ f, u = .ref f ∧ Calls X.prog X.w X.K X.mg X.base (k + 1) f H [v] fun z H2 => Rp c H2 (.s (key d)) z ∧ Ex H H2)
    (hf : ∀ (H : Hp) (u : V), Rp c H (.x φ) u → ∃ f, u = .ref f) (hst : starEach [e] X.env = (false, eval e X.env) :: starEach [] X.env := by rfl)
    (hg : Gl X "sorted" := by rfl) (he : backTo p2 (starEach [e] X.env) = (false, eval e X.env) :: backTo p2 (starEach [] X.env) := by rfl) (hpl : (backTo p2 (starEach [e] X.env)).any (·.1) = false := by rfl)
    (hall : (backToKw p2 (keywordEach [⟨some "key", lam, kp⟩] X.env)).all (·.1.isSome) = true := by rfl) (hnone : (backToKw p2 (keywordEach [⟨some "key", lam, kp⟩] X.env)).any (·.1.isNone) = false := by rfl) (hks : (backToKw p2 (keywordEach [⟨some "key", lam, kp⟩] X.env)).filterMap (·.1) = [Str.ofString "key"] := by rfl) :
    Pl X c Fr G M env (.Call (.Name "sorted" p1) [e] [⟨some "key", lam, kp⟩] p2) (ksort key ds) := fun σ H A Q q => by
  refine (pe_callBK (X := X) (id := "sorted") (cr_sortKey (k := k + 1) hr) hg hm rfl (pa_cons we pa_nil hst) (pk_cons we pk_nil) (by decide) (by decide) he hpl hall hnone hks).w (h σ H A _ fun v H1 A1 i1 r => ?_)
  obtain ⟨a, vs, rfl, h1, h2⟩ := rp_t.mp r
  refine hl σ H1 A1 _ fun u H2 A2 i2 ru => ?_
  have r2 := r.im i2
  obtain ⟨a', vs', e', k1, k2⟩ := rp_t.mp r2
  cases e'
  have hl2 := k2.len
  obtain ⟨f, rfl⟩ := hf H2 u ru
  refine ⟨a, vs', ds.map key, f, rfl, rfl, .inl (hK ▸ k1), by rw [List.length_map, hl2], fun i v z hv hz H3 e3 => ?_, fun H3 l e3 hn => ?_⟩
  · obtain ⟨d, hd, rd⟩ := k2.getV hv
    rw [List.getElem?_map, hd] at hz
    cases hz
    obtain ⟨f', ef, hc⟩ := turn d (List.mem_of_getElem? hd) H3 (.ref f) v (A2.fr.trans e3) (ru.im e3.im) (rd.im e3.im)
    cases ef
    intro A outer s us hr e0 rus
    refine codeAny_mono (hc A outer s us hr e0 rus) fun r s' hq => ?_
    cases r with
    | error e => exact hq
    | ok fl =>
      cases fl with
      | next => exact hq
      | brk => exact hq
      | cont => exact hq
      | ret u =>
        obtain ⟨v', H2, os2, b2, un2, hok2, rv2, rz, ex2⟩ := hq
        exact ⟨v', H2, os2, b2, un2, hok2, rv2, rp_v.mp rz, ex2⟩
  · have A3 : At c Fr G M env σ H3 := A2.ex e3
    refine q l _ (A3.new hn (Ex.new hn) ⟨_, upd_same, ?_⟩) (((i1.trans i2).trans e3.im).trans (IM.new hn))
    exact (unzipK (ksort_rel (fun _ _ h => h.1) (zipK (k2.im e3.im)))).im (IM.new hn)
end
end Sx
end
section
set_option maxRecDepth 100000
set_option maxHeartbeats 1000000
namespace Sx
open PySem PySem.Spec PyProof.Rows L2 LamX NdefX
section
variable {P : Program} {w : World} {c : Cs} {mg : Str → Option Value} {base : Heap} {k : Nat} {x qual : Str} {params : Arguments} {body : List Stmt} {scope : Scope} {f : Addr} {fd : FuncData} {ps N : List Str} {dvs : List V} {sp : Sp}
/-- where the table of the def at f stands -/
def TbD (c : Cs) (mg : Str → Option Value) (base : Heap) (f tab : Addr) : Prop := ∀ (oc : Value) (od : Option Addr) (fd : FuncData) (osl : Array (Option Value)), c.K.lookup f = some ⟨oc, od, .func fd, osl⟩ → ∃ cc, fd.code = .ref cc ∧ TabB base mg cc tab
theorem TbD.of {tab : Addr} (t : TbD c mg base f tab) (F : FunD c.K x qual params body scope dvs [] f fd) : ∃ cc, fd.code = .ref cc ∧ TabB base mg cc tab := by
  obtain ⟨oc, od, dV, kV, doc, pm, an, cdv, ct, osl, e, lk, _⟩ := F.ex
  exact t _ _ _ _ lk
theorem fnR_ofC (F : FunD c.K x qual params body scope dvs [] f fd) (S : FnScope N ps scope)
    (hb : ∀ (kV doc pm : Value) (an : Option Addr) (cdv ct : Value) (us : List Value), us.length = ps.length → bindArgs (PySem.W.fnOf x qual params body scope .none kV doc pm an cdv ct) ⟨us, []⟩ = pure (ps.zip us)) (hd : dvs = [])
    (len : ∀ vs H Q E, sp vs H Q E → vs.length = ps.length)
    (h : ∀ (cdv : Value), fd.code = cdv → ∀ (A : Around) (outer : List Env) (s : Shared) (H : Hp) (vs : List V) (Q : VK) (E : XK), Room k (A.deeper (envOfC qual scope s.heap.objs.size f cdv)) → sp vs H Q E →
      WB (cxOf CX0 P w c.K mg base N qual scope f cdv A outer s H E).nox body { nx := fun _ H' => Q .non H', rt := Q } (start N vs) H) : FnR P w c.K mg base CX0 (k + 1) f sp := by
  subst hd
  have G : FnOk P w c.K mg base CX0 (k + 1) f fd ps sp := by
    obtain ⟨oc, od, dV, kV, doc, pm, an, cdv, ct, osl, rfl, lk, hcd, _, _⟩ := F.ex
    exact fn_of lk hcd S len fun A outer s H vs Q E hr hs => ⟨_, PSs.nox wb, h cdv rfl A outer s H vs Q E hr hs⟩
  exact (G.raw (F.bindsN hb) .nil).imp fun vs H Q E q => by
    rw [List.append_nil]
    exact q
/-- a def with lists that are read, objects that change -/
theorem fnMC {S : List D → List (Addr × List D) → Mm → (D → Mm → Prop) → Prop} (F : FunD c.K x qual params body scope dvs [] f fd) (Sc : FnScope N ps scope)
    (hb : ∀ (kV doc pm : Value) (an : Option Addr) (cdv ct : Value) (us : List Value), us.length = ps.length → bindArgs (PySem.W.fnOf x qual params body scope .none kV doc pm an cdv ct) ⟨us, []⟩ = pure (ps.zip us)) (hdv : dvs = [])
    (len : ∀ ds L M0 Z, S ds L M0 Z → ds.length = ps.length) (n : Nat) (hn : ps.length + n = N.length)
    (h : ∀ (cdv : Value), fd.code = cdv → ∀ (A : Around) (outer : List Env) (s : Shared) (H0 Fr : Hp) (E : XK) (ds : List D) (L : List (Addr × List D)) (M0 : Mm) (Z : D → Mm → Prop) (σ : L2.St), Room k (A.deeper (envOfC qual scope s.heap.objs.size f cdv)) → S ds L M0 Z → (∀ p ∈ L, LsAt c Fr p.1 p.2) → At c Fr [] M0 (ds.map some ++ List.replicate n none) σ H0 →
      ∀ Q : VK, (∀ d G Mn env σ v H', Z d Mn → At c Fr G Mn env σ H' → Rp c H' d v → Q v H') →
      WB (cxOf CX0 P w c.K mg base N qual scope f cdv A outer s H0 E).nox body { nx := fun _ H' => Q .non H', rt := Q } σ H0) : FnR P w c.K mg base CX0 (k + 1) f (spM c S) := by
  refine fnR_ofC F Sc hb hdv (fun vs H Q E q => ?_) fun cdv hcv A outer s H vs Q E hr q => ?_
  · obtain ⟨ds, L, M0, Z, q, r, _⟩ := q
    rw [r.len]
    exact len ds L M0 Z q
  · obtain ⟨ds, L, M0, Z, q, r, hL, nd, ho, k0⟩ := q
    have hl := r.len
    have hl2 := len ds L M0 Z q
    let Fr : Hp := fun a => if a ∈ M0.map (·.1) then none else H a
    have fn : ∀ a, a ∉ M0.map (·.1) → Fr a = H a := fun a ha => if_neg ha
    have fy : ∀ a, a ∈ M0.map (·.1) → Fr a = none := fun a ha => if_pos ha
    have e : Ex Fr H := fun a o q => by
      by_cases ha : a ∈ M0.map (·.1)
      · rw [fy a ha] at q
        cases q
      · rw [fn a ha] at q
        exact q
    refine h cdv hcv A outer s H Fr E ds L M0 Z _ hr q (fun p hp => ?_) (At.start n r (by omega) e (fun p hp => ⟨fy _ (List.mem_map_of_mem hp), ho p hp⟩) nd) Q fun d G Mn env σ v H' z B rv => ?_
    · obtain ⟨vs', h1, h2⟩ := (hL p hp).2
      have hp2 : p.1 ∉ M0.map (·.1) := (hL p hp).1
      have im : IM H Fr := fun a o q i => by
        rw [fn a fun ha => ?_]
        · exact q
        · obtain ⟨p', hp', rfl⟩ := List.mem_map.mp ha
          obtain ⟨u, hu, iu⟩ := (ho p' hp').there
          rw [hu] at q
          cases q
          rw [iu] at i
          cases i
      refine ⟨vs', ?_, h2.im im⟩
      rcases h1 with h1 | ⟨o, h1⟩
      · exact .inl ((fn _ hp2).trans h1)
      · exact .inr ⟨o, (fn _ hp2).trans h1⟩
    · refine k0 d Mn v H' z rv B.nd (fun p hp => (B.ob p hp).2) (fun p hp => ?_) (fun a o ha q => B.fr a o ((fn a ha).trans q)) fun a o q i => ?_
      · by_cases ha : p.1 ∈ M0.map (·.1)
        · exact .inl ha
        · exact .inr ((fn _ ha).symm.trans (B.ob p hp).1)
      · refine B.fr a o ((fn a fun ha => ?_).trans q)
        obtain ⟨p', hp', rfl⟩ := List.mem_map.mp ha
        obtain ⟨u, hu, iu⟩ := (ho p' hp').there
        rw [hu] at q
        cases q
        rw [iu] at i
        cases i
end
/-! ### filed -/
theorem ksort_map {α β : Type} (key : β → Str) (g : α → β) (l : List α) : ksort key (l.map g) = (ksort (fun a => key (g a)) l).map g := by
  have put : ∀ (x : α) (l : List α), kput key (g x) (l.map g) = (kput (fun a => key (g a)) x l).map g := by
    intro x l
    induction l with
    | nil => rfl
    | cons y l ih =>
      rw [List.map_cons]
      unfold kput
      split
      · rw [List.map_cons, ih]
      · rfl
  induction l with
  | nil => rfl
  | cons x l ih =>
    show kput key (g x) (ksort key (l.map g)) = _
    rw [ih, put]
    rfl
def keyC : D → Str
  | .sl _ (.t (.v (.str h) :: _)) => h
  | _ => ("" : Str)
theorem keyC_card (r : Crd) : keyC (dCard r) = r.h := rfl
def filedM (cs : List Crd) : List Crd := ksort (·.h) cs
theorem filed_cards (cs : List Crd) : ksort keyC (cs.map dCard) = (filedM cs).map dCard := ksort_map keyC dCard cs
theorem filed_ok {cs : List Crd} (h : drwOk cs) : drwOk (filedM cs) := ⟨by unfold filedM; rw [ksort_len]; exact h.1, fun r hr => h.2 r ((ksort_perm _ _).subset hr)⟩
section
variable {P : Program} {w : World} {c : Cs} {mg : Str → Option Value} {base : Heap}
def S_filed (tab : Addr) : List D → List (Addr × List D) → Mm → (D → Mm → Prop) → Prop := fun ds L M0 Z => ∃ (cs : List Crd) (q : Str), ds = [dDrw cs] ∧ L = [] ∧ q = ("filed.<locals>.<lambda>" : Str) ∧ M0 = [(tab, .tab q)] ∧ drwOk cs ∧ Z = fun d Mn => d = dDrw (filedM cs) ∧ Mn = [(tab, .tab q)]
theorem ok_filed {tab : Addr} (T : Tx c mg) (B : TbD c mg base (He.ga c.K "filed") tab) : FnAt P w c.K mg base "filed" 6 (spM c (S_filed tab)) := by
  obtain ⟨hm, fd, F⟩ := T.d_filed
  obtain ⟨cc, hcc, TB⟩ := B.of F
  refine ⟨_, hm, F.kp, fnMC F sc_filed (fun _ _ _ _ _ _ us hl => match us, hl with | [_], _ => rfl) rfl (fun ds L M0 Z h => ?_) 0 rfl fun cdv hcv A0 outer s H0 Fr E ds L M0 Z σ hr h hL A Q q => ?_⟩
  · obtain ⟨cs, _, rfl, _⟩ := h
    rfl
  · obtain ⟨cs, qn, rfl, rfl, eq, rfl, hc, rfl⟩ := h
    rw [hcc] at hcv
    subst hcv
    have ho := filed_ok hc
    refine x_ret (v_make (k := false) rfl (ok_Drawer T) hr (a_cons (v_tupN T.n_tuple rfl (Pl.is (l_sortKey (k := 2) keyC T.n_sorted rfl hr (v_prop (k := false) rfl (ok_cards T) T.s_Drawer hr (v_var 0) ⟨cs, rfl, rfl⟩) (v_lam 0 TB rfl rfl eq) (fun d hd H u v e hu hv => ?_) fun H u hu => ?_) (filed_cards cs))) a_nil) ⟨filedM cs, rfl, ho.1, rfl⟩) A fun v H' A' r => q _ _ _ _ _ v H' ⟨rfl, rfl⟩ A' r
    · obtain ⟨r, hr1, rfl⟩ := List.mem_map.mp hd
      exact lam_calls (k := 2) (nscope_by (by decide +kernel)) (fun _ _ _ _ _ => rfl) rfl (rp_lam.mp hu) hv fun A1 outer1 s1 f1 c1 E1 hr1 => v_prop (k := true) rfl (ok_heading T) T.s_Card hr1 (v_var 0) ⟨r, rfl, rfl⟩
    · obtain ⟨f, _, e, _⟩ := rp_lam.mp hu
      exact ⟨f, e⟩
end
end Sx
end
section
set_option maxRecDepth 100000
set_option maxHeartbeats 2000000
/-! == and != of drawers -/
namespace Sx
open PySem PySem.Spec PyProof.Rows L2
def rDrw (c : Cs) (g : List Crd → List Crd → Bool) : R2 := fun x y H Q => ∃ cs es : List Crd, Rp c H (dDrw cs) x ∧ Rp c H (dDrw es) y ∧ drwOk cs ∧ drwOk es ∧ cs.length = es.length ∧ ∀ H', Ex H H' → Q (.bl (g cs es)) H'
section
variable {X : Cx} {c : Cs} {n : Nat}
theorem op_eqDrw (hK : X.K = c.K) (F : MtAt X.prog X.w c X.mg X.base c.drw "__eq__" n (spD c R_Drawer_eq)) (hr : Room n X.A) : OpR X (compareOp .Eq) (rDrw c fun cs es => decide (cs = es)) := by
  intro pins s σ H x y v u Q I rx ry h
  obtain ⟨cs, es, hx, hy, o1, o2, hl, k⟩ := h
  obtain ⟨g, hm, F⟩ := F
  obtain ⟨a, dx, f, rfl, h1, h2⟩ := rp_sl.mp hx
  obtain ⟨b, dy, f', rfl, k1, k2⟩ := rp_sl.mp hy
  obtain rfl : v = Value.ref a := rx
  obtain rfl : u = Value.ref b := ry
  obtain ⟨sl, od, _, J, _⟩ := SlX.slt_inst I h1
  obtain ⟨sl', od', _, J', _⟩ := SlX.slt_inst I k1
  obtain ⟨m, hF⟩ := I.fr
  rw [← hK] at hm F
  show wpAny (model X.prog X.w) X.A (richCompare .Eq (.ref a) (.ref b)) (EP X pins σ Q) X.xe s
  refine PySem.W.cmp_K (op := .Eq) (tb := .ref (c.cl false)) hr.units0 hF I.ok.mod.kin J J'.type (by simp [PySem.W.notFirst]) hm.at_ hm.fn ?_
  refine wpAny_mono (wpAny_call (SlX.run_at (Q := fun z H' => z = .bl (decide (cs = es)) ∧ Ex H H') (E := fun _ _ _ => False) (ws := [.ref a, .ref b]) F hr I.env0 (fun _ _ _ _ _ _ _ h => h.elim) I (.cons rfl (.cons rfl .nil)) ⟨[dDrw cs, dDrw es], .b (decide (cs = es)), rpl_cons.mpr ⟨_, _, rfl, hx, RpL.one hy⟩, ⟨cs, es, rfl, o1, o2, hl, rfl⟩, fun v H' e rv => ⟨rp_v.mp rv, e⟩⟩)) (fun z s' hz => ?_) fun _ _ x => x
  obtain ⟨z', H', I', rz, e1, e2⟩ := hz
  subst e1
  obtain rfl : z = .bool (decide (cs = es)) := rz
  exact ⟨.bl (decide (cs = es)), H', I', rfl, k H' e2⟩
theorem op_neDrw (hK : X.K = c.K) (FE : MtAt X.prog X.w c X.mg X.base c.drw "__eq__" n (spD c R_Drawer_eq)) (hne : PySem.W.findIn c.K (.ref c.drw) "__ne__" = some (some (.builtin "object.__ne__"))) (hi : SlX.SIsi c.K c.drw) (hr : Room (n + 1) X.A) : OpR X (compareOp .NotEq) (rDrw c fun cs es => !decide (cs = es)) := by
  intro pins s σ H x y v u Q I rx ry h
  obtain ⟨cs, es, hx, hy, o1, o2, hl, k⟩ := h
  obtain ⟨g, hm, FE⟩ := FE
  obtain ⟨a, dx, f, rfl, h1, h2⟩ := rp_sl.mp hx
  obtain ⟨b, dy, f', rfl, k1, k2⟩ := rp_sl.mp hy
  obtain rfl : v = Value.ref a := rx
  obtain rfl : u = Value.ref b := ry
  obtain ⟨sl, od, _, J, _⟩ := SlX.slt_inst I h1
  obtain ⟨sl', od', _, J', _⟩ := SlX.slt_inst I k1
  have hu : X.A.units + 64 < cLine := hr.units
  have KX : X.K.In s.heap := I.kIn
  rw [← hK] at hm FE hne hi
  have eqcall : wpAny (model X.prog X.w) X.A.in1 (call (.ref g) [.ref a, .ref b]) (fun v s' => ∃ b, v = .bool b ∧ EP X pins σ Q (.bool (!b)) s') X.xe s := by
    have e0 : Env0 X.prog X.w X.K X.mg X.base X.A.in1 X.stack s H := by
      have e := I.env0
      exact ⟨e.frames, e.mod, e.bs, e.bsz, e.funs, e.frf, e.hok, e.bare⟩
    refine wpAny_mono (wpAny_call (SlX.run_at (Q := fun z H' => z = .bl (decide (cs = es)) ∧ Ex H H') (E := fun _ _ _ => False) (ws := [.ref a, .ref b]) FE hr.in1 e0 (fun _ _ _ _ _ _ _ h => h.elim) I (.cons rfl (.cons rfl .nil)) ⟨[dDrw cs, dDrw es], .b (decide (cs = es)), rpl_cons.mpr ⟨_, _, rfl, hx, RpL.one hy⟩, ⟨cs, es, rfl, o1, o2, hl, rfl⟩, fun v H' e rv => ⟨rp_v.mp rv, e⟩⟩)) (fun z s' hz => ?_) fun _ _ x => x
    obtain ⟨z', H', I', rz, e1, e2⟩ := hz
    subst e1
    obtain rfl : z = .bool (decide (cs = es)) := rz
    exact ⟨_, rfl, .bl (!decide (cs = es)), H', I', rfl, k H' e2⟩
  have body : wpAny (model X.prog X.w) X.A.in1 (Builtin.«object.__ne__» ⟨[.ref a, .ref b], []⟩) (fun fin s' => ∃ v, fin = .done (.ret v) ∧ ∃ b, v = .bool b ∧ EP X pins σ Q (.bool b) s') X.xe s := by
    unfold Builtin.«object.__ne__»
    repeat (first
      | with_reducible refine wpAny_cRoomFor (show X.A.in1.units < cLine by show X.A.units + 1 < cLine; omega) ?_
      | (refine wpAny_bind (m := callSpecialIfBound? (.ref a) (Str.ofString "__eq__") [.ref b]) (PySem.W.ifBound_K KX J hm.at_ hm.fn (wpAny_mono eqcall (fun r s' hr => by
          obtain ⟨b, rfl, hq⟩ := hr
          repeat (first | exact ⟨_, rfl, _, rfl, hq⟩ | exact wpAny_pure ⟨_, rfl, _, rfl, hq⟩ | exact wpAny_truthy_bool ⟨_, rfl, _, rfl, hq⟩ | (refine wpAny_bind (m := truthy (.bool _)) (wpAny_truthy_bool ?_)) | wp_step)) fun _ _ e => e)))
      | wp_step)
  have one : wpAny (model X.prog X.w) X.A (tryCompare (.ref a) "__ne__" (.ref b)) (fun r s' => ∃ b, r = some (.bool b) ∧ EP X pins σ Q (.bool b) s') X.xe s := by
    have hc : wpAny (model X.prog X.w) X.A (call (.builtin "object.__ne__") [.ref a, .ref b]) (fun v s' => ∃ b, v = .bool b ∧ EP X pins σ Q (.bool b) s') X.xe s :=
      wpAny_call (codeAny_call_builtin F.cmp_object.ne.plain F.cmpEntry_ne (PySem.W.check_slot F.cmpKind_ne F.cmpSplit_ne (J.type.andThen (PySem.W.looks_mroIn KX hi.cm)) (F.cmpArgs_ne _ _) (wpAny_mono body (fun fin s' hf => by obtain ⟨v, rfl, b, rfl, q⟩ := hf; exact ⟨b, rfl, q⟩) fun _ _ h => h)))
    have hb : wpAny (model X.prog X.w) X.A (callSpecialIfBound? (.ref a) "__ne__" [.ref b]) (fun r s' => ∃ b, r = some (.bool b) ∧ EP X pins σ Q (.bool b) s') X.xe s := by
      simp only [callSpecialIfBound?, bindSpecialIfBound?]
      refine wpAny_holding (wpAny_bind (wpAny_bind (wpAny_bind (J.type.here ((PySem.W.looks_findIn KX hne).here ?_)))))
      refine wpAny_bind (wpAny_askSetting (wpAny_ite ?_))
      have fin : wpAny (model X.prog X.w) X.A (call (.builtin "object.__ne__") ([.ref a] ++ [.ref b]) >>= fun v => pure (some v)) (fun r s' => ∃ b, r = some (.bool b) ∧ EP X pins σ Q (.bool b) s') X.xe s := wpAny_bind (wpAny_mono hc (fun v s' ⟨b, e, q⟩ => wpAny_pure ⟨b, by rw [e], q⟩) fun _ _ h' => h')
      split
      · exact wpAny_bind (wpAny_of_eq (F.cmp_object.ne.bind _) (wpAny_pure (by exact fin)))
      · exact wpAny_tryCatch (wpAny_bind (wpAny_of_eq (F.cmp_object.ne.bind _) (wpAny_pure (by exact fin))))
    unfold tryCompare
    refine wpAny_bind (wpAny_mono hb (fun r s' hr => ?_) fun _ _ e => e)
    obtain ⟨b, rfl, hq⟩ := hr
    exact wpAny_pure ⟨b, rfl, hq⟩
  show wpAny (model X.prog X.w) X.A (richCompare .NotEq (.ref a) (.ref b)) (EP X pins σ Q) X.xe s
  unfold richCompare
  simp only [oneThing_ref]
  refine wpAny_holding ?_
  refine wpAny_bind (wpAny_cRoomFor hr.units0 ?_)
  rw [cmpInfo_NotEq]
  dsimp only
  refine wpAny_bind (J.type.here (wpAny_bind (J'.type.here ?_)))
  rw [show (Value.ref (c.cl false) != Value.ref (c.cl false)) = false from by simp]
  simp only [Bool.false_eq_true, if_false]
  refine wpAny_bind (wpAny_pure ?_)
  simp only [Bool.false_eq_true, if_false]
  refine wpAny_bind (wpAny_mono one (fun r s' hr => ?_) fun _ _ e => e)
  obtain ⟨b, rfl, hq⟩ := hr
  first | exact hq | exact wpAny_pure hq | exact wpAny_pure (wpAny_pure hq)
theorem rv_drw {g : List Crd → List Crd → Bool} {cs es : List Crd} (o1 : drwOk cs) (o2 : drwOk es) (hl : cs.length = es.length) : RV2 c (rDrw c g) (dDrw cs) (dDrw es) (.b (g cs es)) := fun H x y Q h1 h2 k => ⟨cs, es, h1, h2, o1, o2, hl, fun H' e => k _ H' e (rp_v.mpr rfl)⟩
end
end Sx
end
section
set_option maxRecDepth 100000
set_option maxHeartbeats 1000000
/-! is_filed -/
namespace Sx
open PySem PySem.Spec PyProof.Rows L2 LamX NdefX
section
variable {P : Program} {w : World} {c : Cs} {mg : Str → Option Value} {base : Heap}
theorem v_filed {X : Cx} {Fr : Hp} {G : List (V × D)} {M Mr : Mm} {env : En} {e : Expr} {p1 p2 : Pos} {tab : Addr} {j : Nat} {cs : List Crd} (F : FnAt X.prog X.w X.K X.mg X.base "filed" 6 (spM c (S_filed tab))) (hr : Room j X.A) (ha : Pv X c Fr G M env e (dDrw cs)) (ho : drwOk cs) (hM : M.Perm ([(tab, .tab "filed.<locals>.<lambda>")] ++ Mr)) (hk : 6 ≤ j := by decide) (hg : Gl X "filed" := by rfl)
    (hst : starEach [e] X.env = (false, eval e X.env) :: starEach [] X.env := by rfl) (hpl : (backTo p2 (starEach [] X.env)).any (·.1) = false := by rfl) : Pv X c Fr G M env (.Call (.Name "filed" p1) [e] [] p2) (dDrw (filedM cs)) :=
  Ev.pure (e_call (Z2 := fun d M' => d = dDrw (filedM cs) ∧ M'.Perm M) (L := []) F hr (a_cons ha a_nil hst) hM ⟨cs, _, rfl, rfl, rfl, rfl, ho, rfl⟩ (fun p hp => nomatch hp) (fun d Mn z => ⟨z.1, by rw [z.2]; exact hM.symm⟩) hk hg (by decide) hst hpl) fun d' M' z => z
def S_is_filed (tab : Addr) : List D → List (Addr × List D) → Mm → (D → Mm → Prop) → Prop := fun ds L M0 Z => ∃ (cs : List Crd), ds = [dDrw cs] ∧ L = [] ∧ M0 = [(tab, .tab "filed.<locals>.<lambda>")] ∧ drwOk cs ∧ Z = fun d Mn => d = .b (decide (filedM cs = cs)) ∧ Mn = [(tab, .tab "filed.<locals>.<lambda>")]
theorem ok_is_filed {tab : Addr} (T : Tx c mg) (B : TbD c mg base (He.ga c.K "filed") tab) : FnAt P w c.K mg base "is_filed" 7 (spM c (S_is_filed tab)) := by
  obtain ⟨hm, fd, F⟩ := T.d_is_filed
  refine ⟨_, hm, F.kp, fnM F sc_is_filed (fun _ _ _ _ _ _ us hl => match us, hl with | [_], _ => rfl) rfl (fun ds L M0 Z h => ?_) 0 rfl fun cdv A0 outer s H0 Fr E ds L M0 Z σ hr h hL A Q q => ?_⟩
  · obtain ⟨cs, rfl, _⟩ := h
    rfl
  · obtain ⟨cs, rfl, rfl, rfl, hc, rfl⟩ := h
    exact x_ret (v_cmp (op_eqDrw rfl (ok_Drawer_eq T) (hr.mono (by decide))) (v_filed (Mr := []) (ok_filed T B) hr (v_var 0) hc (List.Perm.refl _)) (v_var 0) (rv_drw (filed_ok hc) hc (ksort_len _ _))) A fun v H' A' r => q _ _ _ _ _ v H' ⟨rfl, rfl⟩ A' r
end
end Sx
end
section
set_option maxRecDepth 100000
set_option maxHeartbeats 1000000
/-! Drawer.without -/
namespace Sx
open PySem PySem.Spec PyProof.Rows L2 LamX NdefX
def wout (cs : List Crd) (ps : List Nat) : List Crd := ((List.range cs.length).filter fun i => decide (i ∉ ps)).filterMap (cs[·]?)
theorem wout_cards (cs : List Crd) (ps : List Nat) : ((List.range (cs.map dCard).length).filter fun i => decide (i ∉ ps)).map (fun i => (cs.map dCard).getD i .n) = (wout cs ps).map dCard := by
  unfold wout
  rw [List.length_map]
  have key : ∀ l : List Nat, (∀ i ∈ l, i < cs.length) → l.map (fun i => (cs.map dCard).getD i .n) = (l.filterMap (cs[·]?)).map dCard := by
    intro l
    induction l with
    | nil => intro _; rfl
    | cons i l ih =>
      intro h
      have hi := h i List.mem_cons_self
      rw [List.map_cons, ih fun j hj => h j (List.mem_cons_of_mem _ hj), List.filterMap_cons, List.getElem?_eq_getElem hi]
      simp only [List.map_cons]
      rw [List.getD_eq_getElem?_getD, List.getElem?_map, List.getElem?_eq_getElem hi]
      rfl
  exact key _ fun i hi => List.mem_range.mp (List.mem_filter.mp hi).1
theorem wout_sub (cs : List Crd) (ps : List Nat) : (wout cs ps).Sublist cs := by
  have e : (List.range cs.length).filterMap (cs[·]?) = cs := by
    have key : ∀ l : List Nat, (∀ i ∈ l, i < cs.length) → (l.filterMap (cs[·]?)).map some = l.map (cs[·]?) := by
      intro l
      induction l with
      | nil => intro _; rfl
      | cons i l ih =>
        intro h
        have hi := h i List.mem_cons_self
        rw [List.filterMap_cons, List.getElem?_eq_getElem hi]
        simp only [List.map_cons]
        rw [ih fun j hj => h j (List.mem_cons_of_mem _ hj), List.getElem?_eq_getElem hi]
    refine List.map_inj_right (f := some) (fun x y h => Option.some.inj h) |>.mp ?_
    rw [key _ fun i hi => List.mem_range.mp hi]
    refine List.ext_getElem? fun i => ?_
    rw [List.getElem?_map, List.getElem?_map]
    by_cases hi : i < cs.length
    · rw [List.getElem?_range hi, List.getElem?_eq_getElem hi]
      simp [hi]
    · rw [List.getElem?_eq_none (by simpa using hi), List.getElem?_eq_none (by omega)]
      rfl
  have := (List.filter_sublist (p := fun i => decide (i ∉ ps)) (l := List.range cs.length)).filterMap (cs[·]?)
  rw [e] at this
  exact this
theorem wout_ok {cs : List Crd} {ps : List Nat} (h : drwOk cs) : drwOk (wout cs ps) := ⟨Nat.le_trans (wout_sub cs ps).length_le h.1, fun r hr => h.2 r ((wout_sub cs ps).subset hr)⟩
theorem flat_nat2 (l : List Nat) : (l.map fun n : Nat => V.int (n : Int)).all flatV = true := by
  rw [List.all_eq_true]
  intro x hx
  obtain ⟨n, _, rfl⟩ := List.mem_map.mp hx
  rfl
theorem nodup_take {α : Type} {l : List α} (h : l.Nodup) {i : Nat} (hi : i < l.length) : l[i] ∉ l.take i := fun z => by
  obtain ⟨j, hj, e⟩ := List.mem_take_iff_getElem.mp z
  have := (List.getElem_inj h).mp e
  omega
section
variable {P : Program} {w : World} {c : Cs} {mg : Str → Option Value} {base : Heap}
def R_without : List D → D → Prop := fun ds d => ∃ (cs : List Crd) (ps : List Nat), ds = [dDrw cs, .t (ps.map natD)] ∧ drwOk cs ∧ ps.Nodup ∧ (∀ p ∈ ps, p < cs.length) ∧ d = dDrw (wout cs ps)
theorem ok_without (T : Tx c mg) : MtAt P w c mg base c.drw "without" 4 (spD c R_without) := by
  refine T.d_Drawer_without.at_ fun f fd F => fnD F sc_Drawer_without (fun _ _ _ _ _ _ us hl => match us, hl with | [_, _], _ => rfl) (fun ds d h => ?_) 3 rfl fun cdv A0 outer s H0 E ds d σ hr h A Q q => ?_
  · obtain ⟨cs, ps, rfl, _⟩ := h
    rfl
  · obtain ⟨cs, ps, rfl, hc, hnd, hlt, rfl⟩ := h
    have hv : ps.map natD = (ps.map fun n : Nat => V.int (n : Int)).map D.v := by rw [List.map_map]; rfl
    refine x_for rfl PassesOwn.never (fun i M' env' => M' = [] ∧ ∃ p cd : Option D, env' = [some (dDrw cs), some (.t (ps.map natD)), p, cd, none]) (i_enumT (ds := ps.map natD) rfl T.n_enumerate (v_var 1)) A ⟨rfl, none, none, rfl⟩ (fun i d M' env' Fr' Gx hd hI hE => ?_) (fun M' env' σ' H' hI A' => ?_)
    · obtain ⟨rfl, p, cd, rfl⟩ := hI
      obtain ⟨x, hx, rfl⟩ := numbered_get hd
      rw [List.getElem?_map] at hx
      obtain ⟨r, hr1, rfl⟩ := Option.map_eq_some_iff.mp hx
      obtain ⟨hi, rfl⟩ := List.getElem?_eq_some_iff.mp hr1
      refine ⟨_, _, g_tup rfl rfl (gs_cons (g_name 2 sc_Drawer_without.nd) (gs_cons (g_name 3 sc_Drawer_without.nd) gs_nil)), fun σ' H' A' => ?_⟩
      have hp := hlt _ (List.getElem_mem hi)
      refine x_exp (Pv.ev (v_methSl (kb := false) rfl (ok_check_place T) T.s_Drawer hr (v_var 0) (a_cons (v_var 3) a_nil) ⟨cs, _, rfl, by omega, by omega, rfl⟩)) A' fun d2 M2 H2 z A2 => ?_
      obtain ⟨rfl, rfl⟩ := z
      refine x_if (k := false) (Pt.is (t_cmp op_in_seq (v_var 3) (Pv.is (v_takeT (ds := ps.map natD) rfl (v_var 1) (v_var 2)) (d' := .t (((ps.take i).map fun n : Nat => V.int (n : Int)).map D.v)) (by rw [hv, ← List.map_take, ← List.map_take])) (rv_inT rfl (by rfl) (flat_nat2 _))) (by rw [inV_nat]; exact decide_eq_false (nodup_take hnd hi))) A2 (fun h => nomatch h) fun _ H3 A3 => ?_
      exact x_nil (x_nil ⟨[], _, ⟨rfl, _, _, rfl⟩, A3⟩)
    · obtain ⟨rfl, p, cd, rfl⟩ := hI
      refine x_ret (v_make (k := false) rfl (ok_Drawer T) hr (a_cons (v_tupN T.n_tuple rfl (Pl.is (l_lc [("place", 3), ("card", 4)] (List.range (cs.map dCard).length) (fun i => .t [.i (i : Int), (cs.map dCard).getD i .n]) (fun i => decide (i ∉ ps)) (fun i => (cs.map dCard).getD i .n) rfl sc_Drawer_without.nd (i_enumT (ds := cs.map dCard) rfl T.n_enumerate (v_slot (k := false) rfl T.s_Drawer T.t_Drawer (v_var 0))) (blkOk_by (N := N_Drawer_without) (sc := defScope st_Drawer_without) (by decide +kernel)) (by rw [List.length_range, List.length_map]; have := hc.1; omega) ?_) (wout_cards cs ps))) a_nil) ⟨wout cs ps, rfl, (wout_ok hc).1, rfl⟩) A' fun v H' A8 r => q _ _ _ _ v H' A8 r
      intro i hx acc Fr' Gx Dl e
      refine ⟨_, _, fun s H C cl fp => g_tup rfl rfl (gs_cons (g_name 3 sc_Drawer_without.nd) (gs_cons (g_name 4 sc_Drawer_without.nd) gs_nil)), fun j hj => hj, fun s H C cl fp => n_one (Pt.is (t_cmp op_notIn_seq (v_var 3) (Pv.is (v_var 1) (by rw [hv])) (rv_niT rfl (by rfl) (flat_nat2 _))) (by rw [inV_nat, decide_not])), fun _ s H C cl fp => v_var 4⟩
end
end Sx
end
section
set_option maxRecDepth 100000
set_option maxHeartbeats 1000000
/-! choices -/
namespace Sx
open PySem PySem.Spec PyProof.Rows L2 LamX NdefX
def lastLt (s : List Nat) (p : Nat) : Bool := match s.getLast? with
  | none => true
  | some q => decide (q < p)
def growC (n : Nat) (s : List Nat) : List (List Nat) := ((List.range n).filter (lastLt s)).map fun p => s ++ [p]
def chs (n : Nat) : Nat → List (List Nat)
  | 0 => [[]]
  | k + 1 => (chs n k).flatMap (growC n)
def tupN (s : List Nat) : D := .t (s.map natD)
theorem growC_len (n : Nat) (s : List Nat) : (growC n s).length ≤ n := by
  unfold growC
  rw [List.length_map]
  exact Nat.le_trans (List.length_filter_le _ _) (by rw [List.length_range]; exact Nat.le_refl _)
theorem chs_len (n : Nat) (hn : n ≤ 16) : ∀ k, k ≤ 2 → (chs n k).length ≤ 16 ^ k
  | 0, _ => Nat.le_refl _
  | k + 1, h => by
    have a := chs_len n hn k (by omega)
    have b : ((chs n k).flatMap (growC n)).length ≤ (chs n k).length * n := flat_len fun x _ => growC_len n x
    show ((chs n k).flatMap (growC n)).length ≤ _
    have : (chs n k).length * n ≤ 16 ^ k * 16 := Nat.mul_le_mul a hn
    rw [Nat.pow_succ]
    omega
theorem chs_size (n : Nat) : ∀ k, ∀ s ∈ chs n k, s.length = k
  | 0, s, h => by
    rw [List.mem_singleton.mp h]
    rfl
  | k + 1, s, h => by
    obtain ⟨t, ht, hs⟩ := List.mem_flatMap.mp h
    obtain ⟨p, _, rfl⟩ := List.mem_map.mp hs
    rw [List.length_append, chs_size n k t ht]
    rfl
theorem eqvAll_nat0 (s : List Nat) : PyData.eqvAll (s.map fun n : Nat => PyData.int (n : Int)) [] = decide (s = []) := by
  cases s <;> simp [PyData.eqvAll]
section
variable {P : Program} {w : World} {c : Cs} {mg : Str → Option Value} {base : Heap}
def R_choices : List D → List (Addr × List D) → List D → Prop := fun ds L ys => ∃ (l : Addr) (n k : Nat), ds = [.p l, natD k] ∧ L = [(l, (List.range n).map natD)] ∧ n ≤ 16 ∧ k ≤ 2 ∧ ys = (chs n k).map tupN
theorem ok_choices (T : Tx c mg) : FnAt P w c.K mg base "choices" 1 (spL c R_choices) := by
  obtain ⟨hm, fd, F⟩ := T.d_choices
  refine ⟨_, hm, F.kp, fnML F sc_choices (fun _ _ _ _ _ _ us hl => match us, hl with | [_, _], _ => rfl) (fun ds L d h => ?_) 5 rfl fun cdv A0 outer s H0 Fr E ds L ys σ hr h hL A Q q => ?_⟩
  · obtain ⟨l, n, k, rfl, _⟩ := h
    rfl
  · obtain ⟨pl, n, k, rfl, rfl, hn, hk, rfl⟩ := h
    have hPl : LsAt c Fr pl ((List.range n).map natD) := hL _ List.mem_cons_self
    refine x_setL 2 sc_choices.nd (l_lst (a_cons (v_tup a_nil) a_nil)) A fun l σ1 H1 A1 => ?_
    refine x_for rfl PassesOwn.never (fun i M' env' => ∃ (l : Addr) (o3 o4 o5 : Option D), M' = [(l, .lst ((chs n i).map tupN))] ∧ env' = [some (.p pl), some (natD k), some (.p l), o3, o4, o5, none]) (i_rng (n := k) T.n_range (a_cons (v_var 1) a_nil) (by omega)) A1 ⟨l, none, none, none, rfl, rfl⟩ (fun i d M' env' Fr' Gx hd hI hE => ?_) (fun M' env' σ' H' hI A' => ?_)
    · obtain ⟨l, o3, o4, o5, rfl, rfl⟩ := hI
      have hik : i < k := by
        have := (List.getElem?_eq_some_iff.mp hd).1
        simpa using this
      refine ⟨_, _, g_name 3 sc_choices.nd, fun σ2 H2 A2 => ?_⟩
      refine x_setL 4 sc_choices.nd (l_lst a_nil) A2 fun l2 σ3 H3 A3 => ?_
      -- the list that is walked stands still
      obtain ⟨Fr2, e2, hls, A4⟩ := (A3.perm (List.Perm.swap _ _ _)).freeze
      refine x_for rfl PassesOwn.never (fun j M' env' => ∃ (o5 : Option D), M' = [(l2, .lst ((((chs n i).take j).flatMap (growC n)).map tupN))] ∧ env' = [some (.p pl), some (natD k), some (.p l), some d, some (.p l2), o5, none]) (i_lst rfl (v_var 2) hls) A4 ⟨o5, rfl, rfl⟩ (fun j d2 M' env' Fr3 Gx2 hd2 hI2 hE2 => ?_) (fun M' env' σ' H' hI2 A' => ?_)
      · obtain ⟨o5, rfl, rfl⟩ := hI2
        rw [List.getElem?_map] at hd2
        obtain ⟨s0, hs0, rfl⟩ := Option.map_eq_some_iff.mp hd2
        have hsl := chs_size n i s0 (List.mem_of_getElem? hs0)
        have hb : (((chs n i).take j).flatMap (growC n)).length ≤ ((chs n i).take j).length * n := flat_len fun x _ => growC_len n x
        have hc := chs_len n hn i (by omega)
        have hp : 16 ^ i ≤ 16 ^ 2 := Nat.pow_le_pow_right (by decide) (by omega)
        have ht : ((chs n i).take j).length ≤ (chs n i).length := by rw [List.length_take]; omega
        have hm2 : ((chs n i).take j).length * n ≤ 256 * 16 := Nat.mul_le_mul (Nat.le_trans (Nat.le_trans ht hc) hp) hn
        have hg := growC_len n s0
        refine ⟨_, _, g_name 5 sc_choices.nd, fun σ4 H4 A5 => ?_⟩
        refine x_extL 0 (ds := (((chs n i).take j).flatMap (growC n)).map tupN) (es := (growC n s0).map tupN) rfl (v_var 4) (Pl.is (l_lc [("place", 6)] (List.range n) natD (lastLt s0) (fun p => tupN (s0 ++ [p])) rfl sc_choices.nd (i_lst rfl (v_var 0) ((hPl.ex hE).ex (e2.trans hE2))) (blkOk_by (N := N_choices) (sc := defScope st_choices) (by decide +kernel)) (by rw [List.length_range]; omega) ?_) (by unfold growC; rw [List.map_map]; rfl)) A5 (by rw [List.length_map, List.length_map]; omega) fun H5 A6 => x_nil ⟨_, _, ⟨_, ?_, rfl⟩, A6⟩
        · intro p hx acc Fr' Gx Dl e
          refine ⟨_, _, fun s H C cl fp => g_name 6 sc_choices.nd, fun j hj => hj, fun s H C cl fp => n_one ?_, fun _ s H C cl fp => ?_⟩
          · have h1 : pyOf (tupN s0) = some (.tuple (s0.map fun n : Nat => PyData.int (n : Int))) := by
              unfold tupN
              simp only [pyOf, pyAll_map natD (fun n : Nat => PyData.int (n : Int)) (fun _ => by unfold natD; simp only [pyOf]), Option.map]
            have h2 : pyOf (.t []) = some (.tuple []) := by simp only [pyOf, pyAll, Option.map]
            refine Pt.is (o_t (o_or (k := decide (s0 = [])) (l := lastLt s0 p) (Pt.is (t_cmp (op_eqD hr.units) (v_var 5) (v_tup a_nil) (rv_eqD h1 h2 (sh_tup (n := 0) fun x hx => by
              obtain ⟨z, _, rfl⟩ := List.mem_map.mp hx
              exact sh_int 0 _).ed (sh_tup (n := 0) (xs := []) fun x hx => nomatch hx).ed)) (by rw [PyData.eqv, eqvAll_nat0])) fun b => o_or1 ?_)) ?_
            · have hne := of_decide_eq_false b
              obtain ⟨y, hy⟩ : ∃ y, s0 = s0.dropLast ++ [y] := ⟨_, (List.dropLast_concat_getLast hne).symm⟩
              refine Pt.is (t_cmp op_gt (v_var 6) (v_ixT (ds := s0.map natD) (d := natD y) rfl (v_var 5) (v_neg v_int) (by rw [hy, List.map_append]; exact atI_last _ _)) rv_I0) ?_
              rw [hy]
              unfold lastLt
              rw [List.getLast?_append]
              simp
            · by_cases hs : s0 = []
              · subst hs
                rfl
              · rw [decide_eq_false hs]
                rfl
          · exact Pv.is (v_tup (a_starT rfl (v_var 5) (a_cons (v_var 6) a_nil)) (by simp; omega)) (by unfold tupN; rw [List.map_append]; rfl)
        · rw [flat_take hs0, ← List.map_append]
          rfl
      · obtain ⟨o5, rfl, rfl⟩ := hI2
        rw [List.length_map, List.take_length] at A'
        refine x_set 2 sc_choices.nd (v_var 4) A' fun σ5 H5 A6 => x_nil ⟨_, _, ⟨l2, some d, some (.p l2), o5, rfl, rfl⟩, A6.back e2 fun p hp => hp⟩
    · obtain ⟨l, o3, o4, o5, rfl, rfl⟩ := hI
      rw [List.length_map, List.length_range] at A'
      refine x_ret (v_var 2) A' fun v H' A2 rr => ?_
      rw [rp_v.mp rr]
      exact q _ _ _ _ l H' A2 List.mem_cons_self
end
end Sx
end
section
set_option maxRecDepth 100000
set_option maxHeartbeats 1000000
/-! out_of_order -/
namespace Sx
open PySem PySem.Spec PyProof.Rows L2 LamX NdefX
/-- taken out, the rest is filed -/
def sol (cs : List Crd) (ps : List Nat) : Bool := decide (filedM (wout cs ps) = wout cs ps)
theorem chs_ok (n : Nat) : ∀ k, ∀ s ∈ chs n k, s.Pairwise (· < ·) ∧ ∀ p ∈ s, p < n
  | 0, s, h => by
    rw [List.mem_singleton.mp h]
    exact ⟨List.Pairwise.nil, fun p hp => nomatch hp⟩
  | k + 1, s, h => by
    obtain ⟨t, ht, hs⟩ := List.mem_flatMap.mp h
    obtain ⟨p, hp, rfl⟩ := List.mem_map.mp hs
    obtain ⟨h1, h2⟩ := List.mem_filter.mp hp
    obtain ⟨o1, o2⟩ := chs_ok n k t ht
    have hpn := List.mem_range.mp h1
    refine ⟨List.pairwise_append.mpr ⟨o1, List.pairwise_singleton _ _, fun a ha b hb => ?_⟩, fun q hq => ?_⟩
    · rw [List.mem_singleton.mp hb]
      have hne : t ≠ [] := fun z => by rw [z] at ha; cases ha
      have e : t = t.dropLast ++ [t.getLast hne] := (List.dropLast_concat_getLast hne).symm
      have hl : t.getLast hne < p := by
        unfold lastLt at h2
        rw [List.getLast?_eq_getLast hne] at h2
        exact of_decide_eq_true h2
      rw [e] at ha o1
      rcases List.mem_append.mp ha with ha | ha
      · exact Nat.lt_trans ((List.pairwise_append.mp o1).2.2 a ha _ List.mem_cons_self) hl
      · rw [List.mem_singleton.mp ha]
        exact hl
    · rcases List.mem_append.mp hq with hq | hq
      · exact o2 q hq
      · rw [List.mem_singleton.mp hq]
        exact hpn
section
variable {P : Program} {w : World} {c : Cs} {mg : Str → Option Value} {base : Heap}
def S_out (tab : Addr) : List D → List (Addr × List D) → Mm → (D → Mm → Prop) → Prop := fun ds L M0 Z => ∃ (cs : List Crd) (k : Nat), ds = [dDrw cs] ∧ L = [] ∧ M0 = [(tab, .tab "filed.<locals>.<lambda>")] ∧ drwOk cs ∧ k ≤ 2 ∧ k < cs.length ∧ (∃ s ∈ chs cs.length k, sol cs s = true) ∧
  Z = fun d Mn => (∃ (j : Nat) (s : List Nat), d = tupN s ∧ s ∈ chs cs.length j ∧ sol cs s = true ∧ ∀ i, i < j → ∀ t ∈ chs cs.length i, sol cs t = false) ∧ Mn = [(tab, .tab "filed.<locals>.<lambda>")]
theorem ok_out_of_order {tab : Addr} (T : Tx c mg) (B : TbD c mg base (He.ga c.K "filed") tab) : FnAt P w c.K mg base "out_of_order" 8 (spM c (S_out tab)) := by
  obtain ⟨hm, fd, F⟩ := T.d_out_of_order
  refine ⟨_, hm, F.kp, fnM F sc_out_of_order (fun _ _ _ _ _ _ us hl => match us, hl with | [_], _ => rfl) rfl (fun ds L M0 Z h => ?_) 3 rfl fun cdv A0 outer s H0 Fr E ds L M0 Z σ hr h hL A Q q => ?_⟩
  · obtain ⟨cs, k, rfl, _⟩ := h
    rfl
  · obtain ⟨cs, k, rfl, rfl, rfl, hc, hk, hkn, ⟨s0, hs0, hsol⟩, rfl⟩ := h
    have h16 := hc.1
    refine x_setL 1 sc_out_of_order.nd (l_listRange (n := cs.length) rfl T.n_range T.n_list (Pv.is (v_lenT T.n_len rfl (v_prop (k := false) rfl (ok_cards T) T.s_Drawer hr (v_var 0) ⟨cs, rfl, rfl⟩)) (by rw [List.length_map])) (by omega)) A fun l σ1 H1 A1 => ?_
    obtain ⟨Fr2, e2, hls, A2⟩ := A1.freeze
    have q2 : ∀ d G Mn env σ v H', (fun d Mn => (∃ (j : Nat) (s : List Nat), d = tupN s ∧ s ∈ chs cs.length j ∧ sol cs s = true ∧ ∀ i, i < j → ∀ t ∈ chs cs.length i, sol cs t = false) ∧ Mn = [(tab, Ob.tab "filed.<locals>.<lambda>")]) d Mn → At c Fr2 G Mn env σ H' → Rp c H' d v → Q v H' := fun d G Mn env σ v H' z B r => q d [] Mn env σ v H' z (B.back e2 fun p hp => nomatch hp) r
    refine x_for rfl PassesOwn.never (fun i M' env' => M' = [(tab, .tab "filed.<locals>.<lambda>")] ∧ (∃ (o2 o3 : Option D), env' = [some (dDrw cs), some (.p l), o2, o3]) ∧ ∀ j, j < i → ∀ t ∈ chs cs.length j, sol cs t = false) (i_lst rfl (v_var 1) hls) A2 ⟨rfl, ⟨none, none, rfl⟩, fun j hj => absurd hj (Nat.not_lt_zero _)⟩ (fun i d M' env' Fr' Gx hd hI hE => ?_) (fun M' env' σ' H' hI A' => ?_)
    · obtain ⟨rfl, ⟨o2, o3, rfl⟩, hno⟩ := hI
      rw [List.getElem?_map] at hd
      obtain ⟨i', hi', rfl⟩ := Option.map_eq_some_iff.mp hd
      obtain ⟨hin, e⟩ := List.getElem?_eq_some_iff.mp hi'
      rw [List.getElem_range] at e
      subst e
      have hik : i ≤ k := Nat.le_of_not_lt fun z => by
        rw [hno k z s0 hs0] at hsol
        cases hsol
      refine ⟨_, _, g_name 2 sc_out_of_order.nd, fun σ2 H2 A3 => ?_⟩
      refine x_for rfl PassesOwn.never (fun j M' env' => M' = [(tab, .tab "filed.<locals>.<lambda>")] ∧ (∃ (o3 : Option D), env' = [some (dDrw cs), some (.p l), some (.i (i : Int)), o3]) ∧ ∀ t ∈ (chs cs.length i).take j, sol cs t = false) (i_new rfl (l_callL [(l, (List.range cs.length).map natD)] (ok_choices T) hr (a_cons (v_var 1) (a_cons (v_var 2) a_nil)) ⟨l, cs.length, i, rfl, rfl, h16, by omega, rfl⟩ (fun p hp => by
        rw [List.mem_singleton.mp hp]
        exact .inl (hls.ex hE)))) A3 ⟨rfl, ⟨o3, rfl⟩, fun t ht => by simp at ht⟩ (fun j d2 M' env' Fr3 Gx2 hd2 hI2 hE2 => ?_) (fun M' env' σ' H' hI2 A' => ?_)
      · obtain ⟨rfl, ⟨o3, rfl⟩, hno2⟩ := hI2
        rw [List.getElem?_map] at hd2
        obtain ⟨s1, hs1, rfl⟩ := Option.map_eq_some_iff.mp hd2
        have hmem := List.mem_of_getElem? hs1
        obtain ⟨o1, o2⟩ := chs_ok cs.length i s1 hmem
        refine ⟨_, _, g_name 3 sc_out_of_order.nd, fun σ4 H4 A4 => ?_⟩
        refine x_if (k := sol cs s1) (t_val (Ev.pure (e_call (Z2 := fun d M' => d = .b (sol cs s1) ∧ M'.Perm [(tab, Ob.tab "filed.<locals>.<lambda>")]) (L := []) (Mr := []) (ok_is_filed T B) hr (a_cons (v_methSl (kb := false) rfl (ok_without T) T.s_Drawer hr (v_var 0) (a_cons (v_var 3) a_nil) ⟨cs, s1, rfl, hc, o1.imp (fun h => Nat.ne_of_lt h), o2, rfl⟩) a_nil) (List.Perm.refl _) ⟨wout cs s1, rfl, rfl, rfl, wout_ok hc, rfl⟩ (fun p hp => nomatch hp) (fun d Mn z => ⟨z.1, by rw [z.2]; exact List.Perm.refl _⟩)) fun d' M' z => z)) A4 (fun b H5 A5 => ?_) fun b H5 A5 => ?_
        · refine x_ret (v_var 3) A5 fun v H' A6 r => q2 (tupN s1) [] [(tab, Ob.tab "filed.<locals>.<lambda>")] _ _ v H' ⟨⟨i, s1, rfl, hmem, b, hno⟩, rfl⟩ (A6.back (hE.trans hE2) fun p hp => nomatch hp) r
        · refine x_nil (x_nil ⟨_, _, ⟨rfl, ⟨_, rfl⟩, fun t ht => ?_⟩, A5⟩)
          rw [List.take_add_one, hs1] at ht
          rcases List.mem_append.mp ht with ht | ht
          · exact hno2 t ht
          · have : t = s1 := by simpa using ht
            rw [this]
            exact b
      · obtain ⟨rfl, ⟨o3, rfl⟩, hno2⟩ := hI2
        rw [List.length_map, List.take_length] at hno2
        refine x_nil ⟨_, _, ⟨rfl, ⟨_, _, rfl⟩, fun j hj t ht => ?_⟩, A'⟩
        rcases Nat.lt_succ_iff_lt_or_eq.mp hj with hj | rfl
        · exact hno j hj t ht
        · exact hno2 t ht
    · obtain ⟨rfl, ⟨o2, o3, rfl⟩, hno⟩ := hI
      rw [List.length_map, List.length_range] at hno
      rw [hno k hkn s0 hs0] at hsol
      cases hsol
end
end Sx
end
section
set_option maxRecDepth 100000
set_option maxHeartbeats 1000000
/-! l.extend(a tuple or a new list); known_headings -/
namespace Sx
open PySem PySem.Spec PyProof.Rows L2 LamX NdefX
section
variable {X : Cx}
theorem mt_extendT : MtM X "list.extend" (fun x vs H Q => ∃ l b xs zs, x = .ref l ∧ vs = [.ref b] ∧ H l = some (.lst xs) ∧ SqT X.K H b zs ∧ xs.length + zs.length ≤ sizeLine ∧ Q .non (upd H l (.lst (xs ++ zs)))) := by
  intro pins s σ H x vs v us Q I rx rv h
  obtain ⟨l, b, xs, zs, rfl, rfl, hH, hB, hz, q⟩ := h
  cases rx
  obtain ⟨u, rfl, ru⟩ := rv.one
  cases ru
  obtain ⟨z, its, n, r, hl, e⟩ := I.lstM hH
  obtain ⟨its2, r2, e2, z2⟩ := I.tuple hB
  have hl2 := r2.length
  obtain ⟨o, ho, hc, n2, hd⟩ := id e2
  have hsz : its.toArray.size + its2.toArray.size ≤ sizeLine := by rw [List.size_toArray, List.size_toArray]; omega
  have hlong : ¬ (!its.toArray.isEmpty && Builtin.List.listTooLong (its.toArray.size + its2.toArray.size)) = true := by
    rw [notLongL hsz, Bool.and_false]
    exact Bool.false_ne_true
  refine wpAny_call_entry_kw F.slot_list_extend ⟨_, e, rfl⟩ F.entry_list_extend ?_ (F.args_list_extend_2 _ _)
  show wpAny _ _ (Builtin.List.listExtendWith (.ref l) (.ref b) .none) _ _ s
  unfold Builtin.List.listExtendWith
  refine wpAny_bind (wpAny_typeOf (T := "tuple") ⟨o, ho, hc⟩ ?_)
  have ht : (Value.type "tuple" == Value.type "tuple") = true := by rfl
  rw [if_pos (by rw [ht]; simp)]
  refine wpAny_bind (listItems_at ho hd ?_)
  refine wpAny_bind (listItems_at e rfl ?_)
  rw [if_neg hlong]
  refine wpAny_bind (listUpdate_at e rfl ?_ (by rw [List.size_toArray]; omega) (by rw [Array.size_append]; omega))
  refine wpAny_pure ⟨.none, rfl, ?_⟩
  have e3 : (its.toArray ++ its2.toArray) = (its ++ its2).toArray := by simp
  exact ⟨.non, _, I.lset (its' := its ++ its2) hH e (by simp) (r.append r2) (by rw [List.length_append]; omega), rfl, q⟩
end
section
variable {X : Cx} {c : Cs} {Fr : Hp} {G : List (V × D)} {M : Mm} {env : En} {a b e o : Expr} {pos p1 p2 p3 : Pos} {d : D} {ds : List D} {l : Addr}
/-- l.extend(e), e a tuple or a list that was just made -/
theorem x_extE {D0 : Ends} {σ : L2.St} {H : Hp} {rest : List Stmt} {es : List D} (i : Nat) (hK : X.K = c.K) (ho : Pv X c Fr G M env o (.p l)) (he : Ev X c Fr G M env e (fun d M' => (∃ l2, d = .p l2 ∧ M' = (l2, .lst es) :: M) ∨ (d = .t es ∧ M' = M))) (A : At c Fr G M env σ H) (hlen : ds.length + es.length ≤ 100000) (k : ∀ H', At c Fr G (M.set i (l, .lst (ds ++ es))) env σ H' → WB X rest D0 σ H') (hM : M[i]? = some (l, .lst ds) := by rfl)
    (hbase : attributeBase o "extend" X.env (eval o X.env) = eval o X.env := by rfl)
    (hfew : ((backTo p2 (starEach (e :: []) X.env)).all (fun x => !x.1) && (backToKw p2 (keywordEach [] X.env)).all (fun x => x.1.isSome)
      && decide ((e :: ([] : List Expr)).length + ([] : List Keyword).length + (if ([] : List Keyword).isEmpty then 0 else 1) < 30)) = true := by rfl)
    (hline : (p1.endLine == p2.line) = true := by rfl) (hs : starEach (e :: []) X.env = (false, eval e X.env) :: starEach [] X.env := by rfl) (hplain : (backTo p2 (starEach [] X.env)).any (·.1) = false := by rfl)
    (hsw : swapsWith (.Call (.Attribute o "extend" p1) [e] [] p2) none pos.line X.env = pure false := by rfl) : WB X (.Expr (.Call (.Attribute o "extend" p1) [e] [] p2) pos :: rest) D0 σ H := by
  have hm : MtM X "list.extend" (fun x vs H Q => rExtend x vs H Q ∨ ∃ l b xs zs, x = .ref l ∧ vs = [.ref b] ∧ H l = some (.lst xs) ∧ SqT X.K H b zs ∧ xs.length + zs.length ≤ sizeLine ∧ Q .non (upd H l (.lst (xs ++ zs)))) := by
    intro pins s σ H x vs v us Q I rx rv h
    rcases h with h | h
    · exact mt_extend pins s σ H x vs v us Q I rx rv h
    · exact mt_extendT pins s σ H x vs v us Q I rx rv h
  refine x_cons ((ps_expr (pe_bm PySem.F.plainAttrs_list PySem.F.slot_list_extend PySem.F.type_list_extend hm we (pa_cons we pa_nil hs) hbase hfew hline hs hplain) hsw).w (ho σ H A _ fun u H1 A1 i1 r1 => ?_))
  obtain ⟨vs, h1, _⟩ := A1.obI hM
  rw [rp_v.mp r1]
  refine ⟨tyl h1, he σ H1 A1 _ fun d2 M2 v2 H2 z A2 i2 r2 => ?_⟩
  rcases z with ⟨l2, rfl, rfl⟩ | ⟨rfl, rfl⟩
  · rw [rp_v.mp r2]
    have hM2 : ((l2, Ob.lst es) :: M)[i + 1]? = some (l, .lst ds) := by rw [List.getElem?_cons_succ]; exact hM
    obtain ⟨us, h2, h3⟩ := A2.obI hM2
    obtain ⟨ws, h4, h5⟩ := A2.obI (i := 0) rfl
    have im : IM H2 (upd H2 l (.lst (us ++ ws))) := A2.imI hM2
    refine .inl ⟨l, l2, us, ws, rfl, rfl, h2, h4, by rw [h3.len, h5.len]; exact Nat.le_trans hlen (by decide), k _ ?_⟩
    have B := A2.mutI (o' := .lst (ds ++ es)) hM2 ⟨_, upd_same, (h3.app h5).im im⟩
    exact At.drop1 (p := (l2, .lst es)) B
  · obtain ⟨p, ws, rfl, h4, h5⟩ := rp_t.mp r2
    obtain ⟨us, h2, h3⟩ := A2.obI hM
    have im : IM H2 (upd H2 l (.lst (us ++ ws))) := A2.imI hM
    refine .inr ⟨l, p, us, ws, rfl, rfl, h2, hK ▸ h4, by rw [h3.len, h5.len]; exact Nat.le_trans hlen (by decide), k _ ?_⟩
    exact A2.mutI (o' := .lst (ds ++ es)) hM ⟨_, upd_same, (h3.app h5).im im⟩
end
end Sx
end
section
set_option maxRecDepth 100000
set_option maxHeartbeats 1000000
/-! known_headings -/
namespace Sx
open PySem PySem.Spec PyProof.Rows L2 LamX NdefX
def goesTo (r : Crd) : List Str := if r.s ≠ ("" : Str) then [r.s] else r.a
def knownM (cs : List Crd) : List Str := sortS (sortS (cs.map (·.h)) ++ cs.flatMap goesTo)
theorem putIn_len {α : Type} {lt : α → α → Bool} (x : α) : ∀ l : List α, (putIn lt x l).length ≤ l.length + 1
  | [] => Nat.le_refl _
  | y :: l => by
    unfold putIn
    split
    · simp
    · split
      · have := putIn_len (lt := lt) x l
        simp only [List.length_cons]
        omega
      · simp
theorem sortS_len : ∀ l : List Str, (sortS l).length ≤ l.length
  | [] => Nat.le_refl _
  | x :: l => by
    have a : (sortS (x :: l)).length ≤ (sortS l).length + 1 := putIn_len x _
    have b := sortS_len l
    simp only [List.length_cons]
    omega
theorem goes_len {r : Crd} (o : r.Ok) : (goesTo r).length ≤ 4 := by
  unfold goesTo
  split
  · exact Nat.le_of_ble_eq_true rfl
  · exact o.a.1
section
variable {P : Program} {w : World} {c : Cs} {mg : Str → Option Value} {base : Heap}
def R_known : List D → List (Addr × List D) → List D → Prop := fun ds L ys => ∃ cs : List Crd, ds = [dDrw cs] ∧ L = [] ∧ drwOk cs ∧ ys = (knownM cs).map D.s
theorem ok_known (T : Tx c mg) : FnAt P w c.K mg base "known_headings" 5 (spL c R_known) := by
  refine T.d_known_headings.at_ fun f fd F => fnML F sc_known_headings (fun _ _ _ _ _ _ us hl => match us, hl with | [_], _ => rfl) (fun ds L d h => ?_) 2 rfl fun cdv A0 outer s H0 Fr E ds L ys σ hr h hL A Q q => ?_
  · obtain ⟨r, rfl, _⟩ := h
    rfl
  · obtain ⟨cs, rfl, rfl, hc, rfl⟩ := h
    have h16 := hc.1
    have hs : (sortS (cs.map (·.h))).length ≤ 16 := by
      refine Nat.le_trans (sortS_len _) ?_
      rw [List.length_map]
      exact h16
    refine x_setL 1 sc_known_headings.nd (l_listT T.n_list rfl (v_prop (k := false) rfl (ok_headings T) T.s_Drawer hr (v_var 0) ⟨cs, rfl, h16, rfl⟩)) A fun l σ1 H1 A1 => ?_
    refine x_for rfl PassesOwn.never (fun i M' env' => ∃ o : Option D, M' = [(l, .lst ((sortS (cs.map (·.h)) ++ (cs.take i).flatMap goesTo).map D.s))] ∧ env' = [some (dDrw cs), some (.p l), o]) (i_tup rfl (v_prop (k := false) rfl (ok_cards T) T.s_Drawer hr (v_var 0) ⟨cs, rfl, rfl⟩)) A1 ⟨none, by simp, rfl⟩ (fun i d M' env' Fr' Gx hd hI hE => ?_) (fun M' env' σ' H' hI A' => ?_)
    · obtain ⟨o, rfl, rfl⟩ := hI
      rw [List.getElem?_map] at hd
      obtain ⟨r, hr1, rfl⟩ := Option.map_eq_some_iff.mp hd
      have ro := hc.2 r (List.mem_of_getElem? hr1)
      have g4 := goes_len ro
      have f1 : ((cs.take i).flatMap goesTo).length ≤ (cs.take i).length * 4 := flat_len fun x hx => goes_len (hc.2 x (List.mem_of_mem_take hx))
      have f2 : (cs.take i).length ≤ cs.length := by rw [List.length_take]; omega
      refine ⟨_, _, g_name 2 sc_known_headings.nd, fun σ2 H2 A2 => ?_⟩
      refine x_extE 0 (ds := (sortS (cs.map (·.h)) ++ (cs.take i).flatMap goesTo).map D.s) (es := (goesTo r).map D.s) rfl (v_var 1) (e_if (k := !decide (r.s = ("" : Str))) (t_val (v_prop (k := true) rfl (ok_leads T) T.s_Card hr (v_var 2) ⟨r, rfl, rfl⟩)) (fun b => ?_) fun b => ?_) A2 (by rw [List.length_map, List.length_map, List.length_append]; omega) fun H3 A3 => x_nil ⟨_, _, ⟨_, ?_, rfl⟩, A3⟩
      · have b1 : r.s ≠ ("" : Str) := by simpa using b
        have e : (goesTo r).map D.s = [.s r.s] := by unfold goesTo; rw [if_pos b1]; rfl
        rw [e]
        exact fun σ H A Q q => Pl.ev (l_lst (a_cons (v_prop (k := true) rfl (ok_see T) T.s_Card hr (v_var 2) ⟨r, rfl, rfl⟩) a_nil)) σ H A Q fun d' M' v H2 z A2 i2 rr => q d' M' v H2 (.inl z) A2 i2 rr
      · have b1 : ¬ r.s ≠ ("" : Str) := by simpa using b
        have e : (goesTo r).map D.s = r.a.map D.s := by unfold goesTo; rw [if_neg b1]
        rw [e]
        exact fun σ H A Q q => Pv.ev (v_prop (k := true) rfl (ok_also T) T.s_Card hr (v_var 2) ⟨r, rfl, rfl⟩) σ H A Q fun d' M' v H2 z A2 i2 rr => q d' M' v H2 (.inr z) A2 i2 rr
      · rw [flat_take hr1, ← List.append_assoc]
        simp only [List.map_append]
        rfl
    · obtain ⟨o, rfl, rfl⟩ := hI
      rw [List.length_map, List.take_length] at A'
      have f1 : (cs.flatMap goesTo).length ≤ cs.length * 4 := flat_len fun x hx => goes_len (hc.2 x hx)
      refine x_retL (l_sortSetSL (ns := sortS (cs.map (·.h)) ++ cs.flatMap goesTo) rfl T.n_sorted T.n_set rfl (v_var 1) (.inr List.mem_cons_self) (by rw [List.length_append]; unfold scanBound; omega)) A' fun l2 H2 A2 => q _ _ _ _ l2 H2 A2 List.mem_cons_self
end
end Sx
end
section
set_option maxRecDepth 100000
set_option maxHeartbeats 1000000
/-! card_words -/
namespace Sx
open PySem PySem.Spec PyProof.Rows L2 LamX NdefX
def strI (i : Int) : Str := (toString i : String)
def wordsF (r : Crd) : List Str := if r.s ≠ ("" : Str) then [("see" : Str), r.h, r.s] else ("card" : Str) :: r.h :: (r.b.map strI ++ if r.a ≠ [] then ("also" : Str) :: r.a else [])
theorem pyAll_strs (l : List Str) : pyAll (l.map D.s) = some (l.map PyData.str) := pyAll_map D.s PyData.str (fun _ => by simp only [pyOf]) l
section
variable {P : Program} {w : World} {c : Cs} {mg : Str → Option Value} {base : Heap}
def R_card_words : List D → List (Addr × List D) → List D → Prop := fun ds L ys => ∃ r : Crd, ds = [dCard r] ∧ L = [] ∧ r.Ok ∧ ys = (wordsF r).map D.s
theorem ok_card_words (T : Tx c mg) : FnAt P w c.K mg base "card_words" 3 (spL c R_card_words) := by
  refine T.d_card_words.at_ fun f fd F => fnML F sc_card_words (fun _ _ _ _ _ _ us hl => match us, hl with | [_], _ => rfl) (fun ds L d h => ?_) 2 rfl fun cdv A0 outer s H0 Fr E ds L ys σ hr h hL A Q q => ?_
  · obtain ⟨r, rfl, _⟩ := h
    rfl
  · obtain ⟨r, rfl, rfl, o, rfl⟩ := h
    refine x_if (k := !decide (r.s = ("" : Str))) (t_val (v_prop (k := true) rfl (ok_leads T) T.s_Card hr (v_var 0) ⟨r, rfl, rfl⟩)) A (fun b H1 A1 => ?_) fun b H1 A1 => ?_
    · have b1 : r.s ≠ ("" : Str) := by simpa using b
      refine x_retL (Pl.is (l_lst (a_cons (v_glo T.k_SEE) (a_cons (v_prop (k := true) rfl (ok_heading T) T.s_Card hr (v_var 0) ⟨r, rfl, rfl⟩) (a_cons (v_prop (k := true) rfl (ok_see T) T.s_Card hr (v_var 0) ⟨r, rfl, rfl⟩) a_nil)))) ?_) A1 fun l H' A' => q _ _ _ _ l H' A' List.mem_cons_self
      unfold wordsF
      rw [if_pos b1]
      rfl
    · have b1 : ¬ r.s ≠ ("" : Str) := by simpa using b
      refine x_nil (x_setL 1 sc_card_words.nd (ds := (if r.a ≠ [] then ("also" : Str) :: r.a else []).map D.s) (l_if (k := !decide (r.a = [])) ?_ (fun b2 => ?_) fun b2 => ?_) A1 fun l σ2 H2 A2 => ?_)
      · refine Pt.is (t_cmp (op_neD hr.units) (v_prop (k := true) rfl (ok_also T) T.s_Card hr (v_var 0) ⟨r, rfl, rfl⟩) (v_tup a_nil) (rv_neD (p := .tuple (r.a.map PyData.str)) (q := .tuple []) (by simp only [pyOf, pyAll_strs, Option.map]) (by simp only [pyOf, pyAll, Option.map]) (sh_strs fun z hz => word_ok (o.a.2.2 z hz).1).ed (sh_tup (n := 0) (xs := []) fun x hx => nomatch hx).ed)) ?_
        have := eqvAll_str r.a []
        rw [PyData.eqv]
        exact congrArg (!·) this
      · have b3 : r.a ≠ [] := by simpa using b2
        have := o.a.1
        refine Pl.is (l_lst (a_cons (v_glo T.k_ALSO) (a_starT rfl (v_prop (k := true) rfl (ok_also T) T.s_Card hr (v_var 0) ⟨r, rfl, rfl⟩) a_nil)) (by simp; omega)) ?_
        rw [if_pos b3]
        simp
      · have b3 : ¬ r.a ≠ [] := by simpa using b2
        refine Pl.is (l_lst a_nil) ?_
        rw [if_neg b3]
        rfl
      · have hb := o.b.1
        have ha := o.a.1
        have hlong : ∀ i ∈ r.b, i.natAbs.log2 < 1920 := fun i hi => by
          have h1 := o.b.2.1 i hi
          have h2 : i.natAbs < 1024 := by omega
          have : i.natAbs.log2 < 10 := by
            by_cases hz : i.natAbs = 0
            · rw [hz]
              decide
            · exact (Nat.log2_lt hz).mpr h2
          omega
        refine x_retL (Pl.is (l_lst (a_cons (v_glo T.k_CARD) (a_cons (v_prop (k := true) rfl (ok_heading T) T.s_Card hr (v_var 0) ⟨r, rfl, rfl⟩) (a_starN rfl (l_lc [("book", 2)] r.b D.i (fun _ => true) (fun i => .s (strI i)) rfl sc_card_words.nd (i_tup rfl (v_prop (k := true) rfl (ok_books T) T.s_Card hr (v_var 0) ⟨r, rfl, rfl⟩)) (blkOk_by (N := N_card_words) (sc := defScope st_card_words) (by decide +kernel)) (by omega) ?_) fun z => a_starL (ds := (if r.a ≠ [] then ("also" : Str) :: r.a else []).map D.s) rfl (v_var 1) (.inr (List.mem_cons_of_mem _ List.mem_cons_self)) a_nil))) ?_) ?_) A2 fun l H' A' => q _ _ _ _ l H' A' List.mem_cons_self
        · intro i hi acc Fr' Gx Dl e
          exact ⟨_, _, fun s H C cl fp => g_name 2 sc_card_words.nd, fun j hj => hj, fun s H C cl fp => n_nil, fun _ s H C cl fp => v_cT call_str_int boot_str T.n_str (a_cons (v_var 2) a_nil) (fun H xs Q rr k => by
            obtain ⟨u, r2, rfl, h1, h2⟩ := rpl_cons.mp rr
            rw [rpl_nil.mp h2, rp_v.mp h1]
            exact ⟨i, rfl, hlong i hi, k _ H (Ex.refl H) (rp_v.mpr rfl)⟩)⟩
        · rw [filter_yes]
          have : ((if r.a ≠ [] then ("also" : Str) :: r.a else []).map D.s).length ≤ 5 := by
            split <;> simp <;> omega
          simp only [List.length_cons, List.length_append, List.length_map, List.length_nil] at this ⊢
          omega
        · rw [filter_yes]
          unfold wordsF
          rw [if_neg b1]
          simp only [List.map_cons, List.map_append, List.map_map, List.append_nil]
          rfl
end
end Sx
end
section
set_option maxRecDepth 100000
set_option maxHeartbeats 1000000
/-! format_drawer -/
namespace Sx
open PySem PySem.Spec PyProof.Rows L2 LamX NdefX
section
variable {X : Cx} {c : Cs} {Fr : Hp} {G : List (V × D)} {M : Mm} {env : En} {e : Expr} {d : D}
/-- what was newly made is forgotten -/
theorem Ev.pureL {Z : D → Mm → Prop} (h : Ev X c Fr G M env e Z) (hz : ∀ d' M', Z d' M' → d' = d ∧ M.Sublist M') : Pv X c Fr G M env e d := fun σ H A Q q => h σ H A Q fun d' M' v H2 z A2 i2 r => by
  obtain ⟨rfl, hp⟩ := hz d' M' z
  exact q v H2 (A2.less hp) i2 r
end
def lineF (r : Crd) : Str := Txt.join " " (wordsF r)
def textF (cs : List Crd) : Str := Txt.join "\n" (cs.map lineF)
section
variable {P : Program} {w : World} {c : Cs} {mg : Str → Option Value} {base : Heap}
theorem strI_len {i : Int} (h : 1 ≤ i ∧ i ≤ 999) : (strI i).length ≤ 3 := by
  have all : (List.range 1000).all (fun n => decide ((strI (n : Int)).length ≤ 3)) = true := by decide +kernel
  have := List.all_eq_true.mp all i.toNat (List.mem_range.mpr (by omega))
  have e : ((i.toNat : Nat) : Int) = i := by omega
  rw [e] at this
  exact of_decide_eq_true this
theorem sum_le {α : Type} (f : α → Nat) (n : Nat) : ∀ l : List α, (∀ x ∈ l, f x ≤ n) → (l.map f).sum ≤ l.length * n
  | [], _ => by simp
  | x :: l, h => by
    have a := h x List.mem_cons_self
    have b := sum_le f n l fun y hy => h y (List.mem_cons_of_mem _ hy)
    rw [List.map_cons, List.sum_cons, List.length_cons, Nat.add_mul]
    omega
theorem words_ok {r : Crd} (o : r.Ok) : (wordsF r).length ≤ 13 ∧ ∀ z ∈ wordsF r, z.length ≤ 8 := by
  have hb := o.b.1
  have ha := o.a.1
  have hh := (word_len o.h).2
  unfold wordsF
  split
  · rename_i hs
    have os : wordB r.s = true := by
      rcases o.s with h | ⟨_, _, h, _⟩
      · exact absurd h hs
      · exact h
    have h2 := (word_len os).2
    refine ⟨Nat.le_of_ble_eq_true rfl, fun z hz => ?_⟩
    simp only [List.mem_cons, List.not_mem_nil, or_false] at hz
    rcases hz with rfl | rfl | rfl
    · decide
    · exact hh
    · exact h2
  · constructor
    · split <;> simp <;> omega
    · intro z hz
      rcases List.mem_cons.mp hz with rfl | hz
      · decide
      · rcases List.mem_cons.mp hz with rfl | hz
        · exact hh
        · rcases List.mem_append.mp hz with hz | hz
          · obtain ⟨i, hi, rfl⟩ := List.mem_map.mp hz
            exact Nat.le_trans (strI_len (o.b.2.1 i hi)) (by decide)
          · split at hz
            · rcases List.mem_cons.mp hz with rfl | hz
              · decide
              · exact (word_len (o.a.2.2 z hz).1).2
            · cases hz
end
end Sx
end
section
/-! texts joined and split again -/
set_option maxRecDepth 100000
set_option maxHeartbeats 1000000
namespace Sx
open PySem PySem.Spec PyProof.Rows L2
def sg (k : Nat) : Str := ⟨#[k]⟩
theorem txt_join (sep : Str) (l : List Str) : Txt.join sep l = Str.join sep l := StrLaws.glued_eq_join sep l
theorem cps_app (a b : Str) : (a ++ b).cps.toList = a.cps.toList ++ b.cps.toList := by
  show (a.cps ++ b.cps).toList = _
  simp
theorem str_eqL {a b : Str} (h : a.cps.toList = b.cps.toList) : a = b := by
  cases a
  cases b
  simp only at h
  congr
  exact Array.toList_inj.mp h
theorem join_cons (sep x y : Str) (r : List Str) : Str.join sep (x :: y :: r) = x ++ sep ++ Str.join sep (y :: r) := rfl
theorem join_len (sep : Str) : ∀ l : List Str, (Str.join sep l).length ≤ (l.map (·.length)).sum + l.length * sep.length
  | [] => Nat.zero_le _
  | [x] => by
    show x.length ≤ _
    simp
  | x :: y :: r => by
    have ih := join_len sep (y :: r)
    rw [join_cons, str_len, str_len]
    simp only [List.map_cons, List.sum_cons, List.length_cons, Nat.add_mul, Nat.one_mul] at ih ⊢
    omega
/-- what stands ahead of the first sign c -/
theorem app_uniq {c : Nat} {a b x y : List Nat} (ha : c ∉ a) (hb : c ∉ b) (h : a ++ c :: x = b ++ c :: y) : a = b ∧ x = y := by
  induction a generalizing b with
  | nil =>
    cases b with
    | nil => exact ⟨rfl, (List.cons.inj h).2⟩
    | cons z zs =>
      have := (List.cons.inj h).1
      subst this
      exact absurd List.mem_cons_self hb
  | cons z zs ih =>
    cases b with
    | nil =>
      have := (List.cons.inj h).1
      subst this
      exact absurd List.mem_cons_self ha
    | cons w ws =>
      obtain ⟨e1, e2⟩ := List.cons.inj h
      obtain ⟨e3, e4⟩ := ih (fun z => ha (List.mem_cons_of_mem _ z)) (fun z => hb (List.mem_cons_of_mem _ z)) e2
      exact ⟨by rw [e1, e3], e4⟩
theorem join_has {c : Nat} {p q : Str} {r : List Str} : c ∈ (Str.join (sg c) (p :: q :: r)).cps.toList := by
  rw [join_cons, cps_app, cps_app]
  exact List.mem_append_left _ (List.mem_append_right _ (by simp [sg]))
theorem join_inj {c : Nat} : ∀ {ps qs : List Str}, ps ≠ [] → qs ≠ [] → (∀ p ∈ ps, c ∉ p.cps.toList) → (∀ p ∈ qs, c ∉ p.cps.toList) → Str.join (sg c) ps = Str.join (sg c) qs → ps = qs
  | [], _, h, _, _, _, _ => absurd rfl h
  | _, [], _, h, _, _, _ => absurd rfl h
  | [p], [q], _, _, _, _, h => by
    have h : p = q := h
    rw [h]
  | [p], q :: q2 :: r, _, _, hp, _, h => by
    have h : p = _ := h
    exact absurd (h ▸ join_has) (hp p List.mem_cons_self)
  | p :: p2 :: r, [q], _, _, _, hq, h => by
    have h : _ = q := h
    exact absurd (h ▸ join_has) (hq q List.mem_cons_self)
  | p :: p2 :: r, q :: q2 :: t, _, _, hp, hq, h => by
    rw [join_cons, join_cons] at h
    have h2 := congrArg (fun z : Str => z.cps.toList) h
    simp only [cps_app] at h2
    rw [List.append_assoc, List.append_assoc] at h2
    obtain ⟨e1, e2⟩ := app_uniq (c := c) (hp p List.mem_cons_self) (hq q List.mem_cons_self) h2
    rw [str_eqL e1, join_inj (ps := p2 :: r) (qs := q2 :: t) (by simp) (by simp) (fun z hz => hp z (List.mem_cons_of_mem _ hz)) (fun z hz => hq z (List.mem_cons_of_mem _ hz)) (str_eqL e2)]
theorem split_ne (x y : Str) : Txt.split x y ≠ [] := by
  unfold Txt.split
  split
  · simp
  · split
    · simp
    · rename_i h
      rw [StrLaws.partsBetween_eq]
      intro z
      cases e : Builtin.Str.occurrences x y 0 x.length (x.length + 1) with
      | nil => rw [e] at h; exact h rfl
      | cons a l =>
        rw [e] at z
        cases z
theorem split_join {c : Nat} {ys : List Str} (hn : ys ≠ []) (h : ∀ y ∈ ys, c ∉ y.cps.toList) : Txt.split (Txt.join (sg c) ys) (sg c) = ys := by
  refine join_inj (c := c) (split_ne _ _) hn (StrLaws.split_free _ c) h ?_
  rw [txt_join]
  exact StrLaws.join_split _ _
end Sx
end
section
/-! format_drawer, is_book -/
set_option maxRecDepth 100000
set_option maxHeartbeats 1000000
namespace Sx
open PySem PySem.Spec PyProof.Rows L2 LamX NdefX
section
variable {X : Cx} {c : Cs} {Fr : Hp} {G : List (V × D)} {M : Mm} {env : En} {e o : Expr} {p1 p2 : Pos} {ds : List D}
/-- z.join(a list that was just made) -/
theorem v_joinN {z : Str} {ys : List Str} (ho : Pv X c Fr G M env o (.s z)) (he : Pl X c Fr G M env e (ys.map D.s)) (hz : (ys.map (·.length)).sum + ys.length * z.length ≤ 100000)
    (hbase : attributeBase o "join" X.env (eval o X.env) = eval o X.env := by rfl)
    (hfew : ((backTo p2 (starEach (e :: []) X.env)).all (fun x => !x.1) && (backToKw p2 (keywordEach [] X.env)).all (fun x => x.1.isSome)
      && decide ((e :: ([] : List Expr)).length + ([] : List Keyword).length + (if ([] : List Keyword).isEmpty then 0 else 1) < 30)) = true := by rfl)
    (hline : (p1.endLine == p2.line) = true := by rfl) (hs : starEach (e :: []) X.env = (false, eval e X.env) :: starEach [] X.env := by rfl) (hplain : (backTo p2 (starEach [] X.env)).any (·.1) = false := by rfl) : Pv X c Fr G M env (.Call (.Attribute o "join" p1) [e] [] p2) (.s (Txt.join z ys)) :=
  Ev.pureL (e_join (Z2 := fun d M' => d = .s (Txt.join z ys) ∧ M.Sublist M') ho he.ev (fun d M1 zz => by
    obtain ⟨l, rfl, rfl⟩ := zz
    exact ⟨l, ys, rfl, .inr List.mem_cons_self, hz, rfl, List.sublist_cons_self _ _⟩) hbase hfew hline hs hplain) fun d' M' zz => zz
end
theorem line_len {r : Crd} (o : r.Ok) : (lineF r).length ≤ 117 := by
  obtain ⟨h1, h2⟩ := words_ok o
  have a := join_len " " (wordsF r)
  have b := sum_le (·.length) 8 (wordsF r) h2
  unfold lineF
  rw [txt_join]
  have e : (" " : Str).length = 1 := by decide +kernel
  rw [e] at a
  omega
section
variable {P : Program} {w : World} {c : Cs} {mg : Str → Option Value} {base : Heap}
def R_format : List D → D → Prop := fun ds d => ∃ cs : List Crd, ds = [dDrw cs] ∧ drwOk cs ∧ d = .s (textF cs)
theorem ok_format (T : Tx c mg) : FnAt P w c.K mg base "format_drawer" 4 (spD c R_format) := by
  refine T.d_format_drawer.at_ fun f fd F => fnD F sc_format_drawer (fun _ _ _ _ _ _ us hl => match us, hl with | [_], _ => rfl) (fun ds d h => ?_) 1 rfl fun cdv A0 outer s H0 E ds d σ hr h A Q q => ?_
  · obtain ⟨cs, rfl, _⟩ := h
    rfl
  · obtain ⟨cs, rfl, hc, rfl⟩ := h
    refine x_ret (v_joinN (z := "\n") (ys := cs.map lineF) v_str (Pl.is (l_lc [("card", 1)] cs dCard (fun _ => true) (fun r => .s (lineF r)) rfl sc_format_drawer.nd (i_tup rfl (v_prop (k := false) rfl (ok_cards T) T.s_Drawer hr (v_var 0) ⟨cs, rfl, rfl⟩)) (blkOk_by (N := N_format_drawer) (sc := defScope st_format_drawer) (by decide +kernel)) (by have := hc.1; omega) ?_) ?_) ?_) A fun v H' A' r => q _ _ _ _ v H' A' r
    · intro r hr1 acc Fr' Gx Dl e
      have o := hc.2 r hr1
      obtain ⟨h1, h2⟩ := words_ok o
      refine ⟨_, _, fun s H C cl fp => g_name 1 sc_format_drawer.nd, fun j hj => hj, fun s H C cl fp => n_nil, fun _ s H C cl fp => v_joinN (z := " ") (ys := wordsF r) v_str (l_callL [] (ok_card_words T) hr (a_cons (v_var 1) a_nil) ⟨r, rfl, rfl, o, rfl⟩ (fun p hp => nomatch hp)) ?_⟩
      have b := sum_le (·.length) 8 (wordsF r) h2
      have e : (" " : Str).length = 1 := by decide +kernel
      rw [e]
      omega
    · rw [filter_yes, List.map_map]
      rfl
    · have b := sum_le (·.length) 117 (cs.map lineF) fun z hz => by
        obtain ⟨r, hr1, rfl⟩ := List.mem_map.mp hz
        exact line_len (hc.2 r hr1)
      have e : ("\n" : Str).length = 1 := by decide +kernel
      have := hc.1
      rw [e]
      rw [List.length_map] at b ⊢
      omega
def bookB (z : Str) : Bool := (decide (1 ≤ z.length) && decide (z.length ≤ 3)) && (z.cps.toList.all fun k => decide (k ∈ ("0123456789" : Str).cps.toList)) && !decide (z.cps.toList.head? = some 48)
def R_is_book : List D → D → Prop := fun ds d => ∃ z : Str, ds = [.s z] ∧ bookB z = true ∧ d = .b true
theorem ok_is_book (T : Tx c mg) : FnAt P w c.K mg base "is_book" 1 (spD c R_is_book) := by
  refine T.d_is_book.at_ fun f fd F => fnD F sc_is_book (fun _ _ _ _ _ _ us hl => match us, hl with | [_], _ => rfl) (fun ds d h => ?_) 1 rfl fun cdv A0 outer s H0 E ds d σ hr h A Q q => ?_
  · obtain ⟨z, rfl, _⟩ := h
    rfl
  · obtain ⟨z, rfl, hz, rfl⟩ := h
    unfold bookB at hz
    simp only [Bool.and_eq_true, decide_eq_true_eq, Bool.not_eq_true', decide_eq_false_iff_not] at hz
    obtain ⟨⟨⟨h1, h2⟩, h3⟩, h4⟩ := hz
    have hl : z.cps.toList.length = z.length := by simp [Str.length]
    obtain ⟨k0, r0, e0⟩ : ∃ k0 r0, z.cps.toList = k0 :: r0 := by
      cases e : z.cps.toList with
      | nil => rw [e] at hl; simp at hl; omega
      | cons a b => exact ⟨a, b, rfl⟩
    rw [e0] at h4
    have h4 : k0 ≠ 48 := fun z => h4 (by rw [z]; rfl)
    refine x_ret (Pv.is (v_and (k := true) (Pv.is (v_chain op_le op_le v_int (v_lenS T.n_len (v_var 0) (by omega)) (v_glo T.k_MOST_DIGITS) rv_I0 rv_I0) ?_) fun _ => v_and (k := true) (Pv.is (v_all (bs := z.cps.toList.map fun k => decide (k ∈ ("0123456789" : Str).cps.toList)) rfl T.n_all rfl (Pl.is (l_lc [("sign", 1)] z.cps.toList (fun k => .s ⟨#[k]⟩) (fun _ => true) (fun k => .b (decide (k ∈ ("0123456789" : Str).cps.toList))) rfl sc_is_book.nd (i_str (v_var 0)) (blkOk_by (N := N_is_book) (sc := defScope st_is_book) (by decide +kernel)) (by omega) ?_) ?_)) ?_) fun _ => v_one (Pv.is (v_cmp op_ne (v_ixS (k := k0) (v_var 0) v_int (by omega) ?_) v_str rv_ne) (d' := .b true) ?_)) rfl) A fun v H' A' r => q _ _ _ _ v H' A' r
    · congr 2
      rw [Bool.and_eq_true, decide_eq_true_eq, decide_eq_true_eq]
      omega
    · intro k hk acc Fr' Gx Dl e
      exact ⟨_, _, fun s H C cl fp => g_name 1 sc_is_book.nd, fun j hj => hj, fun s H C cl fp => n_nil, fun _ s H C cl fp => v_cmp op_in_sign (v_var 1) (v_glo T.k_DIGITS) rv_inS⟩
    · rw [filter_yes, List.map_map]
      rfl
    · congr 2
      rw [List.all_map]
      exact h3
    · rw [e0]
      exact atI_nat (j := 0) (show (k0 :: r0)[0]? = some k0 from rfl)
    · rw [dec_str]
      congr 2
      rw [Bool.not_eq_true', decide_eq_false_iff_not]
      intro z
      exact h4 (by
        have e1 : [k0] = ("0" : Str).cps.toList := congrArg (fun s : Str => s.cps.toList) z
        have e2 : ("0" : Str).cps.toList = [48] := by decide +kernel
        rw [e2] at e1
        exact (List.cons.inj e1).1)
end
end Sx
end
section
/-! promises told of the very state; what a def calls that it was handed -/
set_option maxRecDepth 100000
set_option maxHeartbeats 1000000
namespace Sx
open PySem PySem.Spec PyProof.Rows L2 LamX NdefX
/-- a def's promise, told of the callers' frames, the state, the heap -/
def FnSt (P : Program) (w : World) (c : Cs) (mg : Str → Option Value) (base : Heap) (k : Nat) (f : Addr) (S : List Env → Shared → Hp → List D → List (Addr × List D) → Mm → (D → Mm → Prop) → Prop) : Prop :=
  ∀ (A : Around) (outer : List Env) (s : Shared) (H : Hp) (us : List Value) (vs : List V) (Q : VK) (E : XK), Room k A → Env0 P w c.K mg base A outer s H → Vals vs us → spM c (S outer s H) vs H Q E →
    codeAny (model P w) A (.call (.ref f) ⟨us, []⟩) (CR CX0 outer P w H s Q E) s
theorem FnSt.mono {P : Program} {w : World} {c : Cs} {mg : Str → Option Value} {base : Heap} {j k : Nat} {f : Addr} {S : List Env → Shared → Hp → List D → List (Addr × List D) → Mm → (D → Mm → Prop) → Prop} (F : FnSt P w c mg base j f S) (h : j ≤ k) : FnSt P w c mg base k f S := fun A outer s H us vs Q E hr => F A outer s H us vs Q E (hr.mono h)
section
variable {P : Program} {w : World} {c : Cs} {mg : Str → Option Value} {base : Heap} {k : Nat} {x qual : Str} {params : Arguments} {body : List Stmt} {scope : Scope} {f : Addr} {fd : FuncData} {ps N : List Str}
theorem fnS {S : List Env → Shared → Hp → List D → List (Addr × List D) → Mm → (D → Mm → Prop) → Prop} (F : FunD c.K x qual params body scope [] [] f fd) (Sc : FnScope N ps scope)
    (hb : ∀ (kV doc pm : Value) (an : Option Addr) (cdv ct : Value) (us : List Value), us.length = ps.length → bindArgs (PySem.W.fnOf x qual params body scope .none kV doc pm an cdv ct) ⟨us, []⟩ = pure (ps.zip us))
    (len : ∀ outer s H ds L M0 Z, S outer s H ds L M0 Z → ds.length = ps.length) (n : Nat) (hn : ps.length + n = N.length)
    (h : ∀ (cdv : Value), fd.code = cdv → ∀ (A : Around) (outer : List Env) (s : Shared) (H0 Fr : Hp) (E : XK) (ds : List D) (L : List (Addr × List D)) (M0 : Mm) (Z : D → Mm → Prop) (σ : L2.St), Room k (A.deeper (envOfC qual scope s.heap.objs.size f cdv)) → S outer s H0 ds L M0 Z → (∀ p ∈ L, LsAt c Fr p.1 p.2) → IM H0 Fr → At c Fr [] M0 (ds.map some ++ List.replicate n none) σ H0 →
      ∀ Q : VK, (∀ d G Mn env σ v H', Z d Mn → At c Fr G Mn env σ H' → Rp c H' d v → Q v H') →
      WB (cxOf CX0 P w c.K mg base N qual scope f cdv A outer s H0 E).nox body { nx := fun _ H' => Q .non H', rt := Q } σ H0) : FnSt P w c mg base (k + 1) f S := by
  intro A outer s H us vs Q E hr e0 rv q
  obtain ⟨ds, L, M0, Z, q, r, hL, nd, ho, k0⟩ := q
  have hl := r.len
  have hl2 := len outer s H ds L M0 Z q
  have hus : us.length = ps.length := by rw [← rv.length]; omega
  have hbd := F.bindsA hb s us hus
  obtain ⟨oc, od, dV, kV, doc, pm, an, cdv, ct, osl, rfl, lk, hcd, _, _⟩ := F.ex
  refine run_ofS (N := N) (ps := ps) (us := us) (vs := vs) lk hcd Sc hr e0 hbd rv (by omega) fun hr' => ⟨_, PSs.nox wb, ?_⟩
  let Fr : Hp := fun a => if a ∈ M0.map (·.1) then none else H a
  have fn : ∀ a, a ∉ M0.map (·.1) → Fr a = H a := fun a ha => if_neg ha
  have fy : ∀ a, a ∈ M0.map (·.1) → Fr a = none := fun a ha => if_pos ha
  have e : Ex Fr H := fun a o q => by
    by_cases ha : a ∈ M0.map (·.1)
    · rw [fy a ha] at q
      cases q
    · rw [fn a ha] at q
      exact q
  have im : IM H Fr := fun a o q i => by
    rw [fn a fun ha => ?_]
    · exact q
    · obtain ⟨p', hp', rfl⟩ := List.mem_map.mp ha
      obtain ⟨u, hu, iu⟩ := (ho p' hp').there
      rw [hu] at q
      cases q
      rw [iu] at i
      cases i
  refine h cdv rfl A outer s H Fr E ds L M0 Z _ hr' q (fun p hp => ?_) im (At.start n r (by omega) e (fun p hp => ⟨fy _ (List.mem_map_of_mem hp), ho p hp⟩) nd) Q fun d G Mn env σ v H' z B rv => ?_
  · obtain ⟨vs', h1, h2⟩ := (hL p hp).2
    have hp2 : p.1 ∉ M0.map (·.1) := (hL p hp).1
    refine ⟨vs', ?_, h2.im im⟩
    rcases h1 with h1 | ⟨o, h1⟩
    · exact .inl ((fn _ hp2).trans h1)
    · exact .inr ⟨o, (fn _ hp2).trans h1⟩
  · refine k0 d Mn v H' z rv B.nd (fun p hp => (B.ob p hp).2) (fun p hp => ?_) (fun a o ha q => B.fr a o ((fn a ha).trans q)) fun a o q i => B.fr a o (im a o q i)
    by_cases ha : p.1 ∈ M0.map (·.1)
    · exact .inl ha
    · exact .inr ((fn _ ha).symm.trans (B.ob p hp).1)
end
section
variable {X : Cx} {c : Cs} {Fr : Hp} {G : List (V × D)} {M : Mm} {env : En} {e o : Expr} {pos apos p1 p2 : Pos} {d : D} {q C dx : Addr} {fs : List (Str × D)} {m x : Str} {k j : Nat} {pl : Sem Bool}
/-- o.m(e), the promise told of the very state; e's value an object -/
theorem e_methS {g : Addr} {S : List Env → Shared → Hp → List D → List (Addr × List D) → Mm → (D → Mm → Prop) → Prop} {Z2 : D → Mm → Prop} (i : Nat) (L : List (Addr × List D)) (M0 Mr : Mm) (hK : X.K = c.K) (hc : Cls c.K C) (hm : Meth c.K C m g) (F : FnSt X.prog X.w c X.mg X.base k g S) (hr : Room j X.A) (ho : Pv X c Fr G M env o (.p q)) (ha : Pv X c Fr G M env e d)
    (hS : ∀ (pins : List (Addr × Obj)) (σ : L2.St) (H : Hp) (s : Shared) (v : V), Inv X pins σ H s → At c Fr G M env σ H → Rp c H d v → ∃ f Z, v = .ref f ∧ S X.stack s H [.p q, .p f] L M0 Z ∧ ∀ d Mn, Z d Mn → Z2 d (Mn ++ Mr))
    (hL : ∀ p ∈ L, LsOf c Fr Mr p.1 p.2) (hM : M[i]? = some (q, .ins C dx fs) := by rfl) (hl : fs.lookup m = none := by rfl) (hp : M.Perm (M0 ++ Mr) := by exact List.Perm.refl _) (hk : k ≤ j := by decide)
    (hst : starEach (e :: []) X.env = (false, eval e X.env) :: starEach [] X.env := by rfl) (hpl : (backTo pos (starEach [] X.env)).any (·.1) = false := by rfl)
    (ht : eval (.Call (.Attribute o m apos) (e :: []) [] pos) X.env = (do
      let ov ← eval o X.env
      standAt apos.atName
      let (f, first) ← holding [ov] (getMethod ov m pl)
      callWith pos f first (backTo pos (starEach (e :: []) X.env)) (backToKw pos (keywordEach [] X.env))) := by rfl) : Ev X c Fr G M env (.Call (.Attribute o m apos) [e] [] pos) Z2 := fun σ H A Q kk pins s I => by
  have hc' : Cls X.K C := hK ▸ hc
  have hm' : Meth X.K C m g := hK ▸ hm
  refine PySem.W.methodCall_KW (pl := pl) (thn ((ho σ H A (fun v H1 => v = .ref q ∧ At c Fr G M env σ H1 ∧ IM H H1) fun v H1 A1 i1 r => ⟨rp_v.mp r, A1, i1⟩) pins s I) fun u s1 ⟨x1, H1, I1, rx, e1, A1, i1⟩ => ?_) ht
  subst e1
  obtain rfl : u = Value.ref q := rx
  obtain ⟨vs, h1, h2⟩ := (A1.ob _ (List.mem_of_getElem? hM)).2
  refine getmeth_ok I1 h1 hc' hm' (h2.lookN hl) ?_
  refine PySem.W.callWith_K (first := [.ref q]) (h₀ := X.base) I1.ok.mod.kin hm'.kp (thn ((pa_cons we pa_nil hst).run pos pins s1 σ H1 (fun vs H2 => ∃ v, vs = [v] ∧ At c Fr G M env σ H2 ∧ IM H1 H2 ∧ Rp c H2 d v) I1 (ha σ H1 A1 _ fun v H2 A2 i2 r => ⟨v, rfl, A2, i2, r⟩)) fun us s2 ⟨vs2, H2, I2, r, v, ev, A2, i2, rd⟩ => ⟨I2.kIn, ?_⟩) hst hpl
  subst ev
  obtain ⟨f, Z, rfl, hS, hz⟩ := hS pins σ H2 s2 v I2 A2 rd
  have q2 : spM c (S X.stack s2 H2) [.ref q, .ref f] H2 Q (fun _ _ _ => False) := A2.takes hp (rpl_cons.mpr ⟨_, _, rfl, rp_v.mpr rfl, RpL.one (rp_v.mpr rfl)⟩) hS hL fun d Mn v H3 z A3 i3 rv => kk d _ v H3 (hz d Mn z) A3 ((i1.trans i2).trans i3) rv
  have F' := F
  have e0 : Env0 X.prog X.w c.K X.mg X.base X.A X.stack s2 H2 := hK ▸ I2.env0
  refine wpAny_call (codeAny_mono (F X.A X.stack s2 H2 (.ref q :: us) (.ref q :: [.ref f]) Q (fun _ _ _ => False) (hr.mono hk) e0 (.cons rfl r) q2) fun r s' hq => ?_)
  cases r with
  | error e => exact (show False from hq).elim
  | ok fl =>
    cases fl with
    | ret u => exact I2.after hq
    | next => exact False.elim hq
    | brk => exact False.elim hq
    | cont => exact False.elim hq
end
/-- what f answers to v, its cells as they were: True -/
structure Callee (P : Program) (w : World) (K : PySem.W.Frag) (mg : Str → Option Value) (base : Heap) (k : Nat) (f : Addr) (v : V) (cl : List (Str × Addr)) (fr : List Str) (ws : List (Option V)) (H : Hp) : Prop where
  run : ∀ (A : Around) (outer : List Env) (s : Shared) (H2 : Hp) (us : List Value), Room k A → Env0 P w K mg base A outer s H2 → IM H H2 → CellsAt cl fr ws s.heap H2 → Vals [v] us → codeAny (model P w) A (.call (.ref f) ⟨us, []⟩) (CR CX0 outer P w H2 s (fun u H3 => u = .bl true ∧ Ex H2 H3) (fun _ _ _ => False)) s
  fn : ∀ (s : Shared) (H2 : Hp), K.In s.heap → HOk P w H2 s.heap → IM H H2 → PySem.W.FnAt f s.heap
section
variable {X : Cx} {c : Cs} {Fr : Hp} {G : List (V × D)} {M : Mm} {env : En} {e : Expr} {pos p1 : Pos} {f : Addr} {x : Str} {k j : Nat} {v : V} {cl : List (Str × Addr)} {fr : List Str} {ws : List (Option V)}
theorem v_callee (i : Nat) (hX : X.ex = []) (hcc : CellsAt cl fr ws X.s_0.heap X.H_0) (hnf : ∀ y c, cl.lookup y = some c → c ∉ X.fs) (KK : Callee X.prog X.w X.K X.mg X.base k f v cl fr ws X.H_0) (hFr : IM X.H_0 Fr) (hr : Room j X.A) (ha : Pv X c Fr G M env e (.v v)) (hk : k ≤ j := by decide) (h : env[i]? = some (some (.p f)) := by rfl) (hN : X.N[i]? = some x := by rfl)
    (hv : Vis X.env.scope x := by first | exact Or.inl rfl | exact Or.inr (Or.inl rfl) | exact Or.inr (Or.inr rfl)) (hd : (x == ("__debug__" : Str)) = false := by decide) (hcd : (x == ("__classdict__" : Str)) = false := by decide)
    (hst : starEach (e :: []) X.env = (false, eval e X.env) :: starEach [] X.env := by rfl) (hpl : (backTo pos (starEach [] X.env)).any (·.1) = false := by rfl) : Pv X c Fr G M env (.Call (.Name x p1) [e] [] pos) (.b true) := fun σ H A Q kk pins s I => by
  obtain ⟨vf, hs, hvf⟩ := A.sl i _ h
  rw [rp_v.mp hvf] at hs
  refine wpAny_Call_Name_kw (thn ((pe_var (pos := p1) hN hv hd hcd).run pins s σ H (fun v H1 => v = .ref f ∧ H1 = H) I ⟨.ref f, hs, rfl, rfl⟩) fun u s1 ⟨v1, H1, I1, r1, q1⟩ => ?_)
  obtain ⟨e1, e2⟩ := q1
  subst e1
  rw [e2] at I1
  obtain rfl : u = Value.ref f := r1
  have im0 : IM X.H_0 H := hFr.trans A.fr.im
  refine PySem.W.callWith_F (first := []) (KK.fn s1 H I1.kIn I1.hok im0) (thn ((pa_cons we pa_nil hst).run pos pins s1 σ H (fun vs H2 => vs = [v] ∧ At c Fr G M env σ H2 ∧ IM H H2) I1 (ha σ H A _ fun v H2 A2 i2 r => ⟨by rw [rp_v.mp r], A2, i2⟩)) fun us s2 ⟨vs2, H2, I2, r, ev, A2, i2⟩ => ⟨KK.fn s2 H2 I2.kIn I2.hok (im0.trans i2), ?_⟩) hst hpl
  subst ev
  have C2 : CellsAt cl fr ws s2.heap H2 := CellsAt.later hcc hnf (fun y c _ => by rw [hX]; simp) I2
  refine wpAny_call (codeAny_mono (KK.run X.A X.stack s2 H2 us (hr.mono hk) I2.env0 (im0.trans i2) C2 r) fun r s' hq => ?_)
  cases r with
  | error e => exact (show False from hq).elim
  | ok fl =>
    cases fl with
    | ret u =>
      refine I2.after (Q := Q) ?_
      obtain ⟨u', H3, os, b, un, hok, ru, e1, e3⟩ := hq
      subst e1
      exact ⟨_, H3, os, b, un, hok, ru, kk _ H3 (A2.ex e3) (i2.trans e3.im) (rp_v.mpr rfl)⟩
    | next => exact False.elim hq
    | brk => exact False.elim hq
    | cont => exact False.elim hq
/-- nothing captured -/
theorem cells_none {h : Heap} {H : Hp} : CellsAt [] [] [] h H := ⟨rfl, fun y a e => (nomatch e), fun x y a e => (nomatch e), fun i y e => (nomatch e)⟩
end
end Sx
end
section
/-! the texts of the numbers 1 to 999 -/
set_option maxRecDepth 100000
set_option maxHeartbeats 1000000
namespace Sx
open PySem PySem.Spec PyProof.Rows L2 LamX NdefX
theorem num_all (p : Int → Bool) (h : (List.range 1000).all (fun n => decide (n = 0) || p (n : Int)) = true) {i : Int} (hi : 1 ≤ i ∧ i ≤ 999) : p i = true := by
  have := List.all_eq_true.mp h i.toNat (List.mem_range.mpr (by omega))
  have e : ((i.toNat : Nat) : Int) = i := by omega
  rw [e, Bool.or_eq_true, decide_eq_true_eq] at this
  rcases this with z | z
  · omega
  · exact z
theorem num_book {i : Int} (hi : 1 ≤ i ∧ i ≤ 999) : bookB (strI i) = true := num_all (fun i => bookB (strI i)) (by decide +kernel) hi
theorem num_int {i : Int} (hi : 1 ≤ i ∧ i ≤ 999) : PySem.intText? (strI i) = some i := of_decide_eq_true (num_all (fun i => decide (PySem.intText? (strI i) = some i)) (by decide +kernel) hi)
theorem num_also {i : Int} (hi : 1 ≤ i ∧ i ≤ 999) : strI i ≠ ("also" : Str) := of_decide_eq_true (num_all (fun i => decide (strI i ≠ ("also" : Str))) (by decide +kernel) hi)
theorem num_signs {i : Int} (hi : 1 ≤ i ∧ i ≤ 999) : ∀ k ∈ (strI i).cps.toList, 48 ≤ k ∧ k ≤ 57 := of_decide_eq_true (num_all (fun i => decide (∀ k ∈ (strI i).cps.toList, 48 ≤ k ∧ k ≤ 57)) (by decide +kernel) hi)
end Sx
end
section
/-! Row: __init__, has_more, next_part -/
set_option maxRecDepth 100000
set_option maxHeartbeats 1000000
namespace Sx
open PySem PySem.Spec PyProof.Rows L2 LamX NdefX
theorem dec_lt (a b : Nat) : D.b (decide ((a : Int) < (b : Int))) = D.b (decide (a < b)) := by
  have : decide ((a : Int) < (b : Int)) = decide (a < b) := by
    rw [decide_eq_decide]
    omega
  rw [this]
/-- a row's object -/
def WR (C x dx a : Addr) (n k : Nat) : Mm := [(x, .ins C dx [("number", natD n), ("parts", .p a), ("spot", natD k)])]
section
variable {X : Cx} {c : Cs} {Fr : Hp} {G : List (V × D)} {M : Mm} {env : En} {e : Expr} {es : List Expr} {p1 p2 pos : Pos} {x : Str} {d : D}
/-- a built-in class called, its argument with effects -/
theorem e_cT1 {T : String} {r : List V → Hp → VK → Prop} {Z0 Z2 : D → Mm → Prop} (hc : CallR X (.type T) r) (hv : bootBuiltins x = some (.type T)) (hm : X.mg x = none) (he : Ev X c Fr G M env e Z0) (h : ∀ d M1, Z0 d M1 → ∃ d', RVC c r [d] d' ∧ Z2 d' M1) (hg : Gl X x := by rfl) (hn : x ≠ "__name__" := by decide) (hdb : (x == ("__debug__" : Str)) = false := by decide)
    (hst : starEach (e :: []) X.env = (false, eval e X.env) :: starEach [] X.env := by rfl) (hpl : (backTo p2 (starEach [] X.env)).any (·.1) = false := by rfl) : Ev X c Fr G M env (.Call (.Name x p1) [e] [] p2) Z2 := fun σ H A Q q =>
  (pe_callTy hc hg hm hv (pa_cons we pa_nil hst) hn hdb hst hpl).w (he σ H A _ fun d M1 v H1 z A1 i1 r1 => by
    obtain ⟨d', hr, z2⟩ := h d M1 z
    exact hr H1 [v] Q (RpL.one r1) fun u H2 e2 ru => q d' M1 u H2 z2 (A1.ex e2) (i1.trans e2.im) ru)
/-- [e, ..] with effects -/
theorem e_lst {Z : List D → Mm → Prop} {Z2 : D → Mm → Prop} (h : Ea X c Fr G M env es Z) (hl : ∀ ds M', Z ds M' → ds.length ≤ 100000 ∧ ∀ l, Z2 (.p l) ((l, .lst ds) :: M')) : Ev X c Fr G M env (.List es pos) Z2 := fun σ H A Q q =>
  (pe_lst wa).w (h σ H A _ fun ds M' vs H1 z A1 i1 rs => ⟨by rw [rs.len]; exact Nat.le_trans (hl ds M' z).1 (by decide), fun p hp => q _ _ _ _ ((hl ds M' z).2 p) (A1.new hp (Ex.new hp) ⟨vs, upd_same, rs.im (IM.new hp)⟩) (i1.trans (IM.new hp)) (rp_v.mpr rfl)⟩)
end
section
variable {P : Program} {w : World} {c : Cs} {mg : Str → Option Value} {base : Heap}
def S_Row (C : Addr) : List D → List (Addr × List D) → Mm → (D → Mm → Prop) → Prop := fun ds L M0 Z => ∃ (x dx a : Addr) (n : Nat), ds = [.p x, natD n, .p a] ∧ L = [] ∧ M0 = [(x, .ins C dx [])] ∧ Z = fun d Mn => d = .n ∧ Mn = WR C x dx a n 0
theorem ok_Row (T : Tx c mg) : MkAt P w c mg base (He.ga c.K "Row") "Row" 1 (spM c (S_Row (He.ga c.K "Row"))) := by
  obtain ⟨g, fd, dvs, Mk0, hd, F⟩ := T.d_Row_init
  have e0 : dvs = [] := List.eq_nil_of_length_eq_zero hd
  subst e0
  refine ⟨g, T.g_Row, Mk0, fnM F sc_Row_init (fun _ _ _ _ _ _ us hl => match us, hl with | [_, _, _], _ => rfl) rfl (fun ds L M0 Z h => ?_) 0 rfl fun cdv A0 outer s H0 Fr E ds L M0 Z σ hr h hL A Q q => ?_⟩
  · obtain ⟨x, dx, a, n, rfl, _⟩ := h
    rfl
  · obtain ⟨x, dx, a, n, rfl, rfl, rfl, rfl⟩ := h
    have hC := T.c_Row
    refine x_fld 0 rfl hC T.a_Row_number (v_var 1) (v_var 0) A fun H1 A1 => ?_
    refine x_fld 0 rfl hC T.a_Row_parts (v_var 2) (v_var 0) A1 fun H2 A2 => ?_
    refine x_fld 0 rfl hC T.a_Row_spot v_int (v_var 0) A2 fun H3 A3 => ?_
    exact x_nil (q _ _ _ _ _ _ H3 ⟨rfl, rfl⟩ A3 (rp_v.mpr rfl))
def S_has_more (C : Addr) : List D → List (Addr × List D) → Mm → (D → Mm → Prop) → Prop := fun ds L M0 Z => ∃ (x dx a : Addr) (n k : Nat) (ws : List D), ds = [.p x] ∧ L = [(a, ws)] ∧ M0 = WR C x dx a n k ∧ Z = fun d Mn => d = .b (decide (k < ws.length)) ∧ Mn = WR C x dx a n k
theorem ok_has_more (T : Tx c mg) : MtAt P w c mg base (He.ga c.K "Row") "has_more" 1 (spM c (S_has_more (He.ga c.K "Row"))) := by
  refine T.d_Row_has_more.at_ fun f fd F => fnM F sc_Row_has_more (fun _ _ _ _ _ _ us hl => match us, hl with | [_], _ => rfl) rfl (fun ds L M0 Z h => ?_) 0 rfl fun cdv A0 outer s H0 Fr E ds L M0 Z σ hr h hL A Q q => ?_
  · obtain ⟨x, dx, a, n, k, ws, rfl, _⟩ := h
    rfl
  · obtain ⟨x, dx, a, n, k, ws, rfl, rfl, rfl, rfl⟩ := h
    have hC := T.c_Row
    have hl := hL (a, ws) List.mem_cons_self
    refine x_ret (Pv.is (v_cmp op_lt (v_fld 0 rfl hC T.a_Row_spot (v_var 0)) (v_lenL T.n_len rfl (v_fld 0 rfl hC T.a_Row_parts (v_var 0)) (.inl hl)) rv_I0) (d' := .b (decide (k < ws.length))) (dec_lt k ws.length)) A fun v H' A' r => q _ _ _ _ _ v H' ⟨rfl, rfl⟩ A' r
/-- what the def next_part promises -/
def S_next (P : Program) (w : World) (c : Cs) (mg : Str → Option Value) (base : Heap) : List Env → Shared → Hp → List D → List (Addr × List D) → Mm → (D → Mm → Prop) → Prop := fun outer s H ds L M0 Z =>
  ∃ (x dx a f : Addr) (n k : Nat) (ws : List Str) (z : Str) (cl : List (Str × Addr)) (fr : List Str) (vs : List (Option V)), ds = [.p x, .p f] ∧ L = [(a, ws.map D.s)] ∧ M0 = WR (He.ga c.K "Row") x dx a n k ∧ ws[k]? = some z ∧
    CellsAt cl fr vs s.heap H ∧ (∀ y q, cl.lookup y = some q → q ∉ frs outer) ∧ Callee P w c.K mg base 2 f (.str z) cl fr vs H ∧ Z = fun d Mn => d = .s z ∧ Mn = WR (He.ga c.K "Row") x dx a n (k + 1)
theorem ok_next (T : Tx c mg) : ∃ g, Meth c.K (He.ga c.K "Row") "next_part" g ∧ FnSt P w c mg base 3 g (S_next P w c mg base) := by
  obtain ⟨g, fd, hm, F⟩ := T.d_Row_next_part
  refine ⟨g, hm, fnS F sc_Row_next_part (fun _ _ _ _ _ _ us hl => match us, hl with | [_, _], _ => rfl) (fun outer s H ds L M0 Z h => ?_) 0 rfl fun cdv hcv A0 outer s H0 Fr E ds L M0 Z σ hr h hL im A Q q => ?_⟩
  · obtain ⟨x, dx, a, f, n, k, ws, z, cl, fr, vs, rfl, _⟩ := h
    rfl
  · obtain ⟨x, dx, a, f, n, k, ws, z, cl, fr, vs, rfl, rfl, rfl, hk, hcc, hnf, KK, rfl⟩ := h
    have hC := T.c_Row
    have hl := hL (a, ws.map D.s) List.mem_cons_self
    have hlt := (List.getElem?_eq_some_iff.mp hk).1
    have hkd : (ws.map D.s)[k]? = some (D.s z) := by rw [List.getElem?_map, hk]; rfl
    have hLs : ∀ M : Mm, ∀ p ∈ [(a, ws.map D.s)], LsOf c Fr M p.1 p.2 := fun M p hp => by
      rw [List.mem_singleton.mp hp]
      exact .inl hl
    refine x_if (k := false) (o_t (o_or (k := false) (t_not (k := true) (t_val (Ev.pure (e_meth0I 0 [(a, ws.map D.s)] (WR (He.ga c.K "Row") x dx a n k) [] (Z2 := fun d M' => d = .b true ∧ M' = WR (He.ga c.K "Row") x dx a n k) rfl hC (ok_has_more T) hr (v_var 0) ⟨x, dx, a, n, k, _, rfl, rfl, rfl, rfl⟩ (hLs _) (fun d Mn z => ⟨?_, ?_⟩)) fun d M' z => ⟨z.1, z.2 ▸ List.Perm.refl _⟩))) fun _ => o_or1 (t_not (k := true) (t_val (v_callee 1 rfl hcc hnf KK im hr (v_ixL (d := .s z) rfl (v_fld 0 rfl hC T.a_Row_parts (v_var 0)) (.inl hl) (v_fld 0 rfl hC T.a_Row_spot (v_var 0)) (atI_nat hkd))))))) A (fun h => nomatch h) fun _ H1 A1 => x_nil ?_
    · obtain ⟨e1, _⟩ := z
      rw [e1]
      congr 2
      rw [List.length_map, decide_eq_true_eq]
      exact hlt
    · rw [z.2, List.append_nil]
    refine x_fldaug 0 rfl hC T.a_Row_spot (v_var 0) v_int A1 fun H2 A2 => ?_
    refine x_ret (v_ixL (d := .s z) (n := (k : Int)) rfl (v_fld 0 rfl hC T.a_Row_parts (v_var 0)) (.inl hl) (Pv.is (v_op op_sub (v_fld 0 rfl hC T.a_Row_spot (v_var 0)) v_int rv_I0) (by congr 2; omega)) (atI_nat hkd)) A2 fun v H' A' r => q _ _ _ _ _ v H' ⟨rfl, ?_⟩ A' r
    rfl
end
end Sx
end
section
/-! what next_part is handed; read_books, read_also -/
set_option maxRecDepth 100000
set_option maxHeartbeats 1000000
namespace Sx
open PySem PySem.Spec PyProof.Rows L2 LamX NdefX
section
variable {P : Program} {w : World} {c : Cs} {mg : Str → Option Value} {base : Heap}
theorem isword_callee (T : Tx c mg) {z : Str} (hz : wordB z = true) (H : Hp) : Callee P w c.K mg base 2 (He.ga c.K "is_word") (.str z) [] [] [] H := by
  have hT := T.d_is_word
  obtain ⟨h1, fd, F⟩ := hT
  obtain ⟨oc, od, dV, kV, doc, pm, an, cdv, ct, osl, rfl, lk, hcd, _, _⟩ := F.ex
  refine ⟨fun A outer s H2 us hr e0 im C r => ?_, fun s H2 KX hok im => ⟨_, _, _, _, KX _ _ lk⟩⟩
  obtain ⟨f, hm, hk, FF⟩ := ok_is_word (P := P) (w := w) (base := base) T
  have e : f = He.ga c.K "is_word" := by
    rw [h1] at hm
    injection hm with hm
    injection hm with hm
    exact hm.symm
  subst e
  exact FF A outer s H2 us [.str z] _ _ (hr.mono (by decide)) e0 r ⟨[.s z], .b (wordB z), RpL.one (rp_v.mpr rfl), ⟨z, rfl, by have := (word_len hz).2; omega, rfl⟩, fun v H' e rv => ⟨by rw [rp_v.mp rv, hz], e⟩⟩
end
section
variable {X : Cx} {c : Cs} {Fr H : Hp} {G : List (V × D)} {M Mr : Mm} {env : En} {o : Expr} {pos apos p1 : Pos} {u : V} {params : Arguments} {body : Expr} {scope : Scope} {x : Str} {k j : Nat} {pl : Sem Bool}
theorem lam_fn {f c' : Addr} {s : Shared} {H2 : Hp} (h1 : H f = some (LnO f (lamF X params scope c') body)) (hok : HOk X.prog X.w H2 s.heap) (im : IM H H2) : PySem.W.FnAt f s.heap := by
  obtain ⟨pm, ctv, ho⟩ := lnO_at hok (im _ _ h1 rfl)
  exact ⟨_, _, _, _, ho⟩
/-- a lambda that captures nothing -/
theorem lam_callee0 {z : V} (S : NScope [x] [x] [] scope) (hb : ∀ (q : Str) (c' : Addr) (pm ctv u : Value), bindArgs (PySem.W.kla_fn "<lambda>" q params body scope [] pm (.ref c') ctv) ⟨[u], []⟩ = pure [(x, u)]) (hcl : cloFrom X.env.cells scope.names [] = [])
    (h : LamV X params body scope H u)
    (hbody : ∀ (A : Around) (outer : List Env) (s : Shared) (f c' : Addr) (H2 : Hp) (E : XK), Room k (A.deeper (envF (lamF X params scope c') f s.heap.objs.size)) → Pv (lamX X params scope [x] f c' A outer s H2 E) c H2 [] [] [some (.v z)] body (.b true)) :
    ∃ f, u = .ref f ∧ Callee X.prog X.w X.K X.mg X.base (k + 1) f z [] [] [] H := by
  obtain ⟨f, c', rfl, h1, h2⟩ := id h
  refine ⟨f, rfl, fun A outer s H2 us hr e0 im C r => ?_, fun s H2 KX hok im => lam_fn h1 hok im⟩
  obtain ⟨f', e, hc⟩ := lam_calls (c := c) (H := H2) (r := .b true) (k := k) (v := z) (d := .v z) S hb hcl (h.im im) (rp_v.mpr rfl) fun A outer s f c' E hr => hbody A outer s f c' H2 E hr
  cases e
  refine codeAny_mono (hc A outer s us hr e0 r) fun r s' hq => ?_
  cases r with
  | error e => exact hq
  | ok fl =>
    cases fl with
    | next => exact hq
    | brk => exact hq
    | cont => exact hq
    | ret u =>
      obtain ⟨v', H2, os2, b2, un2, hok2, rv2, rz, ex2⟩ := hq
      exact ⟨v', H2, os2, b2, un2, hok2, rv2, rp_v.mp rz, ex2⟩
/-- the cells of the running def, seen by a lambda that it makes -/
theorem own_cells {pins : List (Addr × Obj)} {σ : L2.St} {s : Shared} {fr : List Str} {js : List Nat} (I : Inv X pins σ H s) (hfn : ∀ y, X.fn y = true) (hfr : lamFB X.env.scope scope = true) (hf : ∀ y ∈ fr, (y, NameKind.free) ∈ scope.names) (hjs : js.map (fun j => X.N[j]?) = fr.map some) :
    CellsAt (cloFrom X.env.cells scope.names []) fr (js.map (slotAt σ)) s.heap H ∧ ∀ y q, (cloFrom X.env.cells scope.names []).lookup y = some q → q ∉ frs X.stack := by
  have hfree := lamFB_ok hfr
  refine ⟨cells_of I (Caps.made I.ok hfree hf hjs), fun y q e hq => ?_⟩
  have e2 := clo_cm (fun y hy e => (hfree y hy e).elim (fun z => I.ok.has _ (.inl z)) fun z => I.ok.has _ (.inr z)) e
  rcases List.mem_cons.mp (I.stkSub q hq) with h | h
  · exact I.cne y q e2 h
  · obtain ⟨_, o, ho, _⟩ := I.ok.funs.mem h
    exact absurd (Heap.lt_size ho) (Nat.not_lt.mpr (I.ok.cab y q (hfn y) e2))
/-- self.has_more() -/
theorem v_more {x1 dx a : Addr} {n : Nat} {ws : List D} (i : Nat) (T : Tx c X.mg) (hK : X.K = c.K) (hr : Room j X.A) (ho : Pv X c Fr G M env o (.p x1)) (hp : M.Perm (WR (He.ga c.K "Row") x1 dx a n k ++ Mr)) (hl : LsAt c Fr a ws) (hM : M[i]? = some (x1, .ins (He.ga c.K "Row") dx [("number", natD n), ("parts", .p a), ("spot", natD k)]) := by rfl) (hj : 1 ≤ j := by decide)
    (ht : eval (.Call (.Attribute o "has_more" apos) [] [] pos) X.env = (do
      let ov ← eval o X.env
      standAt apos.atName
      let (f, first) ← holding [ov] (getMethod ov "has_more" pl)
      callWith pos f first (backTo pos (starEach [] X.env)) (backToKw pos (keywordEach [] X.env))) := by rfl) : Pv X c Fr G M env (.Call (.Attribute o "has_more" apos) [] [] pos) (.b (decide (k < ws.length))) :=
  Ev.pure (e_meth0I (pl := pl) i [(a, ws)] (WR (He.ga c.K "Row") x1 dx a n k) Mr (Z2 := fun d M' => d = .b (decide (k < ws.length)) ∧ M' = WR (He.ga c.K "Row") x1 dx a n k ++ Mr) hK T.c_Row (ok_has_more T) hr ho ⟨x1, dx, a, n, k, ws, rfl, rfl, rfl, rfl⟩ (fun p hp => by
    rw [List.mem_singleton.mp hp]
    exact .inl hl) (fun d Mn z => ⟨z.1, by rw [z.2]⟩) hM rfl hp hj ht) fun d M' z => ⟨z.1, z.2 ▸ hp.symm⟩
/-- self.next_part(e), the callee's promise at hand -/
theorem e_next {x1 dx a : Addr} {n : Nat} {ws : List Str} {z : Str} {e : Expr} {d : D} (i : Nat) (T : Tx c X.mg) (hK : X.K = c.K) (hr : Room j X.A) (ho : Pv X c Fr G M env o (.p x1)) (ha : Pv X c Fr G M env e d)
    (hS : ∀ (pins : List (Addr × Obj)) (σ : L2.St) (H : Hp) (s : Shared) (v : V), Inv X pins σ H s → At c Fr G M env σ H → Rp c H d v → ∃ f cl fr vs, v = .ref f ∧ CellsAt cl fr vs s.heap H ∧ (∀ y q, cl.lookup y = some q → q ∉ frs X.stack) ∧ Callee X.prog X.w c.K X.mg X.base 2 f (.str z) cl fr vs H)
    (hp : M.Perm (WR (He.ga c.K "Row") x1 dx a n k ++ Mr)) (hl : LsAt c Fr a (ws.map D.s)) (hk : ws[k]? = some z) (hM : M[i]? = some (x1, .ins (He.ga c.K "Row") dx [("number", natD n), ("parts", .p a), ("spot", natD k)]) := by rfl) (hj : 3 ≤ j := by decide)
    (hst : starEach (e :: []) X.env = (false, eval e X.env) :: starEach [] X.env := by rfl) (hpl : (backTo pos (starEach [] X.env)).any (·.1) = false := by rfl)
    (ht : eval (.Call (.Attribute o "next_part" apos) (e :: []) [] pos) X.env = (do
      let ov ← eval o X.env
      standAt apos.atName
      let (f, first) ← holding [ov] (getMethod ov "next_part" pl)
      callWith pos f first (backTo pos (starEach (e :: []) X.env)) (backToKw pos (keywordEach [] X.env))) := by rfl) : Ev X c Fr G M env (.Call (.Attribute o "next_part" apos) [e] [] pos) (fun d M' => d = .s z ∧ M' = WR (He.ga c.K "Row") x1 dx a n (k + 1) ++ Mr) := by
  obtain ⟨g, hm, F⟩ := ok_next (P := X.prog) (w := X.w) (base := X.base) T
  exact e_methS (pl := pl) i [(a, ws.map D.s)] (WR (He.ga c.K "Row") x1 dx a n k) Mr hK T.c_Row hm F hr ho ha (fun pins σ H s v I A r => by
    obtain ⟨f, cl, fr, vs, e, h1, h2, h3⟩ := hS pins σ H s v I A r
    exact ⟨f, _, e, ⟨x1, dx, a, f, n, k, ws, z, cl, fr, vs, rfl, rfl, rfl, hk, h1, h2, h3, rfl⟩, fun d Mn z => ⟨z.1, by rw [z.2]⟩⟩) (fun p hp => by
    rw [List.mem_singleton.mp hp]
    exact .inl hl) hM rfl hp hj hst hpl ht
/-- self.next_part(is_word) -/
theorem e_nextW {x1 dx a : Addr} {n : Nat} {ws : List Str} {z : Str} (i : Nat) (T : Tx c X.mg) (hK : X.K = c.K) (hr : Room j X.A) (ho : Pv X c Fr G M env o (.p x1)) (hz : wordB z = true)
    (hp : M.Perm (WR (He.ga c.K "Row") x1 dx a n k ++ Mr)) (hl : LsAt c Fr a (ws.map D.s)) (hk : ws[k]? = some z) (hM : M[i]? = some (x1, .ins (He.ga c.K "Row") dx [("number", natD n), ("parts", .p a), ("spot", natD k)]) := by rfl) (hj : 3 ≤ j := by decide) (hg : Gl X "is_word" := by rfl)
    (hst : starEach ((.Name "is_word" p1) :: []) X.env = (false, eval (.Name "is_word" p1) X.env) :: starEach [] X.env := by rfl) (hpl : (backTo pos (starEach [] X.env)).any (·.1) = false := by rfl)
    (ht : eval (.Call (.Attribute o "next_part" apos) ((.Name "is_word" p1) :: []) [] pos) X.env = (do
      let ov ← eval o X.env
      standAt apos.atName
      let (f, first) ← holding [ov] (getMethod ov "next_part" pl)
      callWith pos f first (backTo pos (starEach ((.Name "is_word" p1) :: []) X.env)) (backToKw pos (keywordEach [] X.env))) := by rfl) : Ev X c Fr G M env (.Call (.Attribute o "next_part" apos) [.Name "is_word" p1] [] pos) (fun d M' => d = .s z ∧ M' = WR (He.ga c.K "Row") x1 dx a n (k + 1) ++ Mr) :=
  e_next (pl := pl) i T hK hr ho (v_glo (v := .ref (He.ga c.K "is_word")) ⟨_, T.d_is_word.1, rfl⟩ hg) (fun pins σ H s v I A r => ⟨_, [], [], [], rp_v.mp r, cells_none, (fun y q e => nomatch e), isword_callee T hz H⟩) hp hl hk hM hj hst hpl ht
end
end Sx
end
section
/-! Row.read_books -/
set_option maxRecDepth 100000
set_option maxHeartbeats 1000000
namespace Sx
open PySem PySem.Spec PyProof.Rows L2 LamX NdefX
section
variable {P : Program} {w : World} {c : Cs} {mg : Str → Option Value} {base : Heap}
theorem rv_intS {c : Cs} {z : Str} {n : Int} (h : PySem.intText? z = some n) (hl : z.length ≤ 640) : RVC c (fun xs H Q => ∃ a n, xs = [.str a] ∧ PySem.intText? a = some n ∧ a.length ≤ 640 ∧ Q (.int n) H) [.s z] (.i n) := fun H xs Q r k => by
  obtain ⟨v, r2, rfl, h1, h2⟩ := rpl_cons.mp r
  rw [rpl_nil.mp h2, rp_v.mp h1]
  exact ⟨z, n, rfl, h, hl, k _ H (Ex.refl H) (rp_v.mpr rfl)⟩
theorem own_cellsL {X : Cx} {H H' : Hp} {f c' : Addr} {params : Arguments} {body : Expr} {scope : Scope} {pins : List (Addr × Obj)} {σ : L2.St} {s : Shared} {fr : List Str} {js : List Nat} (_ : H' f = some (LnO f (lamF X params scope c') body)) (I : Inv X pins σ H s) (hfn : ∀ y, X.fn y = true) (hfr : lamFB X.env.scope scope = true) (hf : ∀ y ∈ fr, (y, NameKind.free) ∈ scope.names) (hjs : js.map (fun j => X.N[j]?) = fr.map some) :
    CellsAt (cloFrom X.env.cells scope.names []) fr (js.map (slotAt σ)) s.heap H ∧ ∀ y q, (cloFrom X.env.cells scope.names []).lookup y = some q → q ∉ frs X.stack := own_cells I hfn hfr hf hjs
theorem lam_runL {X : Cx} {K : PySem.W.Frag} {N ps fr : List Str} {f c' : Addr} {k : Nat} {b : Expr} {params : Arguments} {scope : Scope} {A : Around} {outer : List Env} {s : Shared} {H : Hp} {us : List Value} {vs : List V} {ws : List (Option V)} {Q : VK} {E : XK} (S : NScope N ps fr scope)
    (hb : ∀ (pm ctv : Value) (us : List Value), us.length = ps.length → bindArgs (PySem.W.kla_fn "<lambda>" (X.env.qual ++ "<lambda>") params b scope (cloFrom X.env.cells scope.names []) pm (.ref c') ctv) ⟨us, []⟩ = pure (ps.zip us)) (hr : Room (k + 1) A) (e0 : Env0 P w K mg base A outer s H)
    (hf : H f = some (LnO f (lamF X params scope c') b)) (hc : H c' = some (CodeO c' (X.env.qual ++ "<lambda>"))) (C : CellsAt (cloFrom X.env.cells scope.names []) fr ws s.heap H) (r : Vals vs us) (hl : vs.length = ps.length)
    (hbody : Room k (A.deeper (envF (lamF X params scope c') f s.heap.objs.size)) → WE (ncx CX0 P w K mg base N (lamF X params scope c') f A outer s H E).nox b (startF N vs ws) H Q) : codeAny (model P w) A (.call (.ref f) ⟨us, []⟩) (CR CX0 outer P w H s Q E) s := lam_run (F := lamF X params scope c') S hb hr e0 hf hc C r hl hbody
def lastB (bs : List Int) : Int := if bs = [] then 0 else bs.getLast?.getD 0
theorem lastB_lt {bs : List Int} {i : Nat} (o : booksOk bs) (hi : i < bs.length) : lastB (bs.take i) < bs[i] := by
  unfold lastB
  split
  · have := o.2.1 _ (List.getElem_mem hi)
    omega
  · rename_i hne
    have hi0 : i ≠ 0 := fun z => hne (by rw [z]; rfl)
    have hgl : (bs.take i).getLast? = some (bs[i - 1]'(by omega)) := by
      rw [List.getLast?_eq_getElem?, List.length_take, Nat.min_eq_left (Nat.le_of_lt hi), List.getElem?_take, if_pos (by omega), List.getElem?_eq_getElem]
    rw [hgl]
    exact List.pairwise_iff_getElem.mp o.2.2 (i - 1) i (by omega) hi (by omega)
theorem pyi (l : List Int) : pyAll (l.map D.i) = some (l.map PyData.int) := pyAll_map D.i PyData.int (fun _ => by simp only [pyOf]) l
theorem shi (l : List Int) : SeqAt.shaped (.list (l.map PyData.int)) = true := (sh_lst (n := 0) fun x hx => by
  obtain ⟨i, _, rfl⟩ := List.mem_map.mp hx
  exact sh_int 0 i).ed
def S_rb (tab : Addr) : List D → List (Addr × List D) → Mm → (D → Mm → Prop) → Prop := fun ds L M0 Z => ∃ (x dx a : Addr) (n k : Nat) (ws : List Str) (bs : List Int) (rest : List Str), ds = [.p x] ∧ L = [(a, ws.map D.s)] ∧ M0 = WR (He.ga c.K "Row") x dx a n k ++ [(tab, .tab "Row.read_books.<locals>.<lambda>")] ∧ ws.drop k = bs.map strI ++ rest ∧
  (rest = [] ∨ ∃ r, rest = ("also" : Str) :: r) ∧ booksOk bs ∧ Z = fun d Mn => d = .t (bs.map D.i) ∧ Mn = WR (He.ga c.K "Row") x dx a n (k + bs.length) ++ [(tab, .tab "Row.read_books.<locals>.<lambda>")]
/-- where the table of a method's def stands -/
def TbM (c : Cs) (mg : Str → Option Value) (base : Heap) (C : Addr) (m : Str) (tab : Addr) : Prop := ∀ g, Meth c.K C m g → TbD c mg base g tab
theorem ok_read_books {tab : Addr} (T : Tx c mg) (B : TbM c mg base (He.ga c.K "Row") "read_books" tab) : MtAt P w c mg base (He.ga c.K "Row") "read_books" 4 (spM c (S_rb (c := c) tab)) := by
  obtain ⟨g, fd, hm, F⟩ := T.d_Row_read_books
  obtain ⟨cc, hcc, TB⟩ := (B g hm).of F
  refine ⟨g, hm, fnMC F sc_Row_read_books (fun _ _ _ _ _ _ us hl => match us, hl with | [_], _ => rfl) rfl (fun ds L M0 Z h => ?_) 2 rfl fun cdv hcv A0 outer s H0 Fr E ds L M0 Z σ hr h hL A Q q => ?_⟩
  · obtain ⟨x, dx, a, n, k, ws, bs, rest, rfl, _⟩ := h
    rfl
  · obtain ⟨x, dx, a, n, k, ws, bs, rest, rfl, rfl, rfl, hd, hrest, hb, rfl⟩ := h
    rw [hcc] at hcv
    subst hcv
    have hC := T.c_Row
    have hl := hL (a, ws.map D.s) List.mem_cons_self
    have h6 := hb.1
    have hlen : ws.length = k + (bs.length + rest.length) ∨ (ws.length < k ∧ bs = [] ∧ rest = []) := by
      have := congrArg List.length hd
      rw [List.length_drop, List.length_append, List.length_map] at this
      by_cases hk : ws.length < k
      · refine .inr ⟨hk, ?_, ?_⟩
        · exact List.eq_nil_of_length_eq_zero (by omega)
        · exact List.eq_nil_of_length_eq_zero (by omega)
      · exact .inl (by omega)
    have hat : ∀ i, ws[k + i]? = (bs.map strI ++ rest)[i]? := fun i => by rw [← hd, List.getElem?_drop]
    refine x_setL 1 sc_Row_read_books.nd (l_lst a_nil) A fun l σ1 H1 A1 => ?_
    refine x_while PassesOwn.never (fun m M' env' => ∃ (i : Nat) (o : Option D), i + m = bs.length ∧ M' = (l, Ob.lst ((bs.take i).map D.i)) :: (WR (He.ga c.K "Row") x dx a n (k + i) ++ [(tab, .tab "Row.read_books.<locals>.<lambda>")]) ∧ env' = [some (.p x), some (.p l), o]) bs.length A1 ⟨0, none, by omega, rfl, rfl⟩ (fun m M' env' hI => ?_)
    obtain ⟨i, o, him, rfl, rfl⟩ := hI
    refine ⟨decide (i < bs.length), ?_, fun b σ2 H2 A2 => ?_, fun b σ2 H2 A2 => ?_⟩
    · by_cases hi : i < bs.length
      · have hw : ws[k + i]? = some (strI bs[i]) := by
          rw [hat, List.getElem?_append_left (by rw [List.length_map]; exact hi), List.getElem?_map, List.getElem?_eq_getElem hi]
          rfl
        have hlt := (List.getElem?_eq_some_iff.mp hw).1
        have hwd : (ws.map D.s)[k + i]? = some (D.s (strI bs[i])) := by rw [List.getElem?_map, hw]; rfl
        refine Pt.is (o_t (o_and (k := true) (l := true) (t_val (Pv.is (v_more 1 T rfl hr (v_var 0) (List.Perm.swap _ _ _) hl) (by rw [List.length_map, decide_eq_true hlt]))) fun _ => o_and1 (Pt.is (t_cmp op_ne (v_ixL rfl (v_fld 1 rfl hC T.a_Row_parts (v_var 0)) (.inl hl) (v_fld 1 rfl hC T.a_Row_spot (v_var 0)) (atI_nat hwd)) (v_glo T.k_ALSO) rv_ne) ?_))) (by rw [decide_eq_true hi]; rfl)
        rw [dec_str, decide_eq_false (num_also (hb.2.1 _ (List.getElem_mem hi)))]
        rfl
      · have hie : i = bs.length := by omega
        rcases hrest with rfl | ⟨r, rfl⟩
        · refine Pt.is (o_t (o_and (k := false) (l := false) (t_val (Pv.is (v_more 1 T rfl hr (v_var 0) (List.Perm.swap _ _ _) hl) (by rw [List.length_map, decide_eq_false]; simp only [List.length_nil] at hlen; omega))) fun h => nomatch h)) (by rw [decide_eq_false hi]; rfl)
        · have hw : ws[k + i]? = some ("also" : Str) := by
            rw [hat, List.getElem?_append_right (by rw [List.length_map]; omega), List.length_map, hie, Nat.sub_self]
            rfl
          have hlt := (List.getElem?_eq_some_iff.mp hw).1
          have hwd : (ws.map D.s)[k + i]? = some (D.s ("also" : Str)) := by rw [List.getElem?_map, hw]; rfl
          refine Pt.is (o_t (o_and (k := true) (l := false) (t_val (Pv.is (v_more 1 T rfl hr (v_var 0) (List.Perm.swap _ _ _) hl) (by rw [List.length_map, decide_eq_true hlt]))) fun _ => o_and1 (Pt.is (t_cmp op_ne (v_ixL rfl (v_fld 1 rfl hC T.a_Row_parts (v_var 0)) (.inl hl) (v_fld 1 rfl hC T.a_Row_spot (v_var 0)) (atI_nat hwd)) (v_glo T.k_ALSO) rv_ne) ?_))) (by rw [decide_eq_false hi]; rfl)
          rw [dec_str, decide_eq_true rfl]
          rfl
    · have hi := of_decide_eq_true b
      have hbi := hb.2.1 _ (List.getElem_mem hi)
      have hw : ws[k + i]? = some (strI bs[i]) := by
        rw [hat, List.getElem?_append_left (by rw [List.length_map]; exact hi), List.getElem?_map, List.getElem?_eq_getElem hi]
        rfl
      refine x_set 2 sc_Row_read_books.nd (v_if (k := !decide (bs.take i = [])) (d := .i (lastB (bs.take i))) (Pt.is (t_neL (ds := (bs.take i).map D.i) rfl hr (v_var 1) (.inr List.mem_cons_self) (l_lst a_nil) (pyi _) (pyi []) (shi _) (shi [])) (by rw [eqvAll_int])) (fun b => ?_) fun b => ?_) A2 fun σ3 H3 A3 => ?_
      · have hne : ¬ bs.take i = [] := by
          rw [Bool.not_eq_true'] at b
          exact of_decide_eq_false b
        obtain ⟨v, hv⟩ := Option.isSome_iff_exists.mp (List.getLast?_isSome.mpr hne)
        obtain ⟨ys, hy⟩ := List.getLast?_eq_some_iff.mp hv
        refine Pv.is (v_ixL (ds := (bs.take i).map D.i) (d := .i v) rfl (v_var 1) (.inr List.mem_cons_self) (v_neg v_int) (by rw [hy, List.map_append]; exact atI_last _ _)) ?_
        unfold lastB
        rw [if_neg hne, hv]
        rfl
      · have he : bs.take i = [] := by
          rw [Bool.not_eq_false'] at b
          exact of_decide_eq_true b
        refine Pv.is v_int ?_
        unfold lastB
        rw [if_pos he]
      refine x_exp (e_app (Z := fun d M2 => d = .i bs[i] ∧ M2 = WR (He.ga c.K "Row") x dx a n (k + i + 1) ++ [(l, Ob.lst ((bs.take i).map D.i)), (tab, .tab "Row.read_books.<locals>.<lambda>")]) (Z2 := fun d M2 => M2 = WR (He.ga c.K "Row") x dx a n (k + i + 1) ++ [(l, Ob.lst ((bs.take (i + 1)).map D.i)), (tab, .tab "Row.read_books.<locals>.<lambda>")]) rfl (v_var 1) (.inr List.mem_cons_self) (e_cT1 call_int_str boot_int T.n_int (e_next (z := strI bs[i]) 1 T rfl hr (v_var 0) (v_lam 2 TB rfl rfl rfl) ?_ (List.Perm.swap _ _ _) hl hw) (fun d M1 z => ⟨.i bs[i], by
        rw [z.1]
        exact rv_intS (num_int hbi) (Nat.le_trans (strI_len hbi) (by decide)), rfl, z.2⟩)) (fun d M' z => ?_)) A3 fun d M' H4 z A4 => ?_
      · intro pins σ4 H4 s4 v4 I4 A4 r4
        obtain ⟨f, c', rfl, h1, h2⟩ := rp_lam.mp r4
        obtain ⟨v2, hs2, hr2⟩ := A4.sl 2 (.i (lastB (bs.take i))) rfl
        rw [rp_v.mp hr2] at hs2
        obtain ⟨hc1, hc2⟩ := own_cellsL (fr := ["last"]) (js := [2]) h1 I4 (fun _ => rfl) rfl (by decide +kernel) rfl
        have ew : [2].map (slotAt σ4) = [some (.int (lastB (bs.take i)))] := by
          simp only [List.map_cons, List.map_nil, slotAt_of hs2]
        rw [ew] at hc1
        refine ⟨f, _, ["last"], [some (.int (lastB (bs.take i)))], rfl, hc1, hc2, ⟨fun A1 outer1 s1 H2 us hr1 e0 im C r1 => ?_, fun s H2 KX hok im => lam_fn h1 hok im⟩⟩
        refine lam_runL (k := 1) (N := ["word", "last"]) (ps := ["word"]) (fr := ["last"]) (ws := [some (.int (lastB (bs.take i)))]) (nscope_by (by decide +kernel)) (fun _ _ us hl => match us, hl with | [_], _ => rfl) hr1 e0 (im _ _ h1 rfl) (im _ _ h2 rfl) C r1 rfl fun hr2 => ?_
        have AL : At c H2 [] [] [some (.s (strI bs[i])), some (.i (lastB (bs.take i)))] (startF ["word", "last"] [.str (strI bs[i])] [some (.int (lastB (bs.take i)))]) H2 := ⟨Ex.refl H2, (fun p hp => nomatch hp), (fun p hp => nomatch hp), List.nodup_nil, fun i d' e => by
          match i, e with
          | 0, e =>
            cases e
            exact ⟨_, rfl, rp_v.mpr rfl⟩
          | 1, e =>
            cases e
            exact ⟨_, rfl, rp_v.mpr rfl⟩
          | n + 2, e => simp at e, rfl⟩
        refine (Pv.is (v_and (k := true) (v_call (ok_is_book T) hr2 (a_cons (v_var 0) a_nil) ⟨_, rfl, num_book hbi, rfl⟩) fun _ => v_one (Pv.is (v_cmp op_gt (v_cT call_int_str boot_int T.n_int (a_cons (v_var 0) a_nil) (rv_intS (num_int hbi) (Nat.le_trans (strI_len hbi) (by decide)))) (v_var 1) rv_I0) (d' := .b true) ?_)) (d' := .b true) rfl) _ H2 AL _ fun v H3 A3 i r => ⟨rp_v.mp r, A3.fr⟩
        congr 2
        exact decide_eq_true (lastB_lt hb hi)
      · obtain ⟨rfl, rfl⟩ := z
        refine ⟨1, (bs.take i).map D.i, rfl, by rw [List.length_map, List.length_take]; omega, ?_⟩
        rw [List.take_add_one, List.getElem?_eq_getElem hi, List.map_append]
        rfl
      · subst z
        exact x_nil ⟨m - 1, _, _, by omega, ⟨i + 1, _, by omega, rfl, rfl⟩, A4.perm (List.Perm.swap _ _ _)⟩
    · have hi := of_decide_eq_false b
      have hie : i = bs.length := by omega
      subst hie
      rw [List.take_length] at A2
      exact x_ret (v_tupL T.n_tuple rfl (v_var 1) (.inr List.mem_cons_self)) A2 fun v H' A' r => q _ _ _ _ _ v H' ⟨rfl, rfl⟩ (A'.less (List.sublist_cons_self _ _)) r
end
end Sx
end
section
/-! Row.read_also, Row.read_card -/
set_option maxRecDepth 100000
set_option maxHeartbeats 1000000
namespace Sx
open PySem PySem.Spec PyProof.Rows L2 LamX NdefX
section
variable {X : Cx} {c : Cs} {Fr : Hp} {G : List (V × D)} {M : Mm} {env : En} {e : Expr} {es : List Expr} {d : D}
theorem ea_v {Z2 : List D → Mm → Prop} (h : Pv X c Fr G M env e d) (hr : Ea X c Fr G M env es (fun ds M'' => Z2 (d :: ds) M'')) (hs : starEach (e :: es) X.env = (false, eval e X.env) :: starEach es X.env := by rfl) : Ea X c Fr G M env (e :: es) Z2 :=
  ea_cons h.ev (fun d' M' z => by
    obtain ⟨rfl, rfl⟩ := z
    exact hr) hs
/-- objects put in another order, some forgotten -/
theorem Ev.less {Z Z2 : D → Mm → Prop} (h : Ev X c Fr G M env e Z) (hz : ∀ d' M', Z d' M' → ∃ M2 M3, M'.Perm M2 ∧ M3.Sublist M2 ∧ Z2 d' M3) : Ev X c Fr G M env e Z2 := fun σ H A Q q => h σ H A Q fun d' M' v H2 z A2 i2 r => by
  obtain ⟨M2, M3, hp, hs, z2⟩ := hz d' M' z
  exact q d' M3 v H2 z2 ((A2.perm hp).less hs) i2 r
end
section
variable {P : Program} {w : World} {c : Cs} {mg : Str → Option Value} {base : Heap}
def alsoW (als : List Str) : List Str := if als = [] then [] else ("also" : Str) :: als
def tabA (t : Addr) : Addr × Ob := (t, .tab "Row.read_also.<locals>.<lambda>")
def tabB (t : Addr) : Addr × Ob := (t, .tab "Row.read_books.<locals>.<lambda>")
def tabC (t : Addr) : Addr × Ob := (t, .tab "Row.read_card.<locals>.<lambda>")
def S_ra (tab : Addr) : List D → List (Addr × List D) → Mm → (D → Mm → Prop) → Prop := fun ds L M0 Z => ∃ (x dx a : Addr) (n k : Nat) (ws als : List Str), ds = [.p x] ∧ L = [(a, ws.map D.s)] ∧ M0 = WR (He.ga c.K "Row") x dx a n k ++ [tabA tab] ∧ ws.drop k = alsoW als ∧ k ≤ ws.length ∧
  (∀ z ∈ als, wordB z = true) ∧ als.length ≤ 4 ∧ Z = fun d Mn => d = .t (als.map D.s) ∧ Mn = WR (He.ga c.K "Row") x dx a n ws.length ++ [tabA tab]
theorem ok_read_also {tab : Addr} (T : Tx c mg) (B : TbM c mg base (He.ga c.K "Row") "read_also" tab) : MtAt P w c mg base (He.ga c.K "Row") "read_also" 4 (spM c (S_ra (c := c) tab)) := by
  obtain ⟨g, fd, hm, F⟩ := T.d_Row_read_also
  obtain ⟨cc, hcc, TB⟩ := (B g hm).of F
  refine ⟨g, hm, fnMC F sc_Row_read_also (fun _ _ _ _ _ _ us hl => match us, hl with | [_], _ => rfl) rfl (fun ds L M0 Z h => ?_) 1 rfl fun cdv hcv A0 outer s H0 Fr E ds L M0 Z σ hr h hL A Q q => ?_⟩
  · obtain ⟨x, dx, a, n, k, ws, als, rfl, _⟩ := h
    rfl
  · obtain ⟨x, dx, a, n, k, ws, als, rfl, rfl, rfl, hd, hk, hw, h4, rfl⟩ := h
    rw [hcc] at hcv
    subst hcv
    have hC := T.c_Row
    have hl := hL (a, ws.map D.s) List.mem_cons_self
    have hlen : ws.length - k = (alsoW als).length := by rw [← hd, List.length_drop]
    have hat : ∀ i, ws[k + i]? = (alsoW als)[i]? := fun i => by rw [← hd, List.getElem?_drop]
    by_cases he : als = []
    · subst he
      have e0 : (alsoW []).length = 0 := rfl
      refine x_if (k := true) (t_not (k := false) (t_val (Pv.is (v_more 0 T rfl hr (v_var 0) (List.Perm.refl _) hl) (by rw [List.length_map, decide_eq_false (by omega)])))) A (fun _ H1 A1 => ?_) fun h => nomatch h
      have ek : k = ws.length := by omega
      subst ek
      exact x_ret (v_tup a_nil) A1 fun v H' A' r => q _ _ _ _ _ v H' ⟨rfl, rfl⟩ A' r
    · have ea : alsoW als = ("also" : Str) :: als := if_neg he
      rw [ea] at hlen hat
      rw [List.length_cons] at hlen
      obtain ⟨a0, r0, rfl⟩ : ∃ a0 r0, als = a0 :: r0 := by
        cases als with
        | nil => exact absurd rfl he
        | cons x y => exact ⟨x, y, rfl⟩
      have w0 : ws[k]? = some ("also" : Str) := hat 0
      refine x_if (k := false) (t_not (k := true) (t_val (Pv.is (v_more 0 T rfl hr (v_var 0) (List.Perm.refl _) hl) (by rw [List.length_map, decide_eq_true (by omega)])))) A (fun h => nomatch h) fun _ H1 A1 => x_nil ?_
      refine x_exp (e_next (z := ("also" : Str)) 0 T rfl hr (v_var 0) (v_lam 1 TB rfl rfl rfl) ?_ (List.Perm.refl _) hl w0) A1 fun d M' H2 z A2 => ?_
      · intro pins σ4 H4 s4 v4 I4 A4 r4
        obtain ⟨f, e, hcal⟩ := lam_callee0 (c := c) (x := "word") (k := 1) (z := .str "also") (nscope_by (by decide +kernel)) (fun _ _ _ _ _ => rfl) rfl (rp_lam.mp r4) fun A1 outer1 s1 f1 c1 H2 E1 hr1 => Pv.is (v_cmp op_eq (v_var 0) (v_glo T.k_ALSO) rv_eq) (by rw [decide_eq_true rfl])
        exact ⟨f, [], [], [], e, cells_none, (fun y q e => nomatch e), hcal⟩
      obtain ⟨rfl, rfl⟩ := z
      have w1 : ws[k + 1]? = some a0 := hat 1
      refine x_setE 1 sc_Row_read_also.nd (Z := fun d M' => ∃ l, d = .p l ∧ M' = (l, Ob.lst [.s a0]) :: (WR (He.ga c.K "Row") x dx a n (k + 1 + 1) ++ [tabA tab])) (e_lst (Z := fun ds M' => ds = [.s a0] ∧ M' = WR (He.ga c.K "Row") x dx a n (k + 1 + 1) ++ [tabA tab]) (ea_cons (e_nextW 0 T rfl hr (v_var 0) (hw a0 List.mem_cons_self) (List.Perm.refl _) hl w1) fun d M' z => ea_nil ⟨by rw [z.1], z.2⟩) fun ds M' z => ⟨by rw [z.1]; exact Nat.le_of_ble_eq_true rfl, fun l => ⟨l, rfl, by rw [z.1, z.2]⟩⟩) A2 fun d M' σ3 H3 z A3 => ?_
      obtain ⟨l, rfl, rfl⟩ := z
      refine x_while PassesOwn.never (fun m M' env' => ∃ i : Nat, i + m = (a0 :: r0).length ∧ 1 ≤ i ∧ M' = (l, Ob.lst (((a0 :: r0).take i).map D.s)) :: (WR (He.ga c.K "Row") x dx a n (k + 1 + i) ++ [tabA tab]) ∧ env' = [some (.p x), some (.p l)]) r0.length A3 ⟨1, by simp only [List.length_cons]; omega, by omega, rfl, rfl⟩ (fun m M' env' hI => ?_)
      obtain ⟨i, him, hi1, rfl, rfl⟩ := hI
      refine ⟨decide (k + 1 + i < (ws.map D.s).length), t_val (v_more 1 T rfl hr (v_var 0) (List.Perm.swap _ _ _) hl), fun b σ4 H4 A4 => ?_, fun b σ4 H4 A4 => ?_⟩
      · have hi := of_decide_eq_true b
        rw [List.length_map] at hi
        have hil : i < (a0 :: r0).length := by omega
        have wi : ws[k + 1 + i]? = some (a0 :: r0)[i] := by
          rw [show k + 1 + i = k + (i + 1) from by omega, hat, List.getElem?_cons_succ, List.getElem?_eq_getElem hil]
        refine x_exp (e_app (Z := fun d M2 => d = .s (a0 :: r0)[i] ∧ M2 = WR (He.ga c.K "Row") x dx a n (k + 1 + i + 1) ++ [(l, Ob.lst (((a0 :: r0).take i).map D.s)), tabA tab]) (Z2 := fun d M2 => M2 = WR (He.ga c.K "Row") x dx a n (k + 1 + i + 1) ++ [(l, Ob.lst (((a0 :: r0).take (i + 1)).map D.s)), tabA tab]) rfl (v_var 1) (.inr List.mem_cons_self) (e_nextW 1 T rfl hr (v_var 0) (hw _ (List.getElem_mem hil)) (List.Perm.swap _ _ _) hl wi) (fun d M' z => ?_)) A4 fun d M' H5 z A5 => ?_
        · obtain ⟨rfl, rfl⟩ := z
          refine ⟨1, ((a0 :: r0).take i).map D.s, rfl, by rw [List.length_map, List.length_take]; omega, ?_⟩
          rw [List.take_add_one, List.getElem?_eq_getElem hil, List.map_append]
          rfl
        · subst z
          exact x_nil ⟨m - 1, _, _, by omega, ⟨i + 1, by omega, by omega, rfl, rfl⟩, A5.perm (List.Perm.swap _ _ _)⟩
      · have hi := of_decide_eq_false b
        rw [List.length_map] at hi
        have e1 : k + 1 + i = ws.length := by omega
        have e2 : (a0 :: r0).take i = a0 :: r0 := List.take_of_length_le (by omega)
        rw [e1, e2] at A4
        exact x_ret (v_tupL T.n_tuple rfl (v_var 1) (.inr List.mem_cons_self)) A4 fun v H' A' r => q _ _ _ _ _ v H' ⟨rfl, rfl⟩ (A'.less (List.sublist_cons_self _ _)) r
def S_rc (tB tA tC : Addr) : List D → List (Addr × List D) → Mm → (D → Mm → Prop) → Prop := fun ds L M0 Z => ∃ (x dx a : Addr) (n : Nat) (r : Crd), ds = [.p x] ∧ L = [(a, (wordsF r).map D.s)] ∧ M0 = WR (He.ga c.K "Row") x dx a n 0 ++ [tabB tB, tabA tA, tabC tC] ∧ r.Ok ∧
  Z = fun d Mn => d = cardD r ∧ Mn = WR (He.ga c.K "Row") x dx a n (wordsF r).length ++ [tabB tB, tabA tA, tabC tC]
theorem ok_row_card {tB tA tC : Addr} (T : Tx c mg) (BB : TbM c mg base (He.ga c.K "Row") "read_books" tB) (BA : TbM c mg base (He.ga c.K "Row") "read_also" tA) (BC : TbM c mg base (He.ga c.K "Row") "read_card" tC) : MtAt P w c mg base (He.ga c.K "Row") "read_card" 5 (spM c (S_rc (c := c) tB tA tC)) := by
  obtain ⟨g, fd, hm, F⟩ := T.d_Row_read_card
  obtain ⟨cc, hcc, TB⟩ := (BC g hm).of F
  refine ⟨g, hm, fnMC F sc_Row_read_card (fun _ _ _ _ _ _ us hl => match us, hl with | [_], _ => rfl) rfl (fun ds L M0 Z h => ?_) 4 rfl fun cdv hcv A0 outer s H0 Fr E ds L M0 Z σ hr h hL A Q q => ?_⟩
  · obtain ⟨x, dx, a, n, r, rfl, _⟩ := h
    rfl
  · obtain ⟨x, dx, a, n, r, rfl, rfl, rfl, o, rfl⟩ := h
    rw [hcc] at hcv
    subst hcv
    have hC := T.c_Row
    have hl := hL (a, (wordsF r).map D.s) List.mem_cons_self
    let hdw : Str := if r.s ≠ ("" : Str) then "see" else "card"
    have w0 : (wordsF r)[0]? = some hdw := by
      show (wordsF r)[0]? = some (if r.s ≠ ("" : Str) then ("see" : Str) else "card")
      unfold wordsF
      split <;> rfl
    have w1 : (wordsF r)[0 + 1]? = some r.h := by
      unfold wordsF
      split <;> rfl
    refine x_setE 1 sc_Row_read_card.nd (e_next (z := hdw) 0 T rfl hr (v_var 0) (v_lam 3 TB rfl rfl rfl) ?_ (List.Perm.refl _) hl w0) A fun d M' σ1 H1 z A1 => ?_
    · intro pins σ4 H4 s4 v4 I4 A4 r4
      obtain ⟨f, e, hcal⟩ := lam_callee0 (c := c) (x := "word") (k := 1) (z := .str hdw) (nscope_by (by decide +kernel)) (fun _ _ _ _ _ => rfl) rfl (rp_lam.mp r4) fun A1 outer1 s1 f1 c1 H2 E1 hr1 => Pv.is (v_cmp op_in_seq (v_var 0) (Pv.is (v_tup (a_cons (v_glo T.k_SEE) (a_cons (v_glo T.k_CARD) a_nil))) (d' := .t (([.str "see", .str "card"] : List V).map D.v)) rfl) (rv_inT rfl (by rfl) (by rfl))) (by
        show D.b (inV (.str (if r.s ≠ ("" : Str) then ("see" : Str) else "card")) [.str "see", .str "card"]) = .b true
        split <;> exact congrArg D.b (by decide +kernel))
      exact ⟨f, [], [], [], e, cells_none, (fun y q e => nomatch e), hcal⟩
    obtain ⟨rfl, rfl⟩ := z
    refine x_setE 2 sc_Row_read_card.nd (e_nextW 0 T rfl hr (v_var 0) o.h (List.Perm.refl _) hl w1) A1 fun d M' σ2 H2 z A2 => ?_
    obtain ⟨rfl, rfl⟩ := z
    by_cases hs : r.s ≠ ("" : Str)
    · have ew : wordsF r = [("see" : Str), r.h, r.s] := if_pos hs
      have eh : hdw = ("see" : Str) := if_pos hs
      have os : r.b = [] ∧ r.a = [] ∧ wordB r.s = true := by
        rcases o.s with h | ⟨h1, h2, h3, _⟩
        · exact absurd h hs
        · exact ⟨h1, h2, h3⟩
      have w2 : (wordsF r)[0 + 1 + 1]? = some r.s := by rw [ew]; rfl
      refine x_if (k := false) (Pt.is (t_cmp op_eq (v_var 1) (v_glo T.k_CARD) rv_eq) (by rw [eh]; decide +kernel)) A2 (fun h => nomatch h) fun _ H3 A3 => x_nil ?_
      refine x_setE 4 sc_Row_read_card.nd (e_nextW 0 T rfl hr (v_var 0) os.2.2 (List.Perm.refl _) hl w2) A3 fun d M' σ4 H4 z A4 => ?_
      obtain ⟨rfl, rfl⟩ := z
      refine x_if (k := false) (t_val (Pv.is (v_more 0 T rfl hr (v_var 0) (List.Perm.refl _) hl) (by rw [List.length_map, ew]; rfl))) A4 (fun h => nomatch h) fun _ H5 A5 => x_nil ?_
      refine x_ret (Pv.is (v_tup (a_cons (v_var 2) (a_cons (v_tup a_nil) (a_cons (v_var 4) (a_cons (v_tup a_nil) a_nil))))) (d' := cardD r) ?_) A5 fun v H' A' r' => q _ _ _ _ _ v H' ⟨rfl, ?_⟩ A' r'
      · unfold cardD
        rw [os.1, os.2.1]
        rfl
      · rw [ew]
        rfl
    · have hs2 : r.s = ("" : Str) := by simpa using hs
      have ew : wordsF r = ("card" : Str) :: r.h :: (r.b.map strI ++ alsoW r.a) := by
        unfold wordsF alsoW
        rw [if_neg hs]
        congr 3
        by_cases ha : r.a = []
        · rw [if_pos ha, if_neg (not_not_intro ha)]
        · rw [if_neg ha, if_pos ha]
      have eh : hdw = ("card" : Str) := if_neg hs
      have hdrop : (wordsF r).drop (0 + 1 + 1) = r.b.map strI ++ alsoW r.a := by rw [ew]; rfl
      have hdrop2 : (wordsF r).drop (0 + 1 + 1 + r.b.length) = alsoW r.a := by
        rw [← List.drop_drop, hdrop]
        have := List.drop_left (l₁ := r.b.map strI) (l₂ := alsoW r.a)
        rw [List.length_map] at this
        exact this
      refine x_if (k := true) (Pt.is (t_cmp op_eq (v_var 1) (v_glo T.k_CARD) rv_eq) (by rw [eh]; decide +kernel)) A2 (fun _ H3 A3 => ?_) fun h => nomatch h
      refine x_setE 3 sc_Row_read_card.nd (Z := fun d M' => d = .t (r.b.map D.i) ∧ M' = WR (He.ga c.K "Row") x dx a n (0 + 1 + 1 + r.b.length) ++ [tabB tB, tabA tA, tabC tC]) (e_meth0I 0 [(a, (wordsF r).map D.s)] (WR (He.ga c.K "Row") x dx a n (0 + 1 + 1) ++ [tabB tB]) [tabA tA, tabC tC] rfl hC (ok_read_books T BB) hr (v_var 0) ⟨x, dx, a, n, 0 + 1 + 1, wordsF r, r.b, alsoW r.a, rfl, rfl, rfl, hdrop, ?_, o.b, rfl⟩ (fun p hp => by
        rw [List.mem_singleton.mp hp]
        exact .inl hl) (fun d Mn z => ⟨z.1, by rw [z.2]; rfl⟩)) A3 fun d M' σ4 H4 z A4 => ?_
      · unfold alsoW
        split
        · exact .inl rfl
        · exact .inr ⟨_, rfl⟩
      obtain ⟨rfl, rfl⟩ := z
      refine x_retE (e_tup (Z := fun ds M' => ds = [.s r.h, .t (r.b.map D.i), .s "", .t (r.a.map D.s)] ∧ M' = WR (He.ga c.K "Row") x dx a n (wordsF r).length ++ [tabA tA, tabB tB, tabC tC]) (Z2 := fun d M' => d = cardD r ∧ M' = WR (He.ga c.K "Row") x dx a n (wordsF r).length ++ [tabA tA, tabB tB, tabC tC]) (ea_v (v_var 2) (ea_v (v_var 3) (ea_v v_str (ea_cons (e_meth0I (Z2 := fun d M' => d = .t (r.a.map D.s) ∧ M' = WR (He.ga c.K "Row") x dx a n (wordsF r).length ++ [tabA tA, tabB tB, tabC tC]) 0 [(a, (wordsF r).map D.s)] (WR (He.ga c.K "Row") x dx a n (0 + 1 + 1 + r.b.length) ++ [tabA tA]) [tabB tB, tabC tC] rfl hC (ok_read_also T BA) hr (v_var 0) ⟨x, dx, a, n, _, wordsF r, r.a, rfl, rfl, rfl, hdrop2, ?_, fun z hz => (o.a.2.2 z hz).1, o.a.1, rfl⟩ (fun p hp => by
        rw [List.mem_singleton.mp hp]
        exact .inl hl) (fun d Mn z => ⟨z.1, by rw [z.2]; rfl⟩) (hp := (List.Perm.swap _ _ _).cons _)) fun d M' z => ea_nil ⟨by rw [z.1], z.2⟩)))) fun ds M' z => ⟨by rw [z.1]; exact Nat.le_of_ble_eq_true rfl, by rw [z.1]; unfold cardD; rw [hs2], z.2⟩) A4 fun d M' v H' z A5 i5 r5 => ?_
      · rw [ew]
        simp only [List.length_cons, List.length_append, List.length_map]
        omega
      · obtain ⟨rfl, rfl⟩ := z
        exact q _ _ _ _ _ v H' ⟨rfl, rfl⟩ (A5.perm ((List.Perm.swap _ _ _).cons _)) r5
end
end Sx
end
section
/-! parse_drawer -/
set_option maxRecDepth 100000
set_option maxHeartbeats 1000000
namespace Sx
open PySem PySem.Spec PyProof.Rows L2 LamX NdefX
theorem word_signs {z : Str} (h : wordB z = true) : ∀ k ∈ z.cps.toList, 97 ≤ k ∧ k ≤ 122 := fun k hk => (letter_at h hk).2
theorem words_signs {r : Crd} (o : r.Ok) : ∀ z ∈ wordsF r, ∀ k ∈ z.cps.toList, 48 ≤ k := by
  have lit : ∀ z ∈ [("see" : Str), "card", "also"], ∀ k ∈ z.cps.toList, 48 ≤ k := by decide +kernel
  intro z hz k hk
  have hw : ∀ z, wordB z = true → ∀ k ∈ z.cps.toList, 48 ≤ k := fun z h k hk => by
    have := word_signs h k hk
    omega
  unfold wordsF at hz
  split at hz
  · rename_i hs
    have os : wordB r.s = true := by
      rcases o.s with h | ⟨_, _, h, _⟩
      · exact absurd h hs
      · exact h
    simp only [List.mem_cons, List.not_mem_nil, or_false] at hz
    rcases hz with rfl | rfl | rfl
    · exact lit _ (by simp) k hk
    · exact hw _ o.h k hk
    · exact hw _ os k hk
  · rcases List.mem_cons.mp hz with rfl | hz
    · exact lit _ (by simp) k hk
    · rcases List.mem_cons.mp hz with rfl | hz
      · exact hw _ o.h k hk
      · rcases List.mem_append.mp hz with hz | hz
        · obtain ⟨i, hi, rfl⟩ := List.mem_map.mp hz
          exact (num_signs (o.b.2.1 i hi) k hk).1
        · split at hz
          · rcases List.mem_cons.mp hz with rfl | hz
            · exact lit _ (by simp) k hk
            · exact hw _ (o.a.2.2 z hz).1 k hk
          · cases hz
theorem words_ne (r : Crd) : wordsF r ≠ [] := by
  unfold wordsF
  split <;> simp
theorem sp_eq : (" " : Str) = sg 32 := by decide +kernel
theorem nl_eq : ("\n" : Str) = sg 10 := by decide +kernel
theorem line_signs {r : Crd} (o : r.Ok) : ∀ k ∈ (lineF r).cps.toList, 32 ≤ k := by
  intro k hk
  unfold lineF at hk
  rw [txt_join] at hk
  rcases (PyProof.Rows.mem_join _ _ _).mp hk with ⟨t, ht, hk⟩ | ⟨_, hk⟩
  · have := words_signs o t ht k hk
    omega
  · rw [sp_eq] at hk
    simp [sg] at hk
    omega
theorem line_split {r : Crd} (o : r.Ok) : Txt.split (lineF r) " " = wordsF r := by
  unfold lineF
  rw [sp_eq]
  refine split_join (words_ne r) fun z hz h => ?_
  have := words_signs o z hz 32 h
  omega
theorem text_split {cs : List Crd} (o : drwOk cs) (hn : cs ≠ []) : Txt.split (textF cs) "\n" = cs.map lineF := by
  unfold textF
  rw [nl_eq]
  refine split_join (by simpa using hn) fun z hz h => ?_
  obtain ⟨r, hr, rfl⟩ := List.mem_map.mp hz
  have := line_signs (o.2 r hr) 10 h
  omega
theorem text_ne {cs : List Crd} (o : drwOk cs) (hn : cs ≠ []) : textF cs ≠ ("" : Str) := fun e => by
  obtain ⟨r, t, rfl⟩ : ∃ r t, cs = r :: t := by
    cases cs with
    | nil => exact absurd rfl hn
    | cons a b => exact ⟨a, b, rfl⟩
  have h1 := len_join_ge_sum "\n" ((r :: t).map lineF)
  have h2 := len_join_ge_sum " " (wordsF r)
  have e1 : (textF (r :: t)).length = 0 := by rw [e]; decide +kernel
  have h3 : 1 ≤ ((wordsF r).map (·.length)).sum := by
    have := (word_len (o.2 r List.mem_cons_self).h).1
    unfold wordsF
    split <;> (simp only [List.map_cons, List.sum_cons]; omega)
  have h2 : ((wordsF r).map (·.length)).sum ≤ (lineF r).length := h2
  have h1 : (((r :: t).map lineF).map (·.length)).sum ≤ (textF (r :: t)).length := h1
  rw [e1] at h1
  simp only [List.map_cons, List.sum_cons] at h1
  omega
theorem text_len {cs : List Crd} (o : drwOk cs) : (textF cs).length ≤ 2000 := by
  have a := join_len "\n" (cs.map lineF)
  have b := sum_le (·.length) 117 (cs.map lineF) fun z hz => by
    obtain ⟨r, hr1, rfl⟩ := List.mem_map.mp hz
    exact line_len (o.2 r hr1)
  have e : ("\n" : Str).length = 1 := by decide +kernel
  have := o.1
  unfold textF
  rw [txt_join]
  rw [e] at a
  rw [List.length_map] at a b
  omega
section
variable {X : Cx} {c : Cs} {Fr : Hp} {G : List (V × D)} {M : Mm} {env : En} {e o : Expr} {es : List Expr} {p1 p2 pos : Pos} {x : Str} {d : D} {C : Addr} {k j : Nat}
/-- a.split(b) -/
theorem l_split {a b : Str} (ho : Pv X c Fr G M env o (.s a)) (he : Pv X c Fr G M env e (.s b)) (hb : (b.length == 0) = false) (hl : a.length ≤ 100000)
    (hs : starEach [e] X.env = [(false, eval e X.env)] := by rfl) (hbase : attributeBase o "split" X.env (eval o X.env) = eval o X.env := by rfl) (hline : (p1.endLine == pos.line) = true := by rfl) : Pl X c Fr G M env (.Call (.Attribute o "split" p1) [e] [] pos) ((Txt.split a b).map D.s) := fun σ H A Q q =>
  (pe_split we we hs hbase hline).w (ho σ H A _ fun v H1 A1 i1 r => ⟨⟨a, rp_v.mp r⟩, he σ H1 A1 _ fun u H2 A2 i2 r2 => ⟨a, b, rp_v.mp r, by rw [rp_v.mp r2], hb, Nat.le_trans (Nat.add_le_add_right hl 2) (by decide), fun p hp => q p _ (A2.new hp (Ex.new hp) ⟨_, upd_same, by
    rw [strs_v]
    exact RpL.vmap⟩) ((i1.trans i2).trans (IM.new hp))⟩⟩)
/-- a class called, its arguments with effects -/
theorem e_makeE {S : List D → List (Addr × List D) → Mm → (D → Mm → Prop) → Prop} {Za : List D → Mm → Prop} {Z2 : D → Mm → Prop} (F : MkAt X.prog X.w c X.mg X.base C x k (spM c S)) (hK : X.K = c.K) (hr : Room j X.A) (ha : Ea X c Fr G M env (e :: es) Za)
    (h : ∀ ds M1, Za ds M1 → ∃ L M0 Mr, M1.Perm (M0 ++ Mr) ∧ (∀ p ∈ L, LsOf c Fr Mr p.1 p.2) ∧ ∀ x dx, ∃ Z, S (.p x :: ds) L ((x, .ins C dx []) :: M0) Z ∧ ∀ d Mn, Z d Mn → d = .n ∧ Z2 (.p x) (Mn ++ Mr)) (hj : k + 1 ≤ j := by decide) (hg : Gl X x := by rfl) (hdb : (x == ("__debug__" : Str)) = false := by decide)
    (hst : starEach (e :: es) X.env = (false, eval e X.env) :: starEach es X.env := by rfl) (hpl : (backTo p2 (starEach es X.env)).any (·.1) = false := by rfl) : Ev X c Fr G M env (.Call (.Name x p1) (e :: es) [] p2) Z2 := fun σ H A Q q => by
  obtain ⟨g, hm, M1, F⟩ := F
  rw [← hK] at M1 F
  refine (StX.pe_makeR (E := fun _ _ _ => False) M1 F (hr.mono hj) hg hm (fun _ _ _ _ _ _ _ h => h.elim) wa hdb hst hpl).w (ha σ H A _ fun ds M' vs H1 za A1 i1 rs => fun x dx hx hdx ne => ?_)
  obtain ⟨L, M0, Mr, hp, hL, hS⟩ := h ds M' za
  obtain ⟨Z, hS, hZ⟩ := hS x dx
  have e1 : Ex H1 (upd H1 dx (.own x)) := Ex.new hdx
  have hx' : upd H1 dx (.own x) x = none := by rw [upd_ne (Ne.symm ne)]; exact hx
  have A2 : At c Fr G ((x, .ins C dx []) :: M') env σ (upd (upd H1 dx (.own x)) x (.ins C dx [])) := (A1.ex e1).new hx' (Ex.new hx') ⟨[], upd_same, rfl, rpl_nil.mpr rfl⟩
  have i2 : IM H1 (upd (upd H1 dx (.own x)) x (.ins C dx [])) := e1.im.trans (IM.new hx')
  exact A2.takes (hp.cons _) (rpl_cons.mpr ⟨_, vs, rfl, rp_v.mpr rfl, rs.im i2⟩) hS hL fun d Mn v H3 z A3 i3 rv => by
    obtain ⟨rfl, z2⟩ := hZ d Mn z
    exact ⟨rp_v.mp rv, q _ _ _ H3 z2 A3 ((i1.trans i2).trans i3) (rp_v.mpr rfl)⟩
/-- a list that was just made, as an argument -/
theorem ea_l {ds : List D} {Z2 : List D → Mm → Prop} (h : Pl X c Fr G M env e ds) (hr : ∀ l, Ea X c Fr G ((l, .lst ds) :: M) env es (fun ds' M'' => Z2 (.p l :: ds') M'')) (hs : starEach (e :: es) X.env = (false, eval e X.env) :: starEach es X.env := by rfl) : Ea X c Fr G M env (e :: es) Z2 :=
  ea_cons h.ev (fun d' M' z => by
    obtain ⟨l, rfl, rfl⟩ := z
    exact hr l) hs
end
section
variable {P : Program} {w : World} {c : Cs} {mg : Str → Option Value} {base : Heap}
def R_made : List D → D → Prop := fun ds d => ∃ r : Crd, ds = [cardD r] ∧ r.Ok ∧ d = dCard r
theorem ok_made (T : Tx c mg) : FnAt P w c.K mg base "made_card" 5 (spD c R_made) := by
  refine T.d_made_card.at_ fun f fd F => fnD F sc_made_card (fun _ _ _ _ _ _ us hl => match us, hl with | [_], _ => rfl) (fun ds d h => ?_) 0 rfl fun cdv A0 outer s H0 E ds d σ hr h A Q q => ?_
  · obtain ⟨r, rfl, _⟩ := h
    rfl
  · obtain ⟨r, rfl, o, rfl⟩ := h
    exact x_ret (v_make (k := true) rfl (ok_Card T) hr (a_cons (v_ixT rfl (v_var 0) v_int rfl) (a_cons (v_ixT rfl (v_var 0) v_int rfl) (a_cons (v_ixT rfl (v_var 0) v_int rfl) (a_cons (v_ixT rfl (v_var 0) v_int rfl) a_nil)))) ⟨r, rfl, o, rfl⟩) A fun v H' A' r' => q _ _ _ _ v H' A' r'
def S_parse (tB tA tC : Addr) : List D → List (Addr × List D) → Mm → (D → Mm → Prop) → Prop := fun ds L M0 Z => ∃ (cs : List Crd), ds = [.s (textF cs)] ∧ L = [] ∧ M0 = [tabB tB, tabA tA, tabC tC] ∧ drwOk cs ∧ cs ≠ [] ∧ Z = fun d Mn => d = dDrw cs ∧ Mn = [tabB tB, tabA tA, tabC tC]
theorem ok_parse {tB tA tC : Addr} (T : Tx c mg) (BB : TbM c mg base (He.ga c.K "Row") "read_books" tB) (BA : TbM c mg base (He.ga c.K "Row") "read_also" tA) (BC : TbM c mg base (He.ga c.K "Row") "read_card" tC) : FnAt P w c.K mg base "parse_drawer" 6 (spM c (S_parse tB tA tC)) := by
  obtain ⟨hm, fd, F⟩ := T.d_parse_drawer
  refine ⟨_, hm, F.kp, fnM F sc_parse_drawer (fun _ _ _ _ _ _ us hl => match us, hl with | [_], _ => rfl) rfl (fun ds L M0 Z h => ?_) 5 rfl fun cdv A0 outer s H0 Fr E ds L M0 Z σ hr h hL A Q q => ?_⟩
  · obtain ⟨cs, rfl, _⟩ := h
    rfl
  · obtain ⟨cs, rfl, rfl, rfl, o, hn, rfl⟩ := h
    have hC := T.c_Row
    have h16 := o.1
    have tl := text_len o
    refine x_setL 1 sc_parse_drawer.nd (l_if (k := true) (ds := (cs.map lineF).map D.s) (Pt.is (t_cmp op_ne (v_var 0) v_str rv_ne) (by rw [dec_str, decide_eq_false (text_ne o hn)]; rfl)) (fun _ => Pl.is (l_split (v_var 0) v_str (by decide +kernel) (by omega)) (by rw [text_split o hn])) fun h => nomatch h) A fun l σ1 H1 A1 => ?_
    obtain ⟨Fr2, e2, hls, A2⟩ := A1.freeze
    refine x_setLcE 2 [("number", 3), ("line", 4)] (fun ds M1 => ds = numbered ((cs.map lineF).map D.s) ∧ M1 = [tabB tB, tabA tA, tabC tC]) (fun ds i M' acc => ds = numbered ((cs.map lineF).map D.s) ∧ M' = [tabB tB, tabA tA, tabC tC] ∧ acc = (cs.take i).map cardD) rfl sc_parse_drawer.nd (i_enumN rfl T.n_enumerate (v_var 1) hls).pe (blkOk_by (N := N_parse_drawer) (sc := defScope st_parse_drawer) (by decide +kernel)) (fun ds M1 zz => ?_) (fun ds i M' acc hi zz => ?_) (fun ds i d M' acc Fr' Gx Dl hdi zz e => ?_) A2 fun ds l2 M2 acc σ3 H3 zz A3 => ?_
    · obtain ⟨rfl, rfl⟩ := zz
      exact ⟨⟨rfl, rfl, rfl⟩, by rw [numbered_len, List.length_map, List.length_map]; omega⟩
    · obtain ⟨rfl, rfl, rfl⟩ := zz
      rw [List.length_map, List.length_take]
      omega
    · obtain ⟨rfl, rfl, rfl⟩ := zz
      obtain ⟨y, hy, rfl⟩ := numbered_get hdi
      rw [List.getElem?_map, List.getElem?_map] at hy
      obtain ⟨z, hz, rfl⟩ := Option.map_eq_some_iff.mp hy
      obtain ⟨r, hr1, rfl⟩ := Option.map_eq_some_iff.mp hz
      have ro := o.2 r (List.mem_of_getElem? hr1)
      have ll := line_len ro
      refine ⟨_, _, true, fun s H C cl fp => g_tup rfl rfl (gs_cons (g_name 3 sc_parse_drawer.nd) (gs_cons (g_name 4 sc_parse_drawer.nd) gs_nil)), fun j hj => hj, fun s H C cl fp => n_nil, fun _ s H C cl fp => ?_, fun h => nomatch h⟩
      refine Ev.less (Z := fun d M' => ∃ (x dx pl : Addr) (n k : Nat), d = cardD r ∧ M' = (WR (He.ga c.K "Row") x dx pl n k ++ [tabB tB, tabA tA, tabC tC]) ++ [(pl, Ob.lst ((wordsF r).map D.s)), (Dl, Ob.lst ((cs.take i).map cardD))]) (e_meth0 (Z0 := fun d0 M1 => ∃ (x dx pl : Addr), d0 = .p x ∧ M1 = WR (He.ga c.K "Row") x dx pl i 0 ++ [(pl, Ob.lst ((wordsF r).map D.s)), (Dl, Ob.lst ((cs.take i).map cardD)), tabB tB, tabA tA, tabC tC]) rfl hC (ok_row_card T BB BA BC) hr (e_makeE (Za := fun ds M1 => ∃ pl, ds = [natD i, .p pl] ∧ M1 = [(pl, Ob.lst ((wordsF r).map D.s)), (Dl, Ob.lst ((cs.take i).map cardD)), tabB tB, tabA tA, tabC tC]) (ok_Row T) rfl hr (ea_v (v_var 3) (ea_l (Pl.is (l_split (v_var 4) v_str (by decide +kernel) (by omega)) (by rw [line_split ro])) fun pl => ea_nil ⟨pl, rfl, rfl⟩)) fun ds M1 za => ?_) fun d0 M1 z0 => ?_) fun d' M' zz => ?_
      · obtain ⟨pl, rfl, rfl⟩ := za
        exact ⟨[], [], _, List.Perm.refl _, (fun p hp => nomatch hp), fun x dx => ⟨_, ⟨x, dx, pl, i, rfl, rfl, rfl, rfl⟩, fun d Mn z => ⟨z.1, x, dx, pl, rfl, by rw [z.2]⟩⟩⟩
      · obtain ⟨x, dx, pl, rfl, rfl⟩ := z0
        exact ⟨x, dx, _, [(pl, (wordsF r).map D.s)], WR (He.ga c.K "Row") x dx pl i 0 ++ [tabB tB, tabA tA, tabC tC], [(pl, Ob.lst ((wordsF r).map D.s)), (Dl, Ob.lst ((cs.take i).map cardD))], _, rfl, List.mem_cons_self, rfl, (List.perm_append_comm (l₁ := [(pl, Ob.lst ((wordsF r).map D.s)), (Dl, Ob.lst ((cs.take i).map cardD))]) (l₂ := [tabB tB, tabA tA, tabC tC])).cons _, ⟨x, dx, pl, i, r, rfl, rfl, rfl, ro, rfl⟩, fun p hp => by
          rw [List.mem_singleton.mp hp]
          exact .inr List.mem_cons_self, fun d Mn z => ⟨x, dx, pl, i, (wordsF r).length, z.1, by rw [z.2]⟩⟩
      · obtain ⟨x, dx, pl, n, k, rfl, rfl⟩ := zz
        refine ⟨[(x, Ob.ins (He.ga c.K "Row") dx [("number", natD n), ("parts", .p pl), ("spot", natD k)]), (pl, Ob.lst ((wordsF r).map D.s)), (Dl, Ob.lst ((cs.take i).map cardD)), tabB tB, tabA tA, tabC tC], [(Dl, Ob.lst ((cs.take i).map cardD)), tabB tB, tabA tA, tabC tC], (List.perm_append_comm (l₁ := [tabB tB, tabA tA, tabC tC]) (l₂ := [(pl, Ob.lst ((wordsF r).map D.s)), (Dl, Ob.lst ((cs.take i).map cardD))])).cons _, ((List.Sublist.refl _).cons _).cons _, [tabB tB, tabA tA, tabC tC], rfl, rfl, rfl, ?_⟩
        rw [List.take_add_one, hr1, List.map_append]
        rfl
    · obtain ⟨rfl, rfl, rfl⟩ := zz
      rw [numbered_len, List.length_map, List.length_map, List.take_length] at A3
      obtain ⟨Fr4, e4, hls4, A4⟩ := A3.freeze
      refine x_ret (v_make (k := false) rfl (ok_Drawer T) hr (a_cons (v_tupN T.n_tuple rfl (Pl.is (l_lc [("parts", 5)] cs cardD (fun _ => true) dCard rfl sc_parse_drawer.nd (i_lst rfl (v_var 2) hls4) (blkOk_by (N := N_parse_drawer) (sc := defScope st_parse_drawer) (by decide +kernel)) (by omega) ?_) (by rw [filter_yes]))) a_nil) ⟨cs, rfl, h16, rfl⟩) A4 fun v H' A' r => q _ [] _ _ _ v H' ⟨rfl, rfl⟩ (A'.back (e2.trans e4) fun p hp => nomatch hp) r
      intro r hr1 acc Fr' Gx Dl e
      exact ⟨_, _, fun s H C cl fp => g_name 5 sc_parse_drawer.nd, fun j hj => hj, fun s H C cl fp => n_nil, fun _ s H C cl fp => v_call (ok_made T) hr (a_cons (v_var 5) a_nil) ⟨r, rfl, o.2 r hr1, rfl⟩⟩
end
end Sx
end
section
/-! dicts whose keys may be None: made by a comprehension, looked into -/
set_option maxRecDepth 100000
set_option maxHeartbeats 1000000
namespace Sx
open PySem PySem.Spec PyProof.Rows L2 LamX NdefX
instance decMemK (k : Option Key) (ks : List (Option Key)) : Decidable (k ∈ ks) := @List.instDecidableMemOfLawfulBEq _ instBEqOfDecidableEq inferInstance k ks
/-- the dict at D by its keys -/
def DnP (P : Program) (w : World) (D : Addr) (ks : List (Option Key)) (h : Heap) : Prop := (D == sysModules) = false ∧ ∃ es : List (Option Key × Value), es.map (·.1) = ks ∧ h.DictOf (noneKind P w) D es
def DnO (P : Program) (w : World) (D : Addr) (ks : List (Option Key)) : HO := .ext (DnP P w D ks)
def keyAdd (ks : List (Option Key)) (k : Option Key) : List (Option Key) := if k ∈ ks then ks else ks ++ [k]
def kvOf : Option Key → V
  | none => .non
  | some k => kV k
section
variable {P : Program} {w : World} {D : Addr} {ks : List (Option Key)} {k : Option Key} {h h' : Heap} {H : Hp}
theorem dn_stay (p : DnP P w D ks h) (st : ∀ o, h.get? D = some o → h'.get? D = some o) : DnP P w D ks h' := by
  obtain ⟨p1, es, p2, o, a, b, p3, p4⟩ := p
  exact ⟨p1, es, p2, o, a, b, st _ p3, p4⟩
theorem dn_ok (p : DnP P w D ks h) : ObjOk P w H h D (DnO P w D ks) := by
  obtain ⟨p1, es, p2, o, a, b, p3, p4⟩ := id p
  exact ⟨p, ⟨o, p3⟩, fun h1 h2 q st => dn_stay q st⟩
theorem dn_at (ok : HOk P w H h) (e : H D = some (DnO P w D ks)) : DnP P w D ks h := (ok D _ e).1
theorem is_kv {u : Value} (r : RelV (kvOf k) u) : (noneKind P w).is k u = true := by
  cases k with
  | none =>
    obtain rfl : u = Value.none := r
    rfl
  | some j => exact kV_is (P := P) (w := w) r
theorem keys_stored (es : List (Option Key × Value)) (k : Option Key) (v : Value) : (stored es k v).map (·.1) = keyAdd (es.map (·.1)) k := by
  unfold stored keyAdd
  by_cases q : k ∈ es.map (·.1)
  · have q1 : (es.any fun p => decide (p.1 = k)) = true := by
      obtain ⟨p, hp, e⟩ := List.mem_map.mp q
      exact List.any_eq_true.mpr ⟨p, hp, decide_eq_true e⟩
    rw [if_pos q, if_pos q1, List.map_map]
    refine List.map_congr_left fun p _ => ?_
    show (if p.1 = k then (p.1, v) else p).1 = p.1
    split <;> rfl
  · have q1 : ¬ (es.any fun p => decide (p.1 = k)) = true := fun z => by
      obtain ⟨p, hp, e⟩ := List.any_eq_true.mp z
      exact q (List.mem_map.mpr ⟨p, hp, of_decide_eq_true e⟩)
    rw [if_neg q, if_neg q1, List.map_append]
    rfl
theorem value_some (es : List (Option Key × Value)) (k : Option Key) : (valueAt es k).isSome = decide (k ∈ es.map (·.1)) := by
  unfold valueAt
  rw [Option.isSome_map]
  have e : ((es.find? fun kv => decide (kv.1 = k)).isSome = true) ↔ k ∈ es.map (·.1) := by
    rw [List.find?_isSome, List.mem_map]
    exact ⟨fun ⟨p, hp, z⟩ => ⟨p, hp, of_decide_eq_true z⟩, fun ⟨p, hp, z⟩ => ⟨p, hp, decide_eq_true z⟩⟩
  by_cases q : k ∈ es.map (·.1)
  · rw [decide_eq_true q]
    exact e.mpr q
  · rw [decide_eq_false q]
    exact Bool.eq_false_iff.mpr fun z => q (e.mp z)
end
section
variable {X : Cx} {pins : List (Addr × Obj)} {σ : L2.St} {H : Hp} {s : Shared} {D : Addr} {ks : List (Option Key)} {k : Option Key} {E : Value → Shared → Prop}
theorem dn_set {u r : Value} {Q : Unit → Shared → Prop} (I : Inv X pins σ H s) (hD : H D = some (DnO X.prog X.w D ks)) (hz : ks.length ≤ 1000) (ru : RelV (kvOf k) u) (q : ∀ s', Inv X pins σ (upd H D (DnO X.prog X.w D (keyAdd ks k))) s' → Q () s') : wpAny (model X.prog X.w) X.A (dictSet D u r) Q E s := by
  obtain ⟨hs, es, e1, dd⟩ := dn_at I.hok hD
  have hl : es.length ≤ sizeLine := by
    have := congrArg List.length e1
    rw [List.length_map] at this
    rw [this]
    exact Nat.le_trans hz (by decide)
  refine wpAny_dictSet_pairs (knd := noneKind X.prog X.w) (k := k) (hsz := hl) (is_kv ru) dd fun h' d2 sb => q _ ?_
  have there : ∃ o, h'.get? D = some o := by
    obtain ⟨o, _, _, z, _⟩ := id d2
    exact ⟨o, z⟩
  refine d_write I (by rw [hD]; exact True.intro) sb there (dn_ok ⟨hs, _, ?_, d2⟩)
  rw [keys_stored, e1]
theorem dn_notIn {u : Value} {Q : Value → Shared → Prop} (I : Inv X pins σ H s) (hD : H D = some (DnO X.prog X.w D ks)) (ru : RelV (kvOf k) u) (q : ∀ s', Inv X pins σ H s' → Q (.bool (!decide (k ∈ ks))) s') : wpAny (model X.prog X.w) X.A (compareOp .NotIn u (.ref D)) Q E s := by
  obtain ⟨hs, es, e1, dd⟩ := dn_at I.hok hD
  refine wpAny_notIn_of (knd := noneKind X.prog X.w) (k := k) (is_kv ru) hs dd.mapOf ?_
  rw [value_some, e1]
  exact q _ (I.tok _)
end
end Sx
end
section
/-! {k: v for t in it}, None among the keys -/
set_option maxRecDepth 100000
set_option maxHeartbeats 1000000
namespace Sx
open PySem PySem.Spec PyProof.Rows L2 LamX NdefX
/-- what the loop asks: J walks, the dict at D grows -/
def DnW (P : Program) (w : World) (g : TG) (tk tv : TE) (vs : List Nat) (σ : L2.St) (J : It) (D : Addr) (W : Nat → Nat → Hp → Prop) (Qd : Hp → Prop) : Prop := ∀ i m H, W i m H → (J.stop i H ∧ Qd H) ∨
  (J.go i H ∧ ∀ x H', J.yld i H x H' → g x (wipe σ vs) H' fun σ2 H2 => wipe σ2 vs = wipe σ vs ∧ tk σ2 H2 fun y H4 => tv σ2 H4 fun z H5 => ∃ ks k, y = kvOf k ∧ H5 D = some (DnO P w D ks) ∧ ks.length ≤ 1000 ∧ ∃ m', m' < m ∧ W (i + 1) m' (upd H5 D (DnO P w D (keyAdd ks k))))
section
variable {X : Cx} {pins : List (Addr × Obj)} {s : Shared} {σ : L2.St} {H : Hp} {Q : VK} {kx vx tg iter : Expr} {scope : Scope} {own : List (Str × Nat)} {pos pos' : Pos} {wi : TI} {g : TG} {tk tv : TE} {use : Option (Value → Sem Unit)} {Qf : Value → Shared → Prop}
theorem dn_new (h : Heap) (hb : sysModules < h.objs.size) : DnP X.prog X.w h.objs.size [] (h.push { cls := .type "dict", data := .dict #[] }) := ⟨beq_eq_false_iff_ne.mpr (Nat.ne_of_gt hb), [], rfl, Heap.DictOf.new h⟩
abbrev blkEnv (X : Cx) (scope : Scope) (C : Addr) : Env := compEnvC scope (cellsFrom (C + 1) scope.names (cloFrom X.env.cells scope.names [])) C X.env
theorem dn_core (hc : X.calm = true) (hN : X.N.Nodup) (I : Inv X pins σ H s) (hi : PI X tg iter wi) (ok : BlkOk X.N X.env.scope scope own)
    (hg : ∀ (s : Shared) (H : Hp) (C : Addr) (cl : List (Str × Addr)) (fp : List Addr), PG (X.blk s H scope (compEnvC scope cl C X.env) fp) tg g)
    (hk : ∀ (s : Shared) (H : Hp) (C : Addr) (cl : List (Str × Addr)) (fp : List Addr), PE (X.blk s H scope (compEnvC scope cl C X.env) fp) kx tk)
    (he : ∀ (s : Shared) (H : Hp) (C : Addr) (cl : List (Str × Addr)) (fp : List Addr), PE (X.blk s H scope (compEnvC scope cl C X.env) fp) vx tv) (hs : ∀ x, foldedSetIterable iter X.env x = pure x)
    (h : wi σ H fun J H1 => ∀ D, H1 D = none → ∃ W : Nat → Nat → Hp → Prop, (∃ m, W 0 m (upd H1 D (DnO X.prog X.w D []))) ∧ DnW X.prog X.w g tk tv (own.map (·.2)) σ J D W (Q (.ref D)))
    (hR : ∀ D C s' m H', Inv X pins σ H' s' → Q (.ref D) H' → s'.heap.Ns C m → FpOk X pins H' C → compPost (model X.prog X.w) X.A X.xe use Qf (.ref D) C (.ok .next) s') :
    wpAny (model X.prog X.w) X.A (comprehension (.DictComp kx vx [⟨tg, iter, [], 0⟩] scope pos) scope X.env pos' newDict false (eval iter X.env) use) Qf X.xe s := by
  refine wpAny_comprehension_free (use := use) rfl hs (closure_ok fun y hy e => ?_) ok.kind (fun y hy e => by rw [ok.uniq y hy, e]) (thn (hi.run pins s σ H _ I h) fun xv s1 hx => thn hx fun itv s2 h2 => ?_)
  · exact (ok.free y hy e).elim (fun z => I.ok.has _ (.inl z)) fun z => I.ok.has _ (.inr z)
  obtain ⟨it, fp, tn, J, H2, rfl, I2, T, st2, f2, q⟩ := h2
  refine wpAny_newObj_type (newEnv_comp ?_)
  -- the empty dict D, then the block's own frame
  obtain ⟨D, hD⟩ : ∃ D, s2.heap.objs.size = D := ⟨_, rfl⟩
  have lt2 : ∀ b ∈ fp, b < D := fun b hb => by
    obtain ⟨o, e, _⟩ := T.obj _ _ st2 b hb
    exact hD ▸ Heap.lt_size e
  obtain ⟨W, ⟨m0, w0⟩, turn⟩ := q D (I2.hok.fresh (Nat.le_of_eq hD))
  obtain ⟨s3, hs3⟩ : ∃ s3 : Shared, s3 = { s2 with heap := s2.heap.push { cls := .type "dict", data := .dict #[] } } := ⟨_, rfl⟩
  obtain ⟨H3, hH3⟩ : ∃ H3 : Hp, H3 = upd H2 D (DnO X.prog X.w D []) := ⟨_, rfl⟩
  have I3 : Inv X pins σ H3 s3 := by
    rw [hs3, hH3, ← hD]
    exact I2.laid (t' := s2.toks) (fun b o e => Heap.get?_push_of_some _ e) (Nat.le_refl _) (dn_ok (dn_new s2.heap I2.big))
  have z3 : s3.heap.objs.size = D + 1 := by rw [hs3, ← hD]; exact Heap.size_push _ _
  have f3 : ∀ b ∈ fp, FpOk X pins H3 b ∧ b < s3.heap.objs.size := fun b hb => by
    obtain ⟨a1, a2⟩ := f2 b hb
    have := lt2 b hb
    refine ⟨⟨?_, a2⟩, by rw [z3]; exact Nat.lt_succ_of_lt this⟩
    rw [hH3, upd_ne (Nat.ne_of_lt this)]
    exact a1
  have k3 : ∀ b o, s2.heap.get? b = some o → s3.heap.get? b = some o := fun b o e => by
    rw [hs3]
    exact Heap.get?_push_of_some _ e
  have I4 := block_start I3 ok hN f3
  rw [← hs3]
  obtain ⟨ce, hce⟩ : ∃ ce, blkEnv X scope s3.heap.objs.size = ce := ⟨_, rfl⟩
  have lc : ce.locals = s3.heap.objs.size := by
    rw [← hce] <;> rfl
  have pg := hg s3 H3 s3.heap.objs.size (cellsFrom (s3.heap.objs.size + 1) scope.names (cloFrom X.env.cells scope.names [])) fp
  have pk := hk s3 H3 s3.heap.objs.size (cellsFrom (s3.heap.objs.size + 1) scope.names (cloFrom X.env.cells scope.names [])) fp
  have pv := he s3 H3 s3.heap.objs.size (cellsFrom (s3.heap.objs.size + 1) scope.names (cloFrom X.env.cells scope.names [])) fp
  rw [show compEnvC scope (cellsFrom (s3.heap.objs.size + 1) scope.names (cloFrom X.env.cells scope.names [])) s3.heap.objs.size X.env = ce from hce] at I4 pg pk pv
  obtain ⟨s4, hs4⟩ : ∃ s4 : Shared, ({ s3 with heap := pushCells (s3.heap.push { cls := .type "dict", data := .dict #[] }) scope.names } : Shared) = s4 := ⟨_, rfl⟩
  rw [hs4] at I4
  have st4 : tn 0 s4.heap := T.keep _ _ _ st2 fun b _ o e => by
    rw [← hs4]
    exact pushCells_keeps _ _ _ _ (Heap.get?_push_of_some _ (k3 b o e))
  show codeAny _ _ (.compStart (.DictComp kx vx [⟨tg, iter, [], 0⟩] scope pos) 0 (.ref it) (.ref s2.heap.objs.size) (blkEnv X scope s3.heap.objs.size)) (compPost (model X.prog X.w) X.A X.xe use Qf (.ref s2.heap.objs.size) s3.heap.objs.size) { s3 with heap := pushCells (s3.heap.push { cls := .type "dict", data := .dict #[] }) scope.names }
  rw [hce, hs4, hD]
  have own' : ∀ {σ' : L2.St} {H' : Hp} {s' : Shared}, Inv (X.blk s3 H3 scope ce fp) [] σ' H' s' → (∀ b ∈ fp, H' b = none) → ∀ b ∈ fp, FpOk (X.blk s3 H3 scope ce fp) [] H' b := fun {σ' H' s'} J' hn b hb => by
    obtain ⟨a1, a2⟩ := J'.ok.exf b hb
    exact ⟨hn b hb, a1, J'.ok.exfs b hb, .inl hb, fun x c e => a2 x c e, fun p hp => (nomatch (show p ∈ ([] : List (Addr × Obj)) from hp))⟩
  have loop : codeAny (model X.prog X.w) X.A (.compLoop (.DictComp kx vx [⟨tg, iter, [], 0⟩] scope pos) 0 (.ref it) (.ref D) ce) (compPost (model X.prog X.w) X.A X.xe use Qf (.ref D) s3.heap.objs.size) s4 := by
    refine compLoop_anyD (fun n s' => ∃ i H', Inv (X.blk s3 H3 scope ce fp) [] (wipe σ (own.map (·.2))) H' s' ∧ tn i s'.heap ∧ (∀ b ∈ fp, H' b = none) ∧ W i n H') ?_ m0 ⟨0, H3, I4, st4, fun b hb => (f3 b hb).1.1, hH3 ▸ w0⟩
    rintro n s5 ⟨i, H5, I5, st5, n5, w5⟩
    rcases turn i n H5 w5 with ⟨stop, qq⟩ | ⟨go, step⟩
    · refine thnF (T.done (X.blk s3 H3 scope ce fp) rfl rfl rfl hc i [] s5 _ H5 (fun _ _ => False) I5 (own' I5 n5) st5 stop) fun r s6 ⟨hr, I6⟩ => ?_
      subst hr
      have I7 : Inv X pins σ H5 s6 := I3.call' (ch := fp) I6.os I6.base I6.hok I6.bare fun b hb => by
        obtain ⟨⟨_, a2, a3, a4, a5, a6⟩, _⟩ := f3 b hb
        exact ⟨a4, a2, a5, a6⟩
      obtain ⟨m, hn, _⟩ := I6.loc
      have hn : s6.heap.Ns ce.locals m := hn
      have nC : H5 ce.locals = none := I6.free
      rw [lc] at hn nC
      exact hR D s3.heap.objs.size s6 m H5 I7 qq hn (I3.fpOk (Nat.le_refl _) nC)
    · refine thnF (T.item (X.blk s3 H3 scope ce fp) rfl rfl rfl hc i [] s5 _ H5 (fun _ _ => False) I5 (own' I5 n5) st5 go) fun r s6 ⟨u, hr, h6⟩ => ?_
      subst hr
      refine thnF h6 fun _ s7 ⟨x, H7, I7, r7, y7, st7, n7⟩ => ?_
      have I7' := I7.pinned (own' I7 n7) (T.obj _ _ st7)
      refine thnF (pg.run _ s7 _ H7 x u _ I7' r7 (step x H7 y7)) fun _ s8 ⟨σ8, H8, I8, hw8, q8⟩ => ?_
      refine thnF ((pts_nil (X := X.blk s3 H3 scope ce fp)).run _ s8 σ8 H8 (fun b H9 => b = true ∧ H9 = H8) I8 ⟨rfl, rfl⟩) fun b s9 ⟨H9, I9, q9⟩ => ?_
      obtain ⟨q91, q92⟩ := q9
      subst q91
      subst q92
      rw [if_pos rfl]
      refine thnF (pk.run _ s9 σ8 _ _ I9 q8) fun z s10 ⟨yk, H10, I10, r10, q10⟩ => ?_
      refine thnF (pv.run _ s10 σ8 H10 _ I10 q10) fun z2 s11 ⟨yv, H11, I11, r11, ks, k, ek, hD11, hz11, m', hm, w'⟩ => ?_
      subst ek
      refine dn_set (X := X.blk s3 H3 scope ce fp) I11 hD11 hz11 r10 fun s12 I12 => ⟨m', hm, i + 1, _, ?_, ?_, fun b hb => ?_, w'⟩
      · refine (I12.unpinned (pins := [])).weak (by rw [← hw8, wipe_length]) fun j v e => ?_
        rw [← hw8] at e
        exact (wipe_some e).1
      · exact T.keep _ _ _ st7 fun b hb o e => (I12.pin (b, o) (List.mem_append_right _ (List.mem_append_right _ (mem_pinsAt hb e)))).1
      · obtain ⟨o, e, _⟩ := T.obj _ _ st7 b hb
        exact (I12.pin (b, o) (List.mem_append_right _ (List.mem_append_right _ (mem_pinsAt hb e)))).2.1
  exact codeAny_compStart_dict loop (T.self X.A 0 _ _ _ st4 loop)
/-- as a value -/
theorem pe_dn (hc : X.calm = true) (hN : X.N.Nodup) (hi : PI X tg iter wi) (ok : BlkOk X.N X.env.scope scope own)
    (hg : ∀ (s : Shared) (H : Hp) (C : Addr) (cl : List (Str × Addr)) (fp : List Addr), PG (X.blk s H scope (compEnvC scope cl C X.env) fp) tg g)
    (hk : ∀ (s : Shared) (H : Hp) (C : Addr) (cl : List (Str × Addr)) (fp : List Addr), PE (X.blk s H scope (compEnvC scope cl C X.env) fp) kx tk)
    (he : ∀ (s : Shared) (H : Hp) (C : Addr) (cl : List (Str × Addr)) (fp : List Addr), PE (X.blk s H scope (compEnvC scope cl C X.env) fp) vx tv) (hs : ∀ x, foldedSetIterable iter X.env x = pure x) :
    PE X (.DictComp kx vx [⟨tg, iter, [], 0⟩] scope pos) (fun σ H Q => wi σ H fun J H1 => ∀ D, H1 D = none → ∃ W : Nat → Nat → Hp → Prop, (∃ m, W 0 m (upd H1 D (DnO X.prog X.w D []))) ∧ DnW X.prog X.w g tk tv (own.map (·.2)) σ J D W (Q (.ref D))) := by
  refine ⟨fun pins s σ H Q I h => ?_⟩
  rw [arm_eval_DictComp]
  exact dn_core hc hN I hi ok hg hk he hs h fun D C s' m H' I' q hn ⟨f0, f1, f2, f3, f4, f5⟩ => ⟨m, hn, fun h2 sb => ⟨.ref D, H', I'.turned (t' := s'.toks) (fun b o hb e => (sb.2 b hb).trans e) f0 f1 f3 f4 f5, rfl, q⟩⟩
end
end Sx
end
section
/-! never_found -/
set_option maxRecDepth 100000
set_option maxHeartbeats 1000000
namespace Sx
open PySem PySem.Spec PyProof.Rows L2 LamX NdefX
def DnV (P : Program) (w : World) (ks : List (Option Key)) : Hp → V → Prop := fun H u => ∃ a, u = .ref a ∧ H a = some (DnO P w a ks)
theorem rp_dn {c : Cs} {P : Program} {w : World} {ks : List (Option Key)} {H : Hp} {u : V} (h : Rp c H (.x (DnV P w ks)) u) : DnV P w ks H u := by
  obtain ⟨H0, i, a, e, h⟩ := rp_x.mp h
  exact ⟨a, e, i _ _ h rfl⟩
def keysOfL (l : List (Option Key)) : List (Option Key) := l.foldl keyAdd []
theorem keyAdd_mem {ks : List (Option Key)} {k j : Option Key} : j ∈ keyAdd ks k ↔ j ∈ ks ∨ j = k := by
  unfold keyAdd
  split
  · rename_i h
    exact ⟨.inl, fun z => z.elim id fun e => e ▸ h⟩
  · rw [List.mem_append, List.mem_singleton]
theorem nkeys_mem (j : Option Key) : ∀ (l ks : List (Option Key)), j ∈ l.foldl keyAdd ks ↔ j ∈ ks ∨ j ∈ l
  | [], ks => by simp
  | k :: l, ks => by
    rw [List.foldl_cons, nkeys_mem j l, keyAdd_mem, List.mem_cons]
    exact ⟨fun h => h.elim (fun h => h.elim .inl fun e => .inr (.inl e)) fun h => .inr (.inr h), fun h => h.elim (fun h => .inl (.inl h)) fun h => h.elim (fun e => .inl (.inr e)) .inr⟩
theorem keyAdd_len (ks : List (Option Key)) (k : Option Key) : (keyAdd ks k).length ≤ ks.length + 1 := by
  unfold keyAdd
  split <;> simp
theorem nkeys_len : ∀ (l ks : List (Option Key)), (l.foldl keyAdd ks).length ≤ ks.length + l.length
  | [], ks => Nat.le_refl _
  | k :: l, ks => by
    have a := nkeys_len l (keyAdd ks k)
    have b := keyAdd_len ks k
    rw [List.foldl_cons, List.length_cons]
    omega
theorem wipe_self (σ : L2.St) (vs : List Nat) : wipe (wipe σ vs) vs = wipe σ vs := by
  have key : ∀ (us ws : List Nat), (∀ v ∈ us, v ∈ ws) → ∀ τ : L2.St, wipe (wipe τ us) ws = wipe τ ws := by
    intro us
    induction us with
    | nil => intro ws _ τ; rfl
    | cons v us ih =>
      intro ws h τ
      show wipe ((wipe τ us).set v none) ws = _
      rw [wipe_set (h v List.mem_cons_self), ih ws (fun u hu => h u (List.mem_cons_of_mem _ hu))]
  exact key vs vs (fun _ h => h) σ
section
variable {X : Cx} {c : Cs} {Fr : Hp} {G : List (V × D)} {M : Mm} {env : En} {tg iter kx vx : Expr} {scope : Scope} {pos : Pos} {d : D}
/-- {k: v for ..}, the keys None, ints or texts -/
theorem v_dn {α : Type} (own : List (Str × Nat)) (xs : List α) (gx : α → D) (key : α → Option Key) (hc : X.calm = true) (hN : X.N.Nodup) (hi : Pi X c Fr G M env tg iter (xs.map gx)) (ok : BlkOk X.N X.env.scope scope own) (hz : xs.length ≤ 1000)
    (hb : ∀ y ∈ xs, ∀ Fr0, Ex Fr Fr0 → ∃ env2 js, (∀ (s : Shared) (H : Hp) (C : Addr) (cl : List (Str × Addr)) (fp : List Addr), Pg (X.blk s H scope (compEnvC scope cl C X.env) fp) c tg (gx y) (wipeE env (own.map (·.2))) env2 js) ∧ (∀ j ∈ js, j ∈ own.map (·.2)) ∧
      (∀ (s : Shared) (H : Hp) (C : Addr) (cl : List (Str × Addr)) (fp : List Addr), Pv (X.blk s H scope (compEnvC scope cl C X.env) fp) c Fr0 [] [] env2 kx (.v (kvOf (key y)))) ∧
      (∀ (s : Shared) (H : Hp) (C : Addr) (cl : List (Str × Addr)) (fp : List Addr), Pv (X.blk s H scope (compEnvC scope cl C X.env) fp) c Fr0 [] [] env2 vx d))
    (hs : ∀ x, foldedSetIterable iter X.env x = pure x := by intro _; rfl) : Pv X c Fr G M env (.DictComp kx vx [⟨tg, iter, [], 0⟩] scope pos) (.x (DnV X.prog X.w (keysOfL (xs.map key)))) := fun σ H A Q k => by
  refine (pe_dn (wi := WI X tg iter) (g := KG X scope tg) (tk := KE X scope kx) (tv := KE X scope vx) hc hN wi ok (fun s H0 C cl fp => ⟨fun pins s' σ H v u Q I r h => h s H0 C cl fp pins s' u I r⟩) (fun s H0 C cl fp => ⟨fun pins s' σ H Q I h => h s H0 C cl fp pins s' I⟩) (fun s H0 C cl fp => ⟨fun pins s' σ H Q I h => h s H0 C cl fp pins s' I⟩) hs).w ?_
  refine hi σ H A _ fun J Fr' Gx H2 e1 A2 i2 w D hD => ?_
  have hlen : (xs.map gx).length = xs.length := List.length_map _
  rw [hlen] at w
  have AF : At c H2 [] [] env σ H2 := ⟨Ex.refl H2, (fun p hp => nomatch hp), (fun p hp => nomatch hp), List.nodup_nil, A2.sl, A2.ln⟩
  refine ⟨fun i m H' => m = xs.length - i ∧ i ≤ xs.length ∧ Ex H2 H' ∧ H' D = some (DnO X.prog X.w D (keysOfL ((xs.take i).map key))), ⟨xs.length, by simp, Nat.zero_le _, Ex.new hD, upd_same⟩, ?_⟩
  rintro i m H' ⟨rfl, hi2, ex, hDk⟩
  have gcond : Ex Fr' H' ∧ ∀ p ∈ Gx, Rp c H' p.2 p.1 := ⟨A2.fr.trans ex, fun p hp => (A2.gh p (List.mem_append_left _ hp)).im ex.im⟩
  by_cases hlt : i < xs.length
  · refine .inr ⟨w.goes i H' hlt gcond, fun x1 H3 hy => ?_⟩
    obtain ⟨ex3, r3⟩ := w.yields i H' x1 H3 hlt gcond hy
    have r3 := r3 (gx xs[i]) (by rw [List.getElem?_map, List.getElem?_eq_getElem hlt]; rfl)
    have hD3 := ex3 D _ hDk
    obtain ⟨env2, js, hg, hj, hk, hv⟩ := hb xs[i] (List.getElem_mem hlt) H2 (e1.trans A2.fr)
    intro s0 H0 C cl fp
    refine hg s0 H0 C cl fp H2 [] [] _ H3 x1 ((AF.ex (ex.trans ex3)).wiped (own.map (·.2))) r3 _ fun σ4 A4 w4 => ⟨by rw [w4 _ hj, wipe_self], fun s0 H0 C cl fp => ?_⟩
    refine hk s0 H0 C cl fp σ4 H3 A4 _ fun v5 H5 A5 i5 r5 => fun s0 H0 C cl fp => ?_
    refine hv s0 H0 C cl fp σ4 H5 A5 _ fun v6 H6 A6 i6 r6 => ?_
    have hD6 := i6 D _ (i5 D _ hD3 rfl) rfl
    refine ⟨_, key xs[i], rp_v.mp r5, hD6, ?_, xs.length - (i + 1), by omega, rfl, hlt, ?_, ?_⟩
    · have := nkeys_len ((xs.take i).map key) []
      rw [List.length_map, List.length_take] at this
      unfold keysOfL
      simp only [List.length_nil] at this
      omega
    · intro b o e
      rw [upd_ne (ne_of_none e hD)]
      exact A6.fr b o e
    · rw [upd_same]
      congr 2
      unfold keysOfL
      rw [List.take_add_one, List.getElem?_eq_getElem hlt, List.map_append, List.foldl_append]
      rfl
  · have e : i = xs.length := by omega
    subst e
    refine .inl ⟨w.stops H' gcond, ?_⟩
    rw [List.take_length] at hDk
    have B := A2.ex ex
    have B2 : At c Fr G M env σ H' := ⟨e1.trans B.fr, fun p hp => B.gh p (List.mem_append_right _ hp), fun p hp => ⟨e1.back (B.ob p hp).1, (B.ob p hp).2⟩, B.nd, B.sl, B.ln⟩
    exact k _ H' B2 (i2.trans ex.im) (rp_x.mpr ⟨H', IM.refl _, D, rfl, hDk⟩)
def rNotDn (P : Program) (w : World) : R2 := fun x y H Q => ∃ D ks k, x = kvOf k ∧ y = .ref D ∧ H D = some (DnO P w D ks) ∧ Q (.bl (!decide (k ∈ ks))) H
theorem op_notDn : OpR X (compareOp .NotIn) (rNotDn X.prog X.w) := by
  intro pins s σ H x y v u Q I rx ry h
  obtain ⟨D, ks, k, rfl, rfl, hD, q⟩ := h
  obtain rfl : u = Value.ref D := ry
  exact dn_notIn I hD rx fun s' I' => ⟨.bl (!decide (k ∈ ks)), H, I', rfl, q⟩
theorem rv_notDn {P : Program} {w : World} {ks : List (Option Key)} {k : Option Key} : RV2 c (rNotDn P w) (.v (kvOf k)) (.x (DnV P w ks)) (.b (!decide (k ∈ ks))) := fun H x y Q h1 h2 q => by
  obtain ⟨D, e, h⟩ := rp_dn h2
  exact ⟨D, ks, k, rp_v.mp h1, e, h, q _ H (Ex.refl H) (rp_v.mpr rfl)⟩
end
section
variable {P : Program} {w : World} {c : Cs} {mg : Str → Option Value} {base : Heap}
def metK (cs : List Crd) (r h : Str) : Option Key := (looked r (cs.map (·.h)) h).1.map fun k => (.inl (k : Int))
def neverM (cs : List Crd) (r : Str) : List Nat := (List.range cs.length).filter fun k => !(sortS (cs.map (·.h))).any fun h => decide ((looked r (cs.map (·.h)) h).1 = some k)
theorem met_mem (cs : List Crd) (r : Str) (hs : List Str) (k : Nat) : (some (.inl (k : Int)) : Option Key) ∈ keysOfL (hs.map (metK cs r)) ↔ ∃ h ∈ hs, (looked r (cs.map (·.h)) h).1 = some k := by
  unfold keysOfL
  rw [nkeys_mem, List.mem_map]
  constructor
  · rintro (z | ⟨h, hh, e⟩)
    · cases z
    · refine ⟨h, hh, ?_⟩
      unfold metK at e
      cases q : (looked r (cs.map (·.h)) h).1 with
      | none => rw [q] at e; cases e
      | some j =>
        rw [q] at e
        have e : (some (Sum.inl (j : Int)) : Option Key) = some (.inl (k : Int)) := e
        injection e with e
        injection e with e
        congr 1
        omega
  · rintro ⟨h, hh, e⟩
    exact .inr ⟨h, hh, by unfold metK; rw [e]; rfl⟩
theorem opt_kv (o : Option Nat) : optD o = .v (kvOf (o.map fun k => (.inl (k : Int)))) := by
  cases o <;> rfl
def R_never : List D → List (Addr × List D) → List D → Prop := fun ds L ys => ∃ (cs : List Crd) (r : Str), ds = [dDrw cs, .s r] ∧ L = [] ∧ drwOk cs ∧ ruleOk r ∧ ys = (neverM cs r).map natD
theorem ok_never (T : Tx c mg) : FnAt P w c.K mg base "never_found" 5 (spL c R_never) := by
  refine T.d_never_found.at_ fun f fd F => fnML F sc_never_found (fun _ _ _ _ _ _ us hl => match us, hl with | [_, _], _ => rfl) (fun ds L d h => ?_) 3 rfl fun cdv A0 outer s H0 Fr E ds L ys σ hr h hL A Q q => ?_
  · obtain ⟨cs, r, rfl, _⟩ := h
    rfl
  · obtain ⟨cs, r, rfl, rfl, o, hr1, rfl⟩ := h
    have h16 := o.1
    have hsl : (sortS (cs.map (·.h))).length ≤ 16 := by
      refine Nat.le_trans (sortS_len _) ?_
      rw [List.length_map]
      exact h16
    refine x_exp (v_call (ok_check_rule T) hr (a_cons (v_var 1) a_nil) ⟨r, rfl, hr1, rfl⟩).ev A fun d M' H1 z A1 => ?_
    obtain ⟨rfl, rfl⟩ := z
    refine x_set 2 sc_never_found.nd (v_dn [("heading", 3)] (sortS (cs.map (·.h))) D.s (metK cs r) (d := .b true) rfl sc_never_found.nd (i_tup rfl (v_prop (k := false) rfl (ok_headings T) T.s_Drawer hr (v_var 0) ⟨cs, rfl, h16, rfl⟩)) (blkOk_by (N := N_never_found) (sc := defScope st_never_found) (by decide +kernel)) (by omega) (fun h hh Fr0 e => ?_)) A1 fun σ2 H2 A2 => ?_
    · refine ⟨_, _, fun s H C cl fp => g_name 3 sc_never_found.nd, fun j hj => hj, fun s H C cl fp => ?_, fun s H C cl fp => v_bl⟩
      exact v_ixT (d := .v (kvOf (metK cs r h))) rfl (v_call (ok_looked_up T) hr (a_cons (v_var 0) (a_cons (v_var 1) (a_cons (v_var 3) a_nil))) ⟨cs, r, h, rfl, h16, hr1, rfl⟩) v_int (by
        unfold metK
        rw [← opt_kv]
        rfl)
    · refine x_retL (Pl.is (l_lc [("place", 4)] (List.range cs.length) natD (fun k => !decide ((some (.inl (k : Int)) : Option Key) ∈ keysOfL ((sortS (cs.map (·.h))).map (metK cs r)))) natD rfl sc_never_found.nd (i_rng T.n_range (a_cons (Pv.is (v_lenT T.n_len rfl (v_prop (k := false) rfl (ok_cards T) T.s_Drawer hr (v_var 0) ⟨cs, rfl, rfl⟩)) (by rw [List.length_map])) a_nil) (by omega)) (blkOk_by (N := N_never_found) (sc := defScope st_never_found) (by decide +kernel)) (by rw [List.length_range]; omega) ?_) ?_) A2 fun l H' A' => q _ _ _ _ l H' A' List.mem_cons_self
      · intro k hk acc Fr' Gx Dl e
        exact ⟨_, _, fun s H C cl fp => g_name 4 sc_never_found.nd, fun j hj => hj, fun s H C cl fp => n_one (t_cmp op_notDn (Pv.is (v_var 4) (d' := .v (kvOf (some (.inl (k : Int))))) rfl) (v_var 2) rv_notDn), fun _ s H C cl fp => v_var 4⟩
      · congr 1
        unfold neverM
        refine List.filter_congr fun k _ => ?_
        congr 1
        by_cases q : (some (.inl (k : Int)) : Option Key) ∈ keysOfL ((sortS (cs.map (·.h))).map (metK cs r))
        · rw [decide_eq_true q]
          obtain ⟨h, hh, e⟩ := (met_mem cs r _ k).mp q
          exact (List.any_eq_true.mpr ⟨h, hh, decide_eq_true e⟩).symm
        · rw [decide_eq_false q]
          refine (Bool.eq_false_iff.mpr fun z => q ?_).symm
          obtain ⟨h, hh, e⟩ := List.any_eq_true.mp z
          exact (met_mem cs r _ k).mpr ⟨h, hh, of_decide_eq_true e⟩
end
end Sx
end
section
/-! table -/
set_option maxRecDepth 100000
set_option maxHeartbeats 1000000
namespace Sx
open PySem PySem.Spec PyProof.Rows L2 LamX NdefX
theorem goOn_word {cs : List Crd} {r h : Str} {w : Wst} {e h' : Str} {w' : Wst} (q : goOn cs r h w = (some e, h', w')) : e ∈ [("ring" : Str), "lost", "entry"] := by
  unfold goOn at q
  split at q
  · injection q with q1
    injection q1 with q1
    rw [← q1]
    exact List.mem_cons_self
  · dsimp only at q
    split at q
    · injection q with q1
      injection q1 with q1
      rw [← q1]
      exact List.mem_cons_of_mem _ List.mem_cons_self
    · split at q
      · injection q with q1
        injection q1 with q1
        rw [← q1]
        exact List.mem_cons_of_mem _ List.mem_cons_self
      · split at q
        · injection q with q1
          injection q1 with q1
          rw [← q1]
          exact List.mem_cons_of_mem _ (List.mem_cons_of_mem _ List.mem_cons_self)
        · injection q with q1
          cases q1
theorem goOn_len {cs : List Crd} {r h : Str} {w : Wst} : (goOn cs r h w).2.2.steps.length ≤ w.steps.length + 1 := by
  unfold goOn
  split
  · exact Nat.le_succ _
  · dsimp only
    split
    · exact Nat.le_succ _
    · split
      · exact Nat.le_succ _
      · split <;> simp
theorem wk_word {cs : List Crd} {r : Str} : ∀ {n : Nat} {h : Str} {w : Wst}, (wk cs r n h w).1 ∈ [("ring" : Str), "lost", "entry"]
  | 0, h, w => List.mem_cons_self
  | n + 1, h, w => by
    unfold wk
    cases q : goOn cs r h w with
    | mk o p =>
      obtain ⟨h', w'⟩ := p
      cases o with
      | some e => exact goOn_word q
      | none => exact wk_word
theorem wk_len {cs : List Crd} {r : Str} : ∀ {n : Nat} {h : Str} {w : Wst}, (wk cs r n h w).2.steps.length ≤ w.steps.length + n
  | 0, h, w => Nat.le_refl _
  | n + 1, h, w => by
    unfold wk
    have g := goOn_len (cs := cs) (r := r) (h := h) (w := w)
    cases q : goOn cs r h w with
    | mk o p =>
      obtain ⟨h', w'⟩ := p
      rw [q] at g
      cases o with
      | some e =>
        show w'.steps.length ≤ _
        have g : w'.steps.length ≤ w.steps.length + 1 := g
        omega
      | none =>
        have g : w'.steps.length ≤ w.steps.length + 1 := g
        have := wk_len (cs := cs) (r := r) (n := n) (h := h') (w := w')
        show (wk cs r n h' w').2.steps.length ≤ _
        omega
theorem walked_lt {cs : List Crd} {r h : Str} : ∀ k ∈ (walked cs r h).2.steps, k < cs.length := (wk_steps (w := ⟨[], 0, []⟩) fun k hk => nomatch hk).1
theorem walked_len {cs : List Crd} {r h : Str} : (walked cs r h).2.steps.length ≤ 99 := by
  have := wk_len (cs := cs) (r := r) (n := 99) (h := h) (w := ⟨[], 0, []⟩)
  unfold walked
  simpa using this
def toldF (steps : List Nat) : Str := if steps = [] then "-" else Txt.join ">" (steps.map fun n : Nat => strI (n : Int))
def rowT (cs : List Crd) (r h : Str) : Str := [h, ": ", toldF (walked cs r h).2.steps, " ", (walked cs r h).1].foldl (· ++ ·) Str.empty
def tableF (cs : List Crd) (r : Str) : Str := Txt.join "\n" ((knownM cs).map (rowT cs r))
theorem known_words {cs : List Crd} (o : drwOk cs) : ∀ z ∈ knownM cs, wordB z = true := by
  intro z hz
  unfold knownM at hz
  rcases List.mem_append.mp (sortS_mem.mp hz) with h | h
  · obtain ⟨r, hr, rfl⟩ := List.mem_map.mp (sortS_mem.mp h)
    exact (o.2 r hr).h
  · obtain ⟨r, hr, h⟩ := List.mem_flatMap.mp h
    have ro := o.2 r hr
    unfold goesTo at h
    split at h
    · rename_i hs
      rw [List.mem_singleton.mp h]
      rcases ro.s with q | ⟨_, _, q, _⟩
      · exact absurd q hs
      · exact q
    · exact (ro.a.2.2 z h).1
theorem known_len {cs : List Crd} (o : drwOk cs) : (knownM cs).length ≤ 100 := by
  have a := sortS_len (sortS (cs.map (·.h)) ++ cs.flatMap goesTo)
  have b := sortS_len (cs.map (·.h))
  have c := flat_len (f := goesTo) (n := 4) (l := cs) fun x hx => goes_len (o.2 x hx)
  have := o.1
  unfold knownM
  rw [List.length_append] at a
  rw [List.length_map] at b
  omega
theorem strN_len {n : Nat} (h : n ≤ 999) : (strI (n : Int)).length ≤ 3 := by
  have all : (List.range 1000).all (fun n => decide ((strI (n : Int)).length ≤ 3)) = true := by decide +kernel
  exact of_decide_eq_true (List.all_eq_true.mp all n (List.mem_range.mpr (by omega)))
theorem strN_signs {n : Nat} (h : n ≤ 99) : ∀ k ∈ (strI (n : Int)).cps.toList, 48 ≤ k := by
  have all : (List.range 100).all (fun n => decide (∀ k ∈ (strI (n : Int)).cps.toList, 48 ≤ k)) = true := by decide +kernel
  exact of_decide_eq_true (List.all_eq_true.mp all n (List.mem_range.mpr (by omega)))
theorem told_len {cs : List Crd} {r h : Str} (o : drwOk cs) : (toldF (walked cs r h).2.steps).length ≤ 400 := by
  unfold toldF
  split
  · decide +kernel
  · have a := join_len ">" ((walked cs r h).2.steps.map fun n : Nat => strI (n : Int))
    have b := sum_le (·.length) 3 ((walked cs r h).2.steps.map fun n : Nat => strI (n : Int)) fun z hz => by
      obtain ⟨k, hk, rfl⟩ := List.mem_map.mp hz
      have := walked_lt k hk
      have := o.1
      exact strN_len (by omega)
    have e : (">" : Str).length = 1 := by decide +kernel
    have l := walked_len (cs := cs) (r := r) (h := h)
    rw [txt_join]
    rw [e] at a
    rw [List.length_map] at a b
    omega
theorem told_signs {cs : List Crd} {r h : Str} (o : drwOk cs) : ∀ k ∈ (toldF (walked cs r h).2.steps).cps.toList, 32 ≤ k := by
  unfold toldF
  split
  · decide +kernel
  · intro k hk
    rw [txt_join] at hk
    rcases (PyProof.Rows.mem_join _ _ _).mp hk with ⟨t, ht, hk⟩ | ⟨_, hk⟩
    · obtain ⟨j, hj, rfl⟩ := List.mem_map.mp ht
      have := walked_lt j hj
      have := o.1
      have := strN_signs (n := j) (by omega) k hk
      omega
    · have : ∀ k ∈ (">" : Str).cps.toList, 32 ≤ k := by decide +kernel
      exact this k hk
theorem word_short {cs : List Crd} {r h : Str} : (walked cs r h).1.length ≤ 5 ∧ ∀ k ∈ (walked cs r h).1.cps.toList, 32 ≤ k := by
  have all : ∀ z ∈ [("ring" : Str), "lost", "entry"], z.length ≤ 5 ∧ ∀ k ∈ z.cps.toList, 32 ≤ k := by decide +kernel
  exact all _ wk_word
theorem fold_len : ∀ (zs : List Str) (a : Str), (zs.foldl (· ++ ·) a).length = a.length + (zs.map (·.length)).sum
  | [], a => by simp
  | z :: zs, a => by
    rw [List.foldl_cons, fold_len zs, str_len, List.map_cons, List.sum_cons]
    omega
theorem fold_signs : ∀ (zs : List Str) (a : Str) (k : Nat), k ∈ (zs.foldl (· ++ ·) a).cps.toList → k ∈ a.cps.toList ∨ ∃ z ∈ zs, k ∈ z.cps.toList
  | [], a, k, h => .inl h
  | z :: zs, a, k, h => by
    rcases fold_signs zs (a ++ z) k h with h | ⟨y, hy, h⟩
    · rw [cps_app] at h
      exact (List.mem_append.mp h).imp id fun h => ⟨z, List.mem_cons_self, h⟩
    · exact .inr ⟨y, List.mem_cons_of_mem _ hy, h⟩
theorem row_len {cs : List Crd} {r h : Str} (o : drwOk cs) (hw : wordB h = true) : (rowT cs r h).length ≤ 500 := by
  have a := told_len (r := r) (h := h) o
  have b := (word_short (cs := cs) (r := r) (h := h)).1
  have c := (word_len hw).2
  have e1 : (": " : Str).length = 2 := by decide +kernel
  have e2 : (" " : Str).length = 1 := by decide +kernel
  have e3 : Str.empty.length = 0 := by decide +kernel
  unfold rowT
  rw [fold_len, e3]
  simp only [List.map_cons, List.map_nil, List.sum_cons, List.sum_nil, e1, e2]
  omega
theorem row_signs {cs : List Crd} {r h : Str} (o : drwOk cs) (hw : wordB h = true) : ∀ k ∈ (rowT cs r h).cps.toList, 32 ≤ k := by
  intro k hk
  unfold rowT at hk
  rcases fold_signs _ _ k hk with h0 | ⟨z, hz, h0⟩
  · have : ∀ k ∈ Str.empty.cps.toList, 32 ≤ k := by decide +kernel
    exact this k h0
  · simp only [List.mem_cons, List.not_mem_nil, or_false] at hz
    rcases hz with rfl | rfl | rfl | rfl | rfl
    · have := word_signs hw k h0
      omega
    · have : ∀ k ∈ (": " : Str).cps.toList, 32 ≤ k := by decide +kernel
      exact this k h0
    · exact told_signs o k h0
    · have : ∀ k ∈ (" " : Str).cps.toList, 32 ≤ k := by decide +kernel
      exact this k h0
    · exact word_short.2 k h0
theorem table_split {cs : List Crd} {r : Str} (o : drwOk cs) (hn : knownM cs ≠ []) : Txt.split (tableF cs r) "\n" = (knownM cs).map (rowT cs r) := by
  unfold tableF
  rw [nl_eq]
  refine split_join (by simpa using hn) fun z hz h => ?_
  obtain ⟨y, hy, rfl⟩ := List.mem_map.mp hz
  have := row_signs o (known_words o y hy) 10 h
  omega
theorem table_len {cs : List Crd} {r : Str} (o : drwOk cs) : ((knownM cs).map (rowT cs r) |>.map (·.length)).sum + ((knownM cs).map (rowT cs r)).length * ("\n" : Str).length ≤ 60000 := by
  have b := sum_le (·.length) 500 ((knownM cs).map (rowT cs r)) fun z hz => by
    obtain ⟨y, hy, rfl⟩ := List.mem_map.mp hz
    exact row_len o (known_words o y hy)
  have l := known_len o
  have e : ("\n" : Str).length = 1 := by decide +kernel
  rw [e]
  rw [List.length_map] at b ⊢
  omega
section
variable {X : Cx} {c : Cs} {Fr : Hp} {G : List (V × D)} {M : Mm} {env : En} {e v1 v2 o : Expr} {rest : List Expr} {pos p1 p2 : Pos} {z : Str} {l : Addr}
theorem v_fmt (h : Pv X c Fr G M env e (.s z)) (hz : z.length ≤ 100000) : Pv X c Fr G M env (.FormattedValue e (-1) none pos) (.s z) := fun σ H A Q q =>
  (pe_fmt we).w (h σ H A _ fun v H1 A1 i1 r => .inl ⟨z, rp_v.mp r, Nat.le_trans hz (by decide), q _ H1 A1 i1 (rp_v.mpr rfl)⟩)
/-- an f-string's parts -/
inductive Pjs (X : Cx) (c : Cs) (Fr : Hp) (G : List (V × D)) (M : Mm) (env : En) : List Expr → List Str → Prop where
  | nil : Pjs X c Fr G M env [] []
  | cons {e : Expr} {z : Str} {es : List Expr} {zs : List Str} (h : Pv X c Fr G M env e (.s z)) (r : Pjs X c Fr G M env es zs) : Pjs X c Fr G M env (e :: es) (z :: zs)
theorem pj_all : ∀ es : List Expr, PJ X es (es.map (WE X))
  | [] => .nil
  | _ :: es => .cons we (pj_all es)
theorem pjs_run {es : List Expr} {zs : List Str} (h : Pjs X c Fr G M env es zs) : ∀ (acc : Str) (σ : L2.St) (H : Hp), At c Fr G M env σ H → acc.length + (zs.map (·.length)).sum ≤ 100000 → ∀ Q : Str → Hp → Prop, (∀ H2, At c Fr G M env σ H2 → IM H H2 → Q (zs.foldl (· ++ ·) acc) H2) → tJs (es.map (WE X)) acc σ H Q := by
  induction h with
  | nil =>
    intro acc σ H A hl Q q
    exact q H A (IM.refl H)
  | cons h r ih =>
    intro acc σ H A hl Q q
    rw [List.map_cons, List.sum_cons] at hl
    refine h σ H A _ fun v H1 A1 i1 r1 => ⟨_, rp_v.mp r1, by rw [str_len]; exact Nat.le_trans (by omega) (show 100000 ≤ sizeLine by decide), ih _ σ H1 A1 (by rw [str_len]; omega) Q fun H2 A2 i2 => q H2 A2 (i1.trans i2)⟩
theorem v_joined {zs : List Str} (h : Pjs X c Fr G M env (v1 :: v2 :: rest) zs) (hl : (zs.map (·.length)).sum ≤ 100000) : Pv X c Fr G M env (.JoinedStr (v1 :: v2 :: rest) pos) (.s (zs.foldl (· ++ ·) Str.empty)) := fun σ H A Q q =>
  (pe_joined (pj_all _)).w (pjs_run h Str.empty σ H A (by rw [show Str.empty.length = 0 from rfl]; omega) _ fun H2 A2 i2 => q _ H2 A2 i2 (rp_v.mpr rfl))
/-- z.join(a list at hand) -/
theorem v_joinL {ys : List Str} (ho : Pv X c Fr G M env o (.s z)) (he : Pv X c Fr G M env e (.p l)) (hL : LsOf c Fr M l (ys.map D.s)) (hz : (ys.map (·.length)).sum + ys.length * z.length ≤ 100000)
    (hbase : attributeBase o "join" X.env (eval o X.env) = eval o X.env := by rfl)
    (hfew : ((backTo p2 (starEach (e :: []) X.env)).all (fun x => !x.1) && (backToKw p2 (keywordEach [] X.env)).all (fun x => x.1.isSome)
      && decide ((e :: ([] : List Expr)).length + ([] : List Keyword).length + (if ([] : List Keyword).isEmpty then 0 else 1) < 30)) = true := by rfl)
    (hline : (p1.endLine == p2.line) = true := by rfl) (hs : starEach (e :: []) X.env = (false, eval e X.env) :: starEach [] X.env := by rfl) (hplain : (backTo p2 (starEach [] X.env)).any (·.1) = false := by rfl) : Pv X c Fr G M env (.Call (.Attribute o "join" p1) [e] [] p2) (.s (Txt.join z ys)) :=
  Ev.pureL (e_join (Z2 := fun d M' => d = .s (Txt.join z ys) ∧ M.Sublist M') ho he.ev (fun d M1 zz => by
    obtain ⟨rfl, rfl⟩ := zz
    exact ⟨l, ys, rfl, hL, hz, rfl, List.Sublist.refl _⟩) hbase hfew hline hs hplain) fun d' M' zz => zz
end
section
variable {P : Program} {w : World} {c : Cs} {mg : Str → Option Value} {base : Heap}
def R_table : List D → D → Prop := fun ds d => ∃ (cs : List Crd) (r : Str), ds = [dDrw cs, .s r] ∧ drwOk cs ∧ ruleOk r ∧ d = .s (tableF cs r)
theorem nat_ints (l : List Nat) : l.map natD = (l.map fun n : Nat => (n : Int)).map D.i := by rw [List.map_map]; rfl
theorem ok_table (T : Tx c mg) : FnAt P w c.K mg base "table" 9 (spD c R_table) := by
  refine T.d_table.at_ fun f fd F => fnD F sc_table (fun _ _ _ _ _ _ us hl => match us, hl with | [_, _], _ => rfl) (fun ds d h => ?_) 6 rfl fun cdv A0 outer s H0 E ds d σ hr h A Q q => ?_
  · obtain ⟨cs, r, rfl, _⟩ := h
    rfl
  · obtain ⟨cs, r, rfl, o, hr1, rfl⟩ := h
    have h16 := o.1
    have kl := known_len o
    refine x_exp (v_call (ok_check_rule T) hr (a_cons (v_var 1) a_nil) ⟨r, rfl, hr1, rfl⟩).ev A fun d M' H1 z A1 => ?_
    obtain ⟨rfl, rfl⟩ := z
    refine x_setL 2 sc_table.nd (l_lst a_nil) A1 fun l σ2 H2 A2 => ?_
    refine x_for rfl PassesOwn.never (fun i M' env' => ∃ o1 o2 o3 o4 : Option D, M' = [(l, Ob.lst ((((knownM cs).take i).map (rowT cs r)).map D.s))] ∧ env' = [some (dDrw cs), some (.s r), some (.p l), o1, o2, o3, o4, none]) (i_new rfl (l_callL [] (ok_known T) hr (a_cons (v_var 0) a_nil) ⟨cs, rfl, rfl, o, rfl⟩ (fun p hp => nomatch hp))) A2 ⟨none, none, none, none, rfl, rfl⟩ (fun i d M' env' Fr' Gx hd hI hE => ?_) (fun M' env' σ' H' hI A' => ?_)
    · obtain ⟨o1, o2, o3, o4, rfl, rfl⟩ := hI
      rw [List.getElem?_map] at hd
      obtain ⟨h, hh, rfl⟩ := Option.map_eq_some_iff.mp hd
      have hw := known_words o h (List.mem_of_getElem? hh)
      have wl := (word_len hw).2
      refine ⟨_, _, g_name 3 sc_table.nd, fun σ3 H3 A3 => ?_⟩
      refine x_tup (v_call (ok_walk T) hr (a_cons (v_var 0) (a_cons (v_var 1) (a_cons (v_var 3) a_nil))) ⟨cs, r, h, rfl, h16, hr1, hw, rfl⟩) (g_tup rfl rfl (gs_cons (g_name 4 sc_table.nd) (gs_cons (g_name 5 sc_table.nd) gs_nil))) A3 fun σ4 H4 A4 => ?_
      have tl := told_len (r := r) (h := h) o
      refine x_set 6 sc_table.nd (v_if (k := !decide ((walked cs r h).2.steps = [])) (d := .s (toldF (walked cs r h).2.steps)) (Pt.is (t_cmp (op_neD hr.units) (v_var 5) (v_tup a_nil) (rv_neD (p := .tuple (((walked cs r h).2.steps.map fun n : Nat => (n : Int)).map PyData.int)) (q := .tuple (([] : List Int).map PyData.int)) (by rw [nat_ints]; exact py_ints _) py_none (sh_ints _).ed sh_none.ed)) (by rw [eqv_ints]; congr 1; rw [decide_eq_decide]; simp)) (fun b => ?_) fun b => ?_) A4 fun σ5 H5 A5 => ?_
      · have hne : ¬ (walked cs r h).2.steps = [] := by
          rw [Bool.not_eq_true'] at b
          exact of_decide_eq_false b
        refine Pv.is (v_joinN (z := ">") (ys := (walked cs r h).2.steps.map fun n : Nat => strI (n : Int)) v_str (Pl.is (l_lc [("place", 7)] (walked cs r h).2.steps natD (fun _ => true) (fun n => .s (strI (n : Int))) rfl sc_table.nd (i_tup rfl (v_var 5)) (blkOk_by (N := N_table) (sc := defScope st_table) (by decide +kernel)) (by have := walked_len (cs := cs) (r := r) (h := h); omega) ?_) ?_) ?_) ?_
        · intro n hn acc Fr2 Gx2 Dl e
          refine ⟨_, _, fun s H C cl fp => g_name 7 sc_table.nd, fun j hj => hj, fun s H C cl fp => n_nil, fun _ s H C cl fp => v_cT call_str_int boot_str T.n_str (a_cons (v_var 7) a_nil) (fun H xs Q rr k => ?_)⟩
          obtain ⟨u, r2, rfl, h1, h2⟩ := rpl_cons.mp rr
          rw [rpl_nil.mp h2, rp_v.mp h1]
          refine ⟨(n : Int), rfl, ?_, k _ H (Ex.refl H) (rp_v.mpr rfl)⟩
          have h3 := walked_lt n hn
          have : (n : Int).natAbs.log2 < 10 := by
            by_cases hz : (n : Int).natAbs = 0
            · rw [hz]
              decide
            · exact (Nat.log2_lt hz).mpr (by omega)
          omega
        · rw [filter_yes, List.map_map]
          rfl
        · have b2 := sum_le (·.length) 3 ((walked cs r h).2.steps.map fun n : Nat => strI (n : Int)) fun z hz => by
            obtain ⟨k, hk, rfl⟩ := List.mem_map.mp hz
            have := walked_lt k hk
            exact strN_len (by omega)
          have e : (">" : Str).length = 1 := by decide +kernel
          have l2 := walked_len (cs := cs) (r := r) (h := h)
          rw [e]
          rw [List.length_map] at b2 ⊢
          omega
        · unfold toldF
          rw [if_neg hne]
      · have he : (walked cs r h).2.steps = [] := by
          rw [Bool.not_eq_false'] at b
          exact of_decide_eq_true b
        refine Pv.is v_str ?_
        unfold toldF
        rw [if_pos he]
      · have ws := (word_short (cs := cs) (r := r) (h := h)).1
        refine x_app 0 (ds := (((knownM cs).take i).map (rowT cs r)).map D.s) (d := .s (rowT cs r h)) rfl (v_var 2) (v_joined (.cons (v_fmt (v_var 3) (by omega)) (.cons v_str (.cons (v_fmt (v_var 6) (by omega)) (.cons v_str (.cons (v_fmt (v_var 4) (by omega)) .nil))))) ?_) A5 (by rw [List.length_map, List.length_map, List.length_take]; omega) fun H6 A6 => x_nil ⟨_, _, ⟨_, _, _, _, ?_, rfl⟩, A6⟩
        · have e1 : (": " : Str).length = 2 := by decide +kernel
          have e2 : (" " : Str).length = 1 := by decide +kernel
          simp only [List.map_cons, List.map_nil, List.sum_cons, List.sum_nil, e1, e2]
          omega
        · rw [List.take_add_one, hh, List.map_append, List.map_append]
          rfl
    · obtain ⟨o1, o2, o3, o4, rfl, rfl⟩ := hI
      rw [List.length_map, List.take_length] at A'
      have tb := table_len (r := r) o
      exact x_ret (v_joinL (z := "\n") (ys := (knownM cs).map (rowT cs r)) v_str (v_var 2) (.inr List.mem_cons_self) (by omega)) A' fun v H2 A2 r2 => q _ _ _ _ v H2 A2 r2
end
end Sx
end
section
/-! the law's draws: _law_taken, _law_pick, _law_mixed -/
set_option maxRecDepth 100000
set_option maxHeartbeats 1000000
namespace Sx
open PySem PySem.Spec PyProof.Rows L2 LamX NdefX
section
variable {X : Cx} {c : Cs} {Fr H : Hp} {G : List (V × D)} {M : Mm} {env : En} {σ : L2.St} {e o ix : Expr} {p1 p2 : Pos} {l : Addr} {ds : List D} {d : D} {n : Int} {j : Nat} {D0 : Ends} {rest : List Stmt}
/-- l[n] = e -/
theorem x_lput (i : Nat) (he : Pv X c Fr G M env e d) (ho : Pv X c Fr G M env o (.p l)) (hi : Pv X c Fr G M env ix (.i n)) (A : At c Fr G M env σ H) (hn : ixN ds.length n = some j) (k : ∀ H', At c Fr G (M.set i (l, .lst (ds.set j d))) env σ H' → WB X rest D0 σ H') (hM : M[i]? = some (l, .lst ds) := by rfl)
    (hs : swapsWithSole [.Subscript o ix p1] e p2.line X.env = pure false := by rfl) (hw : swappedStores [.Subscript o ix p1] e X.env = pure none := by rfl) (h1 : (assignEach [.Subscript o ix p1] X.env).map (·.2) = [assign (.Subscript o ix p1) X.env] := by rfl)
    (hga : ∀ v, assign (.Subscript o ix p1) X.env v = (do
      let ov ← holding [v] (eval o X.env)
      let iv ← holding [v, ov] (eval ix X.env)
      standAt p1
      holding [v, ov, iv] (setItem ov iv v)
      release [v, ov, iv] []) := by intro _; rfl) : WB X (.Assign [.Subscript o ix p1] e p2 :: rest) D0 σ H :=
  x_cons ((ps_asg we (pg_sub we we set_list hga) hs hw h1).w (he σ H A _ fun v H1 A1 i1 r => ho σ H1 A1 _ fun u H2 A2 i2 r2 => hi σ H2 A2 _ fun w H3 A3 i3 r3 => by
    obtain ⟨vs, h4, h5⟩ := A3.obI hM
    have im : IM H3 (upd H3 l (.lst (vs.set j v))) := A3.imI hM
    refine ⟨l, vs, n, j, rp_v.mp r2, rp_v.mp r3, h4, by rw [h5.len]; exact hn, k _ (A3.mutI hM ⟨_, upd_same, RpL.im im ?_⟩)⟩
    have key : ∀ (ds : List D) (vs : List V) (j : Nat), RpL c H3 ds vs → RpL c H3 (ds.set j d) (vs.set j v) := by
      intro ds
      induction ds with
      | nil =>
        intro vs j h
        rw [rpl_nil.mp h]
        exact rpl_nil.mpr rfl
      | cons x xs ih =>
        intro vs j h
        obtain ⟨y, ys, rfl, a1, a2⟩ := rpl_cons.mp h
        cases j with
        | zero => exact rpl_cons.mpr ⟨v, ys, rfl, (r.im i2).im i3, a2⟩
        | succ j => exact rpl_cons.mpr ⟨y, ys.set j v, rfl, a1, ih ys j a2⟩
    exact key ds vs j h5))
theorem rv_int1 {i : Int} : RVC c (fun xs H Q => (∃ i, xs = [.int i] ∧ Q (.int i) H) ∨ ∃ k, xs = [.bl k] ∧ Q (.int (if k then 1 else 0)) H) [.i i] (.i i) := fun H xs Q r k => by
  obtain ⟨v, r2, rfl, h1, h2⟩ := rpl_cons.mp r
  rw [rpl_nil.mp h2, rp_v.mp h1]
  exact .inl ⟨i, rfl, k _ H (Ex.refl H) (rp_v.mpr rfl)⟩
end
/-- the row of draws: the script, how far, the state, what is left of a wide number -/
def RwOb (scr : Addr) (a b g : Int) : Ob := .lst [.p scr, .i a, .i b, .i g]
def RwOk (scr : Addr) (o : Ob) : Prop := ∃ a b g : Int, 0 ≤ a ∧ 0 ≤ b ∧ b < 2147483647 ∧ 0 ≤ g ∧ o = RwOb scr a b g
theorem mod_nat {x : Int} {m : Nat} (h : 0 < m) : ∃ k : Nat, k < m ∧ x % (m : Int) = (k : Int) := ⟨(x % (m : Int)).toNat, by have := Int.emod_lt_of_pos x (show (0 : Int) < m by omega); have := Int.emod_nonneg x (show (m : Int) ≠ 0 by omega); omega, by have := Int.emod_nonneg x (show (m : Int) ≠ 0 by omega); omega⟩
section
variable {P : Program} {w : World} {c : Cs} {mg : Str → Option Value} {base : Heap}
def S_taken : List D → List (Addr × List D) → Mm → (D → Mm → Prop) → Prop := fun ds L M0 Z => ∃ (rw scr : Addr) (ns : List Int) (o : Ob) (many : Nat), ds = [.p rw, natD many] ∧ L = [(scr, ns.map D.i)] ∧ M0 = [(rw, o)] ∧ RwOk scr o ∧ 0 < many ∧ many < 1073741824 ∧
  Z = fun d Mn => ∃ (k : Nat) (o' : Ob), k < many ∧ d = natD k ∧ RwOk scr o' ∧ Mn = [(rw, o')]
theorem ok_taken (T : Tx c mg) : FnAt P w c.K mg base "_law_taken" 1 (spM c S_taken) := by
  obtain ⟨hm, fd, F⟩ := T.d_law_taken
  refine ⟨_, hm, F.kp, fnM F sc_law_taken (fun _ _ _ _ _ _ us hl => match us, hl with | [_, _], _ => rfl) rfl (fun ds L M0 Z h => ?_) 2 rfl fun cdv A0 outer s H0 Fr E ds L M0 Z σ hr h hL A Q q => ?_⟩
  · obtain ⟨rw, scr, ns, o, many, rfl, _⟩ := h
    rfl
  · obtain ⟨rw, scr, ns, o, many, rfl, rfl, rfl, ⟨a, b, g, ha, hb, hb2, hg, rfl⟩, hm0, hm1, rfl⟩ := h
    have hls := hL (scr, ns.map D.i) List.mem_cons_self
    have hmi : (0 : Int) < (many : Int) := by omega
    have wide : ∀ x : Int, (-(2 ^ 64 : Int) < x) ∧ x < 2 ^ 64 → CMul x 48271 := fun x h => .inl h
    refine x_if (k := decide ((0 : Int) < g)) (Pt.is (t_cmp op_gt (v_ixL (ds := [.p scr, .i a, .i b, .i g]) (d := .i g) rfl (v_var 0) (.inr List.mem_cons_self) v_int rfl) v_int rv_I0) rfl) A (fun hk H1 A1 => ?_) fun hk H1 A1 => x_nil ?_
    · refine x_set 2 sc_law_taken.nd (v_op op_mod (v_cT call_int1 boot_int T.n_int (a_cons (v_ixL (ds := [.p scr, .i a, .i b, .i g]) (d := .i g) rfl (v_var 0) (.inr List.mem_cons_self) v_int rfl) a_nil) rv_int1) (v_var 1) (rv_I hmi)) A1 fun σ2 H2 A2 => ?_
      refine x_lput 0 (ds := [.p scr, .i a, .i b, .i g]) (j := 3) (v_op op_fdiv (v_ixL (ds := [.p scr, .i a, .i b, .i g]) (d := .i g) rfl (v_var 0) (.inr List.mem_cons_self) v_int rfl) (v_var 1) (rv_I ⟨hmi, by omega⟩)) (v_var 0) v_int A2 rfl fun H3 A3 => ?_
      obtain ⟨k, hk1, hk2⟩ := mod_nat (x := g) hm0
      refine x_ret (Pv.is (v_var 2) (d' := natD k) (by rw [hk2]; rfl)) A3 fun v H' A' r => q _ _ _ _ _ v H' ⟨k, _, hk1, rfl, ⟨a, b, g / (many : Int), ha, hb, hb2, Int.ediv_nonneg hg (by omega), rfl⟩, rfl⟩ A' r
    · have g0 : g = 0 := by
        have := of_decide_eq_false hk
        omega
      refine x_lput 0 (ds := [.p scr, .i a, .i b, .i g]) (j := 1) (v_op op_add (v_ixL (ds := [.p scr, .i a, .i b, .i g]) (d := .i a) rfl (v_var 0) (.inr List.mem_cons_self) v_int rfl) v_int rv_I0) (v_var 0) v_int A1 rfl fun H2 A2 => ?_
      have hscr : ∀ (M : Mm), LsOf c Fr M scr (ns.map D.i) := fun M => .inl hls
      have hlen : (ns.map D.i).length = ns.length := List.length_map _
      refine x_if (k := decide (((ns.map D.i).length : Int) < a + 1)) (Pt.is (t_cmp op_gt (v_ixL (ds := [.p scr, .i (a + 1), .i b, .i g]) (d := .i (a + 1)) rfl (v_var 0) (.inr List.mem_cons_self) v_int rfl) (v_lenL T.n_len rfl (v_ixL (ds := [.p scr, .i (a + 1), .i b, .i g]) (d := .p scr) rfl (v_var 0) (.inr List.mem_cons_self) v_int rfl) (hscr _)) rv_I0) rfl) A2 (fun hk2 H3 A3 => ?_) fun hk2 H3 A3 => x_nil ?_
      · have h2 : 0 ≤ (b * 48271 + 11) % 2147483647 ∧ (b * 48271 + 11) % 2147483647 < 2147483647 := by omega
        refine x_lput 0 (ds := [.p scr, .i (a + 1), .i b, .i g]) (j := 2) (v_op op_mod (v_cT call_int1 boot_int T.n_int (a_cons (v_op op_add (v_op op_mul (v_ixL (ds := [.p scr, .i (a + 1), .i b, .i g]) (d := .i b) rfl (v_var 0) (.inr List.mem_cons_self) v_int rfl) v_int (rv_I (wide b (by omega)))) v_int rv_I0) a_nil) rv_int1) v_int (rv_I (by omega))) (v_var 0) v_int A3 rfl fun H4 A4 => ?_
        obtain ⟨k, hk1, hk2⟩ := mod_nat (x := (b * 48271 + 11) % 2147483647 / 7) hm0
        refine x_ret (Pv.is (v_op op_mod (v_cT call_int1 boot_int T.n_int (a_cons (v_op op_fdiv (v_ixL (ds := [.p scr, .i (a + 1), .i ((b * 48271 + 11) % 2147483647), .i g]) (d := .i ((b * 48271 + 11) % 2147483647)) rfl (v_var 0) (.inr List.mem_cons_self) v_int rfl) v_int (rv_I ⟨by omega, by omega⟩)) a_nil) rv_int1) (v_var 1) (rv_I hmi)) (d' := natD k) (by rw [hk2]; rfl)) A4 fun v H' A' r => q _ _ _ _ _ v H' ⟨k, _, hk1, rfl, ⟨a + 1, _, g, by omega, h2.1, h2.2, hg, rfl⟩, rfl⟩ A' r
      · have hal : a.toNat < ns.length := by
          have := of_decide_eq_false hk2
          rw [hlen] at this
          omega
        have hcell : (ns.map D.i)[a.toNat]? = some (D.i ns[a.toNat]) := by rw [List.getElem?_map, List.getElem?_eq_getElem hal]; rfl
        let cell : Int := ns[a.toNat]
        refine x_set 3 sc_law_taken.nd (v_ixL (ds := ns.map D.i) (d := .i cell) rfl (v_ixL (ds := [.p scr, .i (a + 1), .i b, .i g]) (d := .p scr) rfl (v_var 0) (.inr List.mem_cons_self) v_int rfl) (hscr _) (Pv.is (v_op op_sub (v_ixL (ds := [.p scr, .i (a + 1), .i b, .i g]) (d := .i (a + 1)) rfl (v_var 0) (.inr List.mem_cons_self) v_int rfl) v_int rv_I0) (d' := .i ((a.toNat : Nat) : Int)) (by congr 2; omega)) (atI_nat hcell)) A3 fun σ4 H4 A4 => ?_
        have h2 : 0 ≤ (b * 48271 + cell + 11) % 2147483647 ∧ (b * 48271 + cell + 11) % 2147483647 < 2147483647 := by omega
        refine x_lput 0 (ds := [.p scr, .i (a + 1), .i b, .i g]) (j := 2) (v_op op_mod (v_cT call_int1 boot_int T.n_int (a_cons (v_op op_add (v_op op_add (v_op op_mul (v_ixL (ds := [.p scr, .i (a + 1), .i b, .i g]) (d := .i b) rfl (v_var 0) (.inr List.mem_cons_self) v_int rfl) v_int (rv_I (wide b (by omega)))) (v_var 3) rv_I0) v_int rv_I0) a_nil) rv_int1) v_int (rv_I (by omega))) (v_var 0) v_int A4 rfl fun H5 A5 => ?_
        refine x_lput 0 (ds := [.p scr, .i (a + 1), .i ((b * 48271 + cell + 11) % 2147483647), .i g]) (j := 3) (v_if (k := decide ((10 : Int) ^ 18 ≤ cell)) (d := .i (if (10 : Int) ^ 18 ≤ cell then cell / (many : Int) else 0)) (Pt.is (t_cmp op_ge (v_var 3) (v_op op_pow v_int v_int (rv_I ⟨by omega, by omega, by decide⟩)) rv_I0) rfl) (fun hc => ?_) fun hc => ?_) (v_var 0) v_int A5 rfl fun H6 A6 => ?_
        · refine Pv.is (v_op op_fdiv (v_var 3) (v_var 1) (rv_I ⟨hmi, by omega⟩)) ?_
          rw [if_pos (of_decide_eq_true hc)]
        · refine Pv.is v_int ?_
          rw [if_neg (of_decide_eq_false hc)]
        · obtain ⟨k, hk1, hk2⟩ := mod_nat (x := cell) hm0
          refine x_ret (Pv.is (v_op op_mod (v_cT call_int1 boot_int T.n_int (a_cons (v_var 3) a_nil) rv_int1) (v_var 1) (rv_I hmi)) (d' := natD k) (by rw [hk2]; rfl)) A6 fun v H' A' r => q _ _ _ _ _ v H' ⟨k, _, hk1, rfl, ⟨a + 1, _, _, by omega, h2.1, h2.2, ?_, rfl⟩, rfl⟩ A' r
          split
          · rename_i hc
            exact Int.ediv_nonneg (Int.le_trans (by decide) hc) (by omega)
          · exact Int.le_refl 0
end
end Sx
end
section
/-! _law_pick, _law_mixed -/
set_option maxRecDepth 100000
set_option maxHeartbeats 1000000
namespace Sx
open PySem PySem.Spec PyProof.Rows L2 LamX NdefX
section
variable {X : Cx} {c : Cs} {Fr : Hp} {G : List (V × D)} {M : Mm} {env : En} {a b : Expr} {pos : Pos} {l : Addr}
/-- l[..], the index with effects -/
theorem e_ixL {Z0 Z2 : D → Mm → Prop} (hK : X.K = c.K) (ha : Pv X c Fr G M env a (.p l)) (hb : Ev X c Fr G M env b Z0) (h : ∀ d M1, Z0 d M1 → ∃ (n : Int) (ds : List D) (d' : D), d = .i n ∧ LsOf c Fr M1 l ds ∧ atI ds n = some d' ∧ Z2 d' M1) (hs : PlainIx b := by exact fun _ _ => rfl) : Ev X c Fr G M env (.Subscript a b pos) Z2 := fun σ H A Q q =>
  (pe_ix ix_list we we hs).w (ha σ H A _ fun v H1 A1 i1 r => hb σ H1 A1 _ fun d M1 u H2 z A2 i2 r2 => by
    obtain ⟨n, ds, d', rfl, hl, hat, z2⟩ := h d M1 z
    obtain ⟨xs, h1, h2⟩ := A2.ls hl
    obtain ⟨j, h3, h4, h5, h6, h7⟩ := atI_get hat
    obtain ⟨y, h8, h9⟩ := h2.get h4
    refine ⟨l, xs, n, y, rp_v.mp r, rp_v.mp r2, .inl h1, ?_, q d' M1 y H2 z2 A2 (i1.trans i2) h9⟩
    unfold atI at hat ⊢
    rw [h2.len]
    cases e : ixN ds.length n with
    | none =>
      rw [e] at hat
      cases hat
    | some k =>
      obtain ⟨z1, _⟩ := ixN_seq e
      rw [h3] at z1
      cases z1
      exact h8)
end
/-- data that == takes -/
def FlatL (n : Nat) (xs : List D) : Prop := ∀ d ∈ xs, ∃ p, pyOf d = some p ∧ Sh n p
theorem flat_py {n : Nat} : ∀ {xs : List D}, FlatL n xs → ∃ ps, pyAll xs = some ps ∧ (∀ p ∈ ps, Sh n p) ∧ ps.length = xs.length
  | [], _ => ⟨[], by simp only [pyAll], (fun p hp => nomatch hp), rfl⟩
  | x :: xs, h => by
    obtain ⟨p, hp, hs⟩ := h x List.mem_cons_self
    obtain ⟨ps, h1, h2, h3⟩ := flat_py (xs := xs) fun d hd => h d (List.mem_cons_of_mem _ hd)
    refine ⟨p :: ps, by simp only [pyAll, hp, h1], fun q hq => ?_, by rw [List.length_cons, h3, List.length_cons]⟩
    rcases List.mem_cons.mp hq with rfl | hq
    · exact hs
    · exact h2 q hq
theorem eqv_nil (ps : List PyData) : PyData.eqvAll ps [] = decide (ps = []) := by
  cases ps <;> simp [PyData.eqvAll]
theorem FlatL.sub {n : Nat} {xs ys : List D} (h : FlatL n xs) (s : ∀ d ∈ ys, d ∈ xs) : FlatL n ys := fun d hd => h d (s d hd)
section
variable {X : Cx} {c : Cs} {Fr : Hp} {G : List (V × D)} {M : Mm} {env : En} {a : Expr} {pos p2 : Pos} {l : Addr} {n : Nat}
/-- a list compared with [] -/
theorem t_neNil {m : Nat} {ds : List D} (hK : X.K = c.K) (hr : Room n X.A) (ha : Pv X c Fr G M env a (.p l)) (hl : LsOf c Fr M l ds) (hf : FlatL m ds) (hm : m < 60) : Pt X c Fr G M env (.Compare a [.NotEq] [.List [] p2] pos) (!decide (ds = [])) := by
  obtain ⟨ps, h1, h2, h3⟩ := flat_py hf
  refine Pt.is (t_neL (ds := ds) (es' := []) (ps := ps) (qs := []) hK hr ha hl (l_lst a_nil) h1 (by simp only [pyAll]) ((sh_lst h2).ed (by omega)) ((sh_lst (n := 0) (xs := []) fun x hx => nomatch hx).ed) ) ?_
  rw [eqv_nil]
  congr 1
  rw [decide_eq_decide]
  constructor
  · rintro rfl
    exact List.eq_nil_of_length_eq_zero h3.symm
  · rintro rfl
    exact List.eq_nil_of_length_eq_zero h3
end
section
variable {P : Program} {w : World} {c : Cs} {mg : Str → Option Value} {base : Heap}
def S_pick : List D → List (Addr × List D) → Mm → (D → Mm → Prop) → Prop := fun ds L M0 Z => ∃ (rw scr l : Addr) (ns : List Int) (o : Ob) (xs : List D), ds = [.p rw, .p l] ∧ L = [(scr, ns.map D.i), (l, xs)] ∧ M0 = [(rw, o)] ∧ RwOk scr o ∧ 0 < xs.length ∧ xs.length ≤ 1000 ∧
  Z = fun d Mn => ∃ o', d ∈ xs ∧ RwOk scr o' ∧ Mn = [(rw, o')]
theorem ok_pick (T : Tx c mg) : FnAt P w c.K mg base "_law_pick" 2 (spM c S_pick) := by
  obtain ⟨hm, fd, F⟩ := T.d_law_pick
  refine ⟨_, hm, F.kp, fnM F sc_law_pick (fun _ _ _ _ _ _ us hl => match us, hl with | [_, _], _ => rfl) rfl (fun ds L M0 Z h => ?_) 0 rfl fun cdv A0 outer s H0 Fr E ds L M0 Z σ hr h hL A Q q => ?_⟩
  · obtain ⟨rw, scr, l, ns, o, xs, rfl, _⟩ := h
    rfl
  · obtain ⟨rw, scr, l, ns, o, xs, rfl, rfl, rfl, hro, h0, h1, rfl⟩ := h
    have hls := hL (scr, ns.map D.i) List.mem_cons_self
    have hlx := hL (l, xs) (List.mem_cons_of_mem _ List.mem_cons_self)
    refine x_retE (e_ixL (Z0 := fun d M1 => ∃ (k : Nat) (o' : Ob), k < xs.length ∧ d = natD k ∧ RwOk scr o' ∧ M1 = [(rw, o')]) (Z2 := fun d M1 => ∃ o', d ∈ xs ∧ RwOk scr o' ∧ M1 = [(rw, o')]) rfl (v_var 1) (e_call (L := [(scr, ns.map D.i)]) (Mr := []) (ok_taken T) hr (a_cons (v_var 0) (a_cons (v_lenL T.n_len rfl (v_var 1) (.inl hlx)) a_nil)) (List.Perm.refl _) ⟨rw, scr, ns, o, xs.length, rfl, rfl, rfl, hro, h0, by omega, rfl⟩ (fun p hp => by
      rw [List.mem_singleton.mp hp]
      exact .inl hls) (fun d Mn z => by
      obtain ⟨k, o', a1, a2, a3, a4⟩ := z
      exact ⟨k, o', a1, a2, a3, by rw [a4]; rfl⟩)) (fun d M1 z => ?_)) A fun d M' v H' z A' i' r => q _ _ _ _ _ v H' z A' r
    obtain ⟨k, o', a1, rfl, a3, rfl⟩ := z
    exact ⟨(k : Int), xs, xs[k], rfl, .inl hlx, atI_nat (List.getElem?_eq_getElem a1), o', List.getElem_mem a1, a3, rfl⟩
def S_mixed : List D → List (Addr × List D) → Mm → (D → Mm → Prop) → Prop := fun ds L M0 Z => ∃ (rw scr l : Addr) (ns : List Int) (o : Ob) (xs : List D), ds = [.p rw, .p l] ∧ L = [(scr, ns.map D.i), (l, xs)] ∧ M0 = [(rw, o)] ∧ RwOk scr o ∧ FlatL 3 xs ∧ xs.length ≤ 1000 ∧
  Z = fun d Mn => ∃ (p : Addr) (ys : List D) (o' : Ob), d = .p p ∧ ys.Perm xs ∧ RwOk scr o' ∧ Mn = [(p, .lst ys), (rw, o')]
theorem ok_mixed (T : Tx c mg) : FnAt P w c.K mg base "_law_mixed" 2 (spM c S_mixed) := by
  obtain ⟨hm, fd, F⟩ := T.d_law_mixed
  refine ⟨_, hm, F.kp, fnM F sc_law_mixed (fun _ _ _ _ _ _ us hl => match us, hl with | [_, _], _ => rfl) rfl (fun ds L M0 Z h => ?_) 2 rfl fun cdv A0 outer s H0 Fr E ds L M0 Z σ hr h hL A Q q => ?_⟩
  · obtain ⟨rw, scr, l, ns, o, xs, rfl, _⟩ := h
    rfl
  · obtain ⟨rw, scr, l, ns, o, xs, rfl, rfl, rfl, hro, hf, h1, rfl⟩ := h
    have hls := hL (scr, ns.map D.i) List.mem_cons_self
    have hlx := hL (l, xs) (List.mem_cons_of_mem _ List.mem_cons_self)
    refine x_parE (i := 2) (j := 3) (Z := fun ds M' => ∃ l1 l2, ds = [.p l1, .p l2] ∧ M' = [(l2, .lst []), (l1, .lst xs), (rw, o)]) rfl sc_law_mixed.nd (by decide) (ea_l (l_listL T.n_list rfl (v_var 1) (.inl hlx)) fun l1 => ea_l (l_lst a_nil) fun l2 => ea_nil ⟨l1, l2, rfl, rfl⟩) A fun ds M' z => ?_
    obtain ⟨l1, l2, rfl, rfl⟩ := z
    refine ⟨_, _, rfl, fun σ1 H1 A1 => ?_⟩
    refine x_while PassesOwn.never (fun m M' env' => ∃ (ys zs : List D) (o' : Ob), ys.length = m ∧ (zs ++ ys).Perm xs ∧ RwOk scr o' ∧ M' = [(l2, .lst zs), (l1, .lst ys), (rw, o')] ∧ env' = [some (.p rw), some (.p l), some (.p l1), some (.p l2)]) xs.length A1 ⟨xs, [], o, rfl, List.Perm.refl _, hro, rfl, rfl⟩ (fun m M' env' hI => ?_)
    obtain ⟨ys, zs, o', hm, hp, hro', rfl, rfl⟩ := hI
    have hlen := hp.length_eq
    rw [List.length_append] at hlen
    have hfy : FlatL 3 ys := hf.sub fun d hd => hp.subset (List.mem_append_right _ hd)
    refine ⟨!decide (ys = []), t_neNil (ds := ys) rfl hr (v_var 2) (.inr (List.mem_cons_of_mem _ List.mem_cons_self)) hfy (by decide), fun b σ2 H2 A2 => ?_, fun b σ2 H2 A2 => ?_⟩
    · have hne : ys ≠ [] := by
        rw [Bool.not_eq_true'] at b
        exact of_decide_eq_false b
      have hpos : 0 < ys.length := List.length_pos_iff.mpr hne
      refine x_exp (e_app (Z := fun d M2 => ∃ (k : Nat) (o2 : Ob), ys[k]? = some d ∧ RwOk scr o2 ∧ M2 = [(rw, o2), (l2, .lst zs), (l1, .lst (ys.eraseIdx k))]) (Z2 := fun d M2 => ∃ (k : Nat) (o2 : Ob) (y : D), ys[k]? = some y ∧ RwOk scr o2 ∧ M2 = [(rw, o2), (l2, .lst (zs ++ [y])), (l1, .lst (ys.eraseIdx k))]) rfl (v_var 3) (.inr List.mem_cons_self) (e_popAt (y := D.n) (ys := ys) (Z0 := fun d M2 => ∃ (k : Nat) (o2 : Ob), k < ys.length ∧ d = natD k ∧ RwOk scr o2 ∧ M2 = [(rw, o2), (l2, .lst zs), (l1, .lst ys)]) (v_var 2) (.inr (List.mem_cons_of_mem _ List.mem_cons_self)) (e_call (L := [(scr, ns.map D.i)]) (M0 := [(rw, o')]) (Mr := [(l2, .lst zs), (l1, .lst ys)]) (ok_taken T) hr (a_cons (v_var 0) (a_cons (v_lenL (ds := ys) T.n_len rfl (v_var 2) (.inr (List.mem_cons_of_mem _ List.mem_cons_self))) a_nil)) (List.perm_append_comm (l₁ := [(l2, Ob.lst zs), (l1, Ob.lst ys)]) (l₂ := [(rw, o')])) ⟨rw, scr, ns, o', ys.length, rfl, rfl, rfl, hro', hpos, by omega, rfl⟩ (fun p hp => by
        rw [List.mem_singleton.mp hp]
        exact .inl hls) (fun d Mn z => by
        obtain ⟨k, o2, a1, a2, a3, a4⟩ := z
        exact ⟨k, o2, a1, a2, a3, by rw [a4]; rfl⟩)) (fun d M' z => ?_)) (fun d M' z => ?_)) A2 fun d M' H3 z A3 => ?_
      · obtain ⟨k, o2, a1, rfl, a3, rfl⟩ := z
        exact ⟨2, k, ys[k], rfl, rfl, by omega, List.getElem?_eq_getElem a1, k, o2, List.getElem?_eq_getElem a1, a3, rfl⟩
      · obtain ⟨k, o2, a1, a3, rfl⟩ := z
        exact ⟨1, zs, rfl, by omega, k, o2, d, a1, a3, rfl⟩
      · obtain ⟨k, o2, y, a1, a3, rfl⟩ := z
        have hk := (List.getElem?_eq_some_iff.mp a1).1
        refine x_nil ⟨m - 1, _, _, by omega, ⟨ys.eraseIdx k, zs ++ [y], o2, by rw [List.length_eraseIdx, if_pos hk]; omega, ?_, a3, rfl, rfl⟩, A3.perm (List.perm_append_comm (l₁ := [(rw, o2)]) (l₂ := [(l2, Ob.lst (zs ++ [y])), (l1, Ob.lst (ys.eraseIdx k))]))⟩
        rw [List.append_assoc]
        exact ((set_perm (y := y) a1).1.symm.append_left zs).trans hp
    · have he : ys = [] := by
        rw [Bool.not_eq_false'] at b
        exact of_decide_eq_true b
      subst he
      rw [List.append_nil] at hp
      exact x_ret (v_var 3) A2 fun v H' A' r => q _ _ _ _ _ v H' ⟨l2, zs, o', rfl, hp, hro', rfl⟩ (A'.less ((List.sublist_cons_self _ _).cons₂ _)) r
end
end Sx
end
section
/-! _law_drawer, _law_looked, _law_walked, _law_landing -/
set_option maxRecDepth 100000
set_option maxHeartbeats 1000000
namespace Sx
open PySem PySem.Spec PyProof.Rows L2 LamX NdefX
section
variable {X : Cx} {c : Cs} {Fr H : Hp} {G : List (V × D)} {M : Mm} {env : En} {σ : L2.St} {e e1 e2 e3 e4 : Expr} {p1 p2 : Pos} {D0 : Ends} {rest : List Stmt} {x : Str}
/-- a, b, c = x, y, z -/
theorem x_par3E {i j l : Nat} {y z : Str} {a b d : Expr} {px py pz pt pos : Pos} {kt k2 pt2} {Z : List D → Mm → Prop} (hc : X.calm = true) (hN : X.N.Nodup) (hij : i ≠ j) (hil : i ≠ l) (hjl : j ≠ l) (ha : Ea X c Fr G M env [a, b, d] Z) (A : At c Fr G M env σ H)
    (k : ∀ ds M', Z ds M' → ∃ da db dc, ds = [da, db, dc] ∧ ∀ σ' H', At c Fr G M' (((env.set i (some da)).set j (some db)).set l (some dc)) σ' H' → WB X rest D0 σ' H') (hi : X.N[i]? = some x := by rfl) (hj : X.N[j]? = some y := by rfl) (hl : X.N[l]? = some z := by rfl)
    (hx : X.env.scope.names.lookup x = some .local := by rfl) (hy : X.env.scope.names.lookup y = some .local := by rfl) (hz : X.env.scope.names.lookup z = some .local := by rfl) (hw : swappedStores [.Tuple [.Name x px, .Name y py, .Name z pz] kt pt] (.Tuple [a, b, d] k2 pt2) X.env = pure (some [x, y, z]) := by rfl)
    (hs : swapsWithSole [.Tuple [.Name x px, .Name y py, .Name z pz] kt pt] (.Tuple [a, b, d] k2 pt2) pos.line X.env = pure false := by rfl) : WB X (.Assign [.Tuple [.Name x px, .Name y py, .Name z pz] kt pt] (.Tuple [a, b, d] k2 pt2) pos :: rest) D0 σ H :=
  x_cons ((ps_par3 hc hN hi hj hl hij hil hjl hx hy hz wa hw hs).w (ha σ H A _ fun ds M' vs H' z A' _ r => by
    obtain ⟨da, db, dc, rfl, k⟩ := k ds M' z
    obtain ⟨v, r2, rfl, h1, h2⟩ := rpl_cons.mp r
    obtain ⟨u, r3, rfl, h3, h4⟩ := rpl_cons.mp h2
    obtain ⟨w, r4, rfl, h5, h6⟩ := rpl_cons.mp h4
    rw [rpl_nil.mp h6]
    exact ⟨v, u, w, rfl, k _ H' (((A'.set h1).set h3).set h5)⟩))
/-- t[:k] of a tuple that a call with effects gives -/
theorem e_takeT {k : Nat} {Z0 Z2 : D → Mm → Prop} {a : Expr} {pos : Pos} (hK : X.K = c.K) (he : Ev X c Fr G M env e Z0) (ha : ∀ M1, Pv X c Fr G M1 env a (.i (k : Int))) (h : ∀ d M1, Z0 d M1 → ∃ ds, d = .t ds ∧ Z2 (.t (ds.take k)) M1) : Ev X c Fr G M env (.Subscript e (.Slice none (some a) none p2) pos) Z2 := fun σ H A Q q =>
  (pe_slice sl_tupA we po_none (po_some we)).w (he σ H A _ fun d M1 v H1 z A1 i1 r => ha M1 σ H1 A1 _ fun u H2 A2 i2 r2 => ⟨k, rp_v.mp r2, by
    obtain ⟨ds, rfl, z2⟩ := h d M1 z
    obtain ⟨p, vs, rfl, h1, h2⟩ := rp_t.mp (r.im i2)
    refine ⟨p, vs, rfl, hK ▸ h1, fun z => ?_, fun z p hp => ?_⟩
    · refine q _ _ _ H2 z2 A2 (i1.trans i2) (rp_t.mpr ⟨p, vs, rfl, h1, ?_⟩)
      have z1 := z.2
      rw [HT.sIx_nat] at z1
      have hl := h2.len
      rw [List.take_of_length_le (by omega)]
      exact h2
    · rw [cut_take]
      exact q _ _ _ _ z2 (A2.ex (Ex.new hp)) ((i1.trans i2).trans (IM.new hp)) (rp_t.mpr ⟨p, _, rfl, SqT.of upd_same, (h2.take k).im (IM.new hp)⟩)⟩)
/-- Card(a, books=b, see=s, also=t) -/
theorem v_mkCard {j : Nat} {r : Crd} {k1 k2 k3 : Pos} (T : Tx c X.mg) (hK : X.K = c.K) (hr : Room j X.A) (h1 : Pv X c Fr G M env e1 (.s r.h)) (h2 : Pv X c Fr G M env e2 (.t (r.b.map D.i))) (h3 : Pv X c Fr G M env e3 (.s r.s)) (h4 : Pv X c Fr G M env e4 (.t (r.a.map D.s))) (o : r.Ok) (hj : 4 ≤ j := by decide) (hg : Gl X "Card" := by rfl)
    (hst : starEach (e1 :: []) X.env = (false, eval e1 X.env) :: starEach [] X.env := by rfl)
    (hall : (backToKw p2 (keywordEach [⟨some "books", e2, k1⟩, ⟨some "see", e3, k2⟩, ⟨some "also", e4, k3⟩] X.env)).all (·.1.isSome) = true := by rfl) (hks : (backToKw p2 (keywordEach [⟨some "books", e2, k1⟩, ⟨some "see", e3, k2⟩, ⟨some "also", e4, k3⟩] X.env)).filterMap (·.1) = (["books", "see", "also"] : List Str) := by rfl)
    (hpl : ((backTo p2 (starEach (e1 :: []) X.env)).any (·.1) || (backToKw p2 (keywordEach [⟨some "books", e2, k1⟩, ⟨some "see", e3, k2⟩, ⟨some "also", e4, k3⟩] X.env)).any (·.1.isNone)) = false := by rfl) :
    Pv X c Fr G M env (.Call (.Name "Card" p1) [e1] [⟨some "books", e2, k1⟩, ⟨some "see", e3, k2⟩, ⟨some "also", e4, k3⟩] p2) (dCard r) := fun σ H A Q q => by
  obtain ⟨g, fd, dvs, mk, hd, F, FO⟩ := ok_Card_init (P := X.prog) (w := X.w) (base := X.base) T
  obtain ⟨its, kb⟩ := F.kbindsD (ps := ["self", "heading", "books", "see", "also"]) 2 (["books", "see", "also"] : List Str) (fun us _ ws => us ++ ws) (fun z => by rw [z] at hd; cases hd) (fun r1 _ r3 => r1.append r3) (fun T kV doc pm an cdv ct us its ws l1 l2 l3 => by
    rw [hd] at l2
    match us, its, ws, l1, l2, l3 with
    | [_, _], [_, _, _], [_, _, _], _, _, _ => exact ⟨_, rfl, by with_unfolding_all rfl⟩)
  rw [← hK] at mk kb FO
  refine (pe_makeN (E := fun _ _ _ => False) (n := 1) mk FO (hr.mono hj) hg T.g_Card kb (fun _ _ _ _ _ _ _ h => h.elim) (pa_cons we pa_nil hst) (pk_cons we (pk_cons we (pk_cons we pk_nil))) hall hks (by decide) hst hpl).w ?_
  refine h1 σ H A _ fun v1 H1 A1 i1 r1 => h2 σ H1 A1 _ fun v2 H2 A2 i2 r2 => h3 σ H2 A2 _ fun v3 H3 A3 i3 r3 => h4 σ H3 A3 _ fun v4 H4 A4 i4 r4 => ⟨rfl, rfl, ?_⟩
  exact mk_slot (k := true) (R := R_Card) (d := cardD r) (vs := [v1, v2, v3, v4]) A4 (rpl_cons.mpr ⟨v1, _, rfl, r1.im ((i2.trans i3).trans i4), rpl_cons.mpr ⟨v2, _, rfl, r2.im (i3.trans i4), rpl_cons.mpr ⟨v3, _, rfl, r3.im i4, RpL.one r4⟩⟩⟩) ⟨r, rfl, o, rfl⟩ fun v H5 A5 i5 rv => q v H5 A5 ((((i1.trans i2).trans i3).trans i4).trans i5) rv
end
section
variable {P : Program} {w : World} {c : Cs} {mg : Str → Option Value} {base : Heap}
def R_lawdrawer : List D → List (Addr × List D) → D → Prop := fun ds L d => ∃ (l : Addr) (cs : List Crd), ds = [.p l] ∧ L = [(l, cs.map cardD)] ∧ drwOk cs ∧ d = dDrw cs
theorem ok_lawdrawer (T : Tx c mg) : FnAt P w c.K mg base "_law_drawer" 5 (spR c R_lawdrawer) := by
  refine T.d_law_drawer.at_ fun f fd F => fnMR F sc_law_drawer (fun _ _ _ _ _ _ us hl => match us, hl with | [_], _ => rfl) (fun ds L d h => ?_) 1 rfl fun cdv A0 outer s H0 Fr E ds L d σ hr h hL A Q q => ?_
  · obtain ⟨l, cs, rfl, _⟩ := h
    rfl
  · obtain ⟨l, cs, rfl, rfl, o, rfl⟩ := h
    have hls := hL (l, cs.map cardD) List.mem_cons_self
    refine x_ret (v_make (k := false) rfl (ok_Drawer T) hr (a_cons (v_tupN T.n_tuple rfl (Pl.is (l_lc [("_law_one", 1)] cs cardD (fun _ => true) dCard rfl sc_law_drawer.nd (i_lst rfl (v_var 0) hls) (blkOk_by (N := N_law_drawer) (sc := defScope st_law_drawer) (by decide +kernel)) (by have := o.1; omega) ?_) (by rw [filter_yes]))) a_nil) ⟨cs, rfl, o.1, rfl⟩) A fun v H' A' r => q _ _ _ _ v H' A' r
    intro r hr1 acc Fr' Gx Dl e
    exact ⟨_, _, fun s H C cl fp => g_name 1 sc_law_drawer.nd, fun j hj => hj, fun s H C cl fp => n_nil, fun _ s H C cl fp => v_mkCard T rfl hr (v_ixT rfl (v_var 1) v_int rfl) (v_ixT rfl (v_var 1) v_int rfl) (v_ixT rfl (v_var 1) v_int rfl) (v_ixT rfl (v_var 1) v_int rfl) (o.2 r hr1)⟩
def R_lawlooked : List D → List (Addr × List D) → D → Prop := fun ds L d => ∃ (l : Addr) (cs : List Crd) (r h : Str), ds = [.p l, .s r, .s h] ∧ L = [(l, cs.map cardD)] ∧ cs.length ≤ 16 ∧ ruleOk r ∧ d = lkD (looked r (cs.map (·.h)) h)
theorem ok_lawlooked (T : Tx c mg) : FnAt P w c.K mg base "_law_looked" 1 (spR c R_lawlooked) := by
  refine T.d_law_looked.at_ fun f fd F => fnMR F sc_law_looked (fun _ _ _ _ _ _ us hl => match us, hl with | [_, _, _], _ => rfl) (fun ds L d h => ?_) 5 rfl fun cdv A0 outer s H0 Fr E ds L d σ hr h hL A Q q => ?_
  · obtain ⟨l, cs, r, h, rfl, _⟩ := h
    rfl
  · obtain ⟨l, cs, r, h, rfl, rfl, h16, hrule, rfl⟩ := h
    have hls := hL (l, cs.map cardD) List.mem_cons_self
    have ll : (cs.map (·.h)).length = cs.length := List.length_map _
    have lD : (cs.map cardD).length = cs.length := List.length_map _
    unfold looked at q
    rw [ll] at q
    generalize et : lk (isHalf r) (isAll r) (cs.map (·.h)) h (cs.length + 1) 0 cs.length [] = tgt at q
    refine x_par3E (i := 3) (j := 4) (l := 5) (Z := fun ds M' => ∃ p, ds = [.p p, natD 0, natD cs.length] ∧ M' = [(p, .lst [])]) rfl sc_law_looked.nd (by decide) (by decide) (by decide) (ea_l (l_lst a_nil) fun p => ea_v v_int (ea_v (v_lenL T.n_len rfl (v_var 0) (.inl hls)) (ea_nil ⟨p, by rw [lD]; rfl, rfl⟩))) A fun ds M' z => ?_
    obtain ⟨p, rfl, rfl⟩ := z
    refine ⟨_, _, _, rfl, fun σ1 H1 A1 => ?_⟩
    refine x_for rfl PassesOwn.never (fun i M' env' => ∃ (m : List Nat) (lo hi : Nat) (o6 o7 : Option D), M' = [(p, .lst (m.map natD))] ∧ env' = [some (.p l), some (.s r), some (.s h), some (.p p), some (natD lo), some (natD hi), o6, o7] ∧ hi ≤ cs.length ∧ m.length ≤ i ∧ lk (isHalf r) (isAll r) (cs.map (·.h)) h (cs.length + 1 - i) lo hi m = tgt) (i_rng (n := cs.length + 1) T.n_range (a_cons (Pv.is (v_op op_add (v_lenL T.n_len rfl (v_var 0) (.inl hls)) v_int rv_I0) (by rw [lD]; rfl)) a_nil) (by omega)) A1 ⟨[], 0, cs.length, none, none, rfl, rfl, Nat.le_refl _, Nat.le_refl _, et⟩ (fun i d M' env' Fr' Gx hd hI hE => ?_) (fun M' env' σ' H' hI A' => ?_)
    · obtain ⟨m, lo, hi, o6, o7, rfl, rfl, hhi, hml, e⟩ := hI
      have hil : i < cs.length + 1 := by
        have := (List.getElem?_eq_some_iff.mp hd).1
        simpa using this
      refine ⟨_, _, g_name 6 sc_law_looked.nd, fun σ2 H2 A2 => ?_⟩
      have back : ∀ {M env σ v H'}, At c Fr' (Gx ++ []) M env σ H' → Rp c H' (lkD tgt) v → Q v H' := fun {M env σ v H'} B r => q _ _ _ _ v H' (B.back (G := []) hE fun p hp => nomatch hp) r
      have en : cs.length + 1 - i = (cs.length + 1 - (i + 1)) + 1 := by omega
      rw [en] at e
      unfold lk at e
      refine x_if (k := decide (hi ≤ lo)) (Pt.is (t_cmp op_ge (v_var 4) (v_var 5) rv_I0) (by rw [decide_eq_decide]; omega)) A2 (fun b H3 A3 => ?_) fun b H3 A3 => x_nil ?_
      · rw [if_pos (of_decide_eq_true b)] at e
        refine x_ret (v_tup (a_cons v_non (a_cons (v_tupL T.n_tuple rfl (v_var 3) (.inr List.mem_cons_self)) a_nil))) A3 fun v H' A' r => back A' ?_
        rw [← e]
        exact r
      · have hlt := of_decide_eq_false b
        rw [if_neg hlt] at e
        dsimp only at e
        let here : Nat := if isHalf r = true then (lo + hi - 1) / 2 else lo
        have hh : here < cs.length := by
          show (if isHalf r = true then (lo + hi - 1) / 2 else lo) < cs.length
          split <;> omega
        refine x_set 7 sc_law_looked.nd (v_if (k := isHalf r) (d := natD here) (Pt.is (t_cmp op_eq (v_var 1) v_str rv_eq) (by rw [dec_str]; rfl)) (fun b2 => ?_) fun b2 => ?_) A3 fun σ4 H4 A4 => ?_
        · refine Pv.is (v_op op_fdiv (v_op op_sub (v_op op_add (v_var 4) (v_var 5) rv_I0) v_int rv_I0) v_int (rv_I ⟨by omega, by omega⟩)) ?_
          show D.i (((lo : Int) + (hi : Int) - 1) / 2) = D.i (((if isHalf r = true then (lo + hi - 1) / 2 else lo : Nat)) : Int)
          rw [if_pos b2]
          congr 1
          omega
        · refine Pv.is (v_var 4) ?_
          show natD lo = natD (if isHalf r = true then (lo + hi - 1) / 2 else lo)
          rw [b2]
          rfl
        · have hrow : (cs.map cardD)[here]? = some (cardD cs[here]) := by rw [List.getElem?_map, List.getElem?_eq_getElem hh]; rfl
          have hls' := hls.ex hE
          refine x_app 0 (ds := m.map natD) (d := natD here) rfl (v_var 3) (v_var 7) A4 (by rw [List.length_map]; omega) fun H5 A5 => ?_
          have em : m.map natD ++ [natD here] = (m ++ [here]).map natD := by rw [List.map_append]; rfl
          rw [em] at A5
          have e' : (if (cs.map (·.h)).getD here ("" : Str) = h then (some here, m ++ [here]) else if (ltS h ((cs.map (·.h)).getD here ("" : Str)) && !isAll r) = true then lk (isHalf r) (isAll r) (cs.map (·.h)) h (cs.length + 1 - (i + 1)) lo (if isHalf r = true then here else lo) (m ++ [here]) else lk (isHalf r) (isAll r) (cs.map (·.h)) h (cs.length + 1 - (i + 1)) (here + 1) hi (m ++ [here])) = tgt := e
          rw [getD_map hh] at e'
          refine x_if (k := decide (cs[here].h = h)) (Pt.is (t_cmp op_eq (v_ixT rfl (v_ixL rfl (v_var 0) (.inl hls') (v_var 7) (atI_nat hrow)) v_int rfl) (v_var 2) rv_eq) (by rw [dec_str])) A5 (fun b3 H6 A6 => ?_) fun b3 H6 A6 => x_nil ?_
          · rw [if_pos (of_decide_eq_true b3)] at e'
            refine x_ret (v_tup (a_cons (v_var 7) (a_cons (v_tupL T.n_tuple rfl (v_var 3) (.inr List.mem_cons_self)) a_nil))) A6 fun v H' A' r => back A' ?_
            rw [← e']
            exact r
          · rw [if_neg (of_decide_eq_false b3)] at e'
            refine x_if (k := ltS h cs[here].h && !isAll r) (o_t (o_and (t_cmp op_gt_str (v_ixT rfl (v_ixL rfl (v_var 0) (.inl hls') (v_var 7) (atI_nat hrow)) v_int rfl) (v_var 2) rv_gtS) fun _ => o_and1 (Pt.is (t_cmp op_ne (v_var 1) v_str rv_ne) (by rw [dec_str]; rfl)))) A6 (fun b4 H7 A7 => ?_) fun b4 H7 A7 => ?_
            · rw [if_pos b4] at e'
              refine x_set 5 sc_law_looked.nd (v_if (k := isHalf r) (d := natD (if isHalf r = true then here else lo)) (Pt.is (t_cmp op_eq (v_var 1) v_str rv_eq) (by rw [dec_str]; rfl)) (fun b2 => Pv.is (v_var 7) (by rw [if_pos b2])) fun b2 => Pv.is (v_var 4) (by rw [b2]; rfl)) A7 fun σ8 H8 A8 => ?_
              have hle : (if isHalf r = true then here else lo) ≤ cs.length := by
                split <;> omega
              exact x_nil (x_nil ⟨_, _, ⟨m ++ [here], lo, _, _, _, rfl, rfl, hle, by rw [List.length_append]; simp only [List.length_cons, List.length_nil]; omega, e'⟩, A8⟩)
            · rw [if_neg (by rw [b4]; exact Bool.false_ne_true)] at e'
              refine x_set 4 sc_law_looked.nd (Pv.is (v_op op_add (v_var 7) v_int rv_I0) (d' := natD (here + 1)) rfl) A7 fun σ8 H8 A8 => ?_
              exact x_nil (x_nil ⟨_, _, ⟨m ++ [here], here + 1, hi, _, _, rfl, rfl, hhi, by rw [List.length_append]; simp only [List.length_cons, List.length_nil]; omega, e'⟩, A8⟩)
    · obtain ⟨m, lo, hi, o6, o7, rfl, rfl, hhi, hml, e⟩ := hI
      have e0 : cs.length + 1 - ((List.range (cs.length + 1)).map fun (i : Nat) => D.i (i : Int)).length = 0 := by simp
      rw [e0] at e
      unfold lk at e
      refine x_ret (v_tup (a_cons v_non (a_cons (v_tupL T.n_tuple rfl (v_var 3) (.inr List.mem_cons_self)) a_nil))) A' fun v H' A' r => q _ _ _ _ v H' A' ?_
      rw [← e]
      exact r
end
end Sx
end
section
/-! _law_walked, _law_landing, _law_known, _law_headings -/
set_option maxRecDepth 100000
set_option maxHeartbeats 1000000
namespace Sx
open PySem PySem.Spec PyProof.Rows L2 LamX NdefX
section
variable {X : Cx} {c : Cs} {Fr : Hp} {G : List (V × D)} {M : Mm} {env : En} {a b : Expr} {pos : Pos} {l : Addr} {xs ys : List D}
/-- two lists that were just made, one behind the other -/
theorem l_cat2 (ha : Pl X c Fr G M env a xs) (hb : ∀ z, Pl X c Fr G (z :: M) env b ys) (hz : xs.length + ys.length ≤ 100000) : Pl X c Fr G M env (.BinOp a .Add b pos) (xs ++ ys) := fun σ H A Q q =>
  (pe_op op_cat we we).w (ha σ H A _ fun l1 H1 A1 i1 => hb _ σ H1 A1 _ fun l2 H2 A2 i2 => by
    obtain ⟨us, h1, h2⟩ := A2.obI (i := 1) rfl
    obtain ⟨ws, h3, h4⟩ := A2.obI (i := 0) rfl
    refine ⟨l1, l2, us, ws, rfl, rfl, h1, h3, by rw [h2.len, h4.len]; exact Nat.le_trans hz (by decide), fun p hp => q p _ ?_ ((i1.trans i2).trans (IM.new hp))⟩
    have B := A2.new (o := .lst (xs ++ ys)) hp (Ex.new hp) ⟨_, upd_same, (h2.app h4).im (IM.new hp)⟩
    exact B.less ((((List.Sublist.refl M).cons _).cons _).cons₂ _))
/-- one's own list and a new one -/
theorem l_catL (ha : Pv X c Fr G M env a (.p l)) (hl : (l, Ob.lst xs) ∈ M) (hb : Pl X c Fr G M env b ys) (hz : xs.length + ys.length ≤ 100000) : Pl X c Fr G M env (.BinOp a .Add b pos) (xs ++ ys) := fun σ H A Q q =>
  (pe_op op_cat we we).w (ha σ H A _ fun v H1 A1 i1 r => hb σ H1 A1 _ fun l2 H2 A2 i2 => by
    obtain ⟨us, h1, h2⟩ := (A2.ob _ (List.mem_cons_of_mem _ hl)).2
    obtain ⟨ws, h3, h4⟩ := A2.obI (i := 0) rfl
    refine ⟨l, l2, us, ws, rp_v.mp r, rfl, h1, h3, by rw [h2.len, h4.len]; exact Nat.le_trans hz (by decide), fun p hp => q p _ ?_ ((i1.trans i2).trans (IM.new hp))⟩
    have B := A2.new (o := .lst (xs ++ ys)) hp (Ex.new hp) ⟨_, upd_same, (h2.app h4).im (IM.new hp)⟩
    exact B.less (((List.Sublist.refl M).cons _).cons₂ _))
end
section
variable {P : Program} {w : World} {c : Cs} {mg : Str → Option Value} {base : Heap}
def walkD (p : Str × Wst) (so : Addr) : D := .t [.s p.1, .t (p.2.steps.map natD), natD p.2.cnt, .p so]
def S_lawwalked : List D → List (Addr × List D) → Mm → (D → Mm → Prop) → Prop := fun ds L M0 Z => ∃ (l : Addr) (cs : List Crd) (r h : Str), ds = [.p l, .s r, .s h] ∧ L = [(l, cs.map cardD)] ∧ M0 = [] ∧ cs.length ≤ 16 ∧ ruleOk r ∧
  Z = fun d Mn => ∃ so, d = walkD (walked cs r h) so ∧ Mn = [(so, .lst ((walked cs r h).2.sought.map D.s))]
theorem ok_lawwalked (T : Tx c mg) : FnAt P w c.K mg base "_law_walked" 2 (spM c S_lawwalked) := by
  obtain ⟨hm, fd, F⟩ := T.d_law_walked
  refine ⟨_, hm, F.kp, fnM F sc_law_walked (fun _ _ _ _ _ _ us hl => match us, hl with | [_, _, _], _ => rfl) rfl (fun ds L M0 Z h => ?_) 6 rfl fun cdv A0 outer s H0 Fr E ds L M0 Z σ hr h hL A Q q => ?_⟩
  · obtain ⟨l, cs, r, h, rfl, _⟩ := h
    rfl
  · obtain ⟨l, cs, r, h, rfl, rfl, rfl, h16, hrule, rfl⟩ := h
    have hls := hL (l, cs.map cardD) List.mem_cons_self
    unfold walked at q
    generalize et : wk cs r 99 h ⟨[], 0, []⟩ = tgt at q
    refine x_par3E (i := 3) (j := 4) (l := 5) (Z := fun ds M' => ∃ st so, ds = [.p st, natD 0, .p so] ∧ M' = [(so, .lst []), (st, .lst [])]) rfl sc_law_walked.nd (by decide) (by decide) (by decide) (ea_l (l_lst a_nil) fun st => ea_v v_int (ea_l (l_lst a_nil) fun so => ea_nil ⟨st, so, rfl, rfl⟩)) A fun ds M' z => ?_
    obtain ⟨st, so, rfl, rfl⟩ := z
    refine ⟨_, _, _, rfl, fun σ1 H1 A1 => ?_⟩
    refine x_for rfl PassesOwn.never (fun i M' env' => ∃ (h' : Str) (ws : Wst) (o6 o7 o8 : Option D), M' = [(so, .lst (ws.sought.map D.s)), (st, .lst (ws.steps.map natD))] ∧ env' = [some (.p l), some (.s r), some (.s h'), some (.p st), some (natD ws.cnt), some (.p so), o6, o7, o8] ∧ ws.sought.length ≤ i ∧ ws.steps.length ≤ i ∧ wk cs r (99 - i) h' ws = tgt) (i_rng (n := 99) T.n_range (a_cons v_int a_nil) (by omega)) A1 ⟨h, ⟨[], 0, []⟩, none, none, none, rfl, rfl, Nat.le_refl _, Nat.le_refl _, et⟩ (fun i d M' env' Fr' Gx hd hI hE => ?_) (fun M' env' σ' H' hI A' => ?_)
    · obtain ⟨h', ws, o6, o7, o8, rfl, rfl, z1, z2, e⟩ := hI
      have hil : i < 99 := by
        have := (List.getElem?_eq_some_iff.mp hd).1
        simpa using this
      refine ⟨_, _, g_name 6 sc_law_walked.nd, fun σ2 H2 A2 => ?_⟩
      have back : ∀ {ws' : Wst} {wd : Str} {env σ v H'}, (wd, ws') = tgt → At c Fr' (Gx ++ []) [(so, .lst (ws'.sought.map D.s)), (st, .lst (ws'.steps.map natD))] env σ H' → Rp c H' (walkD (wd, ws') so) v → Q v H' := fun {ws' wd env σ v H'} e B r => q _ [] _ _ _ v H' ⟨so, rfl, rfl⟩ ((B.back (G := []) hE fun p hp => nomatch hp).less (e ▸ ((List.nil_sublist _).cons₂ _))) (e ▸ r)
      have en : 99 - i = (99 - (i + 1)) + 1 := by omega
      rw [en] at e
      unfold wk at e
      generalize eg : goOn cs r h' ws = g at e
      unfold goOn at eg
      have ret : ∀ (z : Str) (cnt : Nat) (ss : List D) (M : Mm), True := fun _ _ _ _ => True.intro
      refine x_if (Pt.is (t_inL (xs := ws.sought.map V.str) rfl (v_var 2) (v_var 5) (.inr (by rw [← strs_v]; exact List.mem_cons_self)) rfl (all_strs _)) (inV_str h' ws.sought)) A2 (fun b H3 A3 => ?_) fun b H3 A3 => x_nil ?_
      · rw [if_pos (of_decide_eq_true b)] at eg
        subst eg
        exact x_ret (v_tup (a_cons v_str (a_cons (v_tupL T.n_tuple rfl (v_var 3) (.inr (List.mem_cons_of_mem _ List.mem_cons_self))) (a_cons (v_var 4) (a_cons (v_var 5) a_nil))))) A3 fun v H' A' r => back (wd := "ring") e A' r
      · rw [if_neg (of_decide_eq_false b)] at eg
        dsimp only at eg
        refine x_app 0 (ds := ws.sought.map D.s) rfl (v_var 5) (v_var 2) A3 (by rw [List.length_map]; omega) fun H4 A4 => ?_
        have ap : ws.sought.map D.s ++ [D.s h'] = (ws.sought ++ [h']).map D.s := by rw [List.map_append]; rfl
        rw [ap] at A4
        refine x_tup (v_callR [(l, cs.map cardD)] (ok_lawlooked T) hr (a_cons (v_var 0) (a_cons (v_var 1) (a_cons (v_var 2) a_nil))) ⟨l, cs, r, h', rfl, rfl, h16, hrule, rfl⟩ (fun p hp => by
          rw [List.mem_singleton.mp hp]
          exact .inl (hls.ex hE))) (g_tup rfl rfl (gs_cons (g_name 7 sc_law_walked.nd) (gs_cons (g_name 8 sc_law_walked.nd) gs_nil))) A4 fun σ5 H5 A5 => ?_
        have hk : ∀ k, (looked r (cs.map (·.h)) h').1 = some k → k < cs.length := fun k e => by
          have := looked_ok e
          rw [List.length_map] at this
          exact this
        generalize looked r (cs.map (·.h)) h' = p at eg A5 hk
        obtain ⟨pl, met⟩ := p
        refine x_set 4 sc_law_walked.nd (Pv.is (v_op op_add (v_var 4) (v_lenT T.n_len rfl (v_var 8)) rv_I0) (d' := natD (ws.cnt + met.length)) (by rw [List.length_map]; unfold natD; congr 2)) A5 fun σ6 H6 A6 => ?_
        cases pl with
        | none =>
          dsimp only at eg
          subst eg
          refine x_if (k := true) (t_cmp op_isN (v_var 7) v_non rv_isN) A6 (fun _ H7 A7 => ?_) (fun h => nomatch h)
          exact x_ret (v_tup (a_cons v_str (a_cons (v_tupL T.n_tuple rfl (v_var 3) (.inr (List.mem_cons_of_mem _ List.mem_cons_self))) (a_cons (v_var 4) (a_cons (v_var 5) a_nil))))) A7 fun v H' A' r => back (wd := "lost") e A' r
        | some k =>
          have hk := hk k rfl
          dsimp only at eg
          rw [List.getElem?_eq_getElem hk] at eg
          dsimp only at eg
          refine x_if (k := false) (t_cmp op_isN (v_var 7) v_non rv_isN) A6 (fun h => nomatch h) fun _ H7 A7 => x_nil ?_
          refine x_app 1 (ds := ws.steps.map natD) rfl (v_var 3) (v_var 7) A7 (by rw [List.length_map]; omega) fun H8 A8 => ?_
          have ap2 : ws.steps.map natD ++ [natD k] = (ws.steps ++ [k]).map natD := by rw [List.map_append]; rfl
          have ap3 : ws.steps.map natD ++ [optD (some k)] = (ws.steps ++ [k]).map natD := ap2
          rw [ap3] at A8
          have hrow : (cs.map cardD)[k]? = some (cardD cs[k]) := by rw [List.getElem?_map, List.getElem?_eq_getElem hk]; rfl
          have hls' := hls.ex hE
          refine x_if (k := decide (cs[k].s = ("" : Str))) (Pt.is (t_cmp op_eq (v_ixT rfl (v_ixL rfl (v_var 0) (.inl hls') (v_var 7) (atI_nat hrow)) v_int rfl) v_str rv_eq) (by rw [dec_str])) A8 (fun b H9 A9 => ?_) fun b H9 A9 => x_nil ?_
          · rw [if_pos (of_decide_eq_true b)] at eg
            subst eg
            exact x_ret (v_tup (a_cons v_str (a_cons (v_tupL T.n_tuple rfl (v_var 3) (.inr (List.mem_cons_of_mem _ List.mem_cons_self))) (a_cons (v_var 4) (a_cons (v_var 5) a_nil))))) A9 fun v H' A' r => back (wd := "entry") e A' r
          · rw [if_neg (of_decide_eq_false b)] at eg
            subst eg
            dsimp only at e
            refine x_set 2 sc_law_walked.nd (v_ixT rfl (v_ixL rfl (v_var 0) (.inl hls') (v_var 7) (atI_nat hrow)) v_int rfl) A9 fun σ10 H10 A10 => ?_
            exact x_nil ⟨_, _, ⟨cs[k].s, ⟨ws.steps ++ [k], ws.cnt + met.length, ws.sought ++ [h']⟩, _, _, _, rfl, rfl, by simp; omega, by simp; omega, e⟩, A10⟩
    · obtain ⟨h', ws, o6, o7, o8, rfl, rfl, z1, z2, e⟩ := hI
      have e0 : 99 - ((List.range 99).map fun (i : Nat) => D.i (i : Int)).length = 0 := by simp
      rw [e0] at e
      unfold wk at e
      subst e
      exact x_ret (v_tup (a_cons v_str (a_cons (v_tupL T.n_tuple rfl (v_var 3) (.inr (List.mem_cons_of_mem _ List.mem_cons_self))) (a_cons (v_var 4) (a_cons (v_var 5) a_nil))))) A' fun v H' A2 r => q _ _ _ _ _ v H' ⟨so, rfl, rfl⟩ (A2.less ((List.nil_sublist _).cons₂ _)) r
def R_lawlanding : List D → List (Addr × List D) → D → Prop := fun ds L d => ∃ (l : Addr) (cs : List Crd) (r h : Str), ds = [.p l, .s r, .s h] ∧ L = [(l, cs.map cardD)] ∧ cs.length ≤ 16 ∧ ruleOk r ∧ d = .t [.s (walked cs r h).1, optD (landOf (walked cs r h))]
theorem ok_lawlanding (T : Tx c mg) : FnAt P w c.K mg base "_law_landing" 3 (spR c R_lawlanding) := by
  refine T.d_law_landing.at_ fun f fd F => fnMR F sc_law_landing (fun _ _ _ _ _ _ us hl => match us, hl with | [_, _, _], _ => rfl) (fun ds L d h => ?_) 2 rfl fun cdv A0 outer s H0 Fr E ds L d σ hr h hL A Q q => ?_
  · obtain ⟨l, cs, r, h, rfl, _⟩ := h
    rfl
  · obtain ⟨l, cs, r, h, rfl, rfl, h16, hrule, rfl⟩ := h
    have hls := hL (l, cs.map cardD) List.mem_cons_self
    refine x_tupE (Z := fun d M' => d = .t [.s (walked cs r h).1, .t ((walked cs r h).2.steps.map natD)] ∧ ∃ so, M' = [(so, Ob.lst ((walked cs r h).2.sought.map D.s))]) (e_takeT (k := 2) (Z0 := fun d M' => ∃ so, d = walkD (walked cs r h) so ∧ M' = [(so, Ob.lst ((walked cs r h).2.sought.map D.s))]) rfl (e_call (L := [(l, cs.map cardD)]) (M0 := []) (Mr := []) (ok_lawwalked T) hr (a_cons (v_var 0) (a_cons (v_var 1) (a_cons (v_var 2) a_nil))) (List.Perm.refl _) ⟨l, cs, r, h, rfl, rfl, rfl, h16, hrule, rfl⟩ (fun p hp => by
      rw [List.mem_singleton.mp hp]
      exact .inl hls) (fun d Mn z => by
      obtain ⟨so, a1, a2⟩ := z
      exact ⟨so, a1, by rw [a2]; rfl⟩)) (fun M1 => v_int) fun d M1 z => ?_) A fun d M' z => ?_
    · obtain ⟨so, rfl, rfl⟩ := z
      exact ⟨_, rfl, rfl, so, rfl⟩
    · obtain ⟨rfl, so, rfl⟩ := z
      refine ⟨_, _, g_tup rfl rfl (gs_cons (g_name 3 sc_law_landing.nd) (gs_cons (g_name 4 sc_law_landing.nd) gs_nil)), fun σ2 H2 A2 => ?_⟩
      have hen := walked_entry (cs := cs) (r := r) (h := h)
      refine x_ret (v_tup (a_cons (v_var 3) (a_cons (v_if (k := decide ((walked cs r h).1 = ("entry" : Str))) (d := optD (landOf (walked cs r h))) (Pt.is (t_cmp op_eq (v_var 3) v_str rv_eq) (by rw [dec_str])) (fun b => ?_) fun b => ?_) a_nil))) A2 fun v H' A' r => q _ _ _ _ v H' A' r
      · have b1 := of_decide_eq_true b
        obtain ⟨k, hv⟩ := Option.isSome_iff_exists.mp (List.getLast?_isSome.mpr (hen b1))
        obtain ⟨ys, hy⟩ := List.getLast?_eq_some_iff.mp hv
        refine Pv.is (v_ixT (ds := (walked cs r h).2.steps.map natD) (d := natD k) rfl (v_var 4) (v_neg v_int) (by rw [hy, List.map_append]; exact atI_last _ _)) ?_
        unfold landOf
        rw [if_pos b1, hv]
        rfl
      · refine Pv.is v_non ?_
        unfold landOf
        rw [if_neg (of_decide_eq_false b)]
        rfl
def R_lawheadings : List D → List (Addr × List D) → List D → Prop := fun ds L ys => ∃ (l : Addr) (cs : List Crd), ds = [.p l] ∧ L = [(l, cs.map cardD)] ∧ cs.length ≤ 16 ∧ ys = (sortS (cs.map (·.h))).map D.s
theorem ok_lawheadings (T : Tx c mg) : FnAt P w c.K mg base "_law_headings" 1 (spL c R_lawheadings) := by
  refine T.d_law_headings.at_ fun f fd F => fnML F sc_law_headings (fun _ _ _ _ _ _ us hl => match us, hl with | [_], _ => rfl) (fun ds L d h => ?_) 1 rfl fun cdv A0 outer s H0 Fr E ds L ys σ hr h hL A Q q => ?_
  · obtain ⟨l, cs, rfl, _⟩ := h
    rfl
  · obtain ⟨l, cs, rfl, rfl, h16, rfl⟩ := h
    have hls := hL (l, cs.map cardD) List.mem_cons_self
    refine x_retL (l_sortSetS (ns := cs.map (·.h)) rfl T.n_sorted T.n_set rfl (Pl.is (l_lc [("_law_one", 1)] cs cardD (fun _ => true) (fun r => .s r.h) rfl sc_law_headings.nd (i_lst rfl (v_var 0) hls) (blkOk_by (N := N_law_headings) (sc := defScope st_law_headings) (by decide +kernel)) (by omega) ?_) ?_) (by rw [List.length_map]; unfold scanBound; omega)) A fun l2 H2 A2 => q _ _ _ _ l2 H2 A2 List.mem_cons_self
    · intro r hr1 acc Fr' Gx Dl e
      exact ⟨_, _, fun s H C cl fp => g_name 1 sc_law_headings.nd, fun j hj => hj, fun s H C cl fp => n_nil, fun _ s H C cl fp => v_ixT rfl (v_var 1) v_int rfl⟩
    · rw [filter_yes, List.map_map]
      rfl
def oneKnown (r : Crd) : List Str := [r.h] ++ (if r.s ≠ ("" : Str) then [r.s] else []) ++ r.a
def R_lawknown : List D → List (Addr × List D) → List D → Prop := fun ds L ys => ∃ (l : Addr) (cs : List Crd), ds = [.p l] ∧ L = [(l, cs.map cardD)] ∧ drwOk cs ∧ ys = (sortS (cs.flatMap oneKnown)).map D.s
theorem oneKnown_len {r : Crd} (o : r.Ok) : (oneKnown r).length ≤ 6 := by
  have := o.a.1
  unfold oneKnown
  split <;> (simp only [List.length_append, List.length_cons, List.length_nil]; omega)
theorem ok_lawknown (T : Tx c mg) : FnAt P w c.K mg base "_law_known" 1 (spL c R_lawknown) := by
  refine T.d_law_known.at_ fun f fd F => fnML F sc_law_known (fun _ _ _ _ _ _ us hl => match us, hl with | [_], _ => rfl) (fun ds L d h => ?_) 5 rfl fun cdv A0 outer s H0 Fr E ds L ys σ hr h hL A Q q => ?_
  · obtain ⟨l, cs, rfl, _⟩ := h
    rfl
  · obtain ⟨l, cs, rfl, rfl, o, rfl⟩ := h
    have h16 := o.1
    have hls := hL (l, cs.map cardD) List.mem_cons_self
    refine x_setL 1 sc_law_known.nd (l_lst a_nil) A fun f0 σ1 H1 A1 => ?_
    refine x_for rfl PassesOwn.never (fun i M' env' => ∃ (fa : Addr) (o2 o3 o4 o5 : Option D), M' = [(fa, .lst (((cs.take i).flatMap oneKnown).map D.s))] ∧ env' = [some (.p l), some (.p fa), o2, o3, o4, o5]) (i_lst rfl (v_var 0) hls) A1 ⟨f0, none, none, none, none, rfl, rfl⟩ (fun i d M' env' Fr' Gx hd hI hE => ?_) (fun M' env' σ' H' hI A' => ?_)
    · obtain ⟨fa, o2, o3, o4, o5, rfl, rfl⟩ := hI
      rw [List.getElem?_map] at hd
      obtain ⟨r, hr1, rfl⟩ := Option.map_eq_some_iff.mp hd
      have ro := o.2 r (List.mem_of_getElem? hr1)
      have f1 : ((cs.take i).flatMap oneKnown).length ≤ (cs.take i).length * 6 := flat_len fun x hx => oneKnown_len (o.2 x (List.mem_of_mem_take hx))
      have f2 : (cs.take i).length ≤ cs.length := by rw [List.length_take]; omega
      have a4 := ro.a.1
      refine ⟨_, _, g_tup rfl rfl (gs_cons (g_name 2 sc_law_known.nd) (gs_cons (g_name 3 sc_law_known.nd) (gs_cons (g_name 4 sc_law_known.nd) (gs_cons (g_name 5 sc_law_known.nd) gs_nil)))), fun σ2 H2 A2 => ?_⟩
      refine x_setL 1 sc_law_known.nd (ds := (((cs.take i).flatMap oneKnown ++ oneKnown r)).map D.s) (Pl.is (l_cat2 (xs := ((cs.take i).flatMap oneKnown).map D.s ++ [.s r.h] ++ (if r.s ≠ ("" : Str) then [r.s] else []).map D.s) (ys := r.a.map D.s) (l_cat2 (xs := ((cs.take i).flatMap oneKnown).map D.s ++ [.s r.h]) (l_catL (v_var 1) List.mem_cons_self (l_lst (a_cons (v_var 2) a_nil)) (by simp only [List.length_map, List.length_cons, List.length_nil]; omega)) (fun z => l_if (k := !decide (r.s = ("" : Str))) (Pt.is (t_cmp op_ne (v_var 4) v_str rv_ne) (by rw [dec_str])) (fun b => ?_) fun b => ?_) ?_) (fun z => l_listT T.n_list rfl (v_var 5)) ?_) ?_) A2 fun fb σ3 H3 A3 => ?_
      · have b1 : r.s ≠ ("" : Str) := by simpa using b
        rw [if_pos b1]
        exact l_lst (a_cons (v_var 4) a_nil)
      · have b1 : ¬ r.s ≠ ("" : Str) := by simpa using b
        rw [if_neg b1]
        exact l_lst a_nil
      · split <;> (simp only [List.length_append, List.length_map, List.length_cons, List.length_nil]; omega)
      · split <;> (simp only [List.length_append, List.length_map, List.length_cons, List.length_nil]; omega)
      · unfold oneKnown
        simp only [List.map_append, List.append_assoc]
        rfl
      · refine x_nil ⟨_, _, ⟨fb, _, _, _, _, ?_, rfl⟩, A3.less ((List.nil_sublist _).cons₂ _)⟩
        rw [flat_take hr1]
    · obtain ⟨fa, o2, o3, o4, o5, rfl, rfl⟩ := hI
      rw [List.length_map, List.take_length] at A'
      have f1 : (cs.flatMap oneKnown).length ≤ cs.length * 6 := flat_len fun x hx => oneKnown_len (o.2 x hx)
      exact x_retL (l_sortSetSL (ns := cs.flatMap oneKnown) rfl T.n_sorted T.n_set rfl (v_var 1) (.inr List.mem_cons_self) (by unfold scanBound; omega)) A' fun l2 H2 A2 => q _ _ _ _ l2 H2 A2 List.mem_cons_self
end
end Sx
end
section
/-! _law_gathered -/
set_option maxRecDepth 100000
set_option maxHeartbeats 1000000
namespace Sx
open PySem PySem.Spec PyProof.Rows L2 LamX NdefX
def byWayD {α : Type} (way : Str) (rest hints : List α) : List α := if way = ("broad" : Str) then rest ++ hints else if way = ("deep" : Str) then hints ++ rest else hints
theorem putK_keys {kvs : List (Key × V)} {k : Key} {y : V} (h : k ∈ kvs.map (·.1)) : (putK kvs k y).map (·.1) = kvs.map (·.1) := by
  have q : (kvs.any fun kv => decide (kv.1 = k)) = true := by
    obtain ⟨p, hp, e⟩ := List.mem_map.mp h
    exact List.any_eq_true.mpr ⟨p, hp, decide_eq_true e⟩
  unfold putK
  rw [if_pos q, List.map_map]
  refine List.map_congr_left fun p _ => ?_
  show (if p.1 = k then (p.1, y) else p).1 = p.1
  split <;> rfl
section
variable {X : Cx} {c : Cs} {Fr H : Hp} {G : List (V × D)} {M : Mm} {env : En} {σ : L2.St} {a b e f o i v1 v2 v3 : Expr} {pos p1 p2 q1 q2 q3 : Pos} {j1 j2 j3 : Nat} {l l1 l2 : Addr} {xs ys ds : List D}
/-- two lists at hand, one behind the other -/
theorem l_catLL (ha : Pv X c Fr G M env a (.p l1)) (h1 : (l1, Ob.lst xs) ∈ M) (hb : Pv X c Fr G M env b (.p l2)) (h2 : (l2, Ob.lst ys) ∈ M) (hz : xs.length + ys.length ≤ 100000) : Pl X c Fr G M env (.BinOp a .Add b pos) (xs ++ ys) := fun σ H A Q q =>
  (pe_op op_cat we we).w (ha σ H A _ fun v H1 A1 i1 r => hb σ H1 A1 _ fun u H2 A2 i2 r2 => by
    obtain ⟨us, k1, k2⟩ := (A2.ob _ h1).2
    obtain ⟨ws, k3, k4⟩ := (A2.ob _ h2).2
    exact ⟨l1, l2, us, ws, rp_v.mp r, rp_v.mp r2, k1, k3, by rw [k2.len, k4.len]; exact Nat.le_trans hz (by decide), fun p hp => q p _ (A2.new hp (Ex.new hp) ⟨_, upd_same, (k2.app k4).im (IM.new hp)⟩) ((i1.trans i2).trans (IM.new hp))⟩)
/-- {} in a display -/
theorem e_dict0 : Ev X c Fr G M env (.Dict [] [] pos) (fun d M' => ∃ l, d = .p l ∧ M' = (l, dicV []) :: M) := fun σ H A Q q =>
  pe_dnewK.w fun l hl => q (.p l) _ _ _ ⟨l, rfl, rfl⟩ (A.new hl (Ex.new hl) (dic_at.mpr upd_same)) (IM.new hl) (rp_v.mpr rfl)
/-- a list compared with [], == -/
theorem t_eqNil {m n : Nat} (hK : X.K = c.K) (hr : Room n X.A) (ha : Pv X c Fr G M env a (.p l)) (hl : LsOf c Fr M l ds) (hf : FlatL m ds) (hm : m < 60) (hmk : behindInMarks .Eq (.List [] p2) = false := by exact nomark _) : Pt X c Fr G M env (.Compare a [.Eq] [.List [] p2] pos) (decide (ds = [])) := by
  obtain ⟨ps, h1, h2, h3⟩ := flat_py hf
  have key : PyData.eqvAll ps [] = decide (ds = []) := by
    rw [eqv_nil, decide_eq_decide]
    constructor
    · rintro rfl
      exact List.eq_nil_of_length_eq_zero h3.symm
    · rintro rfl
      exact List.eq_nil_of_length_eq_zero h3
  intro σ H A Q q
  refine (pt_cmpR (op_eqD hr.units) we we hmk).w (ha σ H A _ fun v H1 A1 i1 r => (l_lst a_nil) σ H1 A1 _ fun l2 H2 A2 i2 => ?_)
  obtain ⟨vs, g1, g2⟩ := A2.drop1.ls hl
  obtain ⟨us, g3, g4⟩ := A2.ls (.inr List.mem_cons_self)
  refine ⟨.list ps, .list [], ?_, .lst (hK ▸ .inl g3) (hK ▸ dpAll_of (by simp only [pyAll]) g4), (sh_lst h2).ed (by omega), (sh_lst (n := 0) (xs := []) fun x hx => nomatch hx).ed, ?_⟩
  · rw [rp_v.mp r]
    exact .lst (hK ▸ .inl g1) (hK ▸ dpAll_of h1 g2)
  · rw [PyData.eqv, key]
    exact ⟨_, rfl, q H2 A2.drop1 (i1.trans i2)⟩
/-- d.get(k, x) -/
theorem v_dget2 {n : Nat} {q0 : Addr} {kvs : List (Key × V)} {k : Key} {y : V} (i0 : Nat) (hr : Room n X.A) (ho : Pv X c Fr G M env o (.p q0)) (hk : Pv X c Fr G M env e (.v (kV k))) (hv : Pv X c Fr G M env f (.v y)) (hM : M[i0]? = some (q0, dicV kvs) := by rfl) (m : M2 X o "get" p1 e f p2 := by exact ⟨rfl, rfl, rfl, rfl⟩) : Pv X c Fr G M env (.Call (.Attribute o "get" p1) [e, f] [] p2) (.v ((valV kvs k).getD y)) := fun σ H A Q q =>
  (pe_dget2 (by have := hr.units; omega) we we we m).w (ho σ H A _ fun u H1 A1 i1 r1 => ⟨q0, rp_v.mp r1, .inl ⟨kvs, .inl (dic_at.mp (A1.obI hM))⟩, hk σ H1 A1 _ fun t H2 A2 i2 r2 => hv σ H2 A2 _ fun z H3 A3 i3 r3 => by
    rw [rp_v.mp r2, rp_v.mp r3]
    exact ⟨valV kvs k, DGet.k (dic_at.mp (A3.obI hM)), q _ H3 A3 ((i1.trans i2).trans i3) (rp_v.mpr rfl)⟩⟩)
/-- {'broad': .., 'deep': .., 'straight': ..}[way] -/
theorem e_way3 {n : Nat} {lh : Addr} {M1 : Mm} {way : Str} {rest hints : List D} (hr : Room n X.A) (hw : wayOk way) (h1 : ∀ z, Pl X c Fr G (z :: (lh, .lst hints) :: M1) env v1 (rest ++ hints)) (h2 : ∀ y z, Pl X c Fr G (y :: z :: (lh, .lst hints) :: M1) env v2 (hints ++ rest)) (h3 : ∀ M, Pv X c Fr G M env v3 (.p lh)) (hi : ∀ M, Pv X c Fr G M env i (.s way)) (hs : NoSl i := by exact fun _ _ => rfl) :
    Ev X c Fr G ((lh, .lst hints) :: M1) env (.Subscript (.Dict [some (.Constant (.str "broad") j1 q1), some (.Constant (.str "deep") j2 q2), some (.Constant (.str "straight") j3 q3)] [v1, v2, v3] p1) i pos) (fun d M' => ∃ l, d = .p l ∧ M' = (l, .lst (byWayD way rest hints)) :: M1) := fun σ H A Q q => by
  refine (pe_dget (by have := hr.units; omega) (pe_disp (pps_cons pe_str we (pps_cons pe_str we (pps_cons pe_str we pps_nil))) rfl rfl (by simp) (Nat.le_of_ble_eq_true rfl)) we hs).w ?_
  intro p hp
  have A0 := A.new (o := dicV []) hp (Ex.new hp) (dic_at.mpr upd_same)
  refine h1 _ σ _ A0 _ fun l1 H1 A1 i1 => h2 _ _ σ H1 A1 _ fun l2 H2 A2 i2 => h3 _ σ H2 A2 _ fun u H3 A3 i3 r3 => ?_
  have hD := dic_at.mp (A3.obI (i := 2) rfl)
  refine ⟨hD, [(.inr "broad", .ref l1), (.inr "deep", .ref l2), (.inr "straight", .ref lh)], by rw [rp_v.mp r3]; rfl, Nat.le_of_ble_eq_true rfl, ?_⟩
  have em : mergeK [] [((.inr "broad" : Key), V.ref l1), (.inr "deep", .ref l2), (.inr "straight", .ref lh)] = [((.inr "broad" : Key), V.ref l1), (.inr "deep", .ref l2), (.inr "straight", .ref lh)] := by rfl
  rw [em]
  have A4 := A3.mutI (i := 2) (o' := dicV [((.inr "broad" : Key), V.ref l1), (.inr "deep", .ref l2), (.inr "straight", .ref lh)]) rfl (dic_at.mpr upd_same)
  have i4 : IM H3 (upd H3 p (.dK [((.inr "broad" : Key), V.ref l1), (.inr "deep", .ref l2), (.inr "straight", .ref lh)])) := A3.imI (i := 2) rfl
  have ii := ((((IM.new hp).trans i1).trans i2).trans i3).trans i4
  refine hi _ σ _ A4 _ fun t H5 A5 i5 r5 => ?_
  have hD5 := dic_at.mp (A5.obI (i := 2) rfl)
  rw [rp_v.mp r5]
  rcases hw with rfl | rfl | rfl
  · refine ⟨p, .ref l1, rfl, .inl ⟨_, .inr "broad", .inl hD5, rfl, by rfl⟩, q _ _ _ H5 ⟨l1, rfl, rfl⟩ (A5.less ?_) (ii.trans i5) (rp_v.mpr rfl)⟩
    exact (List.Sublist.cons₂ _ (((List.Sublist.refl M1).cons _).cons _)).cons _
  · refine ⟨p, .ref l2, rfl, .inl ⟨_, .inr "deep", .inl hD5, rfl, by rfl⟩, q _ _ _ H5 ⟨l2, rfl, rfl⟩ (A5.less ?_) (ii.trans i5) (rp_v.mpr rfl)⟩
    exact List.Sublist.cons₂ _ ((((List.Sublist.refl M1).cons _).cons _).cons _)
  · refine ⟨p, .ref lh, rfl, .inl ⟨_, .inr "straight", .inl hD5, rfl, by rfl⟩, q _ _ _ H5 ⟨lh, rfl, rfl⟩ (A5.less ?_) (ii.trans i5) (rp_v.mpr rfl)⟩
    exact (((List.Sublist.refl _).cons _).cons _).cons _
end
theorem byWay_map (way : Str) (rest hints : List Str) : byWayD way (rest.map D.s) (hints.map D.s) = (byWay way rest hints).map D.s := by
  unfold byWayD byWay
  split
  · rw [List.map_append]
  · split
    · rw [List.map_append]
    · rfl
/-- what the law's gathering owns -/
def LM (me vi dn ag : Addr) (g : Gst) (kv : List (Key × V)) : Mm := [(me, dicV kv), (vi, .lst (g.visited.map natD)), (dn, .lst (g.done.map D.s)), (ag, .lst (g.agenda.map D.s))]
theorem flat_words {l : List Str} (h : ∀ z ∈ l, wordB z = true) : FlatL 0 (l.map D.s) := fun d hd => by
  obtain ⟨z, hz, rfl⟩ := List.mem_map.mp hd
  exact ⟨.str z, by simp only [pyOf], sh_str 0 (lay_word (h z hz))⟩
section
variable {P : Program} {w : World} {c : Cs} {mg : Str → Option Value} {base : Heap}
def S_lawgath : List D → List (Addr × List D) → Mm → (D → Mm → Prop) → Prop := fun ds L M0 Z => ∃ (l : Addr) (cs : List Crd) (r way h : Str) (pat : Nat), ds = [.p l, .s r, .s way, .s h, natD pat] ∧ L = [(l, cs.map cardD)] ∧ M0 = [] ∧ drwOk cs ∧ ruleOk r ∧ wayOk way ∧ wordB h = true ∧ pat ≤ 99 ∧
  Z = fun d Mn => ∃ me vi kv, d = .t [.p me, .p vi, natD (gathered cs r way h pat).done.length] ∧ Mn = [(me, dicV kv), (vi, .lst ((gathered cs r way h pat).visited.map natD))] ∧ keysI kv (gathered cs r way h pat).met
theorem new_ag {c : Cs} {Fr H : Hp} {G : List (V × D)} {env : En} {σ : L2.St} {me vi dn ag ag2 : Addr} {o1 o2 o3 o4 o5 : Ob} (A : At c Fr G [(ag2, o4), (me, o1), (vi, o2), (dn, o3), (ag, o5)] env σ H) : At c Fr G [(me, o1), (vi, o2), (dn, o3), (ag2, o4)] env σ H :=
  (A.less (List.sublist_append_left [(ag2, o4), (me, o1), (vi, o2), (dn, o3)] [(ag, o5)])).perm (List.perm_append_comm (l₁ := [(ag2, o4)]) (l₂ := [(me, o1), (vi, o2), (dn, o3)]))
theorem ok_lawgath (T : Tx c mg) : FnAt P w c.K mg base "_law_gathered" 5 (spM c S_lawgath) := by
  obtain ⟨hm, fd, F⟩ := T.d_law_gathered
  refine ⟨_, hm, F.kp, fnM F sc_law_gathered (fun _ _ _ _ _ _ us hl => match us, hl with | [_, _, _, _, _], _ => rfl) rfl (fun ds L M0 Z h => ?_) 8 rfl fun cdv A0 outer s H0 Fr E ds L M0 Z σ hr h hL A Q q => ?_⟩
  · obtain ⟨l, cs, r, way, h, pat, rfl, _⟩ := h
    rfl
  · obtain ⟨l, cs, r, way, h, pat, rfl, rfl, rfl, o, hrule, hway, hw, hpat, rfl⟩ := h
    have h16 := o.1
    have hls := hL (l, cs.map cardD) List.mem_cons_self
    unfold gathered at q
    generalize et : gath cs r way pat 400 ⟨[h], [], [], []⟩ = tgt at q
    refine x_tupE (Z := fun d M' => ∃ ag dn vi me, d = .t [.p ag, .p dn, .p vi, .p me] ∧ M' = LM me vi dn ag ⟨[h], [], [], []⟩ []) (e_tup (Z := fun ds M' => ∃ ag dn vi me, ds = [.p ag, .p dn, .p vi, .p me] ∧ M' = LM me vi dn ag ⟨[h], [], [], []⟩ []) (ea_l (l_lst (a_cons (v_var 3) a_nil)) fun ag => ea_l (l_lst a_nil) fun dn => ea_l (l_lst a_nil) fun vi => ea_cons e_dict0 fun d M' z => ?_) fun ds M' z => ?_) A fun d M' z => ?_
    · obtain ⟨me, rfl, rfl⟩ := z
      exact ea_nil ⟨ag, dn, vi, me, rfl, rfl⟩
    · obtain ⟨ag, dn, vi, me, rfl, rfl⟩ := z
      exact ⟨Nat.le_of_ble_eq_true rfl, ag, dn, vi, me, rfl, rfl⟩
    obtain ⟨ag, dn, vi, me, rfl, rfl⟩ := z
    refine ⟨_, _, g_tup rfl rfl (gs_cons (g_name 5 sc_law_gathered.nd) (gs_cons (g_name 6 sc_law_gathered.nd) (gs_cons (g_name 7 sc_law_gathered.nd) (gs_cons (g_name 8 sc_law_gathered.nd) gs_nil)))), fun σ1 H1 A1 => ?_⟩
    refine x_for rfl PassesOwn.never (fun i M' env' => ∃ (ag : Addr) (h' : Str) (g : Gst) (kv : List (Key × V)) (k : Nat) (o9 o10 o11 o12 : Option D), M' = LM me vi dn ag g kv ∧ env' = [some (.p l), some (.s r), some (.s way), some (.s h'), some (natD pat), some (.p ag), some (.p dn), some (.p vi), some (.p me), o9, o10, o11, o12] ∧ keysI kv g.met ∧ Gok cs pat k g ∧ gath cs r way pat (400 - i) g = tgt) (i_rng (n := 400) T.n_range (a_cons v_int a_nil) (by omega)) A1 ⟨ag, h, ⟨[h], [], [], []⟩, [], 0, none, none, none, none, rfl, rfl, rfl, Gok.start hw, et⟩ (fun i d M' env' Fr' Gx hd hI hE => ?_) (fun M' env' σ' H' hI A' => ?_)
    · obtain ⟨ag, h', g, kv, k0, o9, o10, o11, o12, rfl, rfl, hkv, ok, e⟩ := hI
      have hil : i < 400 := by
        have := (List.getElem?_eq_some_iff.mp hd).1
        simpa using this
      rw [List.getElem?_map, List.getElem?_range hil] at hd
      cases hd
      have hls' := hls.ex hE
      refine ⟨_, _, g_name 9 sc_law_gathered.nd, fun σ2 H2 A2 => ?_⟩
      have en : 400 - i = (400 - (i + 1)) + 1 := by omega
      rw [en] at e
      unfold gath at e
      have hvis := ok.vis
      have hmet := ok.ml
      have hdone := ok.dl
      refine x_if (k := decide (g.agenda = []) || decide (g.done.length = pat)) (o_t (o_or (Pt.is (t_eqNil (ds := g.agenda.map D.s) rfl hr (v_var 5) (.inr (List.mem_cons_of_mem _ (List.mem_cons_of_mem _ (List.mem_cons_of_mem _ List.mem_cons_self)))) (flat_words ok.wd) (by decide)) (by rw [decide_eq_decide]; simp)) fun _ => o_or1 (Pt.is (t_cmp op_eq (v_lenL (ds := g.done.map D.s) T.n_len rfl (v_var 6) (.inr (List.mem_cons_of_mem _ (List.mem_cons_of_mem _ List.mem_cons_self)))) (v_var 4) rv_eq) (by rw [List.length_map, decide_eq_decide]; exact ⟨fun z => by injection z with z; omega, fun z => by rw [z]⟩)))) A2 (fun b H3 A3 => ?_) fun b H3 A3 => x_nil ?_
      · have hb : g.agenda = [] ∨ g.done.length = pat := by
          rw [Bool.or_eq_true, decide_eq_true_eq, decide_eq_true_eq] at b
          exact b
        rw [if_pos hb] at e
        subst e
        exact x_ret (v_tup (a_cons (v_var 8) (a_cons (v_var 7) (a_cons (Pv.is (v_lenL (ds := g.done.map D.s) T.n_len rfl (v_var 6) (.inr (List.mem_cons_of_mem _ (List.mem_cons_of_mem _ List.mem_cons_self)))) (d' := natD g.done.length) (by rw [List.length_map]; rfl)) a_nil)))) A3 fun v H' A' r => q _ [] _ _ _ v H' ⟨me, vi, kv, rfl, rfl, hkv⟩ ((A'.back (G := []) hE fun p hp => nomatch hp).less (((List.nil_sublist _).cons₂ _).cons₂ _)) r
      · have hb : ¬ (g.agenda = [] ∨ g.done.length = pat) := by
          rw [Bool.or_eq_false_iff, decide_eq_false_iff_not, decide_eq_false_iff_not] at b
          exact fun z => z.elim b.1 b.2
        rw [if_neg hb] at e
        have hag : g.agenda ≠ [] := fun z => hb (.inl z)
        have ok2 := ok.step (r := r) (way := way) o hag (by have := ok.dl; omega)
        obtain ⟨agenda, done, visited, met⟩ := g
        obtain ⟨h2, rest, rfl⟩ : ∃ h2 rest, agenda = h2 :: rest := by
          cases agenda with
          | nil => exact absurd rfl hag
          | cons x y => exact ⟨x, y, rfl⟩
        generalize eg : gstep cs r way ⟨h2 :: rest, done, visited, met⟩ = g' at e ok2
        unfold gstep at eg
        dsimp only at eg hkv hvis hmet hdone
        have hagl := ok.ag
        dsimp only at hagl
        rw [List.length_cons] at hagl
        refine x_parE (i := 3) (j := 5) (Z := fun ds M' => ∃ a2, ds = [.s h2, .p a2] ∧ M' = (a2, Ob.lst (rest.map D.s)) :: LM me vi dn ag ⟨h2 :: rest, done, visited, met⟩ kv) rfl sc_law_gathered.nd (by decide) (ea_v (v_ixL (ds := (h2 :: rest).map D.s) (d := .s h2) rfl (v_var 5) (.inr (List.mem_cons_of_mem _ (List.mem_cons_of_mem _ (List.mem_cons_of_mem _ List.mem_cons_self)))) v_int (atI_nat (j := 0) rfl)) (ea_l (l_dropL (k := 1) (ds := (h2 :: rest).map D.s) rfl (v_var 5) (.inr (List.mem_cons_of_mem _ (List.mem_cons_of_mem _ (List.mem_cons_of_mem _ List.mem_cons_self)))) v_int) fun a2 => ea_nil ⟨a2, rfl, rfl⟩)) A3 fun ds M' z => ?_
        obtain ⟨a2, rfl, rfl⟩ := z
        refine ⟨_, _, rfl, fun σ4 H4 A4 => ?_⟩
        have A4 : At c Fr' (Gx ++ []) (LM me vi dn a2 ⟨rest, done, visited, met⟩ kv) _ σ4 H4 := new_ag A4
        -- a turn that leaves the agenda
        have fin : ∀ {g1 : Gst} {kv1 : List (Key × V)} {o10 o11 o12 : Option D} {a3 : Addr} {σ H}, g1 = g' → keysI kv1 g1.met → At c Fr' (Gx ++ []) (LM me vi dn a3 g1 kv1) [some (.p l), some (.s r), some (.s way), some (.s h2), some (natD pat), some (.p a3), some (.p dn), some (.p vi), some (.p me), some (.i (i : Int)), o10, o11, o12] σ H → ∃ M2 env3, (∃ (ag : Addr) (h' : Str) (g : Gst) (kv : List (Key × V)) (k : Nat) (o9 o10 o11 o12 : Option D), M2 = LM me vi dn ag g kv ∧ env3 = [some (.p l), some (.s r), some (.s way), some (.s h'), some (natD pat), some (.p ag), some (.p dn), some (.p vi), some (.p me), o9, o10, o11, o12] ∧ keysI kv g.met ∧ Gok cs pat k g ∧ gath cs r way pat (400 - (i + 1)) g = tgt) ∧ At c Fr' (Gx ++ []) M2 env3 σ H :=
          fun {g1 kv1 o10 o11 o12 a3 σ H} eq hk B => ⟨_, _, ⟨a3, h2, g1, kv1, _, _, o10, o11, o12, rfl, rfl, hk, eq ▸ ok2, eq ▸ e⟩, B⟩
        refine x_if (k := !decide (h2 ∈ done)) (Pt.is (t_niL (xs := done.map V.str) rfl (v_var 3) (v_var 6) (.inr (by rw [← strs_v]; exact List.mem_cons_of_mem _ (List.mem_cons_of_mem _ List.mem_cons_self))) rfl (all_strs _)) (by rw [inV_str])) A4 (fun b H5 A5 => ?_) fun b H5 A5 => ?_
        · have hnd : h2 ∉ done := by simpa using b
          rw [if_neg hnd] at eg
          refine x_app 2 (ds := done.map D.s) (d := .s h2) rfl (v_var 6) (v_var 3) A5 (by rw [List.length_map]; omega) fun H6 A6 => ?_
          have ap : done.map D.s ++ [D.s h2] = (done ++ [h2]).map D.s := by rw [List.map_append]; rfl
          rw [ap] at A6
          have A6 : At c Fr' (Gx ++ []) (LM me vi dn a2 ⟨rest, done ++ [h2], visited, met⟩ kv) _ σ4 H6 := A6
          refine x_set 10 sc_law_gathered.nd (v_ixT (d := optD (landOf (walked cs r h2))) rfl (v_callR [(l, cs.map cardD)] (ok_lawlanding T) hr (a_cons (v_var 0) (a_cons (v_var 1) (a_cons (v_var 3) a_nil))) ⟨l, cs, r, h2, rfl, rfl, h16, hrule, rfl⟩ (fun p hp => by
            rw [List.mem_singleton.mp hp]
            exact .inl hls')) v_int rfl) A6 fun σ7 H7 A7 => ?_
          cases el : landOf (walked cs r h2) with
          | none =>
            rw [el] at eg A7
            refine x_if (k := false) (o_t (o_and (k := false) (t_cmp op_notN (v_var 10) v_non rv_notN) (fun h => nomatch h) (l := false))) A7 (fun h => nomatch h) fun _ H8 A8 => x_nil (x_nil (x_nil (fin eg hkv A8)))
          | some k =>
            rw [el] at eg A7
            dsimp only at eg
            have hk := land_lt el
            rw [List.getElem?_eq_getElem hk] at eg
            dsimp only at eg
            refine x_if (k := !decide (k ∈ visited)) (Pt.is (o_t (o_and (k := true) (t_cmp op_notN (v_var 10) v_non rv_notN) fun _ => o_and1 (t_niL (y := .int (k : Int)) (xs := visited.map fun (i : Nat) => V.int (i : Int)) rfl (v_var 10) (v_var 7) (.inr (by rw [← nats_v]; exact List.mem_cons_of_mem _ List.mem_cons_self)) rfl (all_nats _)))) (by rw [inV_nat]; rfl)) A7 (fun b5 H8 A8 => ?_) fun b5 H8 A8 => ?_
            · have qk : k ∉ visited := by simpa using b5
              rw [if_neg qk] at eg
              have hvl : visited.length ≤ 16 := by omega
              refine x_app 1 (ds := visited.map natD) (d := natD k) rfl (v_var 7) (v_var 10) A8 (by rw [List.length_map]; omega) fun H9 A9 => ?_
              have ap2 : visited.map natD ++ [natD k] = (visited ++ [k]).map natD := by rw [List.map_append]; rfl
              rw [ap2] at A9
              have A9 : At c Fr' (Gx ++ []) (LM me vi dn a2 ⟨rest, done ++ [h2], visited ++ [k], met⟩ kv) _ σ7 H9 := A9
              have hrow : (cs.map cardD)[k]? = some (cardD cs[k]) := by rw [List.getElem?_map, List.getElem?_eq_getElem hk]; rfl
              have hco := o.2 cs[k] (List.getElem_mem hk)
              have hb6 := hco.b.1
              have ha4 := hco.a.1
              refine x_for rfl PassesOwn.never (fun j M' env' => ∃ (kv1 : List (Key × V)) (o11 o12 : Option D), M' = LM me vi dn a2 ⟨rest, done ++ [h2], visited ++ [k], addB met (cs[k].b.take j)⟩ kv1 ∧ env' = [some (.p l), some (.s r), some (.s way), some (.s h2), some (natD pat), some (.p a2), some (.p dn), some (.p vi), some (.p me), some (.i (i : Int)), some (natD k), o11, o12] ∧ keysI kv1 (addB met (cs[k].b.take j))) (i_tup rfl (v_ixT rfl (v_ixL rfl (v_var 0) (.inl hls') (v_var 10) (atI_nat hrow)) v_int rfl)) A9 ⟨kv, _, _, rfl, rfl, by simpa [addB] using hkv⟩ (fun j d M' env' Fr2 Gx2 hd2 hI2 hE2 => ?_) (fun M' env' σ' H' hI2 A' => ?_)
              · obtain ⟨kv1, o11, o12, rfl, rfl, hk1⟩ := hI2
                rw [List.getElem?_map] at hd2
                obtain ⟨bk, hbk, rfl⟩ := Option.map_eq_some_iff.mp hd2
                refine ⟨_, _, g_name 11 sc_law_gathered.nd, fun σ10 H10 A10 => ?_⟩
                have hkl := keysI_len hk1
                have hal := addB_len (bs := cs[k].b.take j) (met := met)
                have htl : (cs[k].b.take j).length ≤ 6 := by rw [List.length_take]; omega
                refine x_dput 0 (kvs := kv1) (k := .inl bk) hr (v_var 8) (v_var 11) (v_dget2 0 (kvs := kv1) (k := .inl bk) (y := .int ((done ++ [h2]).length : Int)) hr (v_var 8) (v_var 11) (Pv.is (v_lenL (ds := (done ++ [h2]).map D.s) T.n_len rfl (v_var 6) (.inr (List.mem_cons_of_mem _ (List.mem_cons_of_mem _ List.mem_cons_self)))) (by rw [List.length_map]))) A10 (by omega) fun H11 A11 => x_nil ⟨_, _, ⟨putK kv1 (.inl bk) ((valV kv1 (.inl bk)).getD (.int ((done ++ [h2]).length : Int))), _, _, ?_, rfl, ?_⟩, A11⟩
                · rfl
                · rw [List.take_add_one, hbk]
                  have ea : addB met (cs[k].b.take j ++ (some bk).toList) = if bk ∈ addB met (cs[k].b.take j) then addB met (cs[k].b.take j) else addB met (cs[k].b.take j) ++ [bk] := by
                    unfold addB
                    rw [List.foldl_append]
                    rfl
                  show keysI _ (addB met (cs[k].b.take j ++ (some bk).toList))
                  rw [ea]
                  by_cases hin : bk ∈ addB met (cs[k].b.take j)
                  · rw [if_pos hin]
                    refine (putK_keys ?_).trans hk1
                    rw [hk1]
                    exact List.mem_map_of_mem hin
                  · rw [if_neg hin]
                    exact keysI_put hk1 hin _
              · obtain ⟨kv1, o11, o12, rfl, rfl, hk1⟩ := hI2
                rw [List.length_map, List.take_length] at A' hk1
                have mem3 : (a2, Ob.lst (rest.map D.s)) ∈ LM me vi dn a2 ⟨rest, done ++ [h2], visited ++ [k], addB met cs[k].b⟩ kv1 := List.mem_cons_of_mem _ (List.mem_cons_of_mem _ (List.mem_cons_of_mem _ List.mem_cons_self))
                refine x_setL 12 sc_law_gathered.nd (l_listT T.n_list rfl (v_ixT (d := .t (cs[k].a.map D.s)) rfl (v_ixL rfl (v_var 0) (.inl hls') (v_var 10) (atI_nat hrow)) v_int rfl)) A' fun lh σ11 H11 A11 => ?_
                refine x_setE 5 sc_law_gathered.nd (e_way3 (rest := rest.map D.s) (hints := cs[k].a.map D.s) hr hway (fun z => l_catLL (xs := rest.map D.s) (ys := cs[k].a.map D.s) (l1 := a2) (l2 := lh) (v_var 5) (List.mem_cons_of_mem _ (List.mem_cons_of_mem _ mem3)) (v_var 12) (List.mem_cons_of_mem _ List.mem_cons_self) (by rw [List.length_map, List.length_map]; omega)) (fun y z => l_catLL (xs := cs[k].a.map D.s) (ys := rest.map D.s) (l1 := lh) (l2 := a2) (v_var 12) (List.mem_cons_of_mem _ (List.mem_cons_of_mem _ List.mem_cons_self)) (v_var 5) (List.mem_cons_of_mem _ (List.mem_cons_of_mem _ (List.mem_cons_of_mem _ mem3))) (by rw [List.length_map, List.length_map]; omega)) (fun M => v_var 12) fun M => v_var 2) A11 fun d M' σ12 H12 z A12 => ?_
                obtain ⟨la, rfl, rfl⟩ := z
                rw [byWay_map] at A12
                have A12 : At c Fr' (Gx ++ []) (LM me vi dn la ⟨byWay way rest cs[k].a, done ++ [h2], visited ++ [k], addB met cs[k].b⟩ kv1) _ σ12 H12 := new_ag A12
                exact x_nil (x_nil (x_nil (fin eg hk1 A12)))
            · have qk : k ∈ visited := by simpa using b5
              rw [if_pos qk] at eg
              exact x_nil (x_nil (x_nil (fin eg hkv A8)))
        · have hnd : h2 ∈ done := by simpa using b
          rw [if_pos hnd] at eg
          exact x_nil (x_nil (fin eg hkv A5))
    · obtain ⟨ag, h', g, kv, k0, o9, o10, o11, o12, rfl, rfl, hkv, ok, e⟩ := hI
      have e0 : 400 - ((List.range 400).map fun (i : Nat) => D.i (i : Int)).length = 0 := by simp
      rw [e0] at e
      unfold gath at e
      subst e
      exact x_ret (v_tup (a_cons (v_var 8) (a_cons (v_var 7) (a_cons (Pv.is (v_lenL (ds := g.done.map D.s) T.n_len rfl (v_var 6) (.inr (List.mem_cons_of_mem _ (List.mem_cons_of_mem _ List.mem_cons_self)))) (d' := natD g.done.length) (by rw [List.length_map]; rfl)) a_nil)))) A' fun v H' A2 r => q _ _ _ _ _ v H' ⟨me, vi, kv, rfl, rfl, hkv⟩ (A2.less (((List.nil_sublist _).cons₂ _).cons₂ _)) r
end
end Sx
end
section
/-! reaching by levels, in plain words -/
set_option maxRecDepth 100000
set_option maxHeartbeats 1000000
namespace Sx
open PySem PySem.Spec PyProof.Rows L2 LamX NdefX
def sortN (l : List Nat) : List Nat := (sortI (l.map fun n : Nat => (n : Int))).map Int.toNat
theorem sortN_ints (l : List Nat) : (sortI (l.map fun n : Nat => (n : Int))).map D.i = (sortN l).map natD := by
  unfold sortN
  rw [List.map_map]
  refine List.map_congr_left fun i hi => ?_
  obtain ⟨n, _, rfl⟩ := List.mem_map.mp (sortI_mem.mp hi)
  rfl
theorem sortN_mem {l : List Nat} {n : Nat} : n ∈ sortN l ↔ n ∈ l := by
  unfold sortN
  rw [List.mem_map]
  constructor
  · rintro ⟨i, hi, rfl⟩
    obtain ⟨m, hm, rfl⟩ := List.mem_map.mp (sortI_mem.mp hi)
    exact hm
  · intro h
    exact ⟨(n : Int), sortI_mem.mpr (List.mem_map_of_mem h), rfl⟩
theorem sortI_len (l : List Int) : (sortI l).length ≤ l.length := by
  have := nodup_len (sortI_nodup l) fun x hx => sortI_mem.mp hx
  exact this
theorem sortN_nodup (l : List Nat) : (sortN l).Nodup := by
  unfold sortN
  rw [List.Nodup, List.pairwise_map]
  refine (sortI_nodup (l.map fun n : Nat => (n : Int))).imp_of_mem fun {a b} ha hb ne e => ne ?_
  obtain ⟨n, _, rfl⟩ := List.mem_map.mp (sortI_mem.mp ha)
  obtain ⟨m, _, rfl⟩ := List.mem_map.mp (sortI_mem.mp hb)
  have e : n = m := e
  rw [e]
theorem sortN_len (l : List Nat) : (sortN l).length ≤ l.length := by
  unfold sortN
  have := sortI_len (l.map fun n : Nat => (n : Int))
  rw [List.length_map] at this ⊢
  exact this
/-- to where a card's further headings lead -/
def goesL (cs : List Crd) (r : Str) (k : Nat) : List (Option Nat) := match cs[k]? with
  | some cd => cd.a.map fun o => landOf (walked cs r o)
  | none => []
def newLev (met : List Nat) (lev : List (Option Nat)) : List Nat := (sortN (lev.filterMap id)).filter fun k => !decide (k ∈ met)
def reachL (cs : List Crd) (r : Str) : Nat → List Nat → List (Option Nat) → List Nat
  | 0, met, _ => met
  | n + 1, met, lev => if lev = [] then met else reachL cs r n (met ++ newLev met lev) ((newLev met lev).flatMap (goesL cs r))
def booksL (cs : List Crd) (k : Nat) : List Int := match cs[k]? with
  | some cd => cd.b
  | none => []
/-- what the levels keep -/
structure Rok (cs : List Crd) (n : Nat) (met : List Nat) (lev : List (Option Nat)) : Prop where
  nd : met.Nodup
  ml : ∀ k ∈ met, k < cs.length
  ll : ∀ k, some k ∈ lev → k < cs.length
  fu : 2 * (cs.length - met.length) + (if lev = [] then 0 else 1) ≤ n
  ln : lev.length ≤ 64
theorem Rok.len {cs : List Crd} {n : Nat} {met : List Nat} {lev : List (Option Nat)} (o : Rok cs n met lev) : met.length ≤ cs.length := by
  have := nodup_len (m := List.range cs.length) o.nd fun x hx => List.mem_range.mpr (o.ml x hx)
  rw [List.length_range] at this
  exact this
theorem newLev_mem {met : List Nat} {lev : List (Option Nat)} {k : Nat} : k ∈ newLev met lev ↔ some k ∈ lev ∧ k ∉ met := by
  unfold newLev
  rw [List.mem_filter, sortN_mem, List.mem_filterMap]
  constructor
  · rintro ⟨⟨o, ho, e⟩, h2⟩
    have e : o = some k := e
    subst e
    exact ⟨ho, by simpa using h2⟩
  · rintro ⟨h1, h2⟩
    exact ⟨⟨some k, h1, rfl⟩, by simpa using h2⟩
theorem newLev_len {met : List Nat} {lev : List (Option Nat)} : (newLev met lev).length ≤ lev.length := by
  unfold newLev
  have a := List.length_filter_le (fun k => !decide (k ∈ met)) (sortN (lev.filterMap id))
  have b := sortN_len (lev.filterMap id)
  have c := List.length_filterMap_le id lev
  omega
theorem newLev_nd {met : List Nat} {lev : List (Option Nat)} : (newLev met lev).Nodup := (sortN_nodup _).filter _
theorem goesL_len {cs : List Crd} {r : Str} (o : drwOk cs) (k : Nat) : (goesL cs r k).length ≤ 4 := by
  unfold goesL
  cases e : cs[k]? with
  | none => exact Nat.zero_le _
  | some cd =>
    show (cd.a.map _).length ≤ 4
    rw [List.length_map]
    exact (o.2 cd (List.mem_of_getElem? e)).a.1
theorem goesL_lt {cs : List Crd} {r : Str} {j k : Nat} (h : some k ∈ goesL cs r j) : k < cs.length := by
  unfold goesL at h
  cases e : cs[j]? with
  | none => rw [e] at h; cases h
  | some cd =>
    rw [e] at h
    obtain ⟨z, _, hz⟩ := List.mem_map.mp h
    exact land_lt hz
theorem Rok.next {cs : List Crd} {r : Str} {n : Nat} {met : List Nat} {lev : List (Option Nat)} (hc : drwOk cs) (o : Rok cs (n + 1) met lev) (hl : lev ≠ []) : Rok cs n (met ++ newLev met lev) ((newLev met lev).flatMap (goesL cs r)) ∧ (newLev met lev).length ≤ 16 := by
  have nd : (met ++ newLev met lev).Nodup := List.nodup_append.mpr ⟨o.nd, newLev_nd, fun a ha b hb e => (newLev_mem.mp hb).2 (e ▸ ha)⟩
  have ml : ∀ k ∈ met ++ newLev met lev, k < cs.length := fun k hk => (List.mem_append.mp hk).elim (o.ml k) fun h => o.ll k (newLev_mem.mp h).1
  have l1 := nodup_len (m := List.range cs.length) nd fun x hx => List.mem_range.mpr (ml x hx)
  have l2 := nodup_len (m := List.range cs.length) (newLev_nd (met := met) (lev := lev)) fun x hx => List.mem_range.mpr (ml x (List.mem_append_right _ hx))
  rw [List.length_range] at l1 l2
  have h16 := hc.1
  refine ⟨⟨nd, ml, fun k hk => ?_, ?_, ?_⟩, by omega⟩
  · obtain ⟨j, _, hj⟩ := List.mem_flatMap.mp hk
    exact goesL_lt hj
  · have fu := o.fu
    rw [if_neg hl] at fu
    rw [List.length_append] at l1 ⊢
    by_cases e : newLev met lev = []
    · rw [e]
      simp only [List.flatMap_nil, if_pos, List.length_nil]
      omega
    · have : 0 < (newLev met lev).length := List.length_pos_iff.mpr e
      split <;> omega
  · have := flat_len (f := goesL cs r) (n := 4) (l := newLev met lev) fun x _ => goesL_len hc x
    omega
end Sx
end
section
/-! _law_reach -/
set_option maxRecDepth 100000
set_option maxHeartbeats 1000000
namespace Sx
open PySem PySem.Spec PyProof.Rows L2 LamX NdefX
theorem flat_opts (l : List (Option Nat)) : FlatL 0 (l.map optD) := fun d hd => by
  obtain ⟨o, _, rfl⟩ := List.mem_map.mp hd
  cases o with
  | none => exact ⟨.none, by simp only [optD, pyOf], sh_non 0⟩
  | some k => exact ⟨.int (k : Int), by simp only [optD, natD, pyOf], sh_int 0 _⟩
theorem filter_some : ∀ l : List (Option Nat), (l.filter fun o => !decide (o = none)).map optD = ((l.filterMap id).map fun n : Nat => (n : Int)).map D.i
  | [] => rfl
  | none :: l => by
    rw [List.filter_cons_of_neg (by simp), filter_some l]
    rfl
  | some k :: l => by
    rw [List.filter_cons_of_pos (by simp), List.map_cons, filter_some l]
    rfl
section
variable {P : Program} {w : World} {c : Cs} {mg : Str → Option Value} {base : Heap}
def R_lawreach : List D → List (Addr × List D) → D → Prop := fun ds L d => ∃ (l : Addr) (cs : List Crd) (r h : Str), ds = [.p l, .s r, .s h] ∧ L = [(l, cs.map cardD)] ∧ drwOk cs ∧ ruleOk r ∧ d = .t ((sortI ((reachL cs r 40 [] [landOf (walked cs r h)]).flatMap (booksL cs))).map D.i)
theorem ok_lawreach (T : Tx c mg) : FnAt P w c.K mg base "_law_reach" 5 (spR c R_lawreach) := by
  refine T.d_law_reach.at_ fun f fd F => fnMR F sc_law_reach (fun _ _ _ _ _ _ us hl => match us, hl with | [_, _, _], _ => rfl) (fun ds L d h => ?_) 7 rfl fun cdv A0 outer s H0 Fr E ds L d σ hr h hL A Q q => ?_
  · obtain ⟨l, cs, r, h, rfl, _⟩ := h
    rfl
  · obtain ⟨l, cs, r, h, rfl, rfl, o, hrule, rfl⟩ := h
    have h16 := o.1
    have hls := hL (l, cs.map cardD) List.mem_cons_self
    have hrow : ∀ {k : Nat} (hk : k < cs.length), (cs.map cardD)[k]? = some (cardD cs[k]) := fun {k} hk => by rw [List.getElem?_map, List.getElem?_eq_getElem hk]; rfl
    have ok0 : Rok cs 40 [] [landOf (walked cs r h)] := ⟨List.nodup_nil, (fun k hk => nomatch hk), fun k hk => land_lt (List.mem_singleton.mp hk).symm, by rw [if_neg (by simp)]; simp only [List.length_nil]; omega, by simp⟩
    generalize et : reachL cs r 40 [] [landOf (walked cs r h)] = tgt at q
    refine x_tupE (Z := fun d M' => ∃ me lv, d = .t [.p me, .p lv] ∧ M' = [(lv, Ob.lst ([landOf (walked cs r h)].map optD)), (me, .lst (([] : List Nat).map natD))]) (e_tup (Z := fun ds M' => ∃ me lv, ds = [.p me, .p lv] ∧ M' = [(lv, Ob.lst ([landOf (walked cs r h)].map optD)), (me, .lst (([] : List Nat).map natD))]) (ea_l (l_lst a_nil) fun me => ea_l (l_lst (a_cons (v_ixT (d := optD (landOf (walked cs r h))) rfl (v_callR [(l, cs.map cardD)] (ok_lawlanding T) hr (a_cons (v_var 0) (a_cons (v_var 1) (a_cons (v_var 2) a_nil))) ⟨l, cs, r, h, rfl, rfl, h16, hrule, rfl⟩ (fun p hp => by
      rw [List.mem_singleton.mp hp]
      exact .inl hls)) v_int rfl) a_nil)) fun lv => ea_nil ⟨me, lv, rfl, rfl⟩) fun ds M' z => ?_) A fun d M' z => ?_
    · obtain ⟨me, lv, rfl, rfl⟩ := z
      exact ⟨Nat.le_of_ble_eq_true rfl, me, lv, rfl, rfl⟩
    obtain ⟨me, lv, rfl, rfl⟩ := z
    refine ⟨_, _, g_tup rfl rfl (gs_cons (g_name 3 sc_law_reach.nd) (gs_cons (g_name 4 sc_law_reach.nd) gs_nil)), fun σ1 H1 A1 => ?_⟩
    refine x_while PassesOwn.never (fun m M' env' => ∃ (me lv : Addr) (met : List Nat) (lev : List (Option Nat)) (o5 o6 : Option D), M' = [(lv, Ob.lst (lev.map optD)), (me, .lst (met.map natD))] ∧ env' = [some (.p l), some (.s r), some (.s h), some (.p me), some (.p lv), o5, o6, none, none, none] ∧ reachL cs r m met lev = tgt ∧ Rok cs m met lev) 40 A1 ⟨me, lv, [], [landOf (walked cs r h)], none, none, rfl, rfl, et, ok0⟩ (fun m M' env' hI => ?_)
    obtain ⟨me, lv, met, lev, o5, o6, rfl, rfl, e, ok⟩ := hI
    have hml := ok.len
    have hll := ok.ln
    refine ⟨!decide (lev = []), Pt.is (t_neNil (ds := lev.map optD) rfl hr (v_var 4) (.inr List.mem_cons_self) (flat_opts lev) (by decide)) (by congr 1; rw [decide_eq_decide]; simp), fun b σ2 H2 A2 => ?_, fun b σ2 H2 A2 => ?_⟩
    · have hne : lev ≠ [] := by
        rw [Bool.not_eq_true'] at b
        exact of_decide_eq_false b
      obtain ⟨m, rfl⟩ : ∃ m', m = m' + 1 := by
        have fu := ok.fu
        rw [if_neg hne] at fu
        exact ⟨m - 1, by omega⟩
      unfold reachL at e
      rw [if_neg hne] at e
      obtain ⟨ok2, hnl⟩ := ok.next (r := r) o hne
      obtain ⟨Fr2, e2, hlv, A3⟩ := A2.freeze
      have hls2 := hls.ex e2
      refine x_setLc 4 [("_law_place", 6)] (sortN (lev.filterMap id)) natD (fun k => !decide (k ∈ met)) natD rfl sc_law_reach.nd (Pi.is (i_new rfl (l_sortSetI (ns := (lev.filterMap id).map fun n : Nat => (n : Int)) rfl T.n_sorted T.n_set rfl (Pl.is (l_lc [("_law_one", 9)] lev optD (fun o => !decide (o = none)) optD rfl sc_law_reach.nd (i_lst rfl (v_var 4) hlv) (blkOk_by (N := N_law_reach) (sc := defScope st_law_reach) (by decide +kernel)) (by omega) ?_) (filter_some lev)) ?_)) (sortN_ints _)) (blkOk_by (N := N_law_reach) (sc := defScope st_law_reach) (by decide +kernel)) ?_ ?_ A3 fun l1 σ4 H4 A4 => ?_
      · intro oo ho acc Fr' Gx Dl e
        refine ⟨_, _, fun s H C cl fp => g_name 9 sc_law_reach.nd, fun j hj => hj, fun s H C cl fp => n_one ?_, fun _ s H C cl fp => v_var 9⟩
        cases oo with
        | none => exact Pt.is (t_cmp op_notN (v_var 9) v_non rv_notN) (by rfl)
        | some k => exact Pt.is (t_cmp op_notN (v_var 9) v_non rv_notN) (by rfl)
      · have := List.length_filterMap_le id lev
        rw [List.length_map]
        unfold scanBound
        omega
      · have := sortN_len (lev.filterMap id)
        have := List.length_filterMap_le id lev
        omega
      · intro k hk acc Fr' Gx Dl e
        exact ⟨_, _, fun s H C cl fp => g_name 6 sc_law_reach.nd, fun j hj => hj, fun s H C cl fp => n_one (Pt.is (t_niL (y := .int (k : Int)) (xs := met.map fun (i : Nat) => V.int (i : Int)) rfl (v_var 6) (v_var 3) (.inr (by rw [← nats_v]; exact List.mem_cons_of_mem _ List.mem_cons_self)) rfl (all_nats _)) (by rw [inV_nat])), fun _ s H C cl fp => v_var 6⟩
      · have A4 : At c Fr2 [] [(l1, Ob.lst ((newLev met lev).map natD)), (me, .lst (met.map natD))] _ σ4 H4 := A4
        have enl : met.map natD ++ (newLev met lev).map natD = (met ++ newLev met lev).map natD := by rw [List.map_append]
        refine x_tupE (Z := fun d M' => ∃ m2 la, d = .t [.p m2, .p la] ∧ M' = [(la, Ob.lst []), (m2, .lst ((met ++ newLev met lev).map natD)), (l1, Ob.lst ((newLev met lev).map natD)), (me, .lst (met.map natD))]) (e_tup (Z := fun ds M' => ∃ m2 la, ds = [.p m2, .p la] ∧ M' = [(la, Ob.lst []), (m2, .lst ((met ++ newLev met lev).map natD)), (l1, Ob.lst ((newLev met lev).map natD)), (me, .lst (met.map natD))]) (ea_l (Pl.is (l_catLL (xs := met.map natD) (ys := (newLev met lev).map natD) (v_var 3) (List.mem_cons_of_mem _ List.mem_cons_self) (v_var 4) List.mem_cons_self (by rw [List.length_map, List.length_map]; omega)) enl) fun m2 => ea_l (l_lst a_nil) fun la => ea_nil ⟨m2, la, rfl, rfl⟩) fun ds M' z => ?_) A4 fun d M' z => ?_
        · obtain ⟨m2, la, rfl, rfl⟩ := z
          exact ⟨Nat.le_of_ble_eq_true rfl, m2, la, rfl, rfl⟩
        obtain ⟨m2, la, rfl, rfl⟩ := z
        refine ⟨_, _, g_tup rfl rfl (gs_cons (g_name 3 sc_law_reach.nd) (gs_cons (g_name 5 sc_law_reach.nd) gs_nil)), fun σ5 H5 A5 => ?_⟩
        have A6 := (A5.perm (List.perm_append_comm (l₁ := [(la, Ob.lst []), (m2, .lst ((met ++ newLev met lev).map natD))]) (l₂ := [(l1, Ob.lst ((newLev met lev).map natD)), (me, .lst (met.map natD))])))
        obtain ⟨Fr3, e3, hl1, A7⟩ := A6.freeze
        have A8 : At c Fr3 [] [(la, Ob.lst []), (m2, .lst ((met ++ newLev met lev).map natD))] _ σ5 H5 := A7.drop1
        have hls3 := hls2.ex e3
        refine x_for rfl PassesOwn.never (fun i M' env' => ∃ (la : Addr) (o6 : Option D), M' = [(la, Ob.lst ((((newLev met lev).take i).flatMap (goesL cs r)).map optD)), (m2, .lst ((met ++ newLev met lev).map natD))] ∧ env' = [some (.p l), some (.s r), some (.s h), some (.p m2), some (.p l1), some (.p la), o6, none, none, none]) (i_lst rfl (v_var 4) hl1) A8 ⟨la, _, rfl, rfl⟩ (fun i d M' env' Fr' Gx hd hI hE => ?_) (fun M' env' σ' H' hI A' => ?_)
        · obtain ⟨la, o6', rfl, rfl⟩ := hI
          rw [List.getElem?_map] at hd
          obtain ⟨k, hk1, rfl⟩ := Option.map_eq_some_iff.mp hd
          have hk : k < cs.length := ok2.ml k (List.mem_append_right _ (List.mem_of_getElem? hk1))
          have hco := o.2 cs[k] (List.getElem_mem hk)
          have ha4 := hco.a.1
          have hls' := hls3.ex hE
          have fl := flat_len (f := goesL cs r) (n := 4) (l := (newLev met lev).take i) fun x _ => goesL_len o x
          have fl2 : ((newLev met lev).take i).length ≤ 16 := by rw [List.length_take]; omega
          have eg : goesL cs r k = cs[k].a.map fun o => landOf (walked cs r o) := by
            unfold goesL
            rw [List.getElem?_eq_getElem hk]
          refine ⟨_, _, g_name 6 sc_law_reach.nd, fun σ9 H9 A9 => ?_⟩
          refine x_setL 5 sc_law_reach.nd (l_catL (xs := (((newLev met lev).take i).flatMap (goesL cs r)).map optD) (ys := (goesL cs r k).map optD) (v_var 5) List.mem_cons_self (Pl.is (l_lc [("_law_other", 8)] cs[k].a D.s (fun _ => true) (fun z => optD (landOf (walked cs r z))) rfl sc_law_reach.nd (i_tup rfl (v_ixT rfl (v_ixL rfl (v_var 0) (.inl hls') (v_var 6) (atI_nat (hrow hk))) v_int rfl)) (blkOk_by (N := N_law_reach) (sc := defScope st_law_reach) (by decide +kernel)) (by omega) ?_) ?_) ?_) A9 fun lb σ10 H10 A10 => x_nil ⟨_, _, ⟨lb, _, ?_, rfl⟩, A10.less (List.Sublist.cons₂ _ ((List.Sublist.refl _).cons _))⟩
          · intro z hz acc Fr4 Gx4 Dl e4
            refine ⟨_, _, fun s H C cl fp => g_name 8 sc_law_reach.nd, fun j hj => hj, fun s H C cl fp => n_nil, fun _ s H C cl fp => v_ixT (d := optD (landOf (walked cs r z))) rfl (v_callR [(l, cs.map cardD)] (ok_lawlanding T) hr (a_cons (v_var 0) (a_cons (v_var 1) (a_cons (v_var 8) a_nil))) ⟨l, cs, r, z, rfl, rfl, h16, hrule, rfl⟩ (fun p hp => ?_)) v_int rfl⟩
            rw [List.mem_singleton.mp hp]
            exact .inl (hls'.ex e4)
          · rw [filter_yes, eg, List.map_map]
            rfl
          · rw [List.length_map, List.length_map]
            have := goesL_len (r := r) o k
            omega
          · simp only [flat_take hk1, List.map_append]
        · obtain ⟨la, o6', rfl, rfl⟩ := hI
          rw [List.length_map, List.take_length] at A'
          refine x_set 4 sc_law_reach.nd (v_var 5) A' fun σ11 H11 A11 => x_nil ⟨m, _, _, Nat.lt_succ_self m, ⟨m2, la, met ++ newLev met lev, (newLev met lev).flatMap (goesL cs r), _, _, rfl, rfl, e, ok2⟩, A11.back (e2.trans e3) fun p hp => nomatch hp⟩
    · have he : lev = [] := by
        rw [Bool.not_eq_false'] at b
        exact of_decide_eq_true b
      subst he
      have e1 : met = tgt := by
        cases m with
        | zero => exact e
        | succ m =>
          unfold reachL at e
          rw [if_pos rfl] at e
          exact e
      subst e1
      have A3 := A2.drop1
      obtain ⟨Fr2, e2, hme, A4⟩ := A3.freeze
      have hls2 := hls.ex e2
      have blen : ∀ k, (booksL cs k).length ≤ 6 := fun k => by
        unfold booksL
        cases e : cs[k]? with
        | none => exact Nat.zero_le _
        | some cd => exact (o.2 cd (List.mem_of_getElem? e)).b.1
      refine x_setL 7 sc_law_reach.nd (l_lst a_nil) A4 fun tm σ5 H5 A5 => ?_
      refine x_for rfl PassesOwn.never (fun i M' env' => ∃ (tm : Addr) (o6 : Option D), M' = [(tm, Ob.lst (((met.take i).flatMap (booksL cs)).map D.i))] ∧ env' = [some (.p l), some (.s r), some (.s h), some (.p me), some (.p lv), o5, o6, some (.p tm), none, none]) (i_lst rfl (v_var 3) hme) A5 ⟨tm, _, rfl, rfl⟩ (fun i d M' env' Fr' Gx hd hI hE => ?_) (fun M' env' σ' H' hI A' => ?_)
      · obtain ⟨tm, o6', rfl, rfl⟩ := hI
        rw [List.getElem?_map] at hd
        obtain ⟨k, hk1, rfl⟩ := Option.map_eq_some_iff.mp hd
        have hk : k < cs.length := ok.ml k (List.mem_of_getElem? hk1)
        have hls' := hls2.ex hE
        have fl := flat_len (f := booksL cs) (n := 6) (l := met.take i) fun x _ => blen x
        have fl2 : (met.take i).length ≤ 16 := by rw [List.length_take]; omega
        have eb : booksL cs k = cs[k].b := by
          unfold booksL
          rw [List.getElem?_eq_getElem hk]
        have hb6 := blen k
        rw [eb] at hb6
        refine ⟨_, _, g_name 6 sc_law_reach.nd, fun σ9 H9 A9 => ?_⟩
        refine x_setL 7 sc_law_reach.nd (l_catL (xs := ((met.take i).flatMap (booksL cs)).map D.i) (ys := cs[k].b.map D.i) (v_var 7) List.mem_cons_self (l_listT T.n_list rfl (v_ixT rfl (v_ixL rfl (v_var 0) (.inl hls') (v_var 6) (atI_nat (hrow hk))) v_int rfl)) (by rw [List.length_map, List.length_map]; omega)) A9 fun lb σ10 H10 A10 => x_nil ⟨_, _, ⟨lb, _, ?_, rfl⟩, A10.less (List.Sublist.cons₂ _ ((List.Sublist.refl _).cons _))⟩
        rw [flat_take hk1, List.map_append, eb]
      · obtain ⟨tm, o6', rfl, rfl⟩ := hI
        rw [List.length_map, List.take_length] at A'
        have fl := flat_len (f := booksL cs) (n := 6) (l := met) fun x _ => blen x
        refine x_ret (v_tupN T.n_tuple rfl (l_sortSetIL (ns := met.flatMap (booksL cs)) rfl T.n_sorted T.n_set rfl (v_var 7) (.inr List.mem_cons_self) (by unfold scanBound; omega))) A' fun v H' A2 r2 => q _ _ _ _ v H' (A2.back (G := []) e2 fun p hp => nomatch hp) r2
end
end Sx
end
section
/-! rules for _law_great -/
set_option maxRecDepth 100000
set_option maxHeartbeats 1000000
namespace Sx
open PySem PySem.Spec PyProof.Rows L2 LamX NdefX
section
variable {X : Cx} {c : Cs} {Fr : Hp} {G : List (V × D)} {M Mr : Mm} {env : En} {a b e t e1 e2 lam : Expr} {pos p1 p2 kp : Pos} {l : Addr} {ds : List D} {da db d : D} {k j : Nat}
/-- a test with effects -/
def Et (X : Cx) (c : Cs) (Fr : Hp) (G : List (V × D)) (M : Mm) (env : En) (e : Expr) (Z : Bool → Mm → Prop) : Prop := ∀ (σ : L2.St) (H : Hp), At c Fr G M env σ H → ∀ Q : Bool → Hp → Prop, (∀ b M' H2, Z b M' → At c Fr G M' env σ H2 → IM H H2 → Q b H2) → WT X e σ H Q
theorem et_cmp {op : CmpOp} {r : R2} {Z0 : D → Mm → Prop} {Z : Bool → Mm → Prop} (ho : OpR X (compareOp op) r) (ha : Ev X c Fr G M env a Z0) (hb : ∀ M1, Pv X c Fr G M1 env b db) (h : ∀ d M1, Z0 d M1 → ∃ k, RV2 c r d db (.b k) ∧ Z k M1) (hm : behindInMarks op b = false := by first | exact nomark _ | rfl) : Et X c Fr G M env (.Compare a [op] [b] pos) Z := fun σ H A Q q =>
  (pt_cmpR ho we we hm).w (ha σ H A _ fun d M1 x H1 z A1 i1 rx => hb M1 σ H1 A1 _ fun y H2 A2 i2 ry => by
    obtain ⟨k, hr, z2⟩ := h d M1 z
    exact hr H2 x y _ (rx.im i2) ry fun z H3 e3 rz => ⟨k, rp_v.mp rz, q k M1 H3 z2 (A2.ex e3) ((i1.trans i2).trans e3.im)⟩)
theorem e_ifE {Zt : Bool → Mm → Prop} {Z : D → Mm → Prop} (ht : Et X c Fr G M env t Zt) (h1 : ∀ M1, Zt true M1 → Ev X c Fr G M1 env a Z) (h2 : ∀ M1, Zt false M1 → Ev X c Fr G M1 env b Z) : Ev X c Fr G M env (.IfExp t a b pos) Z := fun σ H A Q q =>
  (pe_ifExp wt we we).w (ht σ H A _ fun k M1 H1 z A1 i1 => by
    cases k with
    | true => exact iteT (h1 M1 z σ H1 A1 _ fun d M' v H2 z A2 i2 => q d M' v H2 z A2 (i1.trans i2))
    | false => exact iteF (h2 M1 z σ H1 A1 _ fun d M' v H2 z A2 i2 => q d M' v H2 z A2 (i1.trans i2)))
theorem x_ifE {D0 : Ends} {σ : L2.St} {H : Hp} {rest as bs : List Stmt} {Zt : Bool → Mm → Prop} (ht : Et X c Fr G M env t Zt) (A : At c Fr G M env σ H) (h1 : ∀ M1 H', Zt true M1 → At c Fr G M1 env σ H' → WB X as { D0 with nx := fun σ H => WB X rest D0 σ H } σ H') (h2 : ∀ M1 H', Zt false M1 → At c Fr G M1 env σ H' → WB X bs { D0 with nx := fun σ H => WB X rest D0 σ H } σ H') : WB X (.If t as bs pos :: rest) D0 σ H :=
  x_cons ((ps_if wt wb wb).w (ht σ H A _ fun k M1 H' z A' _ => by
    cases k with
    | true => exact iteT (h1 M1 H' z A')
    | false => exact iteF (h2 M1 H' z A')))
/-- l[:k], both with effects -/
theorem e_takeLE {Z0 Z2 : D → Mm → Prop} (hK : X.K = c.K) (he : Ev X c Fr G M env e Z0) (h : ∀ d M1, Z0 d M1 → ∃ l, d = .p l ∧ Ev X c Fr G M1 env a (fun d2 M2 => ∃ (k : Nat) (ds : List D), d2 = natD k ∧ LsOf c Fr M2 l ds ∧ ∀ p, Z2 (.p p) ((p, .lst (ds.take k)) :: M2))) : Ev X c Fr G M env (.Subscript e (.Slice none (some a) none p2) pos) Z2 := fun σ H A Q q =>
  (pe_slice sl_list we po_none (po_some we)).w (he σ H A _ fun d M1 v H1 z A1 i1 r => by
    obtain ⟨l, rfl, ha⟩ := h d M1 z
    refine ha σ H1 A1 _ fun d2 M2 u H2 z2 A2 i2 r2 => ?_
    obtain ⟨k, ds, rfl, hl, z2⟩ := z2
    refine ⟨k, rp_v.mp r2, ?_⟩
    obtain ⟨vs, h1, h2⟩ := A2.ls hl
    refine ⟨l, vs, rp_v.mp r, .inl h1, fun p hp => ?_⟩
    rw [cut_take]
    exact q _ _ _ _ (z2 p) (A2.new hp (Ex.new hp) ⟨_, upd_same, (h2.take k).im (IM.new hp)⟩) ((i1.trans i2).trans (IM.new hp)) (rp_v.mpr rfl))
/-- sorted(l, key=a lambda), a list at hand -/
theorem l_sortKeyL {φ : Hp → V → Prop} (key : D → Str) (hm : X.mg "sorted" = none) (hK : X.K = c.K) (hr : Room (k + 3) X.A) (h : Pv X c Fr G M env e (.p l)) (hL : LsOf c Fr M l ds) (hl : Pv X c Fr G M env lam (.x φ))
    (turn : ∀ d ∈ ds, ∀ (H : Hp) (u v : V), Ex Fr H → Rp c H (.x φ) u → Rp c H d v → ∃ f, u = .ref f ∧ Calls X.prog X.w X.K X.mg X.base (k + 1) f H [v] fun z H2 => Rp c H2 (.s (key d)) z ∧ Ex H H2)
    (hf : ∀ (H : Hp) (u : V), Rp c H (.x φ) u → ∃ f, u = .ref f) (hst : starEach [e] X.env = (false, eval e X.env) :: starEach [] X.env := by rfl)
    (hg : Gl X "sorted" := by rfl) (he : backTo p2 (starEach [e] X.env) = (false, eval e X.env) :: backTo p2 (starEach [] X.env) := by rfl) (hpl : (backTo p2 (starEach [e] X.env)).any (·.1) = false := by rfl)
    (hall : (backToKw p2 (keywordEach [⟨some "key", lam, kp⟩] X.env)).all (·.1.isSome) = true := by rfl) (hnone : (backToKw p2 (keywordEach [⟨some "key", lam, kp⟩] X.env)).any (·.1.isNone) = false := by rfl) (hks : (backToKw p2 (keywordEach [⟨some "key", lam, kp⟩] X.env)).filterMap (·.1) = [Str.ofString "key"] := by rfl) :
    Pl X c Fr G M env (.Call (.Name "sorted" p1) [e] [⟨some "key", lam, kp⟩] p2) (ksort key ds) := fun σ H A Q q => by
  refine (pe_callBK (X := X) (id := "sorted") (cr_sortKey (k := k + 1) hr) hg hm rfl (pa_cons we pa_nil hst) (pk_cons we pk_nil) (by decide) (by decide) he hpl hall hnone hks).w (h σ H A _ fun v H1 A1 i1 r => ?_)
  refine hl σ H1 A1 _ fun u H2 A2 i2 ru => ?_
  obtain ⟨vs, k1, k2⟩ := A2.ls hL
  have hl2 := k2.len
  obtain ⟨f, rfl⟩ := hf H2 u ru
  refine ⟨l, vs, ds.map key, f, by rw [rp_v.mp r], rfl, .inr (.inl k1), by rw [List.length_map, hl2], fun i v z hv hz H3 e3 => ?_, fun H3 l2 e3 hn => ?_⟩
  · obtain ⟨d, hd, rd⟩ := k2.getV hv
    rw [List.getElem?_map, hd] at hz
    cases hz
    obtain ⟨f', ef, hc⟩ := turn d (List.mem_of_getElem? hd) H3 (.ref f) v (A2.fr.trans e3) (ru.im e3.im) (rd.im e3.im)
    cases ef
    intro A outer s us hr e0 rus
    refine codeAny_mono (hc A outer s us hr e0 rus) fun r s' hq => ?_
    cases r with
    | error e => exact hq
    | ok fl =>
      cases fl with
      | next => exact hq
      | brk => exact hq
      | cont => exact hq
      | ret u =>
        obtain ⟨v', H2, os2, b2, un2, hok2, rv2, rz, ex2⟩ := hq
        exact ⟨v', H2, os2, b2, un2, hok2, rv2, rp_v.mp rz, ex2⟩
  · have A3 : At c Fr G M env σ H3 := A2.ex e3
    refine q l2 _ (A3.new hn (Ex.new hn) ⟨_, upd_same, ?_⟩) (((i1.trans i2).trans e3.im).trans (IM.new hn))
    exact (unzipK (ksort_rel (fun _ _ h => h.1) (zipK (k2.im e3.im)))).im (IM.new hn)
section
variable {rw scr : Addr} {ns : List Int} {o : Ob} {many : Nat} {xs : List D}
/-- _law_taken(row, many) -/
theorem e_taken (T : Tx c X.mg) (hK : X.K = c.K) (hr : Room j X.A) (h1 : Pv X c Fr G M env e1 (.p rw)) (h2 : Pv X c Fr G M env e2 (natD many)) (hM : M.Perm ((rw, o) :: Mr)) (hro : RwOk scr o) (hls : LsAt c Fr scr (ns.map D.i)) (hm0 : 0 < many := by decide) (hm1 : many < 1073741824 := by decide) (hj : 1 ≤ j := by decide) (hg : Gl X "_law_taken" := by rfl)
    (hst : starEach (e1 :: [e2]) X.env = (false, eval e1 X.env) :: starEach [e2] X.env := by rfl) (hst2 : starEach (e2 :: []) X.env = (false, eval e2 X.env) :: starEach [] X.env := by rfl) (hpl : (backTo p2 (starEach [e2] X.env)).any (·.1) = false := by rfl) : Ev X c Fr G M env (.Call (.Name "_law_taken" p1) [e1, e2] [] p2) (fun d M' => ∃ (k : Nat) (o' : Ob), k < many ∧ d = natD k ∧ RwOk scr o' ∧ M' = (rw, o') :: Mr) :=
  e_call (S := S_taken) (L := [(scr, ns.map D.i)]) (M0 := [(rw, o)]) (Mr := Mr) (by have := ok_taken (P := X.prog) (w := X.w) (base := X.base) T; rw [hK]; exact this) hr (a_cons h1 (a_cons h2 a_nil hst2) hst) hM ⟨rw, scr, ns, o, many, rfl, rfl, rfl, hro, hm0, hm1, rfl⟩ (fun p hp => by
    rw [List.mem_singleton.mp hp]
    exact .inl hls) (fun d Mn z => by
    obtain ⟨k, o', a1, a2, a3, a4⟩ := z
    exact ⟨k, o', a1, a2, a3, by rw [a4]; rfl⟩) hj hg (by decide) hst hpl
theorem e_pick (T : Tx c X.mg) (hK : X.K = c.K) (hr : Room j X.A) (h1 : Pv X c Fr G M env e1 (.p rw)) (h2 : Pv X c Fr G M env e2 (.p l)) (hM : M.Perm ((rw, o) :: Mr)) (hro : RwOk scr o) (hls : LsAt c Fr scr (ns.map D.i)) (hl : LsOf c Fr Mr l xs) (h0 : 0 < xs.length) (hx : xs.length ≤ 1000) (hj : 2 ≤ j := by decide) (hg : Gl X "_law_pick" := by rfl)
    (hst : starEach (e1 :: [e2]) X.env = (false, eval e1 X.env) :: starEach [e2] X.env := by rfl) (hst2 : starEach (e2 :: []) X.env = (false, eval e2 X.env) :: starEach [] X.env := by rfl) (hpl : (backTo p2 (starEach [e2] X.env)).any (·.1) = false := by rfl) : Ev X c Fr G M env (.Call (.Name "_law_pick" p1) [e1, e2] [] p2) (fun d M' => ∃ o' : Ob, d ∈ xs ∧ RwOk scr o' ∧ M' = (rw, o') :: Mr) :=
  e_call (S := S_pick) (L := [(scr, ns.map D.i), (l, xs)]) (M0 := [(rw, o)]) (Mr := Mr) (by have := ok_pick (P := X.prog) (w := X.w) (base := X.base) T; rw [hK]; exact this) hr (a_cons h1 (a_cons h2 a_nil hst2) hst) hM ⟨rw, scr, l, ns, o, xs, rfl, rfl, rfl, hro, h0, hx, rfl⟩ (fun p hp => by
    rcases List.mem_cons.mp hp with rfl | hp
    · exact .inl hls
    · rw [List.mem_singleton.mp hp]
      exact hl) (fun d Mn z => by
    obtain ⟨o', a1, a3, a4⟩ := z
    exact ⟨o', a1, a3, by rw [a4]; rfl⟩) hj hg (by decide) hst hpl
theorem e_mixed (T : Tx c X.mg) (hK : X.K = c.K) (hr : Room j X.A) (h1 : Pv X c Fr G M env e1 (.p rw)) (h2 : Pv X c Fr G M env e2 (.p l)) (hM : M.Perm ((rw, o) :: Mr)) (hro : RwOk scr o) (hls : LsAt c Fr scr (ns.map D.i)) (hl : LsOf c Fr Mr l xs) (hf : FlatL 3 xs) (hx : xs.length ≤ 1000) (hj : 2 ≤ j := by decide) (hg : Gl X "_law_mixed" := by rfl)
    (hst : starEach (e1 :: [e2]) X.env = (false, eval e1 X.env) :: starEach [e2] X.env := by rfl) (hst2 : starEach (e2 :: []) X.env = (false, eval e2 X.env) :: starEach [] X.env := by rfl) (hpl : (backTo p2 (starEach [e2] X.env)).any (·.1) = false := by rfl) : Ev X c Fr G M env (.Call (.Name "_law_mixed" p1) [e1, e2] [] p2) (fun d M' => ∃ (p : Addr) (ys : List D) (o' : Ob), d = .p p ∧ ys.Perm xs ∧ RwOk scr o' ∧ M' = (p, .lst ys) :: (rw, o') :: Mr) :=
  e_call (S := S_mixed) (L := [(scr, ns.map D.i), (l, xs)]) (M0 := [(rw, o)]) (Mr := Mr) (by have := ok_mixed (P := X.prog) (w := X.w) (base := X.base) T; rw [hK]; exact this) hr (a_cons h1 (a_cons h2 a_nil hst2) hst) hM ⟨rw, scr, l, ns, o, xs, rfl, rfl, rfl, hro, hf, hx, rfl⟩ (fun p hp => by
    rcases List.mem_cons.mp hp with rfl | hp
    · exact .inl hls
    · rw [List.mem_singleton.mp hp]
      exact hl) (fun d Mn z => by
    obtain ⟨p, ys, o', a1, a2, a3, a4⟩ := z
    exact ⟨p, ys, o', a1, a2, a3, by rw [a4]; rfl⟩) hj hg (by decide) hst hpl
end
end
end Sx
end
section
/-! what _law_great draws, in plain words -/
set_option maxRecDepth 100000
set_option maxHeartbeats 1000000
namespace Sx
open PySem PySem.Spec PyProof.Rows L2 LamX NdefX
def names16 : List Str := ["a", "ab", "abc", "b", "ba", "bab", "c", "cab", "d", "da", "e", "eb", "f", "fa", "g", "zzzzzzzz"]
theorem names_words : ∀ z ∈ names16, wordB z = true := by decide +kernel
theorem names_nd : names16.Nodup := by decide +kernel
def othersF (h : Str) : List Str := names16.filter fun z => !decide (z = h)
theorem others_len {h : Str} : (othersF h).length ≤ 16 := List.length_filter_le _ _
theorem others_pos {h : Str} : 0 < (othersF h).length := by
  by_cases q : h = ("a" : Str)
  · subst q
    decide +kernel
  · refine List.length_pos_of_mem (a := ("a" : Str)) (List.mem_filter.mpr ⟨List.mem_cons_self, ?_⟩)
    rw [Bool.not_eq_true', decide_eq_false_iff_not]
    exact fun e => q e.symm
theorem others_mem {h z : Str} (hz : z ∈ othersF h) : wordB z = true ∧ z ≠ h := by
  obtain ⟨a, b⟩ := List.mem_filter.mp hz
  exact ⟨names_words z a, by simpa using b⟩
/-- books drawn one behind another -/
def Tomes (bs : List Int) : Prop := ∀ (i : Nat) (b : Int), bs[i]? = some b → ∃ t : Nat, t < 150 ∧ b = 1 + 160 * (i : Int) + (t : Int)
theorem Tomes.snoc {bs : List Int} {t : Nat} (h : Tomes bs) (ht : t < 150) : Tomes (bs ++ [1 + 160 * (bs.length : Int) + (t : Int)]) := fun i b e => by
  by_cases q : i < bs.length
  · rw [List.getElem?_append_left q] at e
    exact h i b e
  · rw [List.getElem?_append_right (by omega)] at e
    obtain ⟨q2, e2⟩ := List.getElem?_eq_some_iff.mp e
    have q3 : i = bs.length := by
      simp only [List.length_cons, List.length_nil] at q2
      omega
    subst q3
    simp at e2
    exact ⟨t, ht, e2.symm⟩
theorem Tomes.ok {bs : List Int} (h : Tomes bs) (hl : bs.length ≤ 6) : booksOk bs := by
  refine ⟨hl, fun x hx => ?_, List.pairwise_iff_getElem.mpr fun i j hi hj hij => ?_⟩
  · obtain ⟨i, hi⟩ := List.mem_iff_getElem?.mp hx
    have := (List.getElem?_eq_some_iff.mp hi).1
    obtain ⟨t, h1, h2⟩ := h i x hi
    omega
  · obtain ⟨t, h1, h2⟩ := h i _ (List.getElem?_eq_getElem hi)
    obtain ⟨u, h3, h4⟩ := h j _ (List.getElem?_eq_getElem hj)
    omega
theorem flat_cards (cs : List Crd) (h : ∀ r ∈ cs, r.Ok) : FlatL 3 (cs.map cardD) := fun d hd => by
  obtain ⟨r, hr, rfl⟩ := List.mem_map.mp hd
  exact ⟨_, py_card r, (sh_card (h r hr)).up (by decide)⟩
theorem flat_strs {l : List Str} (h : ∀ z ∈ l, wordB z = true) : FlatL 3 (l.map D.s) := fun d hd => by
  obtain ⟨p, h1, h2⟩ := flat_words h d hd
  exact ⟨p, h1, h2.up (by decide)⟩
def keyT : D → Str
  | .t (.v (.str h) :: _) => h
  | _ => ("" : Str)
theorem keyT_sort (cs : List Crd) : ksort keyT (cs.map cardD) = (filedM cs).map cardD := ksort_map keyT cardD cs
theorem perm_map {α : Type} {f : α → D} (inj : ∀ x y, f x = f y → x = y) {ys : List D} {xs : List α} (h : ys.Perm (xs.map f)) : ∃ es : List α, ys = es.map f ∧ es.length = xs.length ∧ (∀ r ∈ es, r ∈ xs) ∧ (xs.Nodup → es.Nodup) := by
  have mk : ∀ ys : List D, (∀ y ∈ ys, ∃ r, f r = y) → ∃ es : List α, ys = es.map f := by
    intro ys
    induction ys with
    | nil => intro _; exact ⟨[], rfl⟩
    | cons y ys ih =>
      intro h
      obtain ⟨r, e⟩ := h y List.mem_cons_self
      obtain ⟨es, e2⟩ := ih fun z hz => h z (List.mem_cons_of_mem _ hz)
      exact ⟨r :: es, by rw [List.map_cons, e, ← e2]⟩
  obtain ⟨es, rfl⟩ := mk ys fun y hy => by
    obtain ⟨r, _, e⟩ := List.mem_map.mp (h.subset hy)
    exact ⟨r, e⟩
  refine ⟨es, rfl, by have := h.length_eq; rw [List.length_map, List.length_map] at this; exact this, fun r hr => ?_, fun nd => ?_⟩
  · obtain ⟨q, hq, e⟩ := List.mem_map.mp (h.subset (List.mem_map_of_mem hr))
    rw [← inj _ _ e]
    exact hq
  · have n1 : (xs.map f).Nodup := by
      rw [List.Nodup, List.pairwise_map]
      exact nd.imp fun ne e => ne (inj _ _ e)
    have n2 := h.nodup_iff.mpr n1
    rw [List.Nodup, List.pairwise_map] at n2
    exact n2.imp fun ne e => ne (by rw [e])
/-- a display of texts -/
def asStrs : List Expr → Option (List Str)
  | [] => some []
  | .Constant (.str z) _ _ :: es => match asStrs es with
    | some zs => some (z :: zs)
    | none => none
  | _ => none
theorem a_strs {X : Cx} {c : Cs} {Fr : Hp} {G : List (V × D)} {M : Mm} {env : En} : ∀ {es : List Expr} {zs : List Str}, asStrs es = some zs → Pa X c Fr G M env es (zs.map D.s)
  | [], zs, h => by
    cases h
    exact a_nil
  | e :: es, zs, h => by
    unfold asStrs at h
    split at h
    · rename_i heq
      cases heq
    · rename_i z i p es' heq
      cases heq
      split at h
      · rename_i zs' h2
        cases h
        exact a_cons v_str (a_strs h2)
      · cases h
    · cases h
end Sx
end
section
/-! _law_great -/
set_option maxRecDepth 100000
set_option maxHeartbeats 1000000
namespace Sx
open PySem PySem.Spec PyProof.Rows L2 LamX NdefX
section
variable {P : Program} {w : World} {c : Cs} {mg : Str → Option Value} {base : Heap}
def tabG (t : Addr) : Addr × Ob := (t, .tab "_law_great.<locals>.<lambda>")
def S_great (tg : Addr) : List D → List (Addr × List D) → Mm → (D → Mm → Prop) → Prop := fun ds L M0 Z => ∃ (rw scr : Addr) (ns : List Int) (o : Ob), ds = [.p rw] ∧ L = [(scr, ns.map D.i)] ∧ M0 = [(rw, o), tabG tg] ∧ RwOk scr o ∧
  Z = fun d Mn => ∃ (p : Addr) (cs : List Crd) (o' : Ob), d = .p p ∧ drwOk cs ∧ cs.length = 16 ∧ RwOk scr o' ∧ Mn = [(p, .lst (cs.map cardD)), (rw, o'), tabG tg]
theorem great_body : ∃ (es : List Expr) (p1 p2 p3 : Pos), asStrs es = some names16 ∧ defBody st_law_great = .Assign [.Name "_law_names" p1] (.List es p2) p3 :: (defBody st_law_great).tail := ⟨_, _, _, _, by decide +kernel, rfl⟩
theorem ok_great {tg : Addr} (T : Tx c mg) (B : TbD c mg base (He.ga c.K "_law_great") tg) : FnAt P w c.K mg base "_law_great" 6 (spM c (S_great tg)) := by
  obtain ⟨hm, fd, F⟩ := T.d_law_great
  obtain ⟨cc, hcc, TB⟩ := B.of F
  refine ⟨_, hm, F.kp, fnMC F sc_law_great (fun _ _ _ _ _ _ us hl => match us, hl with | [_], _ => rfl) rfl (fun ds L M0 Z h => ?_) 8 rfl fun cdv hcv A0 outer s H0 Fr E ds L M0 Z σ hr h hL A Q q => ?_⟩
  · obtain ⟨rw, scr, ns, o, rfl, _⟩ := h
    rfl
  · obtain ⟨rw, scr, ns, o, rfl, rfl, rfl, hro, rfl⟩ := h
    rw [hcc] at hcv
    subst hcv
    have hls := hL (scr, ns.map D.i) List.mem_cons_self
    obtain ⟨es, p1, p2, p3, hes, hb⟩ := great_body
    show WB _ (defBody st_law_great) _ _ _
    rw [hb]
    refine x_setL 1 sc_law_great.nd (l_lst (a_strs hes) (Nat.le_of_ble_eq_true rfl)) A fun nm σ1 H1 A1 => ?_
    obtain ⟨Fr2, e2, hnm, A2⟩ := A1.freeze
    have hls2 := hls.ex e2
    refine x_setL 2 sc_law_great.nd (l_lst a_nil) A2 fun fo σ3 H3 A3 => ?_
    refine x_for rfl PassesOwn.never (fun i M' env' => ∃ (cs : List Crd) (o' : Ob) (o3 o4 o5 o6 : Option D), M' = [(fo, .lst (cs.map cardD)), (rw, o'), tabG tg] ∧ env' = [some (.p rw), some (.p nm), some (.p fo), o3, o4, o5, o6, none, none] ∧ cs.length = i ∧ (∀ r ∈ cs, r.Ok) ∧ RwOk scr o') (i_rng (n := 16) T.n_range (a_cons v_int a_nil) (by omega)) A3 ⟨[], o, none, none, none, none, rfl, rfl, rfl, (fun r hr => nomatch hr), hro⟩ (fun i d M' env' Fr' Gx hd hI hE => ?_) (fun M' env' σ' H' hI A' => ?_)
    · obtain ⟨cs, o1, o3, o4, o5, o6, rfl, rfl, hci, hcs, hro1⟩ := hI
      have hil : i < 16 := by
        have := (List.getElem?_eq_some_iff.mp hd).1
        simpa using this
      rw [List.getElem?_map, List.getElem?_range hil] at hd
      cases hd
      have hls3 := hls2.ex hE
      have hnm3 := hnm.ex hE
      have hni : (names16.map D.s)[i]? = some (D.s (names16[i]'hil)) := by
        rw [List.getElem?_map, List.getElem?_eq_getElem (show i < names16.length from hil)]
        rfl
      refine ⟨_, _, g_name 3 sc_law_great.nd, fun σ4 H4 A4 => ?_⟩
      refine x_setE 4 sc_law_great.nd (Z := fun d M' => ∃ (z : Str) (o' : Ob), d = .s z ∧ z ∈ names16 ∧ RwOk scr o' ∧ M' = [(rw, o'), (fo, .lst (cs.map cardD)), tabG tg]) (e_ifE (Zt := fun b M' => ∃ o', RwOk scr o' ∧ M' = [(rw, o'), (fo, .lst (cs.map cardD)), tabG tg]) (et_cmp op_gt (e_taken (many := 3) T rfl hr (v_var 0) v_int (List.Perm.swap _ _ _) hro1 hls3) (fun M1 => v_int) fun d M1 z => ?_) (fun M1 z => ?_) fun M1 z => ?_) A4 fun d M' σ5 H5 z A5 => ?_
      · obtain ⟨k, o', a1, rfl, a3, rfl⟩ := z
        exact ⟨_, rv_I0, o', a3, rfl⟩
      · obtain ⟨o', a3, rfl⟩ := z
        exact fun σ H A Q q => Pv.ev (v_ixL (ds := names16.map D.s) rfl (v_var 1) (.inl hnm3) (v_var 3) (atI_nat hni)) σ H A Q fun d M' v H2 zz A2 i2 r2 => q d M' v H2 ⟨names16[i]'hil, o', zz.1, List.getElem_mem _, a3, zz.2⟩ A2 i2 r2
      · obtain ⟨o', a3, rfl⟩ := z
        exact fun σ H A Q q => (e_pick T rfl hr (v_var 0) (v_var 1) (List.Perm.refl _) a3 hls3 (.inl hnm3) (by decide) (by decide)) σ H A Q fun d M' v H2 zz A2 i2 r2 => by
          obtain ⟨o2, b1, b2, rfl⟩ := zz
          obtain ⟨z, hz, rfl⟩ := List.mem_map.mp b1
          exact q _ _ v H2 ⟨z, o2, rfl, hz, b2, rfl⟩ A2 i2 r2
      · obtain ⟨h, o2, rfl, hh, hro2, rfl⟩ := z
        have hhw := names_words h hh
        refine x_setLc 5 [("_law_name", 7)] names16 D.s (fun z => !decide (z = h)) D.s rfl sc_law_great.nd (i_lst rfl (v_var 1) hnm3) (blkOk_by (N := N_law_great) (sc := defScope st_law_great) (by decide +kernel)) (by decide) (fun z hz acc Fr4 Gx4 Dl e4 => ⟨_, _, fun s H C cl fp => g_name 7 sc_law_great.nd, fun j hj => hj, fun s H C cl fp => n_one (Pt.is (t_cmp op_ne (v_var 7) (v_var 4) rv_ne) (by rw [dec_str])), fun _ s H C cl fp => v_var 7⟩) A5 fun ot σ6 H6 A6 => ?_
        have A6 : At c Fr' (Gx ++ []) [(ot, Ob.lst ((othersF h).map D.s)), (rw, o2), (fo, .lst (cs.map cardD)), tabG tg] _ σ6 H6 := A6
        have hol := others_len (h := h)
        have hop := others_pos (h := h)
        refine x_ifE (Zt := fun b M' => ∃ o', RwOk scr o' ∧ M' = [(rw, o'), (ot, Ob.lst ((othersF h).map D.s)), (fo, .lst (cs.map cardD)), tabG tg]) (et_cmp op_eq (e_taken (many := 4) T rfl hr (v_var 0) v_int (List.Perm.swap _ _ _) hro2 hls3) (fun M1 => v_int) fun d M1 z => ?_) A6 (fun M1 H7 z A7 => ?_) fun M1 H7 z A7 => ?_
        · obtain ⟨k, o', a1, rfl, a3, rfl⟩ := z
          exact ⟨_, rv_eq, o', a3, rfl⟩
        · obtain ⟨o3, hro3, rfl⟩ := z
          refine x_exp (e_app (Z := fun d M2 => ∃ (z : Str) (o' : Ob), d = cardD (⟨h, [], z, []⟩ : Crd) ∧ z ∈ othersF h ∧ RwOk scr o' ∧ M2 = [(rw, o'), (ot, Ob.lst ((othersF h).map D.s)), (fo, .lst (cs.map cardD)), tabG tg]) (Z2 := fun d M2 => ∃ (z : Str) (o' : Ob), z ∈ othersF h ∧ RwOk scr o' ∧ M2 = [(rw, o'), (ot, Ob.lst ((othersF h).map D.s)), (fo, .lst ((cs ++ [(⟨h, [], z, []⟩ : Crd)]).map cardD)), tabG tg]) rfl (v_var 2) (.inr (List.mem_cons_of_mem _ (List.mem_cons_of_mem _ List.mem_cons_self))) (e_tup (Z := fun ds M2 => ∃ (z : Str) (o' : Ob), ds = [.s h, .t [], .s z, .t []] ∧ z ∈ othersF h ∧ RwOk scr o' ∧ M2 = [(rw, o'), (ot, Ob.lst ((othersF h).map D.s)), (fo, .lst (cs.map cardD)), tabG tg]) (ea_v (v_var 4) (ea_v (v_tup a_nil) (ea_cons (e_pick (xs := (othersF h).map D.s) T rfl hr (v_var 0) (v_var 5) (List.Perm.refl _) hro3 hls3 (.inr List.mem_cons_self) (by rw [List.length_map]; exact hop) (by rw [List.length_map]; omega)) fun d M' z => ?_))) fun ds M' z => ?_) (fun d M' z => ?_)) A7 fun d M' H8 z A8 => ?_
          · obtain ⟨o', b1, b2, rfl⟩ := z
            obtain ⟨z, hz, rfl⟩ := List.mem_map.mp b1
            exact ea_v (v_tup a_nil) (ea_nil ⟨z, o', rfl, hz, b2, rfl⟩)
          · obtain ⟨z, o', rfl, b1, b2, rfl⟩ := z
            exact ⟨Nat.le_of_ble_eq_true rfl, z, o', rfl, b1, b2, rfl⟩
          · obtain ⟨z, o', rfl, b1, b2, rfl⟩ := z
            refine ⟨2, cs.map cardD, rfl, by rw [List.length_map]; omega, z, o', b1, b2, ?_⟩
            rw [List.map_append]
            rfl
          · obtain ⟨z, o', b1, b2, rfl⟩ := z
            have hz := others_mem b1
            refine x_nil (x_nil ⟨_, _, ⟨cs ++ [(⟨h, [], z, []⟩ : Crd)], o', _, _, _, _, rfl, rfl, by rw [List.length_append, hci]; rfl, fun r hr => ?_, b2⟩, (A8.less (List.Sublist.cons₂ _ ((List.Sublist.refl _).cons _))).perm (List.Perm.swap _ _ _)⟩)
            rcases List.mem_append.mp hr with hr | hr
            · exact hcs r hr
            · rw [List.mem_singleton.mp hr]
              exact ⟨hhw, ⟨Nat.le_of_ble_eq_true rfl, (fun x hx => nomatch hx), List.Pairwise.nil⟩, ⟨Nat.le_of_ble_eq_true rfl, List.nodup_nil, fun x hx => nomatch hx⟩, .inr ⟨rfl, rfl, hz.1, hz.2⟩⟩
        · obtain ⟨o3, hro3, rfl⟩ := z
          refine x_setE 6 sc_law_great.nd (Z := fun d M' => ∃ (q : Addr) (bs : List Int) (o' : Ob), d = .t (bs.map D.i) ∧ Tomes bs ∧ bs.length ≤ 6 ∧ RwOk scr o' ∧ M' = (q, Ob.lst (bs.map D.i)) :: (rw, o') :: [(ot, Ob.lst ((othersF h).map D.s)), (fo, .lst (cs.map cardD)), tabG tg]) (e_tupL T.n_tuple rfl (e_lcE [("_law_j", 8)] (fun ds M1 => ∃ (n : Nat) (o' : Ob), n < 7 ∧ ds = (List.range n).map natD ∧ RwOk scr o' ∧ M1 = (rw, o') :: [(ot, Ob.lst ((othersF h).map D.s)), (fo, .lst (cs.map cardD)), tabG tg]) (fun ds i M' acc => ∃ (n : Nat) (bs : List Int) (o' : Ob), n < 7 ∧ ds = (List.range n).map natD ∧ acc = bs.map D.i ∧ Tomes bs ∧ bs.length = i ∧ RwOk scr o' ∧ M' = (rw, o') :: [(ot, Ob.lst ((othersF h).map D.s)), (fo, .lst (cs.map cardD)), tabG tg]) rfl sc_law_great.nd (i_rngE T.n_range (e_taken (many := 7) T rfl hr (v_var 0) v_int (List.Perm.refl _) hro3 hls3) (fun d M1 z => ?_)) (blkOk_by (N := N_law_great) (sc := defScope st_law_great) (by decide +kernel)) (fun ds M1 z => ?_) (fun ds i M' acc hi z => ?_) (fun ds i d M' acc Fr' Gx Dl hdi z e => ?_)) fun d M' z => ?_) A7 fun d M' σ8 H8 z A8 => ?_
          · obtain ⟨k, o', a1, rfl, a3, rfl⟩ := z
            exact ⟨k, rfl, by omega, k, o', a1, rfl, a3, rfl⟩
          · obtain ⟨n, o', a1, rfl, a3, rfl⟩ := z
            exact ⟨⟨n, [], o', a1, rfl, rfl, (fun i b e => nomatch e), rfl, a3, rfl⟩, by rw [List.length_map, List.length_range]; omega⟩
          · obtain ⟨n, bs, o', a1, rfl, rfl, a2, a3, a4, rfl⟩ := z
            rw [List.length_map, a3]
            exact Nat.le_refl _
          · obtain ⟨n, bs, o', a1, rfl, rfl, a2, a3, a4, rfl⟩ := z
            have hin : i < n := by
              have := (List.getElem?_eq_some_iff.mp hdi).1
              simpa using this
            rw [List.getElem?_map, List.getElem?_range hin] at hdi
            cases hdi
            refine ⟨_, _, true, fun s H C cl fp => g_name 8 sc_law_great.nd, fun j hj => hj, fun s H C cl fp => n_nil, fun _ s H C cl fp => ?_, fun h => nomatch h⟩
            refine Ev.imp (Z := fun d M2 => ∃ (t : Nat) (o' : Ob), t < 150 ∧ RwOk scr o' ∧ d = .i (1 + 160 * (i : Int) + (t : Int)) ∧ M2 = (rw, o') :: (Dl, Ob.lst (bs.map D.i)) :: [(ot, Ob.lst ((othersF h).map D.s)), (fo, .lst (cs.map cardD)), tabG tg]) (e_op2 op_add (v_op op_add v_int (v_op op_mul v_int (v_var 8) (rv_I (.inl ⟨by decide, by decide⟩))) rv_I0) (e_taken (many := 150) (Mr := (Dl, Ob.lst (bs.map D.i)) :: [(ot, Ob.lst ((othersF h).map D.s)), (fo, .lst (cs.map cardD)), tabG tg]) T rfl hr (v_var 0) v_int (List.Perm.swap _ _ _) a4 (hls3.ex e)) fun d M1 z => by
              obtain ⟨t, o', b1, rfl, b3, rfl⟩ := z
              exact ⟨_, rv_I0, t, o', b1, b3, rfl, rfl⟩) fun d M1 z => ?_
            obtain ⟨t, o', b1, b3, rfl, rfl⟩ := z
            have hb2 := a2.snoc b1
            rw [a3] at hb2
            refine ⟨_, List.Perm.swap _ _ _, _, rfl, n, bs ++ [1 + 160 * (i : Int) + (t : Int)], o', a1, rfl, ?_, hb2, ?_, b3, rfl⟩
            · rw [List.map_append]
              rfl
            · rw [List.length_append, a3]
              rfl
          · obtain ⟨ds, l, M2, acc, rfl, rfl, n, bs, o', a1, rfl, rfl, a2, a3, a4, rfl⟩ := z
            rw [List.length_map, List.length_range] at a3
            exact ⟨l, bs.map D.i, rfl, .inr List.mem_cons_self, l, bs, o', rfl, a2, by omega, a4, rfl⟩
          · obtain ⟨q1, bs, o4, rfl, hbs, hbl, hro4, rfl⟩ := z
            have A8 := A8.drop1
            refine x_exp (e_app (Z := fun d M2 => ∃ (al : List Str) (o' : Ob) (p1 p2 : Addr) (r1 r2 : Ob), d = cardD (⟨h, bs, ("" : Str), al⟩ : Crd) ∧ othersOk h al ∧ RwOk scr o' ∧ M2 = [(p1, r1), (rw, o'), (p2, r2), (ot, Ob.lst ((othersF h).map D.s)), (fo, .lst (cs.map cardD)), tabG tg]) (Z2 := fun d M2 => ∃ (al : List Str) (o' : Ob) (p1 p2 : Addr) (r1 r2 : Ob), othersOk h al ∧ RwOk scr o' ∧ M2 = [(p1, r1), (rw, o'), (p2, r2), (ot, Ob.lst ((othersF h).map D.s)), (fo, .lst ((cs ++ [(⟨h, bs, ("" : Str), al⟩ : Crd)]).map cardD)), tabG tg]) rfl (v_var 2) (.inr (List.mem_cons_of_mem _ (List.mem_cons_of_mem _ List.mem_cons_self))) (e_tup (Z := fun ds M2 => ∃ (al : List Str) (o' : Ob) (p1 p2 : Addr) (r1 r2 : Ob), ds = [.s h, .t (bs.map D.i), .s ("" : Str), .t (al.map D.s)] ∧ othersOk h al ∧ RwOk scr o' ∧ M2 = [(p1, r1), (rw, o'), (p2, r2), (ot, Ob.lst ((othersF h).map D.s)), (fo, .lst (cs.map cardD)), tabG tg]) (ea_v (v_var 4) (ea_v (v_var 6) (ea_v v_str (ea_cons (e_tupL (Z2 := fun d M2 => ∃ (al : List Str) (o' : Ob) (p1 p2 : Addr) (r1 r2 : Ob), d = .t (al.map D.s) ∧ othersOk h al ∧ RwOk scr o' ∧ M2 = [(p1, r1), (rw, o'), (p2, r2), (ot, Ob.lst ((othersF h).map D.s)), (fo, .lst (cs.map cardD)), tabG tg]) T.n_tuple rfl (e_takeLE (Z2 := fun d M2 => ∃ (al : List Str) (o' : Ob) (p1 p2 : Addr) (r2 : Ob), d = .p p1 ∧ othersOk h al ∧ RwOk scr o' ∧ M2 = [(p1, Ob.lst (al.map D.s)), (rw, o'), (p2, r2), (ot, Ob.lst ((othersF h).map D.s)), (fo, .lst (cs.map cardD)), tabG tg]) rfl (e_mixed (xs := (othersF h).map D.s) T rfl hr (v_var 0) (v_var 5) (List.Perm.refl _) hro4 hls3 (.inr List.mem_cons_self) (flat_strs fun z hz => (others_mem hz).1) (by rw [List.length_map]; omega)) (fun d M1 z => ?_)) (fun d M1 z => ?_)) fun d M' z => ?_)))) fun ds M' z => ?_) (fun d M' z => ?_)) A8 fun d M' H9 z A9 => ?_
            · obtain ⟨p, ys, o', rfl, hys, hr5, rfl⟩ := z
              obtain ⟨es, rfl, hel, hem, hnd⟩ := perm_map (fun x y h => by cases h; rfl) hys
              refine ⟨p, rfl, Ev.less (e_taken (many := 5) T rfl hr (v_var 0) v_int (List.Perm.swap _ _ _) hr5 hls3) fun d2 M2 z2 => ?_⟩
              obtain ⟨k, o2, b1, rfl, b3, rfl⟩ := z2
              refine ⟨_, _, List.Perm.refl _, List.Sublist.refl _, k, es.map D.s, rfl, .inr (List.mem_cons_of_mem _ List.mem_cons_self), fun p2 => ⟨es.take k, o2, p2, p, Ob.lst (es.map D.s), rfl, ?_, b3, ?_⟩⟩
              · have nd : (othersF h).Nodup := names_nd.filter _
                exact ⟨by rw [List.length_take]; omega, (hnd nd).sublist (List.take_sublist _ _), fun z hz => others_mem (hem z (List.mem_of_mem_take hz))⟩
              · rw [List.map_take]
            · obtain ⟨al, o', p1, p2, r2, rfl, b1, b2, rfl⟩ := z
              exact ⟨p1, al.map D.s, rfl, .inr List.mem_cons_self, al, o', p1, p2, _, r2, rfl, b1, b2, rfl⟩
            · obtain ⟨al, o', p1, p2, r1, r2, rfl, b1, b2, rfl⟩ := z
              exact ea_nil ⟨al, o', p1, p2, r1, r2, rfl, b1, b2, rfl⟩
            · obtain ⟨al, o', p1, p2, r1, r2, rfl, b1, b2, rfl⟩ := z
              exact ⟨Nat.le_of_ble_eq_true rfl, al, o', p1, p2, r1, r2, rfl, b1, b2, rfl⟩
            · obtain ⟨al, o', p1, p2, r1, r2, rfl, b1, b2, rfl⟩ := z
              refine ⟨4, cs.map cardD, rfl, by rw [List.length_map]; omega, al, o', p1, p2, r1, r2, b1, b2, ?_⟩
              rw [List.map_append]
              rfl
            · obtain ⟨al, o', p1, p2, r1, r2, b1, b2, rfl⟩ := z
              refine x_nil (x_nil ⟨_, _, ⟨cs ++ [(⟨h, bs, ("" : Str), al⟩ : Crd)], o', _, _, _, _, rfl, rfl, by rw [List.length_append, hci]; rfl, fun r hr => ?_, b2⟩, (A9.less (.cons _ (List.Sublist.cons₂ _ (.cons _ (.cons _ (List.Sublist.refl _)))))).perm (List.Perm.swap _ _ _)⟩)
              rcases List.mem_append.mp hr with hr | hr
              · exact hcs r hr
              · rw [List.mem_singleton.mp hr]
                exact ⟨hhw, hbs.ok hbl, b1, .inl rfl⟩
    · obtain ⟨cs, o1, o3, o4, o5, o6, rfl, rfl, hci, hcs, hro1⟩ := hI
      have hcl : cs.length = 16 := by simpa using hci
      have hdr : drwOk cs := ⟨by omega, hcs⟩
      refine x_retE (Z := fun d M' => ∃ (p : Addr) (cs' : List Crd) (o' : Ob) (Mx : Mm), d = .p p ∧ drwOk cs' ∧ cs'.length = 16 ∧ RwOk scr o' ∧ M' = (p, .lst (cs'.map cardD)) :: (rw, o') :: Mx ++ [tabG tg]) (e_ifE (Zt := fun b M' => ∃ o', RwOk scr o' ∧ M' = [(rw, o'), (fo, .lst (cs.map cardD)), tabG tg]) (et_cmp op_gt (e_taken (many := 3) T rfl hr (v_var 0) v_int (List.Perm.swap _ _ _) hro1 hls2) (fun M1 => v_int) fun d M1 z => ?_) (fun M1 z => ?_) fun M1 z => ?_) A' fun d M' v H' z A2 i r => ?_
      · obtain ⟨k, o', a1, rfl, a3, rfl⟩ := z
        exact ⟨_, rv_I0, o', a3, rfl⟩
      · obtain ⟨o', a3, rfl⟩ := z
        refine Ev.less (e_mixed (xs := cs.map cardD) T rfl hr (v_var 0) (v_var 2) (List.Perm.refl _) a3 hls2 (.inr List.mem_cons_self) (flat_cards cs hcs) (by rw [List.length_map]; omega)) fun d M' z => ?_
        obtain ⟨p, ys, o2, rfl, hys, hr5, rfl⟩ := z
        obtain ⟨es, rfl, hel, hem, hnd⟩ := perm_map (fun x y h => cardD_inj h) hys
        exact ⟨_, _, List.Perm.refl _, List.Sublist.refl _, p, es, o2, [(fo, .lst (cs.map cardD))], rfl, ⟨by omega, fun r hr => hcs r (hem r hr)⟩, by omega, hr5, rfl⟩
      · obtain ⟨o', a3, rfl⟩ := z
        refine Ev.less (Pl.ev (Pl.is (l_sortKeyL (k := 2) keyT T.n_sorted rfl hr (v_var 2) (.inr (List.mem_cons_of_mem _ List.mem_cons_self)) (v_lam 2 TB rfl rfl rfl) (fun d hd H e u v hu hv => ?_) fun H u hu => ?_) (keyT_sort cs))) fun d M' z => ?_
        · obtain ⟨r, hr1, rfl⟩ := List.mem_map.mp hd
          exact lam_calls (k := 2) (nscope_by (by decide +kernel)) (fun _ _ _ _ _ => rfl) rfl (rp_lam.mp hu) hv fun A1 outer1 s1 f1 c1 E1 hr1 => v_ixT rfl (v_var 0) v_int (atI_nat rfl)
        · obtain ⟨f, _, e, _⟩ := rp_lam.mp hu
          exact ⟨f, e⟩
        · obtain ⟨l, rfl, rfl⟩ := z
          have fo2 := filed_ok hdr
          exact ⟨_, _, List.Perm.refl _, List.Sublist.refl _, l, filedM cs, o', [(fo, .lst (cs.map cardD))], rfl, fo2, by unfold filedM; rw [ksort_len]; exact hcl, a3, rfl⟩
      · obtain ⟨p, cs', o', Mx, rfl, b1, b2, b3, rfl⟩ := z
        exact q _ _ _ _ _ v H' ⟨p, cs', o', rfl, b1, b2, b3, rfl⟩ ((A2.back (G := []) e2 (fun p hp => absurd hp List.not_mem_nil)).less (.cons₂ _ (.cons₂ _ (List.sublist_append_right _ _)))) r
end
end Sx
end
section
/-! _law_rising -/
set_option maxRecDepth 100000
set_option maxHeartbeats 1000000
namespace Sx
open PySem PySem.Spec PyProof.Rows L2 LamX NdefX
section
variable {X : Cx} {c : Cs} {Fr : Hp} {G : List (V × D)} {M : Mm} {env : En} {e : Expr} {p1 p2 : Pos} {l : Addr} {ns : List Int} {m : Int}
def TopI (ns : List Int) (m : Int) : Prop := 0 < ns.length ∧ ∀ k, k ∈ ns → (∀ y, y ∈ ns → y ≤ k) → k = m
theorem v_maxN (hc : X.calm = true) (hm : X.mg "max" = none) (hK : X.K = c.K) (h : Pl X c Fr G M env e (ns.map D.i)) (ht : TopI ns m) (hg : Gl X "max" := by rfl) (hs : starEach (e :: []) X.env = (false, eval e X.env) :: starEach [] X.env := by rfl) (hpl : (backTo p2 (starEach [] X.env)).any (·.1) = false := by rfl) : Pv X c Fr G M env (.Call (.Name "max" p1) [e] [] p2) (.i m) := fun σ H A Q q =>
  (pe_callB (cr_max hc) hg hm boot_max (pa_cons we pa_nil hs) (by decide) (by decide) hs hpl).w (h σ H A _ fun l1 H1 A1 i1 => by
    obtain ⟨xs, h3, h4⟩ := A1.ls (.inr List.mem_cons_self)
    have e1 : ns.map D.i = (ns.map V.int).map D.v := by rw [List.map_map]; rfl
    rw [e1] at h4
    rw [h4.vmap_eq] at h3
    refine ⟨l1, ns, rfl, .inl h3, ht.1, fun k k1 k2 => ?_⟩
    rw [ht.2 k k1 k2]
    exact q _ _ A1.drop1 i1 (rp_v.mpr rfl))
theorem v_maxL (hc : X.calm = true) (hm : X.mg "max" = none) (hK : X.K = c.K) (h : Pv X c Fr G M env e (.p l)) (hl : LsOf c Fr M l (ns.map D.i)) (ht : TopI ns m) (hg : Gl X "max" := by rfl) (hs : starEach (e :: []) X.env = (false, eval e X.env) :: starEach [] X.env := by rfl) (hpl : (backTo p2 (starEach [] X.env)).any (·.1) = false := by rfl) : Pv X c Fr G M env (.Call (.Name "max" p1) [e] [] p2) (.i m) := fun σ H A Q q =>
  (pe_callB (cr_max hc) hg hm boot_max (pa_cons we pa_nil hs) (by decide) (by decide) hs hpl).w (h σ H A _ fun v H1 A1 i1 r => by
    obtain ⟨xs, h3, h4⟩ := A1.ls hl
    have e1 : ns.map D.i = (ns.map V.int).map D.v := by rw [List.map_map]; rfl
    rw [e1] at h4
    rw [h4.vmap_eq] at h3
    refine ⟨l, ns, by rw [rp_v.mp r], .inl h3, ht.1, fun k k1 k2 => ?_⟩
    rw [ht.2 k k1 k2]
    exact q _ _ A1 i1 (rp_v.mpr rfl))
end
def maxN (ns : List Nat) : Nat := ns.foldr Nat.max 0
theorem maxN_le {ns : List Nat} : ∀ y ∈ ns, y ≤ maxN ns := by
  induction ns with
  | nil => exact fun y hy => nomatch hy
  | cons a ns ih =>
    intro y hy
    have e : maxN (a :: ns) = max a (maxN ns) := rfl
    rcases List.mem_cons.mp hy with rfl | hy
    · rw [e]; exact Nat.le_max_left _ _
    · rw [e]; exact Nat.le_trans (ih y hy) (Nat.le_max_right _ _)
theorem maxN_mem {ns : List Nat} : maxN ns = 0 ∨ maxN ns ∈ ns := by
  induction ns with
  | nil => exact .inl rfl
  | cons a ns ih =>
    have e : maxN (a :: ns) = max a (maxN ns) := rfl
    rcases Nat.le_total a (maxN ns) with h | h
    · rw [e, Nat.max_eq_right h]
      rcases ih with ih | ih
      · exact .inl ih
      · exact .inr (List.mem_cons_of_mem _ ih)
    · rw [e, Nat.max_eq_left h]
      exact .inr List.mem_cons_self
theorem top_cons {ns : List Nat} : TopI (0 :: ns.map fun (n : Nat) => (n : Int)) ((maxN ns : Nat) : Int) := by
  refine ⟨Nat.succ_pos _, fun k hk hy => ?_⟩
  have h1 : ((maxN ns : Nat) : Int) ≤ k := by
    rcases maxN_mem (ns := ns) with h | h
    · rw [h]; exact hy 0 List.mem_cons_self
    · exact hy _ (List.mem_cons_of_mem _ (List.mem_map_of_mem h))
  have h2 : k ≤ ((maxN ns : Nat) : Int) := by
    rcases List.mem_cons.mp hk with rfl | hk
    · omega
    · obtain ⟨n, hn, rfl⟩ := List.mem_map.mp hk
      have := maxN_le n hn
      omega
  omega
theorem top_pos {ns : List Nat} (h : 0 < ns.length) : TopI (ns.map fun (n : Nat) => (n : Int)) ((maxN ns : Nat) : Int) := by
  refine ⟨by rw [List.length_map]; exact h, fun k hk hy => ?_⟩
  obtain ⟨n, hn, rfl⟩ := List.mem_map.mp hk
  have h3 := maxN_le n hn
  rcases maxN_mem (ns := ns) with h | h
  · omega
  · have := hy _ (List.mem_map_of_mem (f := fun (n : Nat) => (n : Int)) h)
    omega
/-- the length of the longest rising row that ends at each place -/
def upTo (hs : List Str) (rows : List Nat) (k : Nat) : Nat := 1 + maxN (((List.range k).filter fun j => !ltS (hs.getD k ("" : Str)) (hs.getD j ("" : Str))).map fun j => rows.getD j 0)
def rowsR (hs : List Str) : Nat → List Nat
  | 0 => []
  | k + 1 => rowsR hs k ++ [upTo hs (rowsR hs k) k]
theorem rowsR_len (hs : List Str) : ∀ k, (rowsR hs k).length = k
  | 0 => rfl
  | k + 1 => by
    unfold rowsR
    rw [List.length_append, rowsR_len hs k]
    rfl
def risingM (cs : List Crd) : Nat := maxN (rowsR (cs.map (·.h)) cs.length)
section
variable {P : Program} {w : World} {c : Cs} {mg : Str → Option Value} {base : Heap}
theorem rv_leS {a b : Str} : RV2 c (fun x y H Q => ∃ i j, x = .str i ∧ y = .str j ∧ Q (.bl (!decide (j.cps.toList < i.cps.toList))) H) (.s a) (.s b) (.b (!ltS b a)) := fun H x y Q h1 h2 k => ⟨_, _, rp_v.mp h1, rp_v.mp h2, k _ H (Ex.refl H) (rp_v.mpr rfl)⟩
def R_lawrising : List D → List (Addr × List D) → D → Prop := fun ds L d => ∃ (l : Addr) (cs : List Crd), ds = [.p l] ∧ L = [(l, cs.map cardD)] ∧ 0 < cs.length ∧ cs.length ≤ 16 ∧ d = natD (risingM cs)
theorem ok_lawrising (T : Tx c mg) : FnAt P w c.K mg base "_law_rising" 1 (spR c R_lawrising) := by
  refine T.d_law_rising.at_ fun f fd F => fnMR F sc_law_rising (fun _ _ _ _ _ _ us hl => match us, hl with | [_], _ => rfl) (fun ds L d h => ?_) 3 rfl fun cdv A0 outer s H0 Fr E ds L d σ hr h hL A Q q => ?_
  · obtain ⟨l, cs, rfl, _⟩ := h
    rfl
  · obtain ⟨l, cs, rfl, rfl, h0, h16, rfl⟩ := h
    have hls := hL (l, cs.map cardD) List.mem_cons_self
    have lD : (cs.map cardD).length = cs.length := List.length_map _
    refine x_setL 1 sc_law_rising.nd (l_lst a_nil) A fun ro σ1 H1 A1 => ?_
    refine x_for rfl PassesOwn.never (fun i M' env' => ∃ (o2 o3 : Option D), M' = [(ro, .lst ((rowsR (cs.map (·.h)) i).map natD))] ∧ env' = [some (.p l), some (.p ro), o2, o3]) (i_rng (n := cs.length) T.n_range (a_cons (Pv.is (v_lenL T.n_len rfl (v_var 0) (.inl hls)) (by rw [lD])) a_nil) (by omega)) A1 ⟨none, none, rfl, rfl⟩ (fun i d M' env' Fr' Gx hd hI hE => ?_) (fun M' env' σ' H' hI A' => ?_)
    · obtain ⟨o2, o3, rfl, rfl⟩ := hI
      have hil : i < cs.length := by
        have := (List.getElem?_eq_some_iff.mp hd).1
        simpa using this
      rw [List.getElem?_map, List.getElem?_range hil] at hd
      cases hd
      have hls' := hls.ex hE
      have row : ∀ j, j < cs.length → (cs.map cardD)[j]? = some (.t [.s ((cs.map (·.h)).getD j ("" : Str)), .t ((cs.getD j ⟨("" : Str), [], ("" : Str), []⟩).b.map D.i), .s (cs.getD j ⟨("" : Str), [], ("" : Str), []⟩).s, .t ((cs.getD j ⟨("" : Str), [], ("" : Str), []⟩).a.map D.s)]) := fun j hj => by
        rw [List.getElem?_map, List.getElem?_eq_getElem hj, getD_map hj]
        simp only [List.getD_eq_getElem?_getD, List.getElem?_eq_getElem hj, Option.getD_some]
        rfl
      refine ⟨_, _, g_name 2 sc_law_rising.nd, fun σ2 H2 A2 => ?_⟩
      refine x_app 0 (ds := (rowsR (cs.map (·.h)) i).map natD) (d := natD (upTo (cs.map (·.h)) (rowsR (cs.map (·.h)) i) i)) rfl (v_var 1) (Pv.is (v_op op_add v_int (v_maxN (ns := 0 :: ((((List.range i).filter fun j => !ltS ((cs.map (·.h)).getD i ("" : Str)) ((cs.map (·.h)).getD j ("" : Str))).map fun j => (rowsR (cs.map (·.h)) i).getD j 0).map fun (n : Nat) => (n : Int))) rfl T.n_max rfl (Pl.is (l_cat2 (xs := [D.i 0]) (ys := (((List.range i).filter fun j => !ltS ((cs.map (·.h)).getD i ("" : Str)) ((cs.map (·.h)).getD j ("" : Str))).map fun j => natD ((rowsR (cs.map (·.h)) i).getD j 0))) (l_lst (a_cons v_int a_nil)) (fun z => l_lc [("_law_j", 3)] (List.range i) natD (fun j => !ltS ((cs.map (·.h)).getD i ("" : Str)) ((cs.map (·.h)).getD j ("" : Str))) (fun j => natD ((rowsR (cs.map (·.h)) i).getD j 0)) rfl sc_law_rising.nd (i_rng (n := i) T.n_range (a_cons (v_var 2) a_nil) (by omega)) (blkOk_by (N := N_law_rising) (sc := defScope st_law_rising) (by decide +kernel)) (by rw [List.length_range]; omega) ?_) ?_) ?_) top_cons) rv_I0) ?_) A2 (by rw [List.length_map, rowsR_len]; omega) fun H3 A3 => ?_
      · intro j hj acc Fr2 Gx2 Dl e2
        have hji := List.mem_range.mp hj
        refine ⟨_, _, fun s H C cl fp => g_name 3 sc_law_rising.nd, fun j hj => hj, fun s H C cl fp => n_one (t_cmp op_le_str (v_ixT rfl (v_ixL rfl (v_var 0) (.inl (hls'.ex e2)) (v_var 3) (atI_nat (row j (by omega)))) v_int rfl) (v_ixT rfl (v_ixL rfl (v_var 0) (.inl (hls'.ex e2)) (v_var 2) (atI_nat (row i hil))) v_int rfl) rv_leS), fun _ s H C cl fp => v_ixL rfl (v_var 1) (.inr (List.mem_cons_of_mem _ (List.mem_cons_of_mem _ List.mem_cons_self))) (v_var 3) (atI_nat ?_)⟩
        rw [List.getElem?_map, List.getD_eq_getElem?_getD, List.getElem?_eq_getElem (by rw [rowsR_len]; exact hji)]
        rfl
      · have := List.length_filter_le (fun j => !ltS ((cs.map (·.h)).getD i ("" : Str)) ((cs.map (·.h)).getD j ("" : Str))) (List.range i)
        rw [List.length_range] at this
        rw [List.length_map]
        show 1 + _ ≤ _
        omega
      · rw [List.map_cons, List.map_map, List.map_map]
        rfl
      · unfold upTo natD
        congr 1
      · refine x_nil ⟨_, _, ⟨_, _, ?_, rfl⟩, A3⟩
        show _ = [(ro, Ob.lst ((rowsR (cs.map (·.h)) i ++ [upTo (cs.map (·.h)) (rowsR (cs.map (·.h)) i) i]).map natD))]
        rw [List.map_append]
        rfl
    · obtain ⟨o2, o3, rfl, rfl⟩ := hI
      rw [List.length_map, List.length_range] at A'
      refine x_ret (v_maxL (ns := (rowsR (cs.map fun r : Crd => r.h) cs.length).map fun (n : Nat) => (n : Int)) rfl T.n_max rfl (v_var 1) (.inr (by rw [List.map_map]; exact List.mem_cons_self)) (top_pos (by rw [rowsR_len]; exact h0))) A' fun v H' A'' r => q _ _ _ _ v H' A'' (show Rp c H' (.i (maxN (rowsR (cs.map (·.h)) cs.length) : Nat)) v from r)
end
end Sx
end
section
/-! rules for law -/
set_option maxRecDepth 100000
set_option maxHeartbeats 1000000
namespace Sx
open PySem PySem.Spec PyProof.Rows L2 LamX NdefX
section
variable {X : Cx} {c : Cs} {Fr H : Hp} {G : List (V × D)} {M : Mm} {env : En} {σ : L2.St} {a b e f o i : Expr} {as : List Stmt} {es : List Expr} {pos p1 p2 : Pos} {l : Addr} {ds : List D} {d : D} {p : PyData} {n k : Nat}
/-- for, over what comes behind an effect -/
theorem x_forE {D0 : Ends} {rest : List Stmt} (Zi : List D → Mm → Prop) (I : List D → Nat → Mm → En → Prop) (hc : X.calm = true) (hp : PassesOwn (model X.prog X.w) X.A X.env X.xe) (hi : Pe X c Fr G M env f e Zi) (A : At c Fr G M env σ H) (h0 : ∀ ds M1, Zi ds M1 → I ds 0 M1 env)
    (hs : ∀ (ds : List D) (i : Nat) (d : D) M' env' Fr' Gx, ds[i]? = some d → I ds i M' env' → Ex Fr Fr' → ∃ env2 js, Pg X c f d env' env2 js ∧ ∀ σ' H', At c Fr' (Gx ++ G) M' env2 σ' H' →
      WB X as { D0 with nx := fun σ2 H2 => ∃ M2 env3, I ds (i + 1) M2 env3 ∧ At c Fr' (Gx ++ G) M2 env3 σ2 H2, ct := fun σ2 H2 => ∃ M2 env3, I ds (i + 1) M2 env3 ∧ At c Fr' (Gx ++ G) M2 env3 σ2 H2, bk := fun σ H => WB X rest D0 σ H } σ' H')
    (hd : ∀ ds M' env' σ' H', I ds ds.length M' env' → At c Fr G M' env' σ' H' → WB X rest D0 σ' H')
    (hfs : ∀ x, foldedSetIterable e X.env x = pure x := by intro _; rfl) : WB X (.For f e as [] pos :: rest) D0 σ H := by
  refine x_cons ((ps_for hp hc wi wg wb hfs).w (hi σ H A _ fun ds M1 J Fr' Gx H2 z0 e1 A2 _ w => ?_))
  have back : ∀ (M' : Mm) (env' : En) (σ' : L2.St) (H' : Hp), At c Fr' (Gx ++ G) M' env' σ' H' → At c Fr G M' env' σ' H' := fun M' env' σ' H' B =>
    ⟨e1.trans B.fr, fun p hp => B.gh p (List.mem_append_right _ hp), fun p hp => ⟨e1.back (B.ob p hp).1, (B.ob p hp).2⟩, B.nd, B.sl, B.ln⟩
  refine for_it w (fun i σ' H' => ∃ M' env', I ds i M' env' ∧ At c Fr' (Gx ++ G) M' env' σ' H') ⟨M1, env, h0 ds M1 z0, A2⟩ (fun i σ' H' _ ⟨M', env', _, B⟩ => ⟨B.fr, fun p hp => B.gh p (List.mem_append_left _ hp)⟩) (fun i y σ' H' H'' hi ⟨M', env', z, B⟩ ⟨e2, r⟩ => ?_) (fun σ' H' ⟨M', env', z, B⟩ => hd ds M' env' σ' H' z (back _ _ _ _ B))
  have hd2 : ds[i]? = some ds[i] := by simp [hi]
  obtain ⟨env2, js, hg, k⟩ := hs ds i ds[i] M' env' Fr' Gx hd2 z e1
  exact hg Fr' (Gx ++ G) M' σ' H'' y (B.ex e2) (r _ hd2) _ fun σ3 B2 _ => k σ3 H'' B2
/-- over a list made behind an effect -/
theorem i_newE {Z0 : D → Mm → Prop} {Z2 : List D → Mm → Prop} (hK : X.K = c.K) (h : Ev X c Fr G M env e Z0) (hz : ∀ d M1, Z0 d M1 → ∃ l ds M2, d = .p l ∧ M1 = (l, .lst ds) :: M2 ∧ Z2 ds M2) : Pe X c Fr G M env f e Z2 := fun σ H A R k =>
  (pi_list we).w (h σ H A _ fun d M1 v H1 z A1 i1 r => by
    obtain ⟨a, ds, M2, rfl, rfl, z2⟩ := hz d M1 z
    obtain ⟨Fr', e1, h1, A2⟩ := A1.freeze
    obtain ⟨vs, h2, _⟩ := h1.ex A2.fr
    exact ⟨a, rp_v.mp r, ⟨vs, .inl h2⟩, k ds M2 _ Fr' [] H1 z2 e1 A2 i1 (i_lst_walk hK h1)⟩)
theorem t_same {m : Nat} (hK : X.K = c.K) (hr : Room m X.A) (ha : Pv X c Fr G M env a d) (hb : Pv X c Fr G M env b d) (hp : pyOf d = some p) (hs : Sh n p) (hn : n ≤ 64 := by decide) : Pt X c Fr G M env (.Compare a [.NotEq] [b] pos) false :=
  Pt.is (t_cmp (k := !PyData.eqv p p) (op_neD hr.units) ha hb (by rw [hK]; exact rv_neD hp hp (hs.ed hn) (hs.ed hn))) (by rw [SeqAt.eqv_refl p hs.1]; rfl)
/-- two lists made just now -/
theorem t_sameL {m : Nat} (hK : X.K = c.K) (hr : Room m X.A) (ha : Pl X c Fr G M env a ds) (hb : ∀ z, Pl X c Fr G (z :: M) env b ds) (hf : FlatL n ds) (hn : n < 60 := by decide) : Pt X c Fr G M env (.Compare a [.NotEq] [b] pos) false := fun σ H A Q q => by
  obtain ⟨ps, h1, h2, h3⟩ := flat_py hf
  have s1 := (sh_lst h2).ed (by omega)
  refine (pt_cmpR (op_neD hr.units) we we (nomark _)).w (ha σ H A _ fun l1 H1 A1 i1 => hb _ σ H1 A1 _ fun l2 H2 A2 i2 => ?_)
  obtain ⟨vs, g1, g2⟩ := A2.drop1.ls (.inr List.mem_cons_self)
  obtain ⟨us, g3, g4⟩ := A2.ls (.inr List.mem_cons_self)
  refine ⟨.list ps, .list ps, .lst (hK ▸ .inl g1) (hK ▸ dpAll_of h1 g2), .lst (hK ▸ .inl g3) (hK ▸ dpAll_of h1 g4), s1, s1, false, ?_, q H2 A2.drop1.drop1 (i1.trans i2)⟩
  rw [SeqAt.eqv_refl _ (sh_lst h2).1]
  rfl
theorem e_lenSE {Z0 Z2 : D → Mm → Prop} (hm : X.mg "len" = none) (he : Ev X c Fr G M env e Z0) (h : ∀ d M1, Z0 d M1 → ∃ z : Str, d = .s z ∧ z.length ≤ 100000 ∧ Z2 (natD z.length) M1) (hg : Gl X "len" := by rfl) (hs : starEach (e :: []) X.env = (false, eval e X.env) :: starEach [] X.env := by rfl) (hpl : (backTo p2 (starEach [] X.env)).any (·.1) = false := by rfl) : Ev X c Fr G M env (.Call (.Name "len" p1) [e] [] p2) Z2 := fun σ H A Q q =>
  (pe_callB call_len_str hg hm PySem.boot_len (pa_cons we pa_nil hs) (by decide) (by decide) hs hpl).w (he σ H A _ fun d M1 v H1 z A1 i1 r => by
    obtain ⟨y, rfl, hl, z2⟩ := h d M1 z
    exact ⟨y, by rw [rp_v.mp r], Nat.le_trans hl (by decide), q _ _ _ _ z2 A1 i1 (rp_v.mpr rfl)⟩)
theorem e_lenTE {Z0 Z2 : D → Mm → Prop} (hm : X.mg "len" = none) (hK : X.K = c.K) (he : Ev X c Fr G M env e Z0) (h : ∀ d M1, Z0 d M1 → ∃ ds, d = .t ds ∧ Z2 (natD ds.length) M1) (hg : Gl X "len" := by rfl) (hs : starEach (e :: []) X.env = (false, eval e X.env) :: starEach [] X.env := by rfl) (hpl : (backTo p2 (starEach [] X.env)).any (·.1) = false := by rfl) : Ev X c Fr G M env (.Call (.Name "len" p1) [e] [] p2) Z2 := fun σ H A Q q =>
  (pe_callB call_len_seq hg hm PySem.boot_len (pa_cons we pa_nil hs) (by decide) (by decide) hs hpl).w (he σ H A _ fun d M1 v H1 z A1 i1 r => by
    obtain ⟨ds, rfl, z2⟩ := h d M1 z
    obtain ⟨a, xs, rfl, h3, h4⟩ := rp_t.mp r
    exact ⟨a, xs, rfl, .inr (hK ▸ h3), by rw [h4.len]; exact q _ _ _ _ z2 A1 i1 (rp_v.mpr rfl)⟩)
/-- a call, its arguments with effects -/
theorem e_callE {k j : Nat} {x : Str} {S : List D → List (Addr × List D) → Mm → (D → Mm → Prop) → Prop} {Za : List D → Mm → Prop} {Z2 : D → Mm → Prop} (F : FnAt X.prog X.w X.K X.mg X.base x k (spM c S)) (hr : Room j X.A) (ha : Ea X c Fr G M env (e :: es) Za)
    (h : ∀ ds M1, Za ds M1 → ∃ L M0 Mr Z, M1.Perm (M0 ++ Mr) ∧ S ds L M0 Z ∧ (∀ p ∈ L, LsOf c Fr Mr p.1 p.2) ∧ ∀ d Mn, Z d Mn → Z2 d (Mn ++ Mr)) (hk : k ≤ j := by decide) (hg : Gl X x := by rfl) (hdb : (x == ("__debug__" : Str)) = false := by decide)
    (hst : starEach (e :: es) X.env = (false, eval e X.env) :: starEach es X.env := by rfl) (hpl : (backTo p2 (starEach es X.env)).any (·.1) = false := by rfl) : Ev X c Fr G M env (.Call (.Name x p1) (e :: es) [] p2) Z2 := fun σ H A Q q => by
  obtain ⟨f, hm, hkp, F⟩ := F
  refine (pe_callR (E := fun _ _ _ => False) F (hr.mono hk) hg hm hkp wa hdb hst hpl).w (ha σ H A _ fun ds M1 vs H1 za A1 i1 rs => ?_)
  obtain ⟨L, M0, Mr, Z, hM, hS, hL, hz⟩ := h ds M1 za
  exact A1.takes hM rs hS hL fun d Mn v H2 z A2 i2 rv => q d _ v H2 (hz d Mn z) A2 (i1.trans i2) rv
/-- a comparison's value, behind an effect -/
theorem e_cmp {op : CmpOp} {r : R2} {db : D} {Z0 Z2 : D → Mm → Prop} (ho : OpR X (compareOp op) r) (ha : Ev X c Fr G M env a Z0) (hb : ∀ M1, Pv X c Fr G M1 env b db) (h : ∀ d M1, Z0 d M1 → ∃ d', RV2 c r d db d' ∧ Z2 d' M1) (hm : behindInMarks op b = false := by first | exact nomark _ | rfl) : Ev X c Fr G M env (.Compare a [op] [b] pos) Z2 := fun σ H A Q q =>
  (pe_cmpR ho we we hm).w (ha σ H A _ fun d M1 x H1 z A1 i1 rx => hb M1 σ H1 A1 _ fun y H2 A2 i2 ry => by
    obtain ⟨d', hr, z2⟩ := h d M1 z
    exact hr H2 x y _ (rx.im i2) ry fun z H3 e3 rz => q d' M1 z H3 z2 (A2.ex e3) ((i1.trans i2).trans e3.im) rz)
theorem e_or {k : Bool} {Z : D → Mm → Prop} (h : Pv X c Fr G M env a (.b k)) (h1 : k = true → Z (.b true) M) (h2 : k = false → Ev X c Fr G M env (.BoolOp .Or (b :: es) pos) Z) : Ev X c Fr G M env (.BoolOp .Or (a :: b :: es) pos) Z := fun σ H A Q q =>
  (pe_or we we).w (h σ H A _ fun v H1 A1 i1 rv => ⟨k, rp_v.mp rv, by
    cases k with
    | true => exact iteT (q _ _ _ H1 (h1 rfl) A1 i1 (rp_v.mpr rfl))
    | false => exact iteF (h2 rfl σ H1 A1 _ fun d M' v H2 z A2 i2 => q d M' v H2 z A2 (i1.trans i2))⟩)
theorem e_one {op} {Z : D → Mm → Prop} (h : Ev X c Fr G M env a Z) : Ev X c Fr G M env (.BoolOp op [a] pos) Z := fun σ H A Q q => (pe_one we).w (h σ H A _ q)
/-- l[:k], a list behind an effect -/
theorem e_takeE {Z0 Z2 : D → Mm → Prop} (hK : X.K = c.K) (he : Ev X c Fr G M env e Z0) (ha : ∀ M1, Pv X c Fr G M1 env a (.i (k : Int))) (h : ∀ d M1, Z0 d M1 → ∃ l ds, d = .p l ∧ LsOf c Fr M1 l ds ∧ ∀ p, Z2 (.p p) ((p, .lst (ds.take k)) :: M1)) : Ev X c Fr G M env (.Subscript e (.Slice none (some a) none p2) pos) Z2 :=
  e_takeLE hK he fun d M1 z => by
    obtain ⟨l, ds, rfl, hl, z2⟩ := h d M1 z
    exact ⟨l, rfl, fun σ H A Q q => (Pv.ev (ha M1)) σ H A Q fun d M' v H2 zz A2 i2 r2 => q d M' v H2 (by
      obtain ⟨rfl, rfl⟩ := zz
      exact ⟨k, ds, rfl, hl, z2⟩) A2 i2 r2⟩
end
end Sx
end
section
/-! rising rows, in plain words -/
set_option maxRecDepth 100000
set_option maxHeartbeats 1000000
namespace Sx
open PySem PySem.Spec PyProof.Rows L2 LamX NdefX
def leJ (hs : List Str) (J : List Nat) : Prop := J.Pairwise fun i j => ltS (hs.getD j ("" : Str)) (hs.getD i ("" : Str)) = false
def restI (n : Nat) (ps : List Nat) : List Nat := (List.range n).filter fun i => decide (i ∉ ps)
theorem sol_iff (cs : List Crd) (ps : List Nat) : sol cs ps = true ↔ leJ (cs.map (·.h)) (restI cs.length ps) := by
  have e : leJ (cs.map (·.h)) (restI cs.length ps) ↔ SrtO.Srtd (ltF fun r : Crd => r.h) (wout cs ps) := by
    show _ ↔ List.Pairwise _ (((List.range cs.length).filter fun i => decide (i ∉ ps)).filterMap (cs[·]?))
    rw [List.pairwise_filterMap]
    refine List.Pairwise.iff_of_mem fun {i j} hi hj => ?_
    have hi := List.mem_range.mp (List.mem_filter.mp hi).1
    have hj := List.mem_range.mp (List.mem_filter.mp hj).1
    rw [getD_map hi, getD_map hj]
    constructor
    · intro h a ha b hb
      rw [List.getElem?_eq_getElem hi] at ha
      rw [List.getElem?_eq_getElem hj] at hb
      cases ha
      cases hb
      exact h
    · intro h
      exact h _ (List.getElem?_eq_getElem hi) _ (List.getElem?_eq_getElem hj)
  rw [e]
  unfold sol filedM
  rw [decide_eq_true_eq]
  constructor
  · intro h
    have := ksort_srtd (fun r : Crd => r.h) (wout cs ps)
    rw [h] at this
    exact this
  · intro h
    exact (ksort_uniq h (SrtO.Stb.refl _)).symm
theorem lt_uniq {l m : List Nat} (h : l.Pairwise (· < ·)) (k : m.Pairwise (· < ·)) (e : ∀ x, x ∈ l ↔ x ∈ m) : l = m := strict_uniq (fun x => Nat.lt_irrefl x) (fun x y h k => Nat.lt_asymm h k) h k e
theorem range_lt (n : Nat) : (List.range n).Pairwise (· < ·) := List.pairwise_lt_range
theorem restI_lt (n : Nat) (ps : List Nat) : (restI n ps).Pairwise (· < ·) := (range_lt n).filter _
theorem restI_mem {n : Nat} {ps : List Nat} {x : Nat} : x ∈ restI n ps ↔ x < n ∧ x ∉ ps := by
  unfold restI
  rw [List.mem_filter, List.mem_range, decide_eq_true_eq]
theorem restI_rest {n : Nat} {J : List Nat} (h : J.Pairwise (· < ·)) (hn : ∀ x ∈ J, x < n) : restI n (restI n J) = J := lt_uniq (restI_lt _ _) h fun x => by
  rw [restI_mem, restI_mem]
  constructor
  · rintro ⟨h1, h2⟩
    by_cases q : x ∈ J
    · exact q
    · exact absurd ⟨h1, q⟩ h2
  · exact fun q => ⟨hn x q, fun k => k.2 q⟩
theorem restI_len {n : Nat} {ps : List Nat} (h : ps.Pairwise (· < ·)) (hn : ∀ x ∈ ps, x < n) : (restI n ps).length + ps.length = n := by
  have e : (List.range n).filter (fun i => !decide (i ∉ ps)) = ps := lt_uniq ((range_lt n).filter _) h fun x => by
    rw [List.mem_filter, List.mem_range]
    constructor
    · rintro ⟨h1, h2⟩
      simpa using h2
    · exact fun q => ⟨hn x q, by simpa using q⟩
  have a := List.length_eq_countP_add_countP (fun i => decide (i ∉ ps)) (l := List.range n)
  rw [List.length_range, List.countP_eq_length_filter, List.countP_eq_length_filter] at a
  have e2 : (List.range n).filter (fun a => decide ¬ (decide (a ∉ ps)) = true) = ps := by
    rw [← e]
    rw [e]
    refine Eq.trans ?_ e
    congr 1
    funext i
    by_cases q : i ∈ ps <;> simp [q]
  rw [e2] at a
  exact a.symm
/-- every choice is met -/
theorem chs_all (n : Nat) : ∀ k (t : List Nat), t.length = k → t.Pairwise (· < ·) → (∀ p ∈ t, p < n) → t ∈ chs n k
  | 0, t, hl, _, _ => by
    rw [List.eq_nil_of_length_eq_zero hl]
    exact List.mem_cons_self
  | k + 1, t, hl, hp, hn => by
    have hne : t ≠ [] := fun e => by rw [e] at hl; cases hl
    have e : t = t.dropLast ++ [t.getLast hne] := (List.dropLast_concat_getLast hne).symm
    have hl2 : t.dropLast.length = k := by rw [List.length_dropLast]; omega
    generalize t.dropLast = u at e hl2
    generalize t.getLast hne = p at e
    subst e
    obtain ⟨h1, _, h3⟩ := List.pairwise_append.mp hp
    refine List.mem_flatMap.mpr ⟨u, chs_all n k u hl2 h1 fun q hq => hn q (List.mem_append_left _ hq), List.mem_map.mpr ⟨p, List.mem_filter.mpr ⟨List.mem_range.mpr (hn p (List.mem_append_right _ List.mem_cons_self)), ?_⟩, rfl⟩⟩
    unfold lastLt
    cases e : u.getLast? with
    | none => rfl
    | some q => exact decide_eq_true (h3 q (List.mem_of_getLast? e) p List.mem_cons_self)
/-! the rows' lengths -/
def rv (hs : List Str) (k : Nat) : Nat := upTo hs (rowsR hs k) k
theorem rows_get (hs : List Str) : ∀ {k j : Nat}, j < k → (rowsR hs k).getD j 0 = rv hs j
  | 0, j, h => absurd h (Nat.not_lt_zero _)
  | k + 1, j, h => by
    unfold rowsR
    rw [List.getD_eq_getElem?_getD]
    by_cases q : j < k
    · rw [List.getElem?_append_left (by rw [rowsR_len]; exact q), ← List.getD_eq_getElem?_getD]
      exact rows_get hs q
    · have : j = k := by omega
      subst this
      rw [List.getElem?_append_right (by rw [rowsR_len]; exact Nat.le_refl _), rowsR_len, Nat.sub_self]
      rfl
theorem rv_eq2 (hs : List Str) (k : Nat) : rv hs k = 1 + maxN (((List.range k).filter fun j => !ltS (hs.getD k ("" : Str)) (hs.getD j ("" : Str))).map (rv hs)) := by
  unfold rv upTo
  congr 2
  refine List.map_congr_left fun j hj => ?_
  exact rows_get hs (List.mem_range.mp (List.mem_filter.mp hj).1)
theorem rv_le {hs : List Str} {j k : Nat} (h : j < k) (q : ltS (hs.getD k ("" : Str)) (hs.getD j ("" : Str)) = false) : rv hs j < rv hs k := by
  rw [rv_eq2 hs k]
  have := maxN_le (ns := ((List.range k).filter fun j => !ltS (hs.getD k ("" : Str)) (hs.getD j ("" : Str))).map (rv hs)) (rv hs j) (List.mem_map_of_mem (List.mem_filter.mpr ⟨List.mem_range.mpr h, by rw [q]; rfl⟩))
  omega
theorem rise_up {hs : List Str} : ∀ (m : Nat) (J : List Nat) (k : Nat), J.length = m → (J ++ [k]).Pairwise (· < ·) → leJ hs (J ++ [k]) → (J ++ [k]).length ≤ rv hs k
  | 0, J, k, hl, _, _ => by
    rw [List.eq_nil_of_length_eq_zero hl, rv_eq2]
    simp only [List.nil_append, List.length_singleton]
    omega
  | m + 1, J, k, hl, hp, hle => by
    have hne : J ≠ [] := fun e => by rw [e] at hl; cases hl
    have e : J = J.dropLast ++ [J.getLast hne] := (List.dropLast_concat_getLast hne).symm
    have hl2 : J.dropLast.length = m := by rw [List.length_dropLast]; omega
    generalize J.dropLast = u at e hl2
    generalize J.getLast hne = j at e
    subst e
    obtain ⟨h1, _, h3⟩ := List.pairwise_append.mp hp
    obtain ⟨g1, _, g3⟩ := List.pairwise_append.mp hle
    have a := rise_up m u j hl2 h1 g1
    have b := rv_le (hs := hs) (h3 j (List.mem_append_right _ List.mem_cons_self) k List.mem_cons_self) (g3 j (List.mem_append_right _ List.mem_cons_self) k List.mem_cons_self)
    rw [List.length_append, List.length_singleton]
    omega
theorem le_trS {a b c : Str} (h : ltS b a = false) (k : ltS c b = false) : ltS c a = false := ltS_swo.tr _ _ _ h k
theorem rise_is {hs : List Str} : ∀ (m k : Nat), k < m → ∃ J : List Nat, (J ++ [k]).Pairwise (· < ·) ∧ leJ hs (J ++ [k]) ∧ (J ++ [k]).length = rv hs k
  | 0, k, h => absurd h (Nat.not_lt_zero _)
  | m + 1, k, h => by
    rw [rv_eq2]
    rcases maxN_mem (ns := ((List.range k).filter fun j => !ltS (hs.getD k ("" : Str)) (hs.getD j ("" : Str))).map (rv hs)) with e | e
    · rw [e]
      exact ⟨[], List.pairwise_singleton _ _, List.pairwise_singleton _ _, rfl⟩
    · obtain ⟨j, hj, ej⟩ := List.mem_map.mp e
      obtain ⟨h1, h2⟩ := List.mem_filter.mp hj
      have hjk := List.mem_range.mp h1
      have h2 : ltS (hs.getD k ("" : Str)) (hs.getD j ("" : Str)) = false := by simpa using h2
      obtain ⟨J, a1, a2, a3⟩ := rise_is m j (by omega)
      obtain ⟨_, _, b3⟩ := List.pairwise_append.mp a1
      obtain ⟨_, _, c3⟩ := List.pairwise_append.mp a2
      refine ⟨J ++ [j], List.pairwise_append.mpr ⟨a1, List.pairwise_singleton _ _, fun x hx y hy => ?_⟩, List.pairwise_append.mpr ⟨a2, List.pairwise_singleton _ _, fun x hx y hy => ?_⟩, ?_⟩
      · rw [List.mem_singleton.mp hy]
        rcases List.mem_append.mp hx with hx | hx
        · exact Nat.lt_trans (b3 x hx j List.mem_cons_self) hjk
        · rw [List.mem_singleton.mp hx]
          exact hjk
      · rw [List.mem_singleton.mp hy]
        rcases List.mem_append.mp hx with hx | hx
        · exact le_trS (c3 x hx j List.mem_cons_self) h2
        · rw [List.mem_singleton.mp hx]
          exact h2
      · rw [List.length_append, List.length_singleton, a3, ← ej]
        omega
theorem rows_mem {hs : List Str} {n v : Nat} : v ∈ rowsR hs n ↔ ∃ k, k < n ∧ rv hs k = v := by
  constructor
  · intro h
    obtain ⟨k, hk⟩ := List.mem_iff_getElem?.mp h
    have hl := (List.getElem?_eq_some_iff.mp hk).1
    rw [rowsR_len] at hl
    have := rows_get hs hl
    rw [List.getD_eq_getElem?_getD, hk] at this
    exact ⟨k, hl, this.symm⟩
  · rintro ⟨k, hk, rfl⟩
    rw [← rows_get hs hk, List.getD_eq_getElem?_getD, List.getElem?_eq_getElem (by rw [rowsR_len]; exact hk)]
    exact List.getElem_mem _
theorem rising_law {cs : List Crd} (h16 : cs.length = 16) (hr : 14 ≤ risingM cs) : risingM cs ≤ 16 ∧ (∃ s ∈ chs 16 (16 - risingM cs), sol cs s = true) ∧ ∀ i, i < 16 - risingM cs → ∀ t ∈ chs 16 i, sol cs t = false := by
  have hmax : ∀ J : List Nat, J.Pairwise (· < ·) → (∀ x ∈ J, x < 16) → leJ (cs.map (·.h)) J → J.length ≤ risingM cs := fun J h1 h2 h3 => by
    by_cases hne : J = []
    · rw [hne]
      exact Nat.zero_le _
    · have e : J = J.dropLast ++ [J.getLast hne] := (List.dropLast_concat_getLast hne).symm
      generalize J.dropLast = u at e
      generalize J.getLast hne = k at e
      subst e
      refine Nat.le_trans (rise_up _ u k rfl h1 h3) (maxN_le _ (rows_mem.mpr ⟨k, ?_, rfl⟩))
      rw [h16]
      exact h2 k (List.mem_append_right _ List.mem_cons_self)
  obtain ⟨J, j1, j2, j3, j4⟩ : ∃ J : List Nat, J.Pairwise (· < ·) ∧ (∀ x ∈ J, x < 16) ∧ leJ (cs.map (·.h)) J ∧ J.length = risingM cs := by
    rcases maxN_mem (ns := rowsR (cs.map (·.h)) cs.length) with e | e
    · have : risingM cs = 0 := e
      omega
    · obtain ⟨k, hk, ek⟩ := rows_mem.mp e
      obtain ⟨J, a1, a2, a3⟩ := rise_is (hs := cs.map (·.h)) (k + 1) k (Nat.lt_succ_self k)
      refine ⟨J ++ [k], a1, fun x hx => ?_, a2, by rw [a3, ek]; rfl⟩
      rcases List.mem_append.mp hx with hx | hx
      · have := (List.pairwise_append.mp a1).2.2 x hx k List.mem_cons_self
        omega
      · rw [List.mem_singleton.mp hx]
        omega
  have jl := restI_len j1 j2
  refine ⟨by omega, ⟨restI 16 J, chs_all 16 _ _ (by omega) (restI_lt _ _) fun p hp => (restI_mem.mp hp).1, ?_⟩, fun i hi t ht => ?_⟩
  · rw [sol_iff, h16, restI_rest j1 j2]
    exact j3
  · cases e : sol cs t with
    | false => rfl
    | true =>
      rw [sol_iff, h16] at e
      obtain ⟨t1, t2⟩ := chs_ok 16 i t ht
      have tl := restI_len t1 t2
      rw [chs_size 16 i t ht] at tl
      have := hmax _ (restI_lt 16 t) (fun x hx => (restI_mem.mp hx).1) e
      omega
end Sx
end
section
/-! reaching, in plain words -/
set_option maxRecDepth 100000
set_option maxHeartbeats 1000000
namespace Sx
open PySem PySem.Spec PyProof.Rows L2 LamX NdefX
/-- closed under going on -/
def Clo (cs : List Crd) (r : Str) (S : List Nat) : Prop := ∀ j ∈ S, ∀ k, some k ∈ goesL cs r j → k ∈ S
theorem reachL_sound {cs : List Crd} {r : Str} {S : List Nat} (hS : Clo cs r S) : ∀ (n : Nat) (met : List Nat) (lev : List (Option Nat)), (∀ k ∈ met, k ∈ S) → (∀ k, some k ∈ lev → k ∈ S) → ∀ k ∈ reachL cs r n met lev, k ∈ S
  | 0, met, lev, h1, _, k, hk => h1 k hk
  | n + 1, met, lev, h1, h2, k, hk => by
    unfold reachL at hk
    by_cases e : lev = []
    · rw [if_pos e] at hk
      exact h1 k hk
    · rw [if_neg e] at hk
      have hn : ∀ k ∈ newLev met lev, k ∈ S := fun k hk => h2 k (newLev_mem.mp hk).1
      refine reachL_sound hS n _ _ (fun j hj => (List.mem_append.mp hj).elim (h1 j) (hn j)) (fun j hj => ?_) k hk
      obtain ⟨i, hi, hj⟩ := List.mem_flatMap.mp hj
      exact hS i (hn i hi) j hj
theorem reachL_closed {cs : List Crd} {r : Str} (hc : drwOk cs) : ∀ (n : Nat) (met : List Nat) (lev : List (Option Nat)), Rok cs n met lev → (∀ j ∈ met, ∀ k, some k ∈ goesL cs r j → k ∈ met ∨ some k ∈ lev) →
    (∀ k ∈ met, k ∈ reachL cs r n met lev) ∧ (∀ k, some k ∈ lev → k ∈ reachL cs r n met lev) ∧ Clo cs r (reachL cs r n met lev)
  | 0, met, lev, o, h => by
    have fu := o.fu
    have e : lev = [] := by
      by_cases e : lev = []
      · exact e
      · rw [if_neg e] at fu
        omega
    subst e
    refine ⟨fun k hk => hk, (fun k hk => nomatch hk), fun j hj k hk => ?_⟩
    rcases h j hj k hk with h | h
    · exact h
    · cases h
  | n + 1, met, lev, o, h => by
    unfold reachL
    by_cases e : lev = []
    · rw [if_pos e]
      subst e
      refine ⟨fun k hk => hk, (fun k hk => nomatch hk), fun j hj k hk => ?_⟩
      rcases h j hj k hk with h | h
      · exact h
      · cases h
    · rw [if_neg e]
      obtain ⟨a1, a2, a3⟩ := reachL_closed hc n _ _ (o.next hc e).1 (fun j hj k hk => by
        rcases List.mem_append.mp hj with hj | hj
        · rcases h j hj k hk with h | h
          · exact .inl (List.mem_append_left _ h)
          · by_cases q : k ∈ met
            · exact .inl (List.mem_append_left _ q)
            · exact .inl (List.mem_append_right _ (newLev_mem.mpr ⟨h, q⟩))
        · exact .inr (List.mem_flatMap.mpr ⟨j, hj, hk⟩) : ∀ j ∈ met ++ newLev met lev, ∀ k, some k ∈ goesL cs r j → k ∈ met ++ newLev met lev ∨ some k ∈ (newLev met lev).flatMap (goesL cs r))
      refine ⟨fun k hk => a1 k (List.mem_append_left _ hk), fun k hk => ?_, a3⟩
      by_cases q : k ∈ met
      · exact a1 k (List.mem_append_left _ q)
      · exact a1 k (List.mem_append_right _ (newLev_mem.mpr ⟨hk, q⟩))
/-- what a gathering keeps -/
structure Gin (cs : List Crd) (r h : Str) (i : Nat) (g : Gst) : Prop where
  dl : g.done.length ≤ i
  bk : ∀ x, x ∈ g.met ↔ ∃ k ∈ g.visited, x ∈ booksL cs k
  hd : h ∈ g.agenda ∨ h ∈ g.done
  dv : ∀ z ∈ g.done, ∀ k, landOf (walked cs r z) = some k → k ∈ g.visited
  va : ∀ k ∈ g.visited, ∀ cd, cs[k]? = some cd → ∀ o ∈ cd.a, o ∈ g.agenda ∨ o ∈ g.done
  so : ∀ S : List Nat, Clo cs r S → (∀ k, landOf (walked cs r h) = some k → k ∈ S) → (∀ k ∈ g.visited, k ∈ S) ∧ ∀ z ∈ g.agenda, ∀ k, landOf (walked cs r z) = some k → k ∈ S
theorem Gin.start {cs : List Crd} {r h : Str} : Gin cs r h 0 ⟨[h], [], [], []⟩ :=
  ⟨Nat.le_refl _, fun x => ⟨(fun h => nomatch h), fun ⟨k, hk, _⟩ => nomatch hk⟩, .inl List.mem_cons_self, (fun z hz => nomatch hz), (fun k hk => nomatch hk), fun S _ h2 => ⟨(fun k hk => nomatch hk), fun z hz k e => by
    rw [List.mem_singleton.mp hz] at e
    exact h2 k e⟩⟩
theorem Gin.step {cs : List Crd} {r h : Str} {i : Nat} {g : Gst} (o : Gin cs r h i g) (ne : g.agenda ≠ []) : Gin cs r h (i + 1) (gstep cs r ("broad" : Str) g) := by
  obtain ⟨agenda, done, visited, met⟩ := g
  cases agenda with
  | nil => exact absurd rfl ne
  | cons z rest =>
    obtain ⟨dl, bk, hd, dv, va, so⟩ := o
    dsimp only at dl bk hd dv va so
    unfold gstep
    dsimp only
    by_cases q : z ∈ done
    · rw [if_pos q]
      refine ⟨by show done.length ≤ i + 1; omega, bk, ?_, dv, fun k hk cd e o ho => ?_, fun S h1 h2 => ?_⟩
      · rcases hd with h1 | h1
        · rcases List.mem_cons.mp h1 with rfl | h1
          · exact .inr q
          · exact .inl h1
        · exact .inr h1
      · rcases va k hk cd e o ho with h1 | h1
        · rcases List.mem_cons.mp h1 with rfl | h1
          · exact .inr q
          · exact .inl h1
        · exact .inr h1
      · obtain ⟨s1, s2⟩ := so S h1 h2
        exact ⟨s1, fun y hy => s2 y (List.mem_cons_of_mem _ hy)⟩
    · rw [if_neg q]
      have hd' : h ∈ rest ∨ h ∈ done ++ [z] := by
        rcases hd with h1 | h1
        · rcases List.mem_cons.mp h1 with rfl | h1
          · exact .inr (List.mem_append_right _ List.mem_cons_self)
          · exact .inl h1
        · exact .inr (List.mem_append_left _ h1)
      have va' : ∀ k ∈ visited, ∀ cd, cs[k]? = some cd → ∀ o ∈ cd.a, o ∈ rest ∨ o ∈ done ++ [z] := fun k hk cd e o ho => by
        rcases va k hk cd e o ho with h1 | h1
        · rcases List.mem_cons.mp h1 with rfl | h1
          · exact .inr (List.mem_append_right _ List.mem_cons_self)
          · exact .inl h1
        · exact .inr (List.mem_append_left _ h1)
      have dl' : (done ++ [z]).length ≤ i + 1 := by
        rw [List.length_append, List.length_singleton]
        omega
      have so' : ∀ S : List Nat, Clo cs r S → (∀ k, landOf (walked cs r h) = some k → k ∈ S) → (∀ k ∈ visited, k ∈ S) ∧ ∀ y ∈ rest, ∀ k, landOf (walked cs r y) = some k → k ∈ S := fun S h1 h2 => by
        obtain ⟨s1, s2⟩ := so S h1 h2
        exact ⟨s1, fun y hy => s2 y (List.mem_cons_of_mem _ hy)⟩
      have base : (∀ k, landOf (walked cs r z) = some k → k ∈ visited) → Gin cs r h (i + 1) ⟨rest, done ++ [z], visited, met⟩ := fun hz => ⟨dl', bk, hd', fun y hy k e => by
        rcases List.mem_append.mp hy with hy | hy
        · exact dv y hy k e
        · rw [List.mem_singleton.mp hy] at e
          exact hz k e, va', so'⟩
      cases e1 : landOf (walked cs r z) with
      | none => exact base fun k e => by rw [e1] at e; cases e
      | some k =>
        dsimp only
        by_cases q2 : k ∈ visited
        · rw [if_pos q2]
          exact base fun j e => by rw [e1] at e; cases e; exact q2
        · rw [if_neg q2]
          have hk := land_lt e1
          rw [List.getElem?_eq_getElem hk]
          dsimp only
          have hb : byWay ("broad" : Str) rest cs[k].a = rest ++ cs[k].a := if_pos rfl
          have hbk : booksL cs k = cs[k].b := by
            unfold booksL
            rw [List.getElem?_eq_getElem hk]
          have hgo : goesL cs r k = cs[k].a.map fun o => landOf (walked cs r o) := by
            unfold goesL
            rw [List.getElem?_eq_getElem hk]
          refine ⟨dl', fun x => ?_, ?_, fun y hy j e => ?_, fun j hj cd e o ho => ?_, fun S h1 h2 => ?_⟩
          · show x ∈ addB met cs[k].b ↔ _
            rw [addB_mem, bk]
            constructor
            · rintro (⟨j, hj, hx⟩ | hx)
              · exact ⟨j, List.mem_append_left _ hj, hx⟩
              · exact ⟨k, List.mem_append_right _ List.mem_cons_self, by rw [hbk]; exact hx⟩
            · rintro ⟨j, hj, hx⟩
              rcases List.mem_append.mp hj with hj | hj
              · exact .inl ⟨j, hj, hx⟩
              · rw [List.mem_singleton.mp hj, hbk] at hx
                exact .inr hx
          · show h ∈ byWay ("broad" : Str) rest cs[k].a ∨ h ∈ done ++ [z]
            rw [hb]
            rcases hd' with h1 | h1
            · exact .inl (List.mem_append_left _ h1)
            · exact .inr h1
          · show j ∈ visited ++ [k]
            rcases List.mem_append.mp hy with hy | hy
            · exact List.mem_append_left _ (dv y hy j e)
            · rw [List.mem_singleton.mp hy, e1] at e
              cases e
              exact List.mem_append_right _ List.mem_cons_self
          · show o ∈ byWay ("broad" : Str) rest cs[k].a ∨ o ∈ done ++ [z]
            rw [hb]
            rcases List.mem_append.mp hj with hj | hj
            · rcases va' j hj cd e o ho with h1 | h1
              · exact .inl (List.mem_append_left _ h1)
              · exact .inr h1
            · rw [List.mem_singleton.mp hj, List.getElem?_eq_getElem hk] at e
              cases e
              exact .inl (List.mem_append_right _ ho)
          · obtain ⟨s1, s2⟩ := so S h1 h2
            have hkS : k ∈ S := s2 z List.mem_cons_self k e1
            refine ⟨fun j hj => ?_, fun y hy j e => ?_⟩
            · rcases List.mem_append.mp hj with hj | hj
              · exact s1 j hj
              · rw [List.mem_singleton.mp hj]
                exact hkS
            · have hy : y ∈ byWay ("broad" : Str) rest cs[k].a := hy
              rw [hb] at hy
              rcases List.mem_append.mp hy with hy | hy
              · exact s2 y (List.mem_cons_of_mem _ hy) j e
              · refine h1 k hkS j ?_
                rw [hgo, ← e]
                exact List.mem_map_of_mem hy
theorem gath_end {cs : List Crd} {r h : Str} (hc : drwOk cs) : ∀ (n i : Nat) (g : Gst), Gok cs 99 i g → Gin cs r h i g → n + i = 400 → ∃ j, Gin cs r h j (gath cs r ("broad" : Str) 99 n g) ∧ (gath cs r ("broad" : Str) 99 n g).agenda = []
  | 0, i, g, o, gi, e => by
    have a := o.ag
    have b := o.vis
    have := hc.1
    omega
  | n + 1, i, g, o, gi, e => by
    have a := o.ag
    have b := o.vis
    have := hc.1
    have := gi.dl
    unfold gath
    by_cases q : g.agenda = []
    · rw [if_pos (.inl q)]
      exact ⟨i, gi, q⟩
    · have hl : 0 < g.agenda.length := List.length_pos_iff.mpr q
      rw [if_neg (by rintro (h1 | h1); exact q h1; omega)]
      exact gath_end hc n (i + 1) _ (o.step hc q (by omega)) (gi.step q) (by omega)
theorem reach_law {cs : List Crd} {r h : Str} (o : drwOk cs) (hw : wordB h = true) : sortI ((reachL cs r 40 [] [landOf (walked cs r h)]).flatMap (booksL cs)) = sortI (gathered cs r ("broad" : Str) h 99).met := by
  have h16 := o.1
  have ok0 : Rok cs 40 [] [landOf (walked cs r h)] := ⟨List.nodup_nil, (fun k hk => nomatch hk), fun k hk => land_lt (List.mem_singleton.mp hk).symm, by rw [if_neg (by simp)]; simp only [List.length_nil]; omega, by simp⟩
  obtain ⟨_, a2, a3⟩ := reachL_closed (r := r) o 40 [] [landOf (walked cs r h)] ok0 (fun j hj => nomatch hj)
  obtain ⟨j, gi, ge⟩ := gath_end (r := r) (h := h) o 400 0 ⟨[h], [], [], []⟩ (Gok.start hw) Gin.start rfl
  have gi : Gin cs r h j (gathered cs r ("broad" : Str) h 99) := gi
  have ge : (gathered cs r ("broad" : Str) h 99).agenda = [] := ge
  have s1 := (gi.so _ a3 fun k e => a2 k (by rw [e]; exact List.mem_cons_self)).1
  have cV : Clo cs r (gathered cs r ("broad" : Str) h 99).visited := fun i hi k hk => by
    unfold goesL at hk
    cases e : cs[i]? with
    | none => rw [e] at hk; cases hk
    | some cd =>
      rw [e] at hk
      obtain ⟨z, hz, ez⟩ := List.mem_map.mp hk
      rcases gi.va i hi cd e z hz with h1 | h1
      · rw [ge] at h1
        cases h1
      · exact gi.dv z h1 k ez
  have s2 := reachL_sound cV 40 [] [landOf (walked cs r h)] (fun k hk => nomatch hk) (fun k hk => by
    rcases gi.hd with h1 | h1
    · rw [ge] at h1
      cases h1
    · exact gi.dv h h1 k (List.mem_singleton.mp hk).symm)
  refine sortI_congr fun x => ?_
  rw [gi.bk, List.mem_flatMap]
  constructor
  · rintro ⟨k, hk, hx⟩
    exact ⟨k, s2 k hk, hx⟩
  · rintro ⟨k, hk, hx⟩
    exact ⟨k, s1 k hk, hx⟩
end Sx
end
section
/-! the law's plain part -/
set_option maxRecDepth 100000
set_option maxHeartbeats 1000000
namespace Sx
open PySem PySem.Spec PyProof.Rows L2 LamX NdefX
theorem never_law {cs : List Crd} {r : Str} (h16 : cs.length = 16) : (List.range 16).filter (fun k => !decide ((some k : Option Nat) ∈ (sortS (cs.map (·.h))).map fun h => (looked r (cs.map (·.h)) h).1)) = neverM cs r := by
  unfold neverM
  rw [h16]
  congr 1
  funext k
  congr 1
  rw [Bool.eq_iff_iff, decide_eq_true_eq, List.any_eq_true, List.mem_map]
  constructor
  · rintro ⟨z, hz, e⟩
    exact ⟨z, hz, decide_eq_true e⟩
  · rintro ⟨z, hz, e⟩
    exact ⟨z, hz, of_decide_eq_true e⟩
theorem half_len {all : Bool} {hs : List Str} {h : Str} : ∀ (n b lo hi : Nat) (met : List Nat), hi < lo + 2 ^ b → (lk true all hs h n lo hi met).2.length ≤ met.length + b
  | 0, b, lo, hi, met, _ => Nat.le_add_right _ _
  | n + 1, b, lo, hi, met, hb => by
    unfold lk
    by_cases e : hi ≤ lo
    · rw [if_pos e]
      exact Nat.le_add_right _ _
    · rw [if_neg e]
      dsimp only
      rw [if_pos rfl]
      cases b with
      | zero => rw [Nat.pow_zero] at hb; omega
      | succ b =>
        rw [Nat.pow_succ] at hb
        have hm : (met ++ [(lo + hi - 1) / 2]).length = met.length + 1 := by rw [List.length_append]; rfl
        split
        · rw [hm]
          omega
        · split
          · have := half_len (all := all) (hs := hs) (h := h) n b lo ((lo + hi - 1) / 2) (met ++ [(lo + hi - 1) / 2]) (by omega)
            rw [if_pos rfl]
            omega
          · have := half_len (all := all) (hs := hs) (h := h) n b ((lo + hi - 1) / 2 + 1) hi (met ++ [(lo + hi - 1) / 2]) (by omega)
            omega
theorem half_law {cs : List Crd} {h : Str} (h16 : cs.length ≤ 16) : (looked ("half" : Str) (cs.map (·.h)) h).2.length ≤ 5 := by
  have hl : (cs.map (·.h)).length = cs.length := List.length_map _
  unfold looked
  rw [hl]
  have e : isHalf ("half" : Str) = true := by decide +kernel
  rw [e]
  have := half_len (all := isAll ("half" : Str)) (hs := cs.map (·.h)) (h := h) (cs.length + 1) 5 0 cs.length [] (by omega)
  simpa using this
theorem known_law {cs : List Crd} (o : drwOk cs) : sortS (cs.flatMap oneKnown) = knownM cs := by
  unfold knownM
  refine sortS_congr fun z => ?_
  rw [List.mem_append, sortS_mem, List.mem_map, List.mem_flatMap, List.mem_flatMap]
  constructor
  · rintro ⟨r, hr, hz⟩
    unfold oneKnown at hz
    rcases List.mem_append.mp hz with hz | hz
    · rcases List.mem_append.mp hz with hz | hz
      · exact .inl ⟨r, hr, (List.mem_singleton.mp hz).symm⟩
      · refine .inr ⟨r, hr, ?_⟩
        unfold goesTo
        by_cases q : r.s ≠ ("" : Str)
        · rw [if_pos q] at hz ⊢
          exact hz
        · rw [if_neg q] at hz
          cases hz
    · refine .inr ⟨r, hr, ?_⟩
      unfold goesTo
      by_cases q : r.s ≠ ("" : Str)
      · rcases (o.2 r hr).s with h | ⟨_, h, _⟩
        · exact absurd h q
        · rw [h] at hz
          cases hz
      · rw [if_neg q]
        exact hz
  · rintro (⟨r, hr, rfl⟩ | ⟨r, hr, hz⟩)
    · exact ⟨r, hr, by unfold oneKnown; exact List.mem_append_left _ (List.mem_append_left _ List.mem_cons_self)⟩
    · refine ⟨r, hr, ?_⟩
      unfold goesTo at hz
      unfold oneKnown
      by_cases q : r.s ≠ ("" : Str)
      · rw [if_pos q] at hz ⊢
        exact List.mem_append_left _ (List.mem_append_right _ hz)
      · rw [if_neg q] at hz
        exact List.mem_append_right _ hz
end Sx
end
section
/-! law -/
set_option maxRecDepth 100000
set_option maxHeartbeats 1000000
namespace Sx
open PySem PySem.Spec PyProof.Rows L2 LamX NdefX
def optV : Option Nat → V
  | none => .non
  | some k => .int (k : Int)
theorem inV_opt (k : Nat) (l : List (Option Nat)) : inV (.int (k : Int)) (l.map optV) = decide ((some k : Option Nat) ∈ l) := by
  unfold inV
  rw [List.any_map, Bool.eq_iff_iff, List.any_eq_true, decide_eq_true_eq]
  constructor
  · rintro ⟨x, hx, e⟩
    cases x with
    | none => cases e
    | some j =>
      have e : ((j : Int) == (k : Int)) = true := e
      have := eq_of_beq e
      have : j = k := by omega
      exact this ▸ hx
  · intro hx
    exact ⟨some k, hx, (beq_self_eq_true (k : Int) : ((k : Int) == (k : Int)) = true)⟩
theorem opt_flat (l : List (Option Nat)) : (l.map optV).all flatV = true := by
  rw [List.all_map, List.all_eq_true]
  intro x _
  cases x <;> rfl
theorem opt_map (l : List (Option Nat)) : (l.map optV).map D.v = l.map optD := by
  rw [List.map_map]
  refine List.map_congr_left fun x _ => ?_
  cases x <;> rfl
theorem py_nats (l : List Nat) : pyOf (.t (l.map natD)) = some (.tuple ((l.map fun (n : Nat) => (n : Int)).map PyData.int)) := by
  have := py_ints (l.map fun (n : Nat) => (n : Int))
  rw [List.map_map] at this
  exact this
theorem flat_nats (l : List Nat) : FlatL 0 (l.map natD) := fun d hd => by
  obtain ⟨n, _, rfl⟩ := List.mem_map.mp hd
  exact ⟨.int (n : Int), rfl, sh_int 0 _⟩
theorem known_ne {cs : List Crd} (h : cs ≠ []) : knownM cs ≠ [] := by
  cases cs with
  | nil => exact absurd rfl h
  | cons r cs =>
    intro e
    have : r.h ∈ knownM (r :: cs) := sortS_mem.mpr (List.mem_append_left _ (sortS_mem.mpr List.mem_cons_self))
    rw [e] at this
    cases this
theorem tableF_len {cs : List Crd} {r : Str} (o : drwOk cs) : (tableF cs r).length ≤ 100000 := by
  have a := table_len (r := r) o
  unfold tableF
  rw [txt_join]
  exact Nat.le_trans (join_len ("\n" : Str) ((knownM cs).map (rowT cs r))) (Nat.le_trans a (by decide))
theorem py_pair (z : Str) (l : List Nat) : pyOf (.t [.s z, .t (l.map natD)]) = some (.tuple [.str z, .tuple ((l.map fun (n : Nat) => (n : Int)).map PyData.int)]) := by
  have h := py_nats l
  have e : pyAll [D.s z, .t (l.map natD)] = some [.str z, .tuple ((l.map fun (n : Nat) => (n : Int)).map PyData.int)] := by
    simp only [pyAll, h]
    rfl
  show (pyAll [D.s z, .t (l.map natD)]).map PyData.tuple = _
  rw [e]
  rfl
theorem py_gat (a : List Int) (l : List Nat) (k : Nat) : pyOf (.t [.t (a.map D.i), .t (l.map natD), natD k]) = some (.tuple [.tuple (a.map PyData.int), .tuple ((l.map fun (n : Nat) => (n : Int)).map PyData.int), .int (k : Int)]) := by
  have h := py_nats l
  have h2 := py_ints a
  have e : pyAll [D.t (a.map D.i), .t (l.map natD), natD k] = some [.tuple (a.map PyData.int), .tuple ((l.map fun (n : Nat) => (n : Int)).map PyData.int), .int (k : Int)] := by
    simp only [pyAll, h, h2]
    rfl
  show (pyAll [D.t (a.map D.i), .t (l.map natD), natD k]).map PyData.tuple = _
  rw [e]
  rfl
theorem sh_pair {z : Str} (h : PyData.canLay0 (.str z) = true) (l : List Int) : Sh 2 (.tuple [.str z, .tuple (l.map PyData.int)]) := sh_tup fun x hx => by
  simp only [List.mem_cons, List.not_mem_nil, or_false] at hx
  rcases hx with rfl | rfl
  · exact sh_str 1 h
  · exact sh_ints l
theorem sh_gat (a l : List Int) (k : Int) : Sh 2 (.tuple [.tuple (a.map PyData.int), .tuple (l.map PyData.int), .int k]) := sh_tup fun x hx => by
  simp only [List.mem_cons, List.not_mem_nil, or_false] at hx
  rcases hx with rfl | rfl | rfl
  · exact sh_ints a
  · exact sh_ints l
  · exact sh_int 1 k
theorem walked_str {cs : List Crd} {r h : Str} : PyData.canLay0 (.str (walked cs r h).1) = true := by
  have all : ∀ z ∈ [("ring" : Str), "lost", "entry"], wordB z = true := by decide +kernel
  exact word_ok (all _ wk_word)
section
variable {P : Program} {w : World} {c : Cs} {mg : Str → Option Value} {base : Heap} {k : Nat} {x qual : Str} {params : Arguments} {body : List Stmt} {scope : Scope} {f : Addr} {fd : FuncData} {ps N : List Str} {dvs : List V} {sp : Sp}
/-- a def with lists that are read, objects that change: by any arguments -/
theorem fnOkM {S : List D → List (Addr × List D) → Mm → (D → Mm → Prop) → Prop} (F : FunD c.K x qual params body scope dvs [] f fd) (Sc : FnScope N ps scope)
    (hdv : dvs = [])
    (len : ∀ ds L M0 Z, S ds L M0 Z → ds.length = ps.length) (n : Nat) (hn : ps.length + n = N.length)
    (h : ∀ (cdv : Value) (A : Around) (outer : List Env) (s : Shared) (H0 Fr : Hp) (E : XK) (ds : List D) (L : List (Addr × List D)) (M0 : Mm) (Z : D → Mm → Prop) (σ : L2.St), Room k (A.deeper (envOfC qual scope s.heap.objs.size f cdv)) → S ds L M0 Z → (∀ p ∈ L, LsAt c Fr p.1 p.2) → At c Fr [] M0 (ds.map some ++ List.replicate n none) σ H0 →
      ∀ Q : VK, (∀ d G Mn env σ v H', Z d Mn → At c Fr G Mn env σ H' → Rp c H' d v → Q v H') →
      WB (cxOf CX0 P w c.K mg base N qual scope f cdv A outer s H0 E).nox body { nx := fun _ H' => Q .non H', rt := Q } σ H0) : FnOk P w c.K mg base CX0 (k + 1) f fd ps (spM c S) := by
  subst hdv
  obtain ⟨oc, od, dV, kV, doc, pm, an, cdv, ct, osl, rfl, lk, hcd, _, _⟩ := F.ex
  refine fn_of lk hcd Sc (fun vs H Q E q => ?_) fun A outer s H vs Q E hr q => ⟨_, PSs.nox wb, ?_⟩
  · obtain ⟨ds, L, M0, Z, q, r, _⟩ := q
    rw [r.len]
    exact len ds L M0 Z q
  · obtain ⟨ds, L, M0, Z, q, r, hL, nd, ho, k0⟩ := q
    have hl := r.len
    have hl2 := len ds L M0 Z q
    let Fr : Hp := fun a => if a ∈ M0.map (·.1) then none else H a
    have fn : ∀ a, a ∉ M0.map (·.1) → Fr a = H a := fun a ha => if_neg ha
    have fy : ∀ a, a ∈ M0.map (·.1) → Fr a = none := fun a ha => if_pos ha
    have e : Ex Fr H := fun a o q => by
      by_cases ha : a ∈ M0.map (·.1)
      · rw [fy a ha] at q
        cases q
      · rw [fn a ha] at q
        exact q
    refine h cdv A outer s H Fr E ds L M0 Z _ hr q (fun p hp => ?_) (At.start n r (by omega) e (fun p hp => ⟨fy _ (List.mem_map_of_mem hp), ho p hp⟩) nd) Q fun d G Mn env σ v H' z B rv => ?_
    · obtain ⟨vs', h1, h2⟩ := (hL p hp).2
      have hp2 : p.1 ∉ M0.map (·.1) := (hL p hp).1
      have im : IM H Fr := fun a o q i => by
        rw [fn a fun ha => ?_]
        · exact q
        · obtain ⟨p', hp', rfl⟩ := List.mem_map.mp ha
          obtain ⟨u, hu, iu⟩ := (ho p' hp').there
          rw [hu] at q
          cases q
          rw [iu] at i
          cases i
      refine ⟨vs', ?_, h2.im im⟩
      rcases h1 with h1 | ⟨o, h1⟩
      · exact .inl ((fn _ hp2).trans h1)
      · exact .inr ⟨o, (fn _ hp2).trans h1⟩
    · refine k0 d Mn v H' z rv B.nd (fun p hp => (B.ob p hp).2) (fun p hp => ?_) (fun a o ha q => B.fr a o ((fn a ha).trans q)) fun a o q i => ?_
      · by_cases ha : p.1 ∈ M0.map (·.1)
        · exact .inl ha
        · exact .inr ((fn _ ha).symm.trans (B.ob p hp).1)
      · refine B.fr a o ((fn a fun ha => ?_).trans q)
        obtain ⟨p', hp', rfl⟩ := List.mem_map.mp ha
        obtain ⟨u, hu, iu⟩ := (ho p' hp').there
        rw [hu] at q
        cases q
        rw [iu] at i
        cases i
end
section
variable {P : Program} {w : World} {c : Cs} {mg : Str → Option Value} {base : Heap}
abbrev lawTb (tg tf tB tA tC : Addr) : Mm := [tabG tg, (tf, .tab "filed.<locals>.<lambda>"), tabB tB, tabA tA, tabC tC]
def S_law (tg tf tB tA tC : Addr) : List D → List (Addr × List D) → Mm → (D → Mm → Prop) → Prop := fun ds L M0 Z => ∃ (scr : Addr) (ns : List Int), ds = [.p scr] ∧ L = [(scr, ns.map D.i)] ∧ M0 = lawTb tg tf tB tA tC ∧ Z = fun d Mn => d = .b true ∧ Mn = []
theorem ok_law {tg tf tB tA tC : Addr} {fd : FuncData} (T : Tx c mg) (F : FunD c.K "law" "law" (defArgs st_law) (defBody st_law) (defScope st_law) [] [] (He.ga c.K "law") fd) (BG : TbD c mg base (He.ga c.K "_law_great") tg) (BF : TbD c mg base (He.ga c.K "filed") tf) (BB : TbM c mg base (He.ga c.K "Row") "read_books" tB) (BA : TbM c mg base (He.ga c.K "Row") "read_also" tA) (BC : TbM c mg base (He.ga c.K "Row") "read_card" tC) : FnOk P w c.K mg base CX0 13 (He.ga c.K "law") fd ["_law_script"] (spM c (S_law tg tf tB tA tC)) := by
  refine fnOkM F sc_law rfl (fun ds L M0 Z h => ?_) 19 rfl fun cdv A0 outer s H0 Fr E ds L M0 Z σ hr h hL A Q q => ?_
  · obtain ⟨scr, ns, rfl, _⟩ := h
    rfl
  · obtain ⟨scr, ns, rfl, rfl, rfl, rfl⟩ := h
    have hscr := hL (scr, ns.map D.i) List.mem_cons_self
    refine x_setL 1 sc_law.nd (l_lst (a_cons (v_var 0) (a_cons v_int (a_cons v_int (a_cons v_int a_nil))))) A fun rw σ1 H1 A1 => ?_
    have hro0 : RwOk scr (Ob.lst [.p scr, .i 0, .i 0, .i 0]) := ⟨0, 0, 0, by omega, by omega, by omega, by omega, rfl⟩
    refine x_setE 2 sc_law.nd (Z := fun d M' => ∃ (sm : Addr) (cs : List Crd) (o : Ob), d = .p sm ∧ drwOk cs ∧ cs.length = 16 ∧ RwOk scr o ∧ M' = (sm, .lst (cs.map cardD)) :: (rw, o) :: lawTb tg tf tB tA tC) (e_call (S := S_great tg) (L := [(scr, ns.map D.i)]) (M0 := [(rw, Ob.lst [.p scr, .i 0, .i 0, .i 0]), tabG tg]) (Mr := [(tf, .tab "filed.<locals>.<lambda>"), tabB tB, tabA tA, tabC tC]) (ok_great T BG) hr (a_cons (v_var 1) a_nil) (List.Perm.refl _) ⟨rw, scr, ns, _, rfl, rfl, rfl, hro0, rfl⟩ (fun p hp => by
      rw [List.mem_singleton.mp hp]
      exact .inl hscr) fun d Mn z => ?_) A1 fun d M' σ2 H2 z A2 => ?_
    · obtain ⟨p, cs, o', a1, a2, a3, a4, a5⟩ := z
      exact ⟨p, cs, o', a1, a2, a3, a4, by rw [a5]; rfl⟩
    obtain ⟨sm, cs, o1, rfl, hdr, h16, hro1, rfl⟩ := z
    obtain ⟨Fr2, e2, hsm, A2⟩ := A2.freeze
    have hscr2 := hscr.ex e2
    have hne : cs ≠ [] := fun e => by rw [e] at h16; cases h16
    refine x_set 3 sc_law.nd (v_callR [(sm, cs.map cardD)] (ok_lawdrawer T) hr (a_cons (v_var 2) a_nil) ⟨sm, cs, rfl, rfl, hdr, rfl⟩ (fun p hp => by
      rw [List.mem_singleton.mp hp]
      exact .inl hsm)) A2 fun σ3 H3 A3 => ?_
    refine x_setE 4 sc_law.nd (Z := fun d M' => d = dDrw cs ∧ M' = [tabB tB, tabA tA, tabC tC] ++ [(rw, o1), tabG tg, (tf, .tab "filed.<locals>.<lambda>")]) (e_call (S := S_parse tB tA tC) (L := []) (M0 := [tabB tB, tabA tA, tabC tC]) (Mr := [(rw, o1), tabG tg, (tf, .tab "filed.<locals>.<lambda>")]) (ok_parse T BB BA BC) hr (a_cons (v_call (ok_format T) hr (a_cons (v_var 3) a_nil) ⟨cs, rfl, hdr, rfl⟩) a_nil) (List.perm_append_comm (l₁ := [(rw, o1), tabG tg, (tf, Ob.tab "filed.<locals>.<lambda>")]) (l₂ := [tabB tB, tabA tA, tabC tC])) ⟨cs, rfl, rfl, rfl, hdr, hne, rfl⟩ (fun p hp => nomatch hp) fun d Mn z => ⟨z.1, by rw [z.2]⟩) A3 fun d M' σ4 H4 z A4 => ?_
    obtain ⟨rfl, rfl⟩ := z
    have A4 := A4.perm (List.perm_append_comm (l₁ := [tabB tB, tabA tA, tabC tC]) (l₂ := [(rw, o1), tabG tg, (tf, Ob.tab "filed.<locals>.<lambda>")]))
    have A4 : At c Fr2 [] ((rw, o1) :: lawTb tg tf tB tA tC) _ σ4 H4 := A4
    have hr3 : Room 4 _ := hr.mono (by decide)
    refine x_if (k := false) (Pt.is (t_cmp (op_neDrw rfl (ok_Drawer_eq T) T.ne_Drawer T.i_Drawer hr3) (v_var 4) (v_var 3) (rv_drw hdr hdr rfl)) (by rw [decide_eq_true rfl]; rfl)) A4 (fun h => nomatch h) fun _ H5 A5 => x_nil ?_
    refine x_if (k := false) (Pt.is (t_cmp (op_neDrw rfl (ok_Drawer_eq T) T.ne_Drawer T.i_Drawer hr3) (v_callRN (ok_decode_drawer T) hr (l_callL [] (ok_encode_drawer T) hr (a_cons (v_var 3) a_nil) ⟨cs, rfl, rfl, hdr, rfl⟩ (fun p hp => nomatch hp)) fun l => ⟨l, cs, rfl, rfl, hdr, rfl⟩) (v_var 3) (rv_drw hdr hdr rfl)) (by rw [decide_eq_true rfl]; rfl)) A5 (fun h => nomatch h) fun _ H6 A6 => x_nil ?_
    refine x_ifE (Zt := fun b M' => b = false ∧ M' = (rw, o1) :: lawTb tg tf tB tA tC) (et_cmp op_lt (e_lenSE (Z2 := fun d M' => ∃ n : Nat, d = natD n ∧ 16 ≤ n ∧ M' = (rw, o1) :: lawTb tg tf tB tA tC) T.n_len (e_call (S := S_strip) (L := []) (M0 := []) (Mr := (rw, o1) :: lawTb tg tf tB tA tC) (Z2 := fun d M' => (∃ z : Str, d = .s z ∧ cs.length ≤ z.length ∧ z.length ≤ 2 * cs.length) ∧ M' = (rw, o1) :: lawTb tg tf tB tA tC) (ok_strip T) hr (a_cons (v_var 3) a_nil) (List.Perm.refl _) ⟨cs, rfl, rfl, rfl, hdr, rfl⟩ (fun p hp => nomatch hp) fun d Mn z => ⟨z.2, by rw [z.1]; rfl⟩) fun d M1 z => ?_) (fun M1 => v_int) fun d M1 z => ?_) A6 (fun M1 H7 z A7 => nomatch z.1) fun M1 H7 z A7 => ?_
    · obtain ⟨⟨z, rfl, z1, z2⟩, rfl⟩ := z
      exact ⟨z, rfl, by omega, z.length, rfl, by omega, rfl⟩
    · obtain ⟨n, rfl, hn, rfl⟩ := z
      refine ⟨decide ((n : Int) < 16), rv_I0, ?_, rfl⟩
      rw [decide_eq_false]
      omega
    obtain ⟨_, rfl⟩ := z
    refine x_nil ?_
    let Tb : Mm := lawTb tg tf tB tA tC
    refine x_for rfl PassesOwn.never (fun i M' env' => ∃ (o : Ob) (o5 o6 o7 o8 o9 o10 o11 o12 o13 o14 o15 o16 : Option D), M' = (rw, o) :: lawTb tg tf tB tA tC ∧ env' = [some (.p scr), some (.p rw), some (.p sm), some (dDrw cs), some (dDrw cs), o5, o6, o7, o8, o9, o10, o11, o12, o13, o14, o15, o16, none, none, none] ∧ RwOk scr o) (i_tup (ds := [.s ("all" : Str), .s ("half" : Str), .s ("leaf" : Str)]) rfl (v_tup (a_cons v_str (a_cons v_str (a_cons v_str a_nil))))) A7 ⟨o1, none, none, none, none, none, none, none, none, none, none, none, none, rfl, rfl, hro1⟩ (fun i d M' env' Fr' Gx hd hI hE => ?_) (fun M' env' σ' H' hI A' => ?_)
    · obtain ⟨o, o5, o6, o7, o8, o9, o10, o11, o12, o13, o14, o15, o16, rfl, rfl, hro⟩ := hI
      obtain ⟨r, rfl, hrule⟩ : ∃ r : Str, d = .s r ∧ ruleOk r := by
        have hm := List.mem_of_getElem? hd
        simp only [List.mem_cons, List.not_mem_nil, or_false] at hm
        rcases hm with rfl | rfl | rfl
        · exact ⟨_, rfl, .inl rfl⟩
        · exact ⟨_, rfl, .inr (.inl rfl)⟩
        · exact ⟨_, rfl, .inr (.inr rfl)⟩
      have hsm3 := hsm.ex hE
      have hscr3 := hscr2.ex hE
      refine ⟨_, _, g_name 5 sc_law.nd, fun σ8 H8 A8 => ?_⟩
      refine x_setL 6 sc_law.nd (l_lc [("_law_name", 18)] (sortS (cs.map (·.h))) D.s (fun _ => true) (fun z => optD (looked r (cs.map (·.h)) z).1) rfl sc_law.nd (i_new rfl (l_callL [(sm, cs.map cardD)] (ok_lawheadings T) hr (a_cons (v_var 2) a_nil) ⟨sm, cs, rfl, rfl, hdr.1, rfl⟩ (fun p hp => by
        rw [List.mem_singleton.mp hp]
        exact .inl hsm3))) (blkOk_by (N := N_law) (sc := defScope st_law) (by decide +kernel)) ?_ ?_) A8 fun me σ9 H9 A9 => ?_
      · have := sortS_len (cs.map (·.h))
        rw [List.length_map] at this
        omega
      · intro z hz acc Fr4 Gx4 Dl e4
        exact ⟨_, _, fun s H C cl fp => g_name 18 sc_law.nd, fun j hj => hj, fun s H C cl fp => n_nil, fun _ s H C cl fp => v_ixT rfl (v_callR [(sm, cs.map cardD)] (ok_lawlooked T) hr (a_cons (v_var 2) (a_cons (v_var 5) (a_cons (v_var 18) a_nil))) ⟨sm, cs, r, z, rfl, rfl, hdr.1, hrule, rfl⟩ (fun p hp => by
          rw [List.mem_singleton.mp hp]
          exact .inl (hsm3.ex e4))) v_int rfl⟩
      have em : (sortS (cs.map fun r : Crd => r.h)).map (fun z => optD (looked r (cs.map fun r : Crd => r.h) z).1) = ((sortS (cs.map fun r : Crd => r.h)).map fun h => (looked r (cs.map fun r : Crd => r.h) h).1).map optD := by
        rw [List.map_map]
        rfl
      rw [filter_yes, em] at A9
      have hnev := never_law (r := r) h16
      generalize (sortS (cs.map (·.h))).map (fun h => (looked r (cs.map (·.h)) h).1) = mets at A9 hnev
      refine x_if (k := false) (t_sameL (n := 0) rfl hr (l_callL [] (ok_never T) hr (a_cons (v_var 3) (a_cons (v_var 5) a_nil)) ⟨cs, r, rfl, rfl, hdr, hrule, rfl⟩ (fun p hp => nomatch hp)) (fun z => Pl.is (l_lc [("_law_k", 19)] (List.range 16) natD (fun k => !decide ((some k : Option Nat) ∈ mets)) natD rfl sc_law.nd (i_rng (n := 16) T.n_range (a_cons v_int a_nil) (by omega)) (blkOk_by (N := N_law) (sc := defScope st_law) (by decide +kernel)) (by decide) ?_) (by rw [hnev])) (flat_nats _)) A9 (fun h => nomatch h) fun _ H10 A10 => x_nil ?_
      · intro k hk acc Fr4 Gx4 Dl e4
        exact ⟨_, _, fun s H C cl fp => g_name 19 sc_law.nd, fun j hj => hj, fun s H C cl fp => n_one (Pt.is (t_niL (y := .int (k : Int)) (xs := mets.map optV) rfl (v_var 19) (v_var 6) (.inr (by rw [opt_map]; exact List.mem_cons_of_mem _ (List.mem_cons_of_mem _ List.mem_cons_self))) rfl (opt_flat _)) (by rw [inV_opt])), fun _ s H C cl fp => v_var 19⟩
      have A10 := A10.drop1
      have hkn := known_law hdr
      have hkw : ∀ z ∈ sortS (cs.flatMap oneKnown), wordB z = true := by
        rw [hkn]
        exact known_words hdr
      have hkl : (sortS (cs.flatMap oneKnown)).length ≤ 100 := by
        rw [hkn]
        exact known_len hdr
      refine x_forE (fun ds M1 => ∃ (zs : List Str) (o : Ob), ds = zs.map D.s ∧ (∀ z ∈ zs, wordB z = true) ∧ RwOk scr o ∧ M1 = (rw, o) :: lawTb tg tf tB tA tC) (fun ds i M' env' => ∃ (zs : List Str) (o : Ob) (o7 o8 o9 o10 o11 o12 o13 o14 o15 o16 : Option D), ds = zs.map D.s ∧ (∀ z ∈ zs, wordB z = true) ∧ M' = (rw, o) :: lawTb tg tf tB tA tC ∧ env' = [some (.p scr), some (.p rw), some (.p sm), some (dDrw cs), some (dDrw cs), some (.s r), some (.p me), o7, o8, o9, o10, o11, o12, o13, o14, o15, o16, none, none, none] ∧ RwOk scr o) rfl PassesOwn.never (i_newE (Z0 := fun d M' => ∃ (p : Addr) (zs : List Str) (o' : Ob), d = .p p ∧ (∀ z ∈ zs, wordB z = true) ∧ RwOk scr o' ∧ M' = (p, Ob.lst (zs.map D.s)) :: (rw, o') :: lawTb tg tf tB tA tC) rfl (Ev.less (Z := fun d M' => ∃ (p q kn : Addr) (es : List Str) (o' : Ob), d = .p p ∧ (∀ z ∈ es, z ∈ sortS (cs.flatMap oneKnown)) ∧ RwOk scr o' ∧ M' = (p, Ob.lst ((es.map D.s).take 4)) :: (q, Ob.lst (es.map D.s)) :: (rw, o') :: (kn, Ob.lst ((sortS (cs.flatMap oneKnown)).map D.s)) :: lawTb tg tf tB tA tC) (e_takeE (k := 4) (Z0 := fun d M' => ∃ (q kn : Addr) (es : List Str) (o' : Ob), d = .p q ∧ (∀ z ∈ es, z ∈ sortS (cs.flatMap oneKnown)) ∧ RwOk scr o' ∧ M' = (q, Ob.lst (es.map D.s)) :: (rw, o') :: (kn, Ob.lst ((sortS (cs.flatMap oneKnown)).map D.s)) :: lawTb tg tf tB tA tC) rfl (e_callE (S := S_mixed) (Za := fun ds M1 => ∃ kn, ds = [.p rw, .p kn] ∧ M1 = (kn, Ob.lst ((sortS (cs.flatMap oneKnown)).map D.s)) :: (rw, o) :: lawTb tg tf tB tA tC) (ok_mixed T) hr (ea_v (v_var 1) (ea_l (l_callL [(sm, cs.map cardD)] (ok_lawknown T) hr (a_cons (v_var 2) a_nil) ⟨sm, cs, rfl, rfl, hdr, rfl⟩ (fun p hp => by
        rw [List.mem_singleton.mp hp]
        exact .inl hsm3)) fun kn => ea_nil ⟨kn, rfl, rfl⟩)) fun ds M1 z => ?_) (fun M1 => v_int) fun d M1 z => ?_) fun d M' z => ?_) fun d M1 z => ?_) A10 (fun ds M1 z => ?_) (fun ds j d M' env' Fr5 Gx5 hdj hI5 hE5 => ?_) (fun ds M' env' σ' H' hI5 A' => ?_)
      · obtain ⟨kn, rfl, rfl⟩ := z
        refine ⟨[(scr, ns.map D.i), (kn, (sortS (cs.flatMap oneKnown)).map D.s)], [(rw, o)], (kn, Ob.lst ((sortS (cs.flatMap oneKnown)).map D.s)) :: lawTb tg tf tB tA tC, _, List.Perm.swap _ _ _, ⟨rw, scr, kn, ns, o, _, rfl, rfl, rfl, hro, flat_strs hkw, by rw [List.length_map]; omega, rfl⟩, fun p hp => ?_, fun d Mn z => ?_⟩
        · rcases List.mem_cons.mp hp with rfl | hp
          · exact .inl hscr3
          · rw [List.mem_singleton.mp hp]
            exact .inr List.mem_cons_self
        · obtain ⟨p, ys, o', rfl, hys, hro', rfl⟩ := z
          obtain ⟨es, rfl, _, hem, _⟩ := perm_map (fun x y h => by cases h; rfl) hys
          exact ⟨p, kn, es, o', rfl, hem, hro', rfl⟩
      · obtain ⟨q1, kn, es, o', rfl, hem, hro', rfl⟩ := z
        exact ⟨q1, es.map D.s, rfl, .inr List.mem_cons_self, fun p => ⟨p, q1, kn, es, o', rfl, hem, hro', rfl⟩⟩
      · obtain ⟨p, q1, kn, es, o', rfl, hem, hro', rfl⟩ := z
        exact ⟨_, (p, Ob.lst ((es.take 4).map D.s)) :: (rw, o') :: lawTb tg tf tB tA tC, List.Perm.refl _, by
          rw [← List.map_take]
          exact .cons₂ _ (.cons _ (.cons₂ _ (.cons _ (List.Sublist.refl _)))), p, es.take 4, o', rfl, (fun z hz => hkw z (hem z (List.mem_of_mem_take hz))), hro', rfl⟩
      · obtain ⟨p, zs, o', rfl, hzs, hro', rfl⟩ := z
        exact ⟨p, zs.map D.s, _, rfl, rfl, zs, o', rfl, hzs, hro', rfl⟩
      · obtain ⟨zs, o', rfl, hzs, hro', rfl⟩ := z
        exact ⟨zs, o', o7, o8, o9, o10, o11, o12, o13, o14, o15, o16, rfl, hzs, rfl, rfl, hro'⟩
      · obtain ⟨zs, o', p7, p8, p9, p10, p11, p12, p13, p14, p15, p16, rfl, hzs, rfl, rfl, hro'⟩ := hI5
        rw [List.getElem?_map] at hdj
        obtain ⟨h, hh, rfl⟩ := Option.map_eq_some_iff.mp hdj
        have hw := hzs h (List.mem_of_getElem? hh)
        have hsm5 := hsm3.ex hE5
        have hscr5 := hscr3.ex hE5
        have hL5 : ∀ (M : Mm), ∀ p ∈ [(sm, cs.map cardD)], LsOf c Fr5 M p.1 p.2 := fun M p hp => by
          rw [List.mem_singleton.mp hp]
          exact .inl hsm5
        refine ⟨_, _, g_name 7 sc_law.nd, fun σ11 H11 A11 => ?_⟩
        refine x_tupE (Z := fun d M' => ∃ so, d = walkD (walked cs r h) so ∧ M' = (so, Ob.lst ((walked cs r h).2.sought.map D.s)) :: (rw, o') :: lawTb tg tf tB tA tC) (e_call (S := S_lawwalked) (L := [(sm, cs.map cardD)]) (M0 := []) (Mr := (rw, o') :: lawTb tg tf tB tA tC) (ok_lawwalked T) hr (a_cons (v_var 2) (a_cons (v_var 5) (a_cons (v_var 7) a_nil))) (List.Perm.refl _) ⟨sm, cs, r, h, rfl, rfl, rfl, hdr.1, hrule, rfl⟩ (hL5 _) fun d Mn z => by
          obtain ⟨so, a1, a2⟩ := z
          exact ⟨so, a1, by rw [a2]; rfl⟩) A11 fun d M' z => ?_
        obtain ⟨so, rfl, rfl⟩ := z
        refine ⟨_, _, g_tup rfl rfl (gs_cons (g_name 8 sc_law.nd) (gs_cons (g_name 9 sc_law.nd) (gs_cons (g_name 10 sc_law.nd) (gs_cons (g_name 11 sc_law.nd) gs_nil)))), fun σ12 H12 A12 => ?_⟩
        have A12 := A12.drop1
        refine x_if (k := false) (t_same rfl hr (v_call (ok_walk T) hr (a_cons (v_var 3) (a_cons (v_var 5) (a_cons (v_var 7) a_nil))) ⟨cs, r, h, rfl, hdr.1, hrule, hw, rfl⟩) (v_tup (a_cons (v_var 8) (a_cons (v_var 9) a_nil))) (py_pair _ _) (sh_pair walked_str _)) A12 (fun h => nomatch h) fun _ H13 A13 => x_nil ?_
        refine x_if (k := false) (t_same rfl hr (v_call (ok_looks T) hr (a_cons (v_var 3) (a_cons (v_var 5) (a_cons (v_var 7) a_nil))) ⟨cs, r, h, rfl, hdr.1, hrule, hw, rfl⟩) (v_var 10) (p := .int ((walked cs r h).2.cnt : Int)) rfl (sh_int 0 _)) A13 (fun h => nomatch h) fun _ H14 A14 => x_nil ?_
        refine x_if (k := false) (Pt.is (t_cmp op_gt (v_lenT T.n_len rfl (v_ixT (d := .t ((looked ("half" : Str) (cs.map (·.h)) h).2.map natD)) rfl (v_call (ok_look_up T) hr (a_cons (v_var 3) (a_cons v_str (a_cons (v_var 7) a_nil))) ⟨cs, ("half" : Str), h, rfl, hdr.1, .inr (.inl rfl), hw, rfl⟩) v_int rfl)) v_int rv_I0) ?_) A14 (fun h => nomatch h) fun _ H15 A15 => x_nil ?_
        · have := half_law (h := h) hdr.1
          rw [decide_eq_false]
          rw [List.length_map]
          omega
        refine x_if (k := false) (t_same rfl hr (v_call (ok_reach T) hr (a_cons (v_var 3) (a_cons (v_var 5) (a_cons (v_var 7) a_nil))) ⟨cs, r, h, rfl, hdr, hrule, hw, rfl⟩) (Pv.is (v_callR [(sm, cs.map cardD)] (ok_lawreach T) hr (a_cons (v_var 2) (a_cons (v_var 5) (a_cons (v_var 7) a_nil))) ⟨sm, cs, r, h, rfl, rfl, hdr, hrule, rfl⟩ (hL5 _)) (by rw [reach_law hdr hw]; rfl)) (py_ints _) (sh_ints _)) A15 (fun h => nomatch h) fun _ H16 A16 => x_nil ?_
        refine x_parE (i := 12) (j := 13) (Z := fun ds M' => ∃ (way : Str) (k : Nat) (wl : Addr) (ob o3 : Ob), ds = [.s way, natD (1 + k)] ∧ wayOk way ∧ k < 20 ∧ RwOk scr o3 ∧ M' = (rw, o3) :: (wl, ob) :: lawTb tg tf tB tA tC) rfl sc_law.nd (by decide) (ea_cons (Z := fun d M' => ∃ (way : Str) (wl : Addr) (ob o3 : Ob), d = .s way ∧ wayOk way ∧ RwOk scr o3 ∧ M' = (rw, o3) :: (wl, ob) :: lawTb tg tf tB tA tC) (e_callE (S := S_pick) (Za := fun ds M1 => ∃ wl, ds = [.p rw, .p wl] ∧ M1 = (wl, Ob.lst [.s ("broad" : Str), .s ("deep" : Str), .s ("straight" : Str)]) :: (rw, o') :: lawTb tg tf tB tA tC) (ok_pick T) hr (ea_v (v_var 1) (ea_l (l_lst (a_cons v_str (a_cons v_str (a_cons v_str a_nil)))) fun wl => ea_nil ⟨wl, rfl, rfl⟩)) fun ds M1 z => ?_) fun d M' z => ?_) A16 fun ds M' z => ?_
        · obtain ⟨wl, rfl, rfl⟩ := z
          refine ⟨[(scr, ns.map D.i), (wl, [.s ("broad" : Str), .s ("deep" : Str), .s ("straight" : Str)])], [(rw, o')], (wl, Ob.lst [.s ("broad" : Str), .s ("deep" : Str), .s ("straight" : Str)]) :: lawTb tg tf tB tA tC, _, List.Perm.swap _ _ _, ⟨rw, scr, wl, ns, o', _, rfl, rfl, rfl, hro', by decide, by decide, rfl⟩, fun p hp => ?_, fun d Mn z => ?_⟩
          · rcases List.mem_cons.mp hp with rfl | hp
            · exact .inl hscr5
            · rw [List.mem_singleton.mp hp]
              exact .inr List.mem_cons_self
          · obtain ⟨o3, hd3, hro3, rfl⟩ := z
            simp only [List.mem_cons, List.not_mem_nil, or_false] at hd3
            rcases hd3 with rfl | rfl | rfl
            · exact ⟨_, wl, _, o3, rfl, .inl rfl, hro3, rfl⟩
            · exact ⟨_, wl, _, o3, rfl, .inr (.inl rfl), hro3, rfl⟩
            · exact ⟨_, wl, _, o3, rfl, .inr (.inr rfl), hro3, rfl⟩
        · obtain ⟨way, wl, ob, o3, rfl, hway, hro3, rfl⟩ := z
          refine ea_cons (e_op2 (Z2 := fun d M' => ∃ (k : Nat) (o4 : Ob), d = natD (1 + k) ∧ k < 20 ∧ RwOk scr o4 ∧ M' = (rw, o4) :: (wl, ob) :: lawTb tg tf tB tA tC) op_add v_int (e_taken (many := 20) T rfl hr (v_var 1) v_int (List.Perm.refl _) hro3 hscr5) fun d M1 z => ?_) fun d M' z => ?_
          · obtain ⟨k, o4, hk, rfl, hro4, rfl⟩ := z
            exact ⟨_, rv_I0, k, o4, congrArg D.i (by omega), hk, hro4, rfl⟩
          · obtain ⟨k, o4, rfl, hk, hro4, rfl⟩ := z
            exact ea_nil ⟨way, k, wl, ob, o4, rfl, hway, hk, hro4, rfl⟩
        obtain ⟨way, k, wl, ob, o3, rfl, hway, hk20, hro3, rfl⟩ := z
        refine ⟨_, _, rfl, fun σ17 H17 A17 => ?_⟩
        have A17 := A17.less (M' := (rw, o3) :: lawTb tg tf tB tA tC) (.cons₂ _ (.cons _ (List.Sublist.refl _)))
        obtain ⟨j2, gok⟩ := gathered_ok (r := r) (way := way) (pat := 1 + k) hdr hw
        refine x_tupE (Z := fun d M' => ∃ me2 vi kv, d = .t [.p me2, .p vi, natD (gathered cs r way h (1 + k)).done.length] ∧ M' = (me2, dicV kv) :: (vi, Ob.lst ((gathered cs r way h (1 + k)).visited.map natD)) :: (rw, o3) :: lawTb tg tf tB tA tC ∧ keysI kv (gathered cs r way h (1 + k)).met) (e_call (S := S_lawgath) (L := [(sm, cs.map cardD)]) (M0 := []) (Mr := (rw, o3) :: lawTb tg tf tB tA tC) (ok_lawgath T) hr (a_cons (v_var 2) (a_cons (v_var 5) (a_cons (v_var 12) (a_cons (v_var 7) (a_cons (v_var 13) a_nil))))) (List.Perm.refl _) ⟨sm, cs, r, way, h, 1 + k, rfl, rfl, rfl, hdr, hrule, hway, hw, by omega, rfl⟩ (hL5 _) fun d Mn z => by
          obtain ⟨me2, vi, kv, a1, a2, a3⟩ := z
          exact ⟨me2, vi, kv, a1, by rw [a2]; rfl, a3⟩) A17 fun d M' z => ?_
        obtain ⟨me2, vi, kv, rfl, rfl, hkv⟩ := z
        refine ⟨_, _, g_tup rfl rfl (gs_cons (g_name 14 sc_law.nd) (gs_cons (g_name 15 sc_law.nd) (gs_cons (g_name 16 sc_law.nd) gs_nil))), fun σ18 H18 A18 => ?_⟩
        refine x_if (k := false) (t_same rfl hr (v_call (ok_gather T) hr (a_cons (v_var 3) (a_cons (v_var 5) (a_cons (v_var 12) (a_cons (v_var 7) (a_cons (v_var 13) a_nil))))) ⟨cs, r, way, h, 1 + k, rfl, hdr, hrule, hway, hw, by omega, by omega, rfl⟩) (v_tup (a_cons (v_tupN T.n_tuple rfl (l_sortDict (kvs := kv) 0 rfl T.n_sorted (v_var 14) hkv gok.mn)) (a_cons (v_tupL T.n_tuple rfl (v_var 15) (.inr (List.mem_cons_of_mem _ List.mem_cons_self))) (a_cons (v_var 16) a_nil)))) (py_gat _ _ _) (sh_gat _ _ _)) A18 (fun h => nomatch h) fun _ H19 A19 => x_nil (x_nil ?_)
        exact ⟨_, _, ⟨zs, o3, _, _, _, _, _, _, _, _, _, _, rfl, hzs, rfl, rfl, hro3⟩, A19.less (.cons _ (.cons _ (List.Sublist.refl _)))⟩
      · obtain ⟨zs, o', p7, p8, p9, p10, p11, p12, p13, p14, p15, p16, rfl, hzs, rfl, rfl, hro'⟩ := hI5
        refine x_if (k := false) (Pt.is (t_cmp op_ne (v_lenN T.n_len rfl (l_split (v_call (ok_table T) hr (a_cons (v_var 3) (a_cons (v_var 5) a_nil)) ⟨cs, r, rfl, hdr, hrule, rfl⟩) v_str (by decide +kernel) (tableF_len hdr))) (v_lenN T.n_len rfl (l_callL [(sm, cs.map cardD)] (ok_lawknown T) hr (a_cons (v_var 2) a_nil) ⟨sm, cs, rfl, rfl, hdr, rfl⟩ (fun p hp => by
          rw [List.mem_singleton.mp hp]
          exact .inl hsm3))) rv_ne) (by
          rw [List.length_map, List.length_map, table_split hdr (known_ne hne), List.length_map, hkn, decide_eq_true rfl]
          rfl)) A' (fun h => nomatch h) fun _ H12 A12 => x_nil (x_nil ⟨_, _, ⟨o', _, _, _, _, _, _, _, _, _, _, _, _, rfl, rfl, hro'⟩, A12⟩)
    · obtain ⟨o, o5, o6, o7, o8, o9, o10, o11, o12, o13, o14, o15, o16, rfl, rfl, hro⟩ := hI
      have hL6 : ∀ (M : Mm), ∀ p ∈ [(sm, cs.map cardD)], LsOf c Fr2 M p.1 p.2 := fun M p hp => by
        rw [List.mem_singleton.mp hp]
        exact .inl hsm
      refine x_set 17 sc_law.nd (v_callR [(sm, cs.map cardD)] (ok_lawrising T) hr (a_cons (v_var 2) a_nil) ⟨sm, cs, rfl, rfl, by omega, by omega, rfl⟩ (hL6 _)) A' fun σ8 H8 A8 => ?_
      refine x_retE (Z := fun d M' => d = .b true) (e_or (v_cmp op_lt (v_var 17) v_int rv_I0) (fun _ => rfl) fun b => ?_) A8 fun d M' v H' z A9 i r => ?_
      · have hr14 : 14 ≤ risingM cs := by
          have := of_decide_eq_false b
          omega
        obtain ⟨r1, ⟨s0, hs0, sol0⟩, r3⟩ := rising_law h16 hr14
        refine e_one (e_cmp (db := .i (16 - (risingM cs : Int))) op_eq (e_lenTE (Z2 := fun d M' => d = natD (16 - risingM cs)) T.n_len rfl (e_call (S := S_out tf) (L := []) (M0 := [(tf, .tab "filed.<locals>.<lambda>")]) (Mr := [(rw, o), tabG tg] ++ [tabB tB, tabA tA, tabC tC]) (Z2 := fun d M' => ∃ s : List Nat, d = tupN s ∧ s.length = 16 - risingM cs) (ok_out_of_order T BF) hr (a_cons (v_var 3) a_nil) (List.perm_middle (l₁ := [(rw, o), tabG tg])) ⟨cs, 16 - risingM cs, rfl, rfl, rfl, hdr, by omega, by omega, ⟨s0, by rw [h16]; exact hs0, sol0⟩, rfl⟩ (fun p hp => nomatch hp) fun d Mn z => ?_) fun d M1 z => ?_) (fun M1 => v_op op_sub v_int (v_var 17) rv_I0) fun d M1 z => ?_)
        · obtain ⟨⟨j, s1, rfl, hs1, sol1, hmin⟩, rfl⟩ := z
          refine ⟨s1, rfl, ?_⟩
          rw [h16] at hs1 hmin
          rw [chs_size 16 j s1 hs1]
          rcases Nat.lt_trichotomy j (16 - risingM cs) with q1 | q1 | q1
          · have := r3 j q1 s1 hs1
            rw [sol1] at this
            cases this
          · exact q1
          · have := hmin _ q1 s0 hs0
            rw [sol0] at this
            cases this
        · obtain ⟨s1, rfl, hl⟩ := z
          exact ⟨s1.map natD, rfl, by rw [List.length_map, hl]⟩
        · subst z
          refine ⟨.b true, ?_, rfl⟩
          have e1 : natD (16 - risingM cs) = .i (16 - (risingM cs : Int)) := congrArg D.i (by omega)
          rw [e1]
          have := rv_eq (c := c) (x := .int (16 - (risingM cs : Int))) (y := .int (16 - (risingM cs : Int)))
          rw [decide_eq_true rfl] at this
          exact this
      · subst z
        exact q _ _ _ _ _ v H' ⟨rfl, rfl⟩ ((A9.back (G := []) e2 (fun p hp => absurd hp List.not_mem_nil)).less (List.nil_sublist _)) r
end
end Sx
end
section
/-! the law at the head's heap -/
set_option maxRecDepth 100000
set_option maxHeartbeats 1000000
namespace Sx
open PySem PySem.Spec PyProof.Rows L2 LamX NdefX
section
variable {K : PySem.W.Frag} {base : Heap} {mg : Str → Option Value} {x qual : Str} {params : Arguments} {body : List Stmt} {scope : Scope} {dvs : List V} {kws : List (Str × V)} {fd : FuncData} {f C g : Addr} {m : Str} {ca cd : Addr}
theorem tbD_of {p : He.Defn} (hf : He.fAd K p = f) (F : FunD K x qual params body scope dvs kws f fd) (TB : TabB base mg (He.cT K p).1 (He.cT K p).2) : TbD ⟨K, ca, cd⟩ mg base f (He.cT K p).2 := by
  subst hf
  intro oc od fd2 osl lk
  obtain ⟨oc', od', dV, kV, doc, pm, an, cdv, ct, osl', rfl, lk', hcd, _, _⟩ := F.ex
  have lk2 : K.lookup (He.fAd K p) = some ⟨oc, od, .func fd2, osl⟩ := lk
  rw [lk'] at lk2
  have e := Option.some.inj lk2
  injection e with e1 e2 e3 e4
  injection e3 with e3
  obtain ⟨cc, ec⟩ := He.codeIn_ref hcd
  have ec2 : (PySem.W.fnOf x qual params body scope dV kV doc pm an cdv ct).code = .ref cc := ec
  have e5 : He.codeOf K p = cc := He.codeOf_eq lk' ec2
  refine ⟨cc, e3 ▸ ec2, ?_⟩
  rw [← e5]
  exact TB
theorem ma_eq (h : PySem.W.findIn K (.ref C) m = some (some (.ref g))) : He.ma K C m = g := by
  unfold He.ma
  rw [h]
theorem tbM_of {X m : Str} {qual : Str} {st : Stmt} {dvs : List V} (D : Dm ⟨K, ca, cd⟩ (He.ga K X) m qual st dvs) (TB : TabB base mg (He.cT K (X, some m)).1 (He.cT K (X, some m)).2) : TbM ⟨K, ca, cd⟩ mg base (He.ga K X) m (He.cT K (X, some m)).2 := by
  intro g' hg
  obtain ⟨g, fd, hm, F⟩ := D
  have e1 := ma_eq hm.at_
  have e2 := ma_eq hg.at_
  have e : g = g' := e1.symm.trans e2
  subst e
  exact tbD_of (p := (X, some m)) e1 F TB
end
theorem hLaw {w : World} {mg : Str → Option Value} {fa : Addr} {h : Heap} (Y : hk.says w h) (G : h.Ns mainGlobals mg) (hfa : mg ("law" : Str) = some (.ref fa)) : ∃ K : PySem.W.Frag, K.In h ∧ LawAtS PySem.Challenge.rw_seerings_k72_whole_sixteen_cards w K CX0 13 63 "_law_script" mg fa h := by
  obtain ⟨K, KX, c⟩ := Y
  refine ⟨K, KX, ?_⟩
  have T := hTx KX G c.t c.ex
  obtain ⟨e0, fd, F⟩ := T.d_law
  have e := hfa.symm.trans e0
  cases e
  obtain ⟨_, fdG, FG⟩ := T.d_law_great
  obtain ⟨_, fdF, FF⟩ := T.d_filed
  have hmem : ∀ p ∈ hTf.map (He.cT K), ∃ q ∈ hTf, He.cT K q = p := fun p hp => List.mem_map.mp hp
  refine ⟨fd, hTf.map (He.cT K), spM ⟨K, He.ga K "Card", He.ga K "Drawer"⟩ (S_law (He.cT K ("_law_great", none)).2 (He.cT K ("filed", none)).2 (He.cT K ("Row", some "read_books")).2 (He.cT K ("Row", some "read_also")).2 (He.cT K ("Row", some "read_card")).2), fun p hp => ?_, fun p hp => ?_, fun p hp => ?_, fun s u => ?_, fun H a ns _ _ hH hS => ?_, fun base KB _ TB => ?_⟩
  · obtain ⟨q, hq, rfl⟩ := hmem p hp
    exact c.empty q hq
  · obtain ⟨q, hq, rfl⟩ := hmem p hp
    exact c.out q hq
  · obtain ⟨q, hq, rfl⟩ := hmem p hp
    exact PySem.W.codeHd_of_K KX (c.hd q hq)
  · exact FunD.bindsA (ps := ["_law_script"]) F (fun _ _ _ _ _ _ us hl => match us, hl with | [_], _ => rfl) s [u] rfl
  · have hT : ∀ q ∈ hTf, H (He.cT K q).2 = some (.tbl #[]) := fun q hq => hH (He.cT K q) (List.mem_map_of_mem hq)
    have hR : Rd H a (.lst (ns.map V.int)) := by
      rcases hS with hS | ⟨o, its, n, lk, ec, _⟩
      · exact hS
      · have := c.nl a o lk
        obtain ⟨oc, od, dt, sl⟩ := o
        have ec : oc = .type "list" := ec
        subst ec
        have : (!decide (("list" : String) = "list")) = true := this
        rw [decide_eq_true rfl] at this
        cases this
    have em : (lawTb (He.cT K ("_law_great", none)).2 (He.cT K ("filed", none)).2 (He.cT K ("Row", some "read_books")).2 (He.cT K ("Row", some "read_also")).2 (He.cT K ("Row", some "read_card")).2).map (·.1) = hTf.map fun p => (He.cT K p).2 := rfl
    refine ⟨[.p a], [(a, ns.map D.i)], _, _, ⟨a, ns, rfl, rfl, rfl, rfl⟩, RpL.one (rp_v.mpr rfl), fun p hp => ?_, by rw [em]; exact c.nd, fun p hp => ?_, fun d Mn v H' z rv _ _ _ _ _ => ?_⟩
    · rw [List.mem_singleton.mp hp, em]
      refine ⟨fun hm => ?_, ns.map V.int, hR, ?_⟩
      · obtain ⟨q, hq, e⟩ := List.mem_map.mp hm
        have e : (He.cT K q).2 = a := e
        have := hT q hq
        rw [e] at this
        rcases hR with h1 | ⟨o, h1⟩
        · rw [this] at h1
          cases h1
        · rw [this] at h1
          cases h1
      · have := RpL.vmap (c := ⟨K, He.ga K "Card", He.ga K "Drawer"⟩) (H := H) (xs := ns.map V.int)
        rw [List.map_map] at this
        exact this
    · have tab : ∀ (q : He.Defn) (z : Str), q ∈ hTf → TabS H (He.cT K q).2 z := fun q z hq => ⟨#[], hT q hq, trivial, fun pos cv hc => nomatch hc⟩
      simp only [List.mem_cons, List.not_mem_nil, or_false] at hp
      rcases hp with rfl | rfl | rfl | rfl | rfl
      · exact tab _ _ (.head _)
      · exact tab _ _ (.tail _ (.head _))
      · exact tab _ _ (.tail _ (.tail _ (.head _)))
      · exact tab _ _ (.tail _ (.tail _ (.tail _ (.head _))))
      · exact tab _ _ (.tail _ (.tail _ (.tail _ (.tail _ (.head _)))))
    · obtain ⟨rfl, _⟩ := z
      exact rp_v.mp rv
  · have tb : ∀ q ∈ hTf, TabB base mg (He.cT K q).1 (He.cT K q).2 := fun q hq => TB (He.cT K q) (List.mem_map_of_mem hq)
    exact ok_law T F (tbD_of (p := ("_law_great", none)) rfl FG (tb _ (.head _))) (tbD_of (p := ("filed", none)) rfl FF (tb _ (.tail _ (.head _)))) (tbM_of T.d_Row_read_books (tb _ (.tail _ (.tail _ (.head _))))) (tbM_of T.d_Row_read_also (tb _ (.tail _ (.tail _ (.tail _ (.head _)))))) (tbM_of T.d_Row_read_card (tb _ (.tail _ (.tail _ (.tail _ (.tail _ (.head _)))))))
end Sx
end
/-! the row -/
set_option maxRecDepth 100000
set_option maxHeartbeats 0
open PySem PySem.W PySem.Calls PyProof.Rows
theorem PySem.Challenge.cw_seerings_k72_whole_sixteen_cards_holds : PySem.Challenge.rw_seerings_k72_whole_sixteen_cards.Holds := by
  w_on; o_law
  refine HandSHeadRun.head_any (r := OpenLaw.row PySem.Challenge.rw_seerings_k72_whole_sixteen_cards) (q := view (OpenLaw.row PySem.Challenge.rw_seerings_k72_whole_sixteen_cards).prog [105]) (H := Sx.hk) (ob := Sx.hOb) (M := 20000) (loose := Sx.hNames) (d := HandSHeadRun.topDef (OpenLaw.row PySem.Challenge.rw_seerings_k72_whole_sixteen_cards).prog 105) (kwd := []) Sx.hOb_eq
    (by kernel_rfl) (fun s => by kernel_rfl) Sx.hRun (by kernel_rfl) (by kernel_rfl) (by kernel_rfl) (by rfl) (by first | assumption | decide +kernel) (by decide +kernel) ⟨rfl, rfl, rfl, rfl, rfl, by decide +kernel⟩ ?hw ?hc
  case hw => w_witness2
  case hc =>
    refine LamX.walk_ofTsE (l := PySem.Challenge.rw_seerings_k72_whole_sixteen_cards) (n := 63) (k := 13) (x := "_law_script") (CX := fun _ => L2.CX0) rfl (by decide) (by kernel_rfl) ⟨rfl, by decide, by decide⟩ ?F (fun _ _ _ _ _ z => z)
    intro w mg fa h Y G hmg0
    have hmg : mg ("law" : PySem.Str) = some (.ref fa) := by
      have e : (HandSHeadRun.topDef (OpenLaw.row PySem.Challenge.rw_seerings_k72_whole_sixteen_cards).prog 105).name = ("law" : PySem.Str) := by kernel_rfl
      rw [← e]
      exact hmg0
    exact Sx.hLaw Y G hmg
