import PyProof.Rows.All
import Wide.All
import OpenK.AllK
import Wide.FinOn
import HandS.ForMost
import HandS.ForExc
import HandS.Evl
import HandS.Lambda
import HandS.ExcValue
import HandS.HeadHook4
import PyProof.ReprRoads
import HandS.Deep
import KE.DataFind
import HandS.SetFor
import HandS.Style
import HandS.EndOwn
import HandS.WordsExc
import KE.KExcSuper
import HandS.Wide
import HandS.WideBits
import HandS.IsInst
import KE.KExcIs
import HandS.EndTab
import PySem.Challenge.RW_addsup_k84_whole_shares_of_a_whole
import HandS.Head0
import HandS.Head1
import HandS.Head2
import HandS.Head3
import HandS.HeadEnd
import HandS.Conv
import HandS.Gcd
import KE.SortKeyHeap
set_option Elab.async false
set_option linter.all false
set_option maxRecDepth 100000
set_option maxHeartbeats 0
/-! D1: plain data, how a heap bears it, slots, outcomes. -/
namespace DL
open PySem L2 PyProof.Rows

/-- plain data -/
abbrev D := PyData

/-- the tables of code objects that lambdas of this claim use: the def that holds the lambda, the lambda's name -/
def lamDefs : List (He.Defn × Str) := [(("law", none), "law.<locals>.<lambda>"), (("_law_weights_right", none), "_law_weights_right.<locals>.<lambda>"), (("_law_shares", none), "_law_shares.<locals>.<lambda>"), (("greatest_rests", none), "greatest_rests.<locals>.<lambda>")]
def TbK (K : PySem.W.Frag) : List (Addr × Str) := lamDefs.map fun p => ((He.cT K p.1).2, p.2)
/-- an exception object that is held -/
def XO (c dx a : Addr) : HO := .ext fun h => ∃ (oe : Obj) (vs : Array Value), h.get? a = some oe ∧ Zc (.ref c) (some dx) oe ∧ oe.data = .fields vs
/-- signs for what is no plain data: an exception, a function -/
def excD (c : Addr) (d : D) : D := .dict [(.int c, d)]
def fnD (a : Addr) : D := .dict [(.str ("fn" : Str), .int a)]

mutual
inductive Rp (K : PySem.W.Frag) (H : Hp) : V → D → Prop
  | non : Rp K H .non .none
  | bl (b : Bool) : Rp K H (.bl b) (.bool b)
  | int (i : Int) : Rp K H (.int i) (.int i)
  | str (x : Str) : Rp K H (.str x) (.str x)
  | lst {a : Addr} {xs : List V} {ds : List D} : H a = some (.lst xs) → Rps K H xs ds → Rp K H (.ref a) (.list ds)
  | tup {a : Addr} {xs : List V} {ds : List D} : H a = some (.tup xs) → Rps K H xs ds → Rp K H (.ref a) (.tuple ds)
  | emp {a : Addr} : H a = some (.dK []) → Rp K H (.ref a) (.dict [])
  | exc {a c dx : Addr} {v : V} {d : D} : H a = some (XO c dx a) → H dx = some (.xd [(("value" : Str), v)]) → Rp K H v d → Rp K H (.ref a) (.dict [(.int c, d)])
  | fn {a : Addr} : Rp K H (.ref a) (.dict [(.str ("fn" : Str), .int a)])
inductive Rps (K : PySem.W.Frag) (H : Hp) : List V → List D → Prop
  | nil : Rps K H [] []
  | cons {v : V} {vs : List V} {d : D} {ds : List D} : Rp K H v d → Rps K H vs ds → Rps K H (v :: vs) (d :: ds)
end

section
variable {K : PySem.W.Frag} {H H' : Hp}
/-- what is tracked stays -/
def Ext (H H' : Hp) : Prop := ∀ a o, H a = some o → H' a = some o
theorem Ext.rfl (H : Hp) : Ext H H := fun _ _ h => h
theorem Ext.trans {H H1 H2 : Hp} (a : Ext H H1) (b : Ext H1 H2) : Ext H H2 := fun x o h => b x o (a x o h)
theorem ext_sqL {a : Addr} {xs : List V} (e : Ext H H') (h : SqL K H a xs) : SqL K H' a xs := Same.seq e h
theorem ext_sqT {a : Addr} {xs : List V} (e : Ext H H') (h : SqT K H a xs) : SqT K H' a xs := by
  rcases h with (h | ⟨o, h⟩) | h
  · exact .inl (.inl (e _ _ h))
  · exact .inl (.inr ⟨o, e _ _ h⟩)
  · exact .inr h
mutual
theorem Rp.ext (e : Ext H H') : ∀ {v : V} {d : D}, Rp K H v d → Rp K H' v d
  | _, _, .non => .non
  | _, _, .bl b => .bl b
  | _, _, .int i => .int i
  | _, _, .str x => .str x
  | _, _, .lst h r => .lst (e _ _ h) (Rps.ext e r)
  | _, _, .tup h r => .tup (e _ _ h) (Rps.ext e r)
  | _, _, .emp h => .emp (e _ _ h)
  | _, _, .exc h1 h2 r => .exc (e _ _ h1) (e _ _ h2) (Rp.ext e r)
  | _, _, .fn => .fn
theorem Rps.ext (e : Ext H H') : ∀ {vs : List V} {ds : List D}, Rps K H vs ds → Rps K H' vs ds
  | _, _, .nil => .nil
  | _, _, .cons h r => .cons (Rp.ext e h) (Rps.ext e r)
end
theorem Rps.length : ∀ {vs : List V} {ds : List D}, Rps K H vs ds → vs.length = ds.length
  | _, _, .nil => rfl
  | _, _, .cons _ r => by simp [Rps.length r]
theorem Rps.get : ∀ {vs : List V} {ds : List D} {i : Nat} {d : D}, Rps K H vs ds → ds[i]? = some d → ∃ v, vs[i]? = some v ∧ Rp K H v d
  | _, _, _, _, .nil, e => by simp at e
  | _, _, 0, _, .cons h _, e => by
    simp at e; subst e; exact ⟨_, rfl, h⟩
  | _, _, i + 1, d, .cons _ r, e => by
    obtain ⟨v, h1, h2⟩ := Rps.get (i := i) r (by simpa using e)
    exact ⟨v, by simpa using h1, h2⟩
theorem Rps.getV : ∀ {vs : List V} {ds : List D} {i : Nat} {v : V}, Rps K H vs ds → vs[i]? = some v → ∃ d, ds[i]? = some d ∧ Rp K H v d
  | _, _, _, _, .nil, e => by simp at e
  | _, _, 0, _, .cons h _, e => by
    simp at e; subst e; exact ⟨_, rfl, h⟩
  | _, _, i + 1, d, .cons _ r, e => by
    obtain ⟨v, h1, h2⟩ := Rps.getV (i := i) r (by simpa using e)
    exact ⟨v, by simpa using h1, h2⟩
theorem Rps.app : ∀ {vs ws : List V} {ds es : List D}, Rps K H vs ds → Rps K H ws es → Rps K H (vs ++ ws) (ds ++ es)
  | _, _, _, _, .nil, s => s
  | _, _, _, _, .cons h r, s => .cons h (Rps.app r s)
theorem Rps.one {v : V} {d : D} (h : Rp K H v d) : Rps K H [v] [d] := .cons h .nil
theorem Rps.take : ∀ {vs : List V} {ds : List D} (n : Nat), Rps K H vs ds → Rps K H (vs.take n) (ds.take n)
  | _, _, 0, _ => .nil
  | _, _, _ + 1, .nil => .nil
  | _, _, n + 1, .cons h r => .cons h (Rps.take n r)
theorem Rps.drop : ∀ {vs : List V} {ds : List D} (n : Nat), Rps K H vs ds → Rps K H (vs.drop n) (ds.drop n)
  | _, _, 0, r => r
  | _, _, _ + 1, .nil => .nil
  | _, _, n + 1, .cons _ r => Rps.drop n r
theorem Rps.rev : ∀ {vs : List V} {ds : List D}, Rps K H vs ds → Rps K H vs.reverse ds.reverse
  | _, _, .nil => .nil
  | _, _, .cons h r => by
    rw [List.reverse_cons, List.reverse_cons]
    exact (Rps.rev r).app (.one h)
theorem Rps.set {v : V} {d : D} (h : Rp K H v d) : ∀ {vs : List V} {ds : List D} (i : Nat), Rps K H vs ds → Rps K H (vs.set i v) (ds.set i d)
  | _, _, _, .nil => .nil
  | _, _, 0, .cons _ r => .cons h r
  | _, _, i + 1, .cons q r => .cons q (Rps.set h i r)

def NT (o : HO) : Prop := ∀ ps, o ≠ .tbl ps
def unt : Option HO → Option HO
  | some (.tbl _) => none
  | o => o
theorem unt_of {x : Option HO} {o : HO} (h : unt x = some o) : x = some o ∧ NT o := by
  cases x with
  | none => cases h
  | some u => cases u <;> first | (cases h; done) | (cases h; exact ⟨rfl, fun _ z => nomatch z⟩)
theorem unt_in {o : HO} (n : NT o) : unt (some o) = some o := by
  cases o <;> first | rfl | exact absurd rfl (n _)
/-- the heap without the addresses of A and without tables -/
def hid (A : List Addr) (H : Hp) : Hp := fun a => if a ∈ A then none else unt (H a)
theorem hid_of {A : List Addr} {a : Addr} {o : HO} (h : hid A H a = some o) : a ∉ A ∧ H a = some o := by
  unfold hid at h
  by_cases e : a ∈ A
  · rw [if_pos e] at h; cases h
  · rw [if_neg e] at h; exact ⟨e, (unt_of h).1⟩
theorem hid_nt {A : List Addr} {a : Addr} {o : HO} (h : hid A H a = some o) : NT o := by
  unfold hid at h
  by_cases e : a ∈ A
  · rw [if_pos e] at h; cases h
  · rw [if_neg e] at h; exact (unt_of h).2
theorem hid_in {A : List Addr} {a : Addr} {o : HO} (e : a ∉ A) (h : H a = some o) (n : NT o := by intro _ z; cases z) : hid A H a = some o := by
  unfold hid; rw [if_neg e, h]; exact unt_in n
theorem hid_ext {A : List Addr} : Ext (hid A H) H := fun _ _ h => (hid_of h).2
theorem hid_less {A B : List Addr} (h : ∀ a ∈ A, a ∈ B) : Ext (hid B H) (hid A H) := fun a _ q => by
  obtain ⟨n, e⟩ := hid_of q
  exact hid_in (fun z => n (h a z)) e (hid_nt q)
theorem Ext.back (e : Ext H H') {a : Addr} (h : H' a = none) : H a = none := by
  cases q : H a with
  | none => rfl
  | some o => rw [e a o q] at h; cases h
/-- what is tracked stays, tables grow -/
structure Gr (K : PySem.W.Frag) (H H' : Hp) : Prop where
  kp : ∀ a o, H a = some o → NT o → H' a = some o
  al : ∀ a, H' a = none → H a = none
  tb : LamX.Tabs (TbK K) H → LamX.Tabs (TbK K) H'
theorem Ext.gr {K : PySem.W.Frag} (e : Ext H H') : Gr K H H' := ⟨fun a o h _ => e a o h, fun _ h => e.back h, fun t => t.ext e⟩
theorem Gr.hid (g : Gr K H H') {A : List Addr} : Ext (hid A H) (hid A H') := fun a o q => by
  obtain ⟨n, e⟩ := hid_of q
  exact hid_in n (g.kp a o e (hid_nt q)) (hid_nt q)
theorem Gr.trans {K : PySem.W.Frag} {H H1 H2 : Hp} (a : Gr K H H1) (b : Gr K H1 H2) : Gr K H H2 := ⟨fun x o h n => b.kp x o (a.kp x o h n) n, fun x h => a.al x (b.al x h), fun t => b.tb (a.tb t)⟩

theorem tab_upd {b : Addr} {q : Str} {p : Addr} {o : HO} (n1 : ∀ ps, H p ≠ some (.tbl ps)) (n2 : ∀ φ, H p ≠ some (.ext φ)) (t : LamX.TabS H b q) : LamX.TabS (upd H p o) b q := by
  obtain ⟨ps, h1, h2, h3⟩ := t
  refine ⟨ps, by rw [upd_ne (fun z => n1 ps (by rw [← z]; exact h1))]; exact h1, h2, fun pos cv hc => ?_⟩
  obtain ⟨c, e1, e2⟩ := h3 pos cv hc
  exact ⟨c, e1, by rw [upd_ne (fun z => n2 _ (by rw [← z]; exact e2))]; exact e2⟩
theorem tab_lst {b : Addr} {q : Str} {p : Addr} {o : HO} {xs : List V} (h : H p = some (.lst xs)) (t : LamX.TabS H b q) : LamX.TabS (upd H p o) b q :=
  tab_upd (fun ps e => by rw [h] at e; cases e) (fun ps e => by rw [h] at e; cases e) t
theorem tab_none {b : Addr} {q : Str} {p : Addr} {o : HO} (h : H p = none) (t : LamX.TabS H b q) : LamX.TabS (upd H p o) b q :=
  tab_upd (fun ps e => by rw [h] at e; cases e) (fun ps e => by rw [h] at e; cases e) t

/-- one step: what P does not own stays; new owned ones were new -/
structure Stp K (H : Hp) (P : List Addr) (H' : Hp) (P' : List Addr) : Prop where
  kp : ∀ a o, a ∉ P → H a = some o → NT o → H' a = some o
  nw : ∀ p ∈ P', p ∈ P ∨ H p = none
  al : ∀ a, H' a = none → H a = none
  tb : LamX.Tabs (TbK K) H → LamX.Tabs (TbK K) H'
theorem Stp.rfl {K : PySem.W.Frag} (H : Hp) (P : List Addr) : Stp K H P H P := ⟨fun _ _ _ h _ => h, fun _ h => .inl h, fun _ h => h, fun h => h⟩
theorem Stp.trans {K : PySem.W.Frag} {H H1 H2 : Hp} {P P1 P2 : List Addr} (a : Stp K H P H1 P1) (b : Stp K H1 P1 H2 P2) : Stp K H P H2 P2 := by
  refine ⟨fun c o n h t => b.kp c o (fun z => ?_) (a.kp c o n h t) t, fun p hp => ?_, fun c h => a.al c (b.al c h), fun t => b.tb (a.tb t)⟩
  · rcases a.nw c z with q | q
    · exact n q
    · rw [q] at h; cases h
  · by_cases hP : p ∈ P
    · exact .inl hP
    · refine .inr ?_
      cases q : H p with
      | none => rfl
      | some o =>
        rcases b.nw p hp with z | z
        · rcases a.nw p z with z | z
          · exact absurd z hP
          · rw [z] at q; cases q
        · rw [a.al p z] at q; cases q
theorem Stp.gr {P : List Addr} (e : Gr K H H') : Stp K H P H' P := ⟨fun a o _ h n => e.kp a o h n, fun _ h => .inl h, e.al, e.tb⟩
theorem Stp.ext {P : List Addr} (e : Ext H H') : Stp K H P H' P := .gr e.gr
theorem Stp.toGr {P' : List Addr} (t : Stp K H [] H' P') : Gr K H H' := ⟨fun a o h n => t.kp a o (by simp) h n, t.al, t.tb⟩
theorem Stp.hid {A0 P P' : List Addr} (t : Stp K H P H' P') : Ext (hid (P ++ A0) H) (hid (P' ++ A0) H') := fun a o q => by
  obtain ⟨n, e⟩ := hid_of q
  rw [List.mem_append, not_or] at n
  refine hid_in (fun z => ?_) (t.kp a o n.1 e (hid_nt q)) (hid_nt q)
  rcases List.mem_append.mp z with z | z
  · rcases t.nw a z with z | z
    · exact n.1 z
    · rw [z] at e; cases e
  · exact n.2 z
theorem Rp.stp {A0 P P' : List Addr} {v : V} {d : D} (t : Stp K H P H' P') (h : Rp K (DL.hid (P ++ A0) H) v d) : Rp K (DL.hid (P' ++ A0) H') v d := h.ext t.hid
theorem Rps.stp {A0 P P' : List Addr} {v : List V} {d : List D} (t : Stp K H P H' P') (h : Rps K (DL.hid (P ++ A0) H) v d) : Rps K (DL.hid (P' ++ A0) H') v d := h.ext t.hid
/-- a tracked new address is none of what is hidden already -/
theorem hid_add {A : List Addr} {p : Addr} (h : H p = none) : Ext (DL.hid A H) (DL.hid (p :: A) H) := fun a o q => by
  obtain ⟨n, e⟩ := hid_of q
  refine hid_in (fun z => ?_) e (hid_nt q)
  rcases List.mem_cons.mp z with z | z
  · rw [z, h] at e; cases e
  · exact n z
end

/-! ### slots -/
/-- nst g: a list of lists of ints, all of them our own; pub 0 d: shared data; pub 1 d: data that does not hang together with the lent list at τ 0; pub 2 d: the lent list itself -/
inductive Sl where
  | pub (m : Nat) (d : D)
  | own (t : Nat) (ds : List D)
  | nst (g : List (List Int))
abbrev Sl.pu (d : D) : Sl := .pub 0 d
/-- what such a slot does not touch -/
def hs (τ : Nat → Addr) (m : Nat) (A : List Addr) : List Addr := if m = 1 then τ 0 :: A else A
theorem Ext.hs {H H' : Hp} {A B : List Addr} (e : Ext (hid A H) (hid B H')) {τ : Nat → Addr} {m : Nat} : Ext (hid (DL.hs τ m A) H) (hid (DL.hs τ m B) H') := by
  unfold DL.hs
  by_cases hm : m = 1
  · rw [if_pos hm, if_pos hm]
    intro a o q
    obtain ⟨n, z⟩ := hid_of q
    have z2 := hid_of (e a o (hid_in (fun w => n (List.mem_cons_of_mem _ w)) z (hid_nt q)))
    refine hid_in (fun w => ?_) z2.2 (hid_nt q)
    rcases List.mem_cons.mp w with w | w
    · exact n (by rw [w]; exact List.mem_cons_self)
    · exact z2.1 w
  · rw [if_neg hm, if_neg hm]
    exact e
theorem hs_mem {τ : Nat → Addr} {m : Nat} {A : List Addr} {a : Addr} (h : a ∈ A) : a ∈ hs τ m A := by
  unfold hs
  by_cases hm : m = 1
  · rw [if_pos hm]; exact List.mem_cons_of_mem _ h
  · rw [if_neg hm]; exact h
theorem hs_eq {H H' : Hp} {A B : List Addr} (e : hid A H = hid B H') {τ : Nat → Addr} {m : Nat} : hid (hs τ m A) H = hid (hs τ m B) H' := by
  unfold hs
  by_cases hm : m = 1
  · rw [if_pos hm, if_pos hm]
    funext a
    by_cases ha : a = τ 0
    · unfold hid
      rw [if_pos (by rw [ha]; exact List.mem_cons_self), if_pos (by rw [ha]; exact List.mem_cons_self)]
    · have z := congrFun e a
      unfold hid at z ⊢
      have q : ∀ C : List Addr, (a ∈ τ 0 :: C) = (a ∈ C) := fun C => propext ⟨fun w => (List.mem_cons.mp w).elim (fun w => absurd w ha) id, List.mem_cons_of_mem _⟩
      simp only [q]
      exact z
  · rw [if_neg hm, if_neg hm]
    exact e
theorem hs_less {τ : Nat → Addr} {m : Nat} {A : List Addr} {H : Hp} : Ext (hid (hs τ m A) H) (hid A H) := hid_less fun a z => by
  unfold hs
  by_cases hm : m = 1
  · rw [if_pos hm]; exact List.mem_cons_of_mem _ z
  · rw [if_neg hm]; exact z
abbrev Env := List (Option Sl)
def noN (ρ : Env) : Bool := ρ.all fun o => match o with
  | some (.nst _) => false
  | _ => true
theorem noN_of {ρ : Env} (h : noN ρ = true) {i : Nat} {g : List (List Int)} (q : ρ[i]? = some (some (.nst g))) : False := by
  have z := List.all_eq_true.mp h _ (List.mem_of_getElem? q)
  cases z
/-- a list at p of the lists at qs: a grid of ints -/
structure Nst (H : Hp) (p : Addr) (qs : List Addr) (g : List (List Int)) : Prop where
  top : H p = some (.lst (qs.map V.ref))
  nd : (p :: qs).Nodup
  len : qs.length = g.length
  row : ∀ (j : Nat) (q : Addr) (r : List Int), qs[j]? = some q → g[j]? = some r → H q = some (.lst (r.map V.int))
theorem Nst.gr {H H' : Hp} {p : Addr} {qs : List Addr} {g : List (List Int)} (h : Nst H p qs g) (k : ∀ a xs, a ∈ p :: qs → H a = some (.lst xs) → H' a = some (.lst xs)) : Nst H' p qs g :=
  ⟨k _ _ List.mem_cons_self h.top, h.nd, h.len, fun j q r e1 e2 => k _ _ (List.mem_cons_of_mem _ (List.mem_of_getElem? e1)) (h.row j q r e1 e2)⟩
def NsAt (H : Hp) (σ : L2.St) (P : List Addr) (i : Nat) (g : List (List Int)) : Prop := ∃ p qs, σ[i]? = some (some (.ref p)) ∧ Nst H p qs g ∧ ∀ a ∈ p :: qs, a ∈ P
theorem NsAt.gr {H H' : Hp} {σ σ' : L2.St} {P : List Addr} {i : Nat} {g : List (List Int)} (h : NsAt H σ P i g) (e : σ'[i]? = σ[i]?) (k : ∀ a xs, a ∈ P → H a = some (.lst xs) → H' a = some (.lst xs)) : NsAt H' σ' P i g := by
  obtain ⟨p, qs, h1, h2, h3⟩ := h
  exact ⟨p, qs, by rw [e]; exact h1, h2.gr fun a xs m z => k a xs (h3 a m) z, h3⟩

structure SRep (K : PySem.W.Frag) (τ : Nat → Addr) (A0 : List Addr) (H : Hp) (σ : L2.St) (ρ : Env) (P : List Addr) : Prop where
  pu : ∀ (i m : Nat) (d : D), ρ[i]? = some (some (.pub m d)) → ∃ v, σ[i]? = some (some v) ∧ Rp K (hid (hs τ m (P ++ A0)) H) v d ∧ (m = 2 → v = .ref (τ 0))
  own : ∀ (i t : Nat) (ds : List D), ρ[i]? = some (some (.own t ds)) → ∃ p xs, σ[i]? = some (some (.ref p)) ∧ p ∈ P ∧ H p = some (.lst xs) ∧ Rps K (hid (P ++ A0) H) xs ds ∧ (t = 0 ∨ p = τ t)
  inj : ∀ (i j t u : Nat) (ds es : List D) (p : Addr), i ≠ j → ρ[i]? = some (some (.own t ds)) → ρ[j]? = some (some (.own u es)) → σ[i]? = some (some (.ref p)) → σ[j]? ≠ some (some (.ref p))
  tr : ∀ a ∈ P ++ A0, H a ≠ none
  len : σ.length = ρ.length
  dj : ∀ p ∈ P, p ∉ A0
  tb : LamX.Tabs (TbK K) H
  ns : ∀ (i : Nat) (g : List (List Int)), ρ[i]? = some (some (.nst g)) → NsAt H σ P i g ∧ (∀ (j : Nat) (h : List (List Int)), ρ[j]? = some (some (.nst h)) → j = i) ∧ ∀ (j t : Nat) (ds : List D), ρ[j]? ≠ some (some (.own t ds))

/-- a value: shared, or a new list that nobody has yet -/
inductive W where
  | pu (d : D)
  | frs (ds : List D)
def W.d : W → D
  | .pu d => d
  | .frs ds => .list ds

/-- the outcome of an expression -/
inductive RE where
  | ok (w : W) (ρ : Env)
  | err (c : Addr) (d : D)
  | st
/-- what follows an expression of that outcome -/
def CDE (K : PySem.W.Frag) (E : XK) (τ : Nat → Addr) (A0 : List Addr) (H : Hp) (P : List Addr) (σ : L2.St) (o : RE) (Q : VK) : Prop :=
  match o with
  | .ok (.pu d) ρ' => ∀ v H' P', Stp K H P H' P' → SRep K τ A0 H' σ ρ' P' → Rp K (hid (P' ++ A0) H') v d → Q v H'
  | .ok (.frs ds) ρ' => ∀ p xs H' P', Stp K H P H' P' → H p = none → p ∉ P' → p ∉ A0 → SRep K τ (p :: A0) H' σ ρ' P' → H' p = some (.lst xs) → Rps K (hid (P' ++ p :: A0) H') xs ds → Q (.ref p) H'
  | .err c d => ∀ dx v H' P', Stp K H P H' P' → (H dx = none ∧ H' dx = some (.xd [(("value" : Str), v)])) → Rp K (hid (P' ++ A0) H') v d → E (.ref c) (some dx) H'
  | .st => False
def tDE (K : PySem.W.Frag) (E : XK) (f : Env → RE) : TE := fun σ H Q => ∃ τ A0 P ρ, SRep K τ A0 H σ ρ P ∧ CDE K E τ A0 H P σ (f ρ) Q
structure DE (X : Cx) (E : XK) (e : Expr) (f : Env → RE) : Prop where
  pe : PE X e (tDE X.K E f)

theorem SRep.puD {K : PySem.W.Frag} {τ : Nat → Addr} {A0 P : List Addr} {H : Hp} {σ : L2.St} {ρ : Env} (S : SRep K τ A0 H σ ρ P) {i m : Nat} {d : D} (q : ρ[i]? = some (some (.pub m d))) : ∃ v, σ[i]? = some (some v) ∧ Rp K (hid (P ++ A0) H) v d := by
  obtain ⟨v, h1, h2, _⟩ := S.pu i m d q
  exact ⟨v, h1, h2.ext hs_less⟩
section
variable {K : PySem.W.Frag} {E : XK} {τ : Nat → Addr} {A0 P : List Addr} {H : Hp} {σ : L2.St} {ρ : Env} {Q : VK}
theorem hid_swap {A B : List Addr} (h : ∀ a, a ∈ A ↔ a ∈ B) : hid A H = hid B H := by
  funext a
  unfold hid
  by_cases e : a ∈ A
  · rw [if_pos e, if_pos ((h a).mp e)]
  · rw [if_neg e, if_neg (fun z => e ((h a).mpr z))]
theorem SRep.less {B0 : List Addr} (h : SRep K τ B0 H σ ρ P) (hs : ∀ a ∈ A0, a ∈ B0) : SRep K τ A0 H σ ρ P := by
  have e : Ext (hid (P ++ B0) H) (hid (P ++ A0) H) := hid_less fun a z => by
    rcases List.mem_append.mp z with z | z
    · exact List.mem_append_left _ z
    · exact List.mem_append_right _ (hs a z)
  refine ⟨fun i m d q => ?_, fun i t ds q => ?_, h.inj, fun a z => ?_, h.len, fun p hp z => h.dj p hp (hs p z), h.tb, h.ns⟩
  · obtain ⟨v, h1, h2, h3⟩ := h.pu i m d q
    exact ⟨v, h1, h2.ext e.hs, h3⟩
  · obtain ⟨p, xs, h1, h2, h3, h4, h5⟩ := h.own i t ds q
    exact ⟨p, xs, h1, h2, h3, h4.ext e, h5⟩
  · rcases List.mem_append.mp z with z | z
    · exact h.tr a (List.mem_append_left _ z)
    · exact h.tr a (List.mem_append_right _ (hs a z))
/-- a slot of plain data, the heap having grown -/
theorem SRep.grow {H' : Hp} (h : SRep K τ A0 H σ ρ P) (e : Gr K H H') : SRep K τ A0 H' σ ρ P := by
  have st : Stp K H P H' P := Stp.gr e
  refine ⟨fun i m d q => ?_, fun i t ds q => ?_, h.inj, fun a z n => h.tr a z (e.al a n), h.len, h.dj, e.tb h.tb, fun i g q => ⟨(h.ns i g q).1.gr rfl fun a xs _ z => e.kp a _ z (fun _ w => nomatch w), (h.ns i g q).2⟩⟩
  · obtain ⟨v, h1, h2, h3⟩ := h.pu i m d q
    exact ⟨v, h1, h2.ext st.hid.hs, h3⟩
  · obtain ⟨p, xs, h1, h2, h3, h4, h5⟩ := h.own i t ds q
    exact ⟨p, xs, h1, h2, e.kp _ _ h3 (fun _ z => nomatch z), h4.stp st, h5⟩
/-- .. one more address hidden that was new -/
theorem SRep.addHid {p : Addr} (h : SRep K τ A0 H σ ρ P) (hp : H p = none) {H' : Hp} (e : Gr K H H') (hp' : H' p ≠ none) : SRep K τ (p :: A0) H' σ ρ P := by
  have g := h.grow e
  have x : Ext (hid (P ++ A0) H) (hid (P ++ p :: A0) H') := fun a o q => by
    obtain ⟨n, q1⟩ := hid_of q
    rw [List.mem_append, not_or] at n
    refine hid_in (fun z => ?_) (e.kp a o q1 (hid_nt q)) (hid_nt q)
    rcases List.mem_append.mp z with z | z
    · exact n.1 z
    · rcases List.mem_cons.mp z with z | z
      · rw [z, hp] at q1; cases q1
      · exact n.2 z
  refine ⟨fun i m d q => ?_, fun i t ds q => ?_, h.inj, fun a z => ?_, h.len, fun q hq z => ?_, g.tb, g.ns⟩
  rotate_right
  · rcases List.mem_cons.mp z with z | z
    · exact h.tr q (List.mem_append_left _ hq) (by rw [z]; exact hp)
    · exact h.dj q hq z
  · obtain ⟨v, h1, h2, h3⟩ := h.pu i m d q
    exact ⟨v, h1, h2.ext x.hs, h3⟩
  · obtain ⟨p, xs, h1, h2, h3, h4, h5⟩ := h.own i t ds q
    exact ⟨p, xs, h1, h2, e.kp _ _ h3 (fun _ z => nomatch z), h4.ext x, h5⟩
  · rcases List.mem_append.mp z with z | z
    · exact g.tr a (List.mem_append_left _ z)
    · rcases List.mem_cons.mp z with z | z
      · rw [z]; exact hp'
      · exact g.tr a (List.mem_append_right _ z)

/-- the operand as shared data, whatever it was -/
theorem CDE.toD {o : RE} {R : VK}
    (h : match o with
      | .ok w ρ' => ∀ v H' P', Stp K H P H' P' → SRep K τ A0 H' σ ρ' P' → Rp K (hid (P' ++ A0) H') v w.d → R v H'
      | .err c d => ∀ dx v H' P', Stp K H P H' P' → (H dx = none ∧ H' dx = some (.xd [(("value" : Str), v)])) → Rp K (hid (P' ++ A0) H') v d → E (.ref c) (some dx) H'
      | .st => False) : CDE K E τ A0 H P σ o R := by
  cases o with
  | ok w ρ' =>
    cases w with
    | pu d => exact h
    | frs ds =>
      intro p xs H' P' t hn hp hA S hl hr
      have x : Ext (hid (P' ++ p :: A0) H') (hid (P' ++ A0) H') := hid_less fun a z => by
        rcases List.mem_append.mp z with z | z
        · exact List.mem_append_left _ z
        · exact List.mem_append_right _ (List.mem_cons_of_mem _ z)
      refine h (.ref p) H' P' t (S.less fun a z => List.mem_cons_of_mem _ z) (.lst (hid_in (fun z => ?_) hl) (hr.ext x))
      rcases List.mem_append.mp z with z | z
      · exact hp z
      · exact hA z
  | err c d => exact h
  | st => exact h
end
end DL
/-! D2: expressions. -/
namespace DL
open PySem L2 PyProof.Rows

def bndE (fa : Env → RE) (k : D → Env → RE) : Env → RE := fun ρ => match fa ρ with
  | .ok w ρ1 => k w.d ρ1
  | .err c d => .err c d
  | .st => .st
def resW (o : Option W) : Env → RE := fun ρ => match o with
  | some w => .ok w ρ
  | none => .st
/-- by values: what an operation gives -/
def GiveW (K : PySem.W.Frag) (A : List Addr) (H : Hp) (w : W) (Q : VK) : Prop := match w with
  | .pu d => ∀ v H', Ext H H' → Rp K (hid A H') v d → Q v H'
  | .frs ds => ∀ p xs H', Ext H H' → H p = none → H' p = some (.lst xs) → Rps K (hid (p :: A) H') xs ds → Q (.ref p) H'

section
variable {K : PySem.W.Frag} {E : XK} {τ : Nat → Addr} {A0 P : List Addr} {H : Hp} {σ : L2.St} {ρ : Env} {Q : VK}
theorem SRep.fresh (S : SRep K τ A0 H σ ρ P) {p : Addr} (h : H p = none) : p ∉ P ∧ p ∉ A0 :=
  ⟨fun z => S.tr p (List.mem_append_left _ z) h, fun z => S.tr p (List.mem_append_right _ z) h⟩
theorem giveW {w : W} (S : SRep K τ A0 H σ ρ P) (h : CDE K E τ A0 H P σ (.ok w ρ) Q) : GiveW K (P ++ A0) H w Q := by
  cases w with
  | pu d => exact fun v H' e r => h v H' P (Stp.ext e) (S.grow e.gr) r
  | frs ds =>
    intro p xs H' e hn hl hr
    obtain ⟨n1, n2⟩ := S.fresh hn
    have q : hid (P ++ p :: A0) H' = hid (p :: (P ++ A0)) H' := hid_swap fun a => by
      simp only [List.mem_append, List.mem_cons]
      constructor
      · rintro (z | z | z)
        · exact .inr (.inl z)
        · exact .inl z
        · exact .inr (.inr z)
      · rintro (z | z | z)
        · exact .inr (.inl z)
        · exact .inl z
        · exact .inr (.inr z)
    exact h p xs H' P (Stp.ext e) hn n1 n2 (S.addHid hn e.gr (by rw [hl]; exact fun z => nomatch z)) hl (by rw [q]; exact hr)
theorem CDE.stp {o : RE} {H' : Hp} {P' : List Addr} (t : Stp K H P H' P') (h : CDE K E τ A0 H P σ o Q) : CDE K E τ A0 H' P' σ o Q := by
  cases o with
  | ok w ρ' =>
    cases w with
    | pu d => exact fun v H2 P2 t2 S r => h v H2 P2 (t.trans t2) S r
    | frs ds => exact fun p xs H2 P2 t2 hn n1 n2 S hl hr => h p xs H2 P2 (t.trans t2) (t.al p hn) n1 n2 S hl hr
  | err c d => exact fun dx v H2 P2 t2 hx hr => h dx v H2 P2 (t.trans t2) ⟨t.al _ hx.1, hx.2⟩ hr
  | st => exact h
theorem CDE.bnd {fa : Env → RE} {k : D → Env → RE} (h : CDE K E τ A0 H P σ (bndE fa k ρ) Q) :
    CDE K E τ A0 H P σ (fa ρ) fun v H' => ∃ P' ρ' d, Stp K H P H' P' ∧ SRep K τ A0 H' σ ρ' P' ∧ Rp K (hid (P' ++ A0) H') v d ∧ CDE K E τ A0 H' P' σ (k d ρ') Q := by
  refine CDE.toD ?_
  unfold bndE at h
  cases q : fa ρ with
  | ok w ρ' =>
    rw [q] at h
    exact fun v H' P' t S r => ⟨P', ρ', w.d, t, S, r, CDE.stp t h⟩
  | err c d =>
    rw [q] at h
    exact h
  | st =>
    rw [q] at h
    exact h
/-- a value is had: go on -/
theorem CDE.ret {w : W} {H' : Hp} (S : SRep K τ A0 H σ ρ P) (h : CDE K E τ A0 H P σ (.ok w ρ) Q) : GiveW K (P ++ A0) H w Q := giveW S h
theorem tde_bnd {fa : Env → RE} {k : D → Env → RE} {R : VK} (h : tDE K E (bndE fa k) σ H Q)
    (hk : ∀ v H' τ A0 P' ρ' d, SRep K τ A0 H' σ ρ' P' → Rp K (hid (P' ++ A0) H') v d → CDE K E τ A0 H' P' σ (k d ρ') Q → R v H') : tDE K E fa σ H R := by
  obtain ⟨τ, A0, P, ρ, S, c⟩ := h
  refine ⟨τ, A0, P, ρ, S, ?_⟩
  have c2 := CDE.bnd c
  revert c2
  cases q : fa ρ with
  | ok w ρ' =>
    cases w with
    | pu d => exact fun c2 v H' P' t S' r => let ⟨P2, ρ2, d2, t2, S2, r2, z⟩ := c2 v H' P' t S' r; hk v H' τ A0 P2 ρ2 d2 S2 r2 z
    | frs ds => exact fun c2 p xs H' P' t hn n1 n2 S' hl hr => let ⟨P2, ρ2, d2, t2, S2, r2, z⟩ := c2 p xs H' P' t hn n1 n2 S' hl hr; hk _ H' τ A0 P2 ρ2 d2 S2 r2 z
  | err c d => exact fun c2 => c2
  | st => exact fun c2 => c2

/-! ### operations on two, one values -/
def Op2R (K : PySem.W.Frag) (r : R2) (g : D → D → Option W) : Prop := ∀ (A : List Addr) (H : Hp) (x y : V) (d1 d2 : D) (w : W) (Q : VK), (∀ a ∈ A, H a ≠ none) → Rp K (hid A H) x d1 → Rp K (hid A H) y d2 → g d1 d2 = some w → GiveW K A H w Q → r x y H Q
def Op1R (K : PySem.W.Frag) (r : V → Hp → VK → Prop) (g : D → Option W) : Prop := ∀ (A : List Addr) (H : Hp) (x : V) (d1 : D) (w : W) (Q : VK), (∀ a ∈ A, H a ≠ none) → Rp K (hid A H) x d1 → g d1 = some w → GiveW K A H w Q → r x H Q
def fOp2 (g : D → D → Option W) (fa fb : Env → RE) : Env → RE := bndE fa fun d1 => bndE fb fun d2 => resW (g d1 d2)
def fOp1 (g : D → Option W) (fa : Env → RE) : Env → RE := bndE fa fun d1 => resW (g d1)
theorem op2_of {r : R2} {g : D → D → Option W} {fa fb : Env → RE} (hr : Op2R K r g) (h : tDE K E (fOp2 g fa fb) σ H Q) : tOp r (tDE K E fa) (tDE K E fb) σ H Q := by
  refine tde_bnd h fun v1 H1 τ A0 P1 ρ1 d1 S1 r1 c1 => ⟨τ, A0, P1, ρ1, S1, ?_⟩
  have c2 := CDE.bnd c1
  revert c2
  have fin : ∀ {v2 H2 P2 ρ2 d2}, Stp K H1 P1 H2 P2 → SRep K τ A0 H2 σ ρ2 P2 → Rp K (hid (P2 ++ A0) H2) v2 d2 → CDE K E τ A0 H2 P2 σ (resW (g d1 d2) ρ2) Q → r v1 v2 H2 Q := fun {v2 H2 P2 ρ2 d2} t S2 r2 z => by
    unfold resW at z
    cases q : g d1 d2 with
    | some w =>
      rw [q] at z
      exact hr (P2 ++ A0) H2 v1 v2 d1 d2 w Q S2.tr (r1.stp t) r2 q (giveW S2 z)
    | none =>
      rw [q] at z
      exact z.elim
  cases q : fb ρ1 with
  | ok w ρ' =>
    cases w with
    | pu d => exact fun c2 v H' P' t S' r => let ⟨P2, ρ2, d2, t2, S2, r2, z⟩ := c2 v H' P' t S' r; fin t2 S2 r2 z
    | frs ds => exact fun c2 p xs H' P' t hn n1 n2 S' hl hr => let ⟨P2, ρ2, d2, t2, S2, r2, z⟩ := c2 p xs H' P' t hn n1 n2 S' hl hr; fin t2 S2 r2 z
  | err c d => exact fun c2 => c2
  | st => exact fun c2 => c2
theorem op1_of {r : V → Hp → VK → Prop} {g : D → Option W} {fa : Env → RE} (hr : Op1R K r g) (h : tDE K E (fOp1 g fa) σ H Q) : tUn r (tDE K E fa) σ H Q := by
  refine tde_bnd h fun v1 H1 τ A0 P1 ρ1 d1 S1 r1 z => ?_
  unfold resW at z
  cases q : g d1 with
  | some w =>
    rw [q] at z
    exact hr (P1 ++ A0) H1 v1 d1 w Q S1.tr r1 q (giveW S1 z)
  | none =>
    rw [q] at z
    exact z.elim
end
theorem PE.weak {X : Cx} {e : Expr} {t u : TE} (h : PE X e t) (k : ∀ σ H Q, u σ H Q → t σ H Q) : PE X e u := ⟨fun pins s σ H Q I q => h.run pins s σ H Q I (k σ H Q q)⟩
theorem PT.weak {X : Cx} {e : Expr} {t u : TT} (h : PT X e t) (k : ∀ σ H Q, u σ H Q → t σ H Q) : PT X e u := ⟨fun pins s σ H Q I q => h.run pins s σ H Q I (k σ H Q q)⟩
theorem PA.weak {X : Cx} {e : List Expr} {t u : TA} (h : PA X e t) (k : ∀ σ H Q, u σ H Q → t σ H Q) : PA X e u := ⟨fun pos pins s σ H Q I q => h.run pos pins s σ H Q I (k σ H Q q)⟩
theorem PS.weak {X : Cx} {e : Stmt} {t u : TS} (h : PS X e t) (k : ∀ D σ H, u D σ H → t D σ H) : PS X e u := ⟨fun pins s σ H D I q => h.run pins s σ H D I (k D σ H q)⟩
theorem PSs.weak {X : Cx} {e : List Stmt} {t u : TS} (h : PSs X e t) (k : ∀ D σ H, u D σ H → t D σ H) : PSs X e u := ⟨fun pins s σ H D I q => h.run pins s σ H D I (k D σ H q)⟩

section
variable {X : Cx} {E : XK} {a b : Expr} {fa fb : Env → RE} {pos : Pos}
theorem de_bin {op : Operator} {r : R2} {g : D → D → Option W} (ho : OpR X (binaryOp op) r) (hr : Op2R X.K r g) (ha : DE X E a fa) (hb : DE X E b fb) : DE X E (.BinOp a op b pos) (fOp2 g fa fb) :=
  ⟨PE.weak (pe_op ho ha.pe hb.pe) fun _ _ _ h => op2_of hr h⟩
theorem de_cmp {op : CmpOp} {r : R2} {g : D → D → Option W} (ho : OpR X (compareOp op) r) (hr : Op2R X.K r g) (ha : DE X E a fa) (hb : DE X E b fb) (hm : behindInMarks op b = false) : DE X E (.Compare a [op] [b] pos) (fOp2 g fa fb) :=
  ⟨PE.weak (pe_cmpR ho ha.pe hb.pe hm) fun _ _ _ h => op2_of hr h⟩
theorem de_un {op : UnaryOp} {r : V → Hp → VK → Prop} {g : D → Option W} (ho : UnR X (unaryOp op) r) (hr : Op1R X.K r g) (ha : DE X E a fa) : DE X E (.UnaryOp op a pos) (fOp1 g fa) :=
  ⟨PE.weak (pe_un ho ha.pe) fun _ _ _ h => op1_of hr h⟩
theorem de_ix {r : R2} {g : D → D → Option W} (ho : IxR X r) (hr : Op2R X.K r g) (ha : DE X E a fa) (hb : DE X E b fb) (hs : PlainIx b) : DE X E (.Subscript a b pos) (fOp2 g fa fb) :=
  ⟨PE.weak (pe_ix ho ha.pe hb.pe hs) fun _ _ _ h => op2_of hr h⟩
end

/-! ### constants, names -/
def fC (d : D) : Env → RE := fun ρ => .ok (.pu d) ρ
section
variable {X : Cx} {E : XK} {pos : Pos}
theorem de_const {e : Expr} {v : V} {d : D} (h : PE X e (tC v)) (r : ∀ H, Rp X.K H v d) : DE X E e (fC d) :=
  ⟨PE.weak h fun σ H Q ⟨τ, A0, P, ρ, S, c⟩ => c v H P (Stp.rfl H P) S (r _)⟩
theorem de_int {i j} : DE X E (.Constant (.int i) j pos) (fC (.int i)) := de_const pe_int fun _ => .int i
theorem de_bl {b j} : DE X E (.Constant (.bool b) j pos) (fC (.bool b)) := de_const pe_bl fun _ => .bl b
theorem de_non {j} : DE X E (.Constant .none j pos) (fC .none) := de_const pe_non fun _ => .non
theorem de_str {x j} : DE X E (.Constant (.str x) j pos) (fC (.str x)) := de_const pe_str fun _ => .str x
/-- a name: an own list is given away -/
def fVar (i : Nat) : Env → RE := fun ρ => match ρ[i]? with
  | some (some (.pub _ d)) => .ok (.pu d) ρ
  | some (some (.own t ds)) => .ok (.pu (.list ds)) (ρ.set i (some (.pu (.list ds))))
  | _ => .st
end
section
variable {K : PySem.W.Frag} {τ : Nat → Addr} {A0 P : List Addr} {H : Hp} {σ : L2.St} {ρ : Env}
/-- an own list is shared from now on -/
theorem SRep.share (S : SRep K τ A0 H σ ρ P) {i t : Nat} {ds : List D} (h : ρ[i]? = some (some (.own t ds))) :
    ∃ p P', σ[i]? = some (some (.ref p)) ∧ (∀ a ∈ P', a ∈ P) ∧ SRep K τ A0 H σ (ρ.set i (some (.pu (.list ds)))) P' ∧ Rp K (hid (P' ++ A0) H) (.ref p) (.list ds) := by
  obtain ⟨p, xs, h1, h2, h3, h4, h5⟩ := S.own i t ds h
  have hA : p ∉ A0 := S.dj p h2
  have hi : i < ρ.length := (List.getElem?_eq_some_iff.mp h).1
  have e : Ext (hid (P ++ A0) H) (hid (P.filter (fun a => decide (a ≠ p)) ++ A0) H) := hid_less fun a z => by
    rcases List.mem_append.mp z with z | z
    · exact List.mem_append_left _ (List.mem_filter.mp z).1
    · exact List.mem_append_right _ z
  have np : p ∉ P.filter (fun a => decide (a ≠ p)) ++ A0 := fun z => by
    rcases List.mem_append.mp z with z | z
    · exact (of_decide_eq_true (List.mem_filter.mp z).2) rfl
    · exact hA z
  have rp : Rp K (hid (P.filter (fun a => decide (a ≠ p)) ++ A0) H) (.ref p) (.list ds) := .lst (hid_in np h3) (h4.ext e)
  refine ⟨p, P.filter (fun a => decide (a ≠ p)), h1, fun a z => (List.mem_filter.mp z).1, ⟨fun j m d q => ?_, fun j u es q => ?_, fun j k u u2 es fs q hjk e1 e2 e3 => ?_, fun a z => ?_, by simpa using S.len, fun q z => S.dj q (List.mem_filter.mp z).1, S.tb, fun j g q => ?_⟩, rp⟩
  rotate_right
  · by_cases hj : i = j
    · subst hj
      rw [List.getElem?_set_self hi] at q
      cases q
    · rw [List.getElem?_set_ne hj] at q
      exact absurd h ((S.ns j g q).2.2 i t ds)
  · by_cases hj : i = j
    · subst hj
      rw [List.getElem?_set_self hi] at q
      cases q
      exact ⟨_, h1, rp, fun z => nomatch z⟩
    · rw [List.getElem?_set_ne hj] at q
      obtain ⟨v, q1, q2, q3⟩ := S.pu j m d q
      exact ⟨v, q1, q2.ext e.hs, q3⟩
  · by_cases hj : i = j
    · subst hj
      rw [List.getElem?_set_self hi] at q
      cases q
    · rw [List.getElem?_set_ne hj] at q
      obtain ⟨p2, ys, q1, q2, q3, q4, q5⟩ := S.own j u es q
      refine ⟨p2, ys, q1, List.mem_filter.mpr ⟨q2, decide_eq_true fun z => ?_⟩, q3, q4.ext e, q5⟩
      subst z
      exact S.inj i j t u ds es p2 hj h q h1 q1
  · have g : ∀ {m u : Nat} {gs : List D}, (ρ.set i (some (.pu (.list ds))))[m]? = some (some (.own u gs)) → ρ[m]? = some (some (.own u gs)) := fun {m u gs} z => by
      by_cases hm : i = m
      · subst hm
        rw [List.getElem?_set_self hi] at z
        cases z
      · rw [List.getElem?_set_ne hm] at z
        exact z
    exact S.inj j k u u2 es fs q hjk (g e1) (g e2) e3
  · rcases List.mem_append.mp z with z | z
    · exact S.tr a (List.mem_append_left _ (List.mem_filter.mp z).1)
    · exact S.tr a (List.mem_append_right _ z)
end
section
variable {X : Cx} {E : XK} {pos : Pos}
theorem de_var {i : Nat} {e : Expr} (h : PE X e (tVar i)) : DE X E e (fVar i) := by
  refine ⟨PE.weak h fun σ H Q ⟨τ, A0, P, ρ, S, c⟩ => ?_⟩
  unfold fVar at c
  split at c
  · rename_i m d q
    obtain ⟨v, h1, h2⟩ := S.puD q
    exact ⟨v, h1, c v H P (Stp.rfl H P) S h2⟩
  · rename_i ds q
    obtain ⟨p, P', h1, h2, h3, h4⟩ := S.share q
    exact ⟨_, h1, c _ H P' ⟨fun _ _ _ z _ => z, fun a z => .inl (h2 a z), fun _ z => z, fun z => z⟩ h3 h4⟩
  · exact c.elim
end

/-! ### tests: and, or, not -/
/-- a test by its value -/
structure DT (X : Cx) (E : XK) (e : Expr) (f : Env → RE) : Prop where
  pt : PT X e (tTest (tDE X.K E f))
def fBoth (fa : Env → RE) (ft ff : Env → RE) : Env → RE := bndE fa fun d => match d with
  | .bool true => ft
  | .bool false => ff
  | _ => fun _ => .st
def fAnd (fa fb : Env → RE) : Env → RE := fBoth fa fb (fC (.bool false))
def fOr (fa fb : Env → RE) : Env → RE := fBoth fa (fC (.bool true)) fb
def fNot (fa : Env → RE) : Env → RE := fBoth fa (fC (.bool false)) (fC (.bool true))
section
variable {K : PySem.W.Frag} {E : XK} {σ : L2.St} {H : Hp} {Q : VK}
theorem rp_bool {v : V} {b : Bool} (h : Rp K H v (.bool b)) : v = .bl b := by cases h; rfl
/-- by the first one's truth -/
theorem both_of {fa ft ff : Env → RE} {Rt Rf : Hp → Prop} (h : tDE K E (fBoth fa ft ff) σ H Q) (ht : ∀ H', tDE K E ft σ H' Q → Rt H') (hf : ∀ H', tDE K E ff σ H' Q → Rf H') :
    tDE K E fa σ H fun v H' => ∃ c, v = .bl c ∧ if c = true then Rt H' else Rf H' := by
  refine tde_bnd h fun v H' τ A0 P' ρ' d S r c => ?_
  cases d with
  | bool b =>
    refine ⟨b, rp_bool r, ?_⟩
    cases b with
    | true => exact ht H' ⟨τ, A0, P', ρ', S, c⟩
    | false => exact hf H' ⟨τ, A0, P', ρ', S, c⟩
  | _ => exact c.elim
theorem tde_c {v : V} {d : D} (r : ∀ H, Rp K H v d) (h : tDE K E (fC d) σ H Q) : Q v H := by
  obtain ⟨τ, A0, P, ρ, S, c⟩ := h
  exact c v H P (Stp.rfl H P) S (r _)
theorem tde_mono {f : Env → RE} {Q R : VK} (h : tDE K E f σ H Q) (k : ∀ v H', Q v H' → R v H') : tDE K E f σ H R := by
  obtain ⟨τ, A0, P, ρ, S, c⟩ := h
  refine ⟨τ, A0, P, ρ, S, ?_⟩
  revert c
  cases f ρ with
  | ok w ρ' =>
    cases w with
    | pu d => exact fun c v H' P' t S r => k _ _ (c v H' P' t S r)
    | frs ds => exact fun c p xs H' P' t hn n1 n2 S hl hr => k _ _ (c p xs H' P' t hn n1 n2 S hl hr)
  | err c d => exact fun c => c
  | st => exact fun c => c
end
section
variable {X : Cx} {E : XK} {a b : Expr} {rest : List Expr} {fa fb : Env → RE} {pos : Pos}
/-- .. as values -/
theorem de_one {op} (h : DE X E a fa) : DE X E (.BoolOp op [a] pos) fa := ⟨pe_one h.pe⟩
theorem de_and (ha : DE X E a fa) (hb : DE X E (.BoolOp .And (b :: rest) pos) fb) : DE X E (.BoolOp .And (a :: b :: rest) pos) (fAnd fa fb) :=
  ⟨PE.weak (pe_and ha.pe hb.pe) fun σ H Q h => both_of h (fun _ z => z) fun _ z => tde_c (fun _ => .bl false) z⟩
theorem de_or (ha : DE X E a fa) (hb : DE X E (.BoolOp .Or (b :: rest) pos) fb) : DE X E (.BoolOp .Or (a :: b :: rest) pos) (fOr fa fb) :=
  ⟨PE.weak (pe_or ha.pe hb.pe) fun σ H Q h => both_of h (fun _ z => tde_c (fun _ => .bl true) z) fun _ z => z⟩
theorem de_not (ha : DE X E a fa) : DE X E (.UnaryOp .Not a pos) (fNot fa) :=
  ⟨PE.weak (pe_not ha.pe) fun σ H Q h => tde_mono (both_of (Rt := fun H' => Q (.bl false) H') (Rf := fun H' => Q (.bl true) H') h (fun _ z => tde_c (fun _ => .bl false) z) fun _ z => tde_c (fun _ => .bl true) z) fun v H' ⟨c, e, z⟩ => ⟨c, e, by cases c <;> exact z⟩⟩
/-- .. as tests -/
theorem dt_val {e : Expr} {f : Env → RE} (h : DE X E e f) (he : ∀ whole, isTrue e X.env whole = (do let v ← whole; standAt e.pos; holding [v] (truthy v)) := by intro _; rfl) : DT X E e f := ⟨pt_val h.pe he⟩
theorem dt_cmp {op : CmpOp} {r : R2} {g : D → D → Option W} (ho : OpR X (compareOp op) r) (hr : Op2R X.K r g) (ha : DE X E a fa) (hb : DE X E b fb) (hm : behindInMarks op b = false) : DT X E (.Compare a [op] [b] pos) (fOp2 g fa fb) :=
  ⟨PT.weak (pt_cmpR ho ha.pe hb.pe hm) fun _ _ _ h => op2_of hr h⟩
structure DW (X : Cx) (E : XK) (e : Expr) (f : Env → RE) : Prop where
  pw : PW X e (tTest (tDE X.K E f))
theorem PW.weak {e : Expr} {t u : TT} (h : PW X e t) (k : ∀ σ H Q, u σ H Q → t σ H Q) : PW X e u := ⟨fun wh pins s σ H Q I q => h.run wh pins s σ H Q I (k σ H Q q)⟩
theorem dw_one {op : Bool} (h : DT X E a fa) : DW X E (.BoolOp (if op then .And else .Or) [a] pos) fa := by
  cases op with
  | true => exact ⟨pw_and1 h.pt⟩
  | false => exact ⟨pw_or1 h.pt⟩
theorem dw_and1 (h : DT X E a fa) : DW X E (.BoolOp .And [a] pos) fa := ⟨pw_and1 h.pt⟩
theorem dw_or1 (h : DT X E a fa) : DW X E (.BoolOp .Or [a] pos) fa := ⟨pw_or1 h.pt⟩
theorem dw_and (ha : DT X E a fa) (hb : DW X E (.BoolOp .And (b :: rest) pos) fb) : DW X E (.BoolOp .And (a :: b :: rest) pos) (fAnd fa fb) :=
  ⟨PW.weak (pw_and ha.pt hb.pw) fun σ H Q h => both_of h (fun _ z => z) fun _ z => by
    obtain ⟨k, e, q⟩ := tde_c (K := X.K) (E := E) (fun _ => .bl false) z
    cases e
    exact q⟩
theorem dw_or (ha : DT X E a fa) (hb : DW X E (.BoolOp .Or (b :: rest) pos) fb) : DW X E (.BoolOp .Or (a :: b :: rest) pos) (fOr fa fb) :=
  ⟨PW.weak (pw_or ha.pt hb.pw) fun σ H Q h => both_of h (fun _ z => by
    obtain ⟨k, e, q⟩ := tde_c (K := X.K) (E := E) (fun _ => .bl true) z
    cases e
    exact q) fun _ z => z⟩
theorem dt_w {e : Expr} {f : Env → RE} (h : DW X E e f) : DT X E e f := ⟨h.pw.pt⟩
theorem dt_not (ha : DT X E a fa) : DT X E (.UnaryOp .Not a pos) (fNot fa) :=
  ⟨PT.weak (pt_not ha.pt) fun σ H Q h => tde_mono (both_of (Rt := fun H' => Q false H') (Rf := fun H' => Q true H') h
    (fun _ z => by
      obtain ⟨k, e, q⟩ := tde_c (K := X.K) (E := E) (fun _ => .bl false) z
      cases e
      exact q)
    fun _ z => by
      obtain ⟨k, e, q⟩ := tde_c (K := X.K) (E := E) (fun _ => .bl true) z
      cases e
      exact q) fun v H' ⟨c, e, z⟩ => ⟨c, e, by cases c <;> exact z⟩⟩
def fIf (fc fa fb : Env → RE) : Env → RE := fBoth fc fa fb
theorem de_if {c : Expr} {fc : Env → RE} (hc : DT X E c fc) (ha : DE X E a fa) (hb : DE X E b fb) : DE X E (.IfExp c a b pos) (fIf fc fa fb) :=
  ⟨PE.weak (pe_ifExp hc.pt ha.pe hb.pe) fun σ H Q h => both_of h (fun _ z => z) fun _ z => z⟩
end

/-! ### arguments, displays -/
inductive RL where
  | ok (ds : List D) (ρ : Env)
  | err (c : Addr) (d : D)
  | st
def CDA (K : PySem.W.Frag) (E : XK) (τ : Nat → Addr) (A0 : List Addr) (H : Hp) (P : List Addr) (σ : L2.St) (o : RL) (Q : List V → Hp → Prop) : Prop :=
  match o with
  | .ok ds ρ' => ∀ vs H' P', Stp K H P H' P' → SRep K τ A0 H' σ ρ' P' → Rps K (hid (P' ++ A0) H') vs ds → Q vs H'
  | .err c d => ∀ dx v H' P', Stp K H P H' P' → (H dx = none ∧ H' dx = some (.xd [(("value" : Str), v)])) → Rp K (hid (P' ++ A0) H') v d → E (.ref c) (some dx) H'
  | .st => False
def tDA (K : PySem.W.Frag) (E : XK) (f : Env → RL) : TA := fun σ H Q => ∃ τ A0 P ρ, SRep K τ A0 H σ ρ P ∧ CDA K E τ A0 H P σ (f ρ) Q
structure DA (X : Cx) (E : XK) (es : List Expr) (f : Env → RL) : Prop where
  pa : PA X es (tDA X.K E f)
def fNil : Env → RL := fun ρ => .ok [] ρ
def fCons (fa : Env → RE) (fr : Env → RL) : Env → RL := fun ρ => match fa ρ with
  | .ok w ρ1 => (match fr ρ1 with
    | .ok ds ρ2 => .ok (w.d :: ds) ρ2
    | .err c d => .err c d
    | .st => .st)
  | .err c d => .err c d
  | .st => .st
section
variable {X : Cx} {E : XK} {e : Expr} {es : List Expr} {fa : Env → RE} {fr : Env → RL}
theorem da_nil : DA X E [] fNil := ⟨PA.weak pa_nil fun σ H Q ⟨τ, A0, P, ρ, S, c⟩ => c [] H P (Stp.rfl H P) S .nil⟩
theorem da_cons (ha : DE X E e fa) (hr : DA X E es fr) (hs : starEach (e :: es) X.env = (false, eval e X.env) :: starEach es X.env := by rfl) : DA X E (e :: es) (fCons fa fr) := by
  refine ⟨PA.weak (pa_cons ha.pe hr.pa hs) fun σ H Q ⟨τ, A0, P, ρ, S, c⟩ => ⟨τ, A0, P, ρ, S, CDE.toD ?_⟩⟩
  unfold fCons at c
  cases q : fa ρ with
  | ok w ρ1 =>
    rw [q] at c
    intro v H1 P1 t1 S1 r1
    refine ⟨τ, A0, P1, ρ1, S1, ?_⟩
    dsimp only at c
    cases q2 : fr ρ1 with
    | ok ds ρ2 =>
      rw [q2] at c
      exact fun vs H2 P2 t2 S2 r2 => c (v :: vs) H2 P2 (t1.trans t2) S2 (.cons (r1.stp t2) r2)
    | err cc d =>
      rw [q2] at c
      exact fun dx v H2 P2 t2 hx hr => c dx v H2 P2 (t1.trans t2) ⟨t1.al _ hx.1, hx.2⟩ hr
    | st =>
      rw [q2] at c
      exact c
  | err cc d =>
    rw [q] at c
    exact c
  | st =>
    rw [q] at c
    exact c
def bndA (fs : Env → RL) (k : List D → Option W) : Env → RE := fun ρ => match fs ρ with
  | .ok ds ρ1 => resW (k ds) ρ1
  | .err c d => .err c d
  | .st => .st
/-- a call of a built-in, by values -/
def CalR (K : PySem.W.Frag) (r : List V → Hp → VK → Prop) (g : List D → Option W) : Prop := ∀ (A : List Addr) (H : Hp) (xs : List V) (ds : List D) (w : W) (Q : VK), (∀ a ∈ A, H a ≠ none) → Rps K (hid A H) xs ds → g ds = some w → GiveW K A H w Q → r xs H Q
theorem tda_bnd {K : PySem.W.Frag} {σ : L2.St} {H : Hp} {Q : VK} {fs : Env → RL} {k : List D → Option W} {R : List V → Hp → Prop} (h : tDE K E (bndA fs k) σ H Q)
    (hk : ∀ vs H' A ds w, (∀ a ∈ A, H' a ≠ none) → Rps K (hid A H') vs ds → k ds = some w → GiveW K A H' w Q → R vs H') : tDA K E fs σ H R := by
  obtain ⟨τ, A0, P, ρ, S, c⟩ := h
  refine ⟨τ, A0, P, ρ, S, ?_⟩
  unfold bndA at c
  cases q : fs ρ with
  | ok ds ρ1 =>
    rw [q] at c
    intro vs H1 P1 t1 S1 r1
    dsimp only [resW] at c
    cases q2 : k ds with
    | some w =>
      rw [q2] at c
      exact hk vs H1 (P1 ++ A0) ds w S1.tr r1 q2 (giveW S1 (CDE.stp t1 c))
    | none =>
      rw [q2] at c
      exact c.elim
  | err cc d =>
    rw [q] at c
    exact c
  | st =>
    rw [q] at c
    exact c
variable {pos p : Pos}
theorem de_callB {x : Str} {id : String} {r : List V → Hp → VK → Prop} {g : List D → Option W} (hc : CallR X (.builtin id) r) (hr : CalR X.K r g) (hg : Gl X x) (hm : X.mg x = none) (hv : bootBuiltins x = some (.builtin id)) (ha : DA X E (e :: es) fr)
    (hn : x ≠ "__name__" := by decide) (hdb : (x == ("__debug__" : Str)) = false := by decide) (he : starEach (e :: es) X.env = (false, eval e X.env) :: starEach es X.env := by rfl) (hpl : (backTo pos (starEach es X.env)).any (·.1) = false := by rfl) :
    DE X E (.Call (.Name x p) (e :: es) [] pos) (bndA fr g) :=
  ⟨PE.weak (pe_callB hc hg hm hv ha.pa hn hdb he hpl) fun σ H Q h => tda_bnd h fun vs H' A ds w tr r q gw => hr A H' vs ds w Q tr r q gw⟩
theorem de_callTy {x : Str} {T : String} {r : List V → Hp → VK → Prop} {g : List D → Option W} (hc : CallR X (.type T) r) (hr : CalR X.K r g) (hg : Gl X x) (hm : X.mg x = none) (hv : bootBuiltins x = some (.type T)) (ha : DA X E (e :: es) fr)
    (hn : x ≠ "__name__" := by decide) (hdb : (x == ("__debug__" : Str)) = false := by decide) (he : starEach (e :: es) X.env = (false, eval e X.env) :: starEach es X.env := by rfl) (hpl : (backTo pos (starEach es X.env)).any (·.1) = false := by rfl) :
    DE X E (.Call (.Name x p) (e :: es) [] pos) (bndA fr g) :=
  ⟨PE.weak (pe_callTy hc hg hm hv ha.pa hn hdb he hpl) fun σ H Q h => tda_bnd h fun vs H' A ds w tr r q gw => hr A H' vs ds w Q tr r q gw⟩
/-- a new list, a new tuple at p -/
theorem give_lst {K : PySem.W.Frag} {A : List Addr} {H : Hp} {ds : List D} {xs : List V} {Q : VK} (r : Rps K (hid A H) xs ds) (h : GiveW K A H (.frs ds) Q) : ∀ p, H p = none → Q (.ref p) (upd H p (.lst xs)) := fun p hp =>
  h p xs (upd H p (.lst xs)) (Evl.Ex.new hp) hp upd_same (r.ext ((hid_add hp).trans fun a o q => by
    obtain ⟨n, e⟩ := hid_of q
    exact hid_in n (by rw [upd_ne (ne_of_none e hp)]; exact e) (hid_nt q)))
theorem hid_upd {A : List Addr} {H : Hp} {p : Addr} {o : HO} (hp : H p = none) : Ext (hid A H) (hid A (upd H p o)) := fun a u q => by
  obtain ⟨n, e⟩ := hid_of q
  exact hid_in n (by rw [upd_ne (ne_of_none e hp)]; exact e) (hid_nt q)
theorem give_tup {K : PySem.W.Frag} {A : List Addr} {H : Hp} {ds : List D} {xs : List V} {Q : VK} (tr : ∀ a ∈ A, H a ≠ none) (r : Rps K (hid A H) xs ds) (h : GiveW K A H (.pu (.tuple ds)) Q) : ∀ p, H p = none → Q (.ref p) (upd H p (.tup xs)) := fun p hp =>
  h (.ref p) (upd H p (.tup xs)) (Evl.Ex.new hp) (.tup (hid_in (fun z => tr p z hp) upd_same) (r.ext (hid_upd hp)))
theorem give_pu {K : PySem.W.Frag} {A : List Addr} {H : Hp} {d : D} {v : V} {Q : VK} (r : Rp K (hid A H) v d) (h : GiveW K A H (.pu d) Q) : Q v H := h v H (Ext.rfl H) r
theorem de_lst (ha : DA X E es fr) (hz : es.length ≤ 10000 := by decide) : DE X E (.List es pos) (bndA fr fun ds => if ds.length ≤ sizeLine then some (.frs ds) else none) := by
  refine ⟨PE.weak (pe_lst ha.pa) fun σ H Q h => tda_bnd h fun vs H' A ds w tr r q gw => ?_⟩
  by_cases hl : ds.length ≤ sizeLine
  · rw [if_pos hl] at q
    cases q
    exact ⟨by rw [r.length]; exact hl, give_lst r gw⟩
  · rw [if_neg hl] at q
    cases q
theorem de_tup {x1} (ha : DA X E es fr) : DE X E (.Tuple es x1 pos) (bndA fr fun ds => if ds.length ≤ sizeLine then some (.pu (.tuple ds)) else none) := by
  refine ⟨PE.weak (pe_tup ha.pa) fun σ H Q h => tda_bnd h fun vs H' A ds w tr r q gw => ?_⟩
  by_cases hl : ds.length ≤ sizeLine
  · rw [if_pos hl] at q
    cases q
    exact ⟨by rw [r.length]; exact hl, give_tup tr r gw⟩
  · rw [if_neg hl] at q
    cases q
end
end DL
/-! D3: operations by values. -/
namespace DL
open PySem L2 PyProof.Rows

section
variable {K : PySem.W.Frag} {A : List Addr} {H : Hp} {Q : VK}
theorem rp_int {v : V} {i : Int} (h : Rp K H v (.int i)) : v = .int i := by cases h; rfl
theorem rp_str {v : V} {x : Str} (h : Rp K H v (.str x)) : v = .str x := by cases h; rfl
theorem rp_non {v : V} (h : Rp K H v .none) : v = .non := by cases h; rfl
theorem rp_lst {v : V} {ds : List D} (h : Rp K (hid A H) v (.list ds)) : ∃ p xs, v = .ref p ∧ H p = some (.lst xs) ∧ Rps K (hid A H) xs ds := by
  cases h with
  | lst h r => exact ⟨_, _, rfl, (hid_of h).2, r⟩
theorem rp_tup {v : V} {ds : List D} (h : Rp K (hid A H) v (.tuple ds)) : ∃ p xs, v = .ref p ∧ H p = some (.tup xs) ∧ Rps K (hid A H) xs ds := by
  cases h with
  | tup h r => exact ⟨_, _, rfl, (hid_of h).2, r⟩
theorem Op2R.or {r r' : R2} {g g' : D → D → Option W} {g2 : D → D → Option W} (h : Op2R K r g) (h' : Op2R K r' g') (e : ∀ a b w, g2 a b = some w → g a b = some w ∨ g' a b = some w) : Op2R K (fun x y H Q => r x y H Q ∨ r' x y H Q) g2 :=
  fun A H x y d1 d2 w Q tr r1 r2 q gw => (e d1 d2 w q).imp (fun z => h A H x y d1 d2 w Q tr r1 r2 z gw) fun z => h' A H x y d1 d2 w Q tr r1 r2 z gw

/-! ### numbers -/
def g2I (C : Int → Int → Bool) (f : Int → Int → D) : D → D → Option W
  | .int i, .int j => if C i j then some (.pu (f i j)) else none
  | _, _ => none
theorem g2I_eq {C : Int → Int → Bool} {f : Int → Int → D} {a b : D} {w : W} (h : g2I C f a b = some w) : ∃ i j, a = .int i ∧ b = .int j ∧ C i j = true ∧ w = .pu (f i j) := by
  unfold g2I at h
  split at h
  · rename_i i j
    by_cases c : C i j = true
    · rw [if_pos c] at h
      exact ⟨i, j, rfl, rfl, c, (Option.some.inj h).symm⟩
    · rw [if_neg c] at h
      cases h
  · cases h
theorem op2_I {C : Int → Int → Prop} {Cb : Int → Int → Bool} {g : Int → Int → V} {f : Int → Int → D} (hC : ∀ i j, Cb i j = true → C i j) (hf : ∀ i j H, Rp K H (g i j) (f i j)) : Op2R K (rI C g) (g2I Cb f) := fun A H x y d1 d2 w Q tr r1 r2 q gw => by
  obtain ⟨i, j, rfl, rfl, c, rfl⟩ := g2I_eq q
  exact ⟨i, j, rp_int r1, rp_int r2, hC i j c, give_pu (hf i j _) gw⟩
theorem op2_I0 {g : Int → Int → V} {f : Int → Int → D} (hf : ∀ i j H, Rp K H (g i j) (f i j)) : Op2R K (rI0 g) (g2I (fun _ _ => true) f) := fun A H x y d1 d2 w Q tr r1 r2 q gw => by
  obtain ⟨i, j, rfl, rfl, c, rfl⟩ := g2I_eq q
  exact ⟨i, j, rp_int r1, rp_int r2, give_pu (hf i j _) gw⟩
def gCat : D → D → Option W
  | .list a, .list b => if a.length + b.length ≤ sizeLine then some (.frs (a ++ b)) else none
  | _, _ => none
theorem op2_cat : Op2R K rCat gCat := fun A H x y d1 d2 w Q tr r1 r2 q gw => by
  unfold gCat at q
  split at q
  · rename_i a b
    obtain ⟨p, xs, rfl, h1, s1⟩ := rp_lst r1
    obtain ⟨p2, ys, rfl, h2, s2⟩ := rp_lst r2
    by_cases c : a.length + b.length ≤ sizeLine
    · rw [if_pos c] at q
      cases q
      exact ⟨p, p2, xs, ys, rfl, rfl, h1, h2, by rw [s1.length, s2.length]; exact c, give_lst (s1.app s2) gw⟩
    · rw [if_neg c] at q
      cases q
  · cases q
def gCatS : D → D → Option W
  | .str a, .str b => if a.length + b.length ≤ sizeLine then some (.pu (.str (a ++ b))) else none
  | _, _ => none
theorem op2_catS : Op2R K (fun x y H Q => ∃ i j, x = .str i ∧ y = .str j ∧ i.length + j.length ≤ sizeLine ∧ Q (.str (i ++ j)) H) gCatS := fun A H x y d1 d2 w Q tr r1 r2 q gw => by
  unfold gCatS at q
  split at q
  · rename_i a b
    by_cases c : a.length + b.length ≤ sizeLine
    · rw [if_pos c] at q
      cases q
      exact ⟨a, b, rp_str r1, rp_str r2, c, give_pu (.str _) gw⟩
    · rw [if_neg c] at q
      cases q
  · cases q
/-- + -/
def gAdd : D → D → Option W
  | .int i, .int j => some (.pu (.int (i + j)))
  | .list a, .list b => if a.length + b.length ≤ sizeLine then some (.frs (a ++ b)) else none
  | .str a, .str b => if a.length + b.length ≤ sizeLine then some (.pu (.str (a ++ b))) else none
  | _, _ => none
def rAddAll : R2 := fun x y H Q => rI0 (fun i j => .int (i + j)) x y H Q ∨ (rCat x y H Q ∨ (fun x y H Q => ∃ i j, x = V.str i ∧ y = V.str j ∧ i.length + j.length ≤ sizeLine ∧ Q (.str (i ++ j)) H) x y H Q)
theorem op2_add : Op2R K rAddAll gAdd := Op2R.or (op2_I0 (f := fun i j => .int (i + j)) fun i j H => .int _) (Op2R.or (g2 := fun a b => (gCat a b).or (gCatS a b)) op2_cat op2_catS fun a b w h => by
  cases q : gCat a b with
  | some u => rw [q] at h; exact .inl h
  | none => rw [q] at h; exact .inr h) fun a b w h => by
  unfold gAdd at h
  split at h
  · exact .inl h
  · rename_i a b
    refine .inr ?_
    show (gCat (.list a) (.list b)).or (gCatS (.list a) (.list b)) = some w
    unfold gCat
    dsimp only
    rw [h]
    rfl
  · refine .inr ?_
    show (none : Option W).or _ = some w
    exact h
  · cases h
/-- * -/
def cMul (i j : Int) : Bool := decide (i.natAbs < 2 ^ 64) || decide (j.natAbs < 2 ^ 64) || decide (i.natAbs.log2 + j.natAbs.log2 < 1000000)
theorem cMul_ok {i j : Int} (h : cMul i j = true) : IntMulOk i j := by
  unfold cMul at h
  simp only [Bool.or_eq_true, decide_eq_true_eq] at h
  rcases h with (h | h) | h
  · exact CMul.ok (.inl ⟨by omega, by omega⟩)
  · exact CMul.ok (.inr ⟨by omega, by omega⟩)
  · exact CMulW.ok h
def gMul : D → D → Option W
  | .int i, .int j => if cMul i j then some (.pu (.int (i * j))) else none
  | .list a, .int k => if k < 2 ^ 63 ∧ -(2 ^ 63) ≤ k ∧ a.length * k.toNat ≤ sizeLine then some (.frs (List.replicate k.toNat a).flatten) else none
  | _, _ => none
theorem Rps.flat {xs : List V} {ds : List D} (h : Rps K H xs ds) : ∀ n : Nat, Rps K H (List.replicate n xs).flatten (List.replicate n ds).flatten
  | 0 => .nil
  | n + 1 => by
    rw [List.replicate_succ, List.replicate_succ, List.flatten_cons, List.flatten_cons]
    exact h.app (Rps.flat h n)
theorem op2_mulI : Op2R K (rI IntMulOk fun i j => .int (i * j)) (g2I cMul fun i j => .int (i * j)) := op2_I (fun _ _ => cMul_ok) fun _ _ _ => .int _
theorem op2_rep : Op2R K rRep (fun d1 d2 => match d1, d2 with | .list a, .int k => gMul (.list a) (.int k) | _, _ => none) := fun A H x y d1 d2 w Q tr r1 r2 q gw => by
  dsimp only at q
  split at q
  · rename_i a k
    obtain ⟨p, xs, rfl, h1, s1⟩ := rp_lst r1
    unfold gMul at q
    dsimp only at q
    by_cases c : k < 2 ^ 63 ∧ -(2 ^ 63) ≤ k ∧ a.length * k.toNat ≤ sizeLine
    · rw [if_pos c] at q
      cases q
      exact ⟨p, k, xs, rfl, rp_int r2, h1, c.2.1, c.1, by rw [s1.length]; exact c.2.2, give_lst (s1.flat _) gw⟩
    · rw [if_neg c] at q
      cases q
  · cases q
theorem op2_mul : Op2R K (fun x y H Q => rI IntMulOk (fun i j => .int (i * j)) x y H Q ∨ rRep x y H Q) gMul := Op2R.or op2_mulI op2_rep fun a b w h => by
  unfold gMul at h
  split at h
  · exact .inl h
  · exact .inr h
  · cases h
/-- // -/
def cDiv (i j : Int) : Bool := (decide (j ≠ 0) && decide (j.natAbs < 1073741824)) || (decide (0 < j) && decide (j.natAbs.log2 < 9000))
def gDiv : D → D → Option W := g2I cDiv fun i j => .int (i.fdiv j)
def gMod : D → D → Option W := g2I (fun _ j => decide (j ≠ 0)) fun i j => .int (i.fmod j)
def gSub : D → D → Option W := g2I (fun _ _ => true) fun i j => .int (i - j)
def cPow (i j : Int) : Bool := decide (0 ≤ j) && decide ((Builtin.Int.intBits i : Int) * j ≤ 2 ^ 27)
def gPow : D → D → Option W := g2I cPow fun i j => .int (i ^ j.toNat)
def gLt : D → D → Option W := g2I (fun _ _ => true) fun i j => .bool (decide (i < j))
def gLe : D → D → Option W := g2I (fun _ _ => true) fun i j => .bool (decide (i ≤ j))
def gGt : D → D → Option W := g2I (fun _ _ => true) fun i j => .bool (decide (j < i))
def gGe : D → D → Option W := g2I (fun _ _ => true) fun i j => .bool (decide (j ≤ i))
def gNeg : D → Option W
  | .int i => some (.pu (.int (-i)))
  | _ => none

/-! ### equality -/
mutual
theorem Rp.dp : ∀ {v : V} {d : D}, Rp K H v d → d.canLay0 = true → Dp K H v d
  | _, _, .non, _ => .non
  | _, _, .bl b, _ => .bl b
  | _, _, .int i, _ => .int i
  | _, _, .str x, _ => .str x
  | _, _, .lst h r, e => .lst (.inl (.inl h)) (Rps.dp r (by simpa [PyData.canLay0] using e))
  | _, _, .tup h r, e => .tup (.inl (.inl h)) (Rps.dp r (by simpa [PyData.canLay0] using e))
  | _, _, .emp h, e => by simp [PyData.canLay0] at e
theorem Rps.dp : ∀ {vs : List V} {ds : List D}, Rps K H vs ds → PyData.canLayAll0 ds = true → DpAll K H vs ds
  | _, _, .nil, _ => .nil
  | _, _, .cons h r, e => by
    simp only [PyData.canLayAll0, Bool.and_eq_true] at e
    exact .cons (Rp.dp h e.1) (Rps.dp r e.2)
end
def gEq0 (d e : D) : Option W := if SeqAt.shaped d && SeqAt.shaped e then some (.pu (.bool (PyData.eqv d e))) else none
def gNe0 (d e : D) : Option W := if SeqAt.shaped d && SeqAt.shaped e then some (.pu (.bool (!PyData.eqv d e))) else none
theorem op2_eq0 : Op2R K (rEqD K) gEq0 := fun A H x y d1 d2 w Q tr r1 r2 q gw => by
  unfold gEq0 at q
  by_cases c : (SeqAt.shaped d1 && SeqAt.shaped d2) = true
  · rw [if_pos c] at q
    cases q
    have c2 := Bool.and_eq_true_iff.mp c
    exact ⟨d1, d2, (r1.ext hid_ext).dp (SeqAt.canLay_of_shaped c2.1), (r2.ext hid_ext).dp (SeqAt.canLay_of_shaped c2.2), c2.1, c2.2, give_pu (.bl _) gw⟩
  · rw [if_neg c] at q
    cases q
theorem op2_ne0 : Op2R K (rNeD K) gNe0 := fun A H x y d1 d2 w Q tr r1 r2 q gw => by
  unfold gNe0 at q
  by_cases c : (SeqAt.shaped d1 && SeqAt.shaped d2) = true
  · rw [if_pos c] at q
    cases q
    have c2 := Bool.and_eq_true_iff.mp c
    exact ⟨d1, d2, (r1.ext hid_ext).dp (SeqAt.canLay_of_shaped c2.1), (r2.ext hid_ext).dp (SeqAt.canLay_of_shaped c2.2), c2.1, c2.2, give_pu (.bl _) gw⟩
  · rw [if_neg c] at q
    cases q

def gEq : D → D → Option W
  | .str a, .str b => some (.pu (.bool (decide (a = b))))
  | d, e => gEq0 d e
def gNe : D → D → Option W
  | .str a, .str b => some (.pu (.bool (!decide (a = b))))
  | d, e => gNe0 d e
theorem dec_str {a b : Str} : decide (V.str a = V.str b) = decide (a = b) := by
  by_cases h : a = b
  · rw [decide_eq_true h, decide_eq_true (congrArg V.str h)]
  · rw [decide_eq_false h, decide_eq_false fun z => h (V.str.inj z)]
theorem op2_eq : Op2R K (fun x y H Q => rEqD K x y H Q ∨ rEq x y H Q) gEq := fun A H x y d1 d2 w Q tr r1 r2 q gw => by
  unfold gEq at q
  split at q
  · cases q
    rw [rp_str r1, rp_str r2]
    exact .inr ⟨rfl, by rw [dec_str]; exact give_pu (.bl _) gw⟩
  · exact .inl (op2_eq0 A H x y d1 d2 w Q tr r1 r2 q gw)
theorem op2_ne : Op2R K (fun x y H Q => rNeD K x y H Q ∨ rNe x y H Q) gNe := fun A H x y d1 d2 w Q tr r1 r2 q gw => by
  unfold gNe at q
  split at q
  · cases q
    rw [rp_str r1, rp_str r2]
    exact .inr ⟨rfl, by rw [dec_str]; exact give_pu (.bl _) gw⟩
  · exact .inl (op2_ne0 A H x y d1 d2 w Q tr r1 r2 q gw)

/-! ### is None, is True -/
def isNone : D → Bool
  | .none => true
  | _ => false
theorem rp_isNone {v : V} {d : D} (h : Rp K H v d) : decide (v = .non) = isNone d := by
  cases h <;> rfl
/-- values that data stand for -/
def rpK : V → Bool
  | .non => true
  | .bl _ => true
  | .int _ => true
  | .str _ => true
  | .ref _ => true
  | _ => false
theorem rp_k {v : V} {d : D} (h : Rp K H v d) : rpK v = true := by
  cases h <;> rfl
def isBl (b : Bool) : D → Bool
  | .bool a => decide (a = b)
  | _ => false
theorem rp_isBl {v : V} {d : D} {b : Bool} (h : Rp K H v d) : decide (v = .bl b) = isBl b d := by
  cases h <;> simp [isBl]
def rIsBl : R2 := fun x y H Q => ∃ b : Bool, y = .bl b ∧ rpK x = true ∧ Q (.bl (decide (x = .bl b))) H
def rNotBl : R2 := fun x y H Q => ∃ b : Bool, y = .bl b ∧ rpK x = true ∧ Q (.bl (!decide (x = .bl b))) H
theorem op_isBlA {X : Cx} : OpR X (compareOp .Is) rIsBl := by
  intro pins s σ H x y v u Q I rx ry h
  obtain ⟨b, rfl, k, q⟩ := h
  cases (show u = Value.bool b from ry)
  have other : v ≠ .bool b → decide (x = .bl b) = false → plainIs v (.bool b) = true → wpAny (model X.prog X.w) X.A (compareOp .Is v (.bool b)) (EP X pins σ Q) X.xe s := fun n e p => wpAny_is_other p n ⟨.bl false, H, I, rfl, by rw [e] at q; exact q⟩
  cases x with
  | non => cases rx; exact other (fun z => nomatch z) (by simp) rfl
  | bl a =>
    cases (show v = Value.bool a from rx)
    by_cases e : a = b
    · subst e
      exact wpAny_is_self rfl ⟨.bl true, H, I, rfl, by simpa using q⟩
    · exact other (fun z => e (Value.bool.inj z)) (by simp [e]) rfl
  | int i =>
    obtain ⟨t, rfl⟩ := rx
    exact other (fun z => nomatch z) (by simp) rfl
  | str i =>
    obtain ⟨t, rfl⟩ := rx
    exact other (fun z => nomatch z) (by simp) rfl
  | ref a => cases rx; exact other (fun z => nomatch z) (by simp) rfl
  | _ => cases k
theorem op_notBlA {X : Cx} : OpR X (compareOp .IsNot) rNotBl := by
  intro pins s σ H x y v u Q I rx ry h
  obtain ⟨b, rfl, k, q⟩ := h
  cases (show u = Value.bool b from ry)
  have other : v ≠ .bool b → decide (x = .bl b) = false → plainIs v (.bool b) = true → wpAny (model X.prog X.w) X.A (compareOp .IsNot v (.bool b)) (EP X pins σ Q) X.xe s := fun n e p => wpAny_isNot_other p n ⟨.bl true, H, I, rfl, by rw [e] at q; exact q⟩
  cases x with
  | non => cases rx; exact other (fun z => nomatch z) (by simp) rfl
  | bl a =>
    cases (show v = Value.bool a from rx)
    by_cases e : a = b
    · subst e
      exact wpAny_isNot_self rfl ⟨.bl false, H, I, rfl, by simpa using q⟩
    · exact other (fun z => e (Value.bool.inj z)) (by simp [e]) rfl
  | int i =>
    obtain ⟨t, rfl⟩ := rx
    exact other (fun z => nomatch z) (by simp) rfl
  | str i =>
    obtain ⟨t, rfl⟩ := rx
    exact other (fun z => nomatch z) (by simp) rfl
  | ref a => cases rx; exact other (fun z => nomatch z) (by simp) rfl
  | _ => cases k
def gIsN : D → D → Option W
  | d, .none => some (.pu (.bool (isNone d)))
  | d, .bool b => some (.pu (.bool (isBl b d)))
  | _, _ => none
def gNotN : D → D → Option W
  | d, .none => some (.pu (.bool (!isNone d)))
  | d, .bool b => some (.pu (.bool (!isBl b d)))
  | _, _ => none
theorem op2_is : Op2R K (fun x y H Q => (y = .non ∧ Q (.bl (decide (x = .non))) H) ∨ rIsBl x y H Q) gIsN := fun A H x y d1 d2 w Q tr r1 r2 q gw => by
  unfold gIsN at q
  split at q
  · cases q
    exact .inl ⟨rp_non r2, by rw [rp_isNone r1]; exact give_pu (.bl _) gw⟩
  · cases q
    exact .inr ⟨_, rp_bool r2, rp_k r1, by rw [rp_isBl r1]; exact give_pu (.bl _) gw⟩
  · cases q
theorem op2_not : Op2R K (fun x y H Q => (y = .non ∧ Q (.bl (!decide (x = .non))) H) ∨ rNotBl x y H Q) gNotN := fun A H x y d1 d2 w Q tr r1 r2 q gw => by
  unfold gNotN at q
  split at q
  · cases q
    exact .inl ⟨rp_non r2, by rw [rp_isNone r1]; exact give_pu (.bl _) gw⟩
  · cases q
    exact .inr ⟨_, rp_bool r2, rp_k r1, by rw [rp_isBl r1]; exact give_pu (.bl _) gw⟩
  · cases q

/-! ### items -/
def gIx : D → D → Option W
  | .list ds, .int i => (atI ds i).map .pu
  | .tuple ds, .int i => (atI ds i).map .pu
  | .str z, .int i => if z.length ≤ sizeLine then (atI z.cps.toList i).map fun c => .pu (.str ⟨#[c]⟩) else none
  | _, _ => none
theorem atI_rps {xs : List V} {ds : List D} (h : Rps K H xs ds) {i : Int} {d : D} (e : atI ds i = some d) : ∃ v, atI xs i = some v ∧ Rp K H v d := by
  unfold atI at e ⊢
  rw [h.length]
  cases q : ixN ds.length i with
  | none => rw [q] at e; cases e
  | some j =>
    rw [q] at e
    exact h.get (i := j) e
theorem op2_ix : Op2R K (rIx K) gIx := fun A H x y d1 d2 w Q tr r1 r2 q gw => by
  unfold gIx at q
  split at q
  · rename_i ds i
    obtain ⟨p, xs, rfl, h1, s1⟩ := rp_lst r1
    cases e : atI ds i with
    | none => rw [e] at q; cases q
    | some d =>
      rw [e] at q
      cases q
      obtain ⟨v, h2, h3⟩ := atI_rps s1 e
      exact .inl ⟨p, xs, i, v, rfl, rp_int r2, .inl (.inl h1), h2, give_pu h3 gw⟩
  · rename_i ds i
    obtain ⟨p, xs, rfl, h1, s1⟩ := rp_tup r1
    cases e : atI ds i with
    | none => rw [e] at q; cases q
    | some d =>
      rw [e] at q
      cases q
      obtain ⟨v, h2, h3⟩ := atI_rps s1 e
      exact .inr (.inl ⟨p, xs, i, v, rfl, rp_int r2, .inl (.inl h1), h2, give_pu h3 gw⟩)
  · rename_i z i
    by_cases c : z.length ≤ sizeLine
    · rw [if_pos c] at q
      cases e : atI z.cps.toList i with
      | none => rw [e] at q; cases q
      | some d =>
        rw [e] at q
        cases q
        exact .inr (.inr ⟨z, i, d, rp_str r1, rp_int r2, c, e, give_pu (.str _) gw⟩)
    · rw [if_neg c] at q
      cases q
  · cases q

/-! ### built-ins -/
def gLen : List D → Option W
  | [.list ds] => some (.pu (.int ds.length))
  | [.tuple ds] => some (.pu (.int ds.length))
  | [.str x] => if x.length ≤ sizeLine then some (.pu (.int x.length)) else none
  | _ => none
theorem rps_one {vs : List V} {d : D} (h : Rps K H vs [d]) : ∃ v, vs = [v] ∧ Rp K H v d := by
  cases h with
  | cons h r => cases r; exact ⟨_, rfl, h⟩
theorem rps_two {vs : List V} {d e : D} (h : Rps K H vs [d, e]) : ∃ v u, vs = [v, u] ∧ Rp K H v d ∧ Rp K H u e := by
  cases h with
  | cons h r =>
    obtain ⟨u, rfl, q⟩ := rps_one r
    exact ⟨_, _, rfl, h, q⟩
theorem cal_len : CalR K (fun xs H Q => ∃ x n, xs = [x] ∧ LenV K x H n ∧ Q (.int n) H) gLen := fun A H xs ds w Q tr r q gw => by
  unfold gLen at q
  split at q
  · obtain ⟨v, rfl, h⟩ := rps_one r
    obtain ⟨p, ys, rfl, h1, s1⟩ := rp_lst h
    cases q
    exact ⟨_, _, rfl, .inl ⟨ys, .inl (.inl h1), s1.length.symm⟩, give_pu (.int _) gw⟩
  · obtain ⟨v, rfl, h⟩ := rps_one r
    obtain ⟨p, ys, rfl, h1, s1⟩ := rp_tup h
    cases q
    exact ⟨_, _, rfl, .inr ⟨ys, .inl (.inl h1), s1.length.symm⟩, give_pu (.int _) gw⟩
  · rename_i x
    by_cases c : x.length ≤ sizeLine
    · rw [if_pos c] at q
      cases q
      obtain ⟨v, rfl, h⟩ := rps_one r
      rw [rp_str h]
      exact ⟨_, _, rfl, ⟨c, rfl⟩, give_pu (.int _) gw⟩
    · rw [if_neg c] at q
      cases q
  · cases q
def intsOf : List D → Option (List Int)
  | [] => some []
  | .int i :: r => (intsOf r).map (i :: ·)
  | _ :: _ => none
theorem rps_ints : ∀ {vs : List V} {ds : List D} {ns : List Int}, Rps K H vs ds → intsOf ds = some ns → vs = ns.map V.int
  | _, [], _, h, e => by
    cases h
    cases e
    rfl
  | _, .int i :: ds, ns, h, e => by
    cases h with
    | cons h r =>
      rw [rp_int h]
      unfold intsOf at e
      cases q : intsOf ds with
      | none => rw [q] at e; cases e
      | some ms =>
        rw [q] at e
        cases e
        rw [rps_ints r q]
        rfl
  | _, .none :: _, _, _, e => by cases e
  | _, .bool _ :: _, _, _, e => by cases e
  | _, .str _ :: _, _, _, e => by cases e
  | _, .list _ :: _, _, _, e => by cases e
  | _, .tuple _ :: _, _, _, e => by cases e
  | _, .dict _ :: _, _, _, e => by cases e
def gSum : List D → Option W
  | [.list ds] => (intsOf ds).map fun ns => .pu (.int ns.sum)
  | _ => none
theorem cal_sum : CalR K (rSum K) gSum := fun A H xs ds w Q tr r q gw => by
  unfold gSum at q
  split at q
  · rename_i ds
    obtain ⟨v, rfl, h⟩ := rps_one r
    obtain ⟨p, ys, rfl, h1, s1⟩ := rp_lst h
    cases e : intsOf ds with
    | none => rw [e] at q; cases q
    | some ns =>
      rw [e] at q
      cases q
      rw [rps_ints s1 e] at h1
      exact ⟨p, ns, rfl, .inl (.inl h1), give_pu (.int _) gw⟩
  · cases q
def gMax2 : List D → Option W
  | [.int i, .int j] => some (.pu (.int (if j > i then j else i)))
  | _ => none
def gMin2 : List D → Option W
  | [.int i, .int j] => some (.pu (.int (if j < i then j else i)))
  | _ => none
theorem cal_max2 : CalR K (fun xs H Q => ∃ i j, xs = [.int i, .int j] ∧ Q (.int (if j > i then j else i)) H) gMax2 := fun A H xs ds w Q tr r q gw => by
  unfold gMax2 at q
  split at q
  · obtain ⟨v, u, rfl, h1, h2⟩ := rps_two r
    cases q
    rw [rp_int h1, rp_int h2]
    exact ⟨_, _, rfl, give_pu (.int _) gw⟩
  · cases q
theorem cal_min2 : CalR K (fun xs H Q => ∃ i j, xs = [.int i, .int j] ∧ Q (.int (if j < i then j else i)) H) gMin2 := fun A H xs ds w Q tr r q gw => by
  unfold gMin2 at q
  split at q
  · obtain ⟨v, u, rfl, h1, h2⟩ := rps_two r
    cases q
    rw [rp_int h1, rp_int h2]
    exact ⟨_, _, rfl, give_pu (.int _) gw⟩
  · cases q
def gInt1 : List D → Option W
  | [.int i] => some (.pu (.int i))
  | [.bool b] => some (.pu (.int (if b then 1 else 0)))
  | _ => none
theorem cal_int1 : CalR K (fun xs H Q => (∃ i, xs = [.int i] ∧ Q (.int i) H) ∨ ∃ k, xs = [.bl k] ∧ Q (.int (if k then 1 else 0)) H) gInt1 := fun A H xs ds w Q tr r q gw => by
  unfold gInt1 at q
  split at q
  · obtain ⟨v, rfl, h⟩ := rps_one r
    cases q
    rw [rp_int h]
    exact .inl ⟨_, rfl, give_pu (.int _) gw⟩
  · obtain ⟨v, rfl, h⟩ := rps_one r
    cases q
    rw [rp_bool h]
    exact .inr ⟨_, rfl, give_pu (.int _) gw⟩
  · cases q
def gAbs : List D → Option W
  | [.int i] => some (.pu (.int (if i < 0 then -i else i)))
  | _ => none
theorem cal_abs : CalR K (fun xs H Q => ∃ i, xs = [.int i] ∧ Q (.int (if i < 0 then -i else i)) H) gAbs := fun A H xs ds w Q tr r q gw => by
  unfold gAbs at q
  split at q
  · obtain ⟨v, rfl, h⟩ := rps_one r
    cases q
    rw [rp_int h]
    exact ⟨_, rfl, give_pu (.int _) gw⟩
  · cases q
def gListOf : List D → Option W
  | [.list ds] => some (.frs ds)
  | [.tuple ds] => some (.frs ds)
  | _ => none
theorem cal_list : CalR K (fun xs H Q => ∃ p ys, xs = [.ref p] ∧ (SqL K H p ys ∨ SqT K H p ys) ∧ ∀ l, H l = none → Q (.ref l) (upd H l (.lst ys))) gListOf := fun A H xs ds w Q tr r q gw => by
  unfold gListOf at q
  split at q
  · obtain ⟨v, rfl, h⟩ := rps_one r
    obtain ⟨p, ys, rfl, h1, s1⟩ := rp_lst h
    cases q
    exact ⟨p, ys, rfl, .inl (.inl (.inl h1)), give_lst s1 gw⟩
  · obtain ⟨v, rfl, h⟩ := rps_one r
    obtain ⟨p, ys, rfl, h1, s1⟩ := rp_tup h
    cases q
    exact ⟨p, ys, rfl, .inr (.inl (.inl h1)), give_lst s1 gw⟩
  · cases q
def gTupleOf : List D → Option W
  | [.list ds] => some (.pu (.tuple ds))
  | [.tuple ds] => some (.pu (.tuple ds))
  | _ => none
theorem cal_tuple : CalR K (fun xs H Q => ∃ p ys, xs = [.ref p] ∧ ((SqL K H p ys ∧ ∀ l, H l = none → Q (.ref l) (upd H l (.tup ys))) ∨ (SqT K H p ys ∧ Q (.ref p) H))) gTupleOf := fun A H xs ds w Q tr r q gw => by
  unfold gTupleOf at q
  split at q
  · obtain ⟨v, rfl, h⟩ := rps_one r
    obtain ⟨p, ys, rfl, h1, s1⟩ := rp_lst h
    cases q
    exact ⟨p, ys, rfl, .inl ⟨.inl (.inl h1), give_tup tr s1 gw⟩⟩
  · obtain ⟨v, rfl, h⟩ := rps_one r
    obtain ⟨p, ys, e, h1, s1⟩ := rp_tup h
    subst e
    cases q
    exact ⟨p, ys, rfl, .inr ⟨.inl (.inl h1), give_pu h gw⟩⟩
  · cases q
end

/-! ### isinstance -/
def tyName : D → String
  | .none => "NoneType"
  | .bool _ => "bool"
  | .int _ => "int"
  | .str _ => "str"
  | .list _ => "list"
  | .tuple _ => "tuple"
  | .dict _ => "dict"
def isN (n t : String) : Bool := (t == n) || (n == "int" && t == "bool")
def isA (n : String) (d : D) : Bool := isN n (tyName d)
def tyOk (n : String) : Bool := n == "int" || n == "bool" || n == "str" || n == "list" || n == "tuple"
theorem kit_tab : ∀ n ∈ ["int", "bool", "str", "list", "tuple"], ∀ t ∈ ["NoneType", "bool", "int", "str", "list", "tuple", "dict"], kitB t n = some (isN n t) := by decide +kernel
theorem kit_isA {K : PySem.W.Frag} {n : String} (h : tyOk n = true) (d : D) : PySem.W.kitOne K (.type (tyName d)) (.type n) = some (isA n d) := by
  unfold tyOk at h
  simp only [Bool.or_eq_true, beq_iff_eq] at h
  refine kit_ty (kit_tab n ?_ (tyName d) ?_)
  · rcases h with (((h | h) | h) | h) | h <;> rw [h] <;> simp
  · cases d <;> simp [tyName]
def dOk : D → Bool
  | .dict (_ :: _) => false
  | _ => true
theorem rp_ty {K : PySem.W.Frag} {A : List Addr} {H : Hp} {v : V} {d : D} (h : Rp K (hid A H) v d) (ok : dOk d = true) : TyX K H v (.type (tyName d)) := by
  cases h with
  | non => exact .base .non
  | bl b => exact .base (.bl b)
  | int i => exact .base (.int i)
  | str x => exact .base (.str x)
  | lst h r => exact .base (.lst (hid_of h).2)
  | tup h r => exact .base (.tup (hid_of h).2)
  | emp h => exact .base (.dK (hid_of h).2)
  | exc h1 h2 r => cases ok
  | fn => cases ok
def gIsi (n : String) (d : D) : Option W := if dOk d then some (.pu (.bool (isA n d))) else none
def gIsi2 (n m : String) (d : D) : Option W := if dOk d then some (.pu (.bool (isA n d || isA m d))) else none
section
variable {X : Cx} {E : XK} {e : Expr} {fa : Env → RE} {pos p p2 : Pos}
/-- isinstance(e, T), T a built-in type by its name -/
theorem de_isi {n : Str} {T : String} (hT : tyOk T = true) (hg : Gl X "isinstance") (hm : X.mg "isinstance" = none) (hgT : Gl X n) (hmT : X.mg n = none) (hvT : bootBuiltins n = some (.type T)) (ha : DE X E e fa)
    (hn : n ≠ "__name__" := by decide) (hdT : (n == ("__debug__" : Str)) = false := by decide) (he : starEach [e, .Name n p2] X.env = (false, eval e X.env) :: starEach [.Name n p2] X.env := by rfl) (he2 : starEach [.Name n p2] X.env = (false, eval (.Name n p2) X.env) :: starEach [] X.env := by rfl)
    (hpl : (backTo pos (starEach [.Name n p2] X.env)).any (·.1) = false := by rfl) :
    DE X E (.Call (.Name "isinstance" p) [e, .Name n p2] [] pos) (fOp1 (gIsi T) fa) := by
  refine ⟨PE.weak (pe_callB call_isi hg hm (by decide +kernel) (pa_cons ha.pe (pa_cons (pe_bltn hgT hmT hvT (v := .ty T) rfl hn hdT) pa_nil he2) he) (by decide) (by decide) he hpl) fun σ H Q h => ?_⟩
  refine tde_bnd h fun v H' τ A0 P' ρ' d S r c => ?_
  by_cases ok : dOk d = true
  · unfold gIsi at c
    rw [if_pos ok] at c
    exact ⟨v, .ty T, _, _, _, rfl, .ty T, rp_ty r ok, kit_isA hT d, give_pu (.bl _) (giveW S c)⟩
  · unfold gIsi at c
    rw [if_neg ok] at c
    exact c.elim
/-- isinstance(e, (T1, T2)) -/
theorem de_isi2 {n1 n2 : Str} {T1 T2 : String} {k : Nat} {p3 p4 : Pos} (hT1 : tyOk T1 = true) (hT2 : tyOk T2 = true) (hg : Gl X "isinstance") (hm : X.mg "isinstance" = none) (hg1 : Gl X n1) (hm1 : X.mg n1 = none) (hv1 : bootBuiltins n1 = some (.type T1)) (hg2 : Gl X n2) (hm2 : X.mg n2 = none) (hv2 : bootBuiltins n2 = some (.type T2)) (ha : DE X E e fa)
    (hn1 : n1 ≠ "__name__" := by decide) (hd1 : (n1 == ("__debug__" : Str)) = false := by decide) (hn2 : n2 ≠ "__name__" := by decide) (hd2 : (n2 == ("__debug__" : Str)) = false := by decide)
    (he : starEach [e, .Tuple [.Name n1 p2, .Name n2 p3] k p4] X.env = (false, eval e X.env) :: starEach [.Tuple [.Name n1 p2, .Name n2 p3] k p4] X.env := by rfl)
    (hpl : (backTo pos (starEach [.Tuple [.Name n1 p2, .Name n2 p3] k p4] X.env)).any (·.1) = false := by rfl) :
    DE X E (.Call (.Name "isinstance" p) [e, .Tuple [.Name n1 p2, .Name n2 p3] k p4] [] pos) (fOp1 (gIsi2 T1 T2) fa) := by
  refine ⟨PE.weak (pe_callB call_isiT hg hm (by decide +kernel) (pa_cons ha.pe (pa_cons (pe_tup (pa_cons (pe_bltn hg1 hm1 hv1 (v := .ty T1) rfl hn1 hd1) (pa_cons (pe_bltn hg2 hm2 hv2 (v := .ty T2) rfl hn2 hd2) pa_nil))) pa_nil) he) (by decide) (by decide) he hpl) fun σ H Q h => ?_⟩
  refine tde_bnd h fun v H' τ A0 P' ρ' d S r c => ?_
  unfold gIsi2 at c
  by_cases ok : dOk d = true
  rotate_left
  · rw [if_neg ok] at c
    exact c.elim
  rw [if_pos ok] at c
  refine ⟨by show 2 ≤ sizeLine; decide, fun tp ht => ?_⟩
  refine ⟨v, tp, [.ty T1, .ty T2], _, [.type T1, .type T2], _, rfl, upd_same, .cons (.ty T1) (.cons (.ty T2) .nil), rp_ty (A := P' ++ A0) (r.ext (hid_upd ht)) ok, kitAny_cons (kit_isA hT1 d) (b := isA T1 d) (r := isA T1 d || isA T2 d) (fun e1 => ?_) (fun e1 => by rw [e1]; rfl), ?_⟩
  · rw [e1, Bool.false_or]
    exact kitAny_cons (kit_isA hT2 d) (fun e2 => by rw [e2]; exact kitAny_nil) fun e2 => e2
  · have g : GiveW X.K (P' ++ A0) H' (.pu (.bool (isA T1 d || isA T2 d))) Q := giveW S c
    exact g _ _ (Evl.Ex.new ht) (.bl _)
end
section
variable {X : Cx}
theorem op_addAll : OpR X (binaryOp .Add) rAddAll := op_add.or (op_cat.or op_add_str)
theorem op_mulOk : OpR X (binaryOp .Mult) (rI IntMulOk fun i j => .int (i * j)) := opI fun _ _ _ _ _ _ _ hc q => mul_int q hc
theorem op_mulAll : OpR X (binaryOp .Mult) (fun x y H Q => rI IntMulOk (fun i j => .int (i * j)) x y H Q ∨ rRep x y H Q) := op_mulOk.or op_rep
theorem op_divAll : OpR X (binaryOp .FloorDiv) (rI (fun i j => cDiv i j = true) fun i j => .int (i.fdiv j)) := opI fun i j _ _ _ _ _ hc q => by
  unfold cDiv at hc
  simp only [Bool.or_eq_true, Bool.and_eq_true, decide_eq_true_eq] at hc
  rcases hc with ⟨h1, h2⟩ | ⟨h1, h2⟩
  · exact floordiv_int h1 q (.inl (PyProof.noPylong_small h2))
  · exact floordiv_int (by omega) q (.inl (PyProof.noPylong_of_log2 h2))
theorem op_powAll : OpR X (binaryOp .Pow) (rI (fun i j => cPow i j = true) fun i j => .int (i ^ j.toNat)) := opI fun i j _ _ _ _ _ hc q => by
  unfold cPow at hc
  simp only [Bool.and_eq_true, decide_eq_true_eq] at hc
  exact pow_int hc.1 hc.2 q
variable {E : XK} {a b : Expr} {fa fb : Env → RE} {pos : Pos}
theorem d_add (ha : DE X E a fa) (hb : DE X E b fb) : DE X E (.BinOp a .Add b pos) (fOp2 gAdd fa fb) := de_bin op_addAll op2_add ha hb
theorem d_sub (ha : DE X E a fa) (hb : DE X E b fb) : DE X E (.BinOp a .Sub b pos) (fOp2 gSub fa fb) := de_bin op_sub (op2_I0 fun _ _ _ => .int _) ha hb
theorem d_mul (ha : DE X E a fa) (hb : DE X E b fb) : DE X E (.BinOp a .Mult b pos) (fOp2 gMul fa fb) := de_bin op_mulAll op2_mul ha hb
theorem d_div (ha : DE X E a fa) (hb : DE X E b fb) : DE X E (.BinOp a .FloorDiv b pos) (fOp2 gDiv fa fb) := de_bin op_divAll (op2_I (fun _ _ h => h) fun _ _ _ => .int _) ha hb
theorem d_mod (ha : DE X E a fa) (hb : DE X E b fb) : DE X E (.BinOp a .Mod b pos) (fOp2 gMod fa fb) := de_bin op_modN (op2_I (fun _ _ h => of_decide_eq_true h) fun _ _ _ => .int _) ha hb
theorem d_pow (ha : DE X E a fa) (hb : DE X E b fb) : DE X E (.BinOp a .Pow b pos) (fOp2 gPow fa fb) := de_bin op_powAll (op2_I (fun _ _ h => h) fun _ _ _ => .int _) ha hb
theorem d_neg (ha : DE X E a fa) : DE X E (.UnaryOp .USub a pos) (fOp1 gNeg fa) := de_un un_neg (fun A H x d1 w Q tr r1 q gw => by
  unfold gNeg at q
  split at q
  · cases q
    exact ⟨_, rp_int r1, give_pu (.int _) gw⟩
  · cases q) ha
theorem d_lt (ha : DE X E a fa) (hb : DE X E b fb) : DE X E (.Compare a [.Lt] [b] pos) (fOp2 gLt fa fb) := de_cmp op_lt (op2_I0 fun _ _ _ => .bl _) ha hb (nomark _)
theorem d_le (ha : DE X E a fa) (hb : DE X E b fb) : DE X E (.Compare a [.LtE] [b] pos) (fOp2 gLe fa fb) := de_cmp op_le (op2_I0 fun _ _ _ => .bl _) ha hb (nomark _)
theorem d_gt (ha : DE X E a fa) (hb : DE X E b fb) : DE X E (.Compare a [.Gt] [b] pos) (fOp2 gGt fa fb) := de_cmp op_gt (op2_I0 fun _ _ _ => .bl _) ha hb (nomark _)
theorem d_ge (ha : DE X E a fa) (hb : DE X E b fb) : DE X E (.Compare a [.GtE] [b] pos) (fOp2 gGe fa fb) := de_cmp op_ge (op2_I0 fun _ _ _ => .bl _) ha hb (nomark _)
theorem d_eq (hu : X.A.units + 64 < cLine) (ha : DE X E a fa) (hb : DE X E b fb) : DE X E (.Compare a [.Eq] [b] pos) (fOp2 gEq fa fb) := de_cmp ((op_eqD hu).or op_eq) op2_eq ha hb (nomark _)
theorem d_ne (hu : X.A.units + 64 < cLine) (ha : DE X E a fa) (hb : DE X E b fb) : DE X E (.Compare a [.NotEq] [b] pos) (fOp2 gNe fa fb) := de_cmp ((op_neD hu).or op_ne) op2_ne ha hb (nomark _)
theorem d_is (ha : DE X E a fa) (hb : DE X E b fb) : DE X E (.Compare a [.Is] [b] pos) (fOp2 gIsN fa fb) := de_cmp (op_isN.or op_isBlA) op2_is ha hb (nomark _)
theorem d_isnot (ha : DE X E a fa) (hb : DE X E b fb) : DE X E (.Compare a [.IsNot] [b] pos) (fOp2 gNotN fa fb) := de_cmp (op_notN.or op_notBlA) op2_not ha hb (nomark _)
theorem d_ix (ha : DE X E a fa) (hb : DE X E b fb) (hs : PlainIx b := by exact fun _ _ => rfl) : DE X E (.Subscript a b pos) (fOp2 gIx fa fb) := de_ix ix_seq op2_ix ha hb hs
/-- xs[::-1] -/
def gRev : D → Option W
  | .list ds => some (.frs ds.reverse)
  | _ => none
theorem d_rev {k : Nat} {p1 p2 p3 : Pos} (ha : DE X E a fa) : DE X E (.Subscript a (.Slice none none (some (.UnaryOp .USub (.Constant (.int 1) k p1) p2)) p3) pos) (fOp1 gRev fa) := by
  refine ⟨PE.weak (pe_revL ha.pe) fun σ H Q h => tde_bnd h fun v H' τ A0 P' ρ' d S r c => ?_⟩
  unfold resW gRev at c
  split at c
  · rename_i w q
    split at q
    · obtain ⟨p, xs, rfl, h1, s1⟩ := rp_lst r
      cases q
      exact ⟨p, xs, rfl, .inl (.inl h1), give_lst s1.rev (giveW S c)⟩
    · cases q
  · exact c.elim
/-- n.bit_length() -/
def gBits : D → Option W
  | .int i => some (.pu (.int (Builtin.Int.intBits i : Nat)))
  | _ => none
theorem d_bits {apos : Pos} (ha : DE X E a fa) (hbase : attributeBase a "bit_length" X.env (eval a X.env) = eval a X.env := by rfl) (hline : (apos.endLine == pos.line) = true := by rfl) : DE X E (.Call (.Attribute a "bit_length" apos) [] [] pos) (fOp1 gBits fa) := by
  refine ⟨PE.weak (pe_bits ha.pe hbase hline) fun σ H Q h => tde_bnd h fun v H' τ A0 P' ρ' d S r c => ?_⟩
  unfold resW gBits at c
  split at c
  · rename_i w q
    split at q
    · cases q
      exact ⟨_, rp_int r, give_pu (.int _) (giveW S c)⟩
    · cases q
  · exact c.elim
end
end DL
/-! D4: what is walked, comprehensions, statements. -/
namespace DL
open PySem L2 PyProof.Rows

/-! ### what is walked -/
inductive RI where
  | ok (items : List D) (ρ : Env)
  | err (c : Addr) (d : D)
  | st
/-- the turns of J are these items, whatever grows -/
def Walks (K : PySem.W.Frag) (A0 : List Addr) (J : It) (items : List D) (H : Hp) (P : List Addr) : Prop :=
  ∀ (A1 : List Addr) (i : Nat) (H2 : Hp) (P2 : List Addr), (∀ a ∈ A1, a ∈ A0 ∨ H a = none) → Stp K H P H2 P2 →
    (∀ d, items[i]? = some d → J.go i H2 ∧ ∀ x H3, J.yld i H2 x H3 → Ext H2 H3 ∧ ((∀ a ∈ P2 ++ A1, H2 a ≠ none) → Rp K (hid (P2 ++ A1) H3) x d)) ∧ (items.length ≤ i → J.stop i H2)
def CDI (K : PySem.W.Frag) (E : XK) (τ : Nat → Addr) (A0 : List Addr) (H : Hp) (P : List Addr) (σ : L2.St) (o : RI) (R : It → Hp → Prop) : Prop :=
  match o with
  | .ok items ρ' => ∀ J H' P', Stp K H P H' P' → SRep K τ A0 H' σ ρ' P' → Walks K A0 J items H' P' → R J H'
  | .err c d => ∀ dx v H' P', Stp K H P H' P' → (H dx = none ∧ H' dx = some (.xd [(("value" : Str), v)])) → Rp K (hid (P' ++ A0) H') v d → E (.ref c) (some dx) H'
  | .st => False
def tDI (K : PySem.W.Frag) (E : XK) (f : Env → RI) : TI := fun σ H R => ∃ τ A0 P ρ, SRep K τ A0 H σ ρ P ∧ CDI K E τ A0 H P σ (f ρ) R
structure DI (X : Cx) (E : XK) (tg e : Expr) (f : Env → RI) : Prop where
  pi : PI X tg e (tDI X.K E f)
theorem PI.weak {X : Cx} {tg e : Expr} {t u : TI} (h : PI X tg e t) (k : ∀ σ H Q, u σ H Q → t σ H Q) : PI X tg e u := ⟨fun pins s σ H Q I q => h.run pins s σ H Q I (k σ H Q q)⟩
/-- a source by the value of an expression -/
def srcE (fa : Env → RE) (k : D → Option (List D)) : Env → RI := fun ρ => match fa ρ with
  | .ok w ρ1 => (match k w.d with
    | some items => .ok items ρ1
    | none => .st)
  | .err c d => .err c d
  | .st => .st
def srcA (fs : Env → RL) (k : List D → Option (List D)) : Env → RI := fun ρ => match fs ρ with
  | .ok ds ρ1 => (match k ds with
    | some items => .ok items ρ1
    | none => .st)
  | .err c d => .err c d
  | .st => .st
section
variable {K : PySem.W.Frag} {E : XK} {τ : Nat → Addr} {A0 P : List Addr} {H : Hp} {σ : L2.St} {ρ : Env}
theorem srcE_of {fa : Env → RE} {k : D → Option (List D)} {R : It → Hp → Prop} {U : VK} (h : tDI K E (srcE fa k) σ H R)
    (hk : ∀ v H' τ A0 P' ρ' d items, SRep K τ A0 H' σ ρ' P' → Rp K (hid (P' ++ A0) H') v d → k d = some items → (∀ J H2, Ext H' H2 → Walks K A0 J items H2 P' → R J H2) → U v H') : tDE K E fa σ H U := by
  obtain ⟨τ, A0, P, ρ, S, c⟩ := h
  refine ⟨τ, A0, P, ρ, S, CDE.toD ?_⟩
  unfold srcE at c
  cases q : fa ρ with
  | ok w ρ1 =>
    rw [q] at c
    dsimp only at c
    intro v H1 P1 t1 S1 r1
    cases q2 : k w.d with
    | none => rw [q2] at c; exact c.elim
    | some items =>
      rw [q2] at c
      exact hk v H1 τ A0 P1 ρ1 w.d items S1 r1 q2 fun J H2 e wk => c J H2 P1 (t1.trans (Stp.ext e)) (S1.grow e.gr) wk
  | err cc d => rw [q] at c; exact c
  | st => rw [q] at c; exact c
theorem srcA_of {fs : Env → RL} {k : List D → Option (List D)} {R : It → Hp → Prop} {U : List V → Hp → Prop} (h : tDI K E (srcA fs k) σ H R)
    (hk : ∀ vs H' τ A0 P' ρ' ds items, SRep K τ A0 H' σ ρ' P' → Rps K (hid (P' ++ A0) H') vs ds → k ds = some items → (∀ J H2, Ext H' H2 → Walks K A0 J items H2 P' → R J H2) → U vs H') : tDA K E fs σ H U := by
  obtain ⟨τ, A0, P, ρ, S, c⟩ := h
  refine ⟨τ, A0, P, ρ, S, ?_⟩
  unfold srcA at c
  cases q : fs ρ with
  | ok ds ρ1 =>
    rw [q] at c
    dsimp only at c
    intro vs H1 P1 t1 S1 r1
    cases q2 : k ds with
    | none => rw [q2] at c; exact c.elim
    | some items =>
      rw [q2] at c
      exact hk vs H1 τ A0 P1 ρ1 ds items S1 r1 q2 fun J H2 e wk => c J H2 P1 (t1.trans (Stp.ext e)) (S1.grow e.gr) wk
  | err cc d => rw [q] at c; exact c
  | st => rw [q] at c; exact c
theorem hid_none {A : List Addr} {a : Addr} {o : HO} {H : Hp} (h : hid A H a = some o) : a ∉ A := (hid_of h).1
/-- what was borne stands behind any step, though more is hidden that is new -/
theorem Rp.later {A1 P2 : List Addr} {H2 : Hp} {v : V} {d : D} (r : Rp K (hid (P ++ A0) H) v d) (hA : ∀ a ∈ A1, a ∈ A0 ∨ H a = none) (t : Stp K H P H2 P2) : Rp K (hid (P2 ++ A1) H2) v d :=
  r.ext fun a o q => by
    obtain ⟨n, e⟩ := hid_of q
    rw [List.mem_append, not_or] at n
    refine hid_in (fun z => ?_) (t.kp a o n.1 e (hid_nt q)) (hid_nt q)
    rcases List.mem_append.mp z with z | z
    · rcases t.nw a z with z | z
      · exact n.1 z
      · rw [z] at e; cases e
    · rcases hA a z with z | z
      · exact n.2 z
      · rw [z] at e; cases e
theorem walks_list {a : Addr} {xs : List V} {items : List D} (h : H a = some (.lst xs)) (ha : a ∉ P) (r : Rps K (hid (P ++ A0) H) xs items) : Walks K A0 (Itl K a) items H P := fun A1 i H2 P2 hA t => by
  have h2 : H2 a = some (.lst xs) := t.kp a _ ha h (fun _ z => nomatch z)
  have uq : ∀ ys, SqL K H2 a ys → SqL K H2 a xs := fun ys _ => .inl (.inl h2)
  refine ⟨fun d e => ?_, fun e => ⟨xs, .inl (.inl h2), by rw [r.length]; exact e⟩⟩
  obtain ⟨v, e1, r1⟩ := r.get e
  refine ⟨⟨xs, v, .inl (.inl h2), e1⟩, fun x H3 y => ?_⟩
  obtain ⟨rfl, y⟩ := y
  have e2 := y xs (.inl (.inl h2))
  rw [e1] at e2
  cases e2
  exact ⟨Ext.rfl _, fun _ => r1.later hA t⟩
theorem walks_tup {a : Addr} {xs : List V} {items : List D} (h : H a = some (.tup xs)) (ha : a ∉ P) (r : Rps K (hid (P ++ A0) H) xs items) : Walks K A0 (Itt K a) items H P := fun A1 i H2 P2 hA t => by
  have h2 : H2 a = some (.tup xs) := t.kp a _ ha h (fun _ z => nomatch z)
  refine ⟨fun d e => ?_, fun e => ⟨xs, .inl (.inl h2), by rw [r.length]; exact e⟩⟩
  obtain ⟨v, e1, r1⟩ := r.get e
  refine ⟨⟨xs, v, .inl (.inl h2), e1⟩, fun x H3 y => ?_⟩
  obtain ⟨rfl, y⟩ := y
  have e2 := y xs (.inl (.inl h2))
  rw [e1] at e2
  cases e2
  exact ⟨Ext.rfl _, fun _ => r1.later hA t⟩
def rngD (lo : Int) (n : Nat) : List D := (List.range n).map fun i => .int (lo + (i : Nat))
theorem rngD_get {lo : Int} {n i : Nat} {d : D} (h : (rngD lo n)[i]? = some d) : i < n ∧ d = .int (lo + (i : Nat)) := by
  unfold rngD at h
  rw [List.getElem?_map] at h
  cases q : (List.range n)[i]? with
  | none => rw [q] at h; cases h
  | some j =>
    rw [q] at h
    obtain ⟨hl, e⟩ := List.getElem?_eq_some_iff.mp q
    rw [List.getElem_range] at e
    subst e
    rw [List.length_range] at hl
    exact ⟨hl, (Option.some.inj h).symm⟩
theorem walks_rng {lo : Int} {n : Nat} : Walks K A0 (Itr lo n) (rngD lo n) H P := fun A1 i H2 P2 hA t => by
  refine ⟨fun d e => ?_, fun e => ?_⟩
  · obtain ⟨hi, rfl⟩ := rngD_get e
    refine ⟨hi, fun x H3 y => ?_⟩
    obtain ⟨rfl, rfl⟩ := y
    exact ⟨Ext.rfl _, fun _ => .int _⟩
  · show n ≤ i
    simpa [rngD] using e
def rngCD (lo c : Int) (n : Nat) : List D := (List.range n).map fun i => .int (lo + (i : Nat) * c)
theorem walks_rngC {lo c : Int} {n : Nat} : Walks K A0 (Itc lo c n) (rngCD lo c n) H P := fun A1 i H2 P2 hA t => by
  refine ⟨fun d e => ?_, fun e => ?_⟩
  · unfold rngCD at e
    rw [List.getElem?_map] at e
    cases q : (List.range n)[i]? with
    | none => rw [q] at e; cases e
    | some j =>
      rw [q] at e
      obtain ⟨hl, e2⟩ := List.getElem?_eq_some_iff.mp q
      rw [List.getElem_range] at e2
      subst e2
      rw [List.length_range] at hl
      cases e
      refine ⟨hl, fun x H3 y => ?_⟩
      obtain ⟨rfl, rfl⟩ := y
      exact ⟨Ext.rfl _, fun _ => .int _⟩
  · show n ≤ i
    simpa [rngCD] using e
def enumD : Nat → List D → List D
  | _, [] => []
  | n, d :: r => .tuple [.int (n : Nat), d] :: enumD (n + 1) r
theorem enumD_get : ∀ {l : List D} {n i : Nat} {d : D}, (enumD n l)[i]? = some d → ∃ e, l[i]? = some e ∧ d = .tuple [.int ((n + i : Nat) : Int), e]
  | [], _, _, _, h => by simp [enumD] at h
  | x :: r, n, 0, d, h => by
    simp [enumD] at h
    exact ⟨x, rfl, by rw [← h]; simp⟩
  | x :: r, n, i + 1, d, h => by
    obtain ⟨e, h1, h2⟩ := enumD_get (l := r) (n := n + 1) (i := i) (d := d) (by simpa [enumD] using h)
    exact ⟨e, by simpa using h1, by rw [h2]; congr 3; congr 1; omega⟩
theorem enumD_len : ∀ (l : List D) (n : Nat), (enumD n l).length = l.length
  | [], _ => rfl
  | x :: r, n => by simp [enumD, enumD_len r]
theorem walks_enum {a : Addr} {xs : List V} {items : List D} (h : H a = some (.lst xs)) (ha : a ∉ P) (r : Rps K (hid (P ++ A0) H) xs items) : Walks K A0 (Ite K a) (enumD 0 items) H P := fun A1 i H2 P2 hA t => by
  have h2 : H2 a = some (.lst xs) := t.kp a _ ha h (fun _ z => nomatch z)
  refine ⟨fun d e => ?_, fun e => ⟨xs, .inl (.inl h2), by rw [r.length, ← enumD_len items 0]; exact e⟩⟩
  obtain ⟨e, e1, rfl⟩ := enumD_get e
  obtain ⟨v, e2, r1⟩ := r.get e1
  refine ⟨⟨xs, v, .inl (.inl h2), e2⟩, fun x H3 y => ?_⟩
  obtain ⟨T, z, rfl, hT, rfl, y⟩ := y
  have e3 := y xs (.inl (.inl h2))
  rw [e2] at e3
  cases e3
  refine ⟨Evl.Ex.new hT, fun tr => .tup (hid_in (fun q => tr T q hT) upd_same) (.cons ?_ (.cons ((r1.later hA t).ext (hid_upd hT)) .nil))⟩
  have e0 : ((0 + i : Nat) : Int) = ((i : Nat) : Int) := by simp
  rw [e0]
  exact .int _
end
section
variable {X : Cx} {E : XK} {tg a : Expr} {es : List Expr} {fa : Env → RE} {fs : Env → RL} {p pos : Pos}
def itemsL : D → Option (List D)
  | .list ds => some ds
  | _ => none
def itemsT : D → Option (List D)
  | .tuple ds => some ds
  | _ => none
theorem rp_out {K : PySem.W.Frag} {A0 P : List Addr} {H : Hp} {v : V} {ds : List D} (h : Rp K (hid (P ++ A0) H) v (.list ds)) : ∃ p xs, v = .ref p ∧ H p = some (.lst xs) ∧ p ∉ P ∧ Rps K (hid (P ++ A0) H) xs ds := by
  cases h with
  | lst h r => exact ⟨_, _, rfl, (hid_of h).2, fun z => (hid_of h).1 (List.mem_append_left _ z), r⟩
theorem di_list (ha : DE X E a fa) : DI X E tg a (srcE fa itemsL) := by
  refine ⟨PI.weak (pi_list ha.pe) fun σ H R h => srcE_of h fun v H' τ A0 P' ρ' d items S r q k => ?_⟩
  cases d with
  | list ds =>
    cases q
    obtain ⟨b, xs, rfl, h1, h2, s1⟩ := rp_out r
    exact ⟨b, rfl, ⟨xs, .inl (.inl h1)⟩, k _ _ (Ext.rfl _) (walks_list h1 h2 s1)⟩
  | _ => cases q
theorem di_tup (ha : DE X E a fa) : DI X E tg a (srcE fa itemsT) := by
  refine ⟨PI.weak (pi_tup ha.pe) fun σ H R h => srcE_of h fun v H' τ A0 P' ρ' d items S r q k => ?_⟩
  cases d with
  | tuple ds =>
    cases q
    cases r with
    | tup h s1 => exact ⟨_, rfl, ⟨_, .inl (.inl (hid_of h).2)⟩, k _ _ (Ext.rfl _) (walks_tup (hid_of h).2 (fun z => (hid_of h).1 (List.mem_append_left _ z)) s1)⟩
  | _ => cases q
def kRng1 : List D → Option (List D)
  | [.int j] => if -(2 ^ 62) ≤ j ∧ j < 2 ^ 62 then some (rngD 0 j.toNat) else none
  | _ => none
def kRng2 : List D → Option (List D)
  | [.int i, .int j] => if -(2 ^ 62) ≤ i ∧ i < 2 ^ 62 ∧ -(2 ^ 62) ≤ j ∧ j < 2 ^ 62 then some (rngD i (j - i).toNat) else none
  | _ => none
theorem di_rng1 (hg : Gl X "range") (hm : X.mg "range" = none) (ha : DA X E [a] fs) (hs : starEach [a] X.env = [(false, eval a X.env)] := by rfl) : DI X E tg (.Call (.Name "range" p) [a] [] pos) (srcA fs kRng1) := by
  refine ⟨PI.weak (pi_range1 hg hm ha.pa hs) fun σ H R h => srcA_of h fun vs H' τ A0 P' ρ' ds items S r q k => ?_⟩
  unfold kRng1 at q
  split at q
  · rename_i j
    by_cases c : -(2 ^ 62) ≤ j ∧ j < 2 ^ 62
    · rw [if_pos c] at q
      cases q
      obtain ⟨v, rfl, h1⟩ := rps_one r
      rw [rp_int h1]
      exact ⟨j, rfl, c.1, c.2, k _ _ (Ext.rfl _) walks_rng⟩
    · rw [if_neg c] at q
      cases q
  · cases q
theorem di_rng2 {b : Expr} (hg : Gl X "range") (hm : X.mg "range" = none) (ha : DA X E [a, b] fs) (hs : starEach [a, b] X.env = [(false, eval a X.env), (false, eval b X.env)] := by rfl) (hs2 : starEach [b] X.env = [(false, eval b X.env)] := by rfl) : DI X E tg (.Call (.Name "range" p) [a, b] [] pos) (srcA fs kRng2) := by
  refine ⟨PI.weak (pi_range2 hg hm ha.pa hs hs2) fun σ H R h => srcA_of h fun vs H' τ A0 P' ρ' ds items S r q k => ?_⟩
  unfold kRng2 at q
  split at q
  · rename_i i j
    by_cases c : -(2 ^ 62) ≤ i ∧ i < 2 ^ 62 ∧ -(2 ^ 62) ≤ j ∧ j < 2 ^ 62
    · rw [if_pos c] at q
      cases q
      obtain ⟨v, u, rfl, h1, h2⟩ := rps_two r
      rw [rp_int h1, rp_int h2]
      exact ⟨i, j, rfl, c, k _ _ (Ext.rfl _) walks_rng⟩
    · rw [if_neg c] at q
      cases q
  · cases q
def kEnum : List D → Option (List D)
  | [.list ds] => some (enumD 0 ds)
  | _ => none
theorem di_enum {elts : List Expr} {kk : Nat} {tpos : Pos} (hg : Gl X "enumerate") (hm : X.mg "enumerate" = none) (ha : DA X E [a] fs) (hs : starEach [a] X.env = [(false, eval a X.env)] := by rfl) : DI X E (.Tuple elts kk tpos) (.Call (.Name "enumerate" p) [a] [] pos) (srcA fs kEnum) := by
  refine ⟨PI.weak (pi_enum hg hm ha.pa hs) fun σ H R h => srcA_of h fun vs H' τ A0 P' ρ' ds items S r q k => ?_⟩
  unfold kEnum at q
  split at q
  · cases q
    obtain ⟨v, rfl, h1⟩ := rps_one r
    obtain ⟨b, xs, rfl, h2, h3, s1⟩ := rp_out h1
    exact ⟨b, xs, rfl, .inl (.inl h2), k _ _ (Ext.rfl _) (walks_enum h2 h3 s1)⟩
  · cases q
end

/-! ### targets -/
/-- a slot gets data -/
theorem SRep.put {K : PySem.W.Frag} {τ : Nat → Addr} {A0 P : List Addr} {H : Hp} {σ : L2.St} {ρ : Env} (S : SRep K τ A0 H σ ρ P) {v : V} {d : D} (r : Rp K (hid (P ++ A0) H) v d) (i : Nat) : SRep K τ A0 H (σ.set i (some v)) (ρ.set i (some (.pu d))) P := by
  have g : ∀ {m u : Nat} {gs : List D}, (ρ.set i (some (.pu d)))[m]? = some (some (.own u gs)) → i ≠ m ∧ ρ[m]? = some (some (.own u gs)) := fun {m u gs} z => by
    by_cases hm : i = m
    · subst hm
      by_cases hi : i < ρ.length
      · rw [List.getElem?_set_self hi] at z; cases z
      · rw [List.getElem?_eq_none (by simpa using hi)] at z; cases z
    · rw [List.getElem?_set_ne hm] at z
      exact ⟨hm, z⟩
  refine ⟨fun j m e q => ?_, fun j t ds q => ?_, fun j k u u2 es fs p hjk e1 e2 e3 => ?_, S.tr, by simpa using S.len, S.dj, S.tb, fun j g q => ?_⟩
  rotate_right
  · have gn : ∀ {m : Nat} {s : Sl}, (∀ d, s ≠ .pu d) → (ρ.set i (some (.pu d)))[m]? = some (some s) → i ≠ m ∧ ρ[m]? = some (some s) := fun {m s} hs z => by
      by_cases hm : i = m
      · subst hm
        by_cases hi : i < ρ.length
        · rw [List.getElem?_set_self hi] at z
          exact absurd (Option.some.inj (Option.some.inj z)).symm (hs d)
        · rw [List.getElem?_eq_none (by simpa using hi)] at z; cases z
      · rw [List.getElem?_set_ne hm] at z
        exact ⟨hm, z⟩
    obtain ⟨hj, q1⟩ := gn (fun _ z => by cases z) q
    obtain ⟨n1, n2, n3⟩ := S.ns j g q1
    exact ⟨n1.gr (List.getElem?_set_ne hj) fun _ _ _ z => z, fun k h z => n2 k h (gn (fun _ z => by cases z) z).2, fun k t ds z => n3 k t ds (gn (fun _ z => by cases z) z).2⟩
  · by_cases hj : i = j
    · subst hj
      by_cases hi : i < ρ.length
      · rw [List.getElem?_set_self hi] at q
        cases q
        exact ⟨v, List.getElem?_set_self (by rw [S.len]; exact hi), r, fun z => nomatch z⟩
      · rw [List.getElem?_eq_none (by simpa using hi)] at q; cases q
    · rw [List.getElem?_set_ne hj] at q
      obtain ⟨u, h1, h2⟩ := S.pu j m e q
      exact ⟨u, by rw [List.getElem?_set_ne hj]; exact h1, h2⟩
  · obtain ⟨hj, q⟩ := g q
    obtain ⟨p, xs, h1, h2⟩ := S.own j t ds q
    exact ⟨p, xs, by rw [List.getElem?_set_ne hj]; exact h1, h2⟩
  · obtain ⟨hj, q1⟩ := g e1
    obtain ⟨hk, q2⟩ := g e2
    rw [List.getElem?_set_ne hj] at e3
    rw [List.getElem?_set_ne hk]
    exact S.inj j k u u2 es fs p hjk q1 q2 e3
/-- a target: which slots it sets (of js) -/
def GtOk (K : PySem.W.Frag) (g : TG) (b : D → Env → Option Env) (js : List Nat) : Prop :=
  ∀ (τ : Nat → Addr) (A0 P : List Addr) (H : Hp) (σ : L2.St) (ρ ρ2 : Env) (v : V) (d : D), SRep K τ A0 H σ ρ P → Rp K (hid (P ++ A0) H) v d → b d ρ = some ρ2 →
    ∃ σ2, SRep K τ A0 H σ2 ρ2 P ∧ σ2.length = σ.length ∧ (∀ i, i ∉ js → σ2[i]? = σ[i]?) ∧ ∀ Q : L2.St → Hp → Prop, Q σ2 H → g v σ H Q
def bName (i : Nat) : D → Env → Option Env := fun d ρ => some (ρ.set i (some (.pu d)))
theorem gt_name {K : PySem.W.Frag} {i : Nat} : GtOk K (gName i) (bName i) [i] := fun τ A0 P H σ ρ ρ2 v d S r e => by
  cases e
  refine ⟨σ.set i (some v), S.put r i, List.length_set, fun j hj => ?_, fun Q q => q⟩
  rw [List.getElem?_set_ne (fun z => hj (by rw [z]; simp))]
def bList : List (D → Env → Option Env) → List D → Env → Option Env
  | [], [], ρ => some ρ
  | b :: bs, d :: ds, ρ => (b d ρ).bind (bList bs ds)
  | _, _, _ => none
def GtsOk (K : PySem.W.Frag) (g : TGs) (bs : List (D → Env → Option Env)) (js : List Nat) : Prop :=
  ∀ (τ : Nat → Addr) (A0 P : List Addr) (H : Hp) (σ : L2.St) (ρ ρ2 : Env) (vs : List V) (ds : List D), SRep K τ A0 H σ ρ P → Rps K (hid (P ++ A0) H) vs ds → bList bs ds ρ = some ρ2 →
    ∃ σ2, SRep K τ A0 H σ2 ρ2 P ∧ σ2.length = σ.length ∧ (∀ i, i ∉ js → σ2[i]? = σ[i]?) ∧ ∀ Q : L2.St → Hp → Prop, Q σ2 H → g vs σ H Q
theorem gts_nil {K : PySem.W.Frag} : GtsOk K gNil [] [] := fun τ A0 P H σ ρ ρ2 vs ds S r e => by
  cases ds with
  | nil =>
    cases e
    cases r
    exact ⟨σ, S, rfl, fun _ _ => rfl, fun Q q => ⟨rfl, q⟩⟩
  | cons d ds => cases e
theorem gts_cons {K : PySem.W.Frag} {g : TG} {gs : TGs} {b : D → Env → Option Env} {bs : List (D → Env → Option Env)} {js ks : List Nat} (h : GtOk K g b js) (hs : GtsOk K gs bs ks) : GtsOk K (gCons g gs) (b :: bs) (js ++ ks) := fun τ A0 P H σ ρ ρ2 vs ds S r e => by
  cases ds with
  | nil => cases e
  | cons d ds =>
    cases r with
    | cons r1 r2 =>
      unfold bList at e
      cases q : b d ρ with
      | none => rw [q] at e; cases e
      | some ρ1 =>
        rw [q] at e
        obtain ⟨σ1, S1, l1, o1, k1⟩ := h τ A0 P H σ ρ ρ1 _ d S r1 q
        obtain ⟨σ2, S2, l2, o2, k2⟩ := hs τ A0 P H σ1 ρ1 ρ2 _ ds S1 r2 e
        exact ⟨σ2, S2, l2.trans l1, fun i hi => (o2 i fun z => hi (List.mem_append_right _ z)).trans (o1 i fun z => hi (List.mem_append_left _ z)), fun Q q => ⟨_, _, rfl, k1 _ (k2 Q q)⟩⟩
def bTup (bs : List (D → Env → Option Env)) : D → Env → Option Env := fun d ρ => match d with
  | .tuple ds => bList bs ds ρ
  | _ => none
theorem bList_len : ∀ {bs : List (D → Env → Option Env)} {ds : List D} {ρ ρ2 : Env}, bList bs ds ρ = some ρ2 → ds.length = bs.length
  | [], [], _, _, _ => rfl
  | [], _ :: _, _, _, h => by cases h
  | _ :: _, [], _, _, h => by cases h
  | b :: bs, d :: ds, ρ, ρ2, h => by
    unfold bList at h
    cases q : b d ρ with
    | none => rw [q] at h; cases h
    | some ρ1 =>
      rw [q] at h
      simp [bList_len (bs := bs) (ds := ds) h]
theorem gt_tup {K : PySem.W.Frag} {gs : TGs} {bs : List (D → Env → Option Env)} {js : List Nat} {n : Nat} (h : GtsOk K gs bs js) (hn : bs.length = n := by rfl) : GtOk K (gTup K n gs) (bTup bs) js := fun τ A0 P H σ ρ ρ2 v d S r e => by
  cases d with
  | tuple ds =>
    obtain ⟨p, xs, rfl, h1, s1⟩ := rp_tup r
    have e : bList bs ds ρ = some ρ2 := e
    obtain ⟨σ2, S2, l2, o2, k2⟩ := h τ A0 P H σ ρ ρ2 xs ds S s1 e
    exact ⟨σ2, S2, l2, o2, fun Q q => ⟨p, xs, rfl, .inl (.inl h1), by rw [s1.length, bList_len e, hn], k2 Q q⟩⟩
  | _ => cases e
end DL
/-! D5: comprehensions, statements. -/
namespace DL
open PySem L2 PyProof.Rows

structure DTs (X : Cx) (E : XK) (ifs : List Expr) (f : Env → RE) : Prop where
  pts : PTs X ifs (tTest (tDE X.K E f))
section
variable {X : Cx} {E : XK}
theorem dts_nil : DTs X E [] (fC (.bool true)) := ⟨⟨fun pins s σ H Q I h => by
  obtain ⟨k, e, q⟩ := tde_c (K := X.K) (E := E) (fun _ => .bl true) h
  cases e
  exact pts_nil.run pins s σ H Q I q⟩⟩
theorem dts_one {c : Expr} {f : Env → RE} (h : DT X E c f) : DTs X E [c] f := ⟨pts_one h.pt⟩
end

def wipeE (ρ : Env) : List Nat → Env
  | [] => ρ
  | v :: vs => (wipeE ρ vs).set v none
theorem wipeE_len (ρ : Env) : ∀ vs, (wipeE ρ vs).length = ρ.length
  | [] => rfl
  | v :: vs => by unfold wipeE; rw [List.length_set, wipeE_len ρ vs]
theorem wipeE_some {ρ : Env} {i : Nat} {x : Sl} : ∀ {vs : List Nat}, (wipeE ρ vs)[i]? = some (some x) → ρ[i]? = some (some x) ∧ i ∉ vs
  | [], h => ⟨h, by simp⟩
  | v :: vs, h => by
    unfold wipeE at h
    by_cases hi : v = i
    · subst hi
      by_cases hv : v < (wipeE ρ vs).length
      · rw [List.getElem?_set_self hv] at h; cases h
      · rw [List.getElem?_eq_none (by simpa using hv)] at h; cases h
    · rw [List.getElem?_set_ne hi] at h
      obtain ⟨h1, h2⟩ := wipeE_some h
      exact ⟨h1, by simp only [List.mem_cons, not_or]; exact ⟨fun e => hi e.symm, h2⟩⟩
/-- the same slots but those of vs: what is known of the others stands -/
theorem SRep.wiped {K : PySem.W.Frag} {τ : Nat → Addr} {A0 P : List Addr} {H : Hp} {σ σ2 : L2.St} {ρ : Env} (S : SRep K τ A0 H σ ρ P) {vs : List Nat} (h : ∀ i, i ∉ vs → σ2[i]? = σ[i]?) (hl : σ2.length = σ.length) : SRep K τ A0 H σ2 (wipeE ρ vs) P := by
  refine ⟨fun i m d q => ?_, fun i t ds q => ?_, fun i j t u es fs p hij e1 e2 e3 => ?_, S.tr, by rw [hl, wipeE_len]; exact S.len, S.dj, S.tb, fun i g q => ?_⟩
  rotate_right
  · obtain ⟨q1, n⟩ := wipeE_some q
    obtain ⟨n1, n2, n3⟩ := S.ns i g q1
    exact ⟨n1.gr (h i n) fun _ _ _ z => z, fun j k z => n2 j k (wipeE_some z).1, fun j t ds z => n3 j t ds (wipeE_some z).1⟩
  · obtain ⟨q1, n⟩ := wipeE_some q
    rw [h i n]
    exact S.pu i m d q1
  · obtain ⟨q1, n⟩ := wipeE_some q
    rw [h i n]
    exact S.own i t ds q1
  · obtain ⟨q1, n1⟩ := wipeE_some e1
    obtain ⟨q2, n2⟩ := wipeE_some e2
    rw [h i n1] at e3
    rw [h j n2]
    exact S.inj i j t u es fs p hij q1 q2 e3

theorem wipe_in {σ : L2.St} {i : Nat} : ∀ {vs : List Nat}, i ∈ vs → i < σ.length → (wipe σ vs)[i]? = some none
  | [], h, _ => absurd h (by simp)
  | v :: vs, h, hl => by
    unfold wipe
    by_cases e : v = i
    · rw [e, List.getElem?_set_self (by rw [wipe_length]; exact hl)]
    · rw [List.getElem?_set_ne e]
      exact wipe_in ((List.mem_cons.mp h).resolve_left fun z => e z.symm) hl
theorem wipe_same {σ σ2 : L2.St} {vs : List Nat} (hl : σ2.length = σ.length) (h : ∀ i, i ∉ vs → σ2[i]? = (wipe σ vs)[i]?) : wipe σ2 vs = wipe σ vs := by
  apply List.ext_getElem?
  intro i
  by_cases hv : i ∈ vs
  · by_cases hi : i < σ.length
    · rw [wipe_in hv hi, wipe_in hv (by rw [hl]; exact hi)]
    · rw [List.getElem?_eq_none (by rw [wipe_length]; omega), List.getElem?_eq_none (by rw [wipe_length]; omega)]
  · rw [wipe_out hv]
    exact h i hv
/-- the turns of a comprehension -/
def lcGo (bind : D → Env → Option Env) (ft fe : Env → RE) (vs : List Nat) : List D → List D → Env → RE
  | [], acc, ρ => .ok (.frs acc) ρ
  | d :: r, acc, ρ => match bind d ρ with
    | none => .st
    | some ρ1 => match ft ρ1 with
      | .ok w ρ2 => (match w.d with
        | .bool true => (match fe ρ2 with
          | .ok w3 ρ3 => if acc.length < sizeLine then lcGo bind ft fe vs r (acc ++ [w3.d]) (wipeE ρ3 vs) else .st
          | _ => .st)
        | .bool false => lcGo bind ft fe vs r acc (wipeE ρ2 vs)
        | _ => .st)
      | _ => .st
def fLc (src : Env → RI) (bind : D → Env → Option Env) (ft fe : Env → RE) (vs : List Nat) : Env → RE := fun ρ => match src ρ with
  | .ok items ρ1 => lcGo bind ft fe vs items [] (wipeE ρ1 vs)
  | .err c d => .err c d
  | .st => .st
theorem lcGo_frs {bind : D → Env → Option Env} {ft fe : Env → RE} {vs : List Nat} : ∀ {l acc : List D} {ρ : Env}, lcGo bind ft fe vs l acc ρ = .st ∨ ∃ acc' ρ', lcGo bind ft fe vs l acc ρ = .ok (.frs acc') ρ'
  | [], acc, ρ => .inr ⟨acc, ρ, rfl⟩
  | d :: r, acc, ρ => by
    unfold lcGo
    cases bind d ρ with
    | none => exact .inl rfl
    | some ρ1 =>
      dsimp only
      cases ft ρ1 with
      | ok w ρ2 =>
        dsimp only
        split
        · split
          · split
            · exact lcGo_frs
            · exact .inl rfl
          · exact .inl rfl
        · exact lcGo_frs
        · exact .inl rfl
      | err c d => exact .inl rfl
      | st => exact .inl rfl
abbrev E0 : XK := fun _ _ _ => False
section
variable {K : PySem.W.Frag} {E : XK} {τ : Nat → Addr} {A0 P : List Addr} {H : Hp} {σ : L2.St} {ρ : Env} {Q : VK}
theorem hid_upd_in {A : List Addr} {p : Addr} {o : HO} (h : p ∈ A) : hid A (upd H p o) = hid A H := by
  funext a
  unfold hid
  by_cases e : a ∈ A
  · rw [if_pos e, if_pos e]
  · rw [if_neg e, if_neg e, upd_ne (fun z => e (by rw [z]; exact h))]
/-- a hidden list that is none of ours changes -/
theorem SRep.updH {p : Addr} {xs ys : List V} (S : SRep K τ A0 H σ ρ P) (hp : p ∈ A0) (hl : H p = some (.lst ys)) : SRep K τ A0 (L2.upd H p (.lst xs)) σ ρ P := by
  have np : p ∉ P := fun z => S.dj p z hp
  have e : hid (P ++ A0) (L2.upd H p (.lst xs)) = hid (P ++ A0) H := hid_upd_in (List.mem_append_right _ hp)
  refine ⟨fun i m d q => ?_, fun i t ds q => ?_, S.inj, fun a z n => ?_, S.len, S.dj, fun b hb => tab_lst hl (S.tb b hb), fun i g q => ⟨(S.ns i g q).1.gr rfl fun a ys hm z => by rw [upd_ne (fun w => np (by rw [← w]; exact hm))]; exact z, (S.ns i g q).2⟩⟩
  · rw [hid_upd_in (hs_mem (List.mem_append_right _ hp))]
    exact S.pu i m d q
  · rw [e]
    obtain ⟨b, ys, h1, h2, h3, h4⟩ := S.own i t ds q
    exact ⟨b, ys, h1, h2, by rw [upd_ne (fun z => np (by rw [← z]; exact h2))]; exact h3, h4⟩
  · by_cases ha : a = p
    · rw [ha, upd_same] at n; cases n
    · rw [upd_ne ha] at n
      exact S.tr a z n
theorem stp_upd {p : Addr} {o : HO} {H0 : Hp} {P0 : List Addr} (t : Stp K H0 P0 H P) (hp : H0 p = none) (hl : H p = none ∨ ∃ ys, H p = some (.lst ys)) : Stp K H0 P0 (L2.upd H p o) P := by
  refine ⟨fun a u n e nt => ?_, t.nw, fun a e => ?_, fun z b hb => hl.elim (fun h => tab_none h (t.tb z b hb)) fun ⟨ys, h⟩ => tab_lst h (t.tb z b hb)⟩
  · rw [upd_ne (ne_of_none e hp)]
    exact t.kp a u n e nt
  · by_cases ha : a = p
    · rw [ha, upd_same] at e; cases e
    · rw [upd_ne ha] at e
      exact t.al a e
/-- one element of a comprehension -/
theorem cde_any {f : Env → RE} {w : W} {ρ2 : Env} {R : VK} (S : SRep K τ A0 H σ ρ P) (e : f ρ = .ok w ρ2) (h : ∀ v H' P', Stp K H P H' P' → SRep K τ A0 H' σ ρ2 P' → Rp K (hid (P' ++ A0) H') v w.d → R v H') : tDE K E f σ H R := by
  refine ⟨τ, A0, P, ρ, S, CDE.toD ?_⟩
  rw [e]
  exact h
theorem lc_of {src : Env → RI} {bind : D → Env → Option Env} {ft fe : Env → RE} {vs : List Nat} {g : TG} {js : List Nat} (hg : GtOk K g bind js) (hjs : ∀ j ∈ js, j ∈ vs)
    (h : tDE K E (fLc src bind ft fe vs) σ H Q) : tLc (tDI K E src) g (tTest (tDE K E0 ft)) (tDE K E0 fe) vs σ H Q := by
  obtain ⟨τ, A0, P, ρ, S, c⟩ := h
  refine ⟨τ, A0, P, ρ, S, ?_⟩
  unfold fLc at c
  cases q : src ρ with
  | err cc d => rw [q] at c; exact c
  | st => rw [q] at c; exact c
  | ok items ρ1 =>
    rw [q] at c
    dsimp only at c
    intro J H1 P1 t1 S1 wk Dl hD
    rcases lcGo_frs (bind := bind) (ft := ft) (fe := fe) (vs := vs) (l := items) (acc := []) (ρ := wipeE ρ1 vs) with e | ⟨accF, ρF, e⟩
    · rw [e] at c; exact c.elim
    rw [e] at c
    have c : ∀ p xs H' P', Stp K H P H' P' → H p = none → p ∉ P' → p ∉ A0 → SRep K τ (p :: A0) H' σ ρF P' → H' p = some (.lst xs) → Rps K (hid (P' ++ p :: A0) H') xs accF → Q (.ref p) H' := c
    have hD0 : H Dl = none := t1.al Dl hD
    obtain ⟨nP, nA⟩ := S1.fresh hD
    have tD : Stp K H1 P1 (L2.upd H1 Dl (.lst [])) P1 := stp_upd (Stp.rfl H1 P1) hD (.inl hD)
    have len_w : ∀ σ' : L2.St, σ'.length = σ.length → (wipe σ' vs).length = σ.length := fun σ' z => by rw [wipe_length]; exact z
    have S2 : SRep K τ (Dl :: A0) (L2.upd H1 Dl (.lst [])) (wipe σ vs) (wipeE ρ1 vs) P1 := (S1.addHid hD (Ext.gr (Evl.Ex.new hD)) (by rw [upd_same]; exact fun z => nomatch z)).wiped (fun i hi => wipe_out hi) (wipe_length σ vs)
    have hA1 : ∀ a ∈ Dl :: A0, a ∈ A0 ∨ H1 a = none := fun a z => (List.mem_cons.mp z).elim (fun z => .inr (by rw [z]; exact hD)) .inl
    refine ⟨fun i m H' => m = items.length - i ∧ i ≤ items.length ∧ ∃ acc ρ' P' xs, SRep K τ (Dl :: A0) H' (wipe σ vs) ρ' P' ∧ Stp K H1 P1 H' P' ∧ H' Dl = some (.lst xs) ∧ Rps K (hid (P' ++ Dl :: A0) H') xs acc ∧ lcGo bind ft fe vs (items.drop i) acc ρ' = .ok (.frs accF) ρF,
      ⟨_, rfl, Nat.zero_le _, [], wipeE ρ1 vs, P1, [], S2, tD, upd_same, .nil, e⟩, ?_⟩
    rintro i m H' ⟨rfl, hi, acc, ρ', P', xs, S3, t3, h3, r3, e3⟩
    obtain ⟨w1, w2⟩ := wk (Dl :: A0) i H' P' hA1 t3
    cases q2 : items[i]? with
    | none =>
      have hle : items.length ≤ i := List.getElem?_eq_none_iff.mp q2
      refine .inl ⟨w2 hle, ?_⟩
      rw [List.drop_eq_nil_of_le hle] at e3
      have e4 : acc = accF ∧ ρ' = ρF := by
        unfold lcGo at e3
        injection e3 with a b
        injection a with a
        exact ⟨a, b⟩
      obtain ⟨rfl, rfl⟩ := e4
      refine c Dl xs H' P' (t1.trans t3) hD0 (fun z => S3.dj Dl z List.mem_cons_self) nA ?_ h3 r3
      -- the slots of σ: those of the wiped one, and nothing told of vs
      refine ⟨fun j m d z => ?_, fun j t ds z => ?_, fun j k t u es fs p hjk z1 z2 z3 => ?_, S3.tr, by rw [← wipe_length σ vs]; exact S3.len, S3.dj, S3.tb, fun j g z => ?_⟩
      rotate_right
      · obtain ⟨⟨p, qs, n1, n2⟩, n3⟩ := S3.ns j g z
        exact ⟨⟨p, qs, (wipe_some n1).1, n2⟩, n3⟩
      · obtain ⟨v, a1, a2⟩ := S3.pu j m d z
        exact ⟨v, (wipe_some a1).1, a2⟩
      · obtain ⟨p, ys, a1, a2⟩ := S3.own j t ds z
        exact ⟨p, ys, (wipe_some a1).1, a2⟩
      · obtain ⟨p1, _, b1, _⟩ := S3.own j t es z1
        obtain ⟨p2, _, b2, _⟩ := S3.own k u fs z2
        have c1 := (wipe_some b1).1
        have c2 := (wipe_some b2).1
        rw [z3] at c1
        cases c1
        intro z4
        rw [z4] at c2
        cases c2
        exact S3.inj j k t u es fs p hjk z1 z2 b1 b2
    | some d =>
      have hlt : i < items.length := (List.getElem?_eq_some_iff.mp q2).1
      obtain ⟨go, yl⟩ := w1 d q2
      have ed : items.drop i = d :: items.drop (i + 1) := by
        rw [List.drop_eq_getElem_cons hlt, (List.getElem?_eq_some_iff.mp q2).2]
      rw [ed] at e3
      unfold lcGo at e3
      refine .inr ⟨go, fun H4 => ∃ acc ρ' P' xs, SRep K τ (Dl :: A0) H4 (wipe σ vs) ρ' P' ∧ Stp K H1 P1 H4 P' ∧ H4 Dl = some (.lst xs) ∧ Rps K (hid (P' ++ Dl :: A0) H4) xs acc ∧ lcGo bind ft fe vs (items.drop (i + 1)) acc ρ' = .ok (.frs accF) ρF,
        fun H4 ⟨acc4, ρ4, P4, xs4, k1, k2, k3, k4, k5⟩ => ⟨items.length - (i + 1), by omega, rfl, hlt, acc4, ρ4, P4, xs4, k1, k2, k3, k4, k5⟩, fun x H4 y => ?_⟩
      obtain ⟨ex, rx⟩ := yl x H4 y
      have rx := rx S3.tr
      have S4 := S3.grow ex.gr
      have t4 : Stp K H' P' H4 P' := Stp.ext ex
      cases q3 : bind d ρ' with
      | none => rw [q3] at e3; cases e3
      | some ρ5 =>
        rw [q3] at e3
        dsimp only at e3
        obtain ⟨σ5, S5, l5, o5, k5⟩ := hg τ (Dl :: A0) P' H4 (wipe σ vs) ρ' ρ5 x d S4 rx q3
        refine k5 _ ?_
        rw [wipe_length] at l5
        have w5 : wipe σ5 vs = wipe σ vs := wipe_same l5 fun j hj => o5 j fun z => hj (hjs j z)
        refine ⟨w5, ?_⟩
        have np : Dl ∉ P' := fun z => S3.dj Dl z List.mem_cons_self
        cases q4 : ft ρ5 with
        | err cc dd => rw [q4] at e3; cases e3
        | st => rw [q4] at e3; cases e3
        | ok wt ρ6 =>
          rw [q4] at e3
          dsimp only at e3
          refine cde_any S5 q4 fun v6 H6 P6 t6 S6 r6 => ?_
          have h6 : H6 Dl = some (.lst xs) := t6.kp Dl _ np (ex _ _ h3) (fun _ z => nomatch z)
          have r36 : Rps K (hid (P6 ++ Dl :: A0) H6) xs acc := r3.stp (t4.trans t6)
          split at e3
          · rename_i qb
            rw [qb] at r6
            refine ⟨true, rp_bool r6, iteT ?_⟩
            cases q5 : fe ρ6 with
            | err cc dd => rw [q5] at e3; cases e3
            | st => rw [q5] at e3; cases e3
            | ok we ρ7 =>
              rw [q5] at e3
              dsimp only at e3
              by_cases hz : acc.length < sizeLine
              · rw [if_pos hz] at e3
                refine cde_any S6 q5 fun v7 H7 P7 t7 S7 r7 => ?_
                have np6 : Dl ∉ P6 := fun z => S6.dj Dl z List.mem_cons_self
                have h7 : H7 Dl = some (.lst xs) := t7.kp Dl _ np6 h6 (fun _ z => nomatch z)
                have r37 : Rps K (hid (P7 ++ Dl :: A0) H7) xs acc := r36.stp t7
                have eh : hid (P7 ++ Dl :: A0) (L2.upd H7 Dl (.lst (xs ++ [v7]))) = hid (P7 ++ Dl :: A0) H7 := hid_upd_in (List.mem_append_right _ List.mem_cons_self)
                refine ⟨xs, h7, by rw [r37.length]; exact hz, acc ++ [we.d], wipeE ρ7 vs, P7, xs ++ [v7], ?_, stp_upd (t3.trans (t4.trans (t6.trans t7))) hD (.inr ⟨_, h7⟩), upd_same, ?_, e3⟩
                · exact (S7.updH List.mem_cons_self h7).wiped (fun j hj => by rw [wipe_out hj, o5 j fun z => hj (hjs j z), wipe_out hj]) (by rw [wipe_length]; exact l5.symm)
                · rw [eh]
                  exact r37.app (.one r7)
              · rw [if_neg hz] at e3
                cases e3
          · rename_i qb
            rw [qb] at r6
            refine ⟨false, rp_bool r6, iteF ?_⟩
            refine ⟨acc, wipeE ρ6 vs, P6, xs, ?_, t3.trans (t4.trans t6), h6, r36, e3⟩
            exact S6.wiped (fun j hj => by rw [wipe_out hj, o5 j fun z => hj (hjs j z), wipe_out hj]) (by rw [wipe_length]; exact l5.symm)
          · cases e3
end
section
variable {X : Cx} {E : XK} {elt tg iter : Expr} {ifs : List Expr} {scope : Scope} {own : List (Str × Nat)} {pos : Pos} {src : Env → RI} {bind : D → Env → Option Env} {ft fe : Env → RE} {g : TG} {js : List Nat}
/-- [elt for tg in iter if ifs] -/
theorem de_lc (hc : X.calm = true) (hN : X.N.Nodup) (hi : DI X E tg iter src) (ok : BlkOk X.N X.env.scope scope own) (hb : GtOk X.K g bind js) (hjs : ∀ j ∈ js, j ∈ own.map (·.2))
    (hg : ∀ (s : Shared) (H : Hp) (C : Addr) (cl : List (Str × Addr)) (fp : List Addr), PG (X.blk s H scope (compEnvC scope cl C X.env) fp) tg g) (ht : ∀ (s : Shared) (H : Hp) (C : Addr) (cl : List (Str × Addr)) (fp : List Addr), DTs (X.blk s H scope (compEnvC scope cl C X.env) fp) E0 ifs ft)
    (he : ∀ (s : Shared) (H : Hp) (C : Addr) (cl : List (Str × Addr)) (fp : List Addr), DE (X.blk s H scope (compEnvC scope cl C X.env) fp) E0 elt fe) (hs : ∀ x, foldedSetIterable iter X.env x = pure x := by intro _; rfl) :
    DE X E (.ListComp elt [⟨tg, iter, ifs, 0⟩] scope pos) (fLc src bind ft fe (own.map (·.2))) :=
  ⟨PE.weak (pe_lc hc hN hi.pi ok hg (fun s H C cl fp => (ht s H C cl fp).pts) (fun s H C cl fp => (he s H C cl fp).pe) hs) fun σ H Q h => lc_of hb hjs h⟩
end
end DL
/-! D6: statements. -/
namespace DL
open PySem L2 PyProof.Rows

inductive RS where
  | nx (ρ : Env)
  | ret (w : W) (ρ : Env)
  | bk (ρ : Env)
  | ct (ρ : Env)
  | err (c : Addr) (d : D)
  | st
/-- what follows a statement of that outcome -/
def CDS (K : PySem.W.Frag) (E : XK) (τ : Nat → Addr) (A0 : List Addr) (H : Hp) (P : List Addr) (o : RS) (Dn : Ends) : Prop :=
  match o with
  | .nx ρ' => ∀ σ' H' P', Stp K H P H' P' → SRep K τ A0 H' σ' ρ' P' → Dn.nx σ' H'
  | .bk ρ' => ∀ σ' H' P', Stp K H P H' P' → SRep K τ A0 H' σ' ρ' P' → Dn.bk σ' H'
  | .ct ρ' => ∀ σ' H' P', Stp K H P H' P' → SRep K τ A0 H' σ' ρ' P' → Dn.ct σ' H'
  | .ret (.pu d) ρ' => ∀ v σ' H' P', Stp K H P H' P' → SRep K τ A0 H' σ' ρ' P' → Rp K (hid (P' ++ A0) H') v d → Dn.rt v H'
  | .ret (.frs ds) ρ' => ∀ p xs σ' H' P', Stp K H P H' P' → (p ∈ P ∨ H p = none) → p ∉ P' → p ∉ A0 → SRep K τ (p :: A0) H' σ' ρ' P' → H' p = some (.lst xs) → Rps K (hid (P' ++ p :: A0) H') xs ds → Dn.rt (.ref p) H'
  | .err c d => ∀ dx v H' P', Stp K H P H' P' → (H dx = none ∧ H' dx = some (.xd [(("value" : Str), v)])) → Rp K (hid (P' ++ A0) H') v d → E (.ref c) (some dx) H'
  | .st => False
def tDS (K : PySem.W.Frag) (E : XK) (f : Env → RS) : TS := fun Dn σ H => ∃ τ A0 P ρ, SRep K τ A0 H σ ρ P ∧ CDS K E τ A0 H P (f ρ) Dn
structure DS (X : Cx) (E : XK) (s : Stmt) (f : Env → RS) : Prop where
  ps : PS X s (tDS X.K E f)
structure DSs (X : Cx) (E : XK) (s : List Stmt) (f : Env → RS) : Prop where
  pss : PSs X s (tDS X.K E f)
def sSeq (f g : Env → RS) : Env → RS := fun ρ => match f ρ with
  | .nx ρ1 => g ρ1
  | o => o
section
variable {K : PySem.W.Frag} {E : XK} {τ : Nat → Addr} {A0 P : List Addr} {H : Hp} {σ : L2.St} {ρ : Env} {Dn : Ends}
theorem CDS.stp {o : RS} {H' : Hp} {P' : List Addr} (t : Stp K H P H' P') (h : CDS K E τ A0 H P o Dn) : CDS K E τ A0 H' P' o Dn := by
  cases o with
  | nx ρ' => exact fun σ' H2 P2 t2 S => h σ' H2 P2 (t.trans t2) S
  | bk ρ' => exact fun σ' H2 P2 t2 S => h σ' H2 P2 (t.trans t2) S
  | ct ρ' => exact fun σ' H2 P2 t2 S => h σ' H2 P2 (t.trans t2) S
  | ret w ρ' =>
    cases w with
    | pu d => exact fun v σ' H2 P2 t2 S r => h v σ' H2 P2 (t.trans t2) S r
    | frs ds => exact fun p xs σ' H2 P2 t2 hn n1 n2 S hl hr => h p xs σ' H2 P2 (t.trans t2) (hn.elim (t.nw p) fun z => .inr (t.al p z)) n1 n2 S hl hr
  | err c d => exact fun dx v H2 P2 t2 hx hr => h dx v H2 P2 (t.trans t2) ⟨t.al _ hx.1, hx.2⟩ hr
  | st => exact h
/-- with another next -/
theorem CDS.next {o : RS} {D2 : Ends} (h : CDS K E τ A0 H P o D2) (hr : D2.rt = Dn.rt) (hb : D2.bk = Dn.bk) (hc : D2.ct = Dn.ct) (hn : ∀ ρ', o = .nx ρ' → CDS K E τ A0 H P o Dn) : CDS K E τ A0 H P o Dn := by
  cases o with
  | nx ρ' => exact hn ρ' rfl
  | bk ρ' => exact fun σ' H' P' t S => by rw [← hb]; exact h σ' H' P' t S
  | ct ρ' => exact fun σ' H' P' t S => by rw [← hc]; exact h σ' H' P' t S
  | ret w ρ' =>
    cases w with
    | pu d => exact fun v σ' H' P' t S r => by rw [← hr]; exact h v σ' H' P' t S r
    | frs ds => exact fun p xs σ' H' P' t n n1 n2 S hl r => by rw [← hr]; exact h p xs σ' H' P' t n n1 n2 S hl r
  | err c d => exact h
  | st => exact h
theorem seq_of {f g : Env → RS} (h : tDS K E (sSeq f g) Dn σ H) : tSeq (tDS K E f) (tDS K E g) Dn σ H := by
  obtain ⟨τ, A0, P, ρ, S, c⟩ := h
  refine ⟨τ, A0, P, ρ, S, ?_⟩
  unfold sSeq at c
  cases q : f ρ with
  | nx ρ1 =>
    rw [q] at c
    exact fun σ' H' P' t S' => ⟨τ, A0, P', ρ1, S', CDS.stp t c⟩
  | bk ρ' => rw [q] at c; exact c
  | ct ρ' => rw [q] at c; exact c
  | ret w ρ' =>
    rw [q] at c
    cases w with
    | pu d => exact c
    | frs ds => exact c
  | err cc d => rw [q] at c; exact c
  | st => rw [q] at c; exact c
theorem tds_nx (h : tDS K E .nx Dn σ H) : Dn.nx σ H := by
  obtain ⟨τ, A0, P, ρ, S, c⟩ := h
  exact c σ H P (Stp.rfl H P) S
end
section
variable {X : Cx} {E : XK} {s : Stmt} {rest a b : List Stmt} {e : Expr} {f g : Env → RS} {fe fc : Env → RE} {pos : Pos}
theorem dss_nil : DSs X E [] .nx := ⟨PSs.weak pss_nil fun _ _ _ h => tds_nx h⟩
theorem dss_cons (h1 : DS X E s f) (h2 : DSs X E rest g) : DSs X E (s :: rest) (sSeq f g) := ⟨PSs.weak (pss_cons h1.ps h2.pss) fun _ _ _ h => seq_of h⟩
theorem dss_one (h1 : DS X E s f) : DSs X E [s] f := ⟨pss_one h1.ps⟩
theorem ds_pass : DS X E (.Pass pos) .nx := ⟨PS.weak ps_pass fun _ _ _ h => tds_nx h⟩
theorem ds_break : DS X E (.Break pos) .bk := ⟨PS.weak ps_break fun Dn σ H ⟨τ, A0, P, ρ, S, c⟩ => c σ H P (Stp.rfl H P) S⟩
theorem ds_continue : DS X E (.Continue pos) .ct := ⟨PS.weak ps_continue fun Dn σ H ⟨τ, A0, P, ρ, S, c⟩ => c σ H P (Stp.rfl H P) S⟩
/-- an expression, then what its value makes -/
def sE (fa : Env → RE) (k : W → Env → RS) : Env → RS := fun ρ => match fa ρ with
  | .ok w ρ1 => k w ρ1
  | .err c d => .err c d
  | .st => .st
def sDrop (fa : Env → RE) : Env → RS := sE fa fun _ ρ => .nx ρ
def sRet (fa : Env → RE) : Env → RS := sE fa fun w ρ => .ret w ρ
/-- return x, x an own list: it goes out as a new one -/
def sIf (fc : Env → RE) (f g : Env → RS) : Env → RS := sE fc fun w ρ => match w.d with
  | .bool true => f ρ
  | .bool false => g ρ
  | _ => .st
def sPut (i : Nat) (fa : Env → RE) : Env → RS := sE fa fun w ρ => .nx (ρ.set i (some (.pu w.d)))
theorem ds_drop (he : DE X E e fe) (hs : swapsWith e none pos.line X.env = pure false := by rfl) : DS X E (.Expr e pos) (sDrop fe) := by
  refine ⟨PS.weak (ps_expr he.pe hs) fun Dn σ H ⟨τ, A0, P, ρ, S, c⟩ => ⟨τ, A0, P, ρ, S, CDE.toD ?_⟩⟩
  unfold sDrop sE at c
  cases q : fe ρ with
  | ok w ρ1 => rw [q] at c; exact fun v H' P' t S' r => c σ H' P' t S'
  | err cc d => rw [q] at c; exact c
  | st => rw [q] at c; exact c
theorem ds_ret (he : DE X E e fe) : DS X E (.Return (some e) pos) (sRet fe) := by
  refine ⟨PS.weak (ps_ret he.pe) fun Dn σ H ⟨τ, A0, P, ρ, S, c⟩ => ⟨τ, A0, P, ρ, S, ?_⟩⟩
  unfold sRet sE at c
  cases q : fe ρ with
  | ok w ρ1 =>
    rw [q] at c
    cases w with
    | pu d => exact fun v H' P' t S' r => c v σ H' P' t S' r
    | frs ds => exact fun p xs H' P' t n n1 n2 S' hl r => c p xs σ H' P' t (.inr n) n1 n2 S' hl r
  | err cc d => rw [q] at c; exact c
  | st => rw [q] at c; exact c
theorem ds_retN : DS X E (.Return none pos) fun ρ => .ret (.pu .none) ρ :=
  ⟨PS.weak ps_retN fun Dn σ H ⟨τ, A0, P, ρ, S, c⟩ => c .non σ H P (Stp.rfl H P) S .non⟩
theorem ds_put {i : Nat} {x : Str} {pos' : Pos} (hN : X.N.Nodup) (hi : X.N[i]? = some x) (hx : Loc X.env.scope x) (he : DE X E e fe) (hs : swapsWith e (some (.Name x pos')) pos.line X.env = pure false := by rfl) (hf : X.fn x = true ∨ X.env.scope.names.lookup x = some .local := by first | exact .inl rfl | exact .inr rfl | assumption) :
    DS X E (.Assign [.Name x pos'] e pos) (sPut i fe) := by
  refine ⟨PS.weak (ps_set hN hi hx he.pe hs hf) fun Dn σ H ⟨τ, A0, P, ρ, S, c⟩ => ⟨τ, A0, P, ρ, S, CDE.toD ?_⟩⟩
  unfold sPut sE at c
  cases q : fe ρ with
  | ok w ρ1 => rw [q] at c; exact fun v H' P' t S' r => c _ H' P' t (S'.put r i)
  | err cc d => rw [q] at c; exact c
  | st => rw [q] at c; exact c
theorem ds_if {c : Expr} (hc : DT X E c fc) (ha : DSs X E a f) (hb : DSs X E b g) : DS X E (.If c a b pos) (sIf fc f g) := by
  refine ⟨PS.weak (ps_if hc.pt ha.pss hb.pss) fun Dn σ H ⟨τ, A0, P, ρ, S, cc⟩ => ⟨τ, A0, P, ρ, S, CDE.toD ?_⟩⟩
  unfold sIf sE at cc
  cases q : fc ρ with
  | ok w ρ1 =>
    rw [q] at cc
    dsimp only at cc
    intro v H' P' t S' r
    split at cc
    · rename_i qb
      rw [qb] at r
      exact ⟨true, rp_bool r, iteT ⟨τ, A0, P', ρ1, S', CDS.stp t cc⟩⟩
    · rename_i qb
      rw [qb] at r
      exact ⟨false, rp_bool r, iteF ⟨τ, A0, P', ρ1, S', CDS.stp t cc⟩⟩
    · exact cc.elim
  | err ec d => rw [q] at cc; exact cc
  | st => rw [q] at cc; exact cc
end

/-! ### an own list: made, grown, stored into -/
section
variable {K : PySem.W.Frag} {E : XK} {τ : Nat → Addr} {A0 P : List Addr} {H : Hp} {σ : L2.St} {ρ : Env} {Dn : Ends}
/-- a slot is forgotten -/
theorem SRep.off (S : SRep K τ A0 H σ ρ P) (i : Nat) (o : Option V) : SRep K τ A0 H (σ.set i o) (ρ.set i none) P := by
  have g : ∀ {m : Nat} {s : Sl}, (ρ.set i none)[m]? = some (some s) → i ≠ m ∧ ρ[m]? = some (some s) := fun {m s} z => by
    by_cases hm : i = m
    · subst hm
      by_cases hi : i < ρ.length
      · rw [List.getElem?_set_self hi] at z; cases z
      · rw [List.getElem?_eq_none (by simpa using hi)] at z; cases z
    · rw [List.getElem?_set_ne hm] at z
      exact ⟨hm, z⟩
  refine ⟨fun j m d q => ?_, fun j t ds q => ?_, fun j k t u es fs p hjk e1 e2 e3 => ?_, S.tr, by simpa using S.len, S.dj, S.tb, fun j g2 q => ?_⟩
  rotate_right
  · obtain ⟨hj, q1⟩ := g q
    obtain ⟨n1, n2, n3⟩ := S.ns j g2 q1
    exact ⟨n1.gr (List.getElem?_set_ne hj) fun _ _ _ z => z, fun k h z => n2 k h (g z).2, fun k t ds z => n3 k t ds (g z).2⟩
  · obtain ⟨hj, q⟩ := g q
    rw [List.getElem?_set_ne hj]
    exact S.pu j m d q
  · obtain ⟨hj, q⟩ := g q
    rw [List.getElem?_set_ne hj]
    exact S.own j t ds q
  · obtain ⟨hj, q1⟩ := g e1
    obtain ⟨hk, q2⟩ := g e2
    rw [List.getElem?_set_ne hj] at e3
    rw [List.getElem?_set_ne hk]
    exact S.inj j k t u es fs p hjk q1 q2 e3
/-- the slot's own list goes out -/
theorem SRep.out (S : SRep K τ A0 H σ ρ P) {i : Nat} {t : Nat} {ds : List D} (hi : ρ[i]? = some (some (.own t ds))) :
    ∃ p xs P', σ[i]? = some (some (.ref p)) ∧ p ∈ P ∧ p ∉ P' ∧ p ∉ A0 ∧ (∀ a ∈ P', a ∈ P) ∧ H p = some (.lst xs) ∧ SRep K τ (p :: A0) H (σ.set i none) (ρ.set i none) P' ∧ Rps K (hid (P' ++ p :: A0) H) xs ds := by
  obtain ⟨p, xs, h1, h2, h3, h4, h5⟩ := S.own i t ds hi
  have hA : p ∉ A0 := S.dj p h2
  have T := S.off i none
  have hl : i < ρ.length := (List.getElem?_eq_some_iff.mp hi).1
  have e : hid (P.filter (fun a => decide (a ≠ p)) ++ p :: A0) H = hid (P ++ A0) H := hid_swap fun a => by
    simp only [List.mem_append, List.mem_cons, List.mem_filter, decide_eq_true_eq]
    constructor
    · rintro (z | z | z)
      · exact .inl z.1
      · exact .inl (by rw [z]; exact h2)
      · exact .inr z
    · rintro (z | z)
      · by_cases ea : a = p
        · exact .inr (.inl ea)
        · exact .inl ⟨z, ea⟩
      · exact .inr (.inr z)
  refine ⟨p, xs, P.filter (fun a => decide (a ≠ p)), h1, h2, fun z => (of_decide_eq_true (List.mem_filter.mp z).2) rfl, hA, fun a z => (List.mem_filter.mp z).1, h3, ⟨fun j m d q => ?_, fun j u es q => ?_, T.inj, fun a z => ?_, T.len, fun q hq z => ?_, T.tb, fun j g q => ?_⟩, by rw [e]; exact h4⟩
  rotate_right
  · by_cases hj : i = j
    · subst hj
      rw [List.getElem?_set_self hl] at q
      cases q
    · rw [List.getElem?_set_ne hj] at q
      exact absurd hi ((S.ns j g q).2.2 i t ds)
  · rw [hs_eq e]
    exact T.pu j m d q
  · rw [e]
    obtain ⟨b, ys, b1, b2, b3, b4, b5⟩ := T.own j u es q
    have hj : i ≠ j := fun z => by
      subst z
      rw [List.getElem?_set_self hl] at q
      cases q
    refine ⟨b, ys, b1, List.mem_filter.mpr ⟨b2, decide_eq_true fun z => ?_⟩, b3, b4, b5⟩
    subst z
    rw [List.getElem?_set_ne hj] at q b1
    exact S.inj i j t u ds es b hj hi q h1 b1
  · rcases List.mem_append.mp z with z | z
    · exact S.tr a (List.mem_append_left _ (List.mem_filter.mp z).1)
    · rcases List.mem_cons.mp z with z | z
      · rw [z, h3]; exact fun q => nomatch q
      · exact S.tr a (List.mem_append_right _ z)
  · rcases List.mem_cons.mp z with z | z
    · exact (of_decide_eq_true (List.mem_filter.mp hq).2) z
    · exact S.dj q (List.mem_filter.mp hq).1 z
/-- a hidden new list becomes the slot's own -/
theorem SRep.own_ {p : Addr} {xs : List V} {ds : List D} (S : SRep K τ (p :: A0) H σ ρ P) (hA : p ∉ A0) (h : H p = some (.lst xs)) (r : Rps K (hid (P ++ p :: A0) H) xs ds) (i : Nat) (hnn : noN ρ = true) : SRep K τ A0 H (σ.set i (some (.ref p))) (ρ.set i (some (.own 0 ds))) (p :: P) := by
  have T := S.off i (some (.ref p))
  have e : hid (P ++ p :: A0) H = hid (p :: P ++ A0) H := hid_swap fun a => by
    simp only [List.mem_append, List.mem_cons, List.cons_append]
    constructor
    · rintro (z | z | z)
      · exact .inr (.inl z)
      · exact .inl z
      · exact .inr (.inr z)
    · rintro (z | z | z)
      · exact .inr (.inl z)
      · exact .inl z
      · exact .inr (.inr z)
  have nP : p ∉ P := fun z => S.dj p z List.mem_cons_self
  have old : ∀ {m : Nat} {s : Sl}, i ≠ m → (ρ.set i (some (.own 0 ds)))[m]? = some (some s) → (ρ.set i Option.none)[m]? = some (some s) := fun {m s} hm z => by
    rw [List.getElem?_set_ne hm] at z ⊢
    exact z
  have oldσ : ∀ {m : Nat} {q : Addr} {t : Nat} {gs : List D}, i ≠ m → (ρ.set i Option.none)[m]? = some (some (.own t gs)) → (σ.set i (some (.ref p)))[m]? = some (some (.ref q)) → q ≠ p := fun {m q t gs} hm z1 z2 z3 => by
    obtain ⟨p2, _, b1, b2, _⟩ := T.own m t gs z1
    rw [b1] at z2
    cases z2
    exact nP (by rw [← z3]; exact b2)
  have atI_ : ∀ {s : Sl}, (ρ.set i (some (.own 0 ds)))[i]? = some (some s) → i < ρ.length ∧ s = .own 0 ds := fun {s} z => by
    by_cases hi : i < ρ.length
    · rw [List.getElem?_set_self hi] at z
      exact ⟨hi, (Option.some.inj (Option.some.inj z)).symm⟩
    · rw [List.getElem?_eq_none (by simpa using hi)] at z; cases z
  refine ⟨fun j m d q => ?_, fun j t es q => ?_, fun j k t u es fs b hjk e1 e2 e3 e4 => ?_, fun a z => ?_, by simpa using S.len, fun q hq z => ?_, S.tb, fun j g q => ?_⟩
  rotate_right
  · by_cases hj : i = j
    · subst hj
      exact nomatch (atI_ q).2
    · rw [List.getElem?_set_ne hj] at q
      exact (noN_of hnn q).elim
  · by_cases hj : i = j
    · subst hj
      exact nomatch (atI_ q).2
    · obtain ⟨v, b1, b2⟩ := T.pu j m d (old hj q)
      exact ⟨v, b1, by rw [← hs_eq e]; exact b2⟩
  · by_cases hj : i = j
    · subst hj
      obtain ⟨hi, q2⟩ := atI_ q
      cases q2
      exact ⟨p, xs, List.getElem?_set_self (by rw [S.len]; exact hi), List.mem_cons_self, h, by rw [← e]; exact r, .inl rfl⟩
    · obtain ⟨b, ys, b1, b2, b3, b4, b5⟩ := T.own j t es (old hj q)
      exact ⟨b, ys, b1, List.mem_cons_of_mem _ b2, b3, by rw [← e]; exact b4, b5⟩
  · by_cases hj : i = j
    · subst hj
      obtain ⟨hi, _⟩ := atI_ e1
      rw [List.getElem?_set_self (by rw [S.len]; exact hi)] at e3
      cases e3
      exact oldσ hjk (old hjk e2) e4 rfl
    · by_cases hk : i = k
      · subst hk
        obtain ⟨hi, _⟩ := atI_ e2
        rw [List.getElem?_set_self (by rw [S.len]; exact hi)] at e4
        cases e4
        exact oldσ hj (old hj e1) e3 rfl
      · exact T.inj j k t u es fs b hjk (old hj e1) (old hk e2) e3 e4
  · rcases List.mem_cons.mp z with z | z
    · rw [z, h]; exact fun q => nomatch q
    · rcases List.mem_append.mp z with z | z
      · exact S.tr a (List.mem_append_left _ z)
      · exact S.tr a (List.mem_append_right _ (List.mem_cons_of_mem _ z))
  · rcases List.mem_cons.mp hq with q2 | q2
    · rw [q2] at z; exact hA z
    · exact S.dj q q2 (List.mem_cons_of_mem _ z)
/-- an own list of ours changes: its items are borne -/
theorem SRep.chg {i t : Nat} {ds es : List D} {p : Addr} {ys : List V} (S : SRep K τ A0 H σ ρ P) (hi : ρ[i]? = some (some (.own t ds))) (hp : σ[i]? = some (some (.ref p))) (r : Rps K (hid (P ++ A0) H) ys es) :
    SRep K τ A0 (L2.upd H p (.lst ys)) σ (ρ.set i (some (.own t es))) P ∧ p ∈ P := by
  obtain ⟨p2, xs, b1, b2, b3, b4, b5⟩ := S.own i t ds hi
  rw [hp] at b1
  cases b1
  have hl : i < ρ.length := (List.getElem?_eq_some_iff.mp hi).1
  have e : hid (P ++ A0) (L2.upd H p (.lst ys)) = hid (P ++ A0) H := hid_upd_in (List.mem_append_left _ b2)
  have back : ∀ {j u : Nat} {gs : List D}, (ρ.set i (some (.own t es)))[j]? = some (some (.own u gs)) → ∃ hs, ρ[j]? = some (some (.own u hs)) := fun {j u gs} z => by
    by_cases hj : i = j
    · subst hj
      rw [List.getElem?_set_self hl] at z
      cases z
      exact ⟨_, hi⟩
    · rw [List.getElem?_set_ne hj] at z
      exact ⟨_, z⟩
  refine ⟨⟨fun j m d q => ?_, fun j u gs q => ?_, fun j k u u2 fs gs b hjk e1 e2 e3 => ?_, fun a z n => ?_, by simpa using S.len, S.dj, fun b hb => tab_lst b3 (S.tb b hb), fun j g q => ?_⟩, b2⟩
  rotate_right
  · by_cases hj : i = j
    · subst hj
      rw [List.getElem?_set_self hl] at q
      cases q
    · rw [List.getElem?_set_ne hj] at q
      exact absurd hi ((S.ns j g q).2.2 i t ds)
  · rw [hs_eq e]
    by_cases hj : i = j
    · subst hj
      rw [List.getElem?_set_self hl] at q
      cases q
    · rw [List.getElem?_set_ne hj] at q
      exact S.pu j m d q
  · rw [e]
    by_cases hj : i = j
    · subst hj
      rw [List.getElem?_set_self hl] at q
      cases q
      exact ⟨p, ys, hp, b2, upd_same, r, b5⟩
    · rw [List.getElem?_set_ne hj] at q
      obtain ⟨b, zs, c1, c2, c3, c4, c5⟩ := S.own j u gs q
      refine ⟨b, zs, c1, c2, ?_, c4, c5⟩
      rw [upd_ne fun z => ?_]
      · exact c3
      · subst z
        exact S.inj i j t u ds gs b hj hi q hp c1
  · obtain ⟨_, q1⟩ := back e1
    obtain ⟨_, q2⟩ := back e2
    exact S.inj j k u u2 _ _ b hjk q1 q2 e3
  · by_cases ha : a = p
    · rw [ha, upd_same] at n; cases n
    · rw [upd_ne ha] at n
      exact S.tr a z n
theorem stp_own {p : Addr} {o : HO} {xs : List V} (hp : p ∈ P) (hl : H p = some (.lst xs)) : Stp K H P (L2.upd H p o) P := ⟨fun a u n e _ => by rw [upd_ne (fun z => n (by rw [z]; exact hp))]; exact e, fun _ z => .inl z, fun a e => by
  by_cases ha : a = p
  · rw [ha, upd_same] at e; cases e
  · rw [upd_ne ha] at e; exact e, fun z b hb => tab_lst hl (z b hb)⟩
end
section
variable {X : Cx} {E : XK} {e : Expr} {fe : Env → RE} {pos : Pos}
/-- x = a new list, x to be changed later on -/
def sOwn (i : Nat) (fa : Env → RE) : Env → RS := sE fa fun w ρ => match w with
  | .frs ds => if noN ρ then .nx (ρ.set i (some (.own 0 ds))) else .st
  | _ => .st
theorem ds_own {i : Nat} {x : Str} {pos' : Pos} (hN : X.N.Nodup) (hi : X.N[i]? = some x) (hx : Loc X.env.scope x) (he : DE X E e fe) (hs : swapsWith e (some (.Name x pos')) pos.line X.env = pure false := by rfl) (hf : X.fn x = true ∨ X.env.scope.names.lookup x = some .local := by first | exact .inl rfl | exact .inr rfl | assumption) :
    DS X E (.Assign [.Name x pos'] e pos) (sOwn i fe) := by
  refine ⟨PS.weak (ps_set hN hi hx he.pe hs hf) fun Dn σ H ⟨τ, A0, P, ρ, S, c⟩ => ⟨τ, A0, P, ρ, S, ?_⟩⟩
  unfold sOwn sE at c
  cases q : fe ρ with
  | ok w ρ1 =>
    rw [q] at c
    cases w with
    | pu d => exact c.elim
    | frs ds =>
      dsimp only at c
      by_cases hnn : noN ρ1 = true
      · rw [if_pos hnn] at c
        exact fun p xs H' P' t n n1 n2 S' hl r => c _ H' (p :: P') ⟨t.kp, fun a z => (List.mem_cons.mp z).elim (fun z => .inr (by rw [z]; exact n)) (t.nw a), t.al, t.tb⟩ (S'.own_ n2 hl r i hnn)
      · rw [if_neg hnn] at c
        exact c.elim
  | err cc d => rw [q] at c; exact c
  | st => rw [q] at c; exact c
/-- return x, x an own list: it goes out as a new one -/
def sRetOwn (i : Nat) : Env → RS := fun ρ => match ρ[i]? with
  | some (some (.own _ ds)) => .ret (.frs ds) (ρ.set i none)
  | _ => .st
theorem ds_retOwn {i : Nat} {e : Expr} (h : PE X e (tVar i)) : DS X E (.Return (some e) pos) (sRetOwn i) := by
  refine ⟨PS.weak (ps_ret h) fun Dn σ H ⟨τ, A0, P, ρ, S, c⟩ => ?_⟩
  unfold sRetOwn at c
  split at c
  · rename_i t ds q
    obtain ⟨p, xs, P', h1, h2, h3, h4, h5, h6, h7, h8⟩ := S.out q
    exact ⟨.ref p, h1, c p xs _ H P' ⟨fun _ _ _ z _ => z, fun a z => .inl (h5 a z), fun _ z => z, fun z => z⟩ (.inl h2) h3 h4 h7 h6 h8⟩
  · exact c.elim
/-- x.append(e), x an own list -/
def sApp (i : Nat) (fa : Env → RE) : Env → RS := fun ρ0 => match ρ0[i]? with
  | some (some (.own _ _)) => sE fa (fun w ρ => match ρ[i]? with
    | some (some (.own t ds)) => if ds.length < sizeLine then .nx (ρ.set i (some (.own t (ds ++ [w.d])))) else .st
    | _ => .st) ρ0
  | _ => .st
theorem ds_app {i : Nat} {call : Expr} (hm : ∀ te, PE X e te → PE X call (tBM X.K "list" rAppend (tVar i) (tCons te tNil))) (he : DE X E e fe) (hs : swapsWith call none pos.line X.env = pure false := by rfl) :
    DS X E (.Expr call pos) (sApp i fe) := by
  refine ⟨PS.weak (ps_expr (hm _ he.pe) hs) fun Dn σ H ⟨τ, A0, P, ρ, S, c⟩ => ?_⟩
  unfold sApp at c
  split at c
  · rename_i t0 ds0 q0
    obtain ⟨p, xs, b1, b2, b3, b4, b5⟩ := S.own i t0 ds0 q0
    refine ⟨.ref p, b1, .inl ⟨rfl, xs, .inl (.inl b3)⟩, τ, A0, P, ρ, S, CDE.toD ?_⟩
    unfold sE at c
    cases q : fe ρ with
    | ok w ρ1 =>
      rw [q] at c
      dsimp only at c
      intro v H' P' st S' r
      split at c
      · rename_i t ds q1
        by_cases hz : ds.length < sizeLine
        · rw [if_pos hz] at c
          obtain ⟨p1, ys, d1, d2, d3, d4, d5⟩ := S'.own i t ds q1
          rw [b1] at d1
          cases d1
          obtain ⟨S2, hp⟩ := S'.chg q1 b1 (d4.app (.one r))
          exact ⟨p, ys, v, rfl, rfl, d3, by rw [d4.length]; exact hz, c σ _ P' (st.trans (stp_own hp d3)) S2⟩
        · rw [if_neg hz] at c
          exact c.elim
      · exact c.elim
    | err cc d => rw [q] at c; exact c
    | st => rw [q] at c; exact c
  · exact c.elim
end

/-! ### for -/
def forGo (bind : D → Env → Option Env) (body : Env → RS) : List D → Env → RS
  | [], ρ => .nx ρ
  | d :: r, ρ => match bind d ρ with
    | none => .st
    | some ρ1 => match body ρ1 with
      | .nx ρ2 => forGo bind body r ρ2
      | .ct ρ2 => forGo bind body r ρ2
      | .bk ρ2 => .nx ρ2
      | o => o
def sFor (src : Env → RI) (bind : D → Env → Option Env) (body : Env → RS) : Env → RS := fun ρ => match src ρ with
  | .ok items ρ1 => forGo bind body items ρ1
  | .err c d => .err c d
  | .st => .st
section
variable {K : PySem.W.Frag} {E : XK} {τ : Nat → Addr} {A0 P : List Addr} {H : Hp} {σ : L2.St} {ρ : Env} {Dn : Ends}
theorem for_of {src : Env → RI} {bind : D → Env → Option Env} {body : Env → RS} {g : TG} {js : List Nat} (hg : GtOk K g bind js) (h : tDS K E (sFor src bind body) Dn σ H) : tFor (tDI K E src) g (tDS K E body) Dn σ H := by
  obtain ⟨τ, A0, P, ρ, S, c⟩ := h
  refine ⟨τ, A0, P, ρ, S, ?_⟩
  unfold sFor at c
  cases q : src ρ with
  | err cc d => rw [q] at c; exact c
  | st => rw [q] at c; exact c
  | ok items ρ1 =>
    rw [q] at c
    dsimp only at c
    intro J H1 P1 t1 S1 wk
    have c := CDS.stp t1 c
    refine ⟨fun i m σ' H' => m = items.length - i ∧ i ≤ items.length ∧ ∃ ρ' P', SRep K τ A0 H' σ' ρ' P' ∧ Stp K H1 P1 H' P' ∧ CDS K E τ A0 H' P' (forGo bind body (items.drop i) ρ') Dn,
      ⟨_, rfl, Nat.zero_le _, ρ1, P1, S1, Stp.rfl _ _, c⟩, ?_⟩
    rintro i m σ' H' ⟨rfl, hi, ρ', P', S3, t3, c3⟩
    obtain ⟨w1, w2⟩ := wk A0 i H' P' (fun a z => .inl z) t3
    cases q2 : items[i]? with
    | none =>
      have hle : items.length ≤ i := List.getElem?_eq_none_iff.mp q2
      rw [List.drop_eq_nil_of_le hle] at c3
      exact .inl ⟨w2 hle, c3 σ' H' P' (Stp.rfl _ _) S3⟩
    | some d =>
      have hlt : i < items.length := (List.getElem?_eq_some_iff.mp q2).1
      obtain ⟨go, yl⟩ := w1 d q2
      have ed : items.drop i = d :: items.drop (i + 1) := by
        rw [List.drop_eq_getElem_cons hlt, (List.getElem?_eq_some_iff.mp q2).2]
      rw [ed] at c3
      unfold forGo at c3
      refine .inr ⟨go, fun σ4 H4 => ∃ ρ4 P4, SRep K τ A0 H4 σ4 ρ4 P4 ∧ Stp K H1 P1 H4 P4 ∧ CDS K E τ A0 H4 P4 (forGo bind body (items.drop (i + 1)) ρ4) Dn,
        fun σ4 H4 ⟨ρ4, P4, k1, k2, k3⟩ => ⟨items.length - (i + 1), by omega, rfl, hlt, ρ4, P4, k1, k2, k3⟩, fun x H4 y => ?_⟩
      obtain ⟨ex, rx⟩ := yl x H4 y
      have rx := rx S3.tr
      have S4 := S3.grow ex.gr
      have t4 : Stp K H' P' H4 P' := Stp.ext ex
      cases q3 : bind d ρ' with
      | none => rw [q3] at c3; exact c3.elim
      | some ρ5 =>
        rw [q3] at c3
        dsimp only at c3
        obtain ⟨σ5, S5, l5, o5, k5⟩ := hg τ A0 P' H4 σ' ρ' ρ5 x d S4 rx q3
        refine k5 _ ⟨τ, A0, P', ρ5, S5, ?_⟩
        have c4 := CDS.stp t4 c3
        cases q4 : body ρ5 with
        | nx ρ6 =>
          rw [q4] at c4
          exact fun σ6 H6 P6 t6 S6 => ⟨ρ6, P6, S6, t3.trans (t4.trans t6), CDS.stp t6 c4⟩
        | ct ρ6 =>
          rw [q4] at c4
          exact fun σ6 H6 P6 t6 S6 => ⟨ρ6, P6, S6, t3.trans (t4.trans t6), CDS.stp t6 c4⟩
        | bk ρ6 =>
          rw [q4] at c4
          exact c4
        | ret w ρ6 =>
          rw [q4] at c4
          cases w with
          | pu dd => exact c4
          | frs ds => exact c4
        | err cc dd =>
          rw [q4] at c4
          exact c4
        | st =>
          rw [q4] at c4
          exact c4
end
section
variable {X : Cx} {E : XK} {tg iter : Expr} {bodyS : List Stmt} {pos : Pos} {src : Env → RI} {bind : D → Env → Option Env} {body : Env → RS} {g : TG} {js : List Nat}
theorem ds_for (hp : PassesOwn (model X.prog X.w) X.A X.env X.xe) (hc : X.calm = true) (hi : DI X E tg iter src) (hb : GtOk X.K g bind js) (hg : PG X tg g) (hbody : DSs X E bodyS body) (hs : ∀ x, foldedSetIterable iter X.env x = pure x := by intro _; rfl) :
    DS X E (.For tg iter bodyS [] pos) (sFor src bind body) := ⟨PS.weak (ps_for hp hc hi.pi hg hbody.pss hs) fun Dn σ H h => for_of hb h⟩
end

/-! ### while: so many turns at most -/
def whGo (fc : Env → RE) (body : Env → RS) : Nat → Env → RS
  | 0, _ => .st
  | n + 1, ρ => match fc ρ with
    | .ok w ρ1 => (match w.d with
      | .bool true => (match body ρ1 with
        | .nx ρ2 => whGo fc body n ρ2
        | .ct ρ2 => whGo fc body n ρ2
        | .bk ρ2 => .nx ρ2
        | o => o)
      | .bool false => .nx ρ1
      | _ => .st)
    | .err c d => .err c d
    | .st => .st
section
variable {K : PySem.W.Frag} {E : XK} {τ : Nat → Addr} {A0 P : List Addr} {H : Hp} {σ : L2.St} {ρ : Env} {Dn : Ends}
theorem while_of {fc : Env → RE} {body : Env → RS} {N : Env → Nat} (h : tDS K E (fun ρ => whGo fc body (N ρ) ρ) Dn σ H) : tWhile (tTest (tDE K E fc)) (tDS K E body) Dn σ H := by
  obtain ⟨τ, A0, P, ρ, S, c⟩ := h
  refine ⟨fun m σ' H' => ∃ ρ' P', SRep K τ A0 H' σ' ρ' P' ∧ CDS K E τ A0 H' P' (whGo fc body m ρ') Dn, ⟨N ρ, ρ, P, S, c⟩, ?_⟩
  rintro m σ' H' ⟨ρ', P', S2, c2⟩
  refine ⟨τ, A0, P', ρ', S2, CDE.toD ?_⟩
  cases m with
  | zero => exact c2.elim
  | succ n =>
    unfold whGo at c2
    cases q : fc ρ' with
    | err cc d => rw [q] at c2; exact c2
    | st => rw [q] at c2; exact c2
    | ok w ρ1 =>
      rw [q] at c2
      dsimp only at c2
      intro v H3 P3 t3 S3 r3
      split at c2
      · rename_i qb
        rw [qb] at r3
        refine ⟨true, rp_bool r3, iteT ⟨fun σ4 H4 => ∃ ρ4 P4, SRep K τ A0 H4 σ4 ρ4 P4 ∧ CDS K E τ A0 H4 P4 (whGo fc body n ρ4) Dn, fun σ4 H4 ⟨ρ4, P4, k1, k2⟩ => ⟨n, Nat.lt_succ_self n, ρ4, P4, k1, k2⟩, τ, A0, P3, ρ1, S3, ?_⟩⟩
        have c3 := CDS.stp t3 c2
        cases q4 : body ρ1 with
        | nx ρ6 =>
          rw [q4] at c3
          exact fun σ6 H6 P6 t6 S6 => ⟨ρ6, P6, S6, CDS.stp t6 c3⟩
        | ct ρ6 =>
          rw [q4] at c3
          exact fun σ6 H6 P6 t6 S6 => ⟨ρ6, P6, S6, CDS.stp t6 c3⟩
        | bk ρ6 =>
          rw [q4] at c3
          exact c3
        | ret w ρ6 =>
          rw [q4] at c3
          cases w with
          | pu dd => exact c3
          | frs ds => exact c3
        | err cc dd =>
          rw [q4] at c3
          exact c3
        | st =>
          rw [q4] at c3
          exact c3
      · rename_i qb
        rw [qb] at r3
        exact ⟨false, rp_bool r3, iteF (c2 σ' H3 P3 t3 S3)⟩
      · exact c2.elim
end
theorem ds_while {X : Cx} {E : XK} {c : Expr} {bodyS : List Stmt} {pos : Pos} {fc : Env → RE} {body : Env → RS} (N : Env → Nat) (hp : PassesOwn (model X.prog X.w) X.A X.env X.xe) (hc : DT X E c fc) (hb : DSs X E bodyS body) :
    DS X E (.While c bodyS [] pos) (fun ρ => whGo fc body (N ρ) ρ) := ⟨PS.weak (ps_while hp hc.pt hb.pss) fun Dn σ H h => while_of h⟩
end DL
/-! D7: defs and their calls. -/
namespace DL
open PySem L2 PyProof.Rows

inductive RF where
  | ok (w : W) (bs : List (Nat × List D))
  | err (c : Addr) (d : D)
  | st
def BRep (K : PySem.W.Frag) (τ : Nat → Addr) (A0 : List Addr) (H : Hp) (P : List Addr) (bs : List (Nat × List D)) : Prop :=
  ∀ b ∈ bs, τ b.1 ∈ P ∧ ∃ xs, H (τ b.1) = some (.lst xs) ∧ Rps K (hid (P ++ A0) H) xs b.2
def CDF (K : PySem.W.Frag) (E : XK) (τ : Nat → Addr) (A0 : List Addr) (H : Hp) (P : List Addr) (o : RF) (Q : VK) : Prop :=
  match o with
  | .ok (.pu d) bs => ∀ v H' P', Stp K H P H' P' → BRep K τ A0 H' P' bs → Rp K (hid (P' ++ A0) H') v d → Q v H'
  | .ok (.frs ds) bs => ∀ p xs H' P', Stp K H P H' P' → (p ∈ P ∨ H p = none) → p ∉ P' → p ∉ A0 → BRep K τ (p :: A0) H' P' bs → H' p = some (.lst xs) → Rps K (hid (P' ++ p :: A0) H') xs ds → Q (.ref p) H'
  | .err c d => ∀ dx v H' P', Stp K H P H' P' → (H dx = none ∧ H' dx = some (.xd [(("value" : Str), v)])) → Rp K (hid (P' ++ A0) H') v d → E (.ref c) (some dx) H'
  | .st => False
/-- a def's promise by a function of plain data -/
def spF (K : PySem.W.Frag) (F : List Sl → RF) : Sp := fun vs H Q E => ∃ τ A0 P as, SRep K τ A0 H (vs.map some) (as.map some) P ∧ CDF K E τ A0 H P (F as) Q
def tagOf : Option Sl → Option (Nat × List D)
  | some (.own (t + 1) ds) => some (t + 1, ds)
  | _ => none
def colE (ρ : Env) : List (Nat × List D) := ρ.filterMap tagOf
def fnF (n : Nat) (g : Env → RS) : List Sl → RF := fun as => match g (as.map some ++ List.replicate (n - as.length) none) with
  | .ret w ρ' => if (colE ρ').map (·.1) = (colE (as.map some)).map (·.1) then .ok w (colE ρ') else .st
  | .nx ρ' => if (colE ρ').map (·.1) = (colE (as.map some)).map (·.1) then .ok (.pu .none) (colE ρ') else .st
  | .err c d => .err c d
  | _ => .st
section
variable {K : PySem.W.Frag} {E : XK} {τ : Nat → Addr} {A0 P : List Addr} {H : Hp} {σ : L2.St} {ρ : Env} {Q : VK}
theorem SRep.col (S : SRep K τ A0 H σ ρ P) : BRep K τ A0 H P (colE ρ) := fun b hb => by
  obtain ⟨o, ho, e⟩ := List.mem_filterMap.mp hb
  obtain ⟨i, hi⟩ := List.mem_iff_getElem?.mp ho
  unfold tagOf at e
  split at e
  · rename_i t ds
    cases e
    obtain ⟨p, xs, h1, h2, h3, h4, h5⟩ := S.own i (t + 1) ds hi
    have hp : p = τ (t + 1) := h5.resolve_left (Nat.succ_ne_zero t)
    subst hp
    exact ⟨h2, xs, h3, h4⟩
  · cases e
theorem getElem_pad {α : Type} {l : List α} {n i : Nat} {x : α} (h : (l.map some ++ List.replicate n none)[i]? = some (some x)) : (l.map some)[i]? = some (some x) := by
  by_cases hi : i < (l.map some).length
  · rw [List.getElem?_append_left hi] at h
    exact h
  · rw [List.getElem?_append_right (by omega)] at h
    rw [List.getElem?_replicate] at h
    split at h
    · cases h
    · cases h
theorem getElem_padL {α : Type} {l : List α} {n i : Nat} {x : α} (h : (l.map some)[i]? = some (some x)) : (l.map some ++ List.replicate n none)[i]? = some (some x) := by
  have hi : i < (l.map some).length := (List.getElem?_eq_some_iff.mp h).1
  rw [List.getElem?_append_left hi]
  exact h
theorem SRep.pad {vs : List V} {as : List Sl} (S : SRep K τ A0 H (vs.map some) (as.map some) P) (n : Nat) : SRep K τ A0 H (vs.map some ++ List.replicate (n - vs.length) none) (as.map some ++ List.replicate (n - as.length) none) P := by
  have hl : vs.length = as.length := by simpa using S.len
  refine ⟨fun i m d q => ?_, fun i t ds q => ?_, fun i j t u es fs p hij e1 e2 e3 e4 => ?_, S.tr, by simp [hl], S.dj, S.tb, fun i g q => ?_⟩
  rotate_right
  · have cut : ∀ {j : Nat} {s : Sl}, (as.map some ++ List.replicate (n - as.length) none)[j]? = some (some s) → (as.map some)[j]? = some (some s) := fun {j s} z => getElem_pad z
    obtain ⟨⟨p, qs, n1, n2⟩, n3, n4⟩ := S.ns i g (cut q)
    exact ⟨⟨p, qs, getElem_padL n1, n2⟩, fun j h z => n3 j h (cut z), fun j t ds z => n4 j t ds (cut z)⟩
  · obtain ⟨v, h1, h2⟩ := S.pu i m d (getElem_pad q)
    exact ⟨v, getElem_padL h1, h2⟩
  · obtain ⟨p, xs, h1, h2⟩ := S.own i t ds (getElem_pad q)
    exact ⟨p, xs, getElem_padL h1, h2⟩
  · exact S.inj i j t u es fs p hij (getElem_pad e1) (getElem_pad e2) (getElem_pad e3) (getElem_pad e4)
/-- the body's reading from the promise -/
theorem fnF_of {n : Nat} {g : Env → RS} {vs : List V} {N : List Str} (hn : N.length = n) (h : spF K (fnF n g) vs H Q E) : tDS K E g { nx := fun _ H' => Q .non H', rt := Q } (start N vs) H := by
  obtain ⟨τ, A0, P, as, S, c⟩ := h
  subst hn
  refine ⟨τ, A0, P, _, S.pad N.length, ?_⟩
  unfold fnF at c
  cases q : g (as.map some ++ List.replicate (N.length - as.length) none) with
  | nx ρ' =>
    rw [q] at c
    dsimp only at c
    split at c
    · exact fun σ' H' P' t S' => c .non H' P' t S'.col .non
    · exact c.elim
  | ret w ρ' =>
    rw [q] at c
    dsimp only at c
    split at c
    · cases w with
      | pu d => exact fun v σ' H' P' t S' r => c v H' P' t S'.col r
      | frs ds => exact fun p xs σ' H' P' t hp n1 n2 S' hl r => c p xs H' P' t hp n1 n2 S'.col hl r
    · exact c.elim
  | bk ρ' => rw [q] at c; exact c.elim
  | ct ρ' => rw [q] at c; exact c.elim
  | err cc d => rw [q] at c; exact c
  | st => rw [q] at c; exact c
end

/-- a def keeps its promise, wherever no guard is up -/
structure FD (P : Program) (w : World) (K : PySem.W.Frag) (mg : Str → Option Value) (base : Heap) (k : Nat) (f : Addr) (fd : FuncData) (ps : List Str) (F : List Sl → RF) : Prop where
  run : ∀ (A : Around) (outer : List PySem.Env) (s : Shared) (H : Hp) (args : Args) (us : List Value) (vs : List V) (Q : VK) (E : XK), A.guards = some [] → Room k A → Env0 P w K mg base A outer s H → BindsTo s fd args (ps.zip us) → Vals vs us → vs.length = ps.length →
    spF K F vs H Q E → codeAny (model P w) A (.call (.ref f) args) (CR (L2.CX P w) outer P w H s Q E) s
theorem FD.mono {P : Program} {w : World} {K : PySem.W.Frag} {mg : Str → Option Value} {base : Heap} {j k : Nat} {f : Addr} {fd : FuncData} {ps : List Str} {F : List Sl → RF} (h : FD P w K mg base j f fd ps F) (hj : j ≤ k) : FD P w K mg base k f fd ps F :=
  ⟨fun A outer s H args us vs Q E hg hr => h.run A outer s H args us vs Q E hg (hr.mono hj)⟩
section
variable {P : Program} {w : World} {K : PySem.W.Frag} {mg : Str → Option Value} {base : Heap}
/-- the context of a def's body -/
abbrev fx (P : Program) (w : World) (K : PySem.W.Frag) (mg : Str → Option Value) (base : Heap) (N : List Str) (qual : Str) (st : Stmt) (f : Addr) (cdv : Value) (A : Around) (outer : List PySem.Env) (s : Shared) (H : Hp) (E : XK) : Cx :=
  cxOf (L2.CX P w) P w K mg base N qual (defScope st) f cdv A outer s H E
theorem FD.mk' {x qual : Str} {st : Stmt} {f : Addr} {fd : FuncData} {N ps : List Str} {k n : Nat} {g : Env → RS} (F : Fun K x qual st f fd) (S : FnScope N ps (defScope st)) (hn : N.length = n)
    (hbody : ∀ (cdv : Value) (A : Around) (outer : List PySem.Env) (s : Shared) (H : Hp) (E : XK), A.guards = some [] → Room k (A.deeper (envOfC qual (defScope st) s.heap.objs.size f cdv)) → DSs (fx P w K mg base N qual st f cdv A outer s H E) E (defBody st) g) :
    FD P w K mg base (k + 1) f fd ps (fnF n g) := by
  obtain ⟨oc, od, kV, doc, pm, an, cdv, ct, osl, rfl, lk, hcd⟩ := F.ex
  refine ⟨fun A outer s H args us vs Q E hg hr e0 hb rv hl h => LamX.run_ofS lk hcd S hr e0 hb rv hl fun hr2 => ?_⟩
  exact ⟨_, (hbody cdv A outer s H E hg hr2).pss, fnF_of hn h⟩
end
theorem guards_deeper {A : Around} {env : PySem.Env} : (A.deeper env).guards = A.guards := rfl
section
variable {X : Cx} {E : XK} {k : Nat} {f : Addr} {fd : FuncData} {ps : List Str} {F : List Sl → RF} {x : Str} {e : Expr} {es : List Expr} {p pos : Pos}
theorem run_fd {pins : List (Addr × Obj)} {σ : L2.St} {H : Hp} {s : Shared} {Q : VK} {us : List Value} {vs : List V} (h : FD X.prog X.w X.K X.mg X.base k f fd ps F) (hgd : X.A.guards = some []) (hr : Room k X.A) (hx : Passes (L2.CX X.prog X.w) X E) {args : Args}
    (I : Inv X pins σ H s) (r : Vals vs us) (hl : vs.length = ps.length) (hb : BindsTo s fd args (ps.zip us)) (q : spF X.K F vs H Q E) : codeAny (model X.prog X.w) X.A (.call (.ref f) args) (fun r s' => match r with | .ok (.ret u) => EP X pins σ Q u s' | .ok _ => False | .error e => X.xe e s') s := by
  refine codeAny_mono (h.run X.A X.stack s H args us vs Q E hgd hr I.env0 hb r hl q) fun o s' ho => ?_
  cases o with
  | error er => exact hx pins σ H s er s' I ho
  | ok fl =>
    cases fl with
    | ret u => exact I.after ho
    | next => exact ho
    | brk => exact ho
    | cont => exact ho
def retC (r : RF) (ρ : Env) : RE := match r with
  | .ok w [] => .ok w ρ
  | .err c d => .err c d
  | _ => .st
def fCallG (n : Nat) (π : List D → List D) (F : List Sl → RF) (fs : Env → RL) : Env → RE := fun ρ => match fs ρ with
  | .ok ds ρ1 => if ds.length = n then retC (F ((π ds).map .pu)) ρ1 else .st
  | .err c d => .err c d
  | .st => .st
def fCall (n : Nat) (F : List Sl → RF) (fs : Env → RL) : Env → RE := fCallG n id F fs
theorem getElem_pu {ds : List D} {i : Nat} {s : Sl} (h : ((ds.map Sl.pu).map some)[i]? = some (some s)) : ∃ d, ds[i]? = some d ∧ s = .pu d := by
  rw [List.getElem?_map, List.getElem?_map] at h
  cases q : ds[i]? with
  | none => rw [q] at h; cases h
  | some d =>
    rw [q] at h
    exact ⟨d, rfl, (Option.some.inj (Option.some.inj h)).symm⟩
theorem srep_args {K : PySem.W.Frag} {τ : Nat → Addr} {A : List Addr} {H : Hp} {vs : List V} {ds : List D} (tr : ∀ a ∈ A, H a ≠ none) (tb : LamX.Tabs (TbK K) H) (r : Rps K (hid A H) vs ds) : SRep K τ A H (vs.map some) ((ds.map Sl.pu).map some) [] := by
  refine ⟨fun i m d q => ?_, fun i t es q => ?_, fun i j t u es fs p hij e1 e2 e3 => ?_, tr, by simp [r.length], fun p hp => absurd hp (by simp), tb, fun i g q => by
    obtain ⟨d2, q1, q2⟩ := getElem_pu q
    cases q2⟩
  · obtain ⟨d2, q1, q2⟩ := getElem_pu q
    cases q2
    obtain ⟨v, h1, h2⟩ := r.get q1
    exact ⟨v, by rw [List.getElem?_map, h1]; rfl, h2, fun z => nomatch z⟩
  · obtain ⟨d2, q1, q2⟩ := getElem_pu q
    cases q2
  · obtain ⟨d2, q1, q2⟩ := getElem_pu e1
    cases q2
theorem call_pure {K : PySem.W.Frag} {τ : Nat → Addr} {A0 P : List Addr} {H : Hp} {σ : L2.St} {ρ : Env} {Q : VK} {vs : List V} {ds : List D} (S : SRep K τ A0 H σ ρ P) (r : Rps K (hid (P ++ A0) H) vs ds)
    (c : CDE K E τ A0 H P σ (retC (F (ds.map .pu)) ρ) Q) : spF K F vs H Q E := by
  unfold retC at c
  refine ⟨τ, P ++ A0, [], ds.map .pu, srep_args S.tr S.tb r, ?_⟩
  have ex : ∀ {H' : Hp} {P' : List Addr}, Stp K H [] H' P' → Gr K H H' := fun t => t.toGr
  cases q : F (ds.map .pu) with
  | err cc d =>
    rw [q] at c
    exact fun dx v H' P' t hx hr => c dx v H' P (Stp.gr (ex t)) hx (hr.ext (hid_less fun a z => List.mem_append_right _ z))
  | st => rw [q] at c; exact c.elim
  | ok w bs =>
    rw [q] at c
    cases bs with
    | cons b bs => exact c.elim
    | nil =>
      cases w with
      | pu d => exact fun v H' P' t _ hr => c v H' P (Stp.gr (ex t)) (S.grow (ex t)) (hr.ext (hid_less fun a z => List.mem_append_right _ z))
      | frs es =>
        intro p xs H' P' t hp n1 n2 _ hl hr
        have hp0 : H p = none := hp.resolve_left (by simp)
        obtain ⟨m1, m2⟩ := S.fresh hp0
        refine c p xs H' P (Stp.gr (ex t)) hp0 m1 m2 (S.addHid hp0 (ex t) (by rw [hl]; exact fun z => nomatch z)) hl (hr.ext (hid_less fun a z => List.mem_append_right _ ?_))
        rcases List.mem_append.mp z with z | z
        · exact List.mem_cons_of_mem _ (List.mem_append_left _ z)
        · rcases List.mem_cons.mp z with z | z
          · rw [z]; exact List.mem_cons_self
          · exact List.mem_cons_of_mem _ (List.mem_append_right _ z)
end

/-- a def at hand -/
structure Df (P : Program) (w : World) (K : PySem.W.Frag) (mg : Str → Option Value) (base : Heap) (x : Str) (st : Stmt) (k : Nat) (ps : List Str) (F : List Sl → RF) : Prop where
  ex : ∃ (f : Addr) (fd : FuncData), mg x = some (.ref f) ∧ FD P w K mg base k f fd ps F ∧ PySem.W.keepIn K (.ref f) = true ∧ (∀ us : List Value, us.length = ps.length → bindArgs fd ⟨us, []⟩ = pure (ps.zip us)) ∧
    ∃ (kV doc pm : Value) (an : Option Addr) (cdv ct : Value), fd = PySem.W.fnOf x x (defArgs st) (defBody st) (defScope st) .none kV doc pm an cdv ct
/-- where one may call: no guard is up, there is room, exceptions pass -/
structure Cn (X : Cx) (E : XK) (k : Nat) : Prop where
  gd : X.A.guards = some []
  rm : Room k X.A
  px : Passes (L2.CX X.prog X.w) X E
  tk : Takes X fun cls d _ H => E cls d H
  cm : X.calm = true
theorem Cn.blk {X : Cx} {E : XK} {k : Nat} (c : Cn X E k) {s : Shared} {H : Hp} {scope : Scope} {env : PySem.Env} {fp : List Addr} : Cn (X.blk s H scope env fp) E0 k := ⟨c.gd, c.rm, passL, fun _ _ x => by
    obtain ⟨_, _, _, _, _, _, _, _, _, _, _, _, _, _, _, _, z⟩ := x
    exact z.elim, c.cm⟩
theorem Cn.mono {X : Cx} {E : XK} {j k : Nat} (c : Cn X E k) (h : j ≤ k) : Cn X E j := ⟨c.gd, c.rm.mono h, c.px, c.tk, c.cm⟩
theorem Fun.ofD {K : PySem.W.Frag} {x qual : Str} {st : Stmt} {f : Addr} {fd : FuncData} (F : FunD K x qual (defArgs st) (defBody st) (defScope st) [] [] f fd) : Fun K x qual st f fd := by
  obtain ⟨oc, od, dV, kV, doc, pm, an, cdv, ct, osl, e, lk, hcd, hD, hK⟩ := F.ex
  rcases hD with ⟨_, rfl⟩ | ⟨z, _⟩
  · exact ⟨⟨oc, od, kV, doc, pm, an, cdv, ct, osl, e, lk, hcd⟩, F.kp⟩
  · exact absurd rfl z
section
variable {P : Program} {w : World} {K : PySem.W.Frag} {mg : Str → Option Value} {base : Heap}
theorem Df.mk' {x : Str} {st : Stmt} {f : Addr} {fd : FuncData} {N ps : List Str} {k n : Nat} {g : Env → RS} (F : FunD K x x (defArgs st) (defBody st) (defScope st) [] [] f fd) (hm : mg x = some (.ref f)) (S : FnScope N ps (defScope st)) (hn : N.length = n)
    (hb : ∀ (kV doc pm : Value) (an : Option Addr) (cdv ct : Value) (us : List Value), us.length = ps.length → bindArgs (PySem.W.fnOf x x (defArgs st) (defBody st) (defScope st) .none kV doc pm an cdv ct) ⟨us, []⟩ = pure (ps.zip us))
    (hbody : ∀ (cdv : Value) (A : Around) (outer : List PySem.Env) (s : Shared) (H : Hp) (E : XK), Cn (fx P w K mg base N x st f cdv A outer s H E) E k → DSs (fx P w K mg base N x st f cdv A outer s H E) E (defBody st) g) :
    Df P w K mg base x st (k + 1) ps (fnF n g) := by
  refine ⟨f, fd, hm, FD.mk' (Fun.ofD F) S hn fun cdv A outer s H E hg hr => hbody cdv A outer s H E ⟨hg, hr, passes_call (W := fun cls d _ H => E cls d H) (takes_of rfl rfl rfl rfl) (fun _ _ _ _ h => h), takes_of rfl rfl rfl rfl, rfl⟩, F.kp, ?_, ?_⟩
  · obtain ⟨oc, od, kV, doc, pm, an, cdv, ct, osl, rfl, lk, hcd⟩ := (Fun.ofD F).ex
    exact hb kV doc pm an cdv ct
  · obtain ⟨oc, od, kV, doc, pm, an, cdv, ct, osl, rfl, lk, hcd⟩ := (Fun.ofD F).ex
    exact ⟨kV, doc, pm, an, cdv, ct, rfl⟩
theorem Df.mono {x : Str} {st : Stmt} {j k : Nat} {ps : List Str} {F : List Sl → RF} (h : Df P w K mg base x st j ps F) (hj : j ≤ k) : Df P w K mg base x st k ps F := by
  obtain ⟨f, fd, h1, h2, h3⟩ := h.ex
  exact ⟨f, fd, h1, h2.mono hj, h3⟩
end
section
variable {X : Cx} {E : XK} {k m : Nat} {st : Stmt} {ps : List Str} {F : List Sl → RF} {x : Str} {e : Expr} {es : List Expr} {p pos : Pos}
theorem spF_call {n : Nat} {π : List D → List D} {πV : List V → List V} (hπ : ∀ {H : Hp} {vs : List V} {ds : List D}, Rps X.K H vs ds → ds.length = n → Rps X.K H (πV vs) (π ds)) {σ : L2.St} {H : Hp} {Q : VK} {fs : Env → RL} (h : tDE X.K E (fCallG n π F fs) σ H Q) :
    tDA X.K E fs σ H fun vs H1 => vs.length = n ∧ spF X.K F (πV vs) H1 Q E := by
  obtain ⟨τ, A0, P, ρ, S, c⟩ := h
  refine ⟨τ, A0, P, ρ, S, ?_⟩
  unfold fCallG at c
  cases q : fs ρ with
  | ok ds ρ1 =>
    rw [q] at c
    dsimp only at c
    by_cases hn : ds.length = n
    · rw [if_pos hn] at c
      exact fun vs H1 P1 t1 S1 r1 => ⟨r1.length.trans hn, call_pure S1 (hπ r1 hn) (CDE.stp t1 c)⟩
    · rw [if_neg hn] at c
      exact c.elim
  | err cc d => rw [q] at c; exact c
  | st => rw [q] at c; exact c
theorem run_df {pins : List (Addr × Obj)} {σ : L2.St} {H : Hp} {s : Shared} {Q : VK} {us : List Value} {vs : List V} {f : Addr} {fd : FuncData} (h : FD X.prog X.w X.K X.mg X.base k f fd ps F) (c : Cn X E m) (hk : k ≤ m) {args : Args}
    (I : Inv X pins σ H s) (r : Vals vs us) (hl : vs.length = ps.length) (hb : bindArgs fd args = pure (ps.zip us)) (q : spF X.K F vs H Q E) : codeAny (model X.prog X.w) X.A (.call (.ref f) args) (fun r s' => match r with | .ok (.ret u) => EP X pins σ Q u s' | .ok _ => False | .error e => X.xe e s') s :=
  run_fd (h.mono hk) c.gd c.rm c.px I r hl (.of_eq hb) q
/-- f(e, ..) -/
theorem de_call (h : Df X.prog X.w X.K X.mg X.base x st k ps F) (c : Cn X E m) {fs : Env → RL} (ha : DA X E (e :: es) fs) (hk : k ≤ m := by decide) (hg : Gl X x := by rfl)
    (hdb : (x == ("__debug__" : Str)) = false := by decide) (he : starEach (e :: es) X.env = (false, eval e X.env) :: starEach es X.env := by rfl) (hpl : (backTo pos (starEach es X.env)).any (·.1) = false := by rfl) :
    DE X E (.Call (.Name x p) (e :: es) [] pos) (fCall ps.length F fs) := by
  obtain ⟨f, fd, hm, hF, hkp, hb, _⟩ := h.ex
  refine ⟨⟨fun pins s σ H Q I hw => ?_⟩⟩
  refine wpAny_Call_Name_kw (ld_glob I hg hm ?_ hdb)
  refine PySem.W.callWith_K (h₀ := X.base) I.ok.mod.kin hkp (thn (ha.pa.run pos pins s σ H _ I (spF_call (πV := id) (fun r _ => r) hw)) fun us s1 ⟨vs, H1, I1, r, hlv, q⟩ => ⟨I1.kIn, ?_⟩) he hpl
  refine wpAny_call (codeAny_mono (run_df hF c hk I1 r hlv (hb us (by rw [← r.length]; exact hlv)) q) fun o s' ho => ?_)
  cases o with
  | error er => exact ho
  | ok fl => cases fl <;> exact ho
/-- f() -/
theorem de_call0 (h : Df X.prog X.w X.K X.mg X.base x st k [] F) (c : Cn X E m) (hk : k ≤ m := by decide) (hg : Gl X x := by rfl) (hdb : (x == ("__debug__" : Str)) = false := by decide) :
    DE X E (.Call (.Name x p) [] [] pos) (fCall 0 F fNil) := by
  obtain ⟨f, fd, hm, hF, hkp, hb, _⟩ := h.ex
  refine ⟨⟨fun pins s σ H Q I hw => ?_⟩⟩
  refine wpAny_Call_Name_kw (ld_glob I hg hm ?_ hdb)
  obtain ⟨τ, A0, P, ρ, S, z⟩ := hw
  refine PySem.W.callWith_K0 I.kIn hkp ?_
  refine wpAny_call (codeAny_mono (run_df (vs := []) (us := []) hF c hk I .nil rfl (hb [] rfl) (call_pure (ds := []) S .nil z)) fun o s' ho => ?_)
  cases o with
  | error er => exact ho
  | ok fl => cases fl <;> exact ho
/-- f(k = e, ..): the values in the order of the parameters -/
def pick {α : Type} (z : α) (ix : List Nat) (l : List α) : List α := ix.map fun i => l.getD i z
theorem pick_rps {K : PySem.W.Frag} {H : Hp} {vs : List V} {ds : List D} (r : Rps K H vs ds) : ∀ ix : List Nat, Rps K H (pick .non ix vs) (pick .none ix ds)
  | [] => .nil
  | i :: ix => by
    refine .cons ?_ (pick_rps r ix)
    show Rp K H (vs.getD i .non) (ds.getD i .none)
    rw [List.getD_eq_getElem?_getD, List.getD_eq_getElem?_getD]
    cases q : ds[i]? with
    | some d =>
      obtain ⟨v, h1, h2⟩ := r.get q
      rw [h1]
      exact h2
    | none =>
      have h1 : vs[i]? = none := List.getElem?_eq_none_iff.mpr (by rw [r.length]; exact List.getElem?_eq_none_iff.mp q)
      rw [h1]
      exact .non
theorem pick_vals {vs : List V} {us : List Value} (r : Vals vs us) : ∀ ix : List Nat, Vals (pick .non ix vs) (pick .none ix us)
  | [] => .nil
  | i :: ix => by
    refine .cons ?_ (pick_vals r ix)
    show RelV (vs.getD i .non) (us.getD i .none)
    rw [List.getD_eq_getElem?_getD, List.getD_eq_getElem?_getD]
    have hl := r.length
    cases q : vs[i]? with
    | some v =>
      obtain ⟨u, q2, q3⟩ := r.get q
      rw [q2]
      exact q3
    | none =>
      rw [r.none_of q]
      exact rfl
/-- the values of keywords, from the left -/
structure DK (X : Cx) (E : XK) (kws : List Keyword) (f : Env → RL) : Prop where
  pk : PK X kws (tDA X.K E f)
theorem PK.weak {kws : List Keyword} {t t' : TA} (h : PK X kws t) (w : ∀ σ H Q, t' σ H Q → t σ H Q) : PK X kws t' := ⟨fun pos pins s σ H Q I q => h.run pos pins s σ H Q I (w σ H Q q)⟩
theorem dk_nil : DK X E [] fNil := ⟨PK.weak pk_nil fun σ H Q ⟨τ, A0, P, ρ, S, c⟩ => c [] H P (Stp.rfl H P) S .nil⟩
theorem dk_cons {fa : Env → RE} {fr : Env → RL} {nm : Option Str} {kws : List Keyword} {kpos : Pos} (ha : DE X E e fa) (hr : DK X E kws fr) : DK X E (⟨nm, e, kpos⟩ :: kws) (fCons fa fr) := by
  refine ⟨PK.weak (pk_cons ha.pe hr.pk) fun σ H Q ⟨τ, A0, P, ρ, S, c⟩ => ⟨τ, A0, P, ρ, S, CDE.toD ?_⟩⟩
  unfold fCons at c
  cases q : fa ρ with
  | ok w ρ1 =>
    rw [q] at c
    intro v H1 P1 t1 S1 r1
    refine ⟨τ, A0, P1, ρ1, S1, ?_⟩
    dsimp only at c
    cases q2 : fr ρ1 with
    | ok ds ρ2 =>
      rw [q2] at c
      exact fun vs H2 P2 t2 S2 r2 => c (v :: vs) H2 P2 (t1.trans t2) S2 (.cons (r1.stp t2) r2)
    | err cc d =>
      rw [q2] at c
      exact fun dx v H2 P2 t2 hx hr => c dx v H2 P2 (t1.trans t2) ⟨t1.al _ hx.1, hx.2⟩ hr
    | st =>
      rw [q2] at c
      exact c
  | err cc d =>
    rw [q] at c
    exact c
  | st =>
    rw [q] at c
    exact c
/-- f(k = e, ..), ix: where the parameters' values stand among the keywords -/
theorem de_callK (h : Df X.prog X.w X.K X.mg X.base x st k ps F) (c : Cn X E m) {kws : List Keyword} {fs : Env → RL} (ks : List Str) (ix : List Nat) (ha : DK X E kws fs)
    (hb : ∀ (kV doc pm : Value) (an : Option Addr) (cdv ct : Value) (us : List Value), us.length = ks.length → bindArgs (PySem.W.fnOf x x (defArgs st) (defBody st) (defScope st) .none kV doc pm an cdv ct) ⟨[], ks.zip us⟩ = pure (ps.zip (pick .none ix us)))
    (hk : k ≤ m := by decide) (hix : ix.length = ps.length := by rfl) (hg : Gl X x := by rfl) (hdb : (x == ("__debug__" : Str)) = false := by decide)
    (hall : (backToKw pos (keywordEach kws X.env)).all (·.1.isSome) = true := by rfl) (hks : (backToKw pos (keywordEach kws X.env)).filterMap (·.1) = ks := by rfl)
    (hpl : ((backTo pos (starEach [] X.env)).any (·.1) || (backToKw pos (keywordEach kws X.env)).any (·.1.isNone)) = false := by rfl) :
    DE X E (.Call (.Name x p) [] kws pos) (fCallG ks.length (pick .none ix) F fs) := by
  obtain ⟨f, fd, hm, hF, hkp, _, kV, doc, pm, an, cdv, ct, e1⟩ := h.ex
  refine ⟨⟨fun pins s σ H Q I hw => ?_⟩⟩
  refine wpAny_Call_Name_kw (ld_glob I hg hm ?_ hdb)
  refine PySem.W.callWith_KW0 (h₀ := X.base) I.ok.mod.kin hkp hall ?_ hpl
  refine thn (ha.pk.run pos pins s σ H _ I (spF_call (πV := pick .non ix) (fun r _ => pick_rps r ix) hw)) fun us s1 ⟨vs, H1, I1, r, hlv, q⟩ => ⟨I1.kIn, ?_⟩
  rw [hks]
  have hl : (pick V.non ix vs).length = ps.length := by rw [← hix]; exact List.length_map _
  refine wpAny_call (codeAny_mono (run_df hF c hk I1 (pick_vals r ix) hl (by rw [e1]; exact hb kV doc pm an cdv ct us (by rw [← r.length]; exact hlv)) q) fun o s' ho => ?_)
  cases o with
  | error er => exact ho
  | ok fl => cases fl <;> exact ho
end

/-! ### a call that is lent an own list -/
section
variable {K : PySem.W.Frag} {τ : Nat → Addr} {A0 P : List Addr} {H H' : Hp} {σ : L2.St} {ρ : Env}
/-- an own list of ours has changed, new things are beside it, some of them hidden -/
theorem SRep.chgMore {B0 : List Addr} {i t : Nat} {ds es : List D} {q : Addr} {ys : List V} (S : SRep K τ A0 H σ ρ P) (hi : ρ[i]? = some (some (.own t ds))) (hp : σ[i]? = some (some (.ref q)))
    (hA : ∀ a ∈ B0, a ∈ A0 ∨ H a = none) (hB : ∀ a ∈ B0, H' a ≠ none)
    (k : ∀ a o, a ≠ q → H a = some o → NT o → H' a = some o) (al : ∀ a, H' a = none → H a = none) (tb : LamX.Tabs (TbK K) H → LamX.Tabs (TbK K) H') (h' : H' q = some (.lst ys)) (r : Rps K (hid (P ++ B0) H') ys es) : SRep K τ B0 H' σ (ρ.set i (some (.own t es))) P := by
  obtain ⟨p2, xs, b1, b2, b3, b4, b5⟩ := S.own i t ds hi
  rw [hp] at b1
  cases b1
  have hl : i < ρ.length := (List.getElem?_eq_some_iff.mp hi).1
  have ex : Ext (hid (P ++ A0) H) (hid (P ++ B0) H') := fun a o z => by
    obtain ⟨n, e⟩ := hid_of z
    rw [List.mem_append, not_or] at n
    refine hid_in (fun w => ?_) (k a o (fun w => n.1 (by rw [w]; exact b2)) e (hid_nt z)) (hid_nt z)
    rcases List.mem_append.mp w with w | w
    · exact n.1 w
    · rcases hA a w with w | w
      · exact n.2 w
      · rw [w] at e; cases e
  refine ⟨fun j m d z => ?_, fun j u gs z => ?_, fun j m u u2 fs gs b hjk e1 e2 e3 => ?_, fun a z n => ?_, by simpa using S.len, fun p hp z => ?_, tb S.tb, fun j g z => ?_⟩
  rotate_right
  · by_cases hj : i = j
    · subst hj
      rw [List.getElem?_set_self hl] at z
      cases z
    · rw [List.getElem?_set_ne hj] at z
      exact absurd hi ((S.ns j g z).2.2 i t ds)
  · by_cases hj : i = j
    · subst hj
      rw [List.getElem?_set_self hl] at z
      cases z
    · rw [List.getElem?_set_ne hj] at z
      obtain ⟨v, c1, c2, c3⟩ := S.pu j m d z
      exact ⟨v, c1, c2.ext ex.hs, c3⟩
  · by_cases hj : i = j
    · subst hj
      rw [List.getElem?_set_self hl] at z
      cases z
      exact ⟨q, ys, hp, b2, h', r, b5⟩
    · rw [List.getElem?_set_ne hj] at z
      obtain ⟨b, zs, c1, c2, c3, c4, c5⟩ := S.own j u gs z
      refine ⟨b, zs, c1, c2, k b _ (fun w => ?_) c3 (fun _ z => nomatch z), c4.ext ex, c5⟩
      subst w
      exact S.inj i j t u ds gs b hj hi z hp c1
  · have back : ∀ {j u : Nat} {gs : List D}, (ρ.set i (some (.own t es)))[j]? = some (some (.own u gs)) → ∃ hs, ρ[j]? = some (some (.own u hs)) := fun {j u gs} z => by
      by_cases hj : i = j
      · subst hj
        rw [List.getElem?_set_self hl] at z
        cases z
        exact ⟨_, hi⟩
      · rw [List.getElem?_set_ne hj] at z
        exact ⟨_, z⟩
    obtain ⟨_, q1⟩ := back e1
    obtain ⟨_, q2⟩ := back e2
    exact S.inj j m u u2 _ _ b hjk q1 q2 e3
  · rcases List.mem_append.mp z with z | z
    · exact S.tr a (List.mem_append_left _ z) (al a n)
    · exact hB a z n
  · rcases hA p z with w | w
    · exact S.dj p hp w
    · exact S.tr p (List.mem_append_left _ hp) w
def fLend (n i : Nat) (F : List Sl → RF) (fs : Env → RL) : Env → RE := fun ρ => match ρ[i]? with
  | some (some (.own _ _)) => (match fs ρ with
    | .ok es ρ1 => (match ρ1[i]? with
      | some (some (.own t ds)) => if es.length + 1 = n then (match F (.own 1 ds :: es.map .pu) with
        | .ok w [(1, ds2)] => .ok w (ρ1.set i (some (.own t ds2)))
        | .err c d => .err c d
        | _ => .st) else .st
      | _ => .st)
    | .err c d => .err c d
    | .st => .st)
  | _ => .st
theorem call_lend {E : XK} {F : List Sl → RF} {Q : VK} {vs : List V} {es ds : List D} {i t : Nat} {p : Addr} (S : SRep K τ A0 H σ ρ P) (hi : ρ[i]? = some (some (.own t ds))) (hp : σ[i]? = some (some (.ref p))) (r : Rps K (hid (P ++ A0) H) vs es)
    (c : CDE K E τ A0 H P σ (match F (.own 1 ds :: es.map .pu) with
        | .ok w [(1, ds2)] => .ok w (ρ.set i (some (.own t ds2)))
        | .err c d => .err c d
        | _ => .st) Q) : spF K F (.ref p :: vs) H Q E := by
  obtain ⟨p2, xs, b1, b2, b3, b4, b5⟩ := S.own i t ds hi
  rw [hp] at b1
  cases b1
  have pA : p ∉ A0 := S.dj p b2
  let B := P.filter (fun a => decide (a ≠ p)) ++ A0
  have mB : ∀ a, a ∈ [p] ++ B ↔ a ∈ P ++ A0 := fun a => by
    simp only [B, List.mem_append, List.mem_filter, List.mem_singleton, decide_eq_true_eq]
    constructor
    · rintro (z | z | z)
      · exact .inl (by rw [z]; exact b2)
      · exact .inl z.1
      · exact .inr z
    · rintro (z | z)
      · by_cases hz : a = p
        · exact .inl hz
        · exact .inr (.inl ⟨z, hz⟩)
      · exact .inr (.inr z)
  have eB : hid ([p] ++ B) H = hid (P ++ A0) H := hid_swap mB
  have lk : ∀ {j : Nat} {s : Sl}, ((Sl.own 1 ds :: es.map Sl.pu).map some)[j]? = some (some s) → (j = 0 ∧ s = .own 1 ds) ∨ ∃ k d, j = k + 1 ∧ es[k]? = some d ∧ s = .pu d := fun {j s} z => by
    cases j with
    | zero => exact .inl ⟨rfl, (Option.some.inj (Option.some.inj z)).symm⟩
    | succ k =>
      obtain ⟨d, q1, q2⟩ := getElem_pu (ds := es) (i := k) (s := s) z
      exact .inr ⟨k, d, rfl, q1, q2⟩
  refine ⟨fun _ => p, B, [p], .own 1 ds :: es.map .pu, ⟨fun j m d q => ?_, fun j u gs q => ?_, fun j k u u2 fs gs b hjk e1 e2 e3 => ?_, fun a z => S.tr a ((mB a).mp z), by simp [r.length], fun q hq z => ?_, S.tb, fun j g q => ?_⟩, ?_⟩
  rotate_right 2
  · rcases lk q with ⟨rfl, q⟩ | ⟨k, d', rfl, q1, q2⟩
    · cases q
    · cases q2
  rotate_left
  · rcases lk q with ⟨_, q⟩ | ⟨k, d', rfl, q1, q2⟩
    · cases q
    · cases q2
      obtain ⟨v, h1, h2⟩ := r.get q1
      refine ⟨v, ?_, ?_, fun z => nomatch z⟩
      · show ((V.ref p :: vs).map some)[k + 1]? = _
        rw [List.map_cons, List.getElem?_cons_succ, List.getElem?_map, h1]; rfl
      · show Rp K (hid ([p] ++ B) H) v d
        rw [eB]; exact h2
  · rcases lk q with ⟨rfl, q⟩ | ⟨k, d', rfl, q1, q2⟩
    · cases q
      exact ⟨p, xs, rfl, List.mem_cons_self, b3, by rw [eB]; exact b4, .inr rfl⟩
    · cases q2
  · rcases lk e1 with ⟨rfl, _⟩ | ⟨k', d', rfl, q1, q2⟩
    · rcases lk e2 with ⟨rfl, _⟩ | ⟨k', d', rfl, q1, q2⟩
      · exact absurd rfl hjk
      · cases q2
    · cases q2
  · rw [List.mem_singleton.mp hq] at z
    rcases List.mem_append.mp z with z | z
    · exact (of_decide_eq_true (List.mem_filter.mp z).2) rfl
    · exact pA z
  have step : ∀ {H' : Hp} {P2 : List Addr}, Stp K H [p] H' P2 → Stp K H P H' P := fun t => ⟨fun a o n h nt => t.kp a o (fun z => n (by rw [List.mem_singleton.mp z]; exact b2)) h nt, fun _ z => .inl z, t.al, t.tb⟩
  have less : ∀ {H' : Hp} {P2 : List Addr}, p ∈ P2 → Ext (hid (P2 ++ B) H') (hid (P ++ A0) H') := fun {H' P2} hp2 => hid_less fun a z => by
    rcases List.mem_append.mp ((mB a).mpr z) with z | z
    · exact List.mem_append_left _ (by rw [List.mem_singleton.mp z]; exact hp2)
    · exact List.mem_append_right _ z
  cases q : F (.own 1 ds :: es.map .pu) with
  | err cc d =>
    rw [q] at c
    exact fun dx v H' P' t hx hr => c dx v H' (P.filter (fun a => decide (a ≠ p))) ⟨(step t).kp, fun a z => .inl (List.mem_filter.mp z).1, t.al, t.tb⟩ hx (hr.ext (hid_less fun a z => List.mem_append_right _ z))
  | st => rw [q] at c; exact c.elim
  | ok w bs =>
    rw [q] at c
    split at c
    · rename_i w' ds2 e
      cases e
      cases w with
      | pu d =>
        intro v H' P' t B2 hr
        obtain ⟨hp2, ys, hl, hy⟩ := B2 (1, ds2) List.mem_cons_self
        exact c v H' P (step t) (S.chgMore (B0 := A0) hi hp (fun a z => .inl z) (fun a z n => S.tr a (List.mem_append_right _ z) (t.al a n)) (fun a o n h nt => t.kp a o (fun z => n (List.mem_singleton.mp z)) h nt) t.al t.tb hl (hy.ext (less hp2))) (hr.ext (less hp2))
      | frs gs =>
        intro p2 zs H' P' t hf n1 n2 B2 hl2 hr
        obtain ⟨hp2, ys, hl, hy⟩ := B2 (1, ds2) List.mem_cons_self
        have hp0 : H p2 = none := hf.resolve_left fun z => n1 (by rw [List.mem_singleton.mp z]; exact hp2)
        obtain ⟨m1, m2⟩ := S.fresh hp0
        have lessF : Ext (hid (P' ++ p2 :: B) H') (hid (P ++ p2 :: A0) H') := hid_less fun a z => by
          rcases List.mem_append.mp z with z | z
          · have z2 := List.mem_append.mp ((mB a).mpr (List.mem_append_left _ z))
            rcases z2 with z2 | z2
            · exact List.mem_append_left _ (by rw [List.mem_singleton.mp z2]; exact hp2)
            · exact List.mem_append_right _ (List.mem_cons_of_mem _ z2)
          · rcases List.mem_cons.mp z with z | z
            · rw [z]; exact List.mem_append_right _ List.mem_cons_self
            · have z2 := List.mem_append.mp ((mB a).mpr (List.mem_append_right _ z))
              rcases z2 with z2 | z2
              · exact List.mem_append_left _ (by rw [List.mem_singleton.mp z2]; exact hp2)
              · exact List.mem_append_right _ (List.mem_cons_of_mem _ z2)
        refine c p2 zs H' P (step t) hp0 m1 m2 (S.chgMore (B0 := p2 :: A0) hi hp (fun a z => ?_) (fun a z n => ?_) (fun a o n h nt => t.kp a o (fun z => n (List.mem_singleton.mp z)) h nt) t.al t.tb hl (hy.ext lessF)) hl2 (hr.ext lessF)
        · rcases List.mem_cons.mp z with z | z
          · exact .inr (by rw [z]; exact hp0)
          · exact .inl z
        · rcases List.mem_cons.mp z with z | z
          · rw [z, hl2] at n; cases n
          · exact S.tr a (List.mem_append_right _ z) (t.al a n)
    · cases w <;> exact (by first | exact c.elim | (simp_all; done))
    · exact c.elim
end
end DL
/-! D8: lent lists, own lists read and written, further statements. -/
namespace DL
open PySem L2 PyProof.Rows

section
variable {X : Cx} {E : XK} {k m i : Nat} {st : Stmt} {ps : List Str} {F : List Sl → RF} {x : Str} {e0 e : Expr} {es : List Expr} {p pos : Pos} {fa fb : Env → RE}
/-- f(x, e, ..), x an own list, lent -/
theorem de_lend (h : Df X.prog X.w X.K X.mg X.base x st k ps F) (c : Cn X E m) {fs : Env → RL} (h0 : PE X e0 (tVar i)) (ha : DA X E es fs) (hk : k ≤ m := by decide) (hg : Gl X x := by rfl)
    (hdb : (x == ("__debug__" : Str)) = false := by decide) (he : starEach (e0 :: es) X.env = (false, eval e0 X.env) :: starEach es X.env := by rfl) (hpl : (backTo pos (starEach es X.env)).any (·.1) = false := by rfl) :
    DE X E (.Call (.Name x p) (e0 :: es) [] pos) (fLend ps.length i F fs) := by
  obtain ⟨f, fd, hm, hF, hkp, hb, _⟩ := h.ex
  refine ⟨⟨fun pins s σ H Q I hw => ?_⟩⟩
  refine wpAny_Call_Name_kw (ld_glob I hg hm ?_ hdb)
  have hw2 : tCons (tVar i) (tDA X.K E fs) σ H fun vs H1 => vs.length = ps.length ∧ spF X.K F vs H1 Q E := by
    obtain ⟨τ, A0, P, ρ, S, c⟩ := hw
    unfold fLend at c
    split at c
    · rename_i t0 ds0 q0
      obtain ⟨q, xs, b1, b2, b3, b4, b5⟩ := S.own i t0 ds0 q0
      refine ⟨.ref q, b1, τ, A0, P, ρ, S, ?_⟩
      cases q1 : fs ρ with
      | err cc d => rw [q1] at c; exact c
      | st => rw [q1] at c; exact c
      | ok ds ρ1 =>
        rw [q1] at c
        dsimp only at c
        intro vs H1 P1 t1 S1 r1
        split at c
        · rename_i t ds1 q2
          by_cases hn : ds.length + 1 = ps.length
          · rw [if_pos hn] at c
            exact ⟨by rw [List.length_cons, r1.length, hn], call_lend S1 q2 b1 r1 (CDE.stp t1 c)⟩
          · rw [if_neg hn] at c
            exact c.elim
        · exact c.elim
    · exact c.elim
  refine PySem.W.callWith_K (h₀ := X.base) I.ok.mod.kin hkp (thn ((pa_cons h0 ha.pa he).run pos pins s σ H _ I hw2) fun us s1 ⟨vs, H1, I1, r, hlv, q⟩ => ⟨I1.kIn, ?_⟩) he hpl
  refine wpAny_call (codeAny_mono (run_df hF c hk I1 r hlv (hb us (by rw [← r.length]; exact hlv)) q) fun o s' ho => ?_)
  cases o with
  | error er => exact ho
  | ok fl => cases fl <;> exact ho
/-- x[e], x an own list that stays so -/
def fIxO (i : Nat) (fb : Env → RE) : Env → RE := fun ρ => match ρ[i]? with
  | some (some (.own _ _)) => (match fb ρ with
    | .ok w ρ1 => (match ρ1[i]?, w.d with
      | some (some (.own _ ds)), .int j => resW ((atI ds j).map .pu) ρ1
      | _, _ => .st)
    | .err c d => .err c d
    | .st => .st)
  | _ => .st
theorem de_ixO {a : Expr} (h0 : PE X a (tVar i)) (hb : DE X E e fb) (hs : PlainIx e := by exact fun _ _ => rfl) : DE X E (.Subscript a e pos) (fIxO i fb) := by
  refine ⟨PE.weak (pe_ix ix_seq h0 hb.pe hs) fun σ H Q ⟨τ, A0, P, ρ, S, c⟩ => ?_⟩
  unfold fIxO at c
  split at c
  · rename_i t0 ds0 q0
    obtain ⟨q, xs, b1, b2, b3, b4, b5⟩ := S.own i t0 ds0 q0
    refine ⟨.ref q, b1, τ, A0, P, ρ, S, CDE.toD ?_⟩
    cases q1 : fb ρ with
    | err cc d => rw [q1] at c; exact c
    | st => rw [q1] at c; exact c
    | ok w ρ1 =>
      rw [q1] at c
      dsimp only at c
      intro v H1 P1 t1 S1 r1
      split at c
      · rename_i t ds j q2 q3
        rw [q3] at r1
        obtain ⟨q', xs', d1, d2, d3, d4, d5⟩ := S1.own i t ds q2
        rw [b1] at d1
        cases d1
        cases q4 : atI ds j with
        | none => rw [q4] at c; exact c.elim
        | some d =>
          rw [q4] at c
          obtain ⟨u, h2, h3⟩ := atI_rps d4 q4
          exact .inl ⟨q, xs', j, u, rfl, rp_int r1, .inl (.inl d3), h2, c u H1 P1 t1 S1 h3⟩
      · exact c.elim
  · exact c.elim
/-- x[e] = v, x an own list -/
def sSetO (i : Nat) (fv fi : Env → RE) : Env → RS := sE fv fun wv ρ1 => match ρ1[i]? with
  | some (some (.own _ _)) => sE fi (fun wi ρ2 => match ρ2[i]?, wi.d with
    | some (some (.own t ds)), .int j => (match ixN ds.length j with
      | some n => .nx (ρ2.set i (some (.own t (ds.set n wv.d))))
      | none => .st)
    | _, _ => .st) ρ1
  | _ => .st
theorem SRep.slot {K : PySem.W.Frag} {τ : Nat → Addr} {A0 P : List Addr} {H : Hp} {σ : L2.St} {ρ : Env} (S : SRep K τ A0 H σ ρ P) {i t : Nat} {ds : List D} (h : ρ[i]? = some (some (.own t ds))) : ∃ p xs, σ[i]? = some (some (.ref p)) ∧ p ∈ P ∧ H p = some (.lst xs) ∧ Rps K (hid (P ++ A0) H) xs ds := by
  obtain ⟨p, xs, h1, h2, h3, h4, _⟩ := S.own i t ds h
  exact ⟨p, xs, h1, h2, h3, h4⟩
end
/-- tuple targets, names -/
def sBind (bind : D → Env → Option Env) (fe : Env → RE) : Env → RS := sE fe fun w ρ => match bind w.d ρ with
  | some ρ1 => .nx ρ1
  | none => .st
section
variable {X : Cx} {E : XK} {e tg : Expr} {fe : Env → RE} {pos : Pos}
theorem ds_asg {bind : D → Env → Option Env} {g : TG} {js : List Nat} (hb : GtOk X.K g bind js) (hg : PG X tg g) (he : DE X E e fe) (hs : swapsWithSole [tg] e pos.line X.env = pure false := by rfl) (hw : swappedStores [tg] e X.env = pure none := by rfl)
    (h1 : (assignEach [tg] X.env).map (·.2) = [assign tg X.env] := by rfl) : DS X E (.Assign [tg] e pos) (sBind bind fe) := by
  refine ⟨PS.weak (ps_asg he.pe hg hs hw h1) fun Dn σ H ⟨τ, A0, P, ρ, S, c⟩ => ⟨τ, A0, P, ρ, S, CDE.toD ?_⟩⟩
  unfold sBind sE at c
  cases q : fe ρ with
  | err cc d => rw [q] at c; exact c
  | st => rw [q] at c; exact c
  | ok w ρ1 =>
    rw [q] at c
    dsimp only at c
    intro v H' P' t S' r
    cases q2 : bind w.d ρ1 with
    | none => rw [q2] at c; exact c.elim
    | some ρ2 =>
      rw [q2] at c
      obtain ⟨σ2, S2, _, _, k2⟩ := hb τ A0 P' H' σ ρ1 ρ2 v w.d S' r q2
      exact k2 _ (c σ2 H' P' t S2)
theorem ds_setO {i : Nat} {o ix : Expr} {fi : Env → RE} {p2 : Pos} (h0 : PE X o (tVar i)) (he : DE X E e fe) (hi : DE X E ix fi)
    (ha : ∀ v, assign (.Subscript o ix p2) X.env v = (do
      let ov ← holding [v] (eval o X.env)
      let iv ← holding [v, ov] (eval ix X.env)
      standAt p2
      holding [v, ov, iv] (setItem ov iv v)
      release [v, ov, iv] []) := by intro _; rfl)
    (hs : swapsWithSole [.Subscript o ix p2] e pos.line X.env = pure false := by rfl) (hw : swappedStores [.Subscript o ix p2] e X.env = pure none := by rfl) (h1 : (assignEach [.Subscript o ix p2] X.env).map (·.2) = [assign (.Subscript o ix p2) X.env] := by rfl) :
    DS X E (.Assign [.Subscript o ix p2] e pos) (sSetO i fe fi) := by
  refine ⟨PS.weak (ps_asg he.pe (pg_sub h0 hi.pe set_list ha) hs hw h1) fun Dn σ H ⟨τ, A0, P, ρ, S, c⟩ => ⟨τ, A0, P, ρ, S, CDE.toD ?_⟩⟩
  unfold sSetO sE at c
  cases q : fe ρ with
  | err cc d => rw [q] at c; exact c
  | st => rw [q] at c; exact c
  | ok w ρ1 =>
    rw [q] at c
    dsimp only at c
    intro v H1 P1 t1 S1 r1
    split at c
    · rename_i t0 ds0 q0
      obtain ⟨p, xs, b1, b2, b3, b4⟩ := S1.slot q0
      refine ⟨.ref p, b1, τ, A0, P1, ρ1, S1, CDE.toD ?_⟩
      cases q2 : fi ρ1 with
      | err cc d => rw [q2] at c; exact fun dx u H2 P2 t2 hx2 hr => c dx u H2 P2 (t1.trans t2) ⟨t1.al _ hx2.1, hx2.2⟩ hr
      | st => rw [q2] at c; exact c
      | ok wi ρ2 =>
        rw [q2] at c
        dsimp only at c
        intro u H2 P2 t2 S2 r2
        split at c
        · rename_i t ds j q3 q4
          rw [q4] at r2
          obtain ⟨p', ys, d1, d2, d3, d4⟩ := S2.slot q3
          rw [b1] at d1
          cases d1
          cases q5 : ixN ds.length j with
          | none => rw [q5] at c; exact c.elim
          | some n =>
            rw [q5] at c
            obtain ⟨S3, hp⟩ := S2.chg q3 b1 (d4.set (r1.stp t2) n)
            exact ⟨p, ys, j, n, rfl, rp_int r2, d3, by rw [d4.length]; exact q5, c σ _ P2 ((t1.trans t2).trans (stp_own hp d3)) S3⟩
        · exact c.elim
    · exact c.elim
/-- x, y = e1, e2; the second's value may be a new list, then y's own -/
def sPar (i j : Nat) (fa fb : Env → RE) : Env → RS := sE fa fun wa ρ1 => sE fb (fun wb ρ2 => match wb with
  | .pu d => .nx ((ρ2.set i (some (.pu wa.d))).set j (some (.pu d)))
  | .frs ds => if noN (ρ2.set i (some (.pu wa.d))) then .nx ((ρ2.set i (some (.pu wa.d))).set j (some (.own 0 ds))) else .st) ρ1
theorem ds_par {i j : Nat} {x y : Str} {a b : Expr} {fa fb : Env → RE} {px py pt : Pos} {kt k2 pt2} (hc : X.calm = true) (hN : X.N.Nodup) (hi : X.N[i]? = some x) (hj : X.N[j]? = some y) (hij : i ≠ j)
    (hx : X.env.scope.names.lookup x = some .local) (hy : X.env.scope.names.lookup y = some .local) (ha : DE X E a fa) (hb : DE X E b fb)
    (he : starEach [a, b] X.env = (false, eval a X.env) :: starEach [b] X.env := by rfl) (he2 : starEach [b] X.env = (false, eval b X.env) :: starEach [] X.env := by rfl)
    (hw : swappedStores [.Tuple [.Name x px, .Name y py] kt pt] (.Tuple [a, b] k2 pt2) X.env = pure (some [x, y]) := by rfl)
    (hs : swapsWithSole [.Tuple [.Name x px, .Name y py] kt pt] (.Tuple [a, b] k2 pt2) pos.line X.env = pure false := by rfl) :
    DS X E (.Assign [.Tuple [.Name x px, .Name y py] kt pt] (.Tuple [a, b] k2 pt2) pos) (sPar i j fa fb) := by
  refine ⟨PS.weak (ps_par hc hN hi hj hij hx hy (pa_cons ha.pe (pa_cons hb.pe pa_nil he2) he) hw hs) fun Dn σ H ⟨τ, A0, P, ρ, S, c⟩ => ⟨τ, A0, P, ρ, S, CDE.toD ?_⟩⟩
  unfold sPar sE at c
  cases q : fa ρ with
  | err cc d => rw [q] at c; exact c
  | st => rw [q] at c; exact c
  | ok wa ρ1 =>
    rw [q] at c
    dsimp only at c
    intro v H1 P1 t1 S1 r1
    refine ⟨τ, A0, P1, ρ1, S1, ?_⟩
    cases q2 : fb ρ1 with
    | err cc d => rw [q2] at c; exact fun dx u H2 P2 t2 hx2 hr => c dx u H2 P2 (t1.trans t2) ⟨t1.al _ hx2.1, hx2.2⟩ hr
    | st => rw [q2] at c; exact c
    | ok wb ρ2 =>
      rw [q2] at c
      dsimp only at c
      cases wb with
      | pu d => exact fun u H2 P2 t2 S2 r2 => ⟨v, u, rfl, c _ H2 P2 (t1.trans t2) ((S2.put (r1.stp t2) i).put r2 j)⟩
      | frs ds =>
        dsimp only at c
        by_cases hnn : noN (ρ2.set i (some (.pu wa.d))) = true
        rotate_left
        · rw [if_neg hnn] at c
          exact c.elim
        rw [if_pos hnn] at c
        intro p xs H2 P2 t2 n n1 n2 S2 hl r2
        refine ⟨v, .ref p, rfl, c _ H2 (p :: P2) ⟨(t1.trans t2).kp, fun a z => ?_, (t1.trans t2).al, (t1.trans t2).tb⟩ (((S2.put (v := v) (d := wa.d) ?_ i)).own_ n2 hl r2 j hnn)⟩
        · rcases List.mem_cons.mp z with z | z
          · exact .inr (by rw [z]; exact t1.al p n)
          · exact (t1.trans t2).nw a z
        · refine r1.ext fun a o z => ?_
          obtain ⟨m, z2⟩ := hid_of z
          rw [List.mem_append, not_or] at m
          refine hid_in (fun w => ?_) (t2.kp a o m.1 z2 (hid_nt z)) (hid_nt z)
          rcases List.mem_append.mp w with w | w
          · rcases t2.nw a w with w | w
            · exact m.1 w
            · rw [w] at z2; cases z2
          · rcases List.mem_cons.mp w with w | w
            · rw [w, n] at z2; cases z2
            · exact m.2 w
end
/-! ### a < b < c; a module's constant -/
def fChain (g g' : D → D → Option W) (fa fb fc : Env → RE) : Env → RE := fun ρ => match fa ρ with
  | .ok wa ρ1 => (match fb ρ1 with
    | .ok wb ρ2 => (match g wa.d wb.d with
      | some (.pu (.bool true)) => (match fc ρ2 with
        | .ok wc ρ3 => resW (g' wb.d wc.d) ρ3
        | .err c d => .err c d
        | .st => .st)
      | some (.pu (.bool false)) => .ok (.pu (.bool false)) ρ2
      | _ => .st)
    | .err c d => .err c d
    | .st => .st)
  | .err c d => .err c d
  | .st => .st
section
variable {X : Cx} {E : XK} {a b c : Expr} {fa fb fc : Env → RE} {pos : Pos} {r r' : R2} {g g' : D → D → Option W} {op op' : CmpOp}
theorem chain_of {σ : L2.St} {H : Hp} {Q : VK} (h1 : Op2R X.K r g) (h2 : Op2R X.K r' g') (h : tDE X.K E (fChain g g' fa fb fc) σ H Q) : tChain r r' (tDE X.K E fa) (tDE X.K E fb) (tDE X.K E fc) σ H Q := by
  obtain ⟨τ, A0, P, ρ, S, z⟩ := h
  refine ⟨τ, A0, P, ρ, S, CDE.toD ?_⟩
  unfold fChain at z
  cases q : fa ρ with
  | err cc d => rw [q] at z; exact z
  | st => rw [q] at z; exact z
  | ok wa ρ1 =>
    rw [q] at z
    dsimp only at z
    intro v1 H1 P1 t1 S1 r1
    refine ⟨τ, A0, P1, ρ1, S1, CDE.toD ?_⟩
    cases q2 : fb ρ1 with
    | err cc d => rw [q2] at z; exact fun dx u H2 P2 t2 hx2 hr => z dx u H2 P2 (t1.trans t2) ⟨t1.al _ hx2.1, hx2.2⟩ hr
    | st => rw [q2] at z; exact z
    | ok wb ρ2 =>
      rw [q2] at z
      dsimp only at z
      intro v2 H2 P2 t2 S2 r2
      have fin : ∀ {w : W}, g wa.d wb.d = some w → (∀ v H3, Ext H2 H3 → Rp X.K (hid (P2 ++ A0) H3) v w.d → w = .pu w.d → ∃ k, v = .bl k ∧ if k = true then tDE X.K E fc σ H3 fun w' H4 => r' v2 w' H4 Q else Q (.bl false) H3) → (∀ ds, w ≠ .frs ds) →
          r v1 v2 H2 fun z H3 => ∃ k, z = .bl k ∧ if k = true then tDE X.K E fc σ H3 fun w' H4 => r' v2 w' H4 Q else Q (.bl false) H3 := fun {w} hg hq hn => by
        refine h1 (P2 ++ A0) H2 v1 v2 wa.d wb.d w _ S2.tr (r1.stp t2) r2 hg ?_
        cases w with
        | pu d => exact fun v H3 e3 r3 => hq v H3 e3 r3 rfl
        | frs ds => exact absurd rfl (hn ds)
      split at z
      · rename_i hg
        refine fin hg (fun v H3 e3 r3 _ => ⟨true, rp_bool r3, ?_⟩) fun ds w => nomatch w
        rw [if_pos rfl]
        refine ⟨τ, A0, P2, ρ2, S2.grow e3.gr, CDE.toD ?_⟩
        have t3 : Stp X.K H2 P2 H3 P2 := Stp.ext e3
        cases q3 : fc ρ2 with
        | err cc d => rw [q3] at z; exact fun dx u H4 P4 t4 hx2 hr => z dx u H4 P4 (t1.trans (t2.trans (t3.trans t4))) ⟨(t1.trans (t2.trans t3)).al _ hx2.1, hx2.2⟩ hr
        | st => rw [q3] at z; exact z
        | ok wc ρ3 =>
          rw [q3] at z
          dsimp only [resW] at z
          intro v4 H4 P4 t4 S4 r4
          cases q4 : g' wb.d wc.d with
          | none => rw [q4] at z; exact z.elim
          | some w =>
            rw [q4] at z
            exact h2 (P4 ++ A0) H4 v2 v4 wb.d wc.d w Q S4.tr ((r2.ext (Stp.hid t3)).stp t4) r4 q4 (giveW S4 (CDE.stp (t1.trans (t2.trans (t3.trans t4))) z))
      · rename_i hg
        refine fin hg (fun v H3 e3 r3 _ => ⟨false, rp_bool r3, ?_⟩) fun ds w => nomatch w
        rw [if_neg Bool.false_ne_true]
        exact z (.bl false) H3 P2 (t1.trans (t2.trans (Stp.ext e3))) (S2.grow e3.gr) (.bl false)
      · exact z.elim
theorem dt_chain (ho : OpR X (compareOp op) r) (h1 : Op2R X.K r g) (ho' : OpR X (compareOp op') r') (h2 : Op2R X.K r' g') (ha : DE X E a fa) (hb : DE X E b fb) (hc : DE X E c fc)
    (hm : lastMarks [op, op'] [b, c] = false := by with_unfolding_all rfl) : DT X E (.Compare a [op, op'] [b, c] pos) (fChain g g' fa fb fc) :=
  ⟨PT.weak (pt_chain ho ho' ha.pe hb.pe hc.pe hm) fun σ H Q h => chain_of h1 h2 h⟩
/-- a module's constant -/
theorem de_glob {x : Str} {v : V} {u : Value} {d : D} (hm : X.mg x = some u) (rl : RelV v u) (r : ∀ H, Rp X.K H v d) (hg : Gl X x := by rfl) (hd : (x == ("__debug__" : Str)) = false := by decide) : DE X E (.Name x pos) (fC d) := de_const (pe_glob hg hm rl hd) r
end
end DL
/-! D9: repr, cuts, list.index, list.count, the empty dict. -/
namespace DL
open PySem L2 PyProof.Rows

/-! ### repr -/
def gRepr : List D → Option W
  | [.dict []] => some (.pu (.str "{}"))
  | [d] => if d.canLay0 && d.showable && decide (d.shown.length ≤ sizeLine) && decide (d.depth ≤ 60) then some (.pu (.str d.shown)) else none
  | _ => none
def rRepr (K : PySem.W.Frag) : List V → Hp → VK → Prop := fun xs H Q => ∃ v d A, xs = [v] ∧ Rp K (hid A H) v d ∧ ((d = .dict [] ∧ Q (.str "{}") H) ∨ (d.canLay0 = true ∧ d.showable = true ∧ d.shown.length ≤ sizeLine ∧ d.depth ≤ 60 ∧ Q (.str d.shown) H))
section
variable {X : Cx} {E : XK} {m : Nat}
theorem shown_empty : (PyData.dict []).shown = ("{}" : Str) := by decide +kernel
theorem call_repr (c : Cn X E m) : CallR X (.builtin "repr") (rRepr X.K) := by
  intro pins s σ H xs us Q I r h
  obtain ⟨v, d, A, rfl, rd, q⟩ := h
  obtain ⟨u, rfl, ru⟩ := Vals.one r
  have un := c.rm.units
  have keep : ∀ {h' : Heap} {u2 : Tok} {tk : Nat} {x : Str}, (∀ b o, s.heap.get? b = some o → h'.get? b = some o) → Q (.str x) H → EP X pins σ Q (.str x u2) { s with heap := h', toks := tk } := fun {h' u2 tk x} hk q => ⟨.str x, H, I.kept hk, ⟨u2, rfl⟩, q⟩
  rcases q with ⟨rfl, q⟩ | ⟨hc, hs, hz, hd, q⟩
  · cases rd with
    | @emp ad h =>
      cases ru
      obtain ⟨_, ns, vs, kv, o, es, ep, e1, e2, e3, _, e5, _⟩ := I.hok _ _ (hid_of h).2
      have hcls : o.cls = .type "dict" := e2.1
      cases kv
      have hes : es.toList = [] := by
        cases hl : es.toList with
        | nil => rfl
        | cons x l => rw [hl] at e5; cases e5
      refine PySem.repr_of_reads' (d := .dict []) (as := [ad]) (h₀ := s.heap) (Reads.dict (kvs := []) (as := []) (bs := []) e1 hcls e3 (by rw [hes]; exact .nil) (by rw [hes]; exact .nil)) (by decide +kernel) (fun _ z => ?_) c.gd (by show X.A.units + (PyData.depth (.dict []) + 1) < cLine; simp only [PyData.depth, PyData.depthKv]; omega) (fun _ _ e => e) (fun h' u2 tk hk => ?_) (by rw [shown_empty]; decide +kernel)
      · rw [List.mem_singleton.mp z, beq_self_eq_true] at ns
        cases ns
      · rw [shown_empty]
        exact keep hk q
  · obtain ⟨as, rr⟩ := Dp.reads I d v u ((rd.ext hid_ext).dp hc) ru
    have go : ∀ a, u = .ref a → wpAny (model X.prog X.w) X.A (call (.builtin "repr") [u]) (EP X pins σ Q) X.xe s := fun a e => by
      subst e
      exact PySem.repr_of_reads' rr hs (fun z => by rw [PyData.hasDict_of_canLay d hc] at z; cases z) c.gd (by omega) (fun _ _ e => e) (fun h' u2 tk hk => keep hk q) hz
    cases rd with
    | non => cases ru; exact P.repr_of_none (keep (fun _ _ e => e) (by simpa only [PyData.shown] using q))
    | bl b => cases ru; exact P.repr_of_bool (keep (fun _ _ e => e) (by simpa only [PyData.shown] using q))
    | int i =>
      obtain ⟨t, rfl⟩ := ru
      exact P.repr_of_int (by simpa [PyData.showable] using hs) (keep (fun _ _ e => e) (by simpa only [PyData.shown] using q))
    | str x =>
      obtain ⟨t, rfl⟩ := ru
      exact P.repr_of_str (keep (fun _ _ e => e) (by simpa only [PyData.shown] using q)) (by simpa only [PyData.shown] using hz)
    | lst h r => cases ru; exact go _ rfl
    | tup h r => cases ru; exact go _ rfl
    | emp h => cases hc
    | exc h1 h2 r => cases hc
    | fn => cases hc
theorem cal_repr {K : PySem.W.Frag} : CalR K (rRepr K) gRepr := fun A H xs ds w Q tr r q gw => by
  unfold gRepr at q
  split at q
  · cases q
    obtain ⟨v, rfl, h1⟩ := rps_one r
    exact ⟨v, _, A, rfl, h1, .inl ⟨rfl, give_pu (.str _) gw⟩⟩
  · rename_i d _
    obtain ⟨v, rfl, h1⟩ := rps_one r
    by_cases c : (d.canLay0 && d.showable && decide (d.shown.length ≤ sizeLine) && decide (d.depth ≤ 60)) = true
    · rw [if_pos c] at q
      cases q
      simp only [Bool.and_eq_true, decide_eq_true_eq] at c
      exact ⟨v, d, A, rfl, h1, .inr ⟨c.1.1.1, c.1.1.2, c.1.2, c.2, give_pu (.str _) gw⟩⟩
    · rw [if_neg c] at q
      cases q
  · cases q
theorem d_repr {e : Expr} {fr : Env → RL} {p pos : Pos} (c : Cn X E m) (ha : DA X E [e] fr) (hm : X.mg "repr" = none) (hg : Gl X "repr" := by rfl) (he : starEach [e] X.env = (false, eval e X.env) :: starEach [] X.env := by rfl) :
    DE X E (.Call (.Name "repr" p) [e] [] pos) (bndA fr gRepr) := de_callB (call_repr c) cal_repr hg hm (by decide +kernel) ha (by decide) (by decide) he

/-! ### cuts with written bounds -/
theorem po_c {i : Int} {j p} : PO X (some (.Constant (.int i) j p)) (fun _ H Q => Q (some i) H) := by
  refine ⟨fun pins s σ H Q I h => (po_some (pe_int (i := i))).run pins s σ H Q I ⟨i, rfl, h⟩⟩
theorem po_n : PO X none (fun _ H Q => Q none H) := po_none
def cutD (ds : List D) (lo hi : Option Int) : List D := (ds.drop (HT.sIx ds.length 0 lo)).take (HT.sIx ds.length ds.length hi - HT.sIx ds.length 0 lo)
def gCut (lo hi : Option Int) : D → Option W
  | .list ds => some (.frs (cutD ds lo hi))
  | _ => none
theorem Rps.cut {K : PySem.W.Frag} {H : Hp} {vs : List V} {ds : List D} (r : Rps K H vs ds) (lo hi : Option Int) : Rps K H (cutV vs lo hi) (cutD ds lo hi) := by
  unfold cutV cutD
  rw [r.length]
  exact (r.drop _).take _
theorem de_cut {lo hi : Option Expr} {l h : Option Int} {e : Expr} {fa : Env → RE} {p2 pos : Pos} (hl : PO X lo (fun _ H Q => Q l H)) (hh : PO X hi (fun _ H Q => Q h H)) (ha : DE X E e fa) : DE X E (.Subscript e (.Slice lo hi none p2) pos) (fOp1 (gCut l h) fa) := by
  refine ⟨PE.weak (pe_slice sl_list ha.pe hl hh) fun σ H Q z => ?_⟩
  refine tde_bnd z fun v H' τ A0 P' ρ' d S r c => ?_
  unfold gCut at c
  cases d with
  | list ds =>
    obtain ⟨b, xs, rfl, h1, _, s1⟩ := rp_out r
    refine ⟨b, xs, rfl, .inl (.inl h1), fun p hp => ?_⟩
    have g := giveW S c
    exact give_lst (s1.cut l h) g p hp
  | _ => exact c.elim
end
end DL
/-! D10: own exceptions X(value), whose __init__ says super().__init__(value); self.value = value. -/
namespace DLX
open PySem PySem.W PySem.Calls PyProof.Rows PySem.HandSPX

def xA (p1 p2 p3 : Pos) (j : Nat) : Arguments := { posonlyargs := [], args := [⟨"self", none, p1⟩, ⟨"value", none, p2⟩], vararg := none, kwonlyargs := [], kw_defaults := [], kwarg := none, defaults := [.Constant .none j p3] }
def xB (a b c d e f g h i k : Pos) : List Stmt := [.Expr (.Call (.Attribute (.Call (.Name "super" a) [] [] b) "__init__" c) [.Name "value" d] [] e) f, .Assign [.Attribute (.Name "self" g) "value" h] (.Name "value" i) k]
def xS : Scope := { kind := .function, names := [(PySem.Str.ofString "self", .local), (PySem.Str.ofString "value", .local), (PySem.Str.ofString "__class__", .free), (PySem.Str.ofString "super", .globalImplicit)], isGenerator := false, isCoroutine := false, more := [] }

/-- what the written part says of an own exception class at C and its __init__ at fI -/
structure ExT (prog : Program) (K : Frag) (mg : Str → Option Value) (x : Str) (C : Addr) : Prop where
  gC : mg x = some (.ref C)
  noS : mg "super" = none
  top : (prog.main.scope.names.lookup ("super" : Str)).isSome = false
  kC : keepIn K (.ref C) = true
  cls : ∃ nm q N bs bm sn sub ab col dd k0 k1 k2 k3 k5, K.lookup C = some (excClassObj nm q C N bs bm true sn sub ab col dd k0 k1 k2 k3 k5 "ValueError.__new__") ∧ refsVE bm = true
  sa : findIn K (.ref C) "__setattr__" = some (some (.builtin "object.__setattr__"))
  ga : findIn K (.ref C) "__getattribute__" = some (some (.builtin "BaseException.__getattribute__"))
  gg : findIn K (.ref C) "__getattr__" = some none
  noN : findIn K (.ref C) "value" = some none
  exC : subIn K (.ref C) (.type "BaseException") = some true
  tyC : typeIn K (.ref C) = some (.type "type")
  hdC : hasDictIn K C = true
  sup : ks_superIn K C C "__init__" = some (some (.builtin "ValueError.__init__"))
  opq : nsIn K cStatics "thirdparty.any" = some none
  sV : subIn K (.ref C) (.type "ValueError") = some true
  mroC : mroIn K C (.ref C) = some true
  fn : ∃ (fI : Addr) (oc : Value) (od : Option Addr) (T : Addr) (kV doc pm : Value) (an : Option Addr) (cda cc : Addr) (ct : Value) (osl : Array (Option Value)) (qual : Str) (A : Arguments) (B : List Stmt),
    findIn K (.ref C) "__init__" = some (some (.ref fI)) ∧ typeIn K (.ref fI) = some (.type "function") ∧
    K.lookup fI = some ⟨oc, od, .func (ksFn "__init__" qual A B xS (.ref T) kV doc pm an (.ref cda) ct cc), osl⟩ ∧ (∃ (oT : Obj) (n : Nat), K.lookup T = some oT ∧ oT.data = .seq [Value.none].toArray n) ∧ codeIn K (.ref cda) qual = true ∧
    (∃ (p1 p2 p3 : Pos) (j : Nat), A = xA p1 p2 p3 j) ∧ (∃ a b c d e f g h i k : Pos, B = xB a b c d e f g h i k ∧ (c.endLine == e.line) = true) ∧
    (∃ (cl : Value) (cld : Option Addr) (csl : Array (Option Value)), K.lookup cc = some ⟨cl, cld, .cell (some (.ref C)), csl⟩) ∧
    ∃ (ccl : Value) (cdd : Option Addr) (vs : Array Value) (ccs : Array (Option Value)) (file : Str) (tf : Tok), K.lookup cda = some ⟨ccl, cdd, .fields vs, ccs⟩ ∧ vs[2]? = some (.str file tf) ∧ ((prog.main.file : Str) == file) = true

theorem one_size (v : Value) : [v].length ≤ sizeLine := by
  rw [sizeLine_eq]
  exact (by decide : 1 ≤ 16777216)
theorem kept_but {K : Frag} {h h' : Heap} {x : Addr} (X : K.In h) (hx : K.lookup x = none) (k : ∀ b o, b ≠ x → h.get? b = some o → h'.get? b = some o) : K.In h' := fun a o e =>
  k a o (fun z => by rw [z, hx] at e; cases e) (X a o e)
theorem xs_call {prog : Program} {w : World} {A : Around} {c : Code} {E : Value → Shared → Prop} {s : Shared} {env : Env} {o e : Expr} {name : Str} {apos pos : Pos} {Q : Value → Shared → Prop} (hline : (apos.endLine == pos.line) = true)
    (h : _root_.PySem.wpAt (model prog w) A c (attributeBase o name env (eval o env)) (fun ov s₁ => ∀ pl : Sem Bool, wpAny (model prog w) A (getMethod ov name pl) (fun fx s₂ => wpAny (model prog w) A (callWith pos fx.1 fx.2 (backTo pos (starEach [e] env)) []) Q E s₂) E s₁) E s)
    (hform : methodCallForm 1 (backTo pos (starEach [e] env)) (backToKw pos (keywordEach [] env)) = true := by rfl) :
    _root_.PySem.wpAt (model prog w) A c (eval (.Call (.Attribute o name apos) [e] [] pos) env) Q E s := by
  rw [arm_eval_Call]
  refine _root_.PySem.wpAt_bind (ks_wpAt_mono h (fun ov s1 h1 => _root_.PySem.wpAt_of_wpAny (wpAny_bind (wpAny_standAt ?_))) fun _ _ x => x)
  have hpos : methodCallPos true o env apos pos = pure pos := by
    unfold methodCallPos
    simp [hline]
  show wpAny _ _ (methodCall o name apos pos env ov 1 (backTo pos (starEach [e] env)) (backToKw pos (keywordEach [] env))) _ _ _
  unfold methodCall
  rw [hform]
  refine wpAny_bind (wpAny_holding ?_)
  have key : ∀ (fx : Value × List Value) (s2 : Shared), wpAny (model prog w) A (callWith pos fx.1 fx.2 (backTo pos (starEach [e] env)) []) Q E s2 → wpAny (model prog w) A (do
      let callPos ← methodCallPos true o env apos pos
      callWith callPos fx.1 fx.2 (backTo pos (starEach [e] env)) (backToKw pos (keywordEach [] env))) Q E s2 := fun fx s2 z => by
    rw [hpos]
    exact wpAny_bind (wpAny_pure z)
  exact wpAny_mono (h1 _) (fun fx s2 z => key fx s2 z) fun _ _ x => x
/-- the module's side of a heap -/
structure Glo (prog : Program) (mg : Str → Option Value) (h : Heap) : Prop where
  g : h.Ns mainGlobals mg
  b : ∃ mb, h.Ns builtinsNs mb ∧ ∀ x : Str, x ≠ "__name__" → mb x = bootBuiltins x
  lim : h.NoLimit
theorem Glo.keeps {prog : Program} {mg : Str → Option Value} {h h' : Heap} (G : Glo prog mg h) (k : ∀ b o, h.get? b = some o → h'.get? b = some o) : Glo prog mg h' := by
  obtain ⟨mb, h1, h2⟩ := G.b
  exact ⟨G.g.keeps k, ⟨mb, h1.keeps k, h2⟩, G.lim.keeps k⟩
/-- what __init__ leaves of a fresh exception at x -/
structure InitEnd (h h' : Heap) (x C dx t1 : Addr) (v : Value) : Prop where
  keep : ∀ b o, b ≠ x → h.get? b = some o → h'.get? b = some o
  obj : h'.get? x = some { cls := .ref C, dict := some dx, data := .fields #[.ref t1, .none, .none, .none, .bool false, .none] }
  dbig : h.objs.size ≤ dx
  dne : dx ≠ x
  ns : h'.Ns1 dx (fun y => if y = "value" then some v else none)
section
variable {prog : Program} {w : World} {A : Around} {E : Value → Shared → Prop} {R : Result → Shared → Prop} {s : Shared} {K : Frag} {mg : Str → Option Value} {C : Addr} {cn : Str}
theorem ex_init (T : ExT prog K mg cn C) {x t0 fI : Addr} {v : Value} (X : K.In s.heap) (G : Glo prog mg s.heap) (hi : findIn K (.ref C) "__init__" = some (some (.ref fI))) (hx : s.heap.get? x = some (excO C t0)) (hnx : K.lookup x = none) (hroom : A.depth < recursionLimit)
    (hq : ∀ h' tk dx t1, InitEnd s.heap h' x C dx t1 v → R (.ok (.ret .none)) { s with heap := h', toks := tk }) :
    codeAny (model prog w) A (.call (.ref fI) ⟨[.ref x, v], []⟩) R s := by
  obtain ⟨fI', oc, od, TD, kV, doc, pm, an, cda, cc, ct, osl, qual, AA, BB, hi', tI, ho, ⟨oT, nT, hT, hTd⟩, hcd, ⟨p1, p2, p3, j, rfl⟩, ⟨a, b, c, d, e, f, g, h, i, k, rfl, hln⟩, ⟨cl, cld, csl, hcell⟩, ccl, cdd, vs, ccs, file, tf, hcode, hvs, hfile⟩ := T.fn
  rw [hi] at hi'
  cases hi'
  obtain ⟨nm, q, N, bs, bm, sn, sub, ab, col, dd, k0, k1, k2, k3, k5, hC, hbm⟩ := T.cls
  have hcl : clsIn K C = some { name := nm, bases := bs, mro := .ref C :: bm, ns := N, qualname := q, hasDict := true, slotNames := sn, subclasses := sub, abstract := ab, collection := col, hasDel := false } := by unfold clsIn; rw [hC] <;> rfl
  refine ks_codeAny_call_defAt (fd := ksFn "__init__" qual (xA p1 p2 p3 j) (xB a b c d e f g h i k) xS (.ref TD) kV doc pm an (.ref cda) ct cc) (binds := [("self", .ref x), ("value", v)]) hroom (X _ _ ho) rfl G.lim (codeRec_of X hcd) rfl (BindsTo.of_defaults (T := TD) rfl (X _ _ hT) hTd (by first | rfl | with_unfolding_all rfl) (by first | rfl | with_unfolding_all rfl)) (by show ∀ y ∈ xS.names, y.2 ≠ .cell; decide) (by
    intro y hy
    rcases List.mem_cons.mp hy with z | hy
    · rw [z]; rfl
    · rw [List.mem_singleton.mp hy]; rfl) (fun h₁ hns hk₁ => ?_)
  have X₁ : K.In h₁ := X.keeps hk₁
  have G₁ := G.keeps hk₁
  have hx₁ := hk₁ _ _ hx
  have IA : InstAt h₁ x (excO C t0) C none := ⟨hx₁, rfl, rfl, trivial⟩
  obtain ⟨hp, gs, dr, tk, os⟩ := s
  obtain ⟨oD, hD1, hD2⟩ : ∃ oD, h₁.get? C = some oD ∧ ∃ cd, oD.data = .cls cd := ⟨_, X₁ _ _ hC, _, rfl⟩
  obtain ⟨cdD, hD2⟩ := hD2
  refine ks_wpAt_execs_cons (ks_wpAt_Expr_any (xs_call hln ?_))
  obtain ⟨mb, hb1, hb2⟩ := G₁.b
  refine ks_wpAt_super_base (env := ksEnv qual xS hp.objs.size fI (.ref cda) cc) (by rfl) (by rfl) (by decide) rfl (X₁ _ _ ho) rfl (by rfl) rfl (X₁ _ _ hcode) rfl hvs hfile T.top ?_
  refine ks_loadName_global (by rfl) (by rfl) (loadGlobal_builtin (env := ksEnv qual xS hp.objs.size fI (.ref cda) cc) G₁.g T.noS hb1 ((hb2 _ (by decide +kernel)).trans (by kernel_rfl)) ⟨rfl, ?_⟩)
  refine wpAny_loadName_free (by rfl) (by rfl) (by rfl) ⟨_, X₁ _ _ hcell, rfl⟩ ?_
  refine wpAny_loadName_local (by rfl) (by rfl) hns (by first | rfl | with_unfolding_all rfl | kernel_rfl) ?_
  refine ks_wpAny_isType_cls hD1 hD2 ⟨rfl, ?_⟩
  refine ks_wpAny_call_super hD1 hD2 IA.at_ IA.cls (fun c e => ?_) (looks_mroIn X₁ T.mroC) (fun h2 e2 kk2 => ?_)
  · have := IA.no
    unfold notCls at this
    rw [e] at this
    exact Bool.noConfusion this
  have X₂ : K.In h2 := X₁.keeps kk2
  have hx₂ := kk2 _ _ hx₁
  have IA2 : InstAt h2 x (excO C t0) C none := ⟨hx₂, rfl, rfl, trivial⟩
  have hxC : x ≠ C := fun z => by rw [z] at hx₂; rw [X₂ _ _ hC] at hx₂; cases hx₂
  have hI : Looks (model prog w) h2 (isInstance (.ref x) (.type "ValueError")) true := IA2.type.andThen (looks_subIn X₂ T.sV)
  have hsup := T.sup
  unfold ks_superIn at hsup
  rw [hcl] at hsup
  intro pl
  have hC₂ := X₂ _ _ hC
  have hmro : Looks (model prog w) h2 (mroOf (.ref C)) (.ref C :: bm) := (looks_clsIn X₂ hcl).andThen .now
  refine kxs_getMethod kxs_ValueError e2 (looks_opaque X₂ T.opq) hmro rfl X₂ hsup hI hxC (by decide) ?_
  have kk3 : ∀ b o, h2.get? b = some o → (h2.push (kxs_mw "ValueError.__init__" x)).get? b = some o := fun b o z => Heap.get?_push_of_some _ z
  have hu3 : (h2.push (kxs_mw "ValueError.__init__" x)).get? h2.objs.size = some (kxs_mw "ValueError.__init__" x) := Heap.get?_push_at rfl rfl
  have hns3 := (hns.keeps kk2).keeps kk3
  have X₃ : K.In (h2.push (kxs_mw "ValueError.__init__" x)) := X₂.keeps kk3
  have hx₃ := kk3 _ _ hx₂
  have hC₃ := X₃ _ _ hC
  have hvl : ∀ {A' : Around} {E' : Value → Shared → Prop} {Q' : Value → Shared → Prop} {h' : Heap} {t' : Nat} {pp : Pos}, h'.Ns hp.objs.size (fun y => [(("self" : Str), Value.ref x), (("value" : Str), v)].reverse.lookup y) → Q' v ⟨h', gs, dr, t', os⟩ → wpAny (model prog w) A' (eval (.Name "value" pp) (ksEnv qual xS hp.objs.size fI (.ref cda) cc)) Q' E' ⟨h', gs, dr, t', os⟩ := fun hn q =>
    wpAny_Name (wpAny_loadName_local (by rfl) (by rfl) hn (by first | rfl | with_unfolding_all rfl | kernel_rfl) q) (by decide)
  refine kxs_callWith (i := "ValueError.__init__") (x := x) (u := h2.objs.size) (by rfl) (evalArgs_plain ?_)
  refine Calls.spliced_cons (hvl hns3 ?_)
  refine Calls.spliced_nil ⟨hu3, ?_⟩
  refine wpAny_call (codeAny_of_tree ?_)
  show wpAny _ (Around.in1 _) (callAny (.ref h2.objs.size) ⟨[v], []⟩) _ _ _
  simp only [callAny]
  refine wpAny_bind (wpAny_load hu3 ?_)
  have tt : (Value.type "method-wrapper" == Value.type "method" || Value.type "method-wrapper" == Value.type "builtin_function_or_method"
      || Value.type "method-wrapper" == Value.type "method-wrapper") = true := by decide
  simp only [kxs_mw, tt, if_true]
  refine KFB.if_so (by decide) ?_
  have FB := PySem.F.excBase_ValueError
  refine wpAny_bind (check_bound_init FB.toExcCallFacts hC₃ hx₃ rfl ?_)
  refine wpAny_bind (wpAny_pure (wpAny_pure ?_))
  refine ⟨plainId_quiet FB.init.plain _, codeAny_builtin FB.initEntry ?_⟩
  refine exc_init_tree (cls := .ref C) (t0 := t0) (dv := none) (c2 := .none) (c3 := .none) (b4 := .bool false) hx₃ (one_size v) fun h4 kk4 ex4 et4 => ?_
  -- self.value = value
  refine _root_.PySem.wpAt_of_wpAny ?_
  have hxlt : x < hp.objs.size := Heap.lt_size hx
  have l1 : hp.objs.size < h₁.objs.size := hns.lt
  have l2 : h₁.objs.size < h2.objs.size := Heap.lt_size e2
  have l3 : (h2.push (kxs_mw "ValueError.__init__" x)).objs.size < h4.objs.size := Heap.lt_size et4
  have l3' : h2.objs.size < h4.objs.size := by
    rw [Heap.size_push] at l3
    omega
  have hns4 : h4.Ns hp.objs.size (fun y => [(("self" : Str), Value.ref x), (("value" : Str), v)].reverse.lookup y) := by
    obtain ⟨oL, es, ep, hL, r⟩ := hns3
    exact ⟨oL, es, ep, kk4 _ _ (Nat.ne_of_gt hxlt) hL, r⟩
  have X₄ : K.In h4 := kept_but X₃ hnx kk4
  have IA4 : InstAt h4 x _ C none := ⟨ex4, rfl, rfl, trivial⟩
  show wpAny _ _ (execs _ _) _ _ _
  refine wpAny_execs_cons (plainObj_wpAny_Assign_Attribute ?_)
  refine hvl hns4 ?_
  refine wpAny_Name (wpAny_loadName_local (by rfl) (by rfl) hns4 (v := .ref x) (by first | rfl | with_unfolding_all rfl | kernel_rfl) ?_) (by decide)
  refine set_plain X₄ IA4 T.sa ?_
  refine exc_osa X₄ ex4 hcl (show refsVE (.ref C :: bm) = true from hbm) rfl T.noN (fun h5 tk5 dx k5' dn dne hx5 hn5 => ?_)
  refine wpAny_execs_nil (hq h5 tk5 dx _ ⟨fun b o hb z => k5' b o hb (kk4 b o hb (kk3 _ _ (kk2 _ _ (hk₁ _ _ z)))), hx5, ?_, dne, hn5⟩)
  have dn' : h4.objs.size ≤ dx := dn
  show hp.objs.size ≤ dx
  omega
/-- a made X(v) -/
structure OwnMade (h h' : Heap) (e C d : Addr) (v : Value) : Prop where
  keep : ∀ b o, h.get? b = some o → h'.get? b = some o
  new : h.objs.size ≤ e
  obj : ∃ oe vs, h'.get? e = some oe ∧ oe.cls = .ref C ∧ oe.dict = some d ∧ oe.data = .fields vs ∧ vs[1]? = some .none
  dbig : h.objs.size ≤ d
  dne : d ≠ e
  ns : h'.Ns1 d (fun y => if y = "value" then some v else none)
theorem ex_made (T : ExT prog K mg cn C) {v : Value} (X : K.In s.heap) (G : Glo prog mg s.heap) (hroom : A.depth + 1 < recursionLimit)
    (hq : ∀ h' tk e d, OwnMade s.heap h' e C d v → R (.ok (.ret (.ref e))) { s with heap := h', toks := tk }) :
    codeAny (model prog w) A (.call (.ref C) ⟨[v], []⟩) R s := by
  obtain ⟨nm, q, N, bs, bm, sn, sub, ab, col, dd, k0, k1, k2, k3, k5, hC, hbm⟩ := T.cls
  have fn := T.fn
  obtain ⟨fI, _, _, _, _, _, _, _, _, _, _, _, _, _, _, iC, tC, _⟩ := fn
  obtain ⟨hp, g, dr, tk, os⟩ := s
  have k : ∀ b o, hp.get? b = some o → ((hp.push (kdv_tup [v])).push (excO C hp.objs.size)).get? b = some o := fun b o e => Heap.get?_push_of_some _ (Heap.get?_push_of_some _ e)
  have hget : ((hp.push (kdv_tup [v])).push (excO C hp.objs.size)).get? (hp.objs.size + 1) = some (excO C hp.objs.size) := by heap_get
  have hnx : K.lookup (hp.objs.size + 1) = none := by
    cases e : K.lookup (hp.objs.size + 1) with
    | none => rfl
    | some o =>
      have z : hp.get? (hp.objs.size + 1) = some o := X _ _ e
      exact absurd (Nat.lt_of_succ_lt (Heap.lt_size z)) (Nat.lt_irrefl _)
  refine call_own PySem.F.excBase_ValueError (fun X => refsVE_contains X bm hbm) (X _ _ hC) (looks_findIn X iC) (fun self => bind_fn X self tC) (one_size v) ?_
  refine ex_init (s := ⟨(hp.push (kdv_tup [v])).push (excO C hp.objs.size), g, dr, tk, os⟩) T (X.keeps k) (G.keeps k) iC hget hnx ?_ fun h' tk' dx t1 ⟨k', hx, dn, dne, hns⟩ => ?_
  · show A.depth + 1 < recursionLimit
    exact hroom
  · have old : ∀ b o, hp.get? b = some o → h'.get? b = some o := fun b o e => k' b o (Nat.ne_of_lt (Nat.lt_succ_of_lt (Heap.lt_size e))) (k b o e)
    have z : hp.objs.size + 1 + 1 ≤ dx := by
      have q := dn
      rw [Heap.size_push, Heap.size_push] at q
      exact q
    exact ⟨rfl, hq h' tk' (hp.objs.size + 1) dx ⟨old, Nat.le_succ _, ⟨_, _, hx, rfl, rfl, rfl, rfl⟩, Nat.le_trans (Nat.le_trans (Nat.le_succ _) (Nat.le_succ _)) z, dne, hns⟩⟩
end
end DLX
/-! D11: raise X(e); an exception that is held. -/
namespace DL
open PySem L2 PyProof.Rows DLX

theorem relO_value {v : V} {v' : Value} (r : RelV v v') (f : Str) : RelO (List.lookup f [(("value" : Str), v)]) (if f = "value" then some v' else none) := by
  by_cases hw : f = "value"
  · rw [hw, if_pos rfl]
    have q : List.lookup ("value" : Str) [(("value" : Str), v)] = some v := by simp [List.lookup]
    rw [q]
    exact r
  · rw [if_neg hw]
    have q2 : List.lookup f [(("value" : Str), v)] = none := by
      have qw : (f == ("value" : Str)) = false := by simpa using hw
      simp [List.lookup, qw]
    rw [q2]
    trivial
section
variable {X : Cx} {E : XK} {C : Addr} {cn : Str} {k : Nat}
theorem glo_of {pins : List (Addr × Obj)} {σ : L2.St} {H : Hp} {s : Shared} (I : Inv X pins σ H s) : Glo X.prog X.mg s.heap := by
  obtain ⟨mb, h1, h2⟩ := I.mod.blt
  exact ⟨I.mod.glob.keeps I.bk, ⟨mb, h1.keeps I.bk, h2⟩, I.nolimit⟩
/-- X(e) -/
theorem pmk_x {a : Expr} {ta : TA} {p pos : Pos} (T : ExT X.prog X.K X.mg cn C) (hr : Room k X.A) (ha : PA X [a] ta) (hg : Gl X cn) (hdb : (cn == ("__debug__" : Str)) = false)
    (he : starEach (a :: []) X.env = (false, eval a X.env) :: starEach [] X.env := by rfl) (hpl : (backTo pos (starEach [] X.env)).any (·.1) = false := by rfl) :
    PMk X (.Call (.Name cn p) [a] [] pos) (fun σ H Q => ta σ H fun vs H1 => ∃ v, vs = [v] ∧ ∀ d, H1 d = none → Q (.ref C) (some d) (upd H1 d (.xd [(("value" : Str), v)]))) := by
  intro pins s σ H Q I h
  refine wpAny_Call_Name_kw (ld_glob I hg T.gC ?_ hdb)
  refine PySem.W.callWith_K (h₀ := X.base) I.ok.mod.kin T.kC (thn (ha.run pos pins s σ H _ I h) fun us s1 hh => ?_) he hpl
  obtain ⟨vs, H1, I1, r1, v, ev, q1⟩ := hh
  subst ev
  refine ⟨I1.kIn, ?_⟩
  obtain ⟨v', rfl, rv⟩ := Vals.one r1
  have G1 := glo_of I1
  obtain ⟨hp, g, dr, tk, os⟩ := s1
  refine wpAny_call (ex_made T I1.kIn G1 (by have := hr.dp; omega) fun h' tk' e d M => ?_)
  show MkP X pins σ Q (.ref e) ⟨h', g, dr, tk', os⟩
  obtain ⟨oe, fv, hoe, hc, hd, hdat, h1⟩ := M.obj
  have hns := M.ns
  obtain ⟨G', g1, g2⟩ := restrict h' fun b => decide (b ≠ e)
  have gk : ∀ b, b ≠ e → G'.get? b = h'.get? b := fun b hb => g1 b (decide_eq_true hb)
  have ge : G'.get? e = none := g2 e (by simp)
  have old : ∀ b o, hp.get? b = some o → G'.get? b = some o := fun b o q => (gk b (Nat.ne_of_lt (Nat.lt_of_lt_of_le (Heap.lt_size q) M.new))).trans (M.keep b o q)
  have ob : ObjOk X.prog X.w (upd H1 d (.xd [(("value" : Str), v)])) G' d (.xd [(("value" : Str), v)]) := ⟨_, hns.at (fun o q => (gk d M.dne).trans q), fun f => relO_value rv f⟩
  have J : Inv X pins σ (upd H1 d (.xd [(("value" : Str), v)])) ⟨G', g, dr, tk', os⟩ := I1.laid (t' := tk') old M.dbig ob
  refine ⟨e, oe, fv, ⟨G', g, dr, tk', os⟩, _, .ref C, some d, rfl, J, fun b o q => ?_, ge, hoe, ⟨hc, hd⟩, hdat, h1, ?_, rfl, I1.bare, raises_own T.exC T.tyC, q1 d (I1.hok.fresh M.dbig)⟩
  · by_cases hb : b = e
    · have q' : G'.get? b = some o := q
      rw [hb, ge] at q'; cases q'
    · exact (gk b hb).symm.trans q
  · rw [upd_ne (Ne.symm M.dne)]
    exact I1.hok.fresh M.new
def sRaise (C : Addr) (fs : Env → RL) : Env → RS := fun ρ => match fs ρ with
  | .ok [d] _ => .err C d
  | .ok _ _ => .st
  | .err c d => .err c d
  | .st => .st
theorem ds_raise {a : Expr} {fs : Env → RL} {p pos pos2 : Pos} (T : ExT X.prog X.K X.mg cn C) (c : Cn X E k) (ha : DA X E [a] fs) (hg : Gl X cn := by rfl) (hdb : (cn == ("__debug__" : Str)) = false := by decide)
    (he : starEach (a :: []) X.env = (false, eval a X.env) :: starEach [] X.env := by rfl) (hpl : (backTo pos (starEach [] X.env)).any (·.1) = false := by rfl) :
    DS X E (.Raise (some (.Call (.Name cn p) [a] [] pos)) none pos2) (sRaise C fs) := by
  refine ⟨PS.weak (ps_raise c.cm c.tk (pmk_x T c.rm ha.pa hg hdb he hpl)) fun Dn σ H ⟨τ, A0, P, ρ, S, z⟩ => ⟨τ, A0, P, ρ, S, ?_⟩⟩
  unfold sRaise at z
  cases q : fs ρ with
  | err cc d => rw [q] at z; exact z
  | st => rw [q] at z; exact z
  | ok ds ρ1 =>
    rw [q] at z
    intro vs H1 P1 t1 S1 r1
    cases ds with
    | nil => exact z.elim
    | cons d ds =>
      cases ds with
      | cons _ _ => exact z.elim
      | nil =>
        obtain ⟨v, rfl, rv⟩ := rps_one r1
        refine ⟨v, rfl, fun dx hdx => ?_⟩
        have ex : Ext H1 (upd H1 dx (.xd [(("value" : Str), v)])) := Evl.Ex.new hdx
        exact z dx v _ P1 (t1.trans (Stp.ext ex)) ⟨t1.al dx hdx, upd_same⟩ (rv.ext (Gr.hid (K := X.K) ex.gr))
end
end DL
/-! D12: names bound to comprehensions on the same line. -/
namespace DL
open PySem L2 PyProof.Rows
section
variable {X : Cx} {E : XK} {elt tg iter : Expr} {ifs : List Expr} {scope : Scope} {own : List (Str × Nat)} {pos spos py : Pos} {src : Env → RI} {bind : D → Env → Option Env} {ft fe : Env → RE} {g : TG} {js : List Nat} {i : Nat} {y : Str}
/-- name = [elt for tg in iter if ifs] -/
theorem ps_lc (hc : X.calm = true) (hN : X.N.Nodup) (hy : X.N[i]? = some y) (hi : DI X E tg iter src) (ok : BlkOk X.N X.env.scope scope own) (hb : GtOk X.K g bind js) (hjs : ∀ j ∈ js, j ∈ own.map (·.2))
    (hg : ∀ (s : Shared) (H : Hp) (C : Addr) (cl : List (Str × Addr)) (fp : List Addr), PG (X.blk s H scope (compEnvC scope cl C X.env) fp) tg g) (ht : ∀ (s : Shared) (H : Hp) (C : Addr) (cl : List (Str × Addr)) (fp : List Addr), DTs (X.blk s H scope (compEnvC scope cl C X.env) fp) E0 ifs ft)
    (he : ∀ (s : Shared) (H : Hp) (C : Addr) (cl : List (Str × Addr)) (fp : List Addr), DE (X.blk s H scope (compEnvC scope cl C X.env) fp) E0 elt fe)
    (hyl : X.env.scope.names.lookup y = some .local) (hk : X.env.scope.kind = .function := by rfl) (hl : (py.line == pos.line) = true := by rfl) (ha : (scope.names.any fun (n, k) => n == y && (k == .local || k == .cell)) = false := by decide) (hs : ∀ x, foldedSetIterable iter X.env x = pure x := by intro _; rfl) :
    PS X (.Assign [.Name y py] (.ListComp elt [⟨tg, iter, ifs, 0⟩] scope pos) spos) (tAsg (tDE X.K E (fLc src bind ft fe (own.map (·.2)))) (gName i)) :=
  PS.weak (ps_setLc hc hN hy hyl (sw_true hk hyl hl ha) hi.pi ok hg (fun s H C cl fp => (ht s H C cl fp).pts) (fun s H C cl fp => (he s H C cl fp).pe) hs) fun Dn σ H h => lc_of hb hjs h
theorem put_of {K : PySem.W.Frag} {fe : Env → RE} {Dn : Ends} {σ : L2.St} {H : Hp} (h : tDS K E (sPut i fe) Dn σ H) : tAsg (tDE K E fe) (gName i) Dn σ H := by
  obtain ⟨τ, A0, P, ρ, S, c⟩ := h
  refine ⟨τ, A0, P, ρ, S, CDE.toD ?_⟩
  unfold sPut sE at c
  cases q : fe ρ with
  | ok w ρ1 =>
    rw [q] at c
    exact fun v H' P' t S' r => c _ H' P' t (S'.put r i)
  | err cc d => rw [q] at c; exact c
  | st => rw [q] at c; exact c
theorem own_of {K : PySem.W.Frag} {fe : Env → RE} {Dn : Ends} {σ : L2.St} {H : Hp} (h : tDS K E (sOwn i fe) Dn σ H) : tAsg (tDE K E fe) (gName i) Dn σ H := by
  obtain ⟨τ, A0, P, ρ, S, c⟩ := h
  refine ⟨τ, A0, P, ρ, S, ?_⟩
  unfold sOwn sE at c
  cases q : fe ρ with
  | ok w ρ1 =>
    rw [q] at c
    cases w with
    | pu d => exact c.elim
    | frs ds =>
      dsimp only at c
      by_cases hnn : noN ρ1 = true
      · rw [if_pos hnn] at c
        exact fun p xs H' P' t n n1 n2 S' hl r => c _ H' (p :: P') ⟨t.kp, fun a z => (List.mem_cons.mp z).elim (fun z => .inr (by rw [z]; exact n)) (t.nw a), t.al, t.tb⟩ (S'.own_ n2 hl r i hnn)
      · rw [if_neg hnn] at c
        exact c.elim
  | err cc d => rw [q] at c; exact c
  | st => rw [q] at c; exact c
theorem ds_lc {fe : Env → RE} {st : Stmt} (h : PS X st (tAsg (tDE X.K E fe) (gName i))) : DS X E st (sPut i fe) := ⟨PS.weak h fun _ _ _ z => put_of z⟩
theorem ds_lcOwn {fe : Env → RE} {st : Stmt} (h : PS X st (tAsg (tDE X.K E fe) (gName i))) : DS X E st (sOwn i fe) := ⟨PS.weak h fun _ _ _ z => own_of z⟩
end
end DL
/-! D13: built-in functions by their names, tests. -/
namespace DL
open PySem L2 PyProof.Rows
/-- names that the module does not bind -/
structure Bl (mg : Str → Option Value) : Prop where
  len : mg "len" = none
  isi : mg "isinstance" = none
  int : mg "int" = none
  bool : mg "bool" = none
  str : mg "str" = none
  list : mg "list" = none
  tuple : mg "tuple" = none
  max : mg "max" = none
  sum : mg "sum" = none
  enum : mg "enumerate" = none
  range : mg "range" = none
  repr : mg "repr" = none
  abs : mg "abs" = none
  sorted : mg "sorted" = none
theorem bt_int : bootBuiltins "int" = some (.type "int") := by decide +kernel
theorem bt_bool : bootBuiltins "bool" = some (.type "bool") := by decide +kernel
theorem bt_str : bootBuiltins "str" = some (.type "str") := by decide +kernel
theorem bt_list : bootBuiltins "list" = some (.type "list") := by decide +kernel
theorem bt_tuple : bootBuiltins "tuple" = some (.type "tuple") := by decide +kernel
theorem bt_len : bootBuiltins "len" = some (.builtin "len") := by decide +kernel
theorem bt_max : bootBuiltins "max" = some (.builtin "max") := by decide +kernel
theorem bt_sum : bootBuiltins "sum" = some (.builtin "sum") := by decide +kernel
section
variable {X : Cx} {E : XK} {e a b : Expr} {es : List Expr} {fa fb : Env → RE} {fr : Env → RL} {p p2 pos : Pos} {k : Nat}
theorem d_len (B : Bl X.mg) (ha : DA X E [e] fr) (hg : Gl X "len" := by rfl) (he : starEach [e] X.env = (false, eval e X.env) :: starEach [] X.env := by rfl) : DE X E (.Call (.Name "len" p) [e] [] pos) (bndA fr gLen) := de_callB call_len cal_len hg B.len bt_len ha (by decide) (by decide) he
theorem d_sum (c : Cn X E k) (B : Bl X.mg) (ha : DA X E [e] fr) (hg : Gl X "sum" := by rfl) (he : starEach [e] X.env = (false, eval e X.env) :: starEach [] X.env := by rfl) : DE X E (.Call (.Name "sum" p) [e] [] pos) (bndA fr gSum) := de_callB (cr_sum c.cm) cal_sum hg B.sum bt_sum ha (by decide) (by decide) he
theorem d_max2 (c : Cn X E k) (B : Bl X.mg) (ha : DA X E [a, b] fr) (hg : Gl X "max" := by rfl) (he : starEach [a, b] X.env = (false, eval a X.env) :: starEach [b] X.env := by rfl) (hpl : (backTo pos (starEach [b] X.env)).any (·.1) = false := by rfl) : DE X E (.Call (.Name "max" p) [a, b] [] pos) (bndA fr gMax2) := de_callB (call_max2 c.cm) cal_max2 hg B.max bt_max ha (by decide) (by decide) he hpl
theorem d_int (B : Bl X.mg) (ha : DA X E [e] fr) (hg : Gl X "int" := by rfl) (he : starEach [e] X.env = (false, eval e X.env) :: starEach [] X.env := by rfl) : DE X E (.Call (.Name "int" p) [e] [] pos) (bndA fr gInt1) := de_callTy call_int1 cal_int1 hg B.int bt_int ha (by decide) (by decide) he
theorem d_list (B : Bl X.mg) (ha : DA X E [e] fr) (hg : Gl X "list" := by rfl) (he : starEach [e] X.env = (false, eval e X.env) :: starEach [] X.env := by rfl) : DE X E (.Call (.Name "list" p) [e] [] pos) (bndA fr gListOf) := de_callTy call_list_of cal_list hg B.list bt_list ha (by decide) (by decide) he
theorem d_tupleOf (B : Bl X.mg) (ha : DA X E [e] fr) (hg : Gl X "tuple" := by rfl) (he : starEach [e] X.env = (false, eval e X.env) :: starEach [] X.env := by rfl) : DE X E (.Call (.Name "tuple" p) [e] [] pos) (bndA fr gTupleOf) := de_callTy call_tuple_of cal_tuple hg B.tuple bt_tuple ha (by decide) (by decide) he
/-- isinstance(e, T) -/
theorem d_isi (B : Bl X.mg) (n : Str) (T : String) (hT : tyOk T = true) (hm : X.mg n = none) (hv : bootBuiltins n = some (.type T)) (ha : DE X E e fa) (hg : Gl X "isinstance" := by rfl) (hgT : Gl X n := by rfl) (hn : n ≠ "__name__" := by decide) (hdT : (n == ("__debug__" : Str)) = false := by decide)
    (he : starEach [e, .Name n p2] X.env = (false, eval e X.env) :: starEach [.Name n p2] X.env := by rfl) (he2 : starEach [.Name n p2] X.env = (false, eval (.Name n p2) X.env) :: starEach [] X.env := by rfl) (hpl : (backTo pos (starEach [.Name n p2] X.env)).any (·.1) = false := by rfl) :
    DE X E (.Call (.Name "isinstance" p) [e, .Name n p2] [] pos) (fOp1 (gIsi T) fa) := de_isi hT hg B.isi hgT hm hv ha hn hdT he he2 hpl
theorem d_isi2 (B : Bl X.mg) (n1 n2 : Str) (T1 T2 : String) {kk : Nat} {p3 p4 : Pos} (hT1 : tyOk T1 = true) (hT2 : tyOk T2 = true) (hm1 : X.mg n1 = none) (hv1 : bootBuiltins n1 = some (.type T1)) (hm2 : X.mg n2 = none) (hv2 : bootBuiltins n2 = some (.type T2)) (ha : DE X E e fa)
    (hg : Gl X "isinstance" := by rfl) (hg1 : Gl X n1 := by rfl) (hg2 : Gl X n2 := by rfl)
    (hn1 : n1 ≠ "__name__" := by decide) (hd1 : (n1 == ("__debug__" : Str)) = false := by decide) (hn2 : n2 ≠ "__name__" := by decide) (hd2 : (n2 == ("__debug__" : Str)) = false := by decide)
    (he : starEach [e, .Tuple [.Name n1 p2, .Name n2 p3] kk p4] X.env = (false, eval e X.env) :: starEach [.Tuple [.Name n1 p2, .Name n2 p3] kk p4] X.env := by rfl)
    (hpl : (backTo pos (starEach [.Tuple [.Name n1 p2, .Name n2 p3] kk p4] X.env)).any (·.1) = false := by rfl) :
    DE X E (.Call (.Name "isinstance" p) [e, .Tuple [.Name n1 p2, .Name n2 p3] kk p4] [] pos) (fOp1 (gIsi2 T1 T2) fa) := de_isi2 hT1 hT2 hg B.isi hg1 hm1 hv1 hg2 hm2 hv2 ha hn1 hd1 hn2 hd2 he hpl
/-- tests -/
theorem t_lt (ha : DE X E a fa) (hb : DE X E b fb) : DT X E (.Compare a [.Lt] [b] pos) (fOp2 gLt fa fb) := dt_cmp op_lt (op2_I0 fun _ _ _ => .bl _) ha hb (nomark _)
theorem t_le (ha : DE X E a fa) (hb : DE X E b fb) : DT X E (.Compare a [.LtE] [b] pos) (fOp2 gLe fa fb) := dt_cmp op_le (op2_I0 fun _ _ _ => .bl _) ha hb (nomark _)
theorem t_gt (ha : DE X E a fa) (hb : DE X E b fb) : DT X E (.Compare a [.Gt] [b] pos) (fOp2 gGt fa fb) := dt_cmp op_gt (op2_I0 fun _ _ _ => .bl _) ha hb (nomark _)
theorem t_ge (ha : DE X E a fa) (hb : DE X E b fb) : DT X E (.Compare a [.GtE] [b] pos) (fOp2 gGe fa fb) := dt_cmp op_ge (op2_I0 fun _ _ _ => .bl _) ha hb (nomark _)
theorem t_eq (c : Cn X E k) (ha : DE X E a fa) (hb : DE X E b fb) : DT X E (.Compare a [.Eq] [b] pos) (fOp2 gEq fa fb) := dt_cmp ((op_eqD c.rm.units).or op_eq) op2_eq ha hb (nomark _)
theorem t_ne (c : Cn X E k) (ha : DE X E a fa) (hb : DE X E b fb) : DT X E (.Compare a [.NotEq] [b] pos) (fOp2 gNe fa fb) := dt_cmp ((op_neD c.rm.units).or op_ne) op2_ne ha hb (nomark _)
theorem t_is (ha : DE X E a fa) (hb : DE X E b fb) : DT X E (.Compare a [.Is] [b] pos) (fOp2 gIsN fa fb) := dt_cmp (op_isN.or op_isBlA) op2_is ha hb (nomark _)
theorem t_isnot (ha : DE X E a fa) (hb : DE X E b fb) : DT X E (.Compare a [.IsNot] [b] pos) (fOp2 gNotN fa fb) := dt_cmp (op_notN.or op_notBlA) op2_not ha hb (nomark _)
/-- a <= b <= c -/
theorem t_le2 {c : Expr} {fc : Env → RE} (ha : DE X E a fa) (hb : DE X E b fb) (hc : DE X E c fc) (hm : lastMarks [.LtE, .LtE] [b, c] = false := by with_unfolding_all rfl) : DT X E (.Compare a [.LtE, .LtE] [b, c] pos) (fChain gLe gLe fa fb fc) :=
  dt_chain op_le (op2_I0 fun _ _ _ => .bl _) op_le (op2_I0 fun _ _ _ => .bl _) ha hb hc hm
/-- displays -/
def gMkL : List D → Option W := fun ds => if ds.length ≤ sizeLine then some (.frs ds) else none
def gMkT : List D → Option W := fun ds => if ds.length ≤ sizeLine then some (.pu (.tuple ds)) else none
theorem de_mkL (ha : DA X E es fr) (hz : es.length ≤ 10000 := by decide) : DE X E (.List es pos) (bndA fr gMkL) := de_lst ha hz
theorem de_mkT {x1} (ha : DA X E es fr) : DE X E (.Tuple es x1 pos) (bndA fr gMkT) := de_tup ha
theorem de_globI {x : Str} {i : Int} {t : Tok} (hm : X.mg x = some (.int i t)) (hg : Gl X x := by rfl) (hd : (x == ("__debug__" : Str)) = false := by decide) : DE X E (.Name x pos) (fC (.int i)) := de_glob (v := .int i) hm ⟨t, rfl⟩ (fun _ => .int i) hg hd
/-- {} -/
def fDict0 : Env → RE := fun ρ => .ok (.pu (.dict [])) ρ
theorem de_dict0 : DE X E (.Dict [] [] pos) fDict0 := ⟨PE.weak pe_dnewK fun σ H Q ⟨τ, A0, P, ρ, S, c⟩ => fun p hp => by
  have e : Ext H (upd H p (.dK [])) := Evl.Ex.new hp
  obtain ⟨n1, n2⟩ := S.fresh hp
  refine c (.ref p) _ P (Stp.ext e) (S.grow e.gr) (.emp (hid_in (fun z => ?_) upd_same))
  rcases List.mem_append.mp z with z | z
  · exact n1 z
  · exact n2 z⟩
end
end DL
/-! D14: a grid of ints of our own, its rows too: made, read, written, returned. -/
namespace DL
open PySem L2 PyProof.Rows
def rowOf : D → Option (List Int)
  | .list ds => intsOf ds
  | _ => none
def rowsOf : List D → Option (List (List Int))
  | [] => some []
  | d :: r => match rowOf d, rowsOf r with
    | some i, some l => some (i :: l)
    | _, _ => none
def gridOf : D → Option (List (List Int))
  | .list ds => rowsOf ds
  | _ => none
def rowD (r : List Int) : D := .list (r.map .int)
def gridD (g : List (List Int)) : D := .list (g.map rowD)
theorem intsOf_eq : ∀ {ds : List D} {l : List Int}, intsOf ds = some l → ds = l.map .int
  | [], l, h => by cases h; rfl
  | .int i :: r, l, h => by
    unfold intsOf at h
    cases q : intsOf r with
    | none => rw [q] at h; cases h
    | some m =>
      rw [q] at h
      cases h
      rw [intsOf_eq q]
      rfl
  | .none :: _, _, h => by cases h
  | .bool _ :: _, _, h => by cases h
  | .str _ :: _, _, h => by cases h
  | .list _ :: _, _, h => by cases h
  | .tuple _ :: _, _, h => by cases h
  | .dict _ :: _, _, h => by cases h
theorem intsOf_map : ∀ l : List Int, intsOf (l.map .int) = some l
  | [] => rfl
  | i :: l => by
    show (intsOf (l.map .int)).map (i :: ·) = _
    rw [intsOf_map l]
    rfl
theorem rowsOf_eq : ∀ {ds : List D} {g : List (List Int)}, rowsOf ds = some g → ds = g.map rowD
  | [], l, h => by cases h; rfl
  | d :: r, l, h => by
    unfold rowsOf at h
    split at h
    · rename_i i l' h1 h2
      cases h
      rw [rowsOf_eq h2]
      cases d with
      | list ds =>
        have h1 : intsOf ds = some i := h1
        rw [intsOf_eq h1]
        rfl
      | _ => cases h1
    · cases h
theorem rowsOf_map : ∀ g : List (List Int), rowsOf (g.map rowD) = some g
  | [] => rfl
  | r :: g => by
    show (match rowOf (rowD r), rowsOf (g.map rowD) with | some i, some l => some (i :: l) | _, _ => none) = _
    rw [rowsOf_map g]
    show (match intsOf (r.map .int), some g with | some i, some l => some (i :: l) | _, _ => none) = _
    rw [intsOf_map r]
theorem gridOf_eq {d : D} {g : List (List Int)} (h : gridOf d = some g) : d = gridD g := by
  cases d with
  | list ds => exact congrArg PyData.list (rowsOf_eq h)
  | _ => cases h
theorem gridOf_grid (g : List (List Int)) : gridOf (gridD g) = some g := rowsOf_map g
theorem ints_rps {K : PySem.W.Frag} {H : Hp} : ∀ l : List Int, Rps K H (l.map V.int) (l.map .int)
  | [] => .nil
  | i :: l => .cons (.int i) (ints_rps l)
/-- no own list, no own grid -/
def bare (ρ : Env) : Bool := ρ.all fun o => match o with
  | some (.nst _) => false
  | some (.own _ _) => false
  | _ => true
theorem bare_own {ρ : Env} (h : bare ρ = true) {i t : Nat} {ds : List D} (q : ρ[i]? = some (some (.own t ds))) : False := by
  have z := List.all_eq_true.mp h _ (List.mem_of_getElem? q)
  cases z
theorem bare_nst {ρ : Env} (h : bare ρ = true) {i : Nat} {g : List (List Int)} (q : ρ[i]? = some (some (.nst g))) : False := by
  have z := List.all_eq_true.mp h _ (List.mem_of_getElem? q)
  cases z
section
variable {K : PySem.W.Frag} {E : XK} {τ : Nat → Addr} {A0 P : List Addr} {H H' : Hp} {σ : L2.St} {ρ : Env}
/-- a new grid of our own gets a slot -/
theorem SRep.putN (S : SRep K τ A0 H σ ρ P) (hb : bare ρ = true) (e : Ext H H') {p : Addr} {qs : List Addr} {g : List (List Int)} (N : Nst H' p qs g) (hn : ∀ a ∈ p :: qs, H a = none) (i : Nat) : SRep K τ A0 H' (σ.set i (some (.ref p))) (ρ.set i (some (.nst g))) (p :: qs ++ P) := by
  have old : ∀ {m : Nat} {s : Sl}, s ≠ .nst g → (ρ.set i (some (.nst g)))[m]? = some (some s) → i ≠ m ∧ ρ[m]? = some (some s) := fun {m s} hs z => by
    by_cases hm : i = m
    · subst hm
      by_cases hi : i < ρ.length
      · rw [List.getElem?_set_self hi] at z
        exact absurd (Option.some.inj (Option.some.inj z)).symm hs
      · rw [List.getElem?_eq_none (by simpa using hi)] at z; cases z
    · rw [List.getElem?_set_ne hm] at z
      exact ⟨hm, z⟩
  have atN : ∀ {m : Nat} {h : List (List Int)}, (ρ.set i (some (.nst g)))[m]? = some (some (.nst h)) → m = i ∧ h = g ∧ i < ρ.length := fun {m h} z => by
    by_cases hm : i = m
    · subst hm
      by_cases hi : i < ρ.length
      · rw [List.getElem?_set_self hi] at z
        cases z
        exact ⟨rfl, rfl, hi⟩
      · rw [List.getElem?_eq_none (by simpa using hi)] at z; cases z
    · rw [List.getElem?_set_ne hm] at z
      exact (bare_nst hb z).elim
  have ex : Ext (hid (P ++ A0) H) (hid ((p :: qs ++ P) ++ A0) H') := fun a o z => by
    obtain ⟨n, z1⟩ := hid_of z
    rw [List.mem_append, not_or] at n
    refine hid_in (fun w => ?_) (e a o z1) (hid_nt z)
    rcases List.mem_append.mp w with w | w
    · rcases List.mem_append.mp w with w | w
      · rw [hn a w] at z1; cases z1
      · exact n.1 w
    · exact n.2 w
  refine ⟨fun j m d q => ?_, fun j t ds q => (bare_own hb (old (fun z => by cases z) q).2).elim, fun j k t u es fs b hjk e1 _ _ => (bare_own hb (old (fun z => by cases z) e1).2).elim, fun a z => ?_, by simpa using S.len, fun a z w => ?_, fun b hb => (S.tb b hb).ext e, fun j h q => ?_⟩
  · obtain ⟨hj, q1⟩ := old (fun z => by cases z) q
    obtain ⟨v, h1, h2, h3⟩ := S.pu j m d q1
    exact ⟨v, by rw [List.getElem?_set_ne hj]; exact h1, h2.ext ex.hs, h3⟩
  · rcases List.mem_append.mp z with z | z
    · rcases List.mem_append.mp z with z | z
      · rcases List.mem_cons.mp z with z | z
        · rw [z, N.top]; exact fun w => nomatch w
        · obtain ⟨j, hj⟩ := List.mem_iff_getElem?.mp z
          have hlt : j < g.length := by rw [← N.len]; exact (List.getElem?_eq_some_iff.mp hj).1
          rw [N.row j a _ hj (List.getElem?_eq_getElem hlt)]
          exact fun w => by cases w
      · exact fun w => S.tr a (List.mem_append_left _ z) (e.back w)
    · exact fun w => S.tr a (List.mem_append_right _ z) (e.back w)
  · rcases List.mem_append.mp z with z | z
    · exact S.tr a (List.mem_append_right _ w) (hn a z)
    · exact S.dj a z w
  · obtain ⟨rfl, rfl, hi⟩ := atN q
    exact ⟨⟨p, qs, List.getElem?_set_self (by rw [S.len]; exact hi), N, fun a z => List.mem_append_left _ z⟩, fun k h2 z => (atN z).1, fun k t ds z => (bare_own hb (old (fun w => by cases w) z).2).elim⟩
end
/-- name = [list(x) for x in e], e a grid of ints -/
def sCopy (i k : Nat) (fa : Env → RE) : Env → RS := fun ρ => match fa ρ with
  | .ok w ρ1 => (match gridOf w.d with
    | some g => if bare ρ1 = true ∧ k < ρ1.length ∧ g.length ≤ sizeLine then .nx (ρ1.set i (some (.nst g))) else .st
    | none => .st)
  | .err c d => .err c d
  | .st => .st
section
variable {K : PySem.W.Frag} {E : XK} {σ : L2.St} {H : Hp} {Dn : Ends}
abbrev rLO (K : PySem.W.Frag) : List V → Hp → VK → Prop := fun xs H Q => ∃ p ys, xs = [.ref p] ∧ (SqL K H p ys ∨ SqT K H p ys) ∧ ∀ l, H l = none → Q (.ref l) (upd H l (.lst ys))
theorem copy_of {i k : Nat} {fa : Env → RE} (h : tDS K E (sCopy i k fa) Dn σ H) :
    tAsg (tLc (tDI K E (srcE fa itemsL)) (gName k) tYes (tCB (rLO K) (tCons (tVar k) tNil)) [k]) (gName i) Dn σ H := by
  obtain ⟨τ, A0, P, ρ, S, c⟩ := h
  refine ⟨τ, A0, P, ρ, S, ?_⟩
  unfold sCopy at c
  unfold srcE
  cases q : fa ρ with
  | err cc d => rw [q] at c; exact c
  | st => rw [q] at c; exact c.elim
  | ok w ρ1 =>
    rw [q] at c
    dsimp only at c ⊢
    cases q2 : gridOf w.d with
    | none => rw [q2] at c; exact c.elim
    | some g =>
      rw [q2] at c
      dsimp only at c
      by_cases cd : bare ρ1 = true ∧ k < ρ1.length ∧ g.length ≤ sizeLine
      rotate_left
      · rw [if_neg cd] at c
        exact c.elim
      rw [if_pos cd] at c
      obtain ⟨hb, hk, hz⟩ := cd
      rw [gridOf_eq q2]
      show CDI K E τ A0 H P σ (.ok (g.map rowD) ρ1) _
      intro J H1 P1 t1 S1 wk Dl hD
      have inv0 : ∀ {H' : Hp}, Ext H1 H' → Stp K H1 P1 H' P1 := fun e => Stp.ext e
      refine ⟨fun i m H' => m = g.length - i ∧ i ≤ g.length ∧ ∃ qs : List Addr, Ext H1 H' ∧ Nst H' Dl qs (g.take i) ∧ ∀ a ∈ Dl :: qs, H1 a = none, ⟨_, rfl, Nat.zero_le _, [], Evl.Ex.new hD, ⟨upd_same, by simp, by simp, fun j q r e => by simp at e⟩, fun a z => by rw [List.mem_singleton.mp z]; exact hD⟩, ?_⟩
      rintro j m H' ⟨rfl, hj, qs, ex, N, hn⟩
      obtain ⟨w1, w2⟩ := wk A0 j H' P1 (fun a z => .inl z) (Stp.ext ex)
      cases q3 : g[j]? with
      | none =>
        have hle : g.length ≤ j := List.getElem?_eq_none_iff.mp q3
        refine .inl ⟨w2 (by simpa using hle), ?_⟩
        have ej : g.take j = g := List.take_of_length_le hle
        rw [ej] at N
        refine c _ H' (Dl :: qs ++ P1) ⟨fun a o n z nt => ex a o (t1.kp a o n z nt), fun a z => ?_, fun a z => t1.al a (ex.back z), fun z => (t1.tb z).ext ex⟩ (S1.putN hb ex N hn i)
        rcases List.mem_append.mp z with z | z
        · exact .inr (t1.al a (hn a z))
        · exact t1.nw a z
      | some row =>
        have hlt : j < g.length := (List.getElem?_eq_some_iff.mp q3).1
        obtain ⟨go, yl⟩ := w1 (rowD row) (by rw [List.getElem?_map, q3]; rfl)
        refine .inr ⟨go, fun H4 => ∃ qs : List Addr, Ext H1 H4 ∧ Nst H4 Dl qs (g.take (j + 1)) ∧ ∀ a ∈ Dl :: qs, H1 a = none, fun H4 ⟨qs4, k1, k2, k3⟩ => ⟨g.length - (j + 1), by omega, rfl, hlt, qs4, k1, k2, k3⟩, fun x H4 y => ?_⟩
        obtain ⟨e4, rx⟩ := yl x H4 y
        have tr' : ∀ a ∈ P1 ++ A0, H' a ≠ none := fun a z w => S1.tr a z (ex.back w)
        obtain ⟨b, xs, rfl, hx, rr⟩ := rp_lst (rx tr')
        have exs := rps_ints rr (intsOf_map row)
        subst exs
        have N4 : Nst H4 Dl qs (g.take j) := N.gr fun a xs _ z => e4 a _ z
        have ex4 : Ext H1 H4 := ex.trans e4
        have hkσ : k < (wipe σ [k]).length := by rw [wipe_length, S1.len]; exact hk
        have wkk : wipe ((wipe σ [k]).set k (some (.ref b))) [k] = wipe σ [k] := by
          show ((((σ.set k none).set k (some (V.ref b)))).set k none) = σ.set k none
          rw [List.set_set, List.set_set]
        refine ⟨wkk, ?_⟩
        unfold tYes
        dsimp only
        rw [if_pos rfl]
        refine ⟨.ref b, List.getElem?_set_self hkσ, b, row.map V.int, rfl, .inl (.inl (.inl hx)), fun l hl => ?_⟩
        have hne : Dl ≠ l := ne_of_none N4.top hl
        have hnl : H1 l = none := ex4.back hl
        refine ⟨qs.map V.ref, ?_, ?_, qs ++ [l], ?_, ?_, ?_⟩
        · rw [upd_ne hne]; exact N4.top
        · rw [List.length_map, N4.len, List.length_take]; omega
        · exact fun a o z => by
            have z1 := Evl.Ex.new (o := .lst (row.map V.int)) hl a o (ex4 a o z)
            rw [upd_ne (fun w => by rw [w, hD] at z; cases z)]
            exact z1
        · have nin : l ∉ qs := fun z => by
            obtain ⟨m, hm⟩ := List.mem_iff_getElem?.mp z
            have hml : m < (g.take j).length := by rw [← N4.len]; exact (List.getElem?_eq_some_iff.mp hm).1
            have := N4.row m l _ hm (List.getElem?_eq_getElem hml)
            rw [hl] at this
            cases this
          refine ⟨by rw [upd_same, List.map_append]; rfl, ?_, ?_, fun m q r e1 e2 => ?_⟩
          · rw [← List.cons_append, List.nodup_append]
            refine ⟨N4.nd, by simp, fun a ha b hb e => ?_⟩
            rw [List.mem_singleton.mp hb] at e
            rcases List.mem_cons.mp ha with z | z
            · exact hne (by rw [← z, e])
            · exact nin (by rw [← e]; exact z)
          · rw [List.length_append, N4.len, List.length_take, List.length_take, List.length_singleton]
            omega
          · have lq : qs.length = j := by rw [N4.len, List.length_take]; omega
            have qne : q ≠ Dl := fun z => by
              have nd := N4.nd
              rw [List.nodup_cons] at nd
              rw [z] at e1
              rcases List.mem_append.mp (List.mem_of_getElem? e1) with w | w
              · exact nd.1 w
              · exact hne (List.mem_singleton.mp w)
            rw [upd_ne qne]
            by_cases hm : m < j
            · rw [List.getElem?_append_left (by omega)] at e1
              have e3 : (g.take j)[m]? = some r := by
                rw [List.getElem?_take_of_lt hm]
                rw [List.getElem?_take_of_lt (by omega)] at e2
                exact e2
              rw [upd_ne (fun z => nin (by rw [← z]; exact List.mem_of_getElem? e1))]
              exact N4.row m q r e1 e3
            · have hmj : m = j := by
                have := (List.getElem?_eq_some_iff.mp e1).1
                rw [List.length_append, List.length_singleton] at this
                omega
              subst hmj
              rw [List.getElem?_append_right (by omega), lq, Nat.sub_self] at e1
              cases e1
              rw [List.getElem?_take_of_lt (by omega), q3] at e2
              cases e2
              exact upd_same
        · intro a z
          rcases List.mem_cons.mp z with z | z
          · rw [z]; exact hD
          · rcases List.mem_append.mp z with z | z
            · exact hn a (List.mem_cons_of_mem _ z)
            · rw [List.mem_singleton.mp z]; exact hnl
end
end DL
/-! D15: .. its rules. -/
namespace DL
open PySem L2 PyProof.Rows
def getG (g : List (List Int)) (a b : Int) : Option Int := (atI g a).bind fun row => atI row b
def setG (g : List (List Int)) (a b z : Int) : Option (List (List Int)) := (ixN g.length a).bind fun m => (g[m]?).bind fun row => (ixN row.length b).map fun n => g.set m (row.set n z)
theorem nodup_at {α : Type} : ∀ {l : List α} {i j : Nat} {x : α}, l.Nodup → l[i]? = some x → l[j]? = some x → i = j
  | [], _, _, _, _, h, _ => by simp at h
  | a :: l, 0, 0, _, _, _, _ => rfl
  | a :: l, 0, j + 1, x, nd, h1, h2 => by
    rw [List.nodup_cons] at nd
    have e : a = x := by simpa using h1
    exact absurd (List.mem_of_getElem? (by simpa using h2)) (by rw [← e]; exact nd.1)
  | a :: l, i + 1, 0, x, nd, h1, h2 => by
    rw [List.nodup_cons] at nd
    have e : a = x := by simpa using h2
    exact absurd (List.mem_of_getElem? (by simpa using h1)) (by rw [← e]; exact nd.1)
  | a :: l, i + 1, j + 1, x, nd, h1, h2 => by
    rw [List.nodup_cons] at nd
    rw [nodup_at nd.2 (i := i) (j := j) (by simpa using h1) (by simpa using h2)]
section
variable {K : PySem.W.Frag} {E : XK} {τ : Nat → Addr} {A0 P : List Addr} {H : Hp} {σ : L2.St} {ρ : Env}
theorem SRep.intAt (S : SRep K τ A0 H σ ρ P) {j m : Nat} {a : Int} (h : ρ[j]? = some (some (.pub m (.int a)))) : σ[j]? = some (some (.int a)) := by
  obtain ⟨v, h1, h2⟩ := S.puD h
  rw [rp_int h2] at h1
  exact h1
/-- one of our own rows changes -/
theorem SRep.chgN {i k n : Nat} {g : List (List Int)} {row : List Int} {z : Int} {p q : Addr} {qs : List Addr} (S : SRep K τ A0 H σ ρ P) (hi : ρ[i]? = some (some (.nst g))) (hp : σ[i]? = some (some (.ref p))) (N : Nst H p qs g) (hP : ∀ a ∈ p :: qs, a ∈ P) (hq : qs[k]? = some q) (hg : g[k]? = some row) :
    SRep K τ A0 (L2.upd H q (.lst ((row.set n z).map V.int))) σ (ρ.set i (some (.nst (g.set k (row.set n z))))) P ∧ Stp K H P (L2.upd H q (.lst ((row.set n z).map V.int))) P := by
  have hqP : q ∈ P := hP q (List.mem_cons_of_mem _ (List.mem_of_getElem? hq))
  have hlq : H q = some (.lst (row.map V.int)) := N.row k q row hq hg
  have hl : i < ρ.length := (List.getElem?_eq_some_iff.mp hi).1
  have nd := N.nd
  rw [List.nodup_cons] at nd
  have hne : p ≠ q := fun z => nd.1 (by rw [z]; exact List.mem_of_getElem? hq)
  have noOwn := (S.ns i g hi).2.2
  have old : ∀ {m : Nat} {s : Sl}, (∀ h, s ≠ .nst h) → (ρ.set i (some (.nst (g.set k (row.set n z)))))[m]? = some (some s) → i ≠ m ∧ ρ[m]? = some (some s) := fun {m s} hs w => by
    by_cases hm : i = m
    · subst hm
      rw [List.getElem?_set_self hl] at w
      exact absurd (Option.some.inj (Option.some.inj w)).symm (hs _)
    · rw [List.getElem?_set_ne hm] at w
      exact ⟨hm, w⟩
  refine ⟨⟨fun j m d w => ?_, fun j t ds w => absurd (old (fun _ y => by cases y) w).2 (noOwn j t ds), fun j k2 t u es fs b hjk e1 _ _ => absurd (old (fun _ y => by cases y) e1).2 (noOwn j t es), fun a w y => ?_, by simpa using S.len, S.dj, fun b hb => tab_lst hlq (S.tb b hb), fun j h w => ?_⟩, stp_own hqP hlq⟩
  · obtain ⟨_, w1⟩ := old (fun _ y => by cases y) w
    rw [hid_upd_in (hs_mem (List.mem_append_left _ hqP))]
    exact S.pu j m d w1
  · by_cases ha : a = q
    · rw [ha, upd_same] at y; cases y
    · rw [upd_ne ha] at y
      exact S.tr a w y
  · by_cases hj : i = j
    · subst hj
      rw [List.getElem?_set_self hl] at w
      cases w
      refine ⟨⟨p, qs, hp, ⟨by rw [upd_ne hne]; exact N.top, N.nd, by rw [List.length_set]; exact N.len, fun j q2 r e1 e2 => ?_⟩, hP⟩, fun j2 h2 w => ?_, fun j2 t ds w => absurd (old (fun _ y => by cases y) w).2 (noOwn j2 t ds)⟩
      · by_cases hjk : k = j
        · subst hjk
          rw [hq] at e1
          cases e1
          rw [List.getElem?_set_self (List.getElem?_eq_some_iff.mp hg).1] at e2
          cases e2
          exact upd_same
        · rw [List.getElem?_set_ne hjk] at e2
          have nq : q2 ≠ q := fun y => by
            have e1' := e1
            rw [y] at e1'
            exact hjk (nodup_at nd.2 hq e1')
          rw [upd_ne nq]
          exact N.row j q2 r e1 e2
      · by_cases h3 : i = j2
        · exact h3.symm
        · rw [List.getElem?_set_ne h3] at w
          exact (S.ns i g hi).2.1 j2 h2 w
    · rw [List.getElem?_set_ne hj] at w
      exact absurd ((S.ns i g hi).2.1 j h w) (Ne.symm hj)
theorem atI_at {α : Type} {l : List α} {a : Int} {x : α} (h : atI l a = some x) : ∃ m, ixN l.length a = some m ∧ l[m]? = some x := by
  unfold atI at h
  cases q : ixN l.length a with
  | none => rw [q] at h; cases h
  | some m => rw [q] at h; exact ⟨m, rfl, h⟩
theorem atI_of {α : Type} {l : List α} {a : Int} {x : α} {m n : Nat} (hn : l.length = n) (h1 : ixN n a = some m) (h2 : l[m]? = some x) : atI l a = some x := by
  unfold atI
  rw [hn, h1]
  exact h2
theorem qs_at {p : Addr} {qs : List Addr} {g : List (List Int)} (N : Nst H p qs g) {m : Nat} {row : List Int} (h : g[m]? = some row) : ∃ q, qs[m]? = some q := by
  have hlt : m < qs.length := by rw [N.len]; exact (List.getElem?_eq_some_iff.mp h).1
  exact ⟨_, List.getElem?_eq_getElem hlt⟩
theorem setN_step (S : SRep K τ A0 H σ ρ P) {i j1 j2 m1 m2 : Nat} {g g' : List (List Int)} {a b z : Int} (hi : ρ[i]? = some (some (.nst g))) (h1 : ρ[j1]? = some (some (.pub m1 (.int a)))) (h2 : ρ[j2]? = some (some (.pub m2 (.int b)))) (hs : setG g a b z = some g') :
    ∃ H', Stp K H P H' P ∧ SRep K τ A0 H' σ (ρ.set i (some (.nst g'))) P ∧ ∀ Q : L2.St → Hp → Prop, Q σ H' → L2.gSub (tOp (rIx K) (tVar i) (tVar j1)) (tVar j2) rSetL (.int z) σ H Q := by
  obtain ⟨⟨p, qs, hp, N, hP⟩, _⟩ := S.ns i g hi
  unfold setG at hs
  cases q1 : ixN g.length a with
  | none => rw [q1] at hs; cases hs
  | some m =>
    rw [q1] at hs
    cases q2 : g[m]? with
    | none => rw [Option.bind_some, q2] at hs; cases hs
    | some row =>
      rw [Option.bind_some, q2, Option.bind_some] at hs
      cases q3 : ixN row.length b with
      | none => rw [q3] at hs; cases hs
      | some n =>
        rw [q3] at hs
        cases hs
        obtain ⟨q, hq⟩ := qs_at N q2
        obtain ⟨S2, t2⟩ := S.chgN (n := n) (z := z) hi hp N hP hq q2
        refine ⟨_, t2, S2, fun Q k => ?_⟩
        refine ⟨.ref p, hp, .int a, S.intAt h1, .inl ⟨p, qs.map V.ref, a, .ref q, rfl, rfl, .inl (.inl N.top), atI_of (by rw [List.length_map]; exact N.len) q1 (by rw [List.getElem?_map, hq]; rfl), ?_⟩⟩
        refine ⟨.int b, S.intAt h2, q, row.map V.int, b, n, rfl, rfl, N.row m q row hq q2, by rw [List.length_map]; exact q3, ?_⟩
        rw [← List.map_set]
        exact k
end
/-- told[x][y] -/
def fIxN (i j1 j2 : Nat) : Env → RE := fun ρ => match ρ[i]?, ρ[j1]?, ρ[j2]? with
  | some (some (.nst g)), some (some (.pub _ (.int a))), some (some (.pub _ (.int b))) => resW ((getG g a b).map fun z => .pu (.int z)) ρ
  | _, _, _ => .st
def sSetN (i j1 j2 : Nat) (fe : Env → RE) : Env → RS := sE fe fun w ρ => match w.d, ρ[i]?, ρ[j1]?, ρ[j2]? with
  | .int z, some (some (.nst g)), some (some (.pub _ (.int a))), some (some (.pub _ (.int b))) => (match setG g a b z with
    | some g' => .nx (ρ.set i (some (.nst g')))
    | none => .st)
  | _, _, _, _ => .st
def sSetN2 (i j1 j2 j3 j4 : Nat) (fe : Env → RE) : Env → RS := sE fe fun w ρ => match w.d, ρ[i]?, ρ[j1]?, ρ[j2]?, ρ[j3]?, ρ[j4]? with
  | .tuple [.int z, .int y], some (some (.nst g)), some (some (.pub _ (.int a))), some (some (.pub _ (.int b))), some (some (.pub _ (.int c))), some (some (.pub _ (.int d))) => (match setG g a b z with
    | some g' => (match setG g' c d y with
      | some g'' => if i ≠ j3 ∧ i ≠ j4 then .nx ((ρ.set i (some (.nst g'))).set i (some (.nst g''))) else .st
      | none => .st)
    | none => .st)
  | _, _, _, _, _, _ => .st
def sRetN (i : Nat) : Env → RS := fun ρ => match ρ[i]? with
  | some (some (.nst g)) => .ret (.frs (g.map rowD)) (ρ.set i none)
  | _ => .st
section
variable {X : Cx} {E : XK} {i j1 j2 j3 j4 k : Nat} {e n0 n1 n2 : Expr} {fe : Env → RE} {pos p1 p2 : Pos}
theorem de_ixN (h0 : PE X n0 (tVar i)) (h1 : PE X n1 (tVar j1)) (h2 : PE X n2 (tVar j2)) (hs1 : PlainIx n1 := by exact fun _ _ => rfl) (hs2 : PlainIx n2 := by exact fun _ _ => rfl) : DE X E (.Subscript (.Subscript n0 n1 p1) n2 p2) (fIxN i j1 j2) := by
  refine ⟨PE.weak (pe_ix ix_seq (pe_ix ix_seq h0 h1 hs1) h2 hs2) fun σ H Q ⟨τ, A0, P, ρ, S, c⟩ => ?_⟩
  unfold fIxN at c
  split at c
  · rename_i g m1 a m2 b q0 q1 q2
    obtain ⟨⟨p, qs, hp, N, hP⟩, _⟩ := S.ns i g q0
    unfold getG at c
    cases r1 : atI g a with
    | none => rw [r1] at c; exact c.elim
    | some row =>
      rw [r1, Option.bind_some] at c
      cases r2 : atI row b with
      | none => rw [r2] at c; exact c.elim
      | some z =>
        rw [r2] at c
        obtain ⟨m, e1, e2⟩ := atI_at r1
        obtain ⟨n, e3, e4⟩ := atI_at r2
        obtain ⟨q, hq⟩ := qs_at N e2
        refine ⟨.ref p, hp, .int a, S.intAt q1, .inl ⟨p, qs.map V.ref, a, .ref q, rfl, rfl, .inl (.inl N.top), atI_of (by rw [List.length_map]; exact N.len) e1 (by rw [List.getElem?_map, hq]; rfl), ?_⟩⟩
        refine ⟨.int b, S.intAt q2, .inl ⟨q, row.map V.int, b, .int z, rfl, rfl, .inl (.inl (N.row m q row hq e2)), atI_of (by rw [List.length_map]) e3 (by rw [List.getElem?_map, e4]; rfl), ?_⟩⟩
        exact c (.int z) H P (Stp.rfl H P) S (.int z)
  · exact c.elim
theorem ds_setN (h0 : PE X n0 (tVar i)) (h1 : PE X n1 (tVar j1)) (h2 : PE X n2 (tVar j2)) (he : DE X E e fe) (hs1 : PlainIx n1 := by exact fun _ _ => rfl)
    (ha : ∀ v, assign (.Subscript (.Subscript n0 n1 p1) n2 p2) X.env v = (do
      let ov ← holding [v] (eval (.Subscript n0 n1 p1) X.env)
      let iv ← holding [v, ov] (eval n2 X.env)
      standAt p2
      holding [v, ov, iv] (setItem ov iv v)
      release [v, ov, iv] []) := by intro _; rfl)
    (hs : swapsWithSole [.Subscript (.Subscript n0 n1 p1) n2 p2] e pos.line X.env = pure false := by rfl) (hw : swappedStores [.Subscript (.Subscript n0 n1 p1) n2 p2] e X.env = pure none := by rfl) (hh : (assignEach [.Subscript (.Subscript n0 n1 p1) n2 p2] X.env).map (·.2) = [assign (.Subscript (.Subscript n0 n1 p1) n2 p2) X.env] := by rfl) :
    DS X E (.Assign [.Subscript (.Subscript n0 n1 p1) n2 p2] e pos) (sSetN i j1 j2 fe) := by
  refine ⟨PS.weak (ps_asg he.pe (pg_sub (pe_ix ix_seq h0 h1 hs1) h2 set_list ha) hs hw hh) fun Dn σ H ⟨τ, A0, P, ρ, S, c⟩ => ⟨τ, A0, P, ρ, S, CDE.toD ?_⟩⟩
  unfold sSetN sE at c
  cases q : fe ρ with
  | err cc d => rw [q] at c; exact c
  | st => rw [q] at c; exact c
  | ok w ρ1 =>
    rw [q] at c
    dsimp only at c
    intro v H1 P1 t1 S1 r1
    split at c
    · rename_i z g m1 a m2 b qw q0 q1 q2
      rw [qw] at r1
      rw [rp_int r1]
      cases q3 : setG g a b z with
      | none => rw [q3] at c; exact c.elim
      | some g' =>
        rw [q3] at c
        obtain ⟨H2, t2, S2, kk⟩ := setN_step S1 q0 q1 q2 q3
        exact kk _ (c σ H2 P1 (t1.trans t2) S2)
    · exact c.elim
theorem ds_setN2 {m0 m1 m2 : Expr} {p3 p4 pt : Pos} {kt : Nat} (hc : X.calm = true) (h0 : PE X n0 (tVar i)) (h1 : PE X n1 (tVar j1)) (h2 : PE X n2 (tVar j2)) (h3 : PE X m0 (tVar i)) (h4 : PE X m1 (tVar j3)) (h5 : PE X m2 (tVar j4)) (he : DE X E e fe) (hs1 : PlainIx n1 := by exact fun _ _ => rfl) (hs2 : PlainIx m1 := by exact fun _ _ => rfl)
    (ha : ∀ v, assign (.Subscript (.Subscript n0 n1 p1) n2 p2) X.env v = (do
      let ov ← holding [v] (eval (.Subscript n0 n1 p1) X.env)
      let iv ← holding [v, ov] (eval n2 X.env)
      standAt p2
      holding [v, ov, iv] (setItem ov iv v)
      release [v, ov, iv] []) := by intro _; rfl)
    (ha2 : ∀ v, assign (.Subscript (.Subscript m0 m1 p3) m2 p4) X.env v = (do
      let ov ← holding [v] (eval (.Subscript m0 m1 p3) X.env)
      let iv ← holding [v, ov] (eval m2 X.env)
      standAt p4
      holding [v, ov, iv] (setItem ov iv v)
      release [v, ov, iv] []) := by intro _; rfl)
    (hs : swapsWithSole [.Tuple [.Subscript (.Subscript n0 n1 p1) n2 p2, .Subscript (.Subscript m0 m1 p3) m2 p4] kt pt] e pos.line X.env = pure false := by rfl) (hw : swappedStores [.Tuple [.Subscript (.Subscript n0 n1 p1) n2 p2, .Subscript (.Subscript m0 m1 p3) m2 p4] kt pt] e X.env = pure none := by rfl)
    (hh : (assignEach [.Tuple [.Subscript (.Subscript n0 n1 p1) n2 p2, .Subscript (.Subscript m0 m1 p3) m2 p4] kt pt] X.env).map (·.2) = [assign (.Tuple [.Subscript (.Subscript n0 n1 p1) n2 p2, .Subscript (.Subscript m0 m1 p3) m2 p4] kt pt) X.env] := by rfl) :
    DS X E (.Assign [.Tuple [.Subscript (.Subscript n0 n1 p1) n2 p2, .Subscript (.Subscript m0 m1 p3) m2 p4] kt pt] e pos) (sSetN2 i j1 j2 j3 j4 fe) := by
  refine ⟨PS.weak (ps_asg he.pe (pg_tup (n := 2) hc (pgs_cons (pg_sub (pe_ix ix_seq h0 h1 hs1) h2 set_list ha) (pgs_cons (pg_sub (pe_ix ix_seq h3 h4 hs2) h5 set_list ha2) pgs_nil))) hs hw hh) fun Dn σ H ⟨τ, A0, P, ρ, S, c⟩ => ⟨τ, A0, P, ρ, S, CDE.toD ?_⟩⟩
  unfold sSetN2 sE at c
  cases q : fe ρ with
  | err cc d => rw [q] at c; exact c
  | st => rw [q] at c; exact c
  | ok w ρ1 =>
    rw [q] at c
    dsimp only at c
    intro v H1 P1 t1 S1 r1
    split at c
    · rename_i z y g m1 a m2 b m3 cc m4 d qw q0 q1 q2 q3 q4
      rw [qw] at r1
      obtain ⟨t, xs, rfl, ht, rt⟩ := rp_tup r1
      obtain ⟨v1, v2, rfl, rv1, rv2⟩ := rps_two rt
      rw [rp_int rv1, rp_int rv2] at ht
      cases q5 : setG g a b z with
      | none => rw [q5] at c; exact c.elim
      | some g' =>
        rw [q5] at c
        dsimp only at c
        cases q6 : setG g' cc d y with
        | none => rw [q6] at c; exact c.elim
        | some g'' =>
          rw [q6] at c
          dsimp only at c
          by_cases hij : i ≠ j3 ∧ i ≠ j4
          rotate_left
          · rw [if_neg hij] at c
            exact c.elim
          rw [if_pos hij] at c
          obtain ⟨H2, t2, S2, kk⟩ := setN_step S1 q0 q1 q2 q5
          have hl : i < ρ1.length := (List.getElem?_eq_some_iff.mp q0).1
          obtain ⟨H3, t3, S3, kk3⟩ := setN_step S2 (List.getElem?_set_self hl) (by rw [List.getElem?_set_ne hij.1]; exact q3) (by rw [List.getElem?_set_ne hij.2]; exact q4) q6
          refine ⟨t, [.int z, .int y], rfl, .inl (.inl ht), rfl, .int z, _, rfl, kk _ ⟨.int y, _, rfl, kk3 _ ⟨rfl, c σ H3 P1 (t1.trans (t2.trans t3)) S3⟩⟩⟩
    · exact c.elim
theorem ds_retN2 (h : PE X e (tVar i)) : DS X E (.Return (some e) pos) (sRetN i) := by
  refine ⟨PS.weak (ps_ret h) fun Dn σ H ⟨τ, A0, P, ρ, S, c⟩ => ?_⟩
  unfold sRetN at c
  split at c
  · rename_i g q
    obtain ⟨⟨p, qs, hp, N, hP⟩, u2, u3⟩ := S.ns i g q
    refine ⟨.ref p, hp, ?_⟩
    have hl : i < ρ.length := (List.getElem?_eq_some_iff.mp q).1
    have pA : ∀ a ∈ p :: qs, a ∉ A0 := fun a z => S.dj a (hP a z)
    have nd := N.nd
    rw [List.nodup_cons] at nd
    have old : ∀ {m : Nat} {s : Sl}, (ρ.set i none)[m]? = some (some s) → i ≠ m ∧ ρ[m]? = some (some s) := fun {m s} w => by
      by_cases hm : i = m
      · subst hm
        rw [List.getElem?_set_self hl] at w
        cases w
      · rw [List.getElem?_set_ne hm] at w
        exact ⟨hm, w⟩
    have mem : ∀ a, a ∈ P.filter (fun a => decide (a ∉ p :: qs)) → a ∈ P ∧ a ∉ p :: qs := fun a z => ⟨(List.mem_filter.mp z).1, of_decide_eq_true (List.mem_filter.mp z).2⟩
    have ex : Ext (hid (P ++ A0) H) (hid (P.filter (fun a => decide (a ∉ p :: qs)) ++ p :: A0) H) := hid_less fun a z => by
      rcases List.mem_append.mp z with z | z
      · exact List.mem_append_left _ (mem a z).1
      · rcases List.mem_cons.mp z with z | z
        · rw [z]; exact List.mem_append_left _ (hP p List.mem_cons_self)
        · exact List.mem_append_right _ z
    refine c p (qs.map V.ref) σ H (P.filter (fun a => decide (a ∉ p :: qs))) ⟨fun _ _ _ z _ => z, fun a z => .inl (mem a z).1, fun _ z => z, fun z => z⟩ (.inl (hP p List.mem_cons_self)) (fun z => (mem p z).2 List.mem_cons_self) (pA p List.mem_cons_self) ⟨fun j m d w => ?_, fun j t ds w => absurd (old w).2 (u3 j t ds), fun j k t u es fs b hjk e1 _ _ => absurd (old e1).2 (u3 j t es), fun a z => ?_, by simpa using S.len, fun a z w => ?_, S.tb, fun j h w => absurd (u2 j h (old w).2) (Ne.symm (old w).1)⟩ N.top ?_
    · obtain ⟨_, w1⟩ := old w
      obtain ⟨v, b1, b2, b3⟩ := S.pu j m d w1
      exact ⟨v, b1, b2.ext ex.hs, b3⟩
    · rcases List.mem_append.mp z with z | z
      · exact S.tr a (List.mem_append_left _ (mem a z).1)
      · rcases List.mem_cons.mp z with z | z
        · rw [z, N.top]; exact fun w => by cases w
        · exact S.tr a (List.mem_append_right _ z)
    · rcases List.mem_cons.mp w with w | w
      · exact (mem a z).2 (by rw [w]; exact List.mem_cons_self)
      · exact S.dj a (mem a z).1 w
    · have go : ∀ (qs' : List Addr) (g' : List (List Int)), qs'.length = g'.length → (∀ q ∈ qs', q ∈ qs) → (∀ (j : Nat) (q : Addr) (r : List Int), qs'[j]? = some q → g'[j]? = some r → H q = some (.lst (r.map V.int))) → Rps X.K (hid (P.filter (fun a => decide (a ∉ p :: qs)) ++ p :: A0) H) (qs'.map V.ref) (g'.map rowD) := by
        intro qs'
        induction qs' with
        | nil => intro g' hl _ _; cases g' with
          | nil => exact .nil
          | cons _ _ => cases hl
        | cons a qs' ih =>
          intro g' hl hm hr
          cases g' with
          | nil => cases hl
          | cons r g' =>
            refine .cons (.lst (hid_in (fun z => ?_) (hr 0 a r rfl rfl)) (ints_rps r)) (ih g' (by simpa using hl) (fun q hq => hm q (List.mem_cons_of_mem _ hq)) fun j q2 r2 e1 e2 => hr (j + 1) q2 r2 (by simpa using e1) (by simpa using e2))
            have ha := hm a List.mem_cons_self
            rcases List.mem_append.mp z with z | z
            · exact (mem a z).2 (List.mem_cons_of_mem _ ha)
            · rcases List.mem_cons.mp z with z | z
              · exact nd.1 (by rw [← z]; exact ha)
              · exact pA a (List.mem_cons_of_mem _ ha) z
      exact go qs g N.len (fun _ z => z) N.row
  · exact c.elim
end
section
variable {X : Cx} {E : XK} {i k n : Nat} {y x : Str} {iter : Expr} {scope : Scope} {pos spos py p1 p2 p3 : Pos} {fa : Env → RE}
/-- name = [list(x) for x in e] -/
theorem ds_copy (c : Cn X E n) (B : Bl X.mg) (hN : X.N.Nodup) (hy : X.N[i]? = some y) (hi : DE X E iter fa) (ok : BlkOk X.N X.env.scope scope [(x, k)])
    (hg : ∀ (s : Shared) (H : Hp) (C : Addr) (cl : List (Str × Addr)) (fp : List Addr), PG (X.blk s H scope (compEnvC scope cl C X.env) fp) (.Name x p1) (gName k))
    (he : ∀ (s : Shared) (H : Hp) (C : Addr) (cl : List (Str × Addr)) (fp : List Addr), PE (X.blk s H scope (compEnvC scope cl C X.env) fp) (.Name x p2) (tVar k))
    (hgl : ∀ (s : Shared) (H : Hp) (C : Addr) (cl : List (Str × Addr)) (fp : List Addr), Gl (X.blk s H scope (compEnvC scope cl C X.env) fp) "list")
    (hst : ∀ (s : Shared) (H : Hp) (C : Addr) (cl : List (Str × Addr)) (fp : List Addr), starEach [.Name x p2] (X.blk s H scope (compEnvC scope cl C X.env) fp).env = (false, eval (.Name x p2) (X.blk s H scope (compEnvC scope cl C X.env) fp).env) :: starEach [] (X.blk s H scope (compEnvC scope cl C X.env) fp).env)
    (hyl : X.env.scope.names.lookup y = some .local) (hk : X.env.scope.kind = .function := by rfl) (hl : (py.line == pos.line) = true := by rfl) (ha : (scope.names.any fun (n, k) => n == y && (k == .local || k == .cell)) = false := by decide) (hs : ∀ x, foldedSetIterable iter X.env x = pure x := by intro _; rfl) {pc pf : Pos} :
    DS X E (.Assign [.Name y py] (.ListComp (.Call (.Name "list" pf) [.Name x p2] [] pc) [⟨.Name x p1, iter, [], 0⟩] scope pos) spos) (sCopy i k fa) :=
  ⟨PS.weak (ps_setLc c.cm hN hy hyl (sw_true hk hyl hl ha) (di_list hi).pi ok hg (fun _ _ _ _ _ => pts_nil) (fun s H C cl fp => pe_callTy call_list_of (hgl s H C cl fp) B.list bt_list (pa_cons (he s H C cl fp) pa_nil (hst s H C cl fp)) (by decide) (by decide) (hst s H C cl fp) (by rfl)) hs) fun Dn σ H h => copy_of h⟩
end
end DL
/-! D16: an exception that is held: its class, its value; index and count of truth values. -/
namespace DL
open PySem L2 PyProof.Rows
/-- what the written part says of an own exception class at C -/
structure ExK (K : PySem.W.Frag) (C : Addr) : Prop where
  cl : (PySem.W.clsIn K C).isSome = true
  ga : PySem.W.findIn K (.ref C) "__getattribute__" = some (some (.builtin "BaseException.__getattribute__"))
  gg : PySem.W.findIn K (.ref C) "__getattr__" = some none
  ex : PySem.W.subIn K (.ref C) (.type "BaseException") = some true
  hd : PySem.W.hasDictIn K C = true
  ha : PySem.W.findIn K (.ref C) "__class__" = some (some (.builtin "object.__class__"))
  hn : PySem.W.specialIn K (.builtin "object.__class__") "__get__" = some (some (.builtin "getset_descriptor.__get__"))
  ht : PySem.W.takesIn K (.builtin "object.__class__") = some true
  hm : PySem.W.mroIn K C (.type "object") = some true
  nv : PySem.W.findIn K (.ref C) "value" = some none
def exkB (K : PySem.W.Frag) (C : Addr) : Bool := (PySem.W.clsIn K C).isSome && (decide (PySem.W.findIn K (.ref C) "__getattribute__" = some (some (.builtin "BaseException.__getattribute__"))) && (decide (PySem.W.findIn K (.ref C) "__getattr__" = some none) && (decide (PySem.W.subIn K (.ref C) (.type "BaseException") = some true) && (PySem.W.hasDictIn K C &&
  (decide (PySem.W.findIn K (.ref C) "__class__" = some (some (.builtin "object.__class__"))) && (decide (PySem.W.specialIn K (.builtin "object.__class__") "__get__" = some (some (.builtin "getset_descriptor.__get__"))) && (decide (PySem.W.takesIn K (.builtin "object.__class__") = some true) && (decide (PySem.W.mroIn K C (.type "object") = some true) && decide (PySem.W.findIn K (.ref C) "value" = some none)))))))))
theorem exkB_ok {K : PySem.W.Frag} {C : Addr} (h : exkB K C = true) : ExK K C := by
  unfold exkB at h
  simp only [Bool.and_eq_true, decide_eq_true_eq] at h
  obtain ⟨h1, h2, h3, h4, h5, h6, h7, h8, h9, h10⟩ := h
  exact ⟨h1, h2, h3, h4, h5, h6, h7, h8, h9, h10⟩
section
variable {X : Cx} {pins : List (Addr × Obj)} {σ : L2.St} {H : Hp} {s : Shared}
/-- the instance, by the heap -/
theorem xo_inst (I : Inv X pins σ H s) {a c dx : Addr} {v : V} (h1 : H a = some (XO c dx a)) (h2 : H dx = some (.xd [(("value" : Str), v)])) : ∃ (oe od : Obj) (u : Value), PySem.W.InstAt s.heap a oe c (some od) ∧ PySem.W.lookIn "value" od = some (some u) ∧ RelV v u := by
  obtain ⟨⟨oe, vs, e1, ⟨e2, e3⟩, e4⟩, _, _⟩ := I.hok a _ h1
  obtain ⟨mA, hns, hr⟩ := I.hok dx _ h2
  obtain ⟨od, ho, hl⟩ := lookIn_ns hns
  have l : List.lookup ("value" : Str) [(("value" : Str), v)] = some v := by simp [List.lookup]
  obtain ⟨u, hu, ru⟩ := RelO.some_of (v := v) (o := mA "value") (by rw [← l]; exact hr "value")
  exact ⟨oe, od, u, ⟨e1, e2, by unfold PySem.W.notCls; rw [e4] <;> rfl, by rw [e3]; exact ho⟩, by rw [hl, hu], ru⟩
def rIsX (K : PySem.W.Frag) : List V → Hp → VK → Prop := fun xs H Q => ∃ (a c dx C : Addr) (v : V) (b : Bool), xs = [.ref a, .ref C] ∧ H a = some (XO c dx a) ∧ H dx = some (.xd [(("value" : Str), v)]) ∧ ExK K c ∧ PySem.W.kitOne K (.ref c) (.ref C) = some b ∧ Q (.bl b) H
theorem call_isX : CallR X (.builtin "isinstance") (rIsX X.K) := by
  intro pins s σ H xs us Q I r h
  obtain ⟨a, c, dx, C, v, b, rfl, h1, h2, T, e, q⟩ := h
  obtain ⟨u1, u2, rfl, r1, r2⟩ := vals2 r
  cases r1
  cases r2
  obtain ⟨oe, od, u, J, _, _⟩ := xo_inst I h1 h2
  exact PySem.W.kia_one (PySem.W.kitx_exc T.cl T.ga T.gg T.ex T.ha T.hn T.ht T.hm) I.kIn J e (fun z => nomatch z) fun tk => ⟨.bl b, H, I.tok tk, rfl, q⟩
end
def gIsX (K : PySem.W.Frag) (cs : List Addr) (C : Addr) : D → Option W
  | .dict [(.int (.ofNat c), _)] => if c ∈ cs then (PySem.W.kitOne K (.ref c) (.ref C)).map fun b => .pu (.bool b) else none
  | _ => none
def gVal (cs : List Addr) : D → Option W
  | .dict [(.int (.ofNat c), d)] => if c ∈ cs then some (.pu d) else none
  | _ => none
theorem rp_exc {K : PySem.W.Frag} {H : Hp} {v : V} {c : Nat} {d : D} (h : Rp K H v (.dict [(.int (.ofNat c), d)])) : ∃ a dx u, v = .ref a ∧ H a = some (XO c dx a) ∧ H dx = some (.xd [(("value" : Str), u)]) ∧ Rp K H u d := by
  generalize e : PyData.dict [(.int (.ofNat c), d)] = dd at h
  cases h with
  | exc h1 h2 h3 =>
    injection e with e
    injection e with e _
    injection e with e1 e2
    injection e1 with e1
    injection e1 with e1
    subst e1 e2
    exact ⟨_, _, _, rfl, h1, h2, h3⟩
  | fn =>
    injection e with e
    injection e with e _
    injection e with e1 e2
    cases e1
  | emp h => cases e
  | _ => cases e
section
variable {X : Cx} {E : XK} {e : Expr} {fa : Env → RE} {pos p p2 : Pos} {cs : List Addr} {C : Addr} {n : Str}
/-- isinstance(e, X), X an own exception class -/
theorem de_isX (B : Bl X.mg) (hcs : ∀ c ∈ cs, ExK X.K c) (hm : X.mg n = some (.ref C)) (ha : DE X E e fa) (hg : Gl X "isinstance" := by rfl) (hgn : Gl X n := by rfl) (hdT : (n == ("__debug__" : Str)) = false := by decide)
    (he : starEach [e, .Name n p2] X.env = (false, eval e X.env) :: starEach [.Name n p2] X.env := by rfl) (he2 : starEach [.Name n p2] X.env = (false, eval (.Name n p2) X.env) :: starEach [] X.env := by rfl) (hpl : (backTo pos (starEach [.Name n p2] X.env)).any (·.1) = false := by rfl) :
    DE X E (.Call (.Name "isinstance" p) [e, .Name n p2] [] pos) (fOp1 (gIsX X.K cs C) fa) := by
  refine ⟨PE.weak (pe_callB call_isX hg B.isi (by decide +kernel) (pa_cons ha.pe (pa_cons (pe_glob (v := .ref C) hgn hm rfl hdT) pa_nil he2) he) (by decide) (by decide) he hpl) fun σ H Q h => ?_⟩
  refine tde_bnd h fun v H' τ A0 P' ρ' d S r c => ?_
  unfold gIsX at c
  split at c
  · rename_i c0 d0
    by_cases hc : c0 ∈ cs
    · rw [if_pos hc] at c
      cases q : PySem.W.kitOne X.K (.ref c0) (.ref C) with
      | none => rw [q] at c; exact c.elim
      | some b =>
        rw [q] at c
        obtain ⟨a, dx, u, rfl, h1, h2, _⟩ := rp_exc r
        exact ⟨a, c0, dx, C, u, b, rfl, (hid_of h1).2, (hid_of h2).2, hcs c0 hc, q, give_pu (.bl _) (giveW S c)⟩
    · rw [if_neg hc] at c
      exact c.elim
  · exact c.elim
/-- e.value -/
theorem de_value (hcs : ∀ c ∈ cs, ExK X.K c) (ha : DE X E e fa) (hb : attributeBase e "value" X.env (eval e X.env) = eval e X.env := by rfl) : DE X E (.Attribute e "value" pos) (fOp1 (gVal cs) fa) := by
  have h : PE X (.Attribute e "value" pos) (fun σ H Q => tDE X.K E fa σ H fun x H1 => ∃ (a c dx : Addr) (v : V), x = .ref a ∧ H1 a = some (XO c dx a) ∧ H1 dx = some (.xd [(("value" : Str), v)]) ∧ ExK X.K c ∧ Q v H1) := by
    refine ⟨fun pins s σ H Q I h => ?_⟩
    refine attr_of hb (thn (ha.pe.run pins s σ H _ I h) fun u s1 hh => ?_)
    obtain ⟨x, H1, I1, rx, a, c, dx, v, ex, h1, h2, T, q⟩ := hh
    subst ex
    obtain rfl : u = Value.ref a := rx
    obtain ⟨oe, od, w, J, hl, ru⟩ := xo_inst I1 h1 h2
    exact HandSPX.exc_get I1.kIn J T.ga T.gg T.ex (PySem.W.findObj_own T.hd T.nv rfl hl) (handed_of ru) ⟨v, H1, I1.tok _, ru, q⟩
  refine ⟨PE.weak h fun σ H Q z => ?_⟩
  refine tde_bnd z fun v H' τ A0 P' ρ' d S r c => ?_
  unfold gVal at c
  split at c
  · rename_i c0 d0
    by_cases hc : c0 ∈ cs
    · rw [if_pos hc] at c
      obtain ⟨a, dx, u, rfl, h1, h2, h3⟩ := rp_exc r
      exact ⟨a, c0, dx, u, rfl, (hid_of h1).2, (hid_of h2).2, hcs c0 hc, give_pu h3 (giveW S c)⟩
    · rw [if_neg hc] at c
      exact c.elim
  · exact c.elim
end
/-! ### index and count of True -/
def bolsOf : List D → Option (List Bool)
  | [] => some []
  | .bool b :: r => (bolsOf r).map (b :: ·)
  | _ => none
theorem bolsOf_eq : ∀ {ds : List D} {l : List Bool}, bolsOf ds = some l → ds = l.map .bool
  | [], l, h => by cases h; rfl
  | .bool i :: r, l, h => by
    unfold bolsOf at h
    cases q : bolsOf r with
    | none => rw [q] at h; cases h
    | some m =>
      rw [q] at h
      cases h
      rw [bolsOf_eq q]
      rfl
  | .none :: _, _, h => by cases h
  | .int _ :: _, _, h => by cases h
  | .str _ :: _, _, h => by cases h
  | .list _ :: _, _, h => by cases h
  | .tuple _ :: _, _, h => by cases h
  | .dict _ :: _, _, h => by cases h
theorem rps_bols {K : PySem.W.Frag} {H : Hp} : ∀ {l : List Bool} {xs : List V}, Rps K H xs (l.map .bool) → xs = l.map V.bl
  | [], _, h => by cases h; rfl
  | b :: l, _, h => by
    cases h with
    | cons h1 h2 =>
      rw [rps_bols h2, rp_bool h1]
      rfl
def gIdxT : D → Option W
  | .list ds => (bolsOf ds).bind fun bs => (bs.findIdx? id).map fun j => .pu (.int j)
  | _ => none
def gCntT : D → Option W
  | .list ds => (bolsOf ds).map fun bs => .pu (.int (bs.count true : Nat))
  | _ => none
section
variable {X : Cx} {E : XK} {a b : Expr} {fa fb : Env → RE} {pos apos : Pos} {m : Nat}
def rCntB (K : PySem.W.Frag) : V → List V → Hp → VK → Prop := fun x xs H Q => ∃ (p : Addr) (bs : List Bool), x = .ref p ∧ xs = [.bl true] ∧ H p = some (.lst (bs.map V.bl)) ∧ Q (.int (bs.count true : Nat)) H
theorem mt_cntB (hu : X.A.units + 65 < cLine) : MtR X "list.count" (rCntB X.K) := by
  intro pins s σ H x xs v us Q I rx rxs h
  obtain ⟨p, bs, rfl, rfl, hs, q⟩ := h
  cases rx
  obtain ⟨u, rfl, ru⟩ := Vals.one rxs
  cases ru
  obtain ⟨hlen, its, n, rv, ho⟩ := I.hok p _ hs
  have ei := Vals.bls rv
  subst ei
  have reads : ∀ l : List Bool, ReadsAll s.heap (l.map Value.bool) (l.map PyData.bool) ((l.map fun _ => ([] : List Addr)).flatten) := by
    intro l
    induction l with
    | nil => exact .nil
    | cons b l ih => exact .cons (.bool b) ih
  have pl : PyData.plainAll (bs.map PyData.bool) = true := by
    clear q hs rv ho hlen reads
    induction bs with
    | nil => rfl
    | cons b l ih => simp [PyData.plainAll, PyData.plain, ih]
  refine SeqAt.count_list_data (d := .bool true) (xs := bs.map PyData.bool) (vs := (bs.map Value.bool).toArray) ⟨_, ho, rfl, n, rfl⟩ (by simpa using reads bs) (.bool true) pl (by simp [PyData.plain]) (by simp only [PyData.depth, Nat.min_zero]; omega) ?_
  have e : (bs.map PyData.bool).countP (fun y => PyData.eqv y (.bool true)) = bs.count true := by
    clear q hs rv ho hlen reads pl
    induction bs with
    | nil => rfl
    | cons b l ih =>
      rw [List.map_cons, List.countP_cons, ih, List.count_cons]
      cases b <;> simp [PyData.eqv]
  rw [e]
  exact ⟨.int (bs.count true : Nat), H, I.tok _, ⟨s.toks, rfl⟩, q⟩
end
section
variable {X : Cx} {E : XK} {a b : Expr} {fa fb : Env → RE} {pos apos : Pos} {m : Nat}
theorem tyL {K : PySem.W.Frag} {H : Hp} {p : Addr} {xs : List V} (h : H p = some (.lst xs)) : tyV K "list" (.ref p) H := .inl ⟨rfl, xs, .inl (.inl h)⟩
theorem de_cntT {j : Nat} {p2 : Pos} (c : Cn X E m) (ha : DE X E a fa) (hbase : attributeBase a "count" X.env (eval a X.env) = eval a X.env := by rfl) (hline : (apos.endLine == pos.line) = true := by rfl) :
    DE X E (.Call (.Attribute a "count" apos) [.Constant (.bool true) j p2] [] pos) (fOp1 gCntT fa) := by
  have un := c.rm.un
  refine ⟨PE.weak (pe_bm PySem.F.plainAttrs_list PySem.F.slot_list_count PySem.F.type_list_count (mt_cntB (by omega)) ha.pe (pa_cons pe_bl pa_nil) hbase (by rfl) hline) fun σ H Q h => ?_⟩
  refine tde_bnd h fun v H' τ A0 P' ρ' d S r c => ?_
  unfold gCntT at c
  split at c
  · rename_i ds
    cases q : bolsOf ds with
    | none => rw [q] at c; exact c.elim
    | some bs =>
      rw [q] at c
      obtain ⟨p, xs, rfl, h1, rr⟩ := rp_lst r
      rw [bolsOf_eq q] at rr
      have e := rps_bols rr
      subst e
      exact ⟨tyL h1, p, bs, rfl, rfl, h1, give_pu (.int _) (giveW S c)⟩
  · exact c.elim
theorem de_idxT {j : Nat} {p2 : Pos} (ha : DE X E a fa) (hbase : attributeBase a "index" X.env (eval a X.env) = eval a X.env := by rfl) (hline : (apos.endLine == pos.line) = true := by rfl) :
    DE X E (.Call (.Attribute a "index" apos) [.Constant (.bool true) j p2] [] pos) (fOp1 gIdxT fa) := by
  refine ⟨PE.weak (pe_bm PySem.F.plainAttrs_list PySem.F.slot_list_index PySem.F.type_list_index mt_index ha.pe (pa_cons pe_bl pa_nil) hbase (by rfl) hline) fun σ H Q h => ?_⟩
  refine tde_bnd h fun v H' τ A0 P' ρ' d S r c => ?_
  unfold gIdxT at c
  split at c
  · rename_i ds
    cases q : bolsOf ds with
    | none => rw [q] at c; exact c.elim
    | some bs =>
      rw [q, Option.bind_some] at c
      cases q2 : bs.findIdx? id with
      | none => rw [q2] at c; exact c.elim
      | some n =>
        rw [q2] at c
        obtain ⟨p, xs, rfl, h1, rr⟩ := rp_lst r
        rw [bolsOf_eq q] at rr
        have e := rps_bols rr
        subst e
        obtain ⟨k1, k2, k3⟩ := List.findIdx?_eq_some_iff_getElem.mp q2
        refine ⟨tyL h1, p, bs.map V.bl, .bl true, n, .bl true, rfl, rfl, .inl (.inl h1), rfl, by simp [flatV], ?_, rfl, fun m z' hm hz => ?_, give_pu (.int _) (giveW S c)⟩
        · rw [List.getElem?_map, List.getElem?_eq_getElem k1]
          have e2 : bs[n] = true := k2
          rw [e2]; rfl
        · have hml : m < bs.length := Nat.lt_trans hm k1
          rw [List.getElem?_map, List.getElem?_eq_getElem hml] at hz
          cases hz
          have e3 : bs[m] = false := by simpa using k3 m hm
          rw [e3]
          rfl
  · exact c.elim
end
end DL
/-! D17: try: .. except X as e: held = e; the exception stays at hand behind the suite. -/
namespace DL
open PySem L2 PyProof.Rows
section
variable {X : Cx} {pins : List (Addr × Obj)} {σ : L2.St} {H : Hp} {s : Shared}
/-- an object that nobody tracks gets tracked -/
theorem inv_adopt {a : Addr} {o : HO} (I : Inv X pins σ H s) (ha : H a = none) (n0 : ∀ u, X.s_0.heap.get? a ≠ some u) (nL : X.env.locals ≠ a) (nC : ∀ x c, X.env.cells.lookup x = some c → c ≠ a) (nP : ∀ p ∈ X.pn ++ pins, p.1 ≠ a) (new : ObjOk X.prog X.w (upd H a o) s.heap a o) : Inv X pins σ (upd H a o) s := by
  have ne : ∀ {b : Addr} {u : HO}, H b = some u → b ≠ a := fun {b u} e => ne_of_none e ha
  refine ⟨I.ok, I.os, I.bare, ⟨I.base.keep, I.base.slot, fun b u q n hx => ?_, I.base.there, fun b xs q => ?_, fun b u z q => ?_, fun b ps q => ?_⟩, I.loc, I.cell, ?_, fun x c e => ?_, fun p hp => ?_, I.hok.laidN (fun _ _ z => z) ha new, I.len⟩
  · rw [upd_ne (fun z => n0 u (by rw [← z]; exact q))]
    exact I.base.free b u q n hx
  · have z := I.base.tups b xs q
    rw [upd_ne (ne z)]
    exact z
  · have y := I.base.frzs b u z q
    rw [upd_ne (ne y)]
    exact y
  · obtain ⟨more, z⟩ := I.base.tbls b ps q
    exact ⟨more, by rw [upd_ne (ne z)]; exact z⟩
  · rw [upd_ne nL]
    exact I.free
  · rw [upd_ne (nC x c e)]
    exact I.freeC x c e
  · obtain ⟨p1, p2, p3⟩ := I.pin p hp
    exact ⟨p1, by rw [upd_ne (nP p hp)]; exact p2, p3⟩
end
/-- what such a clause wishes of an exception of the body: slot i is the clause's name, slot j keeps it -/
def wHold (K : PySem.W.Frag) (c : Value) (i j : Nat) (Wout : WX) (D : Ends) : WX := fun cls d σ H => ∃ b, PySem.W.exmOne K cls c = some b ∧
  (b = true → ∃ C dx, cls = .ref C ∧ d = some dx ∧ ∀ a, H a = none → D.nx (((σ.set i (some (.ref a))).set j (some (.ref a))).set i none) (upd H a (XO C dx a))) ∧ (b = false → Wout cls d σ H)
section
variable {X : Cx} {x n cn : Str} {c : Value} {i j : Nat} {body : List Stmt} {np pos pos' q1 q2 q3 : Pos} {tb : WX → TS} {Wout : WX}
theorem ps_hold (hs : X.stack = X.env :: X.outer) (hex : X.ex = []) (hf : X.env.frame = some X.env.locals) (hN : X.N.Nodup) (hi : X.N[i]? = some n) (hln : X.env.kindOf n = some .local) (hj : X.N[j]? = some cn) (hlc : X.env.kindOf cn = some .local) (hil : ∀ σ : L2.St, σ.length = X.N.length → i < σ.length) (hc : Names X x c) (tk : Takes X Wout)
    (hd : (n == ("__debug__" : Str)) = false) (hcd : (n == ("__classdict__" : Str)) = false)
    (hsw : ∀ Y : Cx, Y.env = X.env → swapsWith (.Name n q2) (some (.Name cn q1)) q3.line Y.env = pure false)
    (hb : ∀ (W : WX) (pn : List (Addr × Obj)) (xe : Value → Shared → Prop), Takes (X.tr pn xe) W → PassesOwn (model X.prog X.w) X.A X.env xe → PSs (X.tr pn xe) body (tb W)) :
    PS X (.Try body [.ExceptHandler (some (.Name x np)) (some n) [.Assign [.Name cn q1] (.Name n q2) q3] pos'] [] [] pos) (fun D σ H => tb (wHold X.K c i j Wout D) D σ H) := by
  refine ⟨fun pins s σ H D I h => ?_⟩
  have ok := I.ok
  have hfr : X.A.frames = some (X.env :: X.outer) := by rw [ok.frames, hs]
  let hdl : ExceptHandler := .ExceptHandler (some (.Name x np)) (some n) [.Assign [.Name cn q1] (.Name n q2) q3] pos'
  let look : Value → Shared → Prop := fun e t1 => wpAny (model X.prog X.w) X.A (noteFrame e X.env)
    (fun _ t2 => wpAny (model X.prog X.w) X.A (setFlight e none) (fun _ t3 => wpAny (model X.prog X.w) X.A (handleBy e X.env [hdl]) (SP X pins D) X.xe t3) X.xe t2) X.xe t1
  have taken : Takes (X.tr (X.pn ++ pins) look) (wHold X.K c i j Wout D) := by
    rintro u t ⟨a, B, tI, ps2, σ', H', cls, d, rfl, J0, nb, up, sky, na, os, ag, b, hb1, hyes, hno⟩
    have J : Inv X pins σ' H' tI := J0.ofTry ok
    have sky2 : Sky B (X.env :: X.outer) a (Zc cls d) X.env.locals t.heap := by rw [← hs]; exact sky
    show wpAny (model X.prog X.w) X.A (noteFrame (.ref a) X.env) _ _ _
    refine Sky.land Zc.steady hfr hf sky2 fun h3 fl3 up3 => ?_
    have J3 : Inv X pins σ' H' { t with heap := h3 } := J.landed nb fl3.1 (up.trans up3) os ag
    obtain ⟨oe3, vs3, he3, hz3, hd3⟩ := fl3.there
    have nfr : a ∉ frs (X.env :: X.outer) := fun hm => by
      obtain ⟨_, o', e', hnf⟩ := fl3.2.2.1.mem hm
      rw [he3] at e'
      cases e'
      exact hnf _ hd3
    have nL : a ≠ X.env.locals := fun z => nfr (List.mem_filterMap.mpr ⟨X.env, List.mem_cons_self, by rw [hf, z]⟩)
    have nF : a ∉ X.fs := fun hm => by
      obtain ⟨e, he, q⟩ := List.mem_filterMap.mp hm
      exact nfr (List.mem_filterMap.mpr ⟨e, List.mem_cons_of_mem _ he, q⟩)
    have new : tI.heap.get? a = none := by
      cases q : tI.heap.get? a with
      | none => rfl
      | some o =>
        have z := nb a o q (by rw [hs]; exact nfr)
        rw [fl3.2.1] at z
        cases z
    have S3 := J3.suite he3 hd3 na nL nF
    refine wpAny_handleBy_cons (codeAny_handlers_test ?_) (by intro q; cases q)
    have LT : PySem.W.Looks (model X.prog X.w) h3 (typeOf (.ref a)) cls := fun A Q E s k q => wpAny_typeOf_ref (k _ _ he3) (by rw [hz3.1]; exact q)
    have LM := PySem.W.exm_one (M := model X.prog X.w) (J3.kIn) LT hb1
    have test : ∀ {Q : Value → Shared → Prop} {E : Value → Shared → Prop}, Q c { t with heap := h3 } → wpAny (model X.prog X.w) (X.A.mark (some (.ref a))) (eval (.Name x np) X.env) Q E { t with heap := h3 } := fun {Q E} q => by
      obtain ⟨hg, hdbg, hm | ⟨hm, hv, hnn⟩⟩ := hc
      · exact ld_glob (X := X.suite a ((a, oe3) :: (X.pn ++ pins))) S3 hg hm q hdbg
      · exact ld_blt (X := X.suite a ((a, oe3) :: (X.pn ++ pins))) S3 hg hm hv q hnn hdbg
    refine test (LM.here ?_)
    cases b with
    | true =>
      obtain ⟨C, dx, rfl, rfl, go⟩ := hyes rfl
      refine codeAny_handlers_suite_as ?_
      refine HandSPX.lands_againZ fl3 fun h4 fl4 up4 => ?_
      have J4 : Inv X pins σ' H' { t with heap := h4 } := J.landed nb fl4.1 ((up.trans up3).trans up4) os ag
      obtain ⟨oe4, vs4, he4, hz4, hd4⟩ := fl4.there
      have S4 := J4.suite he4 hd4 na nL nF
      have hloc : L2.Loc X.env.scope n := .inl hln
      refine store_ok (X := X.suite a ((a, oe4) :: (X.pn ++ pins))) (v := .ref a) S4 hN hi hloc rfl (fun s5 S5 => ?_) (.inr hln)
      have suiteP : PSs (X.suite a ((a, oe4) :: (X.pn ++ pins))) [.Assign [.Name cn q1] (.Name n q2) q3] (tAsg (tVar i) (gName j)) :=
        pss_one (ps_set (X := X.suite a ((a, oe4) :: (X.pn ++ pins))) hN hj (.inl hlc) (pe_var hi (.inl hln) hd hcd) (hsw _ rfl) (.inr hlc))
      have lσ : i < σ'.length := hil σ' J.len
      refine wpAny_mono (suiteP.run [] s5 _ H' { nx := fun σ6 H6 => σ6 = (σ'.set i (some (.ref a))).set j (some (.ref a)) ∧ H6 = H', rt := fun _ _ => False } S5 ⟨.ref a, List.getElem?_set_self lσ, rfl, rfl⟩) (fun f s6 hsp => ?_) (fun _ _ z => False.elim z)
      have bad : ∀ {P : Prop}, False → P := fun z => z.elim
      cases f with
      | next =>
        obtain ⟨σ6, H6, S6, rfl, rfl⟩ := hsp
        refine gone_ok (X := X.suite a ((a, oe4) :: (X.pn ++ pins))) S6 hN hi hln fun s7 S7 => ?_
        have at7 := (S7.pin (a, oe4) (List.mem_append_left _ List.mem_cons_self)).1
        have J7 := S7.unsuite ok
        refine ⟨_, _, inv_adopt (o := XO C dx a) J7 na (fun u z => ?_) (Ne.symm nL) (fun y c2 e z => ?_) (fun p hp z => ?_) ⟨⟨oe4, vs4, at7, hz4, hd4⟩, ⟨oe4, at7⟩, fun _ _ ⟨o, v, w, r⟩ k => ⟨o, v, k o w, r⟩⟩, go a na⟩
        · obtain ⟨o', w⟩ := J.base.there a u z (by rw [hex]; exact fun y => nomatch y)
          rw [new] at w
          cases w
        · obtain ⟨v, o, w, _⟩ := J.cell y c2 e
          rw [z, new] at w
          cases w
        · obtain ⟨w, _⟩ := J.pin p hp
          rw [z, new] at w
          cases w
      | brk =>
        obtain ⟨_, _, _, z⟩ := hsp
        exact bad z
      | cont =>
        obtain ⟨_, _, _, z⟩ := hsp
        exact bad z
      | ret u =>
        obtain ⟨_, _, _, _, _, z⟩ := hsp
        exact bad z
    | false =>
      show wpAny _ X.A (handleBy (.ref a) X.env []) _ _ _
      refine wpAny_handleBy_nil ?_
      obtain ⟨k1, k2, k3, oe, vs, T, oT, ts', he, hz, hd', h1, hr⟩ := id fl3
      unfold PySem.passOn
      refine wpAny_bind (wpAny_field he hd' h1 ?_)
      rw [if_neg (show ¬ ((Value.ref T == Value.none) = true) from by simp)]
      have fin : wpAny (model X.prog X.w) X.A (setFlight (.ref a) X.env.frame) (fun _ s4 => wpAny (model X.prog X.w) X.A (throw (.ref a) : Sem Flow) (SP X pins D) X.xe s4) X.xe { t with heap := h3 } := by
        rw [hf]
        refine HandSPX.setFlight_upZ fl3 fun h4 hh4 up4 => wpAny_throw (tk _ _ ?_)
        exact ⟨a, B, tI, pins, σ', H', cls, d, rfl, J, nb, (up.trans up3).trans up4, .inr (.inr (by rw [hs]; exact hh4)), na, os, ag, hno rfl⟩
      first
        | exact wpAny_bind (wpAny_pure (wpAny_bind fin))
        | exact wpAny_bind fin
  refine wpAny_Try_except ?_
  refine wpAny_mono ((hb (wHold X.K c i j Wout D) (X.pn ++ pins) look taken PassesOwn.looking).run [] s σ H D (I.toTry _) h) (fun f s1 hsp => ?_) (fun e s1 he => he)
  cases f with
  | next =>
    obtain ⟨σ', H', J', q⟩ := hsp
    exact wpAny_execs_nil ⟨σ', H', J'.ofTry ok, q⟩
  | brk =>
    obtain ⟨σ', H', J', q⟩ := hsp
    exact ⟨σ', H', J'.ofTry ok, q⟩
  | cont =>
    obtain ⟨σ', H', J', q⟩ := hsp
    exact ⟨σ', H', J'.ofTry ok, q⟩
  | ret u =>
    obtain ⟨v, σ', H', J', r, q⟩ := hsp
    exact ⟨v, σ', H', J'.ofTry ok, r, q⟩
end
end DL
/-! D18: functions handed over, and what a call of them does. -/
namespace DL
open PySem L2 PyProof.Rows
/-- what a call without arguments does: it lets, or raises an exception of the class at c with the value d -/
inductive FO where
  | lets
  | err (c : Addr) (d : D)
def FOut (K : PySem.W.Frag) (E : XK) (A : List Addr) (H : Hp) (o : FO) (Q : VK) : Prop := match o with
  | .lets => ∀ v H', Gr K H H' → Q v H'
  | .err c d => ∀ dx v H', Gr K H H' → (H dx = none ∧ H' dx = some (.xd [(("value" : Str), v)])) → Rp K (hid A H') v d → E (.ref c) (some dx) H'
/-- f stands in the base and does so at every heap that grew out of H; T: what is hidden -/
structure Can (P : Program) (w : World) (K : PySem.W.Frag) (mg : Str → Option Value) (base : Heap) (k : Nat) (H : Hp) (T : List Addr) (f : Addr) (o : FO) : Prop where
  fn : ∃ ob, base.get? f = some ob ∧ ∀ h : Heap, h.get? f = some ob → PySem.W.FnAt f h
  run : ∀ (A : Around) (outer : List PySem.Env) (s2 : Shared) (H2 : Hp) (B : List Addr) (Q : VK) (E : XK), A.guards = some [] → Room k A → Env0 P w K mg base A outer s2 H2 → Gr K H H2 →
    (∀ a ∈ T, a ∈ B) → (∀ a ∈ B, a ∈ T ∨ H a = none) → (∀ a ∈ B, H2 a ≠ none) → LamX.Tabs (TbK K) H2 → FOut K E B H2 o Q → codeAny (model P w) A (.call (.ref f) ⟨[], []⟩) (CR (L2.CX P w) outer P w H2 s2 Q E) s2
theorem Can.later {P : Program} {w : World} {K : PySem.W.Frag} {mg : Str → Option Value} {base : Heap} {k : Nat} {H H' : Hp} {T T' : List Addr} {f : Addr} {o : FO} (C : Can P w K mg base k H T f o) (g : Gr K H H') (h1 : ∀ a ∈ T, a ∈ T') (h2 : ∀ a ∈ T', a ∈ T ∨ H a = none) : Can P w K mg base k H' T' f o :=
  ⟨C.fn, fun A outer s2 H2 B Q E hgd hr e0 g2 b1 b2 tr tb q => C.run A outer s2 H2 B Q E hgd hr e0 (g.trans g2) (fun a z => b1 a (h1 a z)) (fun a z => (b2 a z).elim (h2 a) fun z => .inr (g.al a z)) tr tb q⟩
theorem Can.mono {P : Program} {w : World} {K : PySem.W.Frag} {mg : Str → Option Value} {base : Heap} {j k : Nat} {H : Hp} {T : List Addr} {f : Addr} {o : FO} (C : Can P w K mg base j H T f o) (h : j ≤ k) : Can P w K mg base k H T f o :=
  ⟨C.fn, fun A outer s2 H2 B Q E hgd hr => C.run A outer s2 H2 B Q E hgd (hr.mono h)⟩
section
variable {Y : Cx} {k i : Nat} {H0 : Hp} {T : List Addr} {f : Addr} {o : FO} {pn : List (Addr × Obj)} {xe : Value → Shared → Prop} {W : WX} {a : Str} {p1 p2 : Pos}
/-- x(), x such a function, in a try -/
theorem pe_can (C : Can Y.prog Y.w Y.K Y.mg Y.base k H0 T f o) (hgd : Y.A.guards = some []) (hr : Room k Y.A) (tk : Takes (Y.tr pn xe) W) (hN : Y.N[i]? = some a) (hv : Vis Y.env.scope a) (hd : (a == ("__debug__" : Str)) = false := by decide) (hcd : (a == ("__classdict__" : Str)) = false := by decide) :
    PE (Y.tr pn xe) (.Call (.Name a p1) [] [] p2) (fun σ H Q => σ[i]? = some (some (.ref f)) ∧ Gr Y.K H0 H ∧ (∀ a ∈ T, H a ≠ none) ∧ LamX.Tabs (TbK Y.K) H ∧ FOut Y.K (WE W σ) T H o Q) := by
  refine ⟨fun pins s σ H Q I ⟨hσ, g, tr, tb, q⟩ => ?_⟩
  refine wpAny_Call_Name_kw (thn ((pe_var (X := Y.tr pn xe) (pos := p1) (i := i) hN hv hd hcd).run pins s σ H (fun v H1 => v = .ref f ∧ H1 = H) I ⟨.ref f, hσ, rfl, rfl⟩) fun u s1 ⟨v, H1, I1, r1, e1, e2⟩ => ?_)
  subst e1
  rw [e2] at I1
  obtain rfl : u = Value.ref f := r1
  obtain ⟨ob, c1, c2⟩ := C.fn
  refine PySem.W.callWith_F0 (c2 _ (I1.bk f ob c1)) ?_
  have rc := C.run Y.A Y.stack s1 H T Q (WE W σ) hgd hr I1.env0 g (fun _ z => z) (fun a z => .inl z) tr tb q
  refine wpAny_call (codeAny_mono rc fun r s' hq => ?_)
  cases r with
  | error e => exact passAt tk σ pins H s1 e s' I1 hq
  | ok fl =>
    cases fl with
    | ret u => exact I1.after hq
    | next => exact False.elim hq
    | brk => exact False.elim hq
    | cont => exact False.elim hq
end
/-! ### the ground: all that nobody tracks, but the frames -/
def ground (s : Shared) (H : Hp) (fr : List Addr) : Heap := PySem.W.hideAll s.heap ((List.range s.heap.objs.size).filter fun a => (H a).isSome || decide (a ∈ fr))
theorem ground_get {s : Shared} {H : Hp} {fr : List Addr} {b : Addr} {o : Obj} (e : s.heap.get? b = some o) (n : H b = none) (hf : b ∉ fr) : (ground s H fr).get? b = some o :=
  PySem.W.hideAll_get _ e fun hm => by
    have q := (List.mem_filter.mp hm).2
    simp [n, hf] at q
theorem of_ground {s : Shared} {H : Hp} {fr : List Addr} {b : Addr} {o : Obj} (e : (ground s H fr).get? b = some o) : s.heap.get? b = some o ∧ H b = none ∧ b ∉ fr := by
  have e1 : s.heap.get? b = some o := PySem.W.of_hideAll _ e
  have nm : b ∉ (List.range s.heap.objs.size).filter fun a => (H a).isSome || decide (a ∈ fr) := fun hm => by
    unfold ground at e
    rw [PySem.W.hideAll_none _ hm] at e
    cases e
  rw [List.mem_filter, not_and] at nm
  have z := nm (List.mem_range.mpr (Heap.lt_size e1))
  simp only [Bool.or_eq_true, decide_eq_true_eq, not_or, Option.isSome_iff_ne_none, ne_eq, Decidable.not_not] at z
  exact ⟨e1, z.1, z.2⟩
section
variable {X : Cx} {pins : List (Addr × Obj)} {σ : L2.St} {H : Hp} {s : Shared}
theorem base_ground (I : Inv X pins σ H s) {b : Addr} {o : Obj} (e : X.base.get? b = some o) : (ground s H (frs X.stack)).get? b = some o := by
  obtain ⟨h1, h2⟩ := I.bs b o e
  refine ground_get h1 h2 fun hm => ?_
  have := (I.stack.mem hm).1
  rw [e] at this
  cases this
theorem frames_mono {h B G : Heap} : ∀ {l : List PySem.Env}, h.FunFrames B l → (∀ L ∈ frs l, G.get? L = none) → h.FunFrames G l
  | [], _, _ => trivial
  | env :: l, h, hn => by
    obtain ⟨hk, ⟨L, o, hf, _, ho, hd⟩, hr⟩ := h
    exact ⟨hk, ⟨L, o, hf, hn L (List.mem_filterMap.mpr ⟨env, List.mem_cons_self, hf⟩), ho, hd⟩, frames_mono hr fun b hb => by
      obtain ⟨e, he, q⟩ := List.mem_filterMap.mp hb
      exact hn b (List.mem_filterMap.mpr ⟨e, List.mem_cons_of_mem _ he, q⟩)⟩
theorem mod_ground (I : Inv X pins σ H s) : Mod X.K X.mg (ground s H (frs X.stack)) := by
  have k : ∀ b o, X.base.get? b = some o → (ground s H (frs X.stack)).get? b = some o := fun b o e => base_ground I e
  obtain ⟨mb, h1, h2⟩ := I.mod.blt
  exact ⟨I.mod.kin.keeps k, I.mod.glob.keeps k, ⟨mb, h1.keeps k, h2⟩, I.mod.nolimit.keeps k⟩
/-- a call from here, over the ground -/
theorem env0_ground (I : Inv X pins σ H s) : Env0 X.prog X.w X.K X.mg (ground s H (frs X.stack)) X.A X.stack s H := by
  have e0 := I.env0
  refine ⟨e0.frames, mod_ground I, fun b o e => ⟨(of_ground e).1, (of_ground e).2.1⟩, Nat.le_of_eq (PySem.W.hideAll_size _ _), frames_mono e0.funs fun L hL => ?_, e0.frf, e0.hok, e0.bare⟩
  cases q : (ground s H (frs X.stack)).get? L with
  | none => rfl
  | some o => exact absurd hL (of_ground q).2.2
/-- .. and back to a smaller base -/
theorem env0_less {P : Program} {w : World} {K : PySem.W.Frag} {mg : Str → Option Value} {base base2 : Heap} {A : Around} {outer : List PySem.Env} {s : Shared} {H : Hp} (e0 : Env0 P w K mg base2 A outer s H) (M : Mod K mg base) (k : ∀ b o, base.get? b = some o → base2.get? b = some o) (hz : base.objs.size ≤ base2.objs.size) : Env0 P w K mg base A outer s H := by
  refine ⟨e0.frames, M, fun b o e => e0.bs b o (k b o e), Nat.le_trans hz e0.bsz, frames_mono e0.funs fun L hL => ?_, e0.frf, e0.hok, e0.bare⟩
  cases q : base.get? L with
  | none => rfl
  | some o =>
    have z := (e0.funs.mem hL).1
    rw [k L o q] at z
    cases z
end
end DL
/-! D19: lambdas made, and what they do later on. -/
namespace DL
open PySem L2 PyProof.Rows
/-- the slots that bear shared data -/
def pubE (ρ : Env) : Env := ρ.map fun o => match o with
  | some (.pub m d) => some (.pub m d)
  | _ => none
theorem pubE_at {ρ : Env} {i : Nat} {s : Sl} (h : (pubE ρ)[i]? = some (some s)) : ∃ m d, s = .pub m d ∧ ρ[i]? = some (some (.pub m d)) := by
  unfold pubE at h
  rw [List.getElem?_map] at h
  cases q : ρ[i]? with
  | none => rw [q] at h; cases h
  | some o =>
    rw [q] at h
    have h := Option.some.inj h
    dsimp only at h
    split at h
    · exact ⟨_, _, (Option.some.inj h).symm, rfl⟩
    · cases h
section
variable {K : PySem.W.Frag} {τ : Nat → Addr} {A0 P B : List Addr} {H H2 : Hp} {σ : L2.St} {ρ : Env}
/-- later on, with nothing of our own but more hidden -/
theorem SRep.pubs (S : SRep K τ A0 H σ ρ P) (g : Gr K H H2) (h1 : ∀ a ∈ B, a ∈ P ++ A0 ∨ H a = none) (tr : ∀ a ∈ B, H2 a ≠ none) (tb : LamX.Tabs (TbK K) H2) : SRep K τ B H2 σ (pubE ρ) [] := by
  have ex : Ext (hid (P ++ A0) H) (hid ([] ++ B) H2) := fun a o q => by
    obtain ⟨n, e⟩ := hid_of q
    refine hid_in (fun z => ?_) (g.kp a o e (hid_nt q)) (hid_nt q)
    rcases h1 a z with z | z
    · exact n z
    · rw [z] at e; cases e
  refine ⟨fun i m d q => ?_, fun i t ds q => ?_, fun i j t u es fs p hij e1 => ?_, tr, by unfold pubE; simpa using S.len, fun p hp => absurd hp (by simp), tb, fun i h q => ?_⟩
  · obtain ⟨m', d', e, q1⟩ := pubE_at q
    cases e
    obtain ⟨v, a1, a2, a3⟩ := S.pu i m d q1
    exact ⟨v, a1, a2.ext ex.hs, a3⟩
  · obtain ⟨m', d', e, _⟩ := pubE_at q
    cases e
  · obtain ⟨m', d', e, _⟩ := pubE_at e1
    cases e
  · obtain ⟨m', d', e, _⟩ := pubE_at q
    cases e
end
/-- the outcome of an expression as that of a call -/
def foOf : RE → Option FO
  | .ok _ _ => some .lets
  | .err c d => some (.err c d)
  | .st => none
section
variable {X : Cx} {pins : List (Addr × Obj)} {σ : L2.St} {H : Hp} {s : Shared}
/-- a lambda is made -/
theorem lam_make3 {c Pt : Addr} {params : Arguments} {body : Expr} {scope : Scope} {pos : Pos} {E : Value → Shared → Prop} {Q : Value → Shared → Prop} (I : Inv X pins σ H s) (TB : LamX.TabB X.base X.mg c Pt) (hcode : X.env.code = .ref c)
    (hm : (Pt, X.env.qual ++ "<lambda>") ∈ TbK X.K) (hu : ∀ p ∈ TbK X.K, p.1 = Pt → p.2 = X.env.qual ++ "<lambda>") (hT : LamX.Tabs (TbK X.K) H) (hdef : defaultsOf params X.env = ([], [])) (hfree : ∀ y ∈ scope.names, y.2 = .free → ∃ c, X.env.cells.lookup y.1 = some c)
    (h : ∀ (f c' : Addr) (pm ctv : Value) (H1 : Hp) (s' : Shared), Inv X pins σ H1 s' → Gr X.K H H1 →
      s'.heap.get? f = some (PySem.W.kla_obj "<lambda>" (X.env.qual ++ "<lambda>") params body scope (cloFrom X.env.cells scope.names []) pm c' ctv) → H1 f = none → f ∉ frs X.stack → f ∉ X.fs → f ≠ X.env.locals → H1 c' = some (LamX.CodeO c' (X.env.qual ++ "<lambda>")) → Q (.ref f) s') :
    wpAny (model X.prog X.w) X.A (eval (.Lambda params body scope pos) X.env) Q E s := by
  obtain ⟨ps, hP, ht, ha⟩ := hT _ hm
  refine PySem.W.kla_eval hdef ?_
  have bP : s.heap.BuiltinsAt X.mg Pt := TB.bm.keeps I.bk
  have hP' : s.heap.get? Pt = some { cls := .none, data := .fields ps } := I.hok Pt _ hP
  have lf : ∀ f, s.heap.objs.size ≤ f → f ∉ frs X.stack ∧ f ∉ X.fs ∧ f ≠ X.env.locals := fun f hf => by
    have n2 : f ∉ X.fs := I.nofs hf
    have n3 : f ≠ X.env.locals := fun z => by
      have h1 := I.lt
      rw [← z] at h1
      exact Nat.lt_irrefl _ (Nat.lt_of_lt_of_le h1 hf)
    refine ⟨fun z => ?_, n2, n3⟩
    rcases List.mem_cons.mp (I.stkSub _ z) with e | e
    · exact n3 e
    · exact n2 e
  cases hc : codeAmong pos ps.toList with
  | none =>
    refine PySem.W.kla_makeFunction (mg := X.mg) (c := c) (P := Pt) (ps := ps) (closure_ok hfree) I.ok.glob (I.mod.glob.keeps I.bk) hcode (TB.code.keeps I.bk) hP' ht hc TB.gP bP fun c' ctv h' tk hx hge hlt hrec htb => ?_
    obtain ⟨c2, oc, vs, t, e2, hoc, hd, hv⟩ := hrec
    cases e2
    have hsz : s.heap.objs.size ≤ h'.objs.size := Nat.le_trans hge (Nat.le_of_lt hlt)
    have nC : H c' = none := I.hok.fresh hge
    have I1 := LamX.inv_table (t' := tk) (more := #[rawInt pos.line, rawInt pos.col, .ref c']) (h' := h'.push (PySem.W.kla_obj "<lambda>" (X.env.qual ++ "<lambda>") params body scope (cloFrom X.env.cells scope.names []) ((X.mg "__name__").getD .none) c' ctv)) I hP
      (fun b o hb e => Heap.get?_push_of_some _ (hx b o hb e)) (Heap.get?_push_of_some _ htb) hge ⟨oc, vs, t, Heap.get?_push_of_some _ hoc, hd, hv⟩
    have hE : ∀ (b : Addr) (o : HO), H b = some o → NT o → upd (upd H Pt (.tbl (ps ++ #[rawInt pos.line, rawInt pos.col, .ref c']))) c' (LamX.CodeO c' (X.env.qual ++ "<lambda>")) b = some o := fun b o e n => by
      rw [upd_ne (ne_of_none e nC), upd_ne (fun z => n ps (Option.some.inj (e.symm.trans (by rw [z]; exact hP))))]
      exact e
    have eL : (ps ++ #[rawInt pos.line, rawInt pos.col, .ref c']).toList = ps.toList ++ [rawInt pos.line, rawInt pos.col, .ref c'] := by simp
    have T1 : LamX.Tabs (TbK X.K) (upd (upd H Pt (.tbl (ps ++ #[rawInt pos.line, rawInt pos.col, .ref c']))) c' (LamX.CodeO c' (X.env.qual ++ "<lambda>"))) := fun p hp => by
      by_cases hb : p.1 = Pt
      · rw [hu p hp hb, hb]
        refine ⟨_, by rw [upd_ne (ne_of_none hP nC), upd_same], by rw [eL]; exact PySem.TriplesOk_snoc _ _ _ _ ht, fun p' cv hcv => ?_⟩
        rw [eL] at hcv
        rcases LamX.among_app _ ht hcv with z | z
        · obtain ⟨c0, e1, e2⟩ := ha p' cv z
          exact ⟨c0, e1, hE _ _ e2 LamX.codeO_ne⟩
        · exact ⟨c', z, upd_same⟩
      · obtain ⟨ps', a1, a2, a3⟩ := hT p hp
        refine ⟨ps', by rw [upd_ne (ne_of_none a1 nC), upd_ne hb]; exact a1, a2, fun p' cv hcv => ?_⟩
        obtain ⟨c0, e1, e2⟩ := a3 p' cv hcv
        exact ⟨c0, e1, hE _ _ e2 LamX.codeO_ne⟩
    have al : ∀ a, upd (upd H Pt (.tbl (ps ++ #[rawInt pos.line, rawInt pos.col, .ref c']))) c' (LamX.CodeO c' (X.env.qual ++ "<lambda>")) a = none → H a = none := fun a e => by
      by_cases h1 : a = c'
      · rw [h1, upd_same] at e; cases e
      · rw [upd_ne h1] at e
        by_cases h2 : a = Pt
        · rw [h2, upd_same] at e; cases e
        · rw [upd_ne h2] at e
          exact e
    obtain ⟨n1, n2, n3⟩ := lf _ hsz
    refine h h'.objs.size c' ((X.mg "__name__").getD .none) ctv _ _ I1 ⟨hE, al, fun _ => T1⟩ (Heap.get?_push_size _ rfl) ?_ n1 n2 n3 upd_same
    have m1 : h'.objs.size ≠ c' := Nat.ne_of_gt hlt
    have m2 : h'.objs.size ≠ Pt := Nat.ne_of_gt (Nat.lt_of_lt_of_le (Heap.lt_size hP') hsz)
    rw [upd_ne m1, upd_ne m2]
    exact I.hok.fresh hsz
  | some cv =>
    obtain ⟨c', e, hco⟩ := ha pos cv hc
    subst e
    refine PySem.W.kla_makeFunctionHit (mg := X.mg) (c := c) (P := Pt) (ps := ps) (closure_ok hfree) I.ok.glob (I.mod.glob.keeps I.bk) hcode (TB.code.keeps I.bk) hP' ht hc bP fun ctv h' tk hx hsz => ?_
    have I1 : Inv X pins σ H { s with heap := h'.push (PySem.W.kla_obj "<lambda>" (X.env.qual ++ "<lambda>") params body scope (cloFrom X.env.cells scope.names []) ((X.mg "__name__").getD .none) c' ctv), toks := tk } := I.kept fun b o e => Heap.get?_push_of_some _ (hx b o e)
    obtain ⟨n1, n2, n3⟩ := lf _ hsz
    exact h h'.objs.size c' ((X.mg "__name__").getD .none) ctv H _ I1 (Ext.gr (Ext.rfl H)) (Heap.get?_push_size _ rfl) (I.hok.fresh hsz) n1 n2 n3 hco
/-- what it does, over the ground of the state where it is made -/
theorem lam_start3 {A : Around} {outer : List PySem.Env} {E : XK} {scope : Scope} {f c' : Addr} {h₁ : Heap} {tk : Nat} {HZ : Hp} {s1 : Shared} (I : Inv X pins σ H s) (L : LamX.LamS X.env.scope scope) (e0 : Env0 X.prog X.w X.K X.mg X.base A outer s1 HZ) (hd : A.handled = none)
    (hc : ∀ y c o, X.env.cells.lookup y = some c → s.heap.get? c = some o → s1.heap.get? c = some o ∧ HZ c = none) (hns : h₁.Ns s1.heap.objs.size fun y => ([] : List (Str × Value)).reverse.lookup y) (kp : ∀ b o, s1.heap.get? b = some o → h₁.get? b = some o) :
    Inv (LamX.lamCx X A outer s1 HZ E scope f c') [] σ HZ { s1 with heap := h₁, toks := tk } := by
  have has := L.has I.ok
  have back : ∀ {y c}, (cloFrom X.env.cells scope.names []).lookup y = some c → X.env.cells.lookup y = some c := fun {y c} e => by
    rcases cloFrom_mem (PySem.mem_of_lookup e) with hm | ⟨h1, h2⟩
    · cases hm
    · obtain ⟨c1, q⟩ := has _ h1 rfl
      have q : X.env.cells.lookup y = some c1 := q
      have e2 : c = c1 := by
        rw [h2, q] <;> rfl
      rw [e2]
      exact q
  have fwd : ∀ {y}, scope.names.lookup y = some .free → ∃ c, (cloFrom X.env.cells scope.names []).lookup y = some c := fun {y} hl => by
    have hy : (y, NameKind.free) ∈ scope.names := PySem.mem_of_lookup hl
    exact mem_lookup (cloFrom_has (cells := X.env.cells) (acc := []) hy)
  have cellK : ∀ {y : Str} {c : Addr} {v : Option Value}, X.env.cells.lookup y = some c → s.heap.IsCell c v → h₁.IsCell c v := fun {y c v} n ⟨o, ho, hd⟩ => ⟨o, kp _ _ (hc y c o n ho).1, hd⟩
  have noEx : ∀ b : Addr, b ∉ (LamX.lamCx X A outer s1 HZ E scope f c').ex := fun b z => nomatch (show b ∈ ([] : List Addr) from z)
  refine ⟨⟨e0.mod, L.kind, rfl, rfl, Nat.le_refl _, fun y z c e1 e2 => I.ok.inj y z c (back e1) (back e2), fun y hy => ?_, fun y c z _ => ?_, fun _ => hd, Around.frames_deeper e0.frames, .inr ⟨rfl, rfl⟩, fun b z => absurd z (noEx b), e0.bs, e0.bsz, fun b _ _ => noEx b,
      fun b z => absurd z (noEx b), e0.funs, e0.frf⟩,
    rfl, e0.bare, Un.kept kp, ⟨_, hns, fun i y v e1 e2 e3 => ?_⟩, fun y c e => ?_, e0.hok.fresh (Nat.le_refl _), fun y c e => ?_, fun q hq => absurd (show q ∈ ([] : List (Addr × Obj)) ++ [] from hq) (by simp), e0.hok.kept kp, I.len⟩
  · have hy : scope.names.lookup y = some .cell ∨ scope.names.lookup y = some .free := hy
    rcases hy with hy | hy
    · exact absurd rfl (L.own _ (PySem.mem_of_lookup hy)).2
    · exact fwd hy
  · have z : false = true := z
    cases z
  · have e3 : Vis scope y := e3
    rcases e3 with k | k | k
    · exact absurd rfl (L.own _ (PySem.mem_of_lookup k)).1
    · exact absurd rfl (L.own _ (PySem.mem_of_lookup k)).2
    · obtain ⟨m, hn, hl⟩ := I.loc
      have hvis : Vis X.env.scope y := (L.free _ (PySem.mem_of_lookup k) rfl).elim (fun k => .inr (.inl k)) fun k => .inr (.inr k)
      obtain ⟨u, r, q⟩ := hl i y v e1 e2 hvis
      obtain ⟨c2, h2⟩ := fwd k
      refine ⟨u, r, .inr ⟨.inr k, c2, h2, ?_⟩⟩
      have c1 := back h2
      rcases q with ⟨k', _⟩ | ⟨_, c3, e', z⟩
      · have k' : X.env.scope.names.lookup y = some .local := k'
        rcases L.free _ (PySem.mem_of_lookup k) rfl with k2 | k2 <;> rw [show X.env.scope.names.lookup y = _ from k2] at k' <;> cases k'
      · rw [c1] at e'
        cases e'
        exact cellK c1 z
  · obtain ⟨u, z⟩ := I.cell y c (back e)
    exact ⟨u, cellK (back e) z⟩
  · obtain ⟨u, o, ho, hd⟩ := I.cell y c (back e)
    exact (hc y c o (back e) ho).2
theorem lam_can {τ : Nat → Addr} {A0 P : List Addr} {ρ : Env} {f c' : Addr} {pm ctv : Value} {params : Arguments} {body : Expr} {scope : Scope} {k : Nat} {o : FO} {fb : Env → RE} (I : Inv X [] σ H s) (hfn0 : ∀ x, X.fn x = true) (S : SRep X.K τ A0 H σ ρ P) (L : LamX.LamS X.env.scope scope)
    (hf : s.heap.get? f = some (PySem.W.kla_obj "<lambda>" (X.env.qual ++ "<lambda>") params body scope (cloFrom X.env.cells scope.names []) pm c' ctv)) (hfn : H f = none) (hfr : f ∉ frs X.stack) (hco : H c' = some (LamX.CodeO c' (X.env.qual ++ "<lambda>")))
    (hbind : bindArgs (PySem.W.kla_fn "<lambda>" (X.env.qual ++ "<lambda>") params body scope (cloFrom X.env.cells scope.names []) pm (.ref c') ctv) ⟨[], []⟩ = pure [])
    (hbody : ∀ (A : Around) (outer : List PySem.Env) (s : Shared) (H : Hp) (E : XK) (f c' : Addr), Cn (LamX.lamCx X A outer s H E scope f c') E k → DE (LamX.lamCx X A outer s H E scope f c') E body fb) (ho : foOf (fb (pubE ρ)) = some o) :
    Can X.prog X.w X.K X.mg (ground s H (frs X.stack)) (k + 1) H (P ++ A0) f o := by
  refine ⟨⟨_, ground_get hf hfn hfr, fun h e => ⟨_, _, _, _, e⟩⟩, fun A out2 s2 H2 B Q E hgd hr e0 g b1 b2 tr tb q => ?_⟩
  have of1 := (e0.bs f _ (ground_get hf hfn hfr)).1
  have hco2 : H2 c' = some (LamX.CodeO c' (X.env.qual ++ "<lambda>")) := g.kp _ _ hco LamX.codeO_ne
  obtain ⟨⟨oc, vs, t, hoc, hdc, hvc⟩, _, _⟩ := e0.hok c' _ hco2
  have lim : s2.heap.NoLimit := e0.mod.nolimit.keeps fun b o e => (e0.bs b o e).1
  have cfr : ∀ y c, X.env.cells.lookup y = some c → c ∉ frs X.stack := fun y c e hm => by
    rcases List.mem_cons.mp (I.stkSub c hm) with z | z
    · exact I.cne y c e z
    · obtain ⟨_, o', ho', _⟩ := I.ok.funs.mem z
      exact absurd (Nat.lt_of_lt_of_le (Heap.lt_size ho') (I.ok.cab y c (hfn0 y) e)) (Nat.lt_irrefl _)
  have cells : ∀ y c o, X.env.cells.lookup y = some c → s.heap.get? c = some o → s2.heap.get? c = some o ∧ H2 c = none := fun y c o e ho => e0.bs c o (ground_get ho (I.freeC y c e) (cfr y c e))
  have e1 : Env0 X.prog X.w X.K X.mg X.base A out2 s2 H2 := env0_less e0 I.mod (fun b o e => base_ground I e) (by
    show X.base.objs.size ≤ (PySem.W.hideAll _ _).objs.size
    rw [PySem.W.hideAll_size]
    exact Nat.le_trans I.ok.bsz I.sz)
  refine PySem.W.kla_callFunE hr.depth of1 rfl L.co L.gen rfl ⟨c', oc, vs, t, rfl, hoc, hdc, hvc⟩ ?_
  rw [hbind]
  refine wpAny_pure (wpAny_newFunctionEnv (fun y hy => (L.own y hy).2) (fun y hy => absurd hy (by simp)) (fun h₁ hns hsb => ⟨lim.fresh _ hsb, ?_⟩) L.kind)
  show codeAny _ _ (.expr body (LamX.lamEnv X scope s2.heap.objs.size f c')) _ _
  have kp : ∀ b o, s2.heap.get? b = some o → h₁.get? b = some o := fun b o e => hsb.extBut b o (Nat.ne_of_lt (Heap.lt_size e)) (Heap.get?_push_of_some _ e)
  have J : Inv (LamX.lamCx X A out2 s2 H2 E scope f c') [] σ H2 { s2 with heap := h₁, toks := s2.toks + ([] : List (Str × Value)).length } := lam_start3 I L e1 hr.hd cells hns kp
  have cn : Cn (LamX.lamCx X A out2 s2 H2 E scope f c') E k := ⟨hgd, hr.deeper _, passes_call (W := fun cls d _ H => E cls d H) (takes_of rfl rfl rfl rfl) (fun _ _ _ _ h => h), takes_of rfl rfl rfl rfl, rfl⟩
  have S2 := S.pubs g b2 tr tb
  have ht : tDE X.K E fb σ H2 Q := by
    refine ⟨τ, B, [], pubE ρ, S2, ?_⟩
    have less : ∀ {P' : List Addr} {H' : Hp}, Ext (hid (P' ++ B) H') (hid B H') := fun {P' H'} => hid_less fun a z => List.mem_append_right _ z
    cases q2 : fb (pubE ρ) with
    | ok w ρ' =>
      rw [q2] at ho
      cases ho
      cases w with
      | pu d => exact fun v H' P' t _ _ => q v H' t.toGr
      | frs ds => exact fun p xs H' P' t _ _ _ _ _ _ => q (.ref p) H' t.toGr
    | err c d =>
      rw [q2] at ho
      cases ho
      exact fun dx v H' P' t hx hr => q dx v H' t.toGr hx (hr.ext less)
    | st => rw [q2] at ho; cases ho
  refine PySem.W.kla_codeExpr (wpAny_mono ((hbody _ _ s2 H2 E f c' cn).pe.run [] _ _ H2 Q J ht) (fun v s' hq => ?_) fun e s' hq => hq)
  obtain ⟨w', H', J', rv, q⟩ := hq
  exact ⟨w', H', J'.os, J'.bare, J'.base, J'.hok, rv, q⟩
end
end DL
/-! D20: a stretch of statements along which an own list is shared. -/
namespace DL
open PySem L2 PyProof.Rows
theorem execs_append (env : PySem.Env) (bs : List Stmt) : ∀ as : List Stmt, execs (as ++ bs) env = (do match ← execs as env with | .next => execs bs env | f => pure f)
  | [] => by
    show execs bs env = _
    rw [show execs [] env = pure .next from rfl]
    simp
  | a :: as => by
    rw [List.cons_append, execs_cons, execs_cons, execs_append env bs as, LawfulMonad.bind_assoc]
    congr 1
    funext f
    cases f <;> simp
theorem pss_append {X : Cx} {as bs : List Stmt} {t u : TS} (h1 : PSs X as t) (h2 : PSs X bs u) : PSs X (as ++ bs) (tSeq t u) := by
  refine ⟨fun pins s σ H D I h => ?_⟩
  rw [execs_append]
  refine wpAny_bind (thn (h1.run pins s σ H { D with nx := u D } I h) fun f s1 q => ?_)
  cases f with
  | next =>
    obtain ⟨σ1, H1, I1, q1⟩ := q
    exact h2.run pins s1 σ1 H1 D I1 q1
  | brk => exact wpAny_pure q
  | cont => exact wpAny_pure q
  | ret v => exact wpAny_pure q
/-! ### data without lists -/
mutual
def noL : D → Bool
  | .none => true
  | .bool _ => true
  | .int _ => true
  | .str _ => true
  | .tuple ds => noLs ds
  | _ => false
def noLs : List D → Bool
  | [] => true
  | d :: ds => noL d && noLs ds
end
section
variable {K : PySem.W.Frag} {H : Hp}
mutual
theorem noL_rp {p : Addr} {ys : List V} {A B : List Addr} (hp : H p = some (.lst ys)) (hB : ∀ a ∈ B, a = p ∨ a ∈ A) : ∀ {v : V} {d : D}, noL d = true → Rp K (hid A H) v d → Rp K (hid B H) v d
  | _, _, _, .non => .non
  | _, _, _, .bl b => .bl b
  | _, _, _, .int i => .int i
  | _, _, _, .str x => .str x
  | _, _, h, .tup e r => .tup (hid_in (fun z => (hB _ z).elim (fun w => by
      have e2 := (hid_of e).2
      rw [w, hp] at e2; cases e2) (hid_of e).1) (hid_of e).2) (noLs_rp hp hB h r)
  | _, _, h, .lst _ _ => by cases h
  | _, _, h, .emp _ => by cases h
  | _, _, h, .exc _ _ _ => by cases h
  | _, _, h, .fn => by cases h
theorem noLs_rp {p : Addr} {ys : List V} {A B : List Addr} (hp : H p = some (.lst ys)) (hB : ∀ a ∈ B, a = p ∨ a ∈ A) : ∀ {vs : List V} {ds : List D}, noLs ds = true → Rps K (hid A H) vs ds → Rps K (hid B H) vs ds
  | _, _, _, .nil => .nil
  | _, _, h, .cons a r => by
    have h : (noL _ && noLs _) = true := h
    rw [Bool.and_eq_true] at h
    exact .cons (noL_rp hp hB h.1 a) (noLs_rp hp hB h.2 r)
end
end
/-! ### the stretch -/
def lendSl : Option Sl → Option Sl
  | some (.pub 0 d) => some (.pub 1 d)
  | some (.own t ds) => some (.own t ds)
  | _ => none
def lendE (i : Nat) (ds : List D) (ρ : Env) : Env := (ρ.map lendSl).set i (some (.pub 2 (.list ds)))
def backSl : Option Sl → Option Sl
  | some (.pub 1 d) => some (.pub 0 d)
  | some (.pub 0 d) => if noL d then some (.pub 0 d) else none
  | some (.own t ds) => if noLs ds then some (.own t ds) else none
  | _ => none
def backE (i : Nat) (ds : List D) (ρ : Env) : Env := (ρ.map backSl).set i (some (.own 0 ds))
/-- what is kept where the stretch returns -/
def stripSl : Option Sl → Option Sl
  | some (.own (t + 1) ds) => some (.own (t + 1) ds)
  | _ => none
def tauL (p : Addr) (τ : Nat → Addr) : Nat → Addr := fun n => if n = 0 then p else τ n
theorem map_at {f : Option Sl → Option Sl} {ρ : Env} {j : Nat} {s : Sl} (h : (ρ.map f)[j]? = some (some s)) : ∃ o, ρ[j]? = some o ∧ f o = some s := by
  rw [List.getElem?_map] at h
  cases q : ρ[j]? with
  | none => rw [q] at h; cases h
  | some o => rw [q] at h; exact ⟨o, rfl, Option.some.inj h⟩
theorem set_at {ρ : Env} {i j : Nat} {o : Option Sl} {s : Sl} (h : (ρ.set i o)[j]? = some (some s)) : (j = i ∧ o = some s) ∨ (j ≠ i ∧ ρ[j]? = some (some s)) := by
  rw [List.getElem?_set] at h
  by_cases e : i = j
  · rw [if_pos e] at h
    by_cases z : i < ρ.length
    · rw [if_pos z] at h; exact .inl ⟨e.symm, Option.some.inj h⟩
    · rw [if_neg z] at h; cases h
  · rw [if_neg e] at h; exact .inr ⟨fun z => e z.symm, h⟩
section
variable {K : PySem.W.Frag} {E : XK} {τ : Nat → Addr} {A0 P : List Addr} {H : Hp} {σ : L2.St} {ρ : Env}
theorem SRep.lend (S : SRep K τ A0 H σ ρ P) {i : Nat} {ds : List D} {p : Addr} (h : ρ[i]? = some (some (.own 0 ds))) (hσ : σ[i]? = some (some (.ref p))) (hn : noN ρ = true) : SRep K (tauL p τ) A0 H σ (lendE i ds ρ) (P.filter (· ≠ p)) := by
  obtain ⟨p', xs, h1, h2, h3, h4, h5⟩ := S.own i 0 ds h
  rw [hσ] at h1
  cases h1
  have hA : p ∉ A0 := S.dj p h2
  have sub : ∀ a ∈ P.filter (· ≠ p) ++ A0, a ∈ P ++ A0 ∧ a ≠ p := fun a z => (List.mem_append.mp z).elim (fun z => by
      have z := List.mem_filter.mp z
      exact ⟨List.mem_append_left _ z.1, of_decide_eq_true z.2⟩) fun z => ⟨List.mem_append_right _ z, fun w => hA (by rw [← w]; exact z)⟩
  refine ⟨fun j m d q => ?_, fun j t es q => ?_, fun j k t u es fs q hjk e1 e2 => ?_, fun a z => S.tr a (sub a z).1, by unfold lendE; rw [List.length_set, List.length_map]; exact S.len, fun a z => S.dj a (List.mem_filter.mp z).1, S.tb, fun j g q => ?_⟩
  · rcases set_at q with ⟨rfl, e⟩ | ⟨ne, e⟩
    · cases e
      refine ⟨.ref p, hσ, .lst (hid_in (fun z => (sub p z).2 rfl) h3) (h4.ext (hid_less fun a z => (sub a z).1)), fun _ => rfl⟩
    · obtain ⟨o, e1, e2⟩ := map_at e
      unfold lendSl at e2
      split at e2
      · cases e2
        obtain ⟨v, a1, a2, _⟩ := S.pu j 0 d e1
        refine ⟨v, a1, a2.ext (hid_less fun a z => ?_), fun z => nomatch z⟩
        have z : a ∈ tauL p τ 0 :: (P.filter (· ≠ p) ++ A0) := z
        rcases List.mem_cons.mp z with w | w
        · rw [show tauL p τ 0 = p from rfl] at w
          rw [w]
          exact List.mem_append_left _ h2
        · exact (sub a w).1
      · cases e2
      · cases e2
  · rcases set_at q with ⟨rfl, e⟩ | ⟨ne, e⟩
    · cases e
    · obtain ⟨o, e1, e2⟩ := map_at e
      unfold lendSl at e2
      split at e2
      · cases e2
      · cases e2
        obtain ⟨p2, ys, a1, a2, a3, a4, a5⟩ := S.own j t es e1
        have np : p2 ≠ p := fun z => S.inj i j 0 t ds es p ne.symm h e1 hσ (by rw [a1, z])
        refine ⟨p2, ys, a1, List.mem_filter.mpr ⟨a2, decide_eq_true np⟩, a3, a4.ext (hid_less fun a z => (sub a z).1), a5.elim .inl fun z => ?_⟩
        by_cases t0 : t = 0
        · exact .inl t0
        · refine .inr ?_
          unfold tauL
          rw [if_neg t0]
          exact z
      · cases e2
  · have up : ∀ {j t : Nat} {es : List D}, (lendE i ds ρ)[j]? = some (some (.own t es)) → ρ[j]? = some (some (.own t es)) := fun {j t es} z => by
      rcases set_at z with ⟨rfl, e⟩ | ⟨ne, e⟩
      · cases e
      · obtain ⟨o, e1, e2⟩ := map_at e
        unfold lendSl at e2
        split at e2
        · cases e2
        · cases e2; exact e1
        · cases e2
    exact S.inj j k t u es fs q hjk (up e1) (up e2)
  · rcases set_at q with ⟨rfl, e⟩ | ⟨ne, e⟩
    · cases e
    · obtain ⟨o, e1, e2⟩ := map_at e
      unfold lendSl at e2
      split at e2 <;> cases e2
theorem SRep.back {p : Addr} {xs : List V} {P1 : List Addr} {i : Nat} {ds : List D} (S : SRep K (tauL p τ) A0 H σ ρ P1) (h : ρ[i]? = some (some (.pub 2 (.list ds)))) (hp : p ∉ P1) (hA : p ∉ A0) (hn : noLs ds = true) : SRep K τ A0 H σ (backE i ds ρ) (p :: P1) := by
  obtain ⟨v, h1, h2, h3⟩ := S.pu i 2 _ h
  have h3 := h3 rfl
  rw [show tauL p τ 0 = p from rfl] at h3
  subst h3
  have h2 : Rp K (hid (P1 ++ A0) H) (.ref p) (.list ds) := h2
  cases h2 with
  | lst e r =>
    have hl := (hid_of e).2
    have hB : ∀ a ∈ p :: P1 ++ A0, a = p ∨ a ∈ P1 ++ A0 := fun a z => List.mem_cons.mp z
    have own_up : ∀ {j t : Nat} {es : List D}, (backE i ds ρ)[j]? = some (some (.own t es)) → (j = i ∧ t = 0 ∧ es = ds) ∨ (j ≠ i ∧ ρ[j]? = some (some (.own t es)) ∧ noLs es = true) := fun {j t es} z => by
      rcases set_at z with ⟨rfl, e⟩ | ⟨ne, e⟩
      · cases e; exact .inl ⟨rfl, rfl, rfl⟩
      · obtain ⟨o, e1, e2⟩ := map_at e
        unfold backSl at e2
        split at e2
        · cases e2
        · split at e2 <;> cases e2
        · split at e2
          · cases e2; rename_i w; exact .inr ⟨ne, e1, w⟩
          · cases e2
        · cases e2
    refine ⟨fun j m d q => ?_, fun j t es q => ?_, fun j k t u es fs q hjk e1 e2 e3 => ?_, fun a z => ?_, by unfold backE; rw [List.length_set, List.length_map]; exact S.len, fun a z => ?_, S.tb, fun j g q => ?_⟩
    · rcases set_at q with ⟨rfl, e⟩ | ⟨ne, e⟩
      · cases e
      · obtain ⟨o, e1, e2⟩ := map_at e
        unfold backSl at e2
        split at e2
        · cases e2
          obtain ⟨v, a1, a2, _⟩ := S.pu j 1 d e1
          exact ⟨v, a1, a2, fun z => nomatch z⟩
        · split at e2
          · rename_i w
            cases e2
            obtain ⟨v, a1, a2, _⟩ := S.pu j 0 d e1
            exact ⟨v, a1, noL_rp hl hB w a2, fun z => nomatch z⟩
          · cases e2
        · split at e2 <;> cases e2
        · cases e2
    · rcases own_up q with ⟨rfl, rfl, rfl⟩ | ⟨ne, e, w⟩
      · exact ⟨p, _, h1, List.mem_cons_self, hl, noLs_rp hl hB hn r, .inl rfl⟩
      · obtain ⟨p2, ys, a1, a2, a3, a4, a5⟩ := S.own j t es e
        refine ⟨p2, ys, a1, List.mem_cons_of_mem _ a2, a3, noLs_rp hl hB w a4, a5.elim .inl fun z => ?_⟩
        by_cases t0 : t = 0
        · exact .inl t0
        · refine .inr ?_
          unfold tauL at z
          rw [if_neg t0] at z
          exact z
    · rcases own_up e1 with ⟨rfl, rfl, rfl⟩ | ⟨ne, f1, w⟩
      · rw [h1] at e3
        cases e3
        rcases own_up e2 with ⟨rfl, rfl, rfl⟩ | ⟨ne, f2, w⟩
        · exact fun _ => hjk rfl
        · obtain ⟨p2, ys, a1, a2, a3, a4, a5⟩ := S.own k u fs f2
          intro z
          rw [a1] at z
          cases z
          exact hp a2
      · rcases own_up e2 with ⟨rfl, rfl, rfl⟩ | ⟨ne2, f2, w2⟩
        · obtain ⟨p2, ys, a1, a2, a3, a4, a5⟩ := S.own j t es f1
          rw [a1] at e3
          cases e3
          intro z
          rw [h1] at z
          cases z
          exact hp a2
        · exact S.inj j k t u es fs q hjk f1 f2 e3
    · rcases List.mem_cons.mp z with w | w
      · rw [w, hl]; exact fun z => nomatch z
      · exact S.tr a w
    · rcases List.mem_cons.mp z with w | w
      · rw [w]; exact hA
      · exact S.dj a w
    · rcases set_at q with ⟨rfl, e⟩ | ⟨ne, e⟩
      · cases e
      · obtain ⟨o, e1, e2⟩ := map_at e
        unfold backSl at e2
        split at e2
        · cases e2
        · split at e2 <;> cases e2
        · split at e2 <;> cases e2
        · cases e2
end
end DL
/-! D21: the stretch as a rule; is not None of an own list. -/
namespace DL
open PySem L2 PyProof.Rows
def sStretch (i : Nat) (gA gB : Env → RS) : Env → RS := fun ρ => match ρ[i]? with
  | some (some (.own 0 ds)) => if noN ρ = true then (match gA (lendE i ds ρ) with
    | .nx ρ1 => (match ρ1[i]? with
      | some (some (.pub 2 (.list es))) => if noLs es = true then gB (backE i es ρ1) else .st
      | _ => .st)
    | .ret (.pu d) ρ1 => .ret (.pu d) (ρ1.map stripSl)
    | .err c d => .err c d
    | _ => .st) else .st
  | _ => sSeq gA gB ρ
section
variable {K : PySem.W.Frag} {E : XK} {τ : Nat → Addr} {A0 P : List Addr} {H : Hp} {σ : L2.St} {ρ : Env}
theorem SRep.strip {p : Addr} (S : SRep K (tauL p τ) A0 H σ ρ P) : SRep K τ A0 H σ (ρ.map stripSl) P := by
  have up : ∀ {j t : Nat} {es : List D}, (ρ.map stripSl)[j]? = some (some (.own t es)) → t ≠ 0 ∧ ρ[j]? = some (some (.own t es)) := fun {j t es} z => by
    obtain ⟨o, e1, e2⟩ := map_at z
    unfold stripSl at e2
    split at e2
    · cases e2; exact ⟨Nat.succ_ne_zero _, e1⟩
    · cases e2
  refine ⟨fun j m d q => ?_, fun j t es q => ?_, fun j k t u es fs q hjk e1 e2 => S.inj j k t u es fs q hjk (up e1).2 (up e2).2, S.tr, by rw [List.length_map]; exact S.len, S.dj, S.tb, fun j g q => ?_⟩
  · obtain ⟨o, e1, e2⟩ := map_at q
    unfold stripSl at e2
    split at e2 <;> cases e2
  · obtain ⟨n0, e⟩ := up q
    obtain ⟨p2, ys, a1, a2, a3, a4, a5⟩ := S.own j t es e
    refine ⟨p2, ys, a1, a2, a3, a4, a5.elim .inl fun z => .inr ?_⟩
    unfold tauL at z
    rw [if_neg n0] at z
    exact z
  · obtain ⟨o, e1, e2⟩ := map_at q
    unfold stripSl at e2
    split at e2 <;> cases e2
end
section
variable {X : Cx} {E : XK} {as bs : List Stmt} {gA gB : Env → RS} {i : Nat}
theorem dss_stretch (hA : DSs X E as gA) (hB : DSs X E bs gB) : DSs X E (as ++ bs) (sStretch i gA gB) := by
  refine ⟨PSs.weak (pss_append hA.pss hB.pss) fun Dn σ H ⟨τ, A0, P, ρ, S, c⟩ => ?_⟩
  unfold sStretch at c
  split at c
  · rename_i ds q
    by_cases hn : noN ρ = true
    · rw [if_pos hn] at c
      obtain ⟨p, xs, hσ, hp, hl, _, _⟩ := S.own i 0 ds q
      have hA0 : p ∉ A0 := S.dj p hp
      refine ⟨tauL p τ, A0, P.filter (· ≠ p), lendE i ds ρ, S.lend q hσ hn, ?_⟩
      have lift : ∀ {H' : Hp} {P' : List Addr}, Stp X.K H (P.filter (· ≠ p)) H' P' → Stp X.K H P H' P' := fun {H' P'} t => ⟨fun a o n h nt => t.kp a o (fun z => n (List.mem_filter.mp z).1) h nt, fun a z => (t.nw a z).elim (fun w => .inl (List.mem_filter.mp w).1) .inr, t.al, t.tb⟩
      cases o : gA (lendE i ds ρ) with
      | nx ρ1 =>
        rw [o] at c
        dsimp only at c
        intro σ' H' P' t S'
        split at c
        · rename_i es q1
          by_cases h2 : noLs es = true
          · rw [if_pos h2] at c
            have np : p ∉ P' := fun z => by
              rcases t.nw p z with w | w
              · exact of_decide_eq_true (List.mem_filter.mp w).2 rfl
              · rw [hl] at w; cases w
            have t2 : Stp X.K H P H' (p :: P') := ⟨(lift t).kp, fun a z => (List.mem_cons.mp z).elim (fun w => .inl (by rw [w]; exact hp)) ((lift t).nw a), t.al, t.tb⟩
            exact ⟨τ, A0, p :: P', backE i es ρ1, S'.back (xs := []) q1 np hA0 h2, CDS.stp t2 c⟩
          · rw [if_neg h2] at c
            exact c.elim
        · exact c.elim
      | bk ρ1 => rw [o] at c; exact c.elim
      | ct ρ1 => rw [o] at c; exact c.elim
      | ret w ρ1 =>
        rw [o] at c
        cases w with
        | pu d => exact fun v σ' H' P' t S' r => c v σ' H' P' (lift t) S'.strip r
        | frs es => exact c.elim
      | err cc d =>
        rw [o] at c
        exact fun dx v H' P' t hx r => c dx v H' P' (lift t) hx r
      | st => rw [o] at c; exact c.elim
    · rw [if_neg hn] at c
      exact c.elim
  · exact seq_of ⟨τ, A0, P, ρ, S, c⟩
theorem dss_stretchN (n : Nat) {L : List Stmt} (hA : DSs X E (L.take n) gA) (hB : DSs X E (L.drop n) gB) : DSs X E L (sStretch i gA gB) := by
  have h := dss_stretch (i := i) hA hB
  rw [List.take_append_drop] at h
  exact h
/-- x is not None, x an own list or plain data -/
def fNotNO (i : Nat) : Env → RE := fun ρ => match ρ[i]? with
  | some (some (.own _ _)) => .ok (.pu (.bool true)) ρ
  | some (some (.pub _ .none)) => .ok (.pu (.bool false)) ρ
  | some (some (.pub _ (.list _))) => .ok (.pu (.bool true)) ρ
  | _ => .st
theorem t_notNO {a : Expr} {j : Nat} {p pos : Pos} (h0 : PE X a (tVar i)) : DT X E (.Compare a [.IsNot] [.Constant .none j p] pos) (fNotNO i) := by
  refine ⟨PT.weak (pt_cmpR op_notN h0 pe_non (nomark _)) fun σ H Q ⟨τ, A0, P, ρ, S, c⟩ => ?_⟩
  unfold fNotNO at c
  split at c
  · rename_i t ds q
    obtain ⟨p, xs, hσ, _⟩ := S.own i t ds q
    exact ⟨.ref p, hσ, rfl, true, rfl, by
      obtain ⟨b, e, z⟩ := c (.bl true) H P (Stp.rfl H P) S (.bl true)
      cases e
      exact z⟩
  · rename_i m q
    obtain ⟨v, hσ, r⟩ := S.puD q
    cases r
    exact ⟨.non, hσ, rfl, false, rfl, by
      obtain ⟨b, e, z⟩ := c (.bl false) H P (Stp.rfl H P) S (.bl false)
      cases e
      exact z⟩
  · rename_i m ds q
    obtain ⟨v, hσ, r⟩ := S.puD q
    cases r with
    | lst e r => exact ⟨_, hσ, rfl, true, rfl, by
      obtain ⟨b, e, z⟩ := c (.bl true) H P (Stp.rfl H P) S (.bl true)
      cases e
      exact z⟩
  · exact c.elim
end
end DL
/-! D22: an own exception class, read off the head. -/
namespace DLX
open PySem PySem.W PySem.Calls PyProof.Rows PySem.HandSPX
theorem xba {a b : Bool} (h : (a && b) = true) : a = true ∧ b = true := Bool.and_eq_true_iff.mp h
def xClo (K : Frag) (C : Addr) (fd : FuncData) : Bool := match fd.closure with
  | [(y, cc)] => decide (y = ("__class__" : Str)) && (match K.lookup cc with
    | some ⟨_, _, .cell (some (.ref C')), _⟩ => decide (C' = C)
    | _ => false)
  | _ => false
def xDfl (K : Frag) (fd : FuncData) : Bool := match fd.defaults with
  | .ref T => (match K.lookup T with
    | some ⟨_, _, .seq its _, _⟩ => (match its.toList with
      | [.none] => true
      | _ => false)
    | _ => false)
  | _ => false
def xCode (prog : Program) (K : Frag) (fd : FuncData) : Bool := match fd.code with
  | .ref cda => codeIn K (.ref cda) fd.qualname && (match K.lookup cda with
    | some ⟨_, _, .fields vs, _⟩ => (match (vs[2]? : Option Value) with
      | some (.str file _) => (prog.main.file : Str) == file
      | _ => false)
    | _ => false)
  | _ => false
abbrev ExV : Type := Option (Str × Arguments × FuncBody × Scope × Addr × Addr × Bool)
/-- what is looked at in the __init__ of the class at C -/
def exV (prog : Program) (K : Frag) (C : Addr) : ExV := match findIn K (.ref C) "__init__" with
  | some (some (.ref fI)) => (match K.lookup fI with
    | some ⟨_, _, .func fd, _⟩ => some (fd.name, fd.params, fd.body, fd.scope, fd.globals, fd.builtins, xClo K C fd && (xDfl K fd && (xCode prog K fd && decide (typeIn K (.ref fI) = some (.type "function")))))
    | _ => none)
  | _ => none
def exVal (A : Arguments) (B : List Stmt) : ExV := some ("__init__", A, .stmts B, xS, mainGlobals, builtinsNs, true)
def xCls (K : Frag) (C : Addr) : Bool := match K.lookup C with
  | some ⟨.type "type", _, .cls cd, sl⟩ => (match cd.mro, sl.toList with
    | .ref C' :: bm, [_, _, _, _, some (.builtin n), _] => C' == C && (n == "ValueError.__new__" && (!cd.hasDel && (cd.hasDict && refsVE bm)))
    | _, _ => false)
  | _ => false
def xB1 (K : Frag) (C : Addr) : Bool := xCls K C && (keepIn K (.ref C) && (decide (findIn K (.ref C) "__setattr__" = some (some (.builtin "object.__setattr__"))) && (decide (findIn K (.ref C) "__getattribute__" = some (some (.builtin "BaseException.__getattribute__"))) && (decide (findIn K (.ref C) "__getattr__" = some none) && (decide (findIn K (.ref C) "value" = some none) &&
  (decide (subIn K (.ref C) (.type "BaseException") = some true) && (decide (typeIn K (.ref C) = some (.type "type")) && (hasDictIn K C && (decide (ks_superIn K C C "__init__" = some (some (.builtin "ValueError.__init__"))) && (decide (subIn K (.ref C) (.type "ValueError") = some true) && decide (mroIn K C (.ref C) = some true)))))))))))
theorem xCls_ok {K : Frag} {C : Addr} (q : xCls K C = true) : ∃ nm q N bs bm sn sub ab col dd k0 k1 k2 k3 k5, K.lookup C = some (excClassObj nm q C N bs bm true sn sub ab col dd k0 k1 k2 k3 k5 "ValueError.__new__") ∧ refsVE bm = true := by
  unfold xCls at q
  split at q
  · rename_i dd cd sl ho
    split at q
    · rename_i C' bm k0 k1 k2 k3 n k5 hm hs
      obtain ⟨q1, q⟩ := xba q
      obtain ⟨q2, q⟩ := xba q
      obtain ⟨q3, q⟩ := xba q
      obtain ⟨q4, q5⟩ := xba q
      obtain rfl : C' = C := eq_of_beq q1
      obtain rfl : n = "ValueError.__new__" := eq_of_beq q2
      have hdel : cd.hasDel = false := by cases h : cd.hasDel <;> simp [h] at q3 ⊢
      obtain ⟨nm, bs, mro, ns, qn, hd, sn, sub, ab, col, del⟩ := cd
      dsimp only at hm hdel q4
      subst hm hdel q4
      have hsl : sl = #[k0, k1, k2, k3, some (.builtin "ValueError.__new__"), k5] := by
        obtain ⟨l⟩ := sl
        simp only at hs
        rw [hs]
      subst hsl
      exact ⟨nm, qn, ns, bs, bm, sn, sub, ab, col, dd, k0, k1, k2, k3, k5, ho, q5⟩
    · cases q
  · cases q
theorem exT_of {prog : Program} {K : Frag} {mg : Str → Option Value} {x : Str} {C : Addr} {A : Arguments} {B : List Stmt} (gC : mg x = some (.ref C)) (noS : mg "super" = none) (top : (prog.main.scope.names.lookup ("super" : Str)).isSome = false) (opq : nsIn K cStatics "thirdparty.any" = some none)
    (b : xB1 K C = true) (e : exV prog K C = exVal A B) (hA : ∃ (p1 p2 p3 : Pos) (j : Nat), A = xA p1 p2 p3 j) (hB : ∃ a b c d e f g h i k : Pos, B = xB a b c d e f g h i k ∧ (c.endLine == e.line) = true) : ExT prog K mg x C := by
  unfold xB1 at b
  obtain ⟨b1, b⟩ := xba b
  obtain ⟨b2, b⟩ := xba b
  obtain ⟨b3, b⟩ := xba b
  obtain ⟨b4, b⟩ := xba b
  obtain ⟨b5, b⟩ := xba b
  obtain ⟨b6, b⟩ := xba b
  obtain ⟨b7, b⟩ := xba b
  obtain ⟨b8, b⟩ := xba b
  obtain ⟨b9, b⟩ := xba b
  obtain ⟨b10, b⟩ := xba b
  obtain ⟨b11, b12⟩ := xba b
  refine ⟨gC, noS, top, b2, xCls_ok b1, of_decide_eq_true b3, of_decide_eq_true b4, of_decide_eq_true b5, of_decide_eq_true b6, of_decide_eq_true b7, of_decide_eq_true b8, b9, of_decide_eq_true b10, opq, of_decide_eq_true b11, of_decide_eq_true b12, ?_⟩
  unfold exV at e
  split at e
  · rename_i fI hfI
    split at e
    · rename_i oc od fd osl lk
      obtain ⟨n1, n2, n3, n4, n5, n6, n7, n8, n9, n10, n11, n12, n13, n14, n15⟩ := fd
      unfold exVal at e
      simp only [Option.some.injEq, Prod.mk.injEq] at e
      obtain ⟨h1, h2, h3, h4, h5, h6, h7⟩ := e
      subst h1 h2 h3 h4 h5 h6
      obtain ⟨c1, h7⟩ := xba h7
      obtain ⟨c2, h7⟩ := xba h7
      obtain ⟨c3, c4⟩ := xba h7
      unfold xClo at c1
      split at c1
      · rename_i y cc hcl
        obtain ⟨c5, c6⟩ := xba c1
        have c5 := of_decide_eq_true c5
        split at c6
        · rename_i cl cld C' csl lcc
          have c7 := of_decide_eq_true c6
          subst c7
          unfold xDfl at c2
          split at c2
          · rename_i T hT
            split at c2
            · rename_i u1 u2 its nn u3 lT
              split at c2
              · rename_i hits
                unfold xCode at c3
                split at c3
                · rename_i cda hcda
                  obtain ⟨c8, c9⟩ := xba c3
                  split at c9
                  · rename_i ccl cdd vs ccs lcda
                    split at c9
                    · rename_i file tf hf
                      dsimp only at hcl hT hcda
                      subst hcl hT hcda c5
                      refine ⟨fI, oc, od, T, n9, n10, n11, n12, cda, cc, n14, osl, n2, _, _, hfI, of_decide_eq_true c4, lk, ⟨_, nn, lT, ?_⟩, c8, hA, hB, ⟨cl, cld, csl, lcc⟩, ccl, cdd, vs, ccs, file, tf, lcda, hf, c9⟩
                      obtain ⟨l⟩ := its
                      dsimp only at hits
                      subst hits
                      rfl
                    · cases c9
                  · cases c9
                · cases c3
              · cases c2
            · cases c2
          · cases c2
        · cases c6
      · cases c1
    · cases e
  · cases e
end DLX
/-! H1: the head: facts, the run. -/
namespace K84
open PySem PySem.Spec PyProof.Rows L2 DL
def top (i : Nat) : Stmt := PySem.Challenge.pw_addsup_k84_whole_shares_of_a_whole.main.body.getD i (.Pass ⟨0, 0, 0, 0⟩)
def exR : List Str := ["InvalidTable", "InvalidNumber", "InvalidWeights"]
def exNames : List Str := ["InvalidLayout", "InvalidTable", "InvalidBounds", "InvalidReport", "InvalidPart", "InvalidNumber", "InvalidNames", "InvalidText", "InvalidLot", "InvalidWeights", "InvalidLines", "InvalidMargins", "InvalidEdit", "Unlike", "TooMany"]
abbrev PR : Program := PySem.Challenge.pw_addsup_k84_whole_shares_of_a_whole
def dfn (x : Str) (i : Nat) : He.DefD := ⟨(x, none), x, x, defArgs (top i), defBody (top i), defScope (top i), [], []⟩
def fnl0 : List He.DefD := [dfn "is_whole" 19, dfn "lowest" 20, dfn "plus" 21, dfn "total_of" 22, dfn "is_count" 24, dfn "check_weights" 28, dfn "check_whole" 29, dfn "floors_of" 30, dfn "rests_of" 31, dfn "greatest_rests" 32, dfn "made_shares" 33, dfn "shares_of" 34, dfn "are_counts_of" 35, dfn "are_shares" 36, dfn "chosen_of" 37, dfn "share_count" 38, dfn "missed" 39, dfn "nearest_to" 40, dfn "plain_shares" 41, dfn "gap_of" 42, dfn "paradox" 43, dfn "_law_hash" 45, dfn "_law_random" 46, dfn "_law_cell" 47, dfn "_law_generator" 48, dfn "_law_pick" 49, dfn "_law_same" 50, dfn "_law_gcd" 51, dfn "_law_low" 52, dfn "_law_less" 53]
def fnl1 : List He.DefD := [dfn "_law_put" 54, dfn "_law_caught" 55, dfn "_law_alike" 56, dfn "_law_refused" 57, dfn "_law_all_refused" 58, dfn "_law_is_count" 59, dfn "_law_shares" 60, dfn "_law_are_shares" 61, dfn "_law_missed" 62, dfn "_law_ways" 63, dfn "_law_weights_right" 64, dfn "law" 65]
def fnl : List He.DefD := fnl0 ++ fnl1
def fal0 : List He.Fa := [.glo "is_whole", .glo "lowest", .glo "plus", .glo "total_of", .glo "is_count", .glo "check_weights", .glo "check_whole", .glo "floors_of", .glo "rests_of", .glo "greatest_rests", .glo "made_shares", .glo "shares_of", .glo "are_counts_of", .glo "are_shares", .glo "chosen_of", .glo "share_count", .glo "missed", .glo "nearest_to", .glo "plain_shares", .glo "gap_of", .glo "paradox", .glo "_law_hash", .glo "_law_random", .glo "_law_cell", .glo "_law_generator", .glo "_law_pick", .glo "_law_same", .glo "_law_gcd", .glo "_law_low", .glo "_law_less"]
def fal1 : List He.Fa := [.glo "_law_put", .glo "_law_caught", .glo "_law_alike", .glo "_law_refused", .glo "_law_all_refused", .glo "_law_is_count", .glo "_law_shares", .glo "_law_are_shares", .glo "_law_missed", .glo "_law_ways", .glo "_law_weights_right", .glo "law", .glo "SumError", .glo "InvalidLayout", .glo "InvalidTable", .glo "InvalidBounds", .glo "InvalidReport", .glo "InvalidPart", .glo "InvalidNumber", .glo "InvalidNames", .glo "InvalidText", .glo "InvalidLot", .glo "InvalidWeights", .glo "InvalidLines", .glo "InvalidMargins", .glo "InvalidEdit", .glo "Unlike", .glo "TooMany", .free "len", .free "isinstance"]
def fal2 : List He.Fa := [.free "int", .free "bool", .free "str", .free "list", .free "tuple", .free "max", .free "sum", .free "enumerate", .free "range", .free "repr", .free "abs", .free "sorted", .free "super", .int "MOST_WEIGHTS" 30, .int "MOST_NUMBER" 1000000]
def fal : List He.Fa := fal0 ++ fal1 ++ fal2
def tfl : List He.Defn := [("law", none), ("_law_weights_right", none), ("_law_shares", none), ("greatest_rests", none)]
/-- the i-th statement of the top, a class: its only def -/
def ini (i : Nat) : Stmt := match top i with
  | .ClassDef (body := b) .. => b.getD 0 (.Pass ⟨0, 0, 0, 0⟩)
  | _ => .Pass ⟨0, 0, 0, 0⟩
def exIx : List Nat := [4, 8, 12]
def exvs : List DLX.ExV := exIx.map fun i => DLX.exVal (defArgs (ini i)) (defBody (ini i))
def obsX1 (K : PySem.W.Frag) : List DLX.ExV := exR.map fun n => DLX.exV PR K (He.ga K n)
def exB (K : PySem.W.Frag) : Bool := (tfl.all fun p => tfl.all fun q => decide (p = q) || decide ((He.cT K p).2 ≠ (He.cT K q).2)) && (decide (PySem.W.nsIn K mainGlobals "gcd" = some (some (.builtin "math.gcd"))) && (decide (PySem.W.nsIn K PySem.cStatics "thirdparty.any" = some none) && (exR.all fun n => DLX.xB1 K (He.ga K n) && (exkB K (He.ga K n) && (decide (PySem.W.exmOne K (.ref (He.ga K n)) (.ref (He.ga K "SumError")) = some true) && exNames.all fun m => decide (PySem.W.kitOne K (.ref (He.ga K n)) (.ref (He.ga K m)) = some (decide (n = m))))))))
def asW (g : Addr → Option Obj) (n : Nat) : List Addr := PySem.cStatics :: He.asD g n
/-! the Hook: that of HeadHook4, and the exceptions' __init__ -/
structure Says (w : World) (h : Heap) (K : PySem.W.Frag) : Prop where
  x : He.SaysX fal fnl [] tfl exB w h K
  e : obsX1 K = exvs
abbrev AlZ : Type := He.AlX × List DLX.ExV
def obsK (g : Addr → Option Obj) (K : PySem.W.Frag) : AlZ := ((He.obsT fal fnl [] K, exB K && He.tabsB g tfl K), obsX1 K)
def obsZ (n : Nat) (g : Addr → Option Obj) : AlZ := obsK g (He.frT g (asW g n))
theorem says_of {as : List Addr} {w : World} {h : Heap} (e : obsK h.get? (He.frT h.get? as) = (He.valX fnl [] w, exvs)) : Says w h (He.frT h.get? as) := by
  have e1 : He.obsT fal fnl [] (He.frT h.get? as) = He.valT fnl [] w := congrArg (fun z : AlZ => z.1.1) e
  have e2 : (exB (He.frT h.get? as) && He.tabsB h.get? tfl (He.frT h.get? as)) = true := congrArg (fun z : AlZ => z.1.2) e
  obtain ⟨h1, h2⟩ := He.ba e2
  have key : ∀ p ∈ tfl, PySem.W.codeHdIn (He.frT h.get? as) (He.cT (He.frT h.get? as) p).1 (He.cT (He.frT h.get? as) p).2 = true ∧ ∃ o, h.get? (He.cT (He.frT h.get? as) p).2 = some o ∧ He.emptyTab o = true := fun p hp => by
    obtain ⟨h3, h4⟩ := He.ba (List.all_eq_true.mp h2 p hp)
    refine ⟨h3, ?_⟩
    cases q : h.get? (He.cT (He.frT h.get? as) p).2 with
    | none =>
      rw [q] at h4
      cases h4
    | some o =>
      rw [q] at h4
      exact ⟨o, rfl, h4⟩
  exact ⟨⟨e1, h1, fun p hp => (key p hp).1, fun p hp => by
    obtain ⟨_, o, q, z⟩ := key p hp
    exact He.frT_none q z, fun p hp => by
    obtain ⟨_, o, q, z⟩ := key p hp
    rw [q, He.emptyTab_eq z]⟩, congrArg (fun z : AlZ => z.2) e⟩
def hookZ (n : Nat) : PySem.W.Hook where
  α := AlZ
  obs := fun s => obsZ n s.heap.get?
  val := fun w => (He.valX fnl [] w, exvs)
  says := fun w h => ∃ K : PySem.W.Frag, K.In h ∧ Says w h K
  of := fun _ _ e => ⟨_, He.frT_in, says_of e⟩
  keeps := fun _ _ _ ⟨K, hK, c⟩ k => ⟨K, PySem.W.Frag.In.keeps hK k, ⟨c.x.t, c.x.more, c.x.hd, c.x.out, fun p hp => k _ _ (c.x.empty p hp)⟩, c.e⟩
theorem obsZ_eq {n : Nat} {g : Addr → Option Obj} {s : Shared} (h : ∀ a, g a = s.heap.get? a) : obsZ n g = (hookZ n).obs s := by
  have e : g = s.heap.get? := funext h
  rw [e] <;> rfl
abbrev RR : PySem.W.OpenRow := PySem.W.OpenLaw.row PySem.Challenge.rw_addsup_k84_whole_shares_of_a_whole
abbrev QV : Program := PySem.W.view RR.prog [0, 65]
abbrev hk : PySem.W.Hook := hookZ 4
def ob (s : PySem.W.SharedT) : AlZ := obsZ 4 (HandSHeadRun.getT s)
theorem ob_eq (s : PySem.W.SharedT) : ob s = hk.obs s.abs := obsZ_eq (HandSHeadRun.getT_eq s)
def loose0 : List Str := ["SumError", "InvalidLayout", "InvalidTable", "InvalidBounds", "InvalidReport", "InvalidPart", "InvalidNumber", "InvalidNames", "InvalidText", "InvalidLot", "InvalidWeights", "InvalidLines", "InvalidMargins", "InvalidEdit", "Unlike", "TooMany", "is_whole", "lowest", "plus", "total_of", "is_count", "check_weights", "check_whole", "floors_of", "rests_of", "greatest_rests", "made_shares", "shares_of", "are_counts_of", "are_shares"]
def loose1 : List Str := ["chosen_of", "share_count", "missed", "nearest_to", "plain_shares", "gap_of", "paradox", "_law_hash", "_law_random", "_law_cell", "_law_generator", "_law_pick", "_law_same", "_law_gcd", "_law_low", "_law_less", "_law_put", "_law_caught", "_law_alike", "_law_refused", "_law_all_refused", "_law_is_count", "_law_shares", "_law_are_shares", "_law_missed", "_law_ways", "_law_weights_right", "MOST_WEIGHTS", "MOST_NUMBER"]
def loose : List Str := loose0 ++ loose1
theorem join3 {α β γ δ : Type} {o : Option α} {f : α → β} {g : α → γ} {k : α → δ} {b : β} {c : γ} {d : δ} (h1 : o.map (fun x => (f x, g x)) = some (b, c)) (h2 : o.map k = some d) : o.map (fun x => (f x, g x, k x)) = some (b, c, d) := by
  cases o with
  | none => cases h1
  | some x =>
    have h1 : some (f x, g x) = some (b, c) := h1
    have h2 : some (k x) = some d := h2
    obtain ⟨e1, e2⟩ := Prod.mk.inj (Option.some.inj h1)
    show some (f x, g x, k x) = _
    rw [e1, e2, Option.some.inj h2]
open HandSHeadRun PySem.W in
theorem runA (w : World) : (wholeF (fun p => stepQ (denQ tabQ) p w) fenceQ 60000 RR.prog).map (fun x => (looksF RR.prog x.1.heap x.2.abs, seenQ QV loose (importedModules RR.prog.main.body) (fun s => xlAt QV [] s && recOk RR.toRowW.records s) x.2.abs)) = some (true, openGood QV loose) := by
  kernel_rfl
open HandSHeadRun PySem.W in
theorem runB (w : World) : (wholeF (fun p => stepQ (denQ tabQ) p w) fenceQ 60000 RR.prog).map (fun x => ob x.2) = some (hk.val w) := by
  kernel_rfl
theorem run (w : World) : HandSHeadRun.RunEqI RR QV hk ob 60000 loose w := join3 (runA w) (runB w)
end K84
/-! M1: what denotations give, by rules. -/
namespace DL
open PySem L2 PyProof.Rows
def pubs (ρ : Env) : Prop := ∀ o ∈ ρ, ∀ t ds, o ≠ some (.own t ds)
def isPub (o : Option Sl) : Prop := ∀ t ds, o ≠ some (.own t ds)
theorem colE_pubs {ρ : Env} (h : pubs ρ) : colE ρ = [] := by
  unfold colE
  rw [List.filterMap_eq_nil_iff]
  intro o ho
  have q := h o ho
  cases o with
  | none => rfl
  | some s =>
    cases s with
    | pub m d => rfl
    | own t ds => exact absurd rfl (q t ds)
    | nst g => rfl
theorem colE_args (ds : List D) (n : Nat) : colE ((ds.map Sl.pu).map some ++ List.replicate n none) = [] := colE_pubs fun o ho t es e => by
  subst e
  rcases List.mem_append.mp ho with h | h
  · obtain ⟨s, hs, e⟩ := List.mem_map.mp h
    obtain ⟨d, _, e2⟩ := List.mem_map.mp hs
    rw [← e2] at e
    cases e
  · cases List.eq_of_mem_replicate h
theorem colE_args0 (ds : List D) : colE ((ds.map Sl.pu).map some) = [] := by
  have := colE_args ds 0
  simpa using this
/-- the value of an expression that leaves the slots as they are -/
def Ev (f : Env → RE) (ρ : Env) (d : D) : Prop := ∃ w, f ρ = .ok w ρ ∧ w.d = d
def Evl (f : Env → RE) (ρ : Env) (ds : List D) : Prop := f ρ = .ok (.frs ds) ρ
def EvL (fs : Env → RL) (ρ : Env) (ds : List D) : Prop := fs ρ = .ok ds ρ
section
variable {ρ : Env} {fa fb fc ft ff : Env → RE} {fs : Env → RL} {a b c d : D} {ds : List D} {w : W} {i m : Nat}
theorem Evl.ev (h : Evl fa ρ ds) : Ev fa ρ (.list ds) := ⟨_, h, rfl⟩
theorem Ev.k : Ev (fC d) ρ d := ⟨.pu d, rfl, rfl⟩
theorem Ev.var (h : ρ[i]? = some (some (.pub m d))) : Ev (fVar i) ρ d := ⟨.pu d, by unfold fVar; rw [h], rfl⟩
theorem Ev.bnd {k : D → Env → RE} (ha : Ev fa ρ a) (h : Ev (k a) ρ d) : Ev (bndE fa k) ρ d := by
  obtain ⟨wa, h1, rfl⟩ := ha
  obtain ⟨wb, h2, rfl⟩ := h
  refine ⟨wb, ?_, rfl⟩
  unfold bndE
  rw [h1]
  exact h2
theorem Ev.res (h : ∃ w, (o : Option W) = some w ∧ w.d = d) : Ev (resW o) ρ d := by
  obtain ⟨w, rfl, e⟩ := h
  exact ⟨w, rfl, e⟩
theorem Ev.op2 {g : D → D → Option W} (ha : Ev fa ρ a) (hb : Ev fb ρ b) (h : g a b = some w) : Ev (fOp2 g fa fb) ρ w.d := ha.bnd (hb.bnd (.res ⟨w, h, rfl⟩))
theorem Ev.op1 {g : D → Option W} (ha : Ev fa ρ a) (h : g a = some w) : Ev (fOp1 g fa) ρ w.d := ha.bnd (.res ⟨w, h, rfl⟩)
theorem Ev.both {x : Bool} (ha : Ev fa ρ (.bool x)) (h1 : x = true → Ev ft ρ d) (h2 : x = false → Ev ff ρ d) : Ev (fBoth fa ft ff) ρ d := by
  refine ha.bnd ?_
  cases x with
  | true => exact h1 rfl
  | false => exact h2 rfl
theorem Ev.and {x y : Bool} (ha : Ev fa ρ (.bool x)) (hb : x = true → Ev fb ρ (.bool y)) : Ev (fAnd fa fb) ρ (.bool (x && y)) := by
  refine ha.both (fun e => ?_) fun e => ?_
  · subst e; exact hb rfl
  · subst e; exact .k
theorem Ev.or {x y : Bool} (ha : Ev fa ρ (.bool x)) (hb : x = false → Ev fb ρ (.bool y)) : Ev (fOr fa fb) ρ (.bool (x || y)) := by
  refine ha.both (fun e => ?_) fun e => ?_
  · subst e; exact .k
  · subst e; exact hb rfl
theorem Ev.not {x : Bool} (ha : Ev fa ρ (.bool x)) : Ev (fNot fa) ρ (.bool (!x)) := by
  refine ha.both (fun e => ?_) fun e => ?_
  · subst e; exact .k
  · subst e; exact .k
theorem Ev.if {x : Bool} (ha : Ev fa ρ (.bool x)) (h1 : x = true → Ev ft ρ d) (h2 : x = false → Ev ff ρ d) : Ev (fIf fa ft ff) ρ d := ha.both h1 h2
theorem Ev.chain {g g' : D → D → Option W} {x : Bool} (ha : Ev fa ρ a) (hb : Ev fb ρ b) (h : g a b = some (.pu (.bool x))) (hc : x = true → Ev fc ρ c ∧ g' b c = some w) : Ev (fChain g g' fa fb fc) ρ (if x then w.d else .bool false) := by
  obtain ⟨wa, h1, rfl⟩ := ha
  obtain ⟨wb, h2, rfl⟩ := hb
  unfold Ev fChain
  rw [h1]
  dsimp only
  rw [h2]
  dsimp only
  rw [h]
  cases x with
  | true =>
    obtain ⟨⟨wc, h3, rfl⟩, h4⟩ := hc rfl
    dsimp only
    rw [h3]
    dsimp only
    rw [h4]
    exact ⟨w, rfl, rfl⟩
  | false => exact ⟨_, rfl, rfl⟩
theorem EvL.nil : EvL fNil ρ [] := rfl
theorem EvL.cons {fr : Env → RL} (ha : Ev fa ρ a) (hr : EvL fr ρ ds) : EvL (fCons fa fr) ρ (a :: ds) := by
  obtain ⟨wa, h1, rfl⟩ := ha
  unfold EvL fCons
  rw [h1]
  dsimp only
  rw [hr]
theorem Ev.bndA {k : List D → Option W} (hs : EvL fs ρ ds) (h : k ds = some w) : Ev (bndA fs k) ρ w.d := by
  unfold Ev DL.bndA
  rw [hs]
  dsimp only
  rw [h]
  exact ⟨w, rfl, rfl⟩
theorem Evl.bndA {k : List D → Option W} {es : List D} (hs : EvL fs ρ ds) (h : k ds = some (.frs es)) : Evl (bndA fs k) ρ es := by
  unfold Evl DL.bndA
  rw [hs]
  dsimp only
  rw [h]
  rfl
/-- a function's answer over plain arguments -/
def Fr (F : List Sl → RF) (ds : List D) (d : D) : Prop := ∃ w, F (ds.map .pu) = .ok w [] ∧ w.d = d
def FrL (F : List Sl → RF) (ds : List D) (es : List D) : Prop := F (ds.map .pu) = .ok (.frs es) []
theorem FrL.fr {F : List Sl → RF} {es : List D} (h : FrL F ds es) : Fr F ds (.list es) := ⟨_, h, rfl⟩
theorem Ev.callG {n : Nat} {π : List D → List D} {F : List Sl → RF} (hs : EvL fs ρ ds) (hF : Fr F (π ds) d) (hn : ds.length = n) : Ev (fCallG n π F fs) ρ d := by
  obtain ⟨w, h, rfl⟩ := hF
  unfold Ev fCallG
  rw [hs]
  dsimp only
  rw [if_pos hn, h]
  exact ⟨w, rfl, rfl⟩
theorem Ev.call {n : Nat} {F : List Sl → RF} (hs : EvL fs ρ ds) (hF : Fr F ds d) (hn : ds.length = n) : Ev (fCall n F fs) ρ d := Ev.callG (π := id) hs hF hn
theorem Evl.call {n : Nat} {F : List Sl → RF} {es : List D} (hs : EvL fs ρ ds) (hF : FrL F ds es) (hn : ds.length = n) : Evl (fCall n F fs) ρ es := by
  unfold Evl fCall fCallG
  rw [hs]
  dsimp only
  rw [if_pos hn]
  show retC (F (ds.map .pu)) ρ = _
  rw [hF]
  rfl
end
/-! ### statements -/
/-- a suite's answer, nothing owned behind it -/
def Rt (g : Env → RS) (ρ : Env) (d : D) : Prop := ∃ w ρ', g ρ = .ret w ρ' ∧ w.d = d ∧ colE ρ' = []
def RtL (g : Env → RS) (ρ : Env) (ds : List D) : Prop := ∃ ρ', g ρ = .ret (.frs ds) ρ' ∧ colE ρ' = []
def Nx (g : Env → RS) (ρ ρ1 : Env) : Prop := g ρ = .nx ρ1
def Er (g : Env → RS) (ρ : Env) (c : Addr) (d : D) : Prop := g ρ = .err c d
section
variable {ρ ρ1 : Env} {fa fc : Env → RE} {f g h : Env → RS} {d e : D} {ds es : List D} {cc : Addr} {i : Nat}
theorem RtL.rt (h : RtL g ρ ds) : Rt g ρ (.list ds) := by
  obtain ⟨ρ', h1, h2⟩ := h
  exact ⟨_, _, h1, rfl, h2⟩
theorem Rt.ret (ha : Ev fa ρ d) (hc : colE ρ = []) : Rt (sRet fa) ρ d := by
  obtain ⟨w, h1, rfl⟩ := ha
  refine ⟨w, ρ, ?_, rfl, hc⟩
  unfold sRet sE
  rw [h1]
theorem RtL.ret (ha : Evl fa ρ ds) (hc : colE ρ = []) : RtL (sRet fa) ρ ds := by
  refine ⟨ρ, ?_, hc⟩
  unfold sRet sE
  rw [show fa ρ = _ from ha]
theorem Rt.seq (hf : Nx f ρ ρ1) (hg : Rt g ρ1 d) : Rt (sSeq f g) ρ d := by
  obtain ⟨w, ρ', h1, h2, h3⟩ := hg
  refine ⟨w, ρ', ?_, h2, h3⟩
  unfold sSeq
  rw [show f ρ = .nx ρ1 from hf]
  exact h1
theorem RtL.seq (hf : Nx f ρ ρ1) (hg : RtL g ρ1 ds) : RtL (sSeq f g) ρ ds := by
  obtain ⟨ρ', h1, h2⟩ := hg
  refine ⟨ρ', ?_, h2⟩
  unfold sSeq
  rw [show f ρ = .nx ρ1 from hf]
  exact h1
theorem Rt.now (hf : Rt f ρ d) : Rt (sSeq f g) ρ d := by
  obtain ⟨w, ρ', h1, h2, h3⟩ := hf
  refine ⟨w, ρ', ?_, h2, h3⟩
  unfold sSeq
  rw [h1]
theorem Nx.seq {ρ2 : Env} (hf : Nx f ρ ρ1) (hg : Nx g ρ1 ρ2) : Nx (sSeq f g) ρ ρ2 := by
  unfold Nx sSeq
  rw [show f ρ = .nx ρ1 from hf]
  exact hg
theorem Er.seq (hf : Nx f ρ ρ1) (hg : Er g ρ1 c d) : Er (sSeq f g) ρ c d := by
  unfold Er sSeq
  rw [show f ρ = .nx ρ1 from hf]
  exact hg
theorem Er.now (hf : Er f ρ c d) : Er (sSeq f g) ρ c d := by
  unfold Er sSeq
  rw [show f ρ = .err c d from hf]
theorem if_eq {x : Bool} (hc : Ev fc ρ (.bool x)) : sIf fc f g ρ = if x then f ρ else g ρ := by
  obtain ⟨w, h1, h2⟩ := hc
  unfold sIf sE
  rw [h1]
  dsimp only
  rw [h2]
  cases x <;> rfl
theorem Rt.if {x : Bool} (hc : Ev fc ρ (.bool x)) (h1 : x = true → Rt f ρ d) (h2 : x = false → Rt g ρ d) : Rt (sIf fc f g) ρ d := by
  unfold Rt
  rw [if_eq hc]
  cases x with
  | true => exact h1 rfl
  | false => exact h2 rfl
theorem Nx.if {x : Bool} (hc : Ev fc ρ (.bool x)) (h1 : x = true → Nx f ρ ρ1) (h2 : x = false → Nx g ρ ρ1) : Nx (sIf fc f g) ρ ρ1 := by
  unfold Nx
  rw [if_eq hc]
  cases x with
  | true => exact h1 rfl
  | false => exact h2 rfl
theorem Er.if {x : Bool} (hc : Ev fc ρ (.bool x)) (h1 : x = true → Er f ρ c d) (h2 : x = false → Er g ρ c d) : Er (sIf fc f g) ρ c d := by
  unfold Er
  rw [if_eq hc]
  cases x with
  | true => exact h1 rfl
  | false => exact h2 rfl
theorem Nx.nx : Nx .nx ρ ρ := rfl
/-- a guard: if x: return .. -/
theorem Rt.guard {x : Bool} (hc : Ev fc ρ (.bool x)) (h1 : x = true → Rt f ρ d) (h2 : x = false → Rt g ρ d) : Rt (sSeq (sIf fc f .nx) g) ρ d := by
  cases x with
  | true => exact .now (.if hc h1 fun z => nomatch z)
  | false => exact .seq (.if hc (fun z => nomatch z) fun _ => .nx) (h2 rfl)
theorem Nx.put (ha : Ev fa ρ d) : Nx (sPut i fa) ρ (ρ.set i (some (.pub 0 d))) := by
  obtain ⟨w, h1, rfl⟩ := ha
  unfold Nx sPut sE
  rw [h1]
theorem Nx.drop (ha : Ev fa ρ d) : Nx (sDrop fa) ρ ρ := by
  obtain ⟨w, h1, rfl⟩ := ha
  unfold Nx sDrop sE
  rw [h1]
theorem Er.drop (ha : fa ρ = .err c d) : Er (sDrop fa) ρ c d := by
  unfold Er sDrop sE
  rw [ha]
theorem Nx.bind {bd : D → Env → Option Env} (ha : Ev fa ρ d) (h : bd d ρ = some ρ1) : Nx (sBind bd fa) ρ ρ1 := by
  obtain ⟨w, h1, rfl⟩ := ha
  unfold Nx sBind sE
  rw [h1]
  dsimp only
  rw [h]
theorem Er.raise {fs : Env → RL} (ha : EvL fs ρ [d]) : Er (sRaise c fs) ρ c d := by
  unfold Er sRaise
  rw [show fs ρ = .ok [d] ρ from ha]
end
/-! ### functions -/
section
variable {n : Nat} {g : Env → RS} {ds es : List D} {d : D} {c : Addr} {ρ1 : Env}
abbrev args (n : Nat) (ds : List D) : Env := (ds.map Sl.pu).map some ++ List.replicate (n - ds.length) none
theorem fr_of (h : Rt g (args n ds) d) : Fr (fnF n g) ds d := by
  obtain ⟨w, ρ', h1, h2, h3⟩ := h
  refine ⟨w, ?_, h2⟩
  unfold fnF
  rw [List.length_map, h1]
  dsimp only
  rw [h3, colE_args0]
  rfl
theorem frL_of (h : RtL g (args n ds) es) : FrL (fnF n g) ds es := by
  obtain ⟨ρ', h1, h3⟩ := h
  unfold FrL fnF
  rw [List.length_map, h1]
  dsimp only
  rw [h3, colE_args0]
  rfl
theorem fr_nx (h : Nx g (args n ds) ρ1) (hc : colE ρ1 = []) : Fr (fnF n g) ds .none := by
  refine ⟨.pu .none, ?_, rfl⟩
  unfold fnF
  rw [List.length_map, show g _ = .nx ρ1 from h]
  dsimp only
  rw [hc, colE_args0]
  rfl
def FrE (F : List Sl → RF) (ds : List D) (c : Addr) (d : D) : Prop := F (ds.map .pu) = .err c d
theorem frE_of (h : Er g (args n ds) c d) : FrE (fnF n g) ds c d := by
  unfold FrE fnF
  rw [List.length_map, show g _ = .err c d from h]
theorem callE {F : List Sl → RF} {fs : Env → RL} {ρ : Env} (hs : EvL fs ρ ds) (hF : FrE F ds c d) (hn : ds.length = n) : fCall n F fs ρ = .err c d := by
  unfold fCall fCallG
  rw [hs]
  dsimp only
  rw [if_pos hn]
  show retC (F (ds.map .pu)) ρ = _
  rw [hF]
  rfl
end
/-! ### comprehensions -/
theorem lc_pure {bind : D → Env → Option Env} {ft fe : Env → RE} {vs : List Nat} {ρ : Env} (p : D → Bool) (fn : D → D) : ∀ (items acc : List D), acc.length + items.length ≤ sizeLine →
    (∀ d ∈ items, ∃ ρ1, bind d ρ = some ρ1 ∧ Ev ft ρ1 (.bool (p d)) ∧ (p d = true → Ev fe ρ1 (fn d)) ∧ wipeE ρ1 vs = ρ) → lcGo bind ft fe vs items acc ρ = .ok (.frs (acc ++ (items.filter p).map fn)) ρ
  | [], acc, _, _ => by simp [lcGo]
  | d :: r, acc, hl, h => by
    obtain ⟨ρ1, h1, ⟨w, h2, h2'⟩, h3, h4⟩ := h d List.mem_cons_self
    have hl2 : acc.length + r.length + 1 ≤ sizeLine := by simpa [Nat.add_assoc] using hl
    unfold lcGo
    rw [h1]
    dsimp only
    rw [h2]
    dsimp only
    rw [h2']
    cases e : p d with
    | true =>
      obtain ⟨w3, h5, h6⟩ := h3 e
      dsimp only
      rw [h5]
      dsimp only
      rw [if_pos (by omega), h4, lc_pure p fn r (acc ++ [w3.d]) (by simp; omega) fun d hd => h d (List.mem_cons_of_mem _ hd)]
      simp [e, h6]
    | false =>
      dsimp only
      rw [h4, lc_pure p fn r acc (by omega) fun d hd => h d (List.mem_cons_of_mem _ hd)]
      simp [e]
theorem evl_lc {src : Env → RI} {bind : D → Env → Option Env} {ft fe : Env → RE} {vs : List Nat} {ρ : Env} {items : List D} (p : D → Bool) (fn : D → D) (hs : src ρ = .ok items ρ) (hw : wipeE ρ vs = ρ) (hl : items.length ≤ sizeLine)
    (h : ∀ d ∈ items, ∃ ρ1, bind d ρ = some ρ1 ∧ Ev ft ρ1 (.bool (p d)) ∧ (p d = true → Ev fe ρ1 (fn d)) ∧ wipeE ρ1 vs = ρ) : Evl (fLc src bind ft fe vs) ρ ((items.filter p).map fn) := by
  unfold Evl fLc
  rw [hs]
  dsimp only
  rw [hw, lc_pure p fn items [] (by simpa using hl) h]
  rfl
theorem srcE_ok {fa : Env → RE} {k : D → Option (List D)} {ρ : Env} {d : D} {items : List D} (ha : Ev fa ρ d) (h : k d = some items) : srcE fa k ρ = .ok items ρ := by
  obtain ⟨w, h1, rfl⟩ := ha
  unfold srcE
  rw [h1]
  dsimp only
  rw [h]
theorem srcA_ok {fs : Env → RL} {k : List D → Option (List D)} {ρ : Env} {ds : List D} {items : List D} (ha : EvL fs ρ ds) (h : k ds = some items) : srcA fs k ρ = .ok items ρ := by
  unfold srcA
  rw [show fs ρ = _ from ha]
  dsimp only
  rw [h]
/-! ### loops -/
/-- a loop that keeps I, or an item at which it returns -/
theorem for_find {bind : D → Env → Option Env} {body : Env → RS} (I : Env → Prop) (p : D → Prop) (R : D → W → Env → Prop) : ∀ (items : List D) (ρ : Env), I ρ →
    (∀ d ∈ items, ∀ ρ, I ρ → ∃ ρ1, bind d ρ = some ρ1 ∧ ((¬ p d ∧ ∃ ρ2, body ρ1 = .nx ρ2 ∧ I ρ2) ∨ (p d ∧ ∃ w ρ2, body ρ1 = .ret w ρ2 ∧ R d w ρ2))) →
    (∃ ρ', forGo bind body items ρ = .nx ρ' ∧ I ρ' ∧ ∀ d ∈ items, ¬ p d) ∨ ∃ d ∈ items, p d ∧ ∃ w ρ2, forGo bind body items ρ = .ret w ρ2 ∧ R d w ρ2
  | [], ρ, hI, _ => .inl ⟨ρ, rfl, hI, fun d hd => absurd hd (by simp)⟩
  | d :: r, ρ, hI, h => by
    obtain ⟨ρ1, h1, h2⟩ := h d List.mem_cons_self ρ hI
    unfold forGo
    rw [h1]
    dsimp only
    rcases h2 with ⟨np, ρ2, h3, h4⟩ | ⟨hp, w, ρ2, h3, h4⟩
    · rw [h3]
      dsimp only
      rcases for_find I p R r ρ2 h4 fun d hd => h d (List.mem_cons_of_mem _ hd) with ⟨ρ', q1, q2, q3⟩ | ⟨d', hd', q1, q2⟩
      · exact .inl ⟨ρ', q1, q2, fun d' hd' => by
          rcases List.mem_cons.mp hd' with e | e
          · rw [e]; exact np
          · exact q3 d' e⟩
      · exact .inr ⟨d', List.mem_cons_of_mem _ hd', q1, q2⟩
    · rw [h3]
      exact .inr ⟨d, List.mem_cons_self, hp, w, ρ2, rfl, h4⟩
/-- a loop over a list that is carried: J (what is left) (slots) -/
theorem for_inv {bind : D → Env → Option Env} {body : Env → RS} (J : List D → Env → Prop) (Z : RS → Prop) : ∀ (items : List D) (ρ : Env), J items ρ →
    (∀ d r ρ, J (d :: r) ρ → ∃ ρ1, bind d ρ = some ρ1 ∧ ((∃ ρ2, body ρ1 = .nx ρ2 ∧ J r ρ2) ∨ (∃ w ρ2, body ρ1 = .ret w ρ2 ∧ Z (.ret w ρ2)))) → (∀ ρ, J [] ρ → Z (.nx ρ)) → Z (forGo bind body items ρ)
  | [], ρ, hJ, _, hz => hz ρ hJ
  | d :: r, ρ, hJ, h, hz => by
    obtain ⟨ρ1, h1, h2⟩ := h d r ρ hJ
    unfold forGo
    rw [h1]
    dsimp only
    rcases h2 with ⟨ρ2, h3, h4⟩ | ⟨w, ρ2, h3, h4⟩
    · rw [h3]
      exact for_inv J Z r ρ2 h4 h hz
    · rw [h3]
      exact h4
end DL
/-! S1: a key function called: lambda at: (-rests[at], at), lambda at: (0 - rests[at], at). -/
namespace DL
open PySem PySem.Spec PyProof.Rows L2 PySem.Calls
/-- the first part of the key, made of rests[at] -/
inductive NegE (xr xa : Str) : Expr → Prop
  | neg {p1 p2 p3 p4 : Pos} : NegE xr xa (.UnaryOp .USub (.Subscript (.Name xr p1) (.Name xa p2) p3) p4)
  | sub {k : Nat} {p0 p1 p2 p3 p4 : Pos} : NegE xr xa (.BinOp (.Constant (.int 0) k p0) .Sub (.Subscript (.Name xr p1) (.Name xa p2) p3) p4)
section
variable {prog : Program} {w : World} {A : Around} {E : Value → Shared → Prop} {s : Shared} {env : PySem.Env} {xr xa : Str} {c p L : Addr} {its : List Value} {i : Nat} {t tr : Tok} {r : Int}
/-- what the body of such a lambda stands in -/
structure KeyAt (env : PySem.Env) (xr xa : Str) (h : Heap) (c p : Addr) (its : List Value) (v : Value) : Prop where
  kind : env.scope.kind = .function
  kr : env.kindOf xr = some .free
  ka : env.kindOf xa = some .local
  cl : env.cells.lookup xr = some c
  cell : h.IsCell c (some (.ref p))
  list : h.IsList p its.toArray
  loc : ∃ m, h.Ns env.locals m ∧ m xa = some v
theorem KeyAt.keeps {h h' : Heap} {v : Value} (K : KeyAt env xr xa h c p its v) (k : ∀ b o, h.get? b = some o → h'.get? b = some o) : KeyAt env xr xa h' c p its v := by
  obtain ⟨m, h1, h2⟩ := K.loc
  obtain ⟨o, e, r⟩ := K.list
  exact ⟨K.kind, K.kr, K.ka, K.cl, K.cell.keeps k, ⟨o, k _ _ e, r⟩, m, h1.keeps k, h2⟩
theorem key_sub {p1 p2 p3 : Pos} {Q : Value → Shared → Prop} (K : KeyAt env xr xa s.heap c p its (.int (i : Nat) t)) (hi : its[i]? = some (.int r tr)) (hl : i < 2 ^ 62) (d1 : (xr == ("__debug__" : Str)) = false) (d2 : (xr == ("__classdict__" : Str)) = false) (d3 : (xa == ("__debug__" : Str)) = false)
    (q : Q (.int r tr) s) : wpAny (model prog w) A (eval (.Subscript (.Name xr p1) (.Name xa p2) p3) env) Q E s := by
  obtain ⟨m, h1, h2⟩ := K.loc
  refine Subscript_ (wpAny_Name (wpAny_loadName_free K.kind K.kr K.cl K.cell ?_ d2) d1)
  refine wpAny_Name (wpAny_loadName_local K.kind K.ka h1 h2 ?_) d3
  exact item_listR K.list (by omega) (by omega) (by simpa using hi) q
theorem key_neg {e : Expr} {Q : Value → Shared → Prop} (N : NegE xr xa e) (K : KeyAt env xr xa s.heap c p its (.int (i : Nat) t)) (hi : its[i]? = some (.int r tr)) (hl : i < 2 ^ 62) (d1 : (xr == ("__debug__" : Str)) = false) (d2 : (xr == ("__classdict__" : Str)) = false) (d3 : (xa == ("__debug__" : Str)) = false)
    (q : ∀ u tk, Q (.int (-r) u) { s with toks := tk }) : wpAny (model prog w) A (eval e env) Q E s := by
  cases N with
  | neg => exact UnaryOp_ (key_sub K hi hl d1 d2 d3 (PySem.P.neg_int (q _ _)))
  | sub =>
    refine wpAny_BinOp (wpAny_Constant_int (key_sub (s := { s with toks := s.toks + 1 }) K hi hl d1 d2 d3 (PySem.P.sub_int ?_)))
    rw [Int.zero_sub]
    exact q _ _
theorem key_body {e : Expr} {x1} {p2 pos : Pos} (N : NegE xr xa e) (K : KeyAt env xr xa s.heap c p its (.int (i : Nat) t)) (hi : its[i]? = some (.int r tr)) (hl : i < 2 ^ 62) (d1 : (xr == ("__debug__" : Str)) = false) (d2 : (xr == ("__classdict__" : Str)) = false) (d3 : (xa == ("__debug__" : Str)) = false)
    (he : starEach [e, .Name xa p2] env = (false, eval e env) :: starEach [.Name xa p2] env) (he2 : starEach [.Name xa p2] env = (false, eval (.Name xa p2) env) :: starEach [] env := by rfl) :
    wpAny (model prog w) A (eval (.Tuple [e, .Name xa p2] x1 pos) env) (PySem.W.KeyPure (.tuple [.int (-r), .int (i : Nat)]) s) E s := by
  refine wpAny_Tuple_spliced ?_
  rw [he]
  refine spliced_cons ?_
  refine key_neg N K hi hl d1 d2 d3 fun u tk => ?_
  show wpAny _ _ (spliced (backTo pos (starEach [.Name xa p2] env))) _ _ _
  rw [he2]
  refine spliced_cons ?_
  obtain ⟨m, h1, h2⟩ := K.loc
  refine wpAny_Name (wpAny_loadName_local K.kind K.ka h1 h2 ?_) d3
  refine spliced_nil ?_
  refine ⟨by show 2 ≤ sizeLine; decide, _, tk, rfl, fun b o q => Heap.get?_push_of_some _ q, ?_⟩
  have rr : ReadsAll (s.heap.push { cls := .type "tuple", data := .seq [Value.int (-r) u, .int (i : Nat) t].toArray }) [Value.int (-r) u, .int (i : Nat) t] [.int (-r), .int (i : Nat)] ([] ++ ([] ++ [])) := .cons (.int _ _) (.cons (.int _ _) .nil)
  exact Reads.tuple (Heap.get?_push_size _ rfl) rfl rfl rr
/-- the key function called -/
theorem key_call {f c' : Addr} {nm qual : Str} {params : Arguments} {e : Expr} {x1} {p2 pos : Pos} {scope : Scope} {clo : List (Str × Addr)} {pm ctv : Value} (N : NegE xr xa e) (hroom : A.depth < recursionLimit) (hf : s.heap.get? f = some (PySem.W.kla_obj nm qual params (.Tuple [e, .Name xa p2] x1 pos) scope clo pm c' ctv))
    (hrec : s.heap.CodeRec (.ref c') qual) (hlim : s.heap.NoLimit) (hbind : bindArgs (PySem.W.kla_fn nm qual params (.Tuple [e, .Name xa p2] x1 pos) scope clo pm (.ref c') ctv) ⟨[.int (i : Nat) t], []⟩ = pure [(xa, .int (i : Nat) t)])
    (hco : scope.isCoroutine = false) (hgen : scope.isGenerator = false) (hk : scope.kind = .function) (hcells : ∀ x ∈ scope.names, x.2 ≠ .cell) (hxa : scope.names.lookup xa = some .local) (hxr : scope.names.lookup xr = some .free) (hcl : clo.lookup xr = some c) (hcell : s.heap.IsCell c (some (.ref p))) (hlist : s.heap.IsList p its.toArray)
    (hi : its[i]? = some (.int r tr)) (hl : i < 2 ^ 62) (d1 : (xr == ("__debug__" : Str)) = false) (d2 : (xr == ("__classdict__" : Str)) = false) (d3 : (xa == ("__debug__" : Str)) = false)
    (he : ∀ env, starEach [e, .Name xa p2] env = (false, eval e env) :: starEach [.Name xa p2] env) : wpAny (model prog w) A (call (.ref f) [.int (i : Nat) t]) (PySem.W.KeyPure (.tuple [.int (-r), .int (i : Nat)]) s) (fun _ _ => False) s := by
  refine wpAny_call (PySem.W.kla_callFunE hroom hf rfl hco hgen rfl hrec ?_)
  rw [hbind]
  refine wpAny_pure (wpAny_newFunctionEnv hcells (fun y hy => by rw [List.mem_singleton.mp hy]; exact hxa) (fun h₁ hns hsb => ⟨hlim.fresh _ hsb, ?_⟩) hk)
  have kp : ∀ b o, s.heap.get? b = some o → h₁.get? b = some o := fun b o e => hsb.extBut b o (Nat.ne_of_lt (Heap.lt_size e)) (Heap.get?_push_of_some _ e)
  refine PySem.W.kla_codeExpr ?_
  have KA : KeyAt (newEnv scope s.heap.objs.size mainGlobals clo (qual ++ ".<locals>.") (some f) (.ref c') none builtinsNs) xr xa h₁ c p its (.int (i : Nat) t) := by
    obtain ⟨o, e1, r1⟩ := hlist
    refine ⟨hk, hxr, hxa, hcl, hcell.keeps kp, ⟨o, kp _ _ e1, r1⟩, _, hns, ?_⟩
    simp
  refine wpAny_mono (key_body (s := { s with heap := h₁, toks := s.toks + 1 }) (E := fun _ _ => False) N KA hi hl d1 d2 d3 (he _)) (fun v s' hq => ?_) fun e s' hq => hq.elim
  obtain ⟨h', tk, rfl, k, rd⟩ := hq
  exact ⟨h', tk, rfl, fun b o q => k b o (kp b o q), rd⟩
end
end DL
/-! S2: sorted(range(n), key=f). -/
namespace DL
open PySem PySem.Spec PyProof.Rows L2 PySem.Calls PySem.W
section
variable {prog : Program} {w : World} {A : Around} {E : Value → Shared → Prop} {s : Shared}
theorem rangeSize0 (n : Nat) : Builtin.Range.rangeSize 0 (n : Int) 1 = n := by
  rw [rangeSize_one]
  split <;> omega
theorem sorted_range_key {rg f : Addr} {n : Nat} {t u v : Tok} {Q : Value → Shared → Prop} (kf : Nat → Int) (hh : A.handled = none) (hr : IsRange s.heap rg 0 (n : Nat) 1 t u v) (hn : n ≤ 1000) (hu : A.units + 10 < cLine)
    (turn : ∀ (i : Nat) (t : Tok), i < n → ∀ (h : Heap) (tk : Nat), (∀ b o, s.heap.get? b = some o → h.get? b = some o) →
      wpAny (model prog w) A.in1.in1 (call (.ref f) [.int (i : Nat) t]) (KeyPure (.tuple [.int (-(kf i)), .int (i : Nat)]) { s with heap := h, toks := tk }) (fun _ _ => False) { s with heap := h, toks := tk })
    (h : ∀ out c h' tk a, (∀ b o, s.heap.get? b = some o → h'.get? b = some o) → s.heap.get? a = none → h'.get? a = some (seqObj "list" (List.toArray out) c) → EachIs (fun (v : Value) (i : Nat) => ∃ t, v = Value.int (i : Nat) t) out ((List.range n).mergeSort (dataLe false fun i : Nat => .tuple [.int (-(kf i)), .int (i : Nat)])) →
      Q (.ref a) { s with heap := h', toks := tk }) :
    wpAny (model prog w) A (call (.builtin "sorted") [.ref rg] [(Str.ofString "key", .ref f)]) Q E s := by
  have sl : 1000 ≤ sizeLine := by decide
  have h24 : n ≤ 2 ^ 24 := Nat.le_trans hn (by decide)
  refine call_function_entry_kw kind_sorted plain_sorted entry_sorted (ksk_s1 _ _) ?_
  unfold Builtin.«sorted»
  refine wpAny_bind (m := checkCount "sorted" 1 1 _) (wpAny_pure ?_)
  refine wpAny_bind (collect_range (n := n) hh hr (small_one (by decide) (by decide) (by omega) (by omega)) (by rw [rangeSize0]) h24 fun h1 tk1 acc k1 hi => ?_)
  obtain ⟨sz, it⟩ := hi
  have hacc : acc.toList.length = n := by rw [Array.length_toList]; exact sz
  refine wpAny_bind (wpAny_newList ?_ (by omega))
  have na : s.heap.get? h1.objs.size = none := by
    cases q : s.heap.get? h1.objs.size with
    | none => rfl
    | some o =>
      have := k1 _ _ q
      rw [Heap.get?_none_of_le (Nat.le_refl _)] at this
      cases this
  have ei : EachIs (fun (v : Value) (i : Nat) => ∃ t, v = Value.int (i : Nat) t) acc.toList (List.range n) := by
    have gen : ∀ (l : List Value) (k : Nat), (∀ j v, l[j]? = some v → ∃ t, v = Value.int ((k + j : Nat) : Int) t) → EachIs (fun (v : Value) (i : Nat) => ∃ t, v = Value.int (i : Nat) t) l ((List.range l.length).map (k + ·)) := by
      intro l
      induction l with
      | nil => intro k _; exact .nil
      | cons x l ih =>
        intro k q
        rw [List.length_cons, List.range_succ_eq_map, List.map_cons, List.map_map]
        refine .cons (by simpa using q 0 x rfl) ?_
        have z := ih (k + 1) fun j v e => by
          have := q (j + 1) v (by simpa using e)
          rw [show k + 1 + j = k + (j + 1) by omega]
          exact this
        rw [show ((k + 1 + ·) : Nat → Nat) = ((k + ·) ∘ Nat.succ) from funext fun x => by simp; omega] at z
        exact z
    have z := gen acc.toList 0 fun j v e => by
      obtain ⟨t, rfl⟩ := it j v (by rw [← Array.getElem?_toList]; exact e)
      exact ⟨t, by simp⟩
    rw [hacc, show ((0 + ·) : Nat → Nat) = id from funext fun x => by simp, List.map_id] at z
    exact z
  refine wpAny_bind (wpAny_holding (wpAny_call_entry_kw slot_list_sort ⟨_, Heap.get?_push_size _ rfl, rfl⟩ entry_list_sort ?body (ksk_l1 _ _)))
  case body =>
    show wpAny (model prog w) A.in1.in1 (Builtin.«list.sort» ⟨[.ref h1.objs.size], [(Str.ofString "key", .ref f)]⟩) _ _ _
    rw [ksk_t1]
    have keep : ∀ {g : Heap}, KeepsBut h1.objs.size (h1.push (seqObj "list" acc.toList.toArray 0)) g → ∀ b o, s.heap.get? b = some o → g.get? b = some o := fun {g} kp b o q =>
      kp b o (fun z => by rw [z, na] at q; cases q) (Heap.get?_push_of_some _ (k1 b o q))
    refine keyH_tree (kz := (List.range n).map fun i : Nat => .tuple [.int (-(kf i)), .int (i : Nat)]) (vs := acc.toList) (s := { s with heap := h1.push (seqObj "list" acc.toList.toArray 0), toks := tk1 }) (Heap.get?_push_size _ rfl) (by rw [List.length_map, List.length_range, hacc]) (by omega) (AllAlike.of fun _ _ => by simp [alike, alikeAll]) (Sortable.tuples fun _ => ⟨_, _, rfl⟩) (fun d hd => ?_)
      (keyH_turns (s := { s with heap := h1.push (seqObj "list" acc.toList.toArray 0), toks := tk1 }) (k := fun i : Nat => .tuple [.int (-(kf i)), .int (i : Nat)]) ei fun v i hR hx g tk kp => ?_) fun h' tk out c kp hD ko => ?_
    · obtain ⟨i, _, rfl⟩ := List.mem_map.mp hd
      show A.units + 1 + 1 + _ < _
      simp only [PyData.depth, PyData.depthAll]
      omega
    · obtain ⟨t, rfl⟩ := hR
      exact turn i t (List.mem_range.mp hx) g tk (keep kp)
    · refine ⟨_, rfl, wpAny_pure ⟨_, rfl, h out c h' tk h1.objs.size (keep kp) na hD (keyedOut_each _ ko ei)⟩⟩
end
end DL
/-! S3: sorted(range(n), key=lambda at: (-rests[at], at)) as an expression. -/
namespace DL
open PySem PySem.Spec PyProof.Rows L2 PySem.Calls PySem.W
/-- the places of ns, the greatest first, of equal ones the first -/
def sortK (ns : List Int) : List Nat := (List.range ns.length).mergeSort fun a b => decide (ns.getD b 0 < ns.getD a 0 ∨ (ns.getD a 0 = ns.getD b 0 ∧ a ≤ b))
theorem sortK_eq (ns : List Int) : (List.range ns.length).mergeSort (dataLe false fun i : Nat => .tuple [.int (-(ns.getD i 0)), .int (i : Nat)]) = sortK ns := by
  unfold sortK
  rw [dataLe_ii]
  congr 1
  funext p q
  congr 1
  apply propext
  constructor
  · rintro (h | ⟨h1, h2⟩)
    · exact .inl (by omega)
    · exact .inr ⟨by omega, by omega⟩
  · rintro (h | ⟨h1, h2⟩)
    · exact .inl (by omega)
    · exact .inr ⟨by omega, by omega⟩
theorem sortK_length (ns : List Int) : (sortK ns).length = ns.length := by unfold sortK; simp
/-- range(n) as a value -/
def rRng1 : List V → Hp → VK → Prop := fun vs H Q => ∃ n : Nat, vs = [.int n] ∧ ∀ p, H p = none → Q (.ref p) (upd H p (.rng 0 n))
theorem obj_get {P : Program} {w : World} {H : Hp} {h : Heap} {a : Addr} {o : HO} (x : ObjOk P w H h a o) : ∃ u, h.get? a = some u := by
  cases o with
  | lst xs => obtain ⟨_, _, _, _, e⟩ := x; exact ⟨_, e⟩
  | tup xs => obtain ⟨_, _, _, o, p, _⟩ := x; exact ⟨o, p⟩
  | dK kvs => obtain ⟨_, _, _, _, o, _, _, e, _⟩ := x; exact ⟨_, e⟩
  | dT kvs => obtain ⟨_, _, _, _, o, _, _, e, _⟩ := x; exact ⟨_, e⟩
  | set S n => obtain ⟨o, _, _, _, e, _⟩ := x; exact ⟨_, e⟩
  | ins C dx fs => obtain ⟨_, _, _, e, _⟩ := x; exact ⟨_, e⟩
  | own y => exact x
  | xd fs => obtain ⟨_, ⟨_, _, _, e, _⟩, _⟩ := x; exact ⟨_, e⟩
  | rng lo hi => obtain ⟨_, _, _, e⟩ := x; exact ⟨_, e⟩
  | frz ob u => obtain ⟨e, _⟩ := x; exact ⟨_, e⟩
  | tbl ps => exact ⟨_, show h.get? a = some _ from x⟩
  | met f y => exact ⟨_, show h.get? a = some _ from x⟩
  | ext φ => obtain ⟨_, e, _⟩ := x; exact e
section
variable {X : Cx} {E : XK} {k : Nat}
theorem cr_rng1 : CallR X (.type "range") rRng1 := by
  intro pins s σ H vs us Q I r h
  obtain ⟨n, rfl, q⟩ := h
  obtain ⟨t, rfl⟩ : ∃ t, us = [Value.int (n : Nat) t] := by
    cases r with
    | cons r1 r => cases r; obtain ⟨t, rfl⟩ := r1; exact ⟨t, rfl⟩
  have n0 := I.hok.fresh (Nat.le_refl s.heap.objs.size)
  refine call_range_1 ⟨.ref _, _, I.laid (o := .rng 0 n) (fun b u e => Heap.get?_push_of_some _ e) (Nat.le_refl _) ⟨_, _, _, Heap.get?_push_size _ rfl⟩, rfl, q _ n0⟩
/-- what is sorted, and by what -/
def sortArg (ds : List D) (o : Option (Option Sl)) : Option (List Int) := match ds, o with
  | [.int n], some (some (.pub _ (.list rs))) => (match intsOf rs with
    | some ns => if (ns.length : Int) = n ∧ ns.length ≤ 1000 then some ns else none
    | none => none)
  | _, _ => none
theorem sortArg_of {ds : List D} {o : Option (Option Sl)} {ns : List Int} (h : sortArg ds o = some ns) : ds = [.int (ns.length : Nat)] ∧ ns.length ≤ 1000 ∧ ∃ m rs, o = some (some (.pub m (.list rs))) ∧ intsOf rs = some ns := by
  unfold sortArg at h
  split at h
  · rename_i n m rs
    split at h
    · rename_i ns' q
      by_cases c : (ns'.length : Int) = n ∧ ns'.length ≤ 1000
      · rw [if_pos c] at h
        cases h
        exact ⟨by rw [← c.1], c.2, m, rs, rfl, q⟩
      · rw [if_neg c] at h; cases h
    · cases h
  · cases h
def fSortK (fs : Env → RL) (i : Nat) : Env → RE := fun ρ => match fs ρ with
  | .ok ds ρ1 => (match sortArg ds ρ1[i]? with
    | some ns => .ok (.frs ((sortK ns).map fun j => .int (j : Nat))) ρ1
    | none => .st)
  | .err c d => .err c d
  | .st => .st
def keyScope : Scope := { kind := .function, names := [("at", .local), ("rests", .free)], isGenerator := false, isCoroutine := false, more := [] }
theorem intVals {out : List Value} {l : List Nat} (h : EachIs (fun (v : Value) (i : Nat) => ∃ t, v = Value.int (i : Nat) t) out l) : Vals (l.map fun j => V.int (j : Nat)) out := by
  induction h with
  | nil => exact .nil
  | cons h _ ih => exact .cons h ih
/-- where lambdas are made -/
structure Maker (X : Cx) : Prop where
  ex : ∃ c Pt, LamX.TabB X.base X.mg c Pt ∧ X.env.code = .ref c ∧ (Pt, X.env.qual ++ "<lambda>") ∈ TbK X.K ∧ ∀ p ∈ TbK X.K, p.1 = Pt → p.2 = X.env.qual ++ "<lambda>"
  fn : ∀ x, X.fn x = true
theorem rps_int_list : ∀ (l : List Nat) (K : PySem.W.Frag) (H : Hp), Rps K H (l.map fun j => V.int (j : Nat)) (l.map fun j => .int (j : Nat))
  | [], _, _ => .nil
  | _ :: l, K, H => .cons (.int _) (rps_int_list l K H)
theorem de_sortK {i : Nat} {e : Expr} {an : Option Expr} {a : Expr} {fs : Env → RL} {p pr pl pn pk po pp pos pos2 : Pos} {x1} (Mk : Maker X) (B1 : X.mg "sorted" = none) (B2 : X.mg "range" = none) (c : Cn X E (k + 1)) (N : NegE "rests" "at" e) (ha : DA X E [a] fs) (hN : X.N[i]? = some ("rests" : Str))
    (hk : X.env.scope.names.lookup ("rests" : Str) = some .cell := by rfl) (hgs : Gl X "sorted" := by rfl) (hgr : Gl X "range" := by rfl) (hs : starEach [a] X.env = (false, eval a X.env) :: starEach [] X.env := by rfl) :
    DE X E (.Call (.Name "sorted" p) [.Call (.Name "range" pr) [a] [] pl] [⟨some "key", .Lambda ⟨[], [⟨"at", an, pp⟩], none, [], [], none, []⟩ (.Tuple [e, .Name "at" pn] x1 po) keyScope pk, pos2⟩] pos) (fSortK fs i) := by
  have hms := B1
  have hmr := B2
  have hv : Vis X.env.scope "rests" := .inr (.inl hk)
  obtain ⟨c0, Pt, TB, hcode, hm, hu⟩ := Mk.ex
  refine ⟨⟨fun pins s σ H Q I ⟨τ, A0, P, ρ, S, cc⟩ => ?_⟩⟩
  have hfree : ∀ y ∈ keyScope.names, y.2 = .free → ∃ c, X.env.cells.lookup y.1 = some c := fun y hy e => by
    rcases List.mem_cons.mp hy with z | z
    · rw [z] at e; cases e
    · rw [List.mem_singleton.mp z]
      exact I.ok.has _ (.inl hk)
  have pr1 : PE X (.Call (.Name "range" pr) [a] [] pl) (tCB rRng1 (tDA X.K E fs)) := pe_callTy cr_rng1 hgr hmr (by decide +kernel) ha.pa (by decide) (by decide) hs
  have hargs : tDA X.K E fs σ H fun vs H1 => ∃ P1 ρ1 ds, Stp X.K H P H1 P1 ∧ SRep X.K τ A0 H1 σ ρ1 P1 ∧ Rps X.K (hid (P1 ++ A0) H1) vs ds ∧ CDE X.K E τ A0 H1 P1 σ (match sortArg ds ρ1[i]? with
    | some ns => .ok (.frs ((sortK ns).map fun j => .int (j : Nat))) ρ1
    | none => .st) Q := by
    refine ⟨τ, A0, P, ρ, S, ?_⟩
    unfold fSortK at cc
    cases q : fs ρ with
    | ok ds ρ1 =>
      rw [q] at cc
      exact fun vs H1 P1 t S1 r => ⟨P1, ρ1, ds, t, S1, r, CDE.stp t cc⟩
    | err c1 d => rw [q] at cc; exact cc
    | st => rw [q] at cc; exact cc.elim
  have h1 : tCB rRng1 (tDA X.K E fs) σ H fun v H2 => ∃ (p : Addr) (ns : List Int) (H1 : Hp) (P1 : List Addr) (ρ1 : Env), v = .ref p ∧ H1 p = none ∧ H2 = upd H1 p (.rng 0 (ns.length : Nat)) ∧ Stp X.K H P H1 P1 ∧ SRep X.K τ A0 H1 σ ρ1 P1 ∧ sortArg [.int (ns.length : Nat)] ρ1[i]? = some ns ∧ CDE X.K E τ A0 H1 P1 σ (.ok (.frs ((sortK ns).map fun j => .int (j : Nat))) ρ1) Q := by
    obtain ⟨τ', A', P', ρ', S', c'⟩ := hargs
    refine ⟨τ', A', P', ρ', S', ?_⟩
    cases q : fs ρ' with
    | ok ds ρ1 =>
      rw [q] at c'
      intro vs H1 P1 t S1 r
      obtain ⟨P2, ρ2, ds2, a1, a2, a3, a4⟩ := c' vs H1 P1 t S1 r
      cases q2 : sortArg ds2 ρ2[i]? with
      | none => rw [q2] at a4; exact a4.elim
      | some ns =>
        rw [q2] at a4
        obtain ⟨rfl, _, _⟩ := sortArg_of q2
        refine ⟨ns.length, ?_, fun p hp => ⟨p, ns, H1, P2, ρ2, rfl, hp, rfl, a1, a2, q2, a4⟩⟩
        obtain ⟨v, rfl, r1⟩ := rps_one a3
        rw [rp_int r1]
    | err c1 d => rw [q] at c'; exact c'
    | st => rw [q] at c'; exact c'.elim
  refine wpAny_Call_Name_kw (ld_blt I hgs hms (u := .builtin "sorted") (by decide +kernel) ?_ (by decide) (by decide))
  refine PyProof.Rows.callWith_kw (rest := []) ?_
  refine thn ((pa_cons pr1 pa_nil rfl).run pos pins s σ H (fun vs H2 => ∃ v, vs = [v] ∧ ∃ (p : Addr) (ns : List Int) (H1 : Hp) (P1 : List Addr) (ρ1 : Env), v = .ref p ∧ H1 p = none ∧ H2 = upd H1 p (.rng 0 (ns.length : Nat)) ∧ Stp X.K H P H1 P1 ∧ SRep X.K τ A0 H1 σ ρ1 P1 ∧ sortArg [.int (ns.length : Nat)] ρ1[i]? = some ns ∧ CDE X.K E τ A0 H1 P1 σ (.ok (.frs ((sortK ns).map fun j => .int (j : Nat))) ρ1) Q) I ?_) fun us s1 ⟨vs, H2, I1, r, v, e1, pa, ns, H1, P1, ρ1, e2, hp, e3, t1, S1, hso, c1⟩ => ?_
  · obtain ⟨τ', A', P', ρ', S', c'⟩ := h1
    refine ⟨τ', A', P', ρ', S', ?_⟩
    cases q : fs ρ' with
    | ok ds ρ1 =>
      rw [q] at c'
      exact fun vs H1 P1 t S1 r => by
        obtain ⟨n, a1, a2⟩ := c' vs H1 P1 t S1 r
        exact ⟨n, a1, fun p hp => ⟨_, rfl, a2 p hp⟩⟩
    | err c1 d => rw [q] at c'; exact c'
    | st => rw [q] at c'; exact c'.elim
  subst e1 e2 e3
  obtain rfl : us = [Value.ref pa] := by
    cases r with
    | cons r1 r => cases r; obtain rfl := r1; rfl
  obtain ⟨_, hn, m, rs, hq, hi⟩ := sortArg_of hso
  obtain ⟨v, hσ, rv⟩ := S1.puD hq
  obtain ⟨L, xs, rfl, hL, _, rx⟩ := rp_out rv
  have hxs : xs = ns.map V.int := rps_ints rx hi
  subst hxs
  have g1 : Gr X.K H1 (upd H1 pa (.rng 0 (ns.length : Nat))) := Ext.gr (Evl.Ex.new hp)
  have S2 := S1.grow g1
  refine wpAny_evalAll_cons (wpAny_bind (lam_make3 I1 TB hcode hm hu S2.tb rfl hfree fun f c' pm ctv H3 s2 I2 g hf hfn hfr hfs hfl hco => ?_))
  refine wpAny_bind (wpAny_standAt (wpAny_pure (wpAny_evalAll_nil ?_)))
  obtain ⟨tt, tu, tv, hR⟩ := I2.hok pa _ (g.kp pa (.rng 0 (ns.length : Nat)) upd_same (fun _ z => nomatch z))
  have S3 := S2.grow g
  have hL1 : (upd H1 pa (.rng 0 (ns.length : Nat))) L = some (.lst (ns.map V.int)) := by rw [upd_ne (ne_of_none hL hp)]; exact hL
  obtain ⟨_, its, nL, rits, hLo⟩ := I2.hok L _ (g.kp L _ hL1 (fun _ z => nomatch z))
  obtain ⟨mm, hNs, hl⟩ := I2.loc
  obtain ⟨u, ru, lk⟩ := hl i _ _ hN hσ hv
  obtain rfl : u = Value.ref L := ru
  obtain ⟨cc1, hcc, hcell⟩ : ∃ c1, X.env.cells.lookup ("rests" : Str) = some c1 ∧ s2.heap.IsCell c1 (some (.ref L)) := by
    rcases lk with ⟨z, _⟩ | ⟨_, z⟩
    · rw [show X.env.kindOf "rests" = some .cell from hk] at z; cases z
    · exact z
  obtain ⟨⟨oc, vs, t, hoc, hdc, hvc⟩, _, _⟩ := I2.hok c' _ hco
  have hcl : (cloFrom X.env.cells keyScope.names []).lookup ("rests" : Str) = some cc1 := by
    obtain ⟨c2, h2⟩ := mem_lookup (cloFrom_has (cells := X.env.cells) (acc := []) (names := keyScope.names) (n := "rests") (by decide))
    rcases cloFrom_mem (PySem.mem_of_lookup h2) with z | ⟨_, z⟩
    · cases z
    · rw [h2, z, hcc]
      rfl
  have hit : ∀ j, j < ns.length → ∃ t, its[j]? = some (.int (ns.getD j 0) t) := fun j hj => by
    obtain ⟨u, h1, t, h2⟩ := rits.get (i := j) (x := V.int (ns.getD j 0)) (by rw [List.getElem?_map, List.getElem?_eq_getElem hj]; simp [List.getD, hj])
    exact ⟨t, by rw [h1, h2]⟩
  refine sorted_range_key (n := ns.length) (fun j => ns.getD j 0) c.rm.hd hR hn (by have := c.rm.un; omega) (fun j tj hj h tk kp => ?_) fun out c5 h' tk a kp hna hout hei => ?_
  · obtain ⟨tr, htr⟩ := hit j hj
    have := c.rm.dp
    refine key_call N (by show X.A.depth < _; omega) (kp _ _ hf) ⟨c', oc, vs, t, rfl, kp _ _ hoc, hdc, hvc⟩ (I2.mod.nolimit.keeps fun b o z => kp b o (I2.bk b o z)) rfl rfl rfl rfl (by decide) (by decide) (by decide) hcl (hcell.keeps kp) ⟨_, kp _ _ hLo, rfl, _, rfl⟩ htr (by omega) (by decide) (by decide) (by decide) ?_
    intro env
    cases N <;> rfl
  · rw [sortK_eq] at hei
    have hn3 : H3 a = none := by
      cases q : H3 a with
      | none => rfl
      | some o =>
        obtain ⟨o', e'⟩ := obj_get (I2.hok a o q)
        rw [hna] at e'; cases e'
    refine ⟨.ref a, _, I2.laidN (o := .lst ((sortK ns).map fun j => V.int (j : Nat))) kp hna hn3 ⟨?_, out, c5, intVals hei, hout⟩, rfl, ?_⟩
    · rw [List.length_map, sortK_length]
      exact Nat.le_trans hn (by decide)
    · exact give_lst (rps_int_list _ _ _) (giveW S3 (CDE.stp (Stp.gr (g1.trans g)) c1)) a hn3
end
end DL
/-! S4: told = [new list, ..]; if c: ..; told[0].append(k). -/
namespace DL
open PySem L2 PyProof.Rows
def toldSl : Option Sl → Option Sl → Option Sl
  | _, some (.own t ds) => if noLs ds then some (.own t ds) else none
  | some (.pub m d), _ => some (.pub m d)
  | _, _ => none
/-- what is known behind the stretch: own lists of plain items, data of before -/
def keepE (i : Nat) (ρ2 ρ4 : Env) : Env := (List.zipWith toldSl ρ2 ρ4).set i none
theorem keepE_at {i j : Nat} {ρ2 ρ4 : Env} {s : Sl} (h : (keepE i ρ2 ρ4)[j]? = some (some s)) : j ≠ i ∧ ((∃ t ds, s = .own t ds ∧ noLs ds = true ∧ ρ4[j]? = some (some (.own t ds))) ∨ ∃ m d, s = .pub m d ∧ ρ2[j]? = some (some (.pub m d))) := by
  unfold keepE at h
  rcases set_at h with ⟨_, e⟩ | ⟨ne, e⟩
  · cases e
  refine ⟨ne, ?_⟩
  rw [List.getElem?_zipWith] at e
  split at e
  · rename_i a b q1 q2
    have e : toldSl a b = some s := Option.some.inj e
    have pubC : ∀ {b : Option Sl}, (∀ t ds, b ≠ some (.own t ds)) → toldSl a b = some s → ∃ m d, s = .pub m d ∧ a = some (.pub m d) := fun {b} hb e => by
      unfold toldSl at e
      split at e
      · rename_i t ds
        exact absurd rfl (hb _ _)
      · cases e
        exact ⟨_, _, rfl, rfl⟩
      · cases e
    by_cases hb : ∃ t ds, b = some (.own t ds)
    · obtain ⟨t, ds, rfl⟩ := hb
      by_cases c : noLs ds = true
      · have e : (if noLs ds then some (Sl.own t ds) else none) = some s := e
        rw [if_pos c] at e
        cases e
        exact .inl ⟨_, _, rfl, c, q2⟩
      · have e : (if noLs ds then some (Sl.own t ds) else none) = some s := e
        rw [if_neg c] at e
        cases e
    · obtain ⟨m, d, rfl, rfl⟩ := pubC (fun t ds z => hb ⟨t, ds, z⟩) e
      exact .inr ⟨_, _, rfl, q1⟩
  · cases e
section
variable {K : PySem.W.Frag} {E : XK} {τ : Nat → Addr} {A0 P P2 P4 : List Addr} {H H2 H4 : Hp} {σ σ2 σ4 : L2.St} {ρ ρ2 ρ4 : Env} {p : Addr} {xs ys : List V} {i : Nat}
theorem SRep.told (S2 : SRep K τ (p :: A0) H2 σ2 ρ2 P2) (S4 : SRep K τ A0 H4 σ4 ρ4 P4) (t : Stp K H2 P2 H4 P4) (hσ : ∀ j, j ≠ i → σ4[j]? = σ2[j]?) (hl : σ4.length = σ2.length) (hp : H4 p = some (.lst xs)) : SRep K τ (p :: A0) H4 σ4 (keepE i ρ2 ρ4) P4 := by
  have np : p ∉ P4 := fun z => by
    rcases t.nw p z with w | w
    · exact S2.dj p w List.mem_cons_self
    · exact S2.tr p (List.mem_append_right _ List.mem_cons_self) w
  refine ⟨fun j m d q => ?_, fun j u ds q => ?_, fun j k u u2 es fs r hjk e1 e2 e3 => ?_, fun a z => ?_, ?_, fun a ha z => ?_, S4.tb, fun j g q => ?_⟩
  · obtain ⟨ne, ⟨t', ds, e, _⟩ | ⟨m', d', e, q2⟩⟩ := keepE_at q
    · cases e
    · cases e
      obtain ⟨v, h1, h2, h3⟩ := S2.pu j m d q2
      exact ⟨v, by rw [hσ j ne]; exact h1, h2.ext t.hid.hs, h3⟩
  · obtain ⟨ne, ⟨t', ds', e, hn, q2⟩ | ⟨m', d', e, q2⟩⟩ := keepE_at q
    · cases e
      obtain ⟨r, zs, h1, h2, h3, h4, h5⟩ := S4.own j u ds q2
      refine ⟨r, zs, h1, h2, h3, noLs_rp (p := p) hp (fun a z => ?_) hn h4, h5⟩
      rcases List.mem_append.mp z with z | z
      · exact .inr (List.mem_append_left _ z)
      · rcases List.mem_cons.mp z with z | z
        · exact .inl z
        · exact .inr (List.mem_append_right _ z)
    · cases e
  · obtain ⟨_, ⟨t1, d1, e, _, q1⟩ | ⟨_, _, e, _⟩⟩ := keepE_at e1
    · obtain ⟨_, ⟨t2, d2, e', _, q2⟩ | ⟨_, _, e', _⟩⟩ := keepE_at e2
      · cases e
        cases e'
        exact S4.inj j k u u2 es fs r hjk q1 q2 e3
      · cases e'
    · cases e
  · rcases List.mem_append.mp z with z | z
    · exact S4.tr a (List.mem_append_left _ z)
    · rcases List.mem_cons.mp z with z | z
      · rw [z, hp]; exact fun w => nomatch w
      · exact S4.tr a (List.mem_append_right _ z)
  · unfold keepE
    rw [List.length_set, List.length_zipWith, ← S2.len, ← S4.len, hl]
    simp
  · rcases List.mem_cons.mp z with z | z
    · exact np (by rw [← z]; exact ha)
    · exact S4.dj a ha z
  · obtain ⟨_, ⟨_, _, e, _⟩ | ⟨_, _, e, _⟩⟩ := keepE_at q <;> cases e
/-- a hidden list is written and no longer hidden -/
theorem SRep.unhide (S : SRep K τ (p :: A0) H σ ρ P) (hp : H p = some (.lst xs)) (hn : ∀ (j : Nat) (g : List (List Int)), ρ[j]? ≠ some (some (Sl.nst g))) : SRep K τ A0 (L2.upd H p (.lst ys)) σ ρ P := by
  have x : Ext (hid (P ++ p :: A0) H) (hid (P ++ A0) (L2.upd H p (.lst ys))) := fun a o q => by
    obtain ⟨n, e⟩ := hid_of q
    refine hid_in (fun z => n ?_) ?_ (hid_nt q)
    · rcases List.mem_append.mp z with z | z
      · exact List.mem_append_left _ z
      · exact List.mem_append_right _ (List.mem_cons_of_mem _ z)
    · rw [upd_ne (fun z => n (by rw [z]; exact List.mem_append_right _ List.mem_cons_self))]
      exact e
  refine ⟨fun j m d q => ?_, fun j u ds q => ?_, S.inj, fun a z => ?_, S.len, fun a ha z => S.dj a ha (List.mem_cons_of_mem _ z), fun b hb => tab_lst hp (S.tb b hb), fun j g q => absurd q (hn j g)⟩
  · obtain ⟨v, h1, h2, h3⟩ := S.pu j m d q
    exact ⟨v, h1, h2.ext x.hs, h3⟩
  · obtain ⟨r, zs, h1, h2, h3, h4, h5⟩ := S.own j u ds q
    exact ⟨r, zs, h1, h2, by rw [upd_ne (fun z => S.dj r h2 (by rw [z]; exact List.mem_cons_self))]; exact h3, h4.ext x, h5⟩
  · by_cases ha : a = p
    · rw [ha, upd_same]; exact fun w => nomatch w
    · rw [upd_ne ha]
      refine S.tr a ?_
      rcases List.mem_append.mp z with z | z
      · exact List.mem_append_left _ z
      · exact List.mem_append_right _ (List.mem_cons_of_mem _ z)
end
theorem cds_nx {K : PySem.W.Frag} {E : XK} {τ : Nat → Addr} {A0 P : List Addr} {H : Hp} {o : RS} {Dn : Ends} {f : L2.St → Hp → Prop} (h : CDS K E τ A0 H P o Dn) (hn : ∀ ρ, o ≠ .nx ρ) : CDS K E τ A0 H P o { Dn with nx := f } := by
  cases o with
  | nx ρ => exact absurd rfl (hn ρ)
  | ret w ρ => cases w <;> exact h
  | bk ρ => exact h
  | ct ρ => exact h
  | err c d => exact h
  | st => exact h
/-- told = [e1, ..]; if c: ..; told[0].append(k): e1's value is a new list -/
def sTold (i : Nat) (f1 : Env → RE) (fr : Env → RL) (fc : Env → RE) (gA : Env → RS) : Env → RS := fun ρ => match f1 ρ with
  | .ok (.frs ds1) ρ1 => (match fr ρ1 with
    | .ok ds ρ2 => if ds.length < 1000 ∧ ds1.length < 1000 ∧ i < ρ2.length then (match fc (ρ2.set i (some (.pu (.list (.list ds1 :: ds))))) with
      | .ok w ρ4 => (match w.d with
        | .bool true => (match gA ρ4 with
          | .nx _ => .st
          | o => o)
        | .bool false => .nx (keepE i ρ2 ρ4)
        | _ => .st)
      | .err c d => .err c d
      | .st => .st) else .st
    | .err c d => .err c d
    | .st => .st)
  | .err c d => .err c d
  | _ => .st
section
variable {X : Cx} {E : XK} {e1 c : Expr} {es : List Expr} {f1 fc : Env → RE} {fr : Env → RL} {gA g : Env → RS} {i k1 k2 : Nat} {z : Int} {x : Str} {body rest : List Stmt} {p1 p2 p3 p4 p5 p6 p7 p8 p9 p10 p11 : Pos}
theorem dss_told (hN : X.N.Nodup) (hi : X.N[i]? = some x) (hx : Loc X.env.scope x) (he1 : DE X E e1 f1) (hr : DA X E es fr) (hc : DT X E c fc) (hA : DSs X E body gA) (pv : PE X (.Name x p5) (tVar i))
    (he : starEach (e1 :: es) X.env = (false, eval e1 X.env) :: starEach es X.env := by rfl)
    (hs : swapsWith (.List (e1 :: es) p2) (some (.Name x p1)) p3.line X.env = pure false := by rfl) (hf : X.fn x = true ∨ X.env.scope.names.lookup x = some .local := by first | exact .inl rfl | exact .inr rfl | assumption)
    (hs3 : swapsWith (.Call (.Attribute (.Subscript (.Name x p5) (.Constant (.int 0) k1 p6) p7) "append" p8) [.Constant (.int z) k2 p9] [] p10) none p11.line X.env = pure false := by rfl)
    (hb : attributeBase (.Subscript (.Name x p5) (.Constant (.int 0) k1 p6) p7) "append" X.env (eval (.Subscript (.Name x p5) (.Constant (.int 0) k1 p6) p7) X.env) = eval (.Subscript (.Name x p5) (.Constant (.int 0) k1 p6) p7) X.env := by rfl)
    (hline : (p8.endLine == p10.line) = true := by rfl) :
    DSs X E [.Assign [.Name x p1] (.List (e1 :: es) p2) p3, .If c body [] p4, .Expr (.Call (.Attribute (.Subscript (.Name x p5) (.Constant (.int 0) k1 p6) p7) "append" p8) [.Constant (.int z) k2 p9] [] p10) p11] (sTold i f1 fr fc gA) := by
  have h1 := ps_set (pos := p3) hN hi hx (pe_lst (pos := p2) (pa_cons he1.pe hr.pa he)) hs hf
  have h2 := ps_if (pos := p4) hc.pt hA.pss (pss_nil (X := X))
  have h3 := ps_expr (pos := p11) (pe_bm (X := X) (cpos := p10) (apos := p8) PySem.F.plainAttrs_list PySem.F.slot_list_append PySem.F.type_list_append mt_append (pe_ix (X := X) ix_seq pv (pe_int (i := 0) (j := k1) (pos := p6)) (fun _ _ => rfl)) (pa_cons (pe_int (i := z) (j := k2) (pos := p9)) pa_nil rfl) hb rfl hline rfl rfl) hs3
  refine ⟨PSs.weak (pss_cons h1 (pss_cons h2 (pss_one h3))) fun Dn σ H ⟨τ, A0, P, ρ, S, cc⟩ => ?_⟩
  refine ⟨τ, A0, P, ρ, S, ?_⟩
  unfold sTold at cc
  cases q1 : f1 ρ with
  | err c1 d => rw [q1] at cc; exact cc
  | st => rw [q1] at cc; exact cc
  | ok w1 ρ1 =>
    rw [q1] at cc
    cases w1 with
    | pu d => exact cc.elim
    | frs ds1 =>
      dsimp only at cc
      intro p xs H1 P1 t1 hn np nA S1 hl r1
      have ne : ∀ {P' : List Addr} {H' : Hp}, Ext (hid (P' ++ p :: A0) H') (hid (P' ++ A0) H') := fun {P' H'} => hid_less fun a z => by
        rcases List.mem_append.mp z with z | z
        · exact List.mem_append_left _ z
        · exact List.mem_append_right _ (List.mem_cons_of_mem _ z)
      refine ⟨τ, p :: A0, P1, ρ1, S1, ?_⟩
      cases q2 : fr ρ1 with
      | err c1 d => rw [q2] at cc; exact fun dx u H2 P2 t2 hx2 hr => cc dx u H2 P2 (t1.trans t2) ⟨t1.al _ hx2.1, hx2.2⟩ (hr.ext ne)
      | st => rw [q2] at cc; exact cc
      | ok ds ρ2 =>
        rw [q2] at cc
        dsimp only at cc
        by_cases hc : ds.length < 1000 ∧ ds1.length < 1000 ∧ i < ρ2.length
        rotate_left
        · rw [if_neg hc] at cc; exact cc.elim
        rw [if_pos hc] at cc
        intro vs H2 P2 t2 S2 r2
        have l2 : H2 p = some (.lst xs) := t2.kp p _ (fun z => np z) hl (fun _ z => nomatch z)
        refine ⟨by rw [List.length_cons, r2.length]; exact Nat.le_trans (show ds.length + 1 ≤ 1000 by omega) (by decide), fun q hq => ?_⟩
        have x3 : Ext H2 (upd H2 q (.lst (.ref p :: vs))) := Evl.Ex.new hq
        have g3 : Gr X.K H2 (upd H2 q (.lst (.ref p :: vs))) := Ext.gr x3
        have t3 : Stp X.K H P (upd H2 q (.lst (.ref p :: vs))) P2 := (t1.trans t2).trans (Stp.gr g3)
        have S3 : SRep X.K τ (p :: A0) (upd H2 q (.lst (.ref p :: vs))) σ ρ2 P2 := S2.grow g3
        have S3' : SRep X.K τ A0 (upd H2 q (.lst (.ref p :: vs))) σ ρ2 P2 := S3.less fun a z => List.mem_cons_of_mem _ z
        have l3 : (upd H2 q (.lst (.ref p :: vs))) p = some (.lst xs) := x3 _ _ l2
        have np2 : p ∉ P2 := fun z => S2.dj p z List.mem_cons_self
        obtain ⟨nq1, nq2⟩ := S2.fresh hq
        have rL : Rp X.K (hid (P2 ++ A0) (upd H2 q (.lst (.ref p :: vs)))) (.ref q) (.list (.list ds1 :: ds)) := by
          refine .lst (hid_in (fun z => ?_) upd_same) (.cons (.lst (hid_in (fun z => ?_) l3) ((Rps.ext (t2.trans (Stp.gr g3)).hid r1).ext ne)) ((r2.ext (Stp.gr g3).hid).ext ne))
          · rcases List.mem_append.mp z with z | z
            · exact nq1 z
            · exact nq2 (List.mem_cons_of_mem _ z)
          · rcases List.mem_append.mp z with z | z
            · exact np2 z
            · exact nA z
        refine ⟨τ, A0, P2, _, S3'.put rL i, CDE.toD ?_⟩
        cases q3 : fc (ρ2.set i (some (.pu (.list (.list ds1 :: ds))))) with
        | err c1 d => rw [q3] at cc; exact fun dx u H4 P4 t4 hx2 hr => cc dx u H4 P4 (t3.trans t4) ⟨t3.al _ hx2.1, hx2.2⟩ hr
        | st => rw [q3] at cc; exact cc
        | ok w ρ4 =>
          rw [q3] at cc
          dsimp only at cc
          intro v H4 P4 t4 S4 r4
          split at cc
          · rename_i qb
            rw [qb] at r4
            refine ⟨true, rp_bool r4, iteT ⟨τ, A0, P4, ρ4, S4, ?_⟩⟩
            refine CDS.stp (t3.trans t4) ?_
            split at cc
            · exact cc.elim
            · rename_i o hno
              exact cds_nx cc fun ρ hz => hno ρ hz
          · rename_i qb
            rw [qb] at r4
            refine ⟨false, rp_bool r4, iteF ?_⟩
            have l4 : H4 p = some (.lst xs) := t4.kp p _ np2 l3 (fun _ z => nomatch z)
            have l5 : H4 q = some (.lst (.ref p :: vs)) := t4.kp q _ nq1 upd_same (fun _ z => nomatch z)
            have hiσ : i < σ.length := by rw [S2.len]; exact hc.2.2
            have S5 := SRep.told (i := i) S3 S4 t4 (fun j hj => by rw [List.getElem?_set_ne (Ne.symm hj)]) (by simp) l4
            refine ⟨.ref q, by rw [List.getElem?_set_self hiσ], .inl ⟨q, _, 0, .ref p, rfl, rfl, .inl (.inl l5), by simp [atI, ixN], ?_⟩⟩
            refine ⟨.inl ⟨rfl, xs, .inl (.inl l4)⟩, p, xs, .int z, rfl, rfl, l4, ?_, ?_⟩
            · rw [r1.length]
              exact Nat.lt_of_lt_of_le hc.2.1 (by decide)
            · refine cc _ _ P4 ?_ (S5.unhide l4 ?_)
              · have t5 : Stp X.K H P H4 P4 := t3.trans t4
                refine ⟨fun a o na h nt => ?_, t5.nw, fun a h => ?_, fun h b hb => tab_lst l4 (t5.tb h b hb)⟩
                · rw [upd_ne (fun z => by rw [z, (show H p = none from hn)] at h; cases h)]
                  exact t5.kp a o na h nt
                · by_cases ha : a = p
                  · rw [ha, upd_same] at h; cases h
                  · rw [upd_ne ha] at h
                    exact t5.al a h
              · intro j g hj
                obtain ⟨_, ⟨_, _, e, _⟩ | ⟨_, _, e, _⟩⟩ := keepE_at hj <;> cases e
          · exact cc.elim
theorem dss_toldC {sts : List Stmt} (h1 : DSs X E (sts.take 3) (sTold i f1 fr fc gA)) (h2 : DSs X E (sts.drop 3) g) : DSs X E sts (sSeq (sTold i f1 fr fc gA) g) := by
  have h : PSs X (sts.take 3 ++ sts.drop 3) _ := PSs.weak (pss_append h1.pss h2.pss) fun _ _ _ h => seq_of h
  rw [List.take_append_drop] at h
  exact ⟨h⟩
end
end DL
/-! S5: x in list, cuts with computed bounds, gcd, abs, len of an own list, two new lists at once. -/
namespace DL
open PySem L2 PyProof.Rows
theorem ints_lay : ∀ {ds : List D} {ns : List Int}, intsOf ds = some ns → PyData.canLayAll0 ds = true ∧ PyData.depthAll ds ≤ 1 ∧ ∀ i : Int, (ds.any fun z => PyData.eqv z (.int i)) = ns.contains i
  | [], _, h => by
    cases h
    refine ⟨rfl, by simp [PyData.depthAll], fun i => rfl⟩
  | .int j :: r, ns, h => by
    cases q : intsOf r with
    | none => simp [intsOf, q] at h
    | some ms =>
      have h : ns = j :: ms := by simpa [intsOf, q] using h.symm
      subst h
      obtain ⟨a, b, c⟩ := ints_lay q
      refine ⟨by simp [PyData.canLayAll0, PyData.canLay0, a], by simp only [PyData.depthAll, PyData.depth]; omega, fun i => ?_⟩
      rw [List.any_cons, c i, List.contains_cons, PyData.eqv]
      congr 1
      by_cases hji : j = i
      · subst hji; simp
      · have h2 : ¬ i = j := fun z => hji z.symm
        rw [beq_eq_false_iff_ne.mpr hji, beq_eq_false_iff_ne.mpr h2]
  | .none :: _, _, h | .bool _ :: _, _, h | .str _ :: _, _, h | .list _ :: _, _, h | .tuple _ :: _, _, h | .dict _ :: _, _, h => by cases h
def gIn : D → D → Option W
  | .int i, .list ds => (match intsOf ds with
    | some ns => some (.pu (.bool (ns.contains i)))
    | none => none)
  | _, _ => none
section
variable {X : Cx} {E : XK} {k : Nat} {e a b : Expr} {es : List Expr} {fa fb : Env → RE} {fr : Env → RL} {p p2 pos : Pos}
theorem op2_in : Op2R X.K (rInD X.K) gIn := fun A H x y d1 d2 w Q tr r1 r2 q gw => by
  unfold gIn at q
  split at q
  · rename_i i ds
    split at q
    · rename_i ns h
      cases q
      obtain ⟨l1, l2, l3⟩ := ints_lay h
      have s1 : SeqAt.shaped (.int i) = true := rfl
      have s2 : SeqAt.shaped (.list ds) = true := by
        unfold SeqAt.shaped
        simp only [Bool.and_eq_true, decide_eq_true_eq]
        exact ⟨by simpa [PyData.canLay0] using l1, by simp only [PyData.depth]; omega⟩
      exact ⟨.int i, ds, (r1.ext hid_ext).dp rfl, (r2.ext hid_ext).dp (SeqAt.canLay_of_shaped s2), s1, s2, by rw [l3]; exact give_pu (.bl _) gw⟩
    · cases q
  · cases q
theorem d_in (c : Cn X E k) (ha : DE X E a fa) (hb : DE X E b fb) (hm : behindInMarks .In b = false := by rfl) : DE X E (.Compare a [.In] [b] pos) (fOp2 gIn fa fb) := de_cmp (op_inD (by have := c.rm.un; omega)) op2_in ha hb hm
/-- xs[:h], xs[l:] -/
def gCutH : D → D → Option W
  | .list ds, .int h => some (.frs (cutD ds none (some h)))
  | _, _ => none
def gCutL : D → D → Option W
  | .list ds, .int l => some (.frs (cutD ds (some l) none))
  | _, _ => none
theorem op2_cutH : Op2R X.K (fun x y H Q => ∃ h, y = .int h ∧ rSlL X.K x none (some h) H Q) gCutH := fun A H x y d1 d2 w Q tr r1 r2 q gw => by
  unfold gCutH at q
  split at q
  · rename_i ds h
    cases q
    obtain ⟨b, xs, rfl, h1, _, s1⟩ := rp_out (P := []) (A0 := A) r1
    exact ⟨h, rp_int r2, b, xs, rfl, .inl (.inl h1), fun p hp => give_lst (s1.cut _ _) gw p hp⟩
  · cases q
theorem op2_cutL : Op2R X.K (fun x y H Q => ∃ h, y = .int h ∧ rSlL X.K x (some h) none H Q) gCutL := fun A H x y d1 d2 w Q tr r1 r2 q gw => by
  unfold gCutL at q
  split at q
  · rename_i ds h
    cases q
    obtain ⟨b, xs, rfl, h1, _, s1⟩ := rp_out (P := []) (A0 := A) r1
    exact ⟨h, rp_int r2, b, xs, rfl, .inl (.inl h1), fun p hp => give_lst (s1.cut _ _) gw p hp⟩
  · cases q
theorem de_cutH (ha : DE X E a fa) (hb : DE X E b fb) : DE X E (.Subscript a (.Slice none (some b) none p2) pos) (fOp2 gCutH fa fb) :=
  ⟨PE.weak (pe_slice sl_list ha.pe po_none (po_some hb.pe)) fun _ _ _ h => op2_of op2_cutH h⟩
theorem de_cutL (ha : DE X E a fa) (hb : DE X E b fb) : DE X E (.Subscript a (.Slice (some b) none none p2) pos) (fOp2 gCutL fa fb) :=
  ⟨PE.weak (pe_slice sl_list ha.pe (po_some hb.pe) po_none) fun σ H Q h => op2_of op2_cutL h⟩
/-- math.gcd -/
def gGcd : List D → Option W
  | [.int i, .int j] => some (.pu (.int (Nat.gcd i.natAbs j.natAbs : Nat)))
  | _ => none
theorem cal_gcd : CalR X.K rGcd gGcd := fun A H xs ds w Q tr r q gw => by
  unfold gGcd at q
  split at q
  · cases q
    obtain ⟨v, u, rfl, h1, h2⟩ := rps_two r
    rw [rp_int h1, rp_int h2]
    exact ⟨_, _, rfl, give_pu (.int _) gw⟩
  · cases q
theorem de_gcd (hm : X.mg "gcd" = some (.builtin "math.gcd")) (ha : DA X E [a, b] fr) (hg : Gl X "gcd" := by rfl) (he : starEach [a, b] X.env = (false, eval a X.env) :: starEach [b] X.env := by rfl) (hpl : (backTo pos (starEach [b] X.env)).any (·.1) = false := by rfl) :
    DE X E (.Call (.Name "gcd" p) [a, b] [] pos) (bndA fr gGcd) :=
  ⟨PE.weak (pe_callBfun cr_gcd hg hm ha.pa (by decide) he hpl) fun σ H Q h => tda_bnd h fun vs H' A ds w tr r q gw => cal_gcd A H' vs ds w Q tr r q gw⟩
theorem d_abs (B : Bl X.mg) (ha : DA X E [e] fr) (hg : Gl X "abs" := by rfl) (he : starEach [e] X.env = (false, eval e X.env) :: starEach [] X.env := by rfl) : DE X E (.Call (.Name "abs" p) [e] [] pos) (bndA fr gAbs) := de_callB call_abs cal_abs hg B.abs (by decide +kernel) ha (by decide) (by decide) he
/-- len(x), x an own list that stays so -/
def fLenO (i : Nat) : Env → RE := fun ρ => match ρ[i]? with
  | some (some (.own _ ds)) => .ok (.pu (.int (ds.length : Nat))) ρ
  | _ => .st
theorem d_lenO {i : Nat} (B : Bl X.mg) (h0 : PE X e (tVar i)) (hg : Gl X "len" := by rfl) (he : starEach [e] X.env = (false, eval e X.env) :: starEach [] X.env := by rfl) : DE X E (.Call (.Name "len" p) [e] [] pos) (fLenO i) := by
  refine ⟨PE.weak (pe_callB call_len hg B.len bt_len (pa_cons h0 pa_nil he) (by decide) (by decide) he) fun σ H Q ⟨τ, A0, P, ρ, S, c⟩ => ?_⟩
  unfold fLenO at c
  split at c
  · rename_i t ds q
    obtain ⟨q', xs, b1, b2, b3, b4, b5⟩ := S.own i t ds q
    exact ⟨.ref q', b1, _, _, rfl, .inl ⟨xs, .inl (.inl b3), b4.length.symm⟩, c (.int ds.length) H P (Stp.rfl H P) S (.int _)⟩
  · exact c.elim
/-- x, y = e1, e2, both new lists -/
def sParO (i j : Nat) (fa fb : Env → RE) : Env → RS := fun ρ => match fa ρ with
  | .ok (.frs ds1) ρ1 => (match fb ρ1 with
    | .ok (.frs ds2) ρ2 => if noN ρ2 = true ∧ noN (ρ2.set j (some (.own 0 ds2))) = true then .nx ((ρ2.set j (some (.own 0 ds2))).set i (some (.own 0 ds1))) else .st
    | .err c d => .err c d
    | _ => .st)
  | .err c d => .err c d
  | _ => .st
theorem ds_parO {i j : Nat} {x y : Str} {px py pt : Pos} {kt k2 pt2} (hc : X.calm = true) (hN : X.N.Nodup) (hi : X.N[i]? = some x) (hj : X.N[j]? = some y) (hij : i ≠ j)
    (hx : X.env.scope.names.lookup x = some .local) (hy : X.env.scope.names.lookup y = some .local) (ha : DE X E a fa) (hb : DE X E b fb)
    (he : starEach [a, b] X.env = (false, eval a X.env) :: starEach [b] X.env := by rfl) (he2 : starEach [b] X.env = (false, eval b X.env) :: starEach [] X.env := by rfl)
    (hw : swappedStores [.Tuple [.Name x px, .Name y py] kt pt] (.Tuple [a, b] k2 pt2) X.env = pure (some [x, y]) := by rfl)
    (hs : swapsWithSole [.Tuple [.Name x px, .Name y py] kt pt] (.Tuple [a, b] k2 pt2) pos.line X.env = pure false := by rfl) :
    DS X E (.Assign [.Tuple [.Name x px, .Name y py] kt pt] (.Tuple [a, b] k2 pt2) pos) (sParO i j fa fb) := by
  refine ⟨PS.weak (ps_par hc hN hi hj hij hx hy (pa_cons ha.pe (pa_cons hb.pe pa_nil he2) he) hw hs) fun Dn σ H ⟨τ, A0, P, ρ, S, c⟩ => ⟨τ, A0, P, ρ, S, ?_⟩⟩
  unfold sParO at c
  cases q : fa ρ with
  | err cc d => rw [q] at c; exact c
  | st => rw [q] at c; exact c
  | ok wa ρ1 =>
    rw [q] at c
    cases wa with
    | pu d => exact c.elim
    | frs ds1 =>
      dsimp only at c
      intro p xs H1 P1 t1 hn np nA S1 hl r1
      refine ⟨τ, p :: A0, P1, ρ1, S1, ?_⟩
      cases q2 : fb ρ1 with
      | err cc d => rw [q2] at c; exact fun dx u H2 P2 t2 hx2 hr => c dx u H2 P2 (t1.trans t2) ⟨t1.al _ hx2.1, hx2.2⟩ (hr.ext (hid_less fun a z => by
          rcases List.mem_append.mp z with z | z
          · exact List.mem_append_left _ z
          · exact List.mem_append_right _ (List.mem_cons_of_mem _ z)))
      | st => rw [q2] at c; exact c
      | ok wb ρ2 =>
        rw [q2] at c
        cases wb with
        | pu d => exact c.elim
        | frs ds2 =>
          dsimp only at c
          by_cases hnn : noN ρ2 = true ∧ noN (ρ2.set j (some (.own 0 ds2))) = true
          rotate_left
          · rw [if_neg hnn] at c; exact c.elim
          rw [if_pos hnn] at c
          intro q' ys H2 P2 t2 n n1 n2 S2 hl2 r2
          have T1 := S2.own_ n2 hl2 r2 j hnn.1
          have l1 : H2 p = some (.lst xs) := t2.kp p _ np hl (fun _ z => nomatch z)
          have r1' : Rps X.K (hid ((q' :: P2) ++ p :: A0) H2) xs ds1 := r1.ext fun a o z => by
            obtain ⟨m, z2⟩ := hid_of z
            rw [List.mem_append, not_or] at m
            refine hid_in (fun w => ?_) (t2.kp a o m.1 z2 (hid_nt z)) (hid_nt z)
            rcases List.mem_append.mp w with w | w
            · rcases List.mem_cons.mp w with w | w
              · rw [w, n] at z2; cases z2
              · rcases t2.nw a w with w | w
                · exact m.1 w
                · rw [w] at z2; cases z2
            · exact m.2 w
          have T2 := T1.own_ nA l1 r1' i hnn.2
          have hσ : (σ.set j (some (.ref q'))).set i (some (.ref p)) = (σ.set i (some (.ref p))).set j (some (.ref q')) := List.set_comm _ _ hij.symm
          rw [hσ] at T2
          refine ⟨.ref p, .ref q', rfl, c _ H2 (p :: q' :: P2) ⟨(t1.trans t2).kp, fun a z => ?_, (t1.trans t2).al, (t1.trans t2).tb⟩ T2⟩
          rcases List.mem_cons.mp z with z | z
          · exact .inr (by rw [z]; exact hn)
          · rcases List.mem_cons.mp z with z | z
            · exact .inr (by rw [z]; exact t1.al _ n)
            · exact (t1.trans t2).nw a z
end
end DL
/-! S6: defs that make lambdas. -/
namespace DL
open PySem L2 PyProof.Rows
/-- the table of a def's lambdas -/
structure MakT (K : PySem.W.Frag) (mg : Str → Option Value) (base : Heap) (x : Str) : Prop where
  TB : LamX.TabB base mg (He.cT K (x, none)).1 (He.cT K (x, none)).2
  hu : ∀ p ∈ TbK K, p.1 = (He.cT K (x, none)).2 → p.2 = x ++ ".<locals>." ++ "<lambda>"
section
variable {P : Program} {w : World} {K : PySem.W.Frag} {mg : Str → Option Value} {base : Heap}
theorem mk_of {x : Str} {N : List Str} {st : Stmt} {f : Addr} {A : Around} {outer : List PySem.Env} {s : Shared} {H : Hp} {E : XK} (Mt : MakT K mg base x) (h : ((He.cT K (x, none)).2, x ++ ".<locals>." ++ "<lambda>") ∈ TbK K) : Maker (fx P w K mg base N x st f (.ref (He.cT K (x, none)).1) A outer s H E) :=
  ⟨⟨_, _, Mt.TB, rfl, h, Mt.hu⟩, fun _ => rfl⟩
theorem Df_mkC {x : Str} {st : Stmt} {f : Addr} {fd : FuncData} {N ps : List Str} {k n : Nat} {g : DL.Env → RS} {cd : Addr} (F : FunD K x x (defArgs st) (defBody st) (defScope st) [] [] f fd) (hm : mg x = some (.ref f)) (S : FnScope N ps (defScope st)) (hn : N.length = n)
    (hb : ∀ (kV doc pm : Value) (an : Option Addr) (cdv ct : Value) (us : List Value), us.length = ps.length → bindArgs (PySem.W.fnOf x x (defArgs st) (defBody st) (defScope st) .none kV doc pm an cdv ct) ⟨us, []⟩ = pure (ps.zip us)) (hcd : fd.code = .ref cd)
    (hbody : ∀ (A : Around) (outer : List PySem.Env) (s : Shared) (H : Hp) (E : XK), Cn (fx P w K mg base N x st f (.ref cd) A outer s H E) E k → DSs (fx P w K mg base N x st f (.ref cd) A outer s H E) E (defBody st) g) :
    Df P w K mg base x st (k + 1) ps (fnF n g) := by
  obtain ⟨oc, od, kV, doc, pm, an, cdv, ct, osl, rfl, lk, hcd2⟩ := (Fun.ofD F).ex
  obtain rfl : cdv = .ref cd := hcd
  refine ⟨f, _, hm, ⟨fun A outer s H args us vs Q E hg hr e0 hb rv hl h => LamX.run_ofS lk hcd2 S hr e0 hb rv hl fun hr2 => ?_⟩, F.kp, hb kV doc pm an _ ct, kV, doc, pm, an, _, ct, rfl⟩
  exact ⟨_, (hbody A outer s H E ⟨hg, hr2, passes_call (W := fun cls d _ H => E cls d H) (takes_of rfl rfl rfl rfl) (fun _ _ _ _ h => h), takes_of rfl rfl rfl rfl, rfl⟩).pss, fnF_of hn h⟩
end
theorem mem_TbK {K : PySem.W.Frag} {x q q2 : Str} (h : ((x, none), q) ∈ lamDefs) (e : q2 = q) : ((He.cT K (x, none)).2, q2) ∈ TbK K := by
  subst e
  exact List.mem_map.mpr ⟨_, h, rfl⟩
end DL
/-! E1: the program's defs. -/
namespace K84
open PySem L2 PyProof.Rows DL
abbrev s_is_whole : Stmt := top 19
abbrev N_is_whole : List Str := ["value"]
theorem sc_is_whole : FnScope N_is_whole ["value"] (defScope s_is_whole) := ⟨rfl, rfl, rfl, by decide +kernel, rfl, by decide +kernel, by decide +kernel⟩
def g_is_whole : DL.Env → RS := sRet (fAnd (fOp1 (gIsi "int") (fVar 0)) (fNot (fOp1 (gIsi "bool") (fVar 0))))
def F_is_whole : List Sl → RF := fnF 1 (g_is_whole)
theorem b_is_whole {P : Program} {w : World} {K : PySem.W.Frag} {mg : Str → Option Value} {base : Heap} (B : Bl mg) {f : Addr} {cdv : Value} {A : Around} {outer : List PySem.Env} {s : Shared} {H : Hp} {E : XK} (c : Cn (fx P w K mg base N_is_whole "is_whole" s_is_whole f cdv A outer s H E) E 0) :
    DSs (fx P w K mg base N_is_whole "is_whole" s_is_whole f cdv A outer s H E) E (defBody s_is_whole) (g_is_whole) := by
  have nd := sc_is_whole.nd
  exact dss_one (ds_ret (de_and (d_isi B "int" "int" rfl B.int bt_int (de_var (pv 0))) (de_one (de_not (d_isi B "bool" "bool" rfl B.bool bt_bool (de_var (pv 0)))))))
theorem df_is_whole {P : Program} {w : World} {K : PySem.W.Frag} {mg : Str → Option Value} {base : Heap} (B : Bl mg) {f : Addr} {fd : FuncData} (F : FunD K "is_whole" "is_whole" (defArgs s_is_whole) (defBody s_is_whole) (defScope s_is_whole) [] [] f fd) (hm : mg "is_whole" = some (.ref f)) : Df P w K mg base "is_whole" s_is_whole 1 ["value"] (F_is_whole) :=
  Df.mk' F hm sc_is_whole rfl (fun _ _ _ _ _ _ us hl => match us, hl with | [_], _ => rfl) fun cdv A outer s H E c => b_is_whole B c

abbrev s_lowest : Stmt := top 20
abbrev N_lowest : List Str := ["number", "bottom", "common"]
theorem sc_lowest : FnScope N_lowest ["number", "bottom"] (defScope s_lowest) := ⟨rfl, rfl, rfl, by decide +kernel, rfl, by decide +kernel, by decide +kernel⟩
def g_lowest : DL.Env → RS := sSeq (sPut 2 (bndA (fCons (fVar 0) (fCons (fVar 1) (fNil))) gGcd)) (sSeq (sIf (fOp2 gLt (fVar 1) (fC (.int 0))) (sPut 2 (fOp1 gNeg (fVar 2))) (.nx)) (sRet (bndA (fCons (fOp2 gDiv (fVar 0) (fVar 2)) (fCons (fOp2 gDiv (fVar 1) (fVar 2)) (fNil))) gMkT)))
def F_lowest : List Sl → RF := fnF 3 (g_lowest)
theorem b_lowest {P : Program} {w : World} {K : PySem.W.Frag} {mg : Str → Option Value} {base : Heap} (B : Bl mg) (hgcd : mg "gcd" = some (.builtin "math.gcd")) {f : Addr} {cdv : Value} {A : Around} {outer : List PySem.Env} {s : Shared} {H : Hp} {E : XK} (c : Cn (fx P w K mg base N_lowest "lowest" s_lowest f cdv A outer s H E) E 0) :
    DSs (fx P w K mg base N_lowest "lowest" s_lowest f cdv A outer s H E) E (defBody s_lowest) (g_lowest) := by
  have nd := sc_lowest.nd
  exact dss_cons (ds_put (i := 2) nd rfl (by first | exact .inl rfl | exact .inr rfl) (de_gcd hgcd (da_cons (de_var (pv 0)) (da_cons (de_var (pv 1)) (da_nil)))))
    (dss_cons (ds_if (t_lt (de_var (pv 1)) (de_int)) (dss_one (ds_put (i := 2) nd rfl (by first | exact .inl rfl | exact .inr rfl) (d_neg (de_var (pv 2))))) (dss_nil))
    (dss_one (ds_ret (de_mkT (da_cons (d_div (de_var (pv 0)) (de_var (pv 2))) (da_cons (d_div (de_var (pv 1)) (de_var (pv 2))) (da_nil)))))))
theorem df_lowest {P : Program} {w : World} {K : PySem.W.Frag} {mg : Str → Option Value} {base : Heap} (B : Bl mg) (hgcd : mg "gcd" = some (.builtin "math.gcd")) {f : Addr} {fd : FuncData} (F : FunD K "lowest" "lowest" (defArgs s_lowest) (defBody s_lowest) (defScope s_lowest) [] [] f fd) (hm : mg "lowest" = some (.ref f)) : Df P w K mg base "lowest" s_lowest 1 ["number", "bottom"] (F_lowest) :=
  Df.mk' F hm sc_lowest rfl (fun _ _ _ _ _ _ us hl => match us, hl with | [_, _], _ => rfl) fun cdv A outer s H E c => b_lowest B hgcd c

abbrev s_plus : Stmt := top 21
abbrev N_plus : List Str := ["one", "other"]
theorem sc_plus : FnScope N_plus ["one", "other"] (defScope s_plus) := ⟨rfl, rfl, rfl, by decide +kernel, rfl, by decide +kernel, by decide +kernel⟩
def g_plus : DL.Env → RS := sRet (fCall 2 F_lowest (fCons (fOp2 gAdd (fOp2 gMul (fOp2 gIx (fVar 0) (fC (.int 0))) (fOp2 gIx (fVar 1) (fC (.int 1)))) (fOp2 gMul (fOp2 gIx (fVar 1) (fC (.int 0))) (fOp2 gIx (fVar 0) (fC (.int 1))))) (fCons (fOp2 gMul (fOp2 gIx (fVar 0) (fC (.int 1))) (fOp2 gIx (fVar 1) (fC (.int 1)))) (fNil))))
def F_plus : List Sl → RF := fnF 2 (g_plus)
theorem b_plus {P : Program} {w : World} {K : PySem.W.Frag} {mg : Str → Option Value} {base : Heap} (B : Bl mg) (d_lowest : Df P w K mg base "lowest" s_lowest 1 ["number", "bottom"] F_lowest) {f : Addr} {cdv : Value} {A : Around} {outer : List PySem.Env} {s : Shared} {H : Hp} {E : XK} (c : Cn (fx P w K mg base N_plus "plus" s_plus f cdv A outer s H E) E 1) :
    DSs (fx P w K mg base N_plus "plus" s_plus f cdv A outer s H E) E (defBody s_plus) (g_plus) := by
  have nd := sc_plus.nd
  exact dss_one (ds_ret (de_call d_lowest c (da_cons (d_add (d_mul (d_ix (de_var (pv 0)) (de_int)) (d_ix (de_var (pv 1)) (de_int))) (d_mul (d_ix (de_var (pv 1)) (de_int)) (d_ix (de_var (pv 0)) (de_int)))) (da_cons (d_mul (d_ix (de_var (pv 0)) (de_int)) (d_ix (de_var (pv 1)) (de_int))) (da_nil)))))
theorem df_plus {P : Program} {w : World} {K : PySem.W.Frag} {mg : Str → Option Value} {base : Heap} (B : Bl mg) (d_lowest : Df P w K mg base "lowest" s_lowest 1 ["number", "bottom"] F_lowest) {f : Addr} {fd : FuncData} (F : FunD K "plus" "plus" (defArgs s_plus) (defBody s_plus) (defScope s_plus) [] [] f fd) (hm : mg "plus" = some (.ref f)) : Df P w K mg base "plus" s_plus 2 ["one", "other"] (F_plus) :=
  Df.mk' F hm sc_plus rfl (fun _ _ _ _ _ _ us hl => match us, hl with | [_, _], _ => rfl) fun cdv A outer s H E c => b_plus B d_lowest c

abbrev s_total_of : Stmt := top 22
abbrev N_total_of : List Str := ["fractions", "whole", "fraction"]
theorem sc_total_of : FnScope N_total_of ["fractions"] (defScope s_total_of) := ⟨rfl, rfl, rfl, by decide +kernel, rfl, by decide +kernel, by decide +kernel⟩
def g_total_of : DL.Env → RS := sSeq (sPut 1 (bndA (fCons (fC (.int 0)) (fCons (fC (.int 1)) (fNil))) gMkT)) (sSeq (sFor (srcE (fVar 0) itemsL) (bName 2) (sPut 1 (fCall 2 F_plus (fCons (fVar 1) (fCons (fVar 2) (fNil)))))) (sRet (fVar 1)))
def F_total_of : List Sl → RF := fnF 3 (g_total_of)
theorem b_total_of {P : Program} {w : World} {K : PySem.W.Frag} {mg : Str → Option Value} {base : Heap} (B : Bl mg) (d_plus : Df P w K mg base "plus" s_plus 2 ["one", "other"] F_plus) {f : Addr} {cdv : Value} {A : Around} {outer : List PySem.Env} {s : Shared} {H : Hp} {E : XK} (c : Cn (fx P w K mg base N_total_of "total_of" s_total_of f cdv A outer s H E) E 2) :
    DSs (fx P w K mg base N_total_of "total_of" s_total_of f cdv A outer s H E) E (defBody s_total_of) (g_total_of) := by
  have nd := sc_total_of.nd
  exact dss_cons (ds_put (i := 1) nd rfl (by first | exact .inl rfl | exact .inr rfl) (de_mkT (da_cons (de_int) (da_cons (de_int) (da_nil)))))
    (dss_cons (ds_for (passes_of rfl) c.cm (di_list (de_var (pv 0))) (gt_name) (pg_name nd (i := 2) rfl (by first | exact .inl rfl | exact .inr rfl)) (dss_one (ds_put (i := 1) nd rfl (by first | exact .inl rfl | exact .inr rfl) (de_call d_plus c (da_cons (de_var (pv 1)) (da_cons (de_var (pv 2)) (da_nil)))))))
    (dss_one (ds_ret (de_var (pv 1)))))
theorem df_total_of {P : Program} {w : World} {K : PySem.W.Frag} {mg : Str → Option Value} {base : Heap} (B : Bl mg) (d_plus : Df P w K mg base "plus" s_plus 2 ["one", "other"] F_plus) {f : Addr} {fd : FuncData} (F : FunD K "total_of" "total_of" (defArgs s_total_of) (defBody s_total_of) (defScope s_total_of) [] [] f fd) (hm : mg "total_of" = some (.ref f)) : Df P w K mg base "total_of" s_total_of 3 ["fractions"] (F_total_of) :=
  Df.mk' F hm sc_total_of rfl (fun _ _ _ _ _ _ us hl => match us, hl with | [_], _ => rfl) fun cdv A outer s H E c => b_total_of B d_plus c

abbrev s_is_count : Stmt := top 24
abbrev N_is_count : List Str := ["value"]
theorem sc_is_count : FnScope N_is_count ["value"] (defScope s_is_count) := ⟨rfl, rfl, rfl, by decide +kernel, rfl, by decide +kernel, by decide +kernel⟩
def g_is_count : DL.Env → RS := sRet (fAnd (fCall 1 F_is_whole (fCons (fVar 0) (fNil))) (fOp2 gGe (fVar 0) (fC (.int 0))))
def F_is_count : List Sl → RF := fnF 1 (g_is_count)
theorem b_is_count {P : Program} {w : World} {K : PySem.W.Frag} {mg : Str → Option Value} {base : Heap} (B : Bl mg) (d_is_whole : Df P w K mg base "is_whole" s_is_whole 1 ["value"] F_is_whole) {f : Addr} {cdv : Value} {A : Around} {outer : List PySem.Env} {s : Shared} {H : Hp} {E : XK} (c : Cn (fx P w K mg base N_is_count "is_count" s_is_count f cdv A outer s H E) E 1) :
    DSs (fx P w K mg base N_is_count "is_count" s_is_count f cdv A outer s H E) E (defBody s_is_count) (g_is_count) := by
  have nd := sc_is_count.nd
  exact dss_one (ds_ret (de_and (de_call d_is_whole c (da_cons (de_var (pv 0)) (da_nil))) (de_one (d_ge (de_var (pv 0)) (de_int)))))
theorem df_is_count {P : Program} {w : World} {K : PySem.W.Frag} {mg : Str → Option Value} {base : Heap} (B : Bl mg) (d_is_whole : Df P w K mg base "is_whole" s_is_whole 1 ["value"] F_is_whole) {f : Addr} {fd : FuncData} (F : FunD K "is_count" "is_count" (defArgs s_is_count) (defBody s_is_count) (defScope s_is_count) [] [] f fd) (hm : mg "is_count" = some (.ref f)) : Df P w K mg base "is_count" s_is_count 2 ["value"] (F_is_count) :=
  Df.mk' F hm sc_is_count rfl (fun _ _ _ _ _ _ us hl => match us, hl with | [_], _ => rfl) fun cdv A outer s H E c => b_is_count B d_is_whole c

abbrev s_check_weights : Stmt := top 28
abbrev N_check_weights : List Str := ["weights", "weight"]
theorem sc_check_weights : FnScope N_check_weights ["weights"] (defScope s_check_weights) := ⟨rfl, rfl, rfl, by decide +kernel, rfl, by decide +kernel, by decide +kernel⟩
def g_check_weights (ca : Str → Addr) : DL.Env → RS := sSeq (sIf (fOr (fNot (fOp1 (gIsi "list") (fVar 0))) (fNot (fChain gLe gLe (fC (.int 1)) (bndA (fCons (fVar 0) (fNil)) gLen) (fC (.int 30))))) (sRaise (ca "InvalidWeights") (fCons (fVar 0) (fNil))) (.nx)) (sIf (fOr (fOp2 gNe (fLc (srcE (fVar 0) itemsL) (bName 1) (fNot (fCall 1 F_is_count (fCons (fVar 1) (fNil)))) (fVar 1) [1]) (bndA (fNil) gMkL)) (fOp2 gEq (bndA (fCons (fVar 0) (fNil)) gSum) (fC (.int 0)))) (sRaise (ca "InvalidWeights") (fCons (fVar 0) (fNil))) (.nx))
def F_check_weights (ca : Str → Addr) : List Sl → RF := fnF 2 (g_check_weights ca)
theorem b_check_weights {P : Program} {w : World} {K : PySem.W.Frag} {mg : Str → Option Value} {base : Heap} {ca : Str → Addr} (B : Bl mg) (d_is_count : Df P w K mg base "is_count" s_is_count 2 ["value"] F_is_count) (x_InvalidWeights : DLX.ExT P K mg "InvalidWeights" (ca "InvalidWeights")) {t_MOST_WEIGHTS : Tok} (h_MOST_WEIGHTS : mg "MOST_WEIGHTS" = some (.int 30 t_MOST_WEIGHTS)) {f : Addr} {cdv : Value} {A : Around} {outer : List PySem.Env} {s : Shared} {H : Hp} {E : XK} (c : Cn (fx P w K mg base N_check_weights "check_weights" s_check_weights f cdv A outer s H E) E 2) :
    DSs (fx P w K mg base N_check_weights "check_weights" s_check_weights f cdv A outer s H E) E (defBody s_check_weights) (g_check_weights ca) := by
  have nd := sc_check_weights.nd
  exact dss_cons (ds_if (dt_w (dw_or (dt_not (dt_val (d_isi B "list" "list" rfl B.list bt_list (de_var (pv 0))))) (dw_or1 (dt_not (t_le2 (de_int) (d_len B (da_cons (de_var (pv 0)) (da_nil))) (de_globI h_MOST_WEIGHTS)))))) (dss_one (ds_raise x_InvalidWeights c (da_cons (de_var (pv 0)) (da_nil)))) (dss_nil))
    (dss_one (ds_if (dt_w (dw_or (t_ne c (de_lc (own := [("weight", 1)]) c.cm nd (di_list (de_var (pv 0))) (blkOk_by (by rfl)) (gt_name) (by decide) (fun _ _ _ _ _ => pg_name nd (i := 1) rfl (by first | exact .inl rfl | exact .inr rfl)) (fun _ _ _ _ _ => dts_one (dt_not (dt_val (de_call d_is_count c.blk (da_cons (de_var (pv 1)) (da_nil)))))) (fun _ _ _ _ _ => de_var (pv 1))) (de_mkL (da_nil))) (dw_or1 (t_eq c (d_sum c B (da_cons (de_var (pv 0)) (da_nil))) (de_int))))) (dss_one (ds_raise x_InvalidWeights c (da_cons (de_var (pv 0)) (da_nil)))) (dss_nil)))
theorem df_check_weights {P : Program} {w : World} {K : PySem.W.Frag} {mg : Str → Option Value} {base : Heap} {ca : Str → Addr} (B : Bl mg) (d_is_count : Df P w K mg base "is_count" s_is_count 2 ["value"] F_is_count) (x_InvalidWeights : DLX.ExT P K mg "InvalidWeights" (ca "InvalidWeights")) {t_MOST_WEIGHTS : Tok} (h_MOST_WEIGHTS : mg "MOST_WEIGHTS" = some (.int 30 t_MOST_WEIGHTS)) {f : Addr} {fd : FuncData} (F : FunD K "check_weights" "check_weights" (defArgs s_check_weights) (defBody s_check_weights) (defScope s_check_weights) [] [] f fd) (hm : mg "check_weights" = some (.ref f)) : Df P w K mg base "check_weights" s_check_weights 3 ["weights"] (F_check_weights ca) :=
  Df.mk' F hm sc_check_weights rfl (fun _ _ _ _ _ _ us hl => match us, hl with | [_], _ => rfl) fun cdv A outer s H E c => b_check_weights B d_is_count x_InvalidWeights h_MOST_WEIGHTS c

abbrev s_check_whole : Stmt := top 29
abbrev N_check_whole : List Str := ["weights", "number"]
theorem sc_check_whole : FnScope N_check_whole ["weights", "number"] (defScope s_check_whole) := ⟨rfl, rfl, rfl, by decide +kernel, rfl, by decide +kernel, by decide +kernel⟩
def g_check_whole (ca : Str → Addr) : DL.Env → RS := sSeq (sDrop (fCall 1 (F_check_weights ca) (fCons (fVar 0) (fNil)))) (sIf (fOr (fNot (fCall 1 F_is_whole (fCons (fVar 1) (fNil)))) (fNot (fChain gLe gLe (fC (.int 1)) (fVar 1) (fC (.int 1000000))))) (sRaise (ca "InvalidNumber") (fCons (fVar 1) (fNil))) (.nx))
def F_check_whole (ca : Str → Addr) : List Sl → RF := fnF 2 (g_check_whole ca)
theorem b_check_whole {P : Program} {w : World} {K : PySem.W.Frag} {mg : Str → Option Value} {base : Heap} {ca : Str → Addr} (B : Bl mg) (d_check_weights : Df P w K mg base "check_weights" s_check_weights 3 ["weights"] (F_check_weights ca)) (d_is_whole : Df P w K mg base "is_whole" s_is_whole 1 ["value"] F_is_whole) (x_InvalidNumber : DLX.ExT P K mg "InvalidNumber" (ca "InvalidNumber")) {t_MOST_NUMBER : Tok} (h_MOST_NUMBER : mg "MOST_NUMBER" = some (.int 1000000 t_MOST_NUMBER)) {f : Addr} {cdv : Value} {A : Around} {outer : List PySem.Env} {s : Shared} {H : Hp} {E : XK} (c : Cn (fx P w K mg base N_check_whole "check_whole" s_check_whole f cdv A outer s H E) E 3) :
    DSs (fx P w K mg base N_check_whole "check_whole" s_check_whole f cdv A outer s H E) E (defBody s_check_whole) (g_check_whole ca) := by
  have nd := sc_check_whole.nd
  exact dss_cons (ds_drop (de_call d_check_weights c (da_cons (de_var (pv 0)) (da_nil))))
    (dss_one (ds_if (dt_w (dw_or (dt_not (dt_val (de_call d_is_whole c (da_cons (de_var (pv 1)) (da_nil))))) (dw_or1 (dt_not (t_le2 (de_int) (de_var (pv 1)) (de_globI h_MOST_NUMBER)))))) (dss_one (ds_raise x_InvalidNumber c (da_cons (de_var (pv 1)) (da_nil)))) (dss_nil)))
theorem df_check_whole {P : Program} {w : World} {K : PySem.W.Frag} {mg : Str → Option Value} {base : Heap} {ca : Str → Addr} (B : Bl mg) (d_check_weights : Df P w K mg base "check_weights" s_check_weights 3 ["weights"] (F_check_weights ca)) (d_is_whole : Df P w K mg base "is_whole" s_is_whole 1 ["value"] F_is_whole) (x_InvalidNumber : DLX.ExT P K mg "InvalidNumber" (ca "InvalidNumber")) {t_MOST_NUMBER : Tok} (h_MOST_NUMBER : mg "MOST_NUMBER" = some (.int 1000000 t_MOST_NUMBER)) {f : Addr} {fd : FuncData} (F : FunD K "check_whole" "check_whole" (defArgs s_check_whole) (defBody s_check_whole) (defScope s_check_whole) [] [] f fd) (hm : mg "check_whole" = some (.ref f)) : Df P w K mg base "check_whole" s_check_whole 4 ["weights", "number"] (F_check_whole ca) :=
  Df.mk' F hm sc_check_whole rfl (fun _ _ _ _ _ _ us hl => match us, hl with | [_, _], _ => rfl) fun cdv A outer s H E c => b_check_whole B d_check_weights d_is_whole x_InvalidNumber h_MOST_NUMBER c

abbrev s_floors_of : Stmt := top 30
abbrev N_floors_of : List Str := ["weights", "number", "weight"]
theorem sc_floors_of : FnScope N_floors_of ["weights", "number"] (defScope s_floors_of) := ⟨rfl, rfl, rfl, by decide +kernel, rfl, by decide +kernel, by decide +kernel⟩
def g_floors_of : DL.Env → RS := sRet (fLc (srcE (fVar 0) itemsL) (bName 2) (fC (.bool true)) (fOp2 gDiv (fOp2 gMul (fVar 2) (fVar 1)) (bndA (fCons (fVar 0) (fNil)) gSum)) [2])
def F_floors_of : List Sl → RF := fnF 3 (g_floors_of)
theorem b_floors_of {P : Program} {w : World} {K : PySem.W.Frag} {mg : Str → Option Value} {base : Heap} (B : Bl mg) {f : Addr} {cdv : Value} {A : Around} {outer : List PySem.Env} {s : Shared} {H : Hp} {E : XK} (c : Cn (fx P w K mg base N_floors_of "floors_of" s_floors_of f cdv A outer s H E) E 0) :
    DSs (fx P w K mg base N_floors_of "floors_of" s_floors_of f cdv A outer s H E) E (defBody s_floors_of) (g_floors_of) := by
  have nd := sc_floors_of.nd
  exact dss_one (ds_ret (de_lc (own := [("weight", 2)]) c.cm nd (di_list (de_var (pv 0))) (blkOk_by (by rfl)) (gt_name) (by decide) (fun _ _ _ _ _ => pg_name nd (i := 2) rfl (by first | exact .inl rfl | exact .inr rfl)) (fun _ _ _ _ _ => dts_nil) (fun _ _ _ _ _ => d_div (d_mul (de_var (pv 2)) (de_var (pv 1))) (d_sum c.blk B (da_cons (de_var (pv 0)) (da_nil))))))
theorem df_floors_of {P : Program} {w : World} {K : PySem.W.Frag} {mg : Str → Option Value} {base : Heap} (B : Bl mg) {f : Addr} {fd : FuncData} (F : FunD K "floors_of" "floors_of" (defArgs s_floors_of) (defBody s_floors_of) (defScope s_floors_of) [] [] f fd) (hm : mg "floors_of" = some (.ref f)) : Df P w K mg base "floors_of" s_floors_of 1 ["weights", "number"] (F_floors_of) :=
  Df.mk' F hm sc_floors_of rfl (fun _ _ _ _ _ _ us hl => match us, hl with | [_, _], _ => rfl) fun cdv A outer s H E c => b_floors_of B c

abbrev s_rests_of : Stmt := top 31
abbrev N_rests_of : List Str := ["weights", "number", "weight"]
theorem sc_rests_of : FnScope N_rests_of ["weights", "number"] (defScope s_rests_of) := ⟨rfl, rfl, rfl, by decide +kernel, rfl, by decide +kernel, by decide +kernel⟩
def g_rests_of : DL.Env → RS := sRet (fLc (srcE (fVar 0) itemsL) (bName 2) (fC (.bool true)) (fOp2 gMod (fOp2 gMul (fVar 2) (fVar 1)) (bndA (fCons (fVar 0) (fNil)) gSum)) [2])
def F_rests_of : List Sl → RF := fnF 3 (g_rests_of)
theorem b_rests_of {P : Program} {w : World} {K : PySem.W.Frag} {mg : Str → Option Value} {base : Heap} (B : Bl mg) {f : Addr} {cdv : Value} {A : Around} {outer : List PySem.Env} {s : Shared} {H : Hp} {E : XK} (c : Cn (fx P w K mg base N_rests_of "rests_of" s_rests_of f cdv A outer s H E) E 0) :
    DSs (fx P w K mg base N_rests_of "rests_of" s_rests_of f cdv A outer s H E) E (defBody s_rests_of) (g_rests_of) := by
  have nd := sc_rests_of.nd
  exact dss_one (ds_ret (de_lc (own := [("weight", 2)]) c.cm nd (di_list (de_var (pv 0))) (blkOk_by (by rfl)) (gt_name) (by decide) (fun _ _ _ _ _ => pg_name nd (i := 2) rfl (by first | exact .inl rfl | exact .inr rfl)) (fun _ _ _ _ _ => dts_nil) (fun _ _ _ _ _ => d_mod (d_mul (de_var (pv 2)) (de_var (pv 1))) (d_sum c.blk B (da_cons (de_var (pv 0)) (da_nil))))))
theorem df_rests_of {P : Program} {w : World} {K : PySem.W.Frag} {mg : Str → Option Value} {base : Heap} (B : Bl mg) {f : Addr} {fd : FuncData} (F : FunD K "rests_of" "rests_of" (defArgs s_rests_of) (defBody s_rests_of) (defScope s_rests_of) [] [] f fd) (hm : mg "rests_of" = some (.ref f)) : Df P w K mg base "rests_of" s_rests_of 1 ["weights", "number"] (F_rests_of) :=
  Df.mk' F hm sc_rests_of rfl (fun _ _ _ _ _ _ us hl => match us, hl with | [_, _], _ => rfl) fun cdv A outer s H E c => b_rests_of B c

abbrev s_greatest_rests : Stmt := top 32
abbrev N_greatest_rests : List Str := ["weights", "number", "rests", "many"]
theorem sc_greatest_rests : FnScope N_greatest_rests ["weights", "number"] (defScope s_greatest_rests) := ⟨rfl, rfl, rfl, by decide +kernel, rfl, by decide +kernel, by decide +kernel⟩
def g_greatest_rests : DL.Env → RS := sSeq (sPut 2 (fCall 2 F_rests_of (fCons (fVar 0) (fCons (fVar 1) (fNil))))) (sSeq (sPut 3 (fOp2 gSub (fVar 1) (bndA (fCons (fCall 2 F_floors_of (fCons (fVar 0) (fCons (fVar 1) (fNil)))) (fNil)) gSum))) (sRet (fOp2 gCutH (fSortK (fCons (bndA (fCons (fVar 0) (fNil)) gLen) (fNil)) 2) (fVar 3))))
def F_greatest_rests : List Sl → RF := fnF 4 (g_greatest_rests)
theorem b_greatest_rests {P : Program} {w : World} {K : PySem.W.Frag} {mg : Str → Option Value} {base : Heap} (B : Bl mg) (d_rests_of : Df P w K mg base "rests_of" s_rests_of 1 ["weights", "number"] F_rests_of) (d_floors_of : Df P w K mg base "floors_of" s_floors_of 1 ["weights", "number"] F_floors_of) {f : Addr} {cdv : Value} {A : Around} {outer : List PySem.Env} {s : Shared} {H : Hp} {E : XK} (Mk : Maker (fx P w K mg base N_greatest_rests "greatest_rests" s_greatest_rests f cdv A outer s H E)) (c : Cn (fx P w K mg base N_greatest_rests "greatest_rests" s_greatest_rests f cdv A outer s H E) E 1) :
    DSs (fx P w K mg base N_greatest_rests "greatest_rests" s_greatest_rests f cdv A outer s H E) E (defBody s_greatest_rests) (g_greatest_rests) := by
  have nd := sc_greatest_rests.nd
  exact dss_cons (ds_put (i := 2) nd rfl (by first | exact .inl rfl | exact .inr rfl) (de_call d_rests_of c (da_cons (de_var (pv 0)) (da_cons (de_var (pv 1)) (da_nil)))))
    (dss_cons (ds_put (i := 3) nd rfl (by first | exact .inl rfl | exact .inr rfl) (d_sub (de_var (pv 1)) (d_sum c B (da_cons (de_call d_floors_of c (da_cons (de_var (pv 0)) (da_cons (de_var (pv 1)) (da_nil)))) (da_nil)))))
    (dss_one (ds_ret (de_cutH (de_sortK Mk B.sorted B.range c .neg (da_cons (d_len B (da_cons (de_var (pv 0)) (da_nil))) (da_nil)) (i := 2) rfl) (de_var (pv 3))))))
theorem df_greatest_rests {P : Program} {w : World} {K : PySem.W.Frag} {mg : Str → Option Value} {base : Heap} (B : Bl mg) (d_rests_of : Df P w K mg base "rests_of" s_rests_of 1 ["weights", "number"] F_rests_of) (d_floors_of : Df P w K mg base "floors_of" s_floors_of 1 ["weights", "number"] F_floors_of) {f : Addr} {fd : FuncData} (F : FunD K "greatest_rests" "greatest_rests" (defArgs s_greatest_rests) (defBody s_greatest_rests) (defScope s_greatest_rests) [] [] f fd) (hm : mg "greatest_rests" = some (.ref f)) (Mt : MakT K mg base "greatest_rests") (hcd : fd.code = .ref (He.cT K ("greatest_rests", none)).1) : Df P w K mg base "greatest_rests" s_greatest_rests 2 ["weights", "number"] (F_greatest_rests) :=
  Df_mkC F hm sc_greatest_rests rfl (fun _ _ _ _ _ _ us hl => match us, hl with | [_, _], _ => rfl) hcd fun A outer s H E c => b_greatest_rests B d_rests_of d_floors_of (mk_of Mt (mem_TbK (by first | exact .head _ | exact .tail _ (.head _) | exact .tail _ (.tail _ (.head _)) | exact .tail _ (.tail _ (.tail _ (.head _)))) (by first | rfl | decide))) c

abbrev s_made_shares : Stmt := top 33
abbrev N_made_shares : List Str := ["weights", "number", "raised", "at", "low"]
theorem sc_made_shares : FnScope N_made_shares ["weights", "number"] (defScope s_made_shares) := ⟨rfl, rfl, rfl, by decide +kernel, rfl, by decide +kernel, by decide +kernel⟩
def g_made_shares : DL.Env → RS := sSeq (sPut 2 (fCall 2 F_greatest_rests (fCons (fVar 0) (fCons (fVar 1) (fNil))))) (sRet (fLc (srcA (fCons (fCall 2 F_floors_of (fCons (fVar 0) (fCons (fVar 1) (fNil)))) (fNil)) kEnum) (bTup [bName 3, bName 4]) (fC (.bool true)) (fOp2 gAdd (fVar 4) (bndA (fCons (fOp2 gIn (fVar 3) (fVar 2)) (fNil)) gInt1)) [3, 4]))
def F_made_shares : List Sl → RF := fnF 5 (g_made_shares)
theorem b_made_shares {P : Program} {w : World} {K : PySem.W.Frag} {mg : Str → Option Value} {base : Heap} (B : Bl mg) (d_greatest_rests : Df P w K mg base "greatest_rests" s_greatest_rests 2 ["weights", "number"] F_greatest_rests) (d_floors_of : Df P w K mg base "floors_of" s_floors_of 1 ["weights", "number"] F_floors_of) {f : Addr} {cdv : Value} {A : Around} {outer : List PySem.Env} {s : Shared} {H : Hp} {E : XK} (c : Cn (fx P w K mg base N_made_shares "made_shares" s_made_shares f cdv A outer s H E) E 2) :
    DSs (fx P w K mg base N_made_shares "made_shares" s_made_shares f cdv A outer s H E) E (defBody s_made_shares) (g_made_shares) := by
  have nd := sc_made_shares.nd
  exact dss_cons (ds_put (i := 2) nd rfl (by first | exact .inl rfl | exact .inr rfl) (de_call d_greatest_rests c (da_cons (de_var (pv 0)) (da_cons (de_var (pv 1)) (da_nil)))))
    (dss_one (ds_ret (de_lc (own := [("at", 3), ("low", 4)]) c.cm nd (di_enum rfl B.enum (da_cons (de_call d_floors_of c (da_cons (de_var (pv 0)) (da_cons (de_var (pv 1)) (da_nil)))) (da_nil))) (blkOk_by (by rfl)) (gt_tup (gts_cons (gt_name) (gts_cons (gt_name) (gts_nil)))) (by decide) (fun _ _ _ _ _ => pg_tup c.blk.cm (pgs_cons (pg_name nd (i := 3) rfl (by first | exact .inl rfl | exact .inr rfl)) (pgs_cons (pg_name nd (i := 4) rfl (by first | exact .inl rfl | exact .inr rfl)) (pgs_nil)))) (fun _ _ _ _ _ => dts_nil) (fun _ _ _ _ _ => d_add (de_var (pv 4)) (d_int B (da_cons (d_in c.blk (de_var (pv 3)) (de_var (pv 2))) (da_nil)))))))
theorem df_made_shares {P : Program} {w : World} {K : PySem.W.Frag} {mg : Str → Option Value} {base : Heap} (B : Bl mg) (d_greatest_rests : Df P w K mg base "greatest_rests" s_greatest_rests 2 ["weights", "number"] F_greatest_rests) (d_floors_of : Df P w K mg base "floors_of" s_floors_of 1 ["weights", "number"] F_floors_of) {f : Addr} {fd : FuncData} (F : FunD K "made_shares" "made_shares" (defArgs s_made_shares) (defBody s_made_shares) (defScope s_made_shares) [] [] f fd) (hm : mg "made_shares" = some (.ref f)) : Df P w K mg base "made_shares" s_made_shares 3 ["weights", "number"] (F_made_shares) :=
  Df.mk' F hm sc_made_shares rfl (fun _ _ _ _ _ _ us hl => match us, hl with | [_, _], _ => rfl) fun cdv A outer s H E c => b_made_shares B d_greatest_rests d_floors_of c

abbrev s_shares_of : Stmt := top 34
abbrev N_shares_of : List Str := ["weights", "number"]
theorem sc_shares_of : FnScope N_shares_of ["weights", "number"] (defScope s_shares_of) := ⟨rfl, rfl, rfl, by decide +kernel, rfl, by decide +kernel, by decide +kernel⟩
def g_shares_of (ca : Str → Addr) : DL.Env → RS := sSeq (sDrop (fCall 2 (F_check_whole ca) (fCons (fVar 0) (fCons (fVar 1) (fNil))))) (sRet (fCall 2 F_made_shares (fCons (fVar 0) (fCons (fVar 1) (fNil)))))
def F_shares_of (ca : Str → Addr) : List Sl → RF := fnF 2 (g_shares_of ca)
theorem b_shares_of {P : Program} {w : World} {K : PySem.W.Frag} {mg : Str → Option Value} {base : Heap} {ca : Str → Addr} (B : Bl mg) (d_check_whole : Df P w K mg base "check_whole" s_check_whole 4 ["weights", "number"] (F_check_whole ca)) (d_made_shares : Df P w K mg base "made_shares" s_made_shares 3 ["weights", "number"] F_made_shares) {f : Addr} {cdv : Value} {A : Around} {outer : List PySem.Env} {s : Shared} {H : Hp} {E : XK} (c : Cn (fx P w K mg base N_shares_of "shares_of" s_shares_of f cdv A outer s H E) E 4) :
    DSs (fx P w K mg base N_shares_of "shares_of" s_shares_of f cdv A outer s H E) E (defBody s_shares_of) (g_shares_of ca) := by
  have nd := sc_shares_of.nd
  exact dss_cons (ds_drop (de_call d_check_whole c (da_cons (de_var (pv 0)) (da_cons (de_var (pv 1)) (da_nil)))))
    (dss_one (ds_ret (de_call d_made_shares c (da_cons (de_var (pv 0)) (da_cons (de_var (pv 1)) (da_nil))))))
theorem df_shares_of {P : Program} {w : World} {K : PySem.W.Frag} {mg : Str → Option Value} {base : Heap} {ca : Str → Addr} (B : Bl mg) (d_check_whole : Df P w K mg base "check_whole" s_check_whole 4 ["weights", "number"] (F_check_whole ca)) (d_made_shares : Df P w K mg base "made_shares" s_made_shares 3 ["weights", "number"] F_made_shares) {f : Addr} {fd : FuncData} (F : FunD K "shares_of" "shares_of" (defArgs s_shares_of) (defBody s_shares_of) (defScope s_shares_of) [] [] f fd) (hm : mg "shares_of" = some (.ref f)) : Df P w K mg base "shares_of" s_shares_of 5 ["weights", "number"] (F_shares_of ca) :=
  Df.mk' F hm sc_shares_of rfl (fun _ _ _ _ _ _ us hl => match us, hl with | [_, _], _ => rfl) fun cdv A outer s H E c => b_shares_of B d_check_whole d_made_shares c

abbrev s_are_counts_of : Stmt := top 35
abbrev N_are_counts_of : List Str := ["many", "number", "value", "one"]
theorem sc_are_counts_of : FnScope N_are_counts_of ["many", "number", "value"] (defScope s_are_counts_of) := ⟨rfl, rfl, rfl, by decide +kernel, rfl, by decide +kernel, by decide +kernel⟩
def g_are_counts_of : DL.Env → RS := sSeq (sIf (fOr (fNot (fOp1 (gIsi "list") (fVar 2))) (fOr (fOp2 gNe (bndA (fCons (fVar 2) (fNil)) gLen) (fVar 0)) (fOp2 gNe (fLc (srcE (fVar 2) itemsL) (bName 3) (fNot (fCall 1 F_is_count (fCons (fVar 3) (fNil)))) (fVar 3) [3]) (bndA (fNil) gMkL)))) (sRet (fC (.bool false))) (.nx)) (sRet (fOp2 gEq (bndA (fCons (fVar 2) (fNil)) gSum) (fVar 1)))
def F_are_counts_of : List Sl → RF := fnF 4 (g_are_counts_of)
theorem b_are_counts_of {P : Program} {w : World} {K : PySem.W.Frag} {mg : Str → Option Value} {base : Heap} (B : Bl mg) (d_is_count : Df P w K mg base "is_count" s_is_count 2 ["value"] F_is_count) {f : Addr} {cdv : Value} {A : Around} {outer : List PySem.Env} {s : Shared} {H : Hp} {E : XK} (c : Cn (fx P w K mg base N_are_counts_of "are_counts_of" s_are_counts_of f cdv A outer s H E) E 2) :
    DSs (fx P w K mg base N_are_counts_of "are_counts_of" s_are_counts_of f cdv A outer s H E) E (defBody s_are_counts_of) (g_are_counts_of) := by
  have nd := sc_are_counts_of.nd
  exact dss_cons (ds_if (dt_w (dw_or (dt_not (dt_val (d_isi B "list" "list" rfl B.list bt_list (de_var (pv 2))))) (dw_or (t_ne c (d_len B (da_cons (de_var (pv 2)) (da_nil))) (de_var (pv 0))) (dw_or1 (t_ne c (de_lc (own := [("one", 3)]) c.cm nd (di_list (de_var (pv 2))) (blkOk_by (by rfl)) (gt_name) (by decide) (fun _ _ _ _ _ => pg_name nd (i := 3) rfl (by first | exact .inl rfl | exact .inr rfl)) (fun _ _ _ _ _ => dts_one (dt_not (dt_val (de_call d_is_count c.blk (da_cons (de_var (pv 3)) (da_nil)))))) (fun _ _ _ _ _ => de_var (pv 3))) (de_mkL (da_nil))))))) (dss_one (ds_ret (de_bl))) (dss_nil))
    (dss_one (ds_ret (d_eq c.rm.units (d_sum c B (da_cons (de_var (pv 2)) (da_nil))) (de_var (pv 1)))))
theorem df_are_counts_of {P : Program} {w : World} {K : PySem.W.Frag} {mg : Str → Option Value} {base : Heap} (B : Bl mg) (d_is_count : Df P w K mg base "is_count" s_is_count 2 ["value"] F_is_count) {f : Addr} {fd : FuncData} (F : FunD K "are_counts_of" "are_counts_of" (defArgs s_are_counts_of) (defBody s_are_counts_of) (defScope s_are_counts_of) [] [] f fd) (hm : mg "are_counts_of" = some (.ref f)) : Df P w K mg base "are_counts_of" s_are_counts_of 3 ["many", "number", "value"] (F_are_counts_of) :=
  Df.mk' F hm sc_are_counts_of rfl (fun _ _ _ _ _ _ us hl => match us, hl with | [_, _, _], _ => rfl) fun cdv A outer s H E c => b_are_counts_of B d_is_count c

abbrev s_are_shares : Stmt := top 36
abbrev N_are_shares : List Str := ["weights", "number", "value", "floors", "rests", "at", "one"]
theorem sc_are_shares : FnScope N_are_shares ["weights", "number", "value"] (defScope s_are_shares) := ⟨rfl, rfl, rfl, by decide +kernel, rfl, by decide +kernel, by decide +kernel⟩
def g_are_shares (ca : Str → Addr) : DL.Env → RS := sSeq (sDrop (fCall 2 (F_check_whole ca) (fCons (fVar 0) (fCons (fVar 1) (fNil))))) (sSeq (sIf (fNot (fCall 3 F_are_counts_of (fCons (bndA (fCons (fVar 0) (fNil)) gLen) (fCons (fVar 1) (fCons (fVar 2) (fNil)))))) (sRet (fC (.bool false))) (.nx)) (sSeq (sPut 3 (fCall 2 F_floors_of (fCons (fVar 0) (fCons (fVar 1) (fNil))))) (sSeq (sPut 4 (fCall 2 F_rests_of (fCons (fVar 0) (fCons (fVar 1) (fNil))))) (sRet (fOp2 gEq (fLc (srcA (fCons (fVar 2) (fNil)) kEnum) (bTup [bName 5, bName 6]) (fAnd (fOp2 gNe (fVar 6) (fOp2 gIx (fVar 3) (fVar 5))) (fOr (fOp2 gNe (fVar 6) (fOp2 gAdd (fOp2 gIx (fVar 3) (fVar 5)) (fC (.int 1)))) (fOp2 gEq (fOp2 gIx (fVar 4) (fVar 5)) (fC (.int 0))))) (fVar 5) [5, 6]) (bndA (fNil) gMkL))))))
def F_are_shares (ca : Str → Addr) : List Sl → RF := fnF 7 (g_are_shares ca)
theorem b_are_shares {P : Program} {w : World} {K : PySem.W.Frag} {mg : Str → Option Value} {base : Heap} {ca : Str → Addr} (B : Bl mg) (d_check_whole : Df P w K mg base "check_whole" s_check_whole 4 ["weights", "number"] (F_check_whole ca)) (d_are_counts_of : Df P w K mg base "are_counts_of" s_are_counts_of 3 ["many", "number", "value"] F_are_counts_of) (d_floors_of : Df P w K mg base "floors_of" s_floors_of 1 ["weights", "number"] F_floors_of) (d_rests_of : Df P w K mg base "rests_of" s_rests_of 1 ["weights", "number"] F_rests_of) {f : Addr} {cdv : Value} {A : Around} {outer : List PySem.Env} {s : Shared} {H : Hp} {E : XK} (c : Cn (fx P w K mg base N_are_shares "are_shares" s_are_shares f cdv A outer s H E) E 4) :
    DSs (fx P w K mg base N_are_shares "are_shares" s_are_shares f cdv A outer s H E) E (defBody s_are_shares) (g_are_shares ca) := by
  have nd := sc_are_shares.nd
  exact dss_cons (ds_drop (de_call d_check_whole c (da_cons (de_var (pv 0)) (da_cons (de_var (pv 1)) (da_nil)))))
    (dss_cons (ds_if (dt_not (dt_val (de_call d_are_counts_of c (da_cons (d_len B (da_cons (de_var (pv 0)) (da_nil))) (da_cons (de_var (pv 1)) (da_cons (de_var (pv 2)) (da_nil))))))) (dss_one (ds_ret (de_bl))) (dss_nil))
    (dss_cons (ds_put (i := 3) nd rfl (by first | exact .inl rfl | exact .inr rfl) (de_call d_floors_of c (da_cons (de_var (pv 0)) (da_cons (de_var (pv 1)) (da_nil)))))
    (dss_cons (ds_put (i := 4) nd rfl (by first | exact .inl rfl | exact .inr rfl) (de_call d_rests_of c (da_cons (de_var (pv 0)) (da_cons (de_var (pv 1)) (da_nil)))))
    (dss_one (ds_ret (d_eq c.rm.units (de_lc (own := [("at", 5), ("one", 6)]) c.cm nd (di_enum rfl B.enum (da_cons (de_var (pv 2)) (da_nil))) (blkOk_by (by rfl)) (gt_tup (gts_cons (gt_name) (gts_cons (gt_name) (gts_nil)))) (by decide) (fun _ _ _ _ _ => pg_tup c.blk.cm (pgs_cons (pg_name nd (i := 5) rfl (by first | exact .inl rfl | exact .inr rfl)) (pgs_cons (pg_name nd (i := 6) rfl (by first | exact .inl rfl | exact .inr rfl)) (pgs_nil)))) (fun _ _ _ _ _ => dts_one (dt_w (dw_and (t_ne c.blk (de_var (pv 6)) (d_ix (de_var (pv 3)) (de_var (pv 5)))) (dw_and1 (dt_w (dw_or (t_ne c.blk (de_var (pv 6)) (d_add (d_ix (de_var (pv 3)) (de_var (pv 5))) (de_int))) (dw_or1 (t_eq c.blk (d_ix (de_var (pv 4)) (de_var (pv 5))) (de_int))))))))) (fun _ _ _ _ _ => de_var (pv 5))) (de_mkL (da_nil))))))))
theorem df_are_shares {P : Program} {w : World} {K : PySem.W.Frag} {mg : Str → Option Value} {base : Heap} {ca : Str → Addr} (B : Bl mg) (d_check_whole : Df P w K mg base "check_whole" s_check_whole 4 ["weights", "number"] (F_check_whole ca)) (d_are_counts_of : Df P w K mg base "are_counts_of" s_are_counts_of 3 ["many", "number", "value"] F_are_counts_of) (d_floors_of : Df P w K mg base "floors_of" s_floors_of 1 ["weights", "number"] F_floors_of) (d_rests_of : Df P w K mg base "rests_of" s_rests_of 1 ["weights", "number"] F_rests_of) {f : Addr} {fd : FuncData} (F : FunD K "are_shares" "are_shares" (defArgs s_are_shares) (defBody s_are_shares) (defScope s_are_shares) [] [] f fd) (hm : mg "are_shares" = some (.ref f)) : Df P w K mg base "are_shares" s_are_shares 5 ["weights", "number", "value"] (F_are_shares ca) :=
  Df.mk' F hm sc_are_shares rfl (fun _ _ _ _ _ _ us hl => match us, hl with | [_, _, _], _ => rfl) fun cdv A outer s H E c => b_are_shares B d_check_whole d_are_counts_of d_floors_of d_rests_of c

abbrev s_chosen_of : Stmt := top 37
abbrev N_chosen_of : List Str := ["many", "some", "ways", "at"]
theorem sc_chosen_of : FnScope N_chosen_of ["many", "some"] (defScope s_chosen_of) := ⟨rfl, rfl, rfl, by decide +kernel, rfl, by decide +kernel, by decide +kernel⟩
def g_chosen_of : DL.Env → RS := sSeq (sPut 2 (fC (.int 1))) (sSeq (sFor (srcA (fCons (fVar 1) (fNil)) kRng1) (bName 3) (sPut 2 (fOp2 gDiv (fOp2 gMul (fVar 2) (fOp2 gSub (fVar 0) (fVar 3))) (fOp2 gAdd (fVar 3) (fC (.int 1)))))) (sRet (fVar 2)))
def F_chosen_of : List Sl → RF := fnF 4 (g_chosen_of)
theorem b_chosen_of {P : Program} {w : World} {K : PySem.W.Frag} {mg : Str → Option Value} {base : Heap} (B : Bl mg) {f : Addr} {cdv : Value} {A : Around} {outer : List PySem.Env} {s : Shared} {H : Hp} {E : XK} (c : Cn (fx P w K mg base N_chosen_of "chosen_of" s_chosen_of f cdv A outer s H E) E 0) :
    DSs (fx P w K mg base N_chosen_of "chosen_of" s_chosen_of f cdv A outer s H E) E (defBody s_chosen_of) (g_chosen_of) := by
  have nd := sc_chosen_of.nd
  exact dss_cons (ds_put (i := 2) nd rfl (by first | exact .inl rfl | exact .inr rfl) (de_int))
    (dss_cons (ds_for (passes_of rfl) c.cm (di_rng1 rfl B.range (da_cons (de_var (pv 1)) (da_nil))) (gt_name) (pg_name nd (i := 3) rfl (by first | exact .inl rfl | exact .inr rfl)) (dss_one (ds_put (i := 2) nd rfl (by first | exact .inl rfl | exact .inr rfl) (d_div (d_mul (de_var (pv 2)) (d_sub (de_var (pv 0)) (de_var (pv 3)))) (d_add (de_var (pv 3)) (de_int))))))
    (dss_one (ds_ret (de_var (pv 2)))))
theorem df_chosen_of {P : Program} {w : World} {K : PySem.W.Frag} {mg : Str → Option Value} {base : Heap} (B : Bl mg) {f : Addr} {fd : FuncData} (F : FunD K "chosen_of" "chosen_of" (defArgs s_chosen_of) (defBody s_chosen_of) (defScope s_chosen_of) [] [] f fd) (hm : mg "chosen_of" = some (.ref f)) : Df P w K mg base "chosen_of" s_chosen_of 1 ["many", "some"] (F_chosen_of) :=
  Df.mk' F hm sc_chosen_of rfl (fun _ _ _ _ _ _ us hl => match us, hl with | [_, _], _ => rfl) fun cdv A outer s H E c => b_chosen_of B c

abbrev s_share_count : Stmt := top 38
abbrev N_share_count : List Str := ["weights", "number", "broken", "rest"]
theorem sc_share_count : FnScope N_share_count ["weights", "number"] (defScope s_share_count) := ⟨rfl, rfl, rfl, by decide +kernel, rfl, by decide +kernel, by decide +kernel⟩
def g_share_count (ca : Str → Addr) : DL.Env → RS := sSeq (sDrop (fCall 2 (F_check_whole ca) (fCons (fVar 0) (fCons (fVar 1) (fNil))))) (sSeq (sPut 2 (bndA (fCons (fLc (srcE (fCall 2 F_rests_of (fCons (fVar 0) (fCons (fVar 1) (fNil)))) itemsL) (bName 3) (fOp2 gGt (fVar 3) (fC (.int 0))) (fVar 3) [3]) (fNil)) gLen)) (sRet (fCall 2 F_chosen_of (fCons (fVar 2) (fCons (fOp2 gSub (fVar 1) (bndA (fCons (fCall 2 F_floors_of (fCons (fVar 0) (fCons (fVar 1) (fNil)))) (fNil)) gSum)) (fNil))))))
def F_share_count (ca : Str → Addr) : List Sl → RF := fnF 4 (g_share_count ca)
theorem b_share_count {P : Program} {w : World} {K : PySem.W.Frag} {mg : Str → Option Value} {base : Heap} {ca : Str → Addr} (B : Bl mg) (d_check_whole : Df P w K mg base "check_whole" s_check_whole 4 ["weights", "number"] (F_check_whole ca)) (d_rests_of : Df P w K mg base "rests_of" s_rests_of 1 ["weights", "number"] F_rests_of) (d_chosen_of : Df P w K mg base "chosen_of" s_chosen_of 1 ["many", "some"] F_chosen_of) (d_floors_of : Df P w K mg base "floors_of" s_floors_of 1 ["weights", "number"] F_floors_of) {f : Addr} {cdv : Value} {A : Around} {outer : List PySem.Env} {s : Shared} {H : Hp} {E : XK} (c : Cn (fx P w K mg base N_share_count "share_count" s_share_count f cdv A outer s H E) E 4) :
    DSs (fx P w K mg base N_share_count "share_count" s_share_count f cdv A outer s H E) E (defBody s_share_count) (g_share_count ca) := by
  have nd := sc_share_count.nd
  exact dss_cons (ds_drop (de_call d_check_whole c (da_cons (de_var (pv 0)) (da_cons (de_var (pv 1)) (da_nil)))))
    (dss_cons (ds_put (i := 2) nd rfl (by first | exact .inl rfl | exact .inr rfl) (d_len B (da_cons (de_lc (own := [("rest", 3)]) c.cm nd (di_list (de_call d_rests_of c (da_cons (de_var (pv 0)) (da_cons (de_var (pv 1)) (da_nil))))) (blkOk_by (by rfl)) (gt_name) (by decide) (fun _ _ _ _ _ => pg_name nd (i := 3) rfl (by first | exact .inl rfl | exact .inr rfl)) (fun _ _ _ _ _ => dts_one (t_gt (de_var (pv 3)) (de_int))) (fun _ _ _ _ _ => de_var (pv 3))) (da_nil))))
    (dss_one (ds_ret (de_call d_chosen_of c (da_cons (de_var (pv 2)) (da_cons (d_sub (de_var (pv 1)) (d_sum c B (da_cons (de_call d_floors_of c (da_cons (de_var (pv 0)) (da_cons (de_var (pv 1)) (da_nil)))) (da_nil)))) (da_nil)))))))
theorem df_share_count {P : Program} {w : World} {K : PySem.W.Frag} {mg : Str → Option Value} {base : Heap} {ca : Str → Addr} (B : Bl mg) (d_check_whole : Df P w K mg base "check_whole" s_check_whole 4 ["weights", "number"] (F_check_whole ca)) (d_rests_of : Df P w K mg base "rests_of" s_rests_of 1 ["weights", "number"] F_rests_of) (d_chosen_of : Df P w K mg base "chosen_of" s_chosen_of 1 ["many", "some"] F_chosen_of) (d_floors_of : Df P w K mg base "floors_of" s_floors_of 1 ["weights", "number"] F_floors_of) {f : Addr} {fd : FuncData} (F : FunD K "share_count" "share_count" (defArgs s_share_count) (defBody s_share_count) (defScope s_share_count) [] [] f fd) (hm : mg "share_count" = some (.ref f)) : Df P w K mg base "share_count" s_share_count 5 ["weights", "number"] (F_share_count ca) :=
  Df.mk' F hm sc_share_count rfl (fun _ _ _ _ _ _ us hl => match us, hl with | [_, _], _ => rfl) fun cdv A outer s H E c => b_share_count B d_check_whole d_rests_of d_chosen_of d_floors_of c

abbrev s_missed : Stmt := top 39
abbrev N_missed : List Str := ["shares", "weights", "number", "total", "at", "one"]
theorem sc_missed : FnScope N_missed ["shares", "weights", "number"] (defScope s_missed) := ⟨rfl, rfl, rfl, by decide +kernel, rfl, by decide +kernel, by decide +kernel⟩
def g_missed (ca : Str → Addr) : DL.Env → RS := sSeq (sDrop (fCall 2 (F_check_whole ca) (fCons (fVar 1) (fCons (fVar 2) (fNil))))) (sSeq (sIf (fNot (fCall 3 F_are_counts_of (fCons (bndA (fCons (fVar 1) (fNil)) gLen) (fCons (fVar 2) (fCons (fVar 0) (fNil)))))) (sRaise (ca "InvalidTable") (fCons (fVar 0) (fNil))) (.nx)) (sSeq (sPut 3 (bndA (fCons (fVar 1) (fNil)) gSum)) (sRet (fCall 1 F_total_of (fCons (fLc (srcA (fCons (fVar 0) (fNil)) kEnum) (bTup [bName 4, bName 5]) (fC (.bool true)) (fCall 2 F_lowest (fCons (bndA (fCons (fOp2 gSub (fOp2 gMul (fVar 5) (fVar 3)) (fOp2 gMul (fOp2 gIx (fVar 1) (fVar 4)) (fVar 2))) (fNil)) gAbs) (fCons (fVar 3) (fNil)))) [4, 5]) (fNil))))))
def F_missed (ca : Str → Addr) : List Sl → RF := fnF 6 (g_missed ca)
theorem b_missed {P : Program} {w : World} {K : PySem.W.Frag} {mg : Str → Option Value} {base : Heap} {ca : Str → Addr} (B : Bl mg) (d_check_whole : Df P w K mg base "check_whole" s_check_whole 4 ["weights", "number"] (F_check_whole ca)) (d_are_counts_of : Df P w K mg base "are_counts_of" s_are_counts_of 3 ["many", "number", "value"] F_are_counts_of) (d_total_of : Df P w K mg base "total_of" s_total_of 3 ["fractions"] F_total_of) (d_lowest : Df P w K mg base "lowest" s_lowest 1 ["number", "bottom"] F_lowest) (x_InvalidTable : DLX.ExT P K mg "InvalidTable" (ca "InvalidTable")) {f : Addr} {cdv : Value} {A : Around} {outer : List PySem.Env} {s : Shared} {H : Hp} {E : XK} (c : Cn (fx P w K mg base N_missed "missed" s_missed f cdv A outer s H E) E 4) :
    DSs (fx P w K mg base N_missed "missed" s_missed f cdv A outer s H E) E (defBody s_missed) (g_missed ca) := by
  have nd := sc_missed.nd
  exact dss_cons (ds_drop (de_call d_check_whole c (da_cons (de_var (pv 1)) (da_cons (de_var (pv 2)) (da_nil)))))
    (dss_cons (ds_if (dt_not (dt_val (de_call d_are_counts_of c (da_cons (d_len B (da_cons (de_var (pv 1)) (da_nil))) (da_cons (de_var (pv 2)) (da_cons (de_var (pv 0)) (da_nil))))))) (dss_one (ds_raise x_InvalidTable c (da_cons (de_var (pv 0)) (da_nil)))) (dss_nil))
    (dss_cons (ds_put (i := 3) nd rfl (by first | exact .inl rfl | exact .inr rfl) (d_sum c B (da_cons (de_var (pv 1)) (da_nil))))
    (dss_one (ds_ret (de_call d_total_of c (da_cons (de_lc (own := [("at", 4), ("one", 5)]) c.cm nd (di_enum rfl B.enum (da_cons (de_var (pv 0)) (da_nil))) (blkOk_by (by rfl)) (gt_tup (gts_cons (gt_name) (gts_cons (gt_name) (gts_nil)))) (by decide) (fun _ _ _ _ _ => pg_tup c.blk.cm (pgs_cons (pg_name nd (i := 4) rfl (by first | exact .inl rfl | exact .inr rfl)) (pgs_cons (pg_name nd (i := 5) rfl (by first | exact .inl rfl | exact .inr rfl)) (pgs_nil)))) (fun _ _ _ _ _ => dts_nil) (fun _ _ _ _ _ => de_call d_lowest c.blk (da_cons (d_abs B (da_cons (d_sub (d_mul (de_var (pv 5)) (de_var (pv 3))) (d_mul (d_ix (de_var (pv 1)) (de_var (pv 4))) (de_var (pv 2)))) (da_nil))) (da_cons (de_var (pv 3)) (da_nil))))) (da_nil)))))))
theorem df_missed {P : Program} {w : World} {K : PySem.W.Frag} {mg : Str → Option Value} {base : Heap} {ca : Str → Addr} (B : Bl mg) (d_check_whole : Df P w K mg base "check_whole" s_check_whole 4 ["weights", "number"] (F_check_whole ca)) (d_are_counts_of : Df P w K mg base "are_counts_of" s_are_counts_of 3 ["many", "number", "value"] F_are_counts_of) (d_total_of : Df P w K mg base "total_of" s_total_of 3 ["fractions"] F_total_of) (d_lowest : Df P w K mg base "lowest" s_lowest 1 ["number", "bottom"] F_lowest) (x_InvalidTable : DLX.ExT P K mg "InvalidTable" (ca "InvalidTable")) {f : Addr} {fd : FuncData} (F : FunD K "missed" "missed" (defArgs s_missed) (defBody s_missed) (defScope s_missed) [] [] f fd) (hm : mg "missed" = some (.ref f)) : Df P w K mg base "missed" s_missed 5 ["shares", "weights", "number"] (F_missed ca) :=
  Df.mk' F hm sc_missed rfl (fun _ _ _ _ _ _ us hl => match us, hl with | [_, _, _], _ => rfl) fun cdv A outer s H E c => b_missed B d_check_whole d_are_counts_of d_total_of d_lowest x_InvalidTable c

abbrev s_nearest_to : Stmt := top 40
abbrev N_nearest_to : List Str := ["weights", "number", "total", "weight"]
theorem sc_nearest_to : FnScope N_nearest_to ["weights", "number"] (defScope s_nearest_to) := ⟨rfl, rfl, rfl, by decide +kernel, rfl, by decide +kernel, by decide +kernel⟩
def g_nearest_to : DL.Env → RS := sSeq (sPut 2 (bndA (fCons (fVar 0) (fNil)) gSum)) (sRet (fLc (srcE (fVar 0) itemsL) (bName 3) (fC (.bool true)) (fOp2 gDiv (fOp2 gAdd (fOp2 gMul (fOp2 gMul (fC (.int 2)) (fVar 3)) (fVar 1)) (fVar 2)) (fOp2 gMul (fC (.int 2)) (fVar 2))) [3]))
def F_nearest_to : List Sl → RF := fnF 4 (g_nearest_to)
theorem b_nearest_to {P : Program} {w : World} {K : PySem.W.Frag} {mg : Str → Option Value} {base : Heap} (B : Bl mg) {f : Addr} {cdv : Value} {A : Around} {outer : List PySem.Env} {s : Shared} {H : Hp} {E : XK} (c : Cn (fx P w K mg base N_nearest_to "nearest_to" s_nearest_to f cdv A outer s H E) E 0) :
    DSs (fx P w K mg base N_nearest_to "nearest_to" s_nearest_to f cdv A outer s H E) E (defBody s_nearest_to) (g_nearest_to) := by
  have nd := sc_nearest_to.nd
  exact dss_cons (ds_put (i := 2) nd rfl (by first | exact .inl rfl | exact .inr rfl) (d_sum c B (da_cons (de_var (pv 0)) (da_nil))))
    (dss_one (ds_ret (de_lc (own := [("weight", 3)]) c.cm nd (di_list (de_var (pv 0))) (blkOk_by (by rfl)) (gt_name) (by decide) (fun _ _ _ _ _ => pg_name nd (i := 3) rfl (by first | exact .inl rfl | exact .inr rfl)) (fun _ _ _ _ _ => dts_nil) (fun _ _ _ _ _ => d_div (d_add (d_mul (d_mul (de_int) (de_var (pv 3))) (de_var (pv 1))) (de_var (pv 2))) (d_mul (de_int) (de_var (pv 2)))))))
theorem df_nearest_to {P : Program} {w : World} {K : PySem.W.Frag} {mg : Str → Option Value} {base : Heap} (B : Bl mg) {f : Addr} {fd : FuncData} (F : FunD K "nearest_to" "nearest_to" (defArgs s_nearest_to) (defBody s_nearest_to) (defScope s_nearest_to) [] [] f fd) (hm : mg "nearest_to" = some (.ref f)) : Df P w K mg base "nearest_to" s_nearest_to 1 ["weights", "number"] (F_nearest_to) :=
  Df.mk' F hm sc_nearest_to rfl (fun _ _ _ _ _ _ us hl => match us, hl with | [_, _], _ => rfl) fun cdv A outer s H E c => b_nearest_to B c

abbrev s_plain_shares : Stmt := top 41
abbrev N_plain_shares : List Str := ["weights", "number"]
theorem sc_plain_shares : FnScope N_plain_shares ["weights", "number"] (defScope s_plain_shares) := ⟨rfl, rfl, rfl, by decide +kernel, rfl, by decide +kernel, by decide +kernel⟩
def g_plain_shares (ca : Str → Addr) : DL.Env → RS := sSeq (sDrop (fCall 2 (F_check_whole ca) (fCons (fVar 0) (fCons (fVar 1) (fNil))))) (sRet (fCall 2 F_nearest_to (fCons (fVar 0) (fCons (fVar 1) (fNil)))))
def F_plain_shares (ca : Str → Addr) : List Sl → RF := fnF 2 (g_plain_shares ca)
theorem b_plain_shares {P : Program} {w : World} {K : PySem.W.Frag} {mg : Str → Option Value} {base : Heap} {ca : Str → Addr} (B : Bl mg) (d_check_whole : Df P w K mg base "check_whole" s_check_whole 4 ["weights", "number"] (F_check_whole ca)) (d_nearest_to : Df P w K mg base "nearest_to" s_nearest_to 1 ["weights", "number"] F_nearest_to) {f : Addr} {cdv : Value} {A : Around} {outer : List PySem.Env} {s : Shared} {H : Hp} {E : XK} (c : Cn (fx P w K mg base N_plain_shares "plain_shares" s_plain_shares f cdv A outer s H E) E 4) :
    DSs (fx P w K mg base N_plain_shares "plain_shares" s_plain_shares f cdv A outer s H E) E (defBody s_plain_shares) (g_plain_shares ca) := by
  have nd := sc_plain_shares.nd
  exact dss_cons (ds_drop (de_call d_check_whole c (da_cons (de_var (pv 0)) (da_cons (de_var (pv 1)) (da_nil)))))
    (dss_one (ds_ret (de_call d_nearest_to c (da_cons (de_var (pv 0)) (da_cons (de_var (pv 1)) (da_nil))))))
theorem df_plain_shares {P : Program} {w : World} {K : PySem.W.Frag} {mg : Str → Option Value} {base : Heap} {ca : Str → Addr} (B : Bl mg) (d_check_whole : Df P w K mg base "check_whole" s_check_whole 4 ["weights", "number"] (F_check_whole ca)) (d_nearest_to : Df P w K mg base "nearest_to" s_nearest_to 1 ["weights", "number"] F_nearest_to) {f : Addr} {fd : FuncData} (F : FunD K "plain_shares" "plain_shares" (defArgs s_plain_shares) (defBody s_plain_shares) (defScope s_plain_shares) [] [] f fd) (hm : mg "plain_shares" = some (.ref f)) : Df P w K mg base "plain_shares" s_plain_shares 5 ["weights", "number"] (F_plain_shares ca) :=
  Df.mk' F hm sc_plain_shares rfl (fun _ _ _ _ _ _ us hl => match us, hl with | [_, _], _ => rfl) fun cdv A outer s H E c => b_plain_shares B d_check_whole d_nearest_to c

abbrev s_gap_of : Stmt := top 42
abbrev N_gap_of : List Str := ["weights", "number"]
theorem sc_gap_of : FnScope N_gap_of ["weights", "number"] (defScope s_gap_of) := ⟨rfl, rfl, rfl, by decide +kernel, rfl, by decide +kernel, by decide +kernel⟩
def g_gap_of (ca : Str → Addr) : DL.Env → RS := sSeq (sDrop (fCall 2 (F_check_whole ca) (fCons (fVar 0) (fCons (fVar 1) (fNil))))) (sRet (fOp2 gSub (bndA (fCons (fCall 2 F_nearest_to (fCons (fVar 0) (fCons (fVar 1) (fNil)))) (fNil)) gSum) (fVar 1)))
def F_gap_of (ca : Str → Addr) : List Sl → RF := fnF 2 (g_gap_of ca)
theorem b_gap_of {P : Program} {w : World} {K : PySem.W.Frag} {mg : Str → Option Value} {base : Heap} {ca : Str → Addr} (B : Bl mg) (d_check_whole : Df P w K mg base "check_whole" s_check_whole 4 ["weights", "number"] (F_check_whole ca)) (d_nearest_to : Df P w K mg base "nearest_to" s_nearest_to 1 ["weights", "number"] F_nearest_to) {f : Addr} {cdv : Value} {A : Around} {outer : List PySem.Env} {s : Shared} {H : Hp} {E : XK} (c : Cn (fx P w K mg base N_gap_of "gap_of" s_gap_of f cdv A outer s H E) E 4) :
    DSs (fx P w K mg base N_gap_of "gap_of" s_gap_of f cdv A outer s H E) E (defBody s_gap_of) (g_gap_of ca) := by
  have nd := sc_gap_of.nd
  exact dss_cons (ds_drop (de_call d_check_whole c (da_cons (de_var (pv 0)) (da_cons (de_var (pv 1)) (da_nil)))))
    (dss_one (ds_ret (d_sub (d_sum c B (da_cons (de_call d_nearest_to c (da_cons (de_var (pv 0)) (da_cons (de_var (pv 1)) (da_nil)))) (da_nil))) (de_var (pv 1)))))
theorem df_gap_of {P : Program} {w : World} {K : PySem.W.Frag} {mg : Str → Option Value} {base : Heap} {ca : Str → Addr} (B : Bl mg) (d_check_whole : Df P w K mg base "check_whole" s_check_whole 4 ["weights", "number"] (F_check_whole ca)) (d_nearest_to : Df P w K mg base "nearest_to" s_nearest_to 1 ["weights", "number"] F_nearest_to) {f : Addr} {fd : FuncData} (F : FunD K "gap_of" "gap_of" (defArgs s_gap_of) (defBody s_gap_of) (defScope s_gap_of) [] [] f fd) (hm : mg "gap_of" = some (.ref f)) : Df P w K mg base "gap_of" s_gap_of 5 ["weights", "number"] (F_gap_of ca) :=
  Df.mk' F hm sc_gap_of rfl (fun _ _ _ _ _ _ us hl => match us, hl with | [_, _], _ => rfl) fun cdv A outer s H E c => b_gap_of B d_check_whole d_nearest_to c

abbrev s_paradox : Stmt := top 43
abbrev N_paradox : List Str := ["weights", "number", "ahead", "at", "one"]
theorem sc_paradox : FnScope N_paradox ["weights", "number"] (defScope s_paradox) := ⟨rfl, rfl, rfl, by decide +kernel, rfl, by decide +kernel, by decide +kernel⟩
def g_paradox (ca : Str → Addr) : DL.Env → RS := sSeq (sDrop (fCall 2 (F_check_whole ca) (fCons (fVar 0) (fCons (fVar 1) (fNil))))) (sSeq (sPut 2 (fCall 2 F_made_shares (fCons (fVar 0) (fCons (fVar 1) (fNil))))) (sSeq (sFor (srcA (fCons (fCall 2 F_made_shares (fCons (fVar 0) (fCons (fOp2 gAdd (fVar 1) (fC (.int 1))) (fNil)))) (fNil)) kEnum) (bTup [bName 3, bName 4]) (sIf (fOp2 gLt (fVar 4) (fOp2 gIx (fVar 2) (fVar 3))) (sRet (fVar 3)) (.nx))) (sRet (fC .none))))
def F_paradox (ca : Str → Addr) : List Sl → RF := fnF 5 (g_paradox ca)
theorem b_paradox {P : Program} {w : World} {K : PySem.W.Frag} {mg : Str → Option Value} {base : Heap} {ca : Str → Addr} (B : Bl mg) (d_check_whole : Df P w K mg base "check_whole" s_check_whole 4 ["weights", "number"] (F_check_whole ca)) (d_made_shares : Df P w K mg base "made_shares" s_made_shares 3 ["weights", "number"] F_made_shares) {f : Addr} {cdv : Value} {A : Around} {outer : List PySem.Env} {s : Shared} {H : Hp} {E : XK} (c : Cn (fx P w K mg base N_paradox "paradox" s_paradox f cdv A outer s H E) E 4) :
    DSs (fx P w K mg base N_paradox "paradox" s_paradox f cdv A outer s H E) E (defBody s_paradox) (g_paradox ca) := by
  have nd := sc_paradox.nd
  exact dss_cons (ds_drop (de_call d_check_whole c (da_cons (de_var (pv 0)) (da_cons (de_var (pv 1)) (da_nil)))))
    (dss_cons (ds_put (i := 2) nd rfl (by first | exact .inl rfl | exact .inr rfl) (de_call d_made_shares c (da_cons (de_var (pv 0)) (da_cons (de_var (pv 1)) (da_nil)))))
    (dss_cons (ds_for (passes_of rfl) c.cm (di_enum rfl B.enum (da_cons (de_call d_made_shares c (da_cons (de_var (pv 0)) (da_cons (d_add (de_var (pv 1)) (de_int)) (da_nil)))) (da_nil))) (gt_tup (gts_cons (gt_name) (gts_cons (gt_name) (gts_nil)))) (pg_tup c.cm (pgs_cons (pg_name nd (i := 3) rfl (by first | exact .inl rfl | exact .inr rfl)) (pgs_cons (pg_name nd (i := 4) rfl (by first | exact .inl rfl | exact .inr rfl)) (pgs_nil)))) (dss_one (ds_if (t_lt (de_var (pv 4)) (d_ix (de_var (pv 2)) (de_var (pv 3)))) (dss_one (ds_ret (de_var (pv 3)))) (dss_nil))))
    (dss_one (ds_ret (de_non)))))
theorem df_paradox {P : Program} {w : World} {K : PySem.W.Frag} {mg : Str → Option Value} {base : Heap} {ca : Str → Addr} (B : Bl mg) (d_check_whole : Df P w K mg base "check_whole" s_check_whole 4 ["weights", "number"] (F_check_whole ca)) (d_made_shares : Df P w K mg base "made_shares" s_made_shares 3 ["weights", "number"] F_made_shares) {f : Addr} {fd : FuncData} (F : FunD K "paradox" "paradox" (defArgs s_paradox) (defBody s_paradox) (defScope s_paradox) [] [] f fd) (hm : mg "paradox" = some (.ref f)) : Df P w K mg base "paradox" s_paradox 5 ["weights", "number"] (F_paradox ca) :=
  Df.mk' F hm sc_paradox rfl (fun _ _ _ _ _ _ us hl => match us, hl with | [_, _], _ => rfl) fun cdv A outer s H E c => b_paradox B d_check_whole d_made_shares c

end K84
/-! E1b: the law's small defs. -/
namespace K84
open PySem L2 PyProof.Rows DL
abbrev s_l_hash : Stmt := top 45
abbrev N_l_hash : List Str := ["seed", "index", "mixed"]
theorem sc_l_hash : FnScope N_l_hash ["seed", "index"] (defScope s_l_hash) := ⟨rfl, rfl, rfl, by decide +kernel, rfl, by decide +kernel, by decide +kernel⟩
def g_l_hash : DL.Env → RS := sSeq (sPut 2 (fOp2 gMod (bndA (fCons (fOp2 gAdd (fOp2 gAdd (fOp2 gAdd (fOp2 gMul (fVar 0) (fC (.int 1140671))) (fOp2 gMul (fOp2 gMul (fC (.int 27644437)) (fVar 1)) (fVar 1))) (fOp2 gMul (fC (.int 131)) (fVar 1))) (fC (.int 19))) (fNil)) gInt1) (fC (.int 2147483629)))) (sSeq (sPut 2 (fOp2 gMod (bndA (fCons (fOp2 gAdd (fOp2 gAdd (fOp2 gMul (fVar 2) (fVar 2)) (fOp2 gMul (fC (.int 62089)) (fVar 1))) (fC (.int 32416187))) (fNil)) gInt1) (fC (.int 2147483587)))) (sRet (fOp2 gMod (bndA (fCons (fOp2 gMul (fVar 2) (fC (.int 48271))) (fNil)) gInt1) (fC (.int 2147483647)))))
def F_l_hash : List Sl → RF := fnF 3 (g_l_hash)
theorem b_l_hash {P : Program} {w : World} {K : PySem.W.Frag} {mg : Str → Option Value} {base : Heap} (B : Bl mg) {f : Addr} {cdv : Value} {A : Around} {outer : List PySem.Env} {s : Shared} {H : Hp} {E : XK} (c : Cn (fx P w K mg base N_l_hash "_law_hash" s_l_hash f cdv A outer s H E) E 0) :
    DSs (fx P w K mg base N_l_hash "_law_hash" s_l_hash f cdv A outer s H E) E (defBody s_l_hash) (g_l_hash) := by
  have nd := sc_l_hash.nd
  exact dss_cons (ds_put (i := 2) nd rfl (by first | exact .inl rfl | exact .inr rfl) (d_mod (d_int B (da_cons (d_add (d_add (d_add (d_mul (de_var (pv 0)) (de_int)) (d_mul (d_mul (de_int) (de_var (pv 1))) (de_var (pv 1)))) (d_mul (de_int) (de_var (pv 1)))) (de_int)) (da_nil))) (de_int)))
    (dss_cons (ds_put (i := 2) nd rfl (by first | exact .inl rfl | exact .inr rfl) (d_mod (d_int B (da_cons (d_add (d_add (d_mul (de_var (pv 2)) (de_var (pv 2))) (d_mul (de_int) (de_var (pv 1)))) (de_int)) (da_nil))) (de_int)))
    (dss_one (ds_ret (d_mod (d_int B (da_cons (d_mul (de_var (pv 2)) (de_int)) (da_nil))) (de_int)))))
theorem df_l_hash {P : Program} {w : World} {K : PySem.W.Frag} {mg : Str → Option Value} {base : Heap} (B : Bl mg) {f : Addr} {fd : FuncData} (F : FunD K "_law_hash" "_law_hash" (defArgs s_l_hash) (defBody s_l_hash) (defScope s_l_hash) [] [] f fd) (hm : mg "_law_hash" = some (.ref f)) : Df P w K mg base "_law_hash" s_l_hash 1 ["seed", "index"] (F_l_hash) :=
  Df.mk' F hm sc_l_hash rfl (fun _ _ _ _ _ _ us hl => match us, hl with | [_, _], _ => rfl) fun cdv A outer s H E c => b_l_hash B c

abbrev s_l_random : Stmt := top 46
abbrev N_l_random : List Str := ["generator", "bound", "drawn", "turn"]
theorem sc_l_random : FnScope N_l_random ["generator", "bound"] (defScope s_l_random) := ⟨rfl, rfl, rfl, by decide +kernel, rfl, by decide +kernel, by decide +kernel⟩
def g_l_random : DL.Env → RS := sSeq (sIf (fOp2 gGt (fIxO 0 (fC (.int 0))) (fC (.int 0))) (sSeq (sPut 2 (fOp2 gMod (bndA (fCons (fIxO 0 (fC (.int 0))) (fNil)) gInt1) (fVar 1))) (sSeq (sSetO 0 (fOp2 gDiv (fIxO 0 (fC (.int 0))) (fVar 1)) (fC (.int 0))) (sRet (fVar 2)))) (.nx)) (sSeq (sPut 2 (fC (.int 0))) (sSeq (sFor (srcA (fCons (fOp2 gAdd (fC (.int 1)) (fOp2 gDiv (fOp1 gBits (fVar 1)) (fC (.int 30)))) (fNil)) kRng1) (bName 3) (sSeq (sSetO 0 (fOp2 gAdd (fIxO 0 (fC (.int 2))) (fC (.int 1))) (fC (.int 2))) (sPut 2 (fOp2 gAdd (fOp2 gMul (fVar 2) (fC (.int 2147483587))) (fCall 2 F_l_hash (fCons (fIxO 0 (fC (.int 1))) (fCons (fIxO 0 (fC (.int 2))) (fNil)))))))) (sRet (fOp2 gMod (bndA (fCons (fVar 2) (fNil)) gInt1) (fVar 1)))))
def F_l_random : List Sl → RF := fnF 4 (g_l_random)
theorem b_l_random {P : Program} {w : World} {K : PySem.W.Frag} {mg : Str → Option Value} {base : Heap} (B : Bl mg) (d_l_hash : Df P w K mg base "_law_hash" s_l_hash 1 ["seed", "index"] F_l_hash) {f : Addr} {cdv : Value} {A : Around} {outer : List PySem.Env} {s : Shared} {H : Hp} {E : XK} (c : Cn (fx P w K mg base N_l_random "_law_random" s_l_random f cdv A outer s H E) E 1) :
    DSs (fx P w K mg base N_l_random "_law_random" s_l_random f cdv A outer s H E) E (defBody s_l_random) (g_l_random) := by
  have nd := sc_l_random.nd
  exact dss_cons (ds_if (t_gt (de_ixO (pv 0) (de_int)) (de_int)) (dss_cons (ds_put (i := 2) nd rfl (by first | exact .inl rfl | exact .inr rfl) (d_mod (d_int B (da_cons (de_ixO (pv 0) (de_int)) (da_nil))) (de_var (pv 1))))
    (dss_cons (ds_setO (pv 0) (d_div (de_ixO (pv 0) (de_int)) (de_var (pv 1))) (de_int))
    (dss_one (ds_ret (de_var (pv 2)))))) (dss_nil))
    (dss_cons (ds_put (i := 2) nd rfl (by first | exact .inl rfl | exact .inr rfl) (de_int))
    (dss_cons (ds_for (passes_of rfl) c.cm (di_rng1 rfl B.range (da_cons (d_add (de_int) (d_div (d_bits (de_var (pv 1))) (de_int))) (da_nil))) (gt_name) (pg_name nd (i := 3) rfl (by first | exact .inl rfl | exact .inr rfl)) (dss_cons (ds_setO (pv 0) (d_add (de_ixO (pv 0) (de_int)) (de_int)) (de_int))
    (dss_one (ds_put (i := 2) nd rfl (by first | exact .inl rfl | exact .inr rfl) (d_add (d_mul (de_var (pv 2)) (de_int)) (de_call d_l_hash c (da_cons (de_ixO (pv 0) (de_int)) (da_cons (de_ixO (pv 0) (de_int)) (da_nil)))))))))
    (dss_one (ds_ret (d_mod (d_int B (da_cons (de_var (pv 2)) (da_nil))) (de_var (pv 1)))))))
theorem df_l_random {P : Program} {w : World} {K : PySem.W.Frag} {mg : Str → Option Value} {base : Heap} (B : Bl mg) (d_l_hash : Df P w K mg base "_law_hash" s_l_hash 1 ["seed", "index"] F_l_hash) {f : Addr} {fd : FuncData} (F : FunD K "_law_random" "_law_random" (defArgs s_l_random) (defBody s_l_random) (defScope s_l_random) [] [] f fd) (hm : mg "_law_random" = some (.ref f)) : Df P w K mg base "_law_random" s_l_random 2 ["generator", "bound"] (F_l_random) :=
  Df.mk' F hm sc_l_random rfl (fun _ _ _ _ _ _ us hl => match us, hl with | [_, _], _ => rfl) fun cdv A outer s H E c => b_l_random B d_l_hash c

abbrev s_l_pick : Stmt := top 49
abbrev N_l_pick : List Str := ["generator", "things"]
theorem sc_l_pick : FnScope N_l_pick ["generator", "things"] (defScope s_l_pick) := ⟨rfl, rfl, rfl, by decide +kernel, rfl, by decide +kernel, by decide +kernel⟩
def g_l_pick : DL.Env → RS := sRet (fOp2 gIx (fVar 1) (fLend 2 0 F_l_random (fCons (bndA (fCons (fVar 1) (fNil)) gLen) (fNil))))
def F_l_pick : List Sl → RF := fnF 2 (g_l_pick)
theorem b_l_pick {P : Program} {w : World} {K : PySem.W.Frag} {mg : Str → Option Value} {base : Heap} (B : Bl mg) (d_l_random : Df P w K mg base "_law_random" s_l_random 2 ["generator", "bound"] F_l_random) {f : Addr} {cdv : Value} {A : Around} {outer : List PySem.Env} {s : Shared} {H : Hp} {E : XK} (c : Cn (fx P w K mg base N_l_pick "_law_pick" s_l_pick f cdv A outer s H E) E 2) :
    DSs (fx P w K mg base N_l_pick "_law_pick" s_l_pick f cdv A outer s H E) E (defBody s_l_pick) (g_l_pick) := by
  have nd := sc_l_pick.nd
  exact dss_one (ds_ret (d_ix (de_var (pv 1)) (de_lend d_l_random c (pv 0) (da_cons (d_len B (da_cons (de_var (pv 1)) (da_nil))) (da_nil)))))
theorem df_l_pick {P : Program} {w : World} {K : PySem.W.Frag} {mg : Str → Option Value} {base : Heap} (B : Bl mg) (d_l_random : Df P w K mg base "_law_random" s_l_random 2 ["generator", "bound"] F_l_random) {f : Addr} {fd : FuncData} (F : FunD K "_law_pick" "_law_pick" (defArgs s_l_pick) (defBody s_l_pick) (defScope s_l_pick) [] [] f fd) (hm : mg "_law_pick" = some (.ref f)) : Df P w K mg base "_law_pick" s_l_pick 3 ["generator", "things"] (F_l_pick) :=
  Df.mk' F hm sc_l_pick rfl (fun _ _ _ _ _ _ us hl => match us, hl with | [_, _], _ => rfl) fun cdv A outer s H E c => b_l_pick B d_l_random c

abbrev s_l_gcd : Stmt := top 51
abbrev N_l_gcd : List Str := ["one", "other", "turn"]
theorem sc_l_gcd : FnScope N_l_gcd ["one", "other"] (defScope s_l_gcd) := ⟨rfl, rfl, rfl, by decide +kernel, rfl, by decide +kernel, by decide +kernel⟩
def g_l_gcd : DL.Env → RS := sSeq (sPar 0 1 (bndA (fCons (fVar 0) (fNil)) gAbs) (bndA (fCons (fVar 1) (fNil)) gAbs)) (sSeq (sFor (srcA (fCons (fC (.int 100000)) (fNil)) kRng1) (bName 2) (sSeq (sIf (fOp2 gEq (fVar 1) (fC (.int 0))) (.bk) (.nx)) (sPar 0 1 (fVar 1) (fOp2 gMod (bndA (fCons (fVar 0) (fNil)) gInt1) (fVar 1))))) (sRet (fVar 0)))
def F_l_gcd : List Sl → RF := fnF 3 (g_l_gcd)
theorem b_l_gcd {P : Program} {w : World} {K : PySem.W.Frag} {mg : Str → Option Value} {base : Heap} (B : Bl mg) {f : Addr} {cdv : Value} {A : Around} {outer : List PySem.Env} {s : Shared} {H : Hp} {E : XK} (c : Cn (fx P w K mg base N_l_gcd "_law_gcd" s_l_gcd f cdv A outer s H E) E 0) :
    DSs (fx P w K mg base N_l_gcd "_law_gcd" s_l_gcd f cdv A outer s H E) E (defBody s_l_gcd) (g_l_gcd) := by
  have nd := sc_l_gcd.nd
  exact dss_cons (ds_par (i := 0) (j := 1) c.cm nd rfl rfl (by decide) rfl rfl (d_abs B (da_cons (de_var (pv 0)) (da_nil))) (d_abs B (da_cons (de_var (pv 1)) (da_nil))))
    (dss_cons (ds_for (passes_of rfl) c.cm (di_rng1 rfl B.range (da_cons (de_int) (da_nil))) (gt_name) (pg_name nd (i := 2) rfl (by first | exact .inl rfl | exact .inr rfl)) (dss_cons (ds_if (t_eq c (de_var (pv 1)) (de_int)) (dss_one (ds_break)) (dss_nil))
    (dss_one (ds_par (i := 0) (j := 1) c.cm nd rfl rfl (by decide) rfl rfl (de_var (pv 1)) (d_mod (d_int B (da_cons (de_var (pv 0)) (da_nil))) (de_var (pv 1)))))))
    (dss_one (ds_ret (de_var (pv 0)))))
theorem df_l_gcd {P : Program} {w : World} {K : PySem.W.Frag} {mg : Str → Option Value} {base : Heap} (B : Bl mg) {f : Addr} {fd : FuncData} (F : FunD K "_law_gcd" "_law_gcd" (defArgs s_l_gcd) (defBody s_l_gcd) (defScope s_l_gcd) [] [] f fd) (hm : mg "_law_gcd" = some (.ref f)) : Df P w K mg base "_law_gcd" s_l_gcd 1 ["one", "other"] (F_l_gcd) :=
  Df.mk' F hm sc_l_gcd rfl (fun _ _ _ _ _ _ us hl => match us, hl with | [_, _], _ => rfl) fun cdv A outer s H E c => b_l_gcd B c

abbrev s_l_low : Stmt := top 52
abbrev N_l_low : List Str := ["over", "under", "divisor"]
theorem sc_l_low : FnScope N_l_low ["over", "under"] (defScope s_l_low) := ⟨rfl, rfl, rfl, by decide +kernel, rfl, by decide +kernel, by decide +kernel⟩
def g_l_low : DL.Env → RS := sSeq (sPut 2 (fCall 2 F_l_gcd (fCons (fVar 0) (fCons (fVar 1) (fNil))))) (sRet (bndA (fCons (fOp2 gDiv (fVar 0) (fVar 2)) (fCons (fOp2 gDiv (fVar 1) (fVar 2)) (fNil))) gMkT))
def F_l_low : List Sl → RF := fnF 3 (g_l_low)
theorem b_l_low {P : Program} {w : World} {K : PySem.W.Frag} {mg : Str → Option Value} {base : Heap} (B : Bl mg) (d_l_gcd : Df P w K mg base "_law_gcd" s_l_gcd 1 ["one", "other"] F_l_gcd) {f : Addr} {cdv : Value} {A : Around} {outer : List PySem.Env} {s : Shared} {H : Hp} {E : XK} (c : Cn (fx P w K mg base N_l_low "_law_low" s_l_low f cdv A outer s H E) E 1) :
    DSs (fx P w K mg base N_l_low "_law_low" s_l_low f cdv A outer s H E) E (defBody s_l_low) (g_l_low) := by
  have nd := sc_l_low.nd
  exact dss_cons (ds_put (i := 2) nd rfl (by first | exact .inl rfl | exact .inr rfl) (de_call d_l_gcd c (da_cons (de_var (pv 0)) (da_cons (de_var (pv 1)) (da_nil)))))
    (dss_one (ds_ret (de_mkT (da_cons (d_div (de_var (pv 0)) (de_var (pv 2))) (da_cons (d_div (de_var (pv 1)) (de_var (pv 2))) (da_nil))))))
theorem df_l_low {P : Program} {w : World} {K : PySem.W.Frag} {mg : Str → Option Value} {base : Heap} (B : Bl mg) (d_l_gcd : Df P w K mg base "_law_gcd" s_l_gcd 1 ["one", "other"] F_l_gcd) {f : Addr} {fd : FuncData} (F : FunD K "_law_low" "_law_low" (defArgs s_l_low) (defBody s_l_low) (defScope s_l_low) [] [] f fd) (hm : mg "_law_low" = some (.ref f)) : Df P w K mg base "_law_low" s_l_low 2 ["over", "under"] (F_l_low) :=
  Df.mk' F hm sc_l_low rfl (fun _ _ _ _ _ _ us hl => match us, hl with | [_, _], _ => rfl) fun cdv A outer s H E c => b_l_low B d_l_gcd c

abbrev s_l_less : Stmt := top 53
abbrev N_l_less : List Str := ["one", "other"]
theorem sc_l_less : FnScope N_l_less ["one", "other"] (defScope s_l_less) := ⟨rfl, rfl, rfl, by decide +kernel, rfl, by decide +kernel, by decide +kernel⟩
def g_l_less : DL.Env → RS := sRet (fOp2 gLt (fOp2 gMul (fOp2 gIx (fVar 0) (fC (.int 0))) (fOp2 gIx (fVar 1) (fC (.int 1)))) (fOp2 gMul (fOp2 gIx (fVar 1) (fC (.int 0))) (fOp2 gIx (fVar 0) (fC (.int 1)))))
def F_l_less : List Sl → RF := fnF 2 (g_l_less)
theorem b_l_less {P : Program} {w : World} {K : PySem.W.Frag} {mg : Str → Option Value} {base : Heap} (B : Bl mg) {f : Addr} {cdv : Value} {A : Around} {outer : List PySem.Env} {s : Shared} {H : Hp} {E : XK} (c : Cn (fx P w K mg base N_l_less "_law_less" s_l_less f cdv A outer s H E) E 0) :
    DSs (fx P w K mg base N_l_less "_law_less" s_l_less f cdv A outer s H E) E (defBody s_l_less) (g_l_less) := by
  have nd := sc_l_less.nd
  exact dss_one (ds_ret (d_lt (d_mul (d_ix (de_var (pv 0)) (de_int)) (d_ix (de_var (pv 1)) (de_int))) (d_mul (d_ix (de_var (pv 1)) (de_int)) (d_ix (de_var (pv 0)) (de_int)))))
theorem df_l_less {P : Program} {w : World} {K : PySem.W.Frag} {mg : Str → Option Value} {base : Heap} (B : Bl mg) {f : Addr} {fd : FuncData} (F : FunD K "_law_less" "_law_less" (defArgs s_l_less) (defBody s_l_less) (defScope s_l_less) [] [] f fd) (hm : mg "_law_less" = some (.ref f)) : Df P w K mg base "_law_less" s_l_less 1 ["one", "other"] (F_l_less) :=
  Df.mk' F hm sc_l_less rfl (fun _ _ _ _ _ _ us hl => match us, hl with | [_, _], _ => rfl) fun cdv A outer s H E c => b_l_less B c

abbrev s_l_put : Stmt := top 54
abbrev N_l_put : List Str := ["things", "at", "thing"]
theorem sc_l_put : FnScope N_l_put ["things", "at", "thing"] (defScope s_l_put) := ⟨rfl, rfl, rfl, by decide +kernel, rfl, by decide +kernel, by decide +kernel⟩
def g_l_put : DL.Env → RS := sRet (fOp2 gAdd (fOp2 gAdd (fOp2 gCutH (fVar 0) (fVar 1)) (bndA (fCons (fVar 2) (fNil)) gMkL)) (fOp2 gCutL (fVar 0) (fOp2 gAdd (fVar 1) (fC (.int 1)))))
def F_l_put : List Sl → RF := fnF 3 (g_l_put)
theorem b_l_put {P : Program} {w : World} {K : PySem.W.Frag} {mg : Str → Option Value} {base : Heap} (B : Bl mg) {f : Addr} {cdv : Value} {A : Around} {outer : List PySem.Env} {s : Shared} {H : Hp} {E : XK} (c : Cn (fx P w K mg base N_l_put "_law_put" s_l_put f cdv A outer s H E) E 0) :
    DSs (fx P w K mg base N_l_put "_law_put" s_l_put f cdv A outer s H E) E (defBody s_l_put) (g_l_put) := by
  have nd := sc_l_put.nd
  exact dss_one (ds_ret (d_add (d_add (de_cutH (de_var (pv 0)) (de_var (pv 1))) (de_mkL (da_cons (de_var (pv 2)) (da_nil)))) (de_cutL (de_var (pv 0)) (d_add (de_var (pv 1)) (de_int)))))
theorem df_l_put {P : Program} {w : World} {K : PySem.W.Frag} {mg : Str → Option Value} {base : Heap} (B : Bl mg) {f : Addr} {fd : FuncData} (F : FunD K "_law_put" "_law_put" (defArgs s_l_put) (defBody s_l_put) (defScope s_l_put) [] [] f fd) (hm : mg "_law_put" = some (.ref f)) : Df P w K mg base "_law_put" s_l_put 1 ["things", "at", "thing"] (F_l_put) :=
  Df.mk' F hm sc_l_put rfl (fun _ _ _ _ _ _ us hl => match us, hl with | [_, _, _], _ => rfl) fun cdv A outer s H E c => b_l_put B c

abbrev s_l_alike : Stmt := top 56
abbrev N_l_alike : List Str := ["told", "due"]
theorem sc_l_alike : FnScope N_l_alike ["told", "due"] (defScope s_l_alike) := ⟨rfl, rfl, rfl, by decide +kernel, rfl, by decide +kernel, by decide +kernel⟩
def g_l_alike : DL.Env → RS := sRet (fOp2 gEq (bndA (fCons (fVar 0) (fNil)) gRepr) (bndA (fCons (fVar 1) (fNil)) gRepr))
def F_l_alike : List Sl → RF := fnF 2 (g_l_alike)
theorem b_l_alike {P : Program} {w : World} {K : PySem.W.Frag} {mg : Str → Option Value} {base : Heap} (B : Bl mg) {f : Addr} {cdv : Value} {A : Around} {outer : List PySem.Env} {s : Shared} {H : Hp} {E : XK} (c : Cn (fx P w K mg base N_l_alike "_law_alike" s_l_alike f cdv A outer s H E) E 0) :
    DSs (fx P w K mg base N_l_alike "_law_alike" s_l_alike f cdv A outer s H E) E (defBody s_l_alike) (g_l_alike) := by
  have nd := sc_l_alike.nd
  exact dss_one (ds_ret (d_eq c.rm.units (d_repr c (da_cons (de_var (pv 0)) (da_nil)) B.repr) (d_repr c (da_cons (de_var (pv 1)) (da_nil)) B.repr)))
theorem df_l_alike {P : Program} {w : World} {K : PySem.W.Frag} {mg : Str → Option Value} {base : Heap} (B : Bl mg) {f : Addr} {fd : FuncData} (F : FunD K "_law_alike" "_law_alike" (defArgs s_l_alike) (defBody s_l_alike) (defScope s_l_alike) [] [] f fd) (hm : mg "_law_alike" = some (.ref f)) : Df P w K mg base "_law_alike" s_l_alike 1 ["told", "due"] (F_l_alike) :=
  Df.mk' F hm sc_l_alike rfl (fun _ _ _ _ _ _ us hl => match us, hl with | [_, _], _ => rfl) fun cdv A outer s H E c => b_l_alike B c

abbrev s_l_is_count : Stmt := top 59
abbrev N_l_is_count : List Str := ["value"]
theorem sc_l_is_count : FnScope N_l_is_count ["value"] (defScope s_l_is_count) := ⟨rfl, rfl, rfl, by decide +kernel, rfl, by decide +kernel, by decide +kernel⟩
def g_l_is_count : DL.Env → RS := sRet (fAnd (fOp1 (gIsi "int") (fVar 0)) (fAnd (fNot (fOp1 (gIsi "bool") (fVar 0))) (fOp2 gGe (fVar 0) (fC (.int 0)))))
def F_l_is_count : List Sl → RF := fnF 1 (g_l_is_count)
theorem b_l_is_count {P : Program} {w : World} {K : PySem.W.Frag} {mg : Str → Option Value} {base : Heap} (B : Bl mg) {f : Addr} {cdv : Value} {A : Around} {outer : List PySem.Env} {s : Shared} {H : Hp} {E : XK} (c : Cn (fx P w K mg base N_l_is_count "_law_is_count" s_l_is_count f cdv A outer s H E) E 0) :
    DSs (fx P w K mg base N_l_is_count "_law_is_count" s_l_is_count f cdv A outer s H E) E (defBody s_l_is_count) (g_l_is_count) := by
  have nd := sc_l_is_count.nd
  exact dss_one (ds_ret (de_and (d_isi B "int" "int" rfl B.int bt_int (de_var (pv 0))) (de_and (de_not (d_isi B "bool" "bool" rfl B.bool bt_bool (de_var (pv 0)))) (de_one (d_ge (de_var (pv 0)) (de_int))))))
theorem df_l_is_count {P : Program} {w : World} {K : PySem.W.Frag} {mg : Str → Option Value} {base : Heap} (B : Bl mg) {f : Addr} {fd : FuncData} (F : FunD K "_law_is_count" "_law_is_count" (defArgs s_l_is_count) (defBody s_l_is_count) (defScope s_l_is_count) [] [] f fd) (hm : mg "_law_is_count" = some (.ref f)) : Df P w K mg base "_law_is_count" s_l_is_count 1 ["value"] (F_l_is_count) :=
  Df.mk' F hm sc_l_is_count rfl (fun _ _ _ _ _ _ us hl => match us, hl with | [_], _ => rfl) fun cdv A outer s H E c => b_l_is_count B c

abbrev s_l_shares : Stmt := top 60
abbrev N_l_shares : List Str := ["weights", "number", "whole", "lows", "rests", "weight", "order", "raised", "at", "low"]
theorem sc_l_shares : FnScope N_l_shares ["weights", "number"] (defScope s_l_shares) := ⟨rfl, rfl, rfl, by decide +kernel, rfl, by decide +kernel, by decide +kernel⟩
def g_l_shares : DL.Env → RS := sSeq (sPut 2 (bndA (fCons (fVar 0) (fNil)) gSum)) (sSeq (sBind (bTup [bName 3, bName 4]) (bndA (fCons (fLc (srcE (fVar 0) itemsL) (bName 5) (fC (.bool true)) (fOp2 gDiv (fOp2 gMul (fVar 5) (fVar 1)) (fVar 2)) [5]) (fCons (fLc (srcE (fVar 0) itemsL) (bName 5) (fC (.bool true)) (fOp2 gMod (bndA (fCons (fOp2 gMul (fVar 5) (fVar 1)) (fNil)) gInt1) (fVar 2)) [5]) (fNil))) gMkT)) (sSeq (sPut 6 (fSortK (fCons (bndA (fCons (fVar 0) (fNil)) gLen) (fNil)) 4)) (sSeq (sPut 7 (fOp2 gCutH (fVar 6) (fOp2 gSub (fVar 1) (bndA (fCons (fVar 3) (fNil)) gSum)))) (sRet (fLc (srcA (fCons (fVar 3) (fNil)) kEnum) (bTup [bName 8, bName 9]) (fC (.bool true)) (fOp2 gAdd (fVar 9) (bndA (fCons (fOp2 gIn (fVar 8) (fVar 7)) (fNil)) gInt1)) [8, 9])))))
def F_l_shares : List Sl → RF := fnF 10 (g_l_shares)
theorem b_l_shares {P : Program} {w : World} {K : PySem.W.Frag} {mg : Str → Option Value} {base : Heap} (B : Bl mg) {f : Addr} {cdv : Value} {A : Around} {outer : List PySem.Env} {s : Shared} {H : Hp} {E : XK} (Mk : Maker (fx P w K mg base N_l_shares "_law_shares" s_l_shares f cdv A outer s H E)) (c : Cn (fx P w K mg base N_l_shares "_law_shares" s_l_shares f cdv A outer s H E) E 1) :
    DSs (fx P w K mg base N_l_shares "_law_shares" s_l_shares f cdv A outer s H E) E (defBody s_l_shares) (g_l_shares) := by
  have nd := sc_l_shares.nd
  exact dss_cons (ds_put (i := 2) nd rfl (by first | exact .inl rfl | exact .inr rfl) (d_sum c B (da_cons (de_var (pv 0)) (da_nil))))
    (dss_cons (ds_asg (gt_tup (gts_cons (gt_name) (gts_cons (gt_name) (gts_nil)))) (pg_tup c.cm (pgs_cons (pg_name nd (i := 3) rfl (by first | exact .inl rfl | exact .inr rfl)) (pgs_cons (pg_name nd (i := 4) rfl (by first | exact .inl rfl | exact .inr rfl)) (pgs_nil)))) (de_mkT (da_cons (de_lc (own := [("weight", 5)]) c.cm nd (di_list (de_var (pv 0))) (blkOk_by (by rfl)) (gt_name) (by decide) (fun _ _ _ _ _ => pg_name nd (i := 5) rfl (by first | exact .inl rfl | exact .inr rfl)) (fun _ _ _ _ _ => dts_nil) (fun _ _ _ _ _ => d_div (d_mul (de_var (pv 5)) (de_var (pv 1))) (de_var (pv 2)))) (da_cons (de_lc (own := [("weight", 5)]) c.cm nd (di_list (de_var (pv 0))) (blkOk_by (by rfl)) (gt_name) (by decide) (fun _ _ _ _ _ => pg_name nd (i := 5) rfl (by first | exact .inl rfl | exact .inr rfl)) (fun _ _ _ _ _ => dts_nil) (fun _ _ _ _ _ => d_mod (d_int B (da_cons (d_mul (de_var (pv 5)) (de_var (pv 1))) (da_nil))) (de_var (pv 2)))) (da_nil)))))
    (dss_cons (ds_put (i := 6) nd rfl (by first | exact .inl rfl | exact .inr rfl) (de_sortK Mk B.sorted B.range c .sub (da_cons (d_len B (da_cons (de_var (pv 0)) (da_nil))) (da_nil)) (i := 4) rfl))
    (dss_cons (ds_put (i := 7) nd rfl (by first | exact .inl rfl | exact .inr rfl) (de_cutH (de_var (pv 6)) (d_sub (de_var (pv 1)) (d_sum c B (da_cons (de_var (pv 3)) (da_nil))))))
    (dss_one (ds_ret (de_lc (own := [("at", 8), ("low", 9)]) c.cm nd (di_enum rfl B.enum (da_cons (de_var (pv 3)) (da_nil))) (blkOk_by (by rfl)) (gt_tup (gts_cons (gt_name) (gts_cons (gt_name) (gts_nil)))) (by decide) (fun _ _ _ _ _ => pg_tup c.blk.cm (pgs_cons (pg_name nd (i := 8) rfl (by first | exact .inl rfl | exact .inr rfl)) (pgs_cons (pg_name nd (i := 9) rfl (by first | exact .inl rfl | exact .inr rfl)) (pgs_nil)))) (fun _ _ _ _ _ => dts_nil) (fun _ _ _ _ _ => d_add (de_var (pv 9)) (d_int B (da_cons (d_in c.blk (de_var (pv 8)) (de_var (pv 7))) (da_nil))))))))))
theorem df_l_shares {P : Program} {w : World} {K : PySem.W.Frag} {mg : Str → Option Value} {base : Heap} (B : Bl mg) {f : Addr} {fd : FuncData} (F : FunD K "_law_shares" "_law_shares" (defArgs s_l_shares) (defBody s_l_shares) (defScope s_l_shares) [] [] f fd) (hm : mg "_law_shares" = some (.ref f)) (Mt : MakT K mg base "_law_shares") (hcd : fd.code = .ref (He.cT K ("_law_shares", none)).1) : Df P w K mg base "_law_shares" s_l_shares 2 ["weights", "number"] (F_l_shares) :=
  Df_mkC F hm sc_l_shares rfl (fun _ _ _ _ _ _ us hl => match us, hl with | [_, _], _ => rfl) hcd fun A outer s H E c => b_l_shares B (mk_of Mt (mem_TbK (by first | exact .head _ | exact .tail _ (.head _) | exact .tail _ (.tail _ (.head _)) | exact .tail _ (.tail _ (.tail _ (.head _)))) (by first | rfl | decide))) c

abbrev s_l_are_shares : Stmt := top 61
abbrev N_l_are_shares : List Str := ["weights", "number", "value", "one", "whole", "at"]
theorem sc_l_are_shares : FnScope N_l_are_shares ["weights", "number", "value"] (defScope s_l_are_shares) := ⟨rfl, rfl, rfl, by decide +kernel, rfl, by decide +kernel, by decide +kernel⟩
def g_l_are_shares : DL.Env → RS := sSeq (sIf (fOr (fNot (fOp1 (gIsi "list") (fVar 2))) (fOr (fOp2 gNe (bndA (fCons (fVar 2) (fNil)) gLen) (bndA (fCons (fVar 0) (fNil)) gLen)) (fOr (fOp2 gNe (fLc (srcE (fVar 2) itemsL) (bName 3) (fNot (fCall 1 F_l_is_count (fCons (fVar 3) (fNil)))) (fVar 3) [3]) (bndA (fNil) gMkL)) (fOp2 gNe (bndA (fCons (fVar 2) (fNil)) gSum) (fVar 1))))) (sRet (fC (.bool false))) (.nx)) (sSeq (sPut 4 (bndA (fCons (fVar 0) (fNil)) gSum)) (sRet (fOp2 gEq (fLc (srcA (fCons (fVar 2) (fNil)) kEnum) (bTup [bName 5, bName 3]) (fOp2 gGe (bndA (fCons (fOp2 gSub (fOp2 gMul (fVar 3) (fVar 4)) (fOp2 gMul (fOp2 gIx (fVar 0) (fVar 5)) (fVar 1))) (fNil)) gAbs) (fVar 4)) (fVar 5) [5, 3]) (bndA (fNil) gMkL))))
def F_l_are_shares : List Sl → RF := fnF 6 (g_l_are_shares)
theorem b_l_are_shares {P : Program} {w : World} {K : PySem.W.Frag} {mg : Str → Option Value} {base : Heap} (B : Bl mg) (d_l_is_count : Df P w K mg base "_law_is_count" s_l_is_count 1 ["value"] F_l_is_count) {f : Addr} {cdv : Value} {A : Around} {outer : List PySem.Env} {s : Shared} {H : Hp} {E : XK} (c : Cn (fx P w K mg base N_l_are_shares "_law_are_shares" s_l_are_shares f cdv A outer s H E) E 1) :
    DSs (fx P w K mg base N_l_are_shares "_law_are_shares" s_l_are_shares f cdv A outer s H E) E (defBody s_l_are_shares) (g_l_are_shares) := by
  have nd := sc_l_are_shares.nd
  exact dss_cons (ds_if (dt_w (dw_or (dt_not (dt_val (d_isi B "list" "list" rfl B.list bt_list (de_var (pv 2))))) (dw_or (t_ne c (d_len B (da_cons (de_var (pv 2)) (da_nil))) (d_len B (da_cons (de_var (pv 0)) (da_nil)))) (dw_or (t_ne c (de_lc (own := [("one", 3)]) c.cm nd (di_list (de_var (pv 2))) (blkOk_by (by rfl)) (gt_name) (by decide) (fun _ _ _ _ _ => pg_name nd (i := 3) rfl (by first | exact .inl rfl | exact .inr rfl)) (fun _ _ _ _ _ => dts_one (dt_not (dt_val (de_call d_l_is_count c.blk (da_cons (de_var (pv 3)) (da_nil)))))) (fun _ _ _ _ _ => de_var (pv 3))) (de_mkL (da_nil))) (dw_or1 (t_ne c (d_sum c B (da_cons (de_var (pv 2)) (da_nil))) (de_var (pv 1)))))))) (dss_one (ds_ret (de_bl))) (dss_nil))
    (dss_cons (ds_put (i := 4) nd rfl (by first | exact .inl rfl | exact .inr rfl) (d_sum c B (da_cons (de_var (pv 0)) (da_nil))))
    (dss_one (ds_ret (d_eq c.rm.units (de_lc (own := [("at", 5), ("one", 3)]) c.cm nd (di_enum rfl B.enum (da_cons (de_var (pv 2)) (da_nil))) (blkOk_by (by rfl)) (gt_tup (gts_cons (gt_name) (gts_cons (gt_name) (gts_nil)))) (by decide) (fun _ _ _ _ _ => pg_tup c.blk.cm (pgs_cons (pg_name nd (i := 5) rfl (by first | exact .inl rfl | exact .inr rfl)) (pgs_cons (pg_name nd (i := 3) rfl (by first | exact .inl rfl | exact .inr rfl)) (pgs_nil)))) (fun _ _ _ _ _ => dts_one (t_ge (d_abs B (da_cons (d_sub (d_mul (de_var (pv 3)) (de_var (pv 4))) (d_mul (d_ix (de_var (pv 0)) (de_var (pv 5))) (de_var (pv 1)))) (da_nil))) (de_var (pv 4)))) (fun _ _ _ _ _ => de_var (pv 5))) (de_mkL (da_nil))))))
theorem df_l_are_shares {P : Program} {w : World} {K : PySem.W.Frag} {mg : Str → Option Value} {base : Heap} (B : Bl mg) (d_l_is_count : Df P w K mg base "_law_is_count" s_l_is_count 1 ["value"] F_l_is_count) {f : Addr} {fd : FuncData} (F : FunD K "_law_are_shares" "_law_are_shares" (defArgs s_l_are_shares) (defBody s_l_are_shares) (defScope s_l_are_shares) [] [] f fd) (hm : mg "_law_are_shares" = some (.ref f)) : Df P w K mg base "_law_are_shares" s_l_are_shares 2 ["weights", "number", "value"] (F_l_are_shares) :=
  Df.mk' F hm sc_l_are_shares rfl (fun _ _ _ _ _ _ us hl => match us, hl with | [_, _, _], _ => rfl) fun cdv A outer s H E c => b_l_are_shares B d_l_is_count c

abbrev s_l_missed : Stmt := top 62
abbrev N_l_missed : List Str := ["weights", "number", "value", "whole", "at", "one"]
theorem sc_l_missed : FnScope N_l_missed ["weights", "number", "value"] (defScope s_l_missed) := ⟨rfl, rfl, rfl, by decide +kernel, rfl, by decide +kernel, by decide +kernel⟩
def g_l_missed : DL.Env → RS := sSeq (sPut 3 (bndA (fCons (fVar 0) (fNil)) gSum)) (sRet (fCall 2 F_l_low (fCons (bndA (fCons (fLc (srcA (fCons (fVar 2) (fNil)) kEnum) (bTup [bName 4, bName 5]) (fC (.bool true)) (bndA (fCons (fOp2 gSub (fOp2 gMul (fVar 5) (fVar 3)) (fOp2 gMul (fOp2 gIx (fVar 0) (fVar 4)) (fVar 1))) (fNil)) gAbs) [4, 5]) (fNil)) gSum) (fCons (fVar 3) (fNil)))))
def F_l_missed : List Sl → RF := fnF 6 (g_l_missed)
theorem b_l_missed {P : Program} {w : World} {K : PySem.W.Frag} {mg : Str → Option Value} {base : Heap} (B : Bl mg) (d_l_low : Df P w K mg base "_law_low" s_l_low 2 ["over", "under"] F_l_low) {f : Addr} {cdv : Value} {A : Around} {outer : List PySem.Env} {s : Shared} {H : Hp} {E : XK} (c : Cn (fx P w K mg base N_l_missed "_law_missed" s_l_missed f cdv A outer s H E) E 2) :
    DSs (fx P w K mg base N_l_missed "_law_missed" s_l_missed f cdv A outer s H E) E (defBody s_l_missed) (g_l_missed) := by
  have nd := sc_l_missed.nd
  exact dss_cons (ds_put (i := 3) nd rfl (by first | exact .inl rfl | exact .inr rfl) (d_sum c B (da_cons (de_var (pv 0)) (da_nil))))
    (dss_one (ds_ret (de_call d_l_low c (da_cons (d_sum c B (da_cons (de_lc (own := [("at", 4), ("one", 5)]) c.cm nd (di_enum rfl B.enum (da_cons (de_var (pv 2)) (da_nil))) (blkOk_by (by rfl)) (gt_tup (gts_cons (gt_name) (gts_cons (gt_name) (gts_nil)))) (by decide) (fun _ _ _ _ _ => pg_tup c.blk.cm (pgs_cons (pg_name nd (i := 4) rfl (by first | exact .inl rfl | exact .inr rfl)) (pgs_cons (pg_name nd (i := 5) rfl (by first | exact .inl rfl | exact .inr rfl)) (pgs_nil)))) (fun _ _ _ _ _ => dts_nil) (fun _ _ _ _ _ => d_abs B (da_cons (d_sub (d_mul (de_var (pv 5)) (de_var (pv 3))) (d_mul (d_ix (de_var (pv 0)) (de_var (pv 4))) (de_var (pv 1)))) (da_nil)))) (da_nil))) (da_cons (de_var (pv 3)) (da_nil))))))
theorem df_l_missed {P : Program} {w : World} {K : PySem.W.Frag} {mg : Str → Option Value} {base : Heap} (B : Bl mg) (d_l_low : Df P w K mg base "_law_low" s_l_low 2 ["over", "under"] F_l_low) {f : Addr} {fd : FuncData} (F : FunD K "_law_missed" "_law_missed" (defArgs s_l_missed) (defBody s_l_missed) (defScope s_l_missed) [] [] f fd) (hm : mg "_law_missed" = some (.ref f)) : Df P w K mg base "_law_missed" s_l_missed 3 ["weights", "number", "value"] (F_l_missed) :=
  Df.mk' F hm sc_l_missed rfl (fun _ _ _ _ _ _ us hl => match us, hl with | [_, _, _], _ => rfl) fun cdv A outer s H E c => b_l_missed B d_l_low c

abbrev s_l_ways : Stmt := top 63
abbrev N_l_ways : List Str := ["many", "some", "ways", "turn", "at"]
theorem sc_l_ways : FnScope N_l_ways ["many", "some"] (defScope s_l_ways) := ⟨rfl, rfl, rfl, by decide +kernel, rfl, by decide +kernel, by decide +kernel⟩
def g_l_ways : DL.Env → RS := sSeq (sPut 2 (bndA (fCons (fC (.int 1)) (fNil)) gMkL)) (sSeq (sFor (srcA (fCons (fVar 0) (fNil)) kRng1) (bName 3) (sPut 2 (fOp2 gAdd (fOp2 gAdd (bndA (fCons (fC (.int 1)) (fNil)) gMkL) (fLc (srcA (fCons (fOp2 gSub (bndA (fCons (fVar 2) (fNil)) gLen) (fC (.int 1))) (fNil)) kRng1) (bName 4) (fC (.bool true)) (fOp2 gAdd (fOp2 gIx (fVar 2) (fVar 4)) (fOp2 gIx (fVar 2) (fOp2 gAdd (fVar 4) (fC (.int 1))))) [4])) (bndA (fCons (fC (.int 1)) (fNil)) gMkL)))) (sRet (fOp2 gIx (fVar 2) (fVar 1))))
def F_l_ways : List Sl → RF := fnF 5 (g_l_ways)
theorem b_l_ways {P : Program} {w : World} {K : PySem.W.Frag} {mg : Str → Option Value} {base : Heap} (B : Bl mg) {f : Addr} {cdv : Value} {A : Around} {outer : List PySem.Env} {s : Shared} {H : Hp} {E : XK} (c : Cn (fx P w K mg base N_l_ways "_law_ways" s_l_ways f cdv A outer s H E) E 0) :
    DSs (fx P w K mg base N_l_ways "_law_ways" s_l_ways f cdv A outer s H E) E (defBody s_l_ways) (g_l_ways) := by
  have nd := sc_l_ways.nd
  exact dss_cons (ds_put (i := 2) nd rfl (by first | exact .inl rfl | exact .inr rfl) (de_mkL (da_cons (de_int) (da_nil))))
    (dss_cons (ds_for (passes_of rfl) c.cm (di_rng1 rfl B.range (da_cons (de_var (pv 0)) (da_nil))) (gt_name) (pg_name nd (i := 3) rfl (by first | exact .inl rfl | exact .inr rfl)) (dss_one (ds_put (i := 2) nd rfl (by first | exact .inl rfl | exact .inr rfl) (d_add (d_add (de_mkL (da_cons (de_int) (da_nil))) (de_lc (own := [("at", 4)]) c.cm nd (di_rng1 rfl B.range (da_cons (d_sub (d_len B (da_cons (de_var (pv 2)) (da_nil))) (de_int)) (da_nil))) (blkOk_by (by rfl)) (gt_name) (by decide) (fun _ _ _ _ _ => pg_name nd (i := 4) rfl (by first | exact .inl rfl | exact .inr rfl)) (fun _ _ _ _ _ => dts_nil) (fun _ _ _ _ _ => d_add (d_ix (de_var (pv 2)) (de_var (pv 4))) (d_ix (de_var (pv 2)) (d_add (de_var (pv 4)) (de_int)))))) (de_mkL (da_cons (de_int) (da_nil)))))))
    (dss_one (ds_ret (d_ix (de_var (pv 2)) (de_var (pv 1))))))
theorem df_l_ways {P : Program} {w : World} {K : PySem.W.Frag} {mg : Str → Option Value} {base : Heap} (B : Bl mg) {f : Addr} {fd : FuncData} (F : FunD K "_law_ways" "_law_ways" (defArgs s_l_ways) (defBody s_l_ways) (defScope s_l_ways) [] [] f fd) (hm : mg "_law_ways" = some (.ref f)) : Df P w K mg base "_law_ways" s_l_ways 1 ["many", "some"] (F_l_ways) :=
  Df.mk' F hm sc_l_ways rfl (fun _ _ _ _ _ _ us hl => match us, hl with | [_, _], _ => rfl) fun cdv A outer s H E c => b_l_ways B c

end K84
/-! E2: what is refused. -/
namespace K84
open PySem L2 PyProof.Rows DL
structure Exs (P : Program) (K : PySem.W.Frag) (mg : Str → Option Value) (ca : Str → Addr) : Prop where
  g : ∀ n ∈ exNames, mg n = some (.ref (ca n))
  t : ∀ n ∈ exR, DLX.ExT P K mg n (ca n)
  k : ∀ n ∈ exR, ExK K (ca n)
  kit : ∀ n ∈ exR, ∀ m ∈ exNames, PySem.W.kitOne K (.ref (ca n)) (.ref (ca m)) = some (decide (n = m))
  sum : mg "SumError" = some (.ref (ca "SumError"))
  exm : ∀ n ∈ exR, PySem.W.exmOne K (.ref (ca n)) (.ref (ca "SumError")) = some true
theorem Exs.kcs {P : Program} {K : PySem.W.Frag} {mg : Str → Option Value} {ca : Str → Addr} (X : Exs P K mg ca) : ∀ c ∈ exR.map ca, ExK K c := fun c h => by
  obtain ⟨n, hn, e⟩ := List.mem_map.mp h
  rw [← e]
  exact X.k n hn
theorem Exs.mgs {P : Program} {K : PySem.W.Frag} {mg : Str → Option Value} {ca : Str → Addr} (X : Exs P K mg ca) (n : Str) (h : n ∈ exNames) : mg n = some (.ref (ca n)) := X.g n h
abbrev s_l_caught : Stmt := top 55
abbrev N_l_caught : List Str := ["call", "caught", "e", "kinds", "words"]
theorem sc_l_caught : FnScope N_l_caught ["call"] (defScope s_l_caught) := ⟨rfl, rfl, rfl, by decide +kernel, rfl, by decide +kernel, by decide +kernel⟩
def g_l_caughtT (K : PySem.W.Frag) (ca : Str → Addr) : DL.Env → RS := sSeq (sIf (fOp2 gIsN (fVar 1) (fC .none)) (sRet (bndA (fCons (fC (.str "let")) (fCons (fC .none) (fNil))) gMkT)) (.nx)) (sSeq (sPut 3 (bndA (fCons (fOp1 (gIsX K (exR.map ca) (ca "InvalidLayout")) (fVar 1)) (fCons (fOp1 (gIsX K (exR.map ca) (ca "InvalidTable")) (fVar 1)) (fCons (fOp1 (gIsX K (exR.map ca) (ca "InvalidBounds")) (fVar 1)) (fCons (fOp1 (gIsX K (exR.map ca) (ca "InvalidReport")) (fVar 1)) (fNil))))) gMkL)) (sSeq (sPut 3 (fOp2 gAdd (fVar 3) (bndA (fCons (fOp1 (gIsX K (exR.map ca) (ca "InvalidPart")) (fVar 1)) (fCons (fOp1 (gIsX K (exR.map ca) (ca "InvalidNumber")) (fVar 1)) (fCons (fOp1 (gIsX K (exR.map ca) (ca "InvalidNames")) (fVar 1)) (fCons (fOp1 (gIsX K (exR.map ca) (ca "InvalidText")) (fVar 1)) (fNil))))) gMkL))) (sSeq (sPut 3 (fOp2 gAdd (fVar 3) (bndA (fCons (fOp1 (gIsX K (exR.map ca) (ca "InvalidLot")) (fVar 1)) (fCons (fOp1 (gIsX K (exR.map ca) (ca "InvalidWeights")) (fVar 1)) (fCons (fOp1 (gIsX K (exR.map ca) (ca "InvalidLines")) (fVar 1)) (fCons (fOp1 (gIsX K (exR.map ca) (ca "InvalidMargins")) (fVar 1)) (fNil))))) gMkL))) (sSeq (sPut 3 (fOp2 gAdd (fVar 3) (bndA (fCons (fOp1 (gIsX K (exR.map ca) (ca "InvalidEdit")) (fVar 1)) (fCons (fOp1 (gIsX K (exR.map ca) (ca "Unlike")) (fVar 1)) (fCons (fOp1 (gIsX K (exR.map ca) (ca "TooMany")) (fVar 1)) (fNil)))) gMkL))) (sSeq (sPut 4 (bndA (fCons (fC (.str "layout")) (fCons (fC (.str "table")) (fCons (fC (.str "bounds")) (fCons (fC (.str "report")) (fCons (fC (.str "part")) (fCons (fC (.str "number")) (fCons (fC (.str "names")) (fCons (fC (.str "text")) (fCons (fC (.str "lot")) (fCons (fC (.str "weights")) (fCons (fC (.str "lines")) (fCons (fC (.str "margins")) (fCons (fC (.str "edit")) (fCons (fC (.str "unlike")) (fCons (fC (.str "many")) (fNil)))))))))))))))) gMkL)) (sRet (fIf (fOp2 gEq (fOp1 gCntT (fVar 3)) (fC (.int 1))) (bndA (fCons (fOp2 gIx (fVar 4) (fOp1 gIdxT (fVar 3))) (fCons (fOp1 (gVal (exR.map ca)) (fVar 1)) (fNil))) gMkT) (bndA (fCons (fC (.str "odd")) (fCons (fC .none) (fNil))) gMkT))))))))
theorem b_l_caughtT {P : Program} {w : World} {K : PySem.W.Frag} {mg : Str → Option Value} {base : Heap} {ca : Str → Addr} (B : Bl mg) (X : Exs P K mg ca) {f : Addr} {cdv : Value} {A : Around} {outer : List PySem.Env} {s : Shared} {H : Hp} {E : XK} {k : Nat} (c : Cn (fx P w K mg base N_l_caught "_law_caught" s_l_caught f cdv A outer s H E) E k) :
    DSs (fx P w K mg base N_l_caught "_law_caught" s_l_caught f cdv A outer s H E) E ((defBody s_l_caught).drop 2) (g_l_caughtT K ca) := by
  have nd := sc_l_caught.nd
  exact dss_cons (ds_if (t_is (de_var (pv 1)) (de_non)) (dss_one (ds_ret (de_mkT (da_cons (de_str) (da_cons (de_non) (da_nil)))))) (dss_nil))
    (dss_cons (ds_put (i := 3) nd rfl (by first | exact .inl rfl | exact .inr rfl) (de_mkL (da_cons (de_isX B X.kcs (X.mgs "InvalidLayout" (by decide)) (de_var (pv 1))) (da_cons (de_isX B X.kcs (X.mgs "InvalidTable" (by decide)) (de_var (pv 1))) (da_cons (de_isX B X.kcs (X.mgs "InvalidBounds" (by decide)) (de_var (pv 1))) (da_cons (de_isX B X.kcs (X.mgs "InvalidReport" (by decide)) (de_var (pv 1))) (da_nil)))))))
    (dss_cons (ds_put (i := 3) nd rfl (by first | exact .inl rfl | exact .inr rfl) (d_add (de_var (pv 3)) (de_mkL (da_cons (de_isX B X.kcs (X.mgs "InvalidPart" (by decide)) (de_var (pv 1))) (da_cons (de_isX B X.kcs (X.mgs "InvalidNumber" (by decide)) (de_var (pv 1))) (da_cons (de_isX B X.kcs (X.mgs "InvalidNames" (by decide)) (de_var (pv 1))) (da_cons (de_isX B X.kcs (X.mgs "InvalidText" (by decide)) (de_var (pv 1))) (da_nil))))))))
    (dss_cons (ds_put (i := 3) nd rfl (by first | exact .inl rfl | exact .inr rfl) (d_add (de_var (pv 3)) (de_mkL (da_cons (de_isX B X.kcs (X.mgs "InvalidLot" (by decide)) (de_var (pv 1))) (da_cons (de_isX B X.kcs (X.mgs "InvalidWeights" (by decide)) (de_var (pv 1))) (da_cons (de_isX B X.kcs (X.mgs "InvalidLines" (by decide)) (de_var (pv 1))) (da_cons (de_isX B X.kcs (X.mgs "InvalidMargins" (by decide)) (de_var (pv 1))) (da_nil))))))))
    (dss_cons (ds_put (i := 3) nd rfl (by first | exact .inl rfl | exact .inr rfl) (d_add (de_var (pv 3)) (de_mkL (da_cons (de_isX B X.kcs (X.mgs "InvalidEdit" (by decide)) (de_var (pv 1))) (da_cons (de_isX B X.kcs (X.mgs "Unlike" (by decide)) (de_var (pv 1))) (da_cons (de_isX B X.kcs (X.mgs "TooMany" (by decide)) (de_var (pv 1))) (da_nil)))))))
    (dss_cons (ds_put (i := 4) nd rfl (by first | exact .inl rfl | exact .inr rfl) (de_mkL (da_cons (de_str) (da_cons (de_str) (da_cons (de_str) (da_cons (de_str) (da_cons (de_str) (da_cons (de_str) (da_cons (de_str) (da_cons (de_str) (da_cons (de_str) (da_cons (de_str) (da_cons (de_str) (da_cons (de_str) (da_cons (de_str) (da_cons (de_str) (da_cons (de_str) (da_nil))))))))))))))))))
    (dss_one (ds_ret (de_if (t_eq c (de_cntT c (de_var (pv 3))) (de_int)) (de_mkT (da_cons (d_ix (de_var (pv 4)) (de_idxT (de_var (pv 3)))) (da_cons (de_value X.kcs (de_var (pv 1))) (da_nil)))) (de_mkT (da_cons (de_str) (da_cons (de_non) (da_nil))))))))))))

def foD : FO → D
  | .lets => .none
  | .err c d => excD c d
theorem srep_one {K : PySem.W.Frag} {τ : Nat → Addr} {T : List Addr} {H : Hp} {σ : L2.St} {v : V} {d : D} (tr : ∀ a ∈ T, H a ≠ none) (tb : LamX.Tabs (TbK K) H) (hl : σ.length = 5) (h1 : σ[1]? = some (some v)) (r : Rp K (hid T H) v d) : SRep K τ T H σ [none, some (.pu d), none, none, none] [] := by
  have at_ : ∀ {i : Nat} {s : Sl}, ([none, some (.pu d), none, none, none] : DL.Env)[i]? = some (some s) → i = 1 ∧ s = .pu d := fun {i s} z => by
    match i with
    | 0 => simp at z
    | 1 => exact ⟨rfl, by simpa using z.symm⟩
    | 2 => simp at z
    | 3 => simp at z
    | 4 => simp at z
    | n + 5 => simp at z
  refine ⟨fun i m d2 q => ?_, fun i t ds q => ?_, fun i j t u es fs p hij e1 => ?_, tr, hl, fun p hp => absurd hp (by simp), tb, fun i g q => ?_⟩
  · obtain ⟨rfl, e⟩ := at_ q
    cases e
    exact ⟨v, h1, r, fun z => nomatch z⟩
  · cases (at_ q).2
  · cases (at_ e1).2
  · cases (at_ q).2
section
variable {P : Program} {w : World} {K : PySem.W.Frag} {mg : Str → Option Value} {base : Heap} {ca : Str → Addr}
theorem caught_run (B : Bl mg) (X : Exs P K mg ca) {fc : Addr} {fdc : FuncData} (F : FunD K "_law_caught" "_law_caught" (defArgs s_l_caught) (defBody s_l_caught) (defScope s_l_caught) [] [] fc fdc) {A : Around} {outer : List PySem.Env} {s : Shared} {H : Hp} {fl : Addr} {T : List Addr} {o : FO} {k : Nat} {Q : VK} {E : XK} {dres : D} {ρ' : DL.Env}
    (hgd : A.guards = some []) (hr : Room (k + 1) A) (e0 : Env0 P w K mg base A outer s H) (C : Can P w K mg base k H T fl o) (tr : ∀ a ∈ T, H a ≠ none) (tb : LamX.Tabs (TbK K) H) (hex : ∀ c d, o = .err c d → ∃ n ∈ exR, c = ca n)
    (hres : g_l_caughtT K ca [none, some (.pu (foD o)), none, none, none] = .ret (.pu dres) ρ') (hq : ∀ v H', Gr K H H' → Rp K (hid T H') v dres → Q v H') :
    codeAny (model P w) A (.call (.ref fc) ⟨[.ref fl], []⟩) (CR (L2.CX P w) outer P w H s Q E) s := by
  obtain ⟨oc, od, kV, doc, pm, an, cdv, ct, osl, rfl, lk, hcd⟩ := (Fun.ofD F).ex
  refine LamX.run_ofS (N := N_l_caught) (ps := ["call"]) (us := [.ref fl]) (vs := [.ref fl]) lk hcd sc_l_caught hr e0 (.of_eq (by first | rfl | with_unfolding_all rfl)) (.cons rfl .nil) rfl fun hr2 => ?_
  have nd := sc_l_caught.nd
  have cn : Cn (fx P w K mg base N_l_caught "_law_caught" s_l_caught fc cdv A outer s H E) E k := ⟨hgd, hr2, passes_call (W := fun cls d _ H => E cls d H) (takes_of rfl rfl rfl rfl) (fun _ _ _ _ h => h), takes_of rfl rfl rfl rfl, rfl⟩
  refine ⟨_, pss_cons (ps_set nd (i := 1) rfl (.inl rfl) pe_non) (pss_cons (ps_hold (i := 2) (j := 1) (c := .ref (ca "SumError")) rfl rfl rfl nd rfl rfl rfl rfl (fun σ z => by rw [z]; show 2 < N_l_caught.length; decide) ⟨rfl, by decide, .inl X.sum⟩ cn.tk (by decide) (by decide) (fun Y hY => by rw [hY]; rfl)
    (tb := fun W => tDrop fun σ HZ Q => σ[0]? = some (some (.ref fl)) ∧ Gr K H HZ ∧ (∀ a ∈ T, HZ a ≠ none) ∧ LamX.Tabs (TbK K) HZ ∧ FOut K (WE W σ) T HZ o Q)
    (fun W pn xe tk _ => pss_one (ps_expr (pe_can (Y := fx P w K mg base N_l_caught "_law_caught" s_l_caught fc cdv A outer s H E) (i := 0) C hgd hr2 tk rfl (.inl rfl))))) (b_l_caughtT B X cn).pss), ?_⟩
  have fin : ∀ {σ : L2.St} {H' : Hp} {v : V}, σ.length = 5 → σ[1]? = some (some v) → Gr K H H' → Rp K (hid T H') v (foD o) → tDS K E (g_l_caughtT K ca) { nx := fun _ H' => Q .non H', rt := Q } σ H' := fun {σ H' v} h1 h2 g r => by
    refine ⟨fun _ => 0, T, [], _, srep_one (fun a z w => tr a z (g.al a w)) (g.tb tb) h1 h2 r, ?_⟩
    rw [hres]
    exact fun v2 σ2 H2 P2 t _ r2 => hq v2 H2 (g.trans t.toGr) (r2.ext (hid_less fun a z => List.mem_append_right _ z))
  refine ⟨rfl, Ext.gr (Ext.rfl H), tr, tb, ?_⟩
  cases o with
  | lets => exact fun v H' g => fin rfl rfl g .non
  | err c d =>
    intro dx v H' g hx hv
    obtain ⟨n, hn, rfl⟩ := hex c d rfl
    refine ⟨true, X.exm n hn, fun _ => ⟨ca n, dx, rfl, rfl, fun a na => ?_⟩, fun z => nomatch z⟩
    have ex : Ext H' (upd H' a (XO (ca n) dx a)) := Evl.Ex.new na
    have aT : a ∉ T := fun z => tr a z (g.al a na)
    have dT : dx ∉ T := fun z => tr dx z hx.1
    refine fin rfl rfl (g.trans ex.gr) (v := .ref a) (.exc (hid_in aT upd_same) (hid_in dT (ex _ _ hx.2)) (hv.ext (Gr.hid (K := K) ex.gr)))
end
abbrev s_l_refused : Stmt := top 57
abbrev N_l_refused : List Str := ["call", "word", "value", "told"]
theorem sc_l_refused : FnScope N_l_refused ["call", "word", "value"] (defScope s_l_refused) := ⟨rfl, rfl, rfl, by decide +kernel, rfl, by decide +kernel, by decide +kernel⟩
def g_l_refusedT : DL.Env → RS := sRet (fAnd (fOp2 gEq (fOp2 gIx (fVar 3) (fC (.int 0))) (fVar 1)) (fCall 2 F_l_alike (fCons (fOp2 gIx (fVar 3) (fC (.int 1))) (fCons (fVar 2) (fNil)))))
theorem b_l_refusedT {P : Program} {w : World} {K : PySem.W.Frag} {mg : Str → Option Value} {base : Heap} {ca : Str → Addr} (B : Bl mg) (d_l_alike : Df P w K mg base "_law_alike" s_l_alike 1 ["told", "due"] F_l_alike) {f : Addr} {cdv : Value} {A : Around} {outer : List PySem.Env} {s : Shared} {H : Hp} {E : XK} (c : Cn (fx P w K mg base N_l_refused "_law_refused" s_l_refused f cdv A outer s H E) E 1) :
    DSs (fx P w K mg base N_l_refused "_law_refused" s_l_refused f cdv A outer s H E) E ((defBody s_l_refused).drop 1) (g_l_refusedT) := by
  have nd := sc_l_refused.nd
  exact dss_one (ds_ret (de_and (d_eq c.rm.units (d_ix (de_var (pv 3)) (de_int)) (de_var (pv 1))) (de_one (de_call d_l_alike c (da_cons (d_ix (de_var (pv 3)) (de_int)) (da_cons (de_var (pv 2)) (da_nil)))))))

end K84
/-! E3: refused, all refused. -/
namespace K84
open PySem L2 PyProof.Rows DL
section
variable {Y : Cx} {ca : Str → Addr}
theorem pe_caught (B : Bl Y.mg) (X : Exs Y.prog Y.K Y.mg ca) {fc : Addr} {fdc : FuncData} (F : FunD Y.K "_law_caught" "_law_caught" (defArgs s_l_caught) (defBody s_l_caught) (defScope s_l_caught) [] [] fc fdc) (hm : Y.mg "_law_caught" = some (.ref fc)) {H0 : Hp} {T : List Addr} {fl : Addr} {o : FO} {k i : Nat} {a : Str} {dres : D} {ρ' : DL.Env} {p p1 pos : Pos}
    (C : Can Y.prog Y.w Y.K Y.mg Y.base k H0 T fl o) (hgd : Y.A.guards = some []) (hr : Room (k + 1) Y.A) (hex : ∀ c d, o = .err c d → ∃ n ∈ exR, c = ca n) (hres : g_l_caughtT Y.K ca [none, some (.pu (foD o)), none, none, none] = .ret (.pu dres) ρ') (ha : PE Y (.Name a p1) (tVar i))
    (hg : Gl Y "_law_caught" := by rfl) (he : starEach [.Name a p1] Y.env = (false, eval (.Name a p1) Y.env) :: starEach [] Y.env := by rfl) (hpl : (backTo pos (starEach [] Y.env)).any (·.1) = false := by rfl) :
    PE Y (.Call (.Name "_law_caught" p) [.Name a p1] [] pos) (fun σ H Q => σ[i]? = some (some (.ref fl)) ∧ Gr Y.K H0 H ∧ (∀ a ∈ T, H a ≠ none) ∧ LamX.Tabs (TbK Y.K) H ∧ ∀ v H', Gr Y.K H H' → Rp Y.K (hid T H') v dres → Q v H') := by
  refine ⟨fun pins s σ H Q I ⟨hσ, g, tr, tb, q⟩ => ?_⟩
  refine wpAny_Call_Name_kw (ld_glob I hg hm ?_ (by decide))
  refine PySem.W.callWith_K (h₀ := Y.base) I.ok.mod.kin F.kp (thn ((pa_cons ha pa_nil he).run pos pins s σ H (fun vs H1 => vs = [.ref fl] ∧ H1 = H) I ⟨.ref fl, hσ, rfl, rfl⟩) fun us s1 ⟨vs, H1, I1, r, e1, e2⟩ => ⟨I1.kIn, ?_⟩) he hpl
  subst e1
  rw [e2] at I1
  have eu := Vals.ref1 r
  subst eu
  refine wpAny_call (codeAny_mono (caught_run (Q := Q) (E := L2.E0) B X F hgd hr I1.env0 (C.later g (fun _ z => z) (fun a z => .inl z)) tr tb hex hres q) fun r s' hq => ?_)
  cases r with
  | error e => exact (passL (X := Y) pins σ H s1 e s' I1 hq)
  | ok fl =>
    cases fl with
    | ret u => exact I1.after hq
    | next => exact False.elim hq
    | brk => exact False.elim hq
    | cont => exact False.elim hq
end
theorem srep_of {K : PySem.W.Frag} {τ : Nat → Addr} {T : List Addr} {H : Hp} {σ : L2.St} {ρ : DL.Env} (tr : ∀ a ∈ T, H a ≠ none) (tb : LamX.Tabs (TbK K) H) (hl : σ.length = ρ.length) (hp : ∀ (i : Nat) (s : Sl), ρ[i]? = some (some s) → ∃ d v, s = .pu d ∧ σ[i]? = some (some v) ∧ Rp K (hid T H) v d) : SRep K τ T H σ ρ [] := by
  refine ⟨fun i m d q => ?_, fun i t ds q => ?_, fun i j t u es fs p hij e1 => ?_, tr, hl, fun p hp => absurd hp (by simp), tb, fun i g q => ?_⟩
  · obtain ⟨d', v, e, h1, h2⟩ := hp i _ q
    cases e
    exact ⟨v, h1, h2, fun z => nomatch z⟩
  · obtain ⟨d', v, e, _⟩ := hp i _ q
    cases e
  · obtain ⟨d', v, e, _⟩ := hp i _ e1
    cases e
  · obtain ⟨d', v, e, _⟩ := hp i _ q
    cases e
section
variable {P : Program} {w : World} {K : PySem.W.Frag} {mg : Str → Option Value} {base : Heap} {ca : Str → Addr}
/-- what is asked of a refusal: the error's class by its name, the word, the value, its text -/
structure RefOk (K : PySem.W.Frag) (ca : Str → Addr) (n wd : Str) (d : D) : Prop where
  hn : n ∈ exR
  hc : ∃ ρ', g_l_caughtT K ca [none, some (.pu (excD (ca n) d)), none, none, none] = .ret (.pu (.tuple [.str wd, d])) ρ'
  hr : ∃ ρ', g_l_refusedT [none, some (.pu (.str wd)), some (.pu d), some (.pu (.tuple [.str wd, d]))] = .ret (.pu (.bool true)) ρ'
theorem refused_run (B : Bl mg) (X : Exs P K mg ca) (d_l_alike : Df P w K mg base "_law_alike" s_l_alike 1 ["told", "due"] F_l_alike) {fc fr : Addr} {fdc fdr : FuncData} (Fc : FunD K "_law_caught" "_law_caught" (defArgs s_l_caught) (defBody s_l_caught) (defScope s_l_caught) [] [] fc fdc) (hmc : mg "_law_caught" = some (.ref fc))
    (Fr : FunD K "_law_refused" "_law_refused" (defArgs s_l_refused) (defBody s_l_refused) (defScope s_l_refused) [] [] fr fdr) {A : Around} {outer : List PySem.Env} {s : Shared} {H : Hp} {fl : Addr} {T : List Addr} {n wd : Str} {d : D} {v : V} {u : Value} {t : Tok} {k : Nat} {Q : VK} {E : XK}
    (hgd : A.guards = some []) (hr : Room (k + 3) A) (e0 : Env0 P w K mg base A outer s H) (C : Can P w K mg base k H T fl (.err (ca n) d)) (ok : RefOk K ca n wd d) (tr : ∀ a ∈ T, H a ≠ none) (tb : LamX.Tabs (TbK K) H) (rv : Rp K (hid T H) v d) (ru : RelV v u) (hq : ∀ H', Gr K H H' → Q (.bl true) H') :
    codeAny (model P w) A (.call (.ref fr) ⟨[.ref fl, .str wd t, u], []⟩) (CR (L2.CX P w) outer P w H s Q E) s := by
  obtain ⟨oc, od, kV, doc, pm, an, cdv, ct, osl, rfl, lk, hcd⟩ := (Fun.ofD Fr).ex
  refine LamX.run_ofS (N := N_l_refused) (ps := ["call", "word", "value"]) (us := [.ref fl, .str wd t, u]) (vs := [.ref fl, .str wd, v]) lk hcd sc_l_refused (hr.mono (j := k + 2 + 1) (Nat.le_refl _)) e0 (.of_eq (by first | rfl | with_unfolding_all rfl)) (.cons rfl (.cons ⟨t, rfl⟩ (.cons ru .nil))) rfl fun hr2 => ?_
  have nd := sc_l_refused.nd
  have cn : Cn (fx P w K mg base N_l_refused "_law_refused" s_l_refused fr cdv A outer s H E) E (k + 2) := ⟨hgd, hr2, passes_call (W := fun cls d _ H => E cls d H) (takes_of rfl rfl rfl rfl) (fun _ _ _ _ h => h), takes_of rfl rfl rfl rfl, rfl⟩
  obtain ⟨ρ1, hc⟩ := ok.hc
  obtain ⟨ρ2, hres⟩ := ok.hr
  refine ⟨_, pss_cons (ps_set nd (i := 3) rfl (.inl rfl) (pe_caught (Y := fx P w K mg base N_l_refused "_law_refused" s_l_refused fr cdv A outer s H E) B X Fc hmc C hgd (hr2.mono (by omega)) (fun c d e => by cases e; exact ⟨n, ok.hn, rfl⟩) hc (pv 0))) (b_l_refusedT (ca := ca) B d_l_alike (cn.mono (by omega))).pss, ?_⟩
  refine ⟨rfl, Ext.gr (Ext.rfl H), tr, tb, fun v2 H2 g r2 => ?_⟩
  refine ⟨fun _ => 0, T, [], [none, some (.pu (.str wd)), some (.pu d), some (.pu (.tuple [.str wd, d]))], srep_of (fun a z w => tr a z (g.al a w)) (g.tb tb) rfl fun i sl q => ?_, ?_⟩
  · match i with
    | 0 => simp at q
    | 1 => exact ⟨_, .str wd, (by simpa using q.symm), rfl, .str wd⟩
    | 2 => exact ⟨_, v, (by simpa using q.symm), rfl, rv.ext g.hid⟩
    | 3 => exact ⟨_, v2, (by simpa using q.symm), rfl, r2⟩
    | n + 4 => simp at q
  · rw [hres]
    intro v3 σ3 H3 P3 t3 _ r3
    rw [rp_bool r3]
    exact hq H3 (g.trans t3.toGr)
end

end K84
/-! E4: all refused. -/
namespace K84
open PySem L2 PyProof.Rows DL
abbrev s_l_all_refused : Stmt := top 58
abbrev N_l_all_refused : List Str := ["calls", "word", "value", "call"]
theorem sc_l_all_refused : FnScope N_l_all_refused ["calls", "word", "value"] (defScope s_l_all_refused) := ⟨rfl, rfl, rfl, by decide +kernel, rfl, by decide +kernel, by decide +kernel⟩
/-- what _law_refused needs of the module -/
structure RefKit (P : Program) (w : World) (K : PySem.W.Frag) (mg : Str → Option Value) (base : Heap) (ca : Str → Addr) : Prop where
  B : Bl mg
  X : Exs P K mg ca
  alike : Df P w K mg base "_law_alike" s_l_alike 1 ["told", "due"] F_l_alike
  caught : ∃ fc fdc, FunD K "_law_caught" "_law_caught" (defArgs s_l_caught) (defBody s_l_caught) (defScope s_l_caught) [] [] fc fdc ∧ mg "_law_caught" = some (.ref fc)
  refused : ∃ fr fdr, FunD K "_law_refused" "_law_refused" (defArgs s_l_refused) (defBody s_l_refused) (defScope s_l_refused) [] [] fr fdr ∧ mg "_law_refused" = some (.ref fr)
def tRefd (P : Program) (w : World) (K : PySem.W.Frag) (mg : Str → Option Value) (base : Heap) (ca : Str → Addr) (k : Nat) (n wd : Str) (d : D) (i j l : Nat) : TE := fun σ H Q => ∃ fl v T, σ[i]? = some (some (.ref fl)) ∧ σ[j]? = some (some (.str wd)) ∧ σ[l]? = some (some v) ∧ Can P w K mg base k H T fl (.err (ca n) d) ∧ Rp K (hid T H) v d ∧ (∀ a ∈ T, H a ≠ none) ∧ LamX.Tabs (TbK K) H ∧ ∀ H', Gr K H H' → Q (.bl true) H'
section
variable {Y : Cx} {ca : Str → Addr}
/-- a call of _law_refused, its arguments three names -/
theorem pe_refused (R : RefKit Y.prog Y.w Y.K Y.mg Y.base ca) {n wd : Str} {d : D} {k i j l : Nat} {x y z : Str} {p p1 p2 p3 pos : Pos} (hgd : Y.A.guards = some []) (hr : Room (k + 3) Y.A) (ok : RefOk Y.K ca n wd d)
    (ha : PE Y (.Name x p1) (tVar i)) (hb : PE Y (.Name y p2) (tVar j)) (hc : PE Y (.Name z p3) (tVar l)) (hg : Gl Y "_law_refused" := by rfl)
    (he : starEach [.Name x p1, .Name y p2, .Name z p3] Y.env = (false, eval (.Name x p1) Y.env) :: starEach [.Name y p2, .Name z p3] Y.env := by rfl) (he2 : starEach [.Name y p2, .Name z p3] Y.env = (false, eval (.Name y p2) Y.env) :: starEach [.Name z p3] Y.env := by rfl)
    (he3 : starEach [.Name z p3] Y.env = (false, eval (.Name z p3) Y.env) :: starEach [] Y.env := by rfl) (hpl : (backTo pos (starEach [.Name y p2, .Name z p3] Y.env)).any (·.1) = false := by rfl) :
    PE Y (.Call (.Name "_law_refused" p) [.Name x p1, .Name y p2, .Name z p3] [] pos) (tRefd Y.prog Y.w Y.K Y.mg Y.base ca k n wd d i j l) := by
  obtain ⟨fc, fdc, Fc, hmc⟩ := R.caught
  obtain ⟨fr, fdr, Fr, hmr⟩ := R.refused
  refine ⟨fun pins s σ H Q I ⟨fl, v, T, h1, h2, h3, C, rv, tr, tb, q⟩ => ?_⟩
  refine wpAny_Call_Name_kw (ld_glob I hg hmr ?_ (by decide))
  refine PySem.W.callWith_K (h₀ := Y.base) I.ok.mod.kin Fr.kp (thn ((pa_cons ha (pa_cons hb (pa_cons hc pa_nil he3) he2) he).run pos pins s σ H (fun vs H1 => vs = [.ref fl, .str wd, v] ∧ H1 = H) I ⟨.ref fl, h1, .str wd, h2, v, h3, rfl, rfl⟩) fun us s1 ⟨vs, H1, I1, r, e1, e2⟩ => ⟨I1.kIn, ?_⟩) he hpl
  subst e1
  rw [e2] at I1
  cases r with
  | cons r1 r =>
    cases r with
    | cons r2 r =>
      cases r with
      | cons r3 r =>
        cases r
        obtain rfl := r1
        obtain ⟨t, rfl⟩ := r2
        refine wpAny_call (codeAny_mono (refused_run (Q := Q) (E := L2.E0) R.B R.X R.alike Fc hmc Fr hgd hr I1.env0 C ok tr tb rv r3 q) fun r s' hq => ?_)
        cases r with
        | error e => exact (passL (X := Y) pins σ H s1 e s' I1 hq)
        | ok fl =>
          cases fl with
          | ret u => exact I1.after hq
          | next => exact False.elim hq
          | brk => exact False.elim hq
          | cont => exact False.elim hq
end
section
variable {P : Program} {w : World} {K : PySem.W.Frag} {mg : Str → Option Value} {base : Heap} {ca : Str → Addr}
theorem all_refused_run (R : RefKit P w K mg base ca) {fr : Addr} {fdr : FuncData} (Fr : FunD K "_law_all_refused" "_law_all_refused" (defArgs s_l_all_refused) (defBody s_l_all_refused) (defScope s_l_all_refused) [] [] fr fdr) {A : Around} {outer : List PySem.Env} {s : Shared} {H : Hp} {p : Addr} {fs : List V} {T : List Addr} {n wd : Str} {d : D} {v : V} {u : Value} {t : Tok} {k : Nat} {Q : VK} {E : XK}
    (hgd : A.guards = some []) (hr : Room (k + 4) A) (e0 : Env0 P w K mg base A outer s H) (hp : H p = some (.lst fs)) (C : ∀ f ∈ fs, ∃ a, f = .ref a ∧ Can P w K mg base k H T a (.err (ca n) d)) (ok : RefOk K ca n wd d) (tr : ∀ a ∈ T, H a ≠ none) (tb : LamX.Tabs (TbK K) H) (rv : Rp K (hid T H) v d) (ru : RelV v u) (hq : ∀ H', Gr K H H' → Q (.bl true) H') :
    codeAny (model P w) A (.call (.ref fr) ⟨[.ref p, .str wd t, u], []⟩) (CR (L2.CX P w) outer P w H s Q E) s := by
  obtain ⟨oc, od, kV, doc, pm, an, cdv, ct, osl, rfl, lk, hcd⟩ := (Fun.ofD Fr).ex
  refine LamX.run_ofS (N := N_l_all_refused) (ps := ["calls", "word", "value"]) (us := [.ref p, .str wd t, u]) (vs := [.ref p, .str wd, v]) lk hcd sc_l_all_refused (hr.mono (j := k + 3 + 1) (Nat.le_refl _)) e0 (.of_eq (by first | rfl | with_unfolding_all rfl)) (.cons rfl (.cons ⟨t, rfl⟩ (.cons ru .nil))) rfl fun hr2 => ?_
  have nd := sc_l_all_refused.nd
  have cn : Cn (fx P w K mg base N_l_all_refused "_law_all_refused" s_l_all_refused fr cdv A outer s H E) E (k + 3) := ⟨hgd, hr2, passes_call (W := fun cls d _ H => E cls d H) (takes_of rfl rfl rfl rfl) (fun _ _ _ _ h => h), takes_of rfl rfl rfl rfl, rfl⟩
  refine ⟨_, pss_one (ps_ret (pe_cmpR (op_eqD cn.rm.units) (pe_lc (own := [("call", 3)]) cn.cm nd (pi_list (pv 0)) (blkOk_by (by rfl)) (fun _ _ _ _ _ => pg_name nd (i := 3) rfl (by first | exact .inl rfl | exact .inr rfl))
    (fun _ _ _ _ _ => by refine pts_one (pt_not (pt_val (t := tRefd P w K mg base ca k n wd d 3 1 2) ?_)); refine pe_refused (k := k) ?_ ?_ ?_ ok ?_ ?_ ?_; exact R; exact cn.gd; exact cn.rm; exact pv 3; exact pv 1; exact pv 2) (fun _ _ _ _ _ => pv 3)) (pe_lst pa_nil) (nomark _))), ?_⟩
  refine ⟨.ref p, rfl, p, rfl, ⟨fs, .inl (.inl hp)⟩, fun D hD => ?_⟩
  have hDp : D ≠ p := fun z => by rw [z, hp] at hD; cases hD
  refine lc_list (xs := fs) (fun _ H' => Gr K H H' ∧ H' D = some (.lst [])) ⟨Ext.gr (Evl.Ex.new hD), upd_same⟩ (fun i H' _ h => .inl (.inl (h.1.kp p _ hp fun _ z => nomatch z))) (fun i x H' hx ⟨g, hd⟩ => ?_) fun H' ⟨g, hd⟩ => ?_
  · obtain ⟨a, rfl, Ca⟩ := C x (List.mem_of_getElem? hx)
    refine ⟨rfl, a, v, T, rfl, rfl, rfl, Ca.later g (fun _ z => z) (fun _ z => .inl z), rv.ext g.hid, fun a z w => tr a z (g.al a w), g.tb tb, fun H2 g2 => ?_⟩
    refine ⟨true, rfl, ?_⟩
    exact ⟨g.trans g2, g2.kp D _ hd fun _ z => nomatch z⟩
  · refine ⟨Nat.zero_le _, fun q hq2 => ?_⟩
    have hn : q ≠ D := fun z => by rw [z, hd] at hq2; cases hq2
    refine ⟨.list [], .list [], .lst (.inl (.inl (by rw [upd_ne (Ne.symm hn)]; exact hd))) .nil, .lst (.inl (.inl upd_same)) .nil, rfl, rfl, ?_⟩
    exact hq _ (g.trans (Ext.gr (Evl.Ex.new hq2)))
end

end K84
/-! E5: lambdas made and refused at once. -/
namespace K84
open PySem L2 PyProof.Rows DL
section
variable {P : Program} {w : World} {K : PySem.W.Frag} {mg : Str → Option Value} {base base2 : Heap}
theorem Df_over {x : Str} {st : Stmt} {k : Nat} {ps : List Str} {F : List Sl → RF} (h : Df P w K mg base x st k ps F) (M : Mod K mg base) (kp : ∀ b o, base.get? b = some o → base2.get? b = some o) (hz : base.objs.size ≤ base2.objs.size) : Df P w K mg base2 x st k ps F := by
  obtain ⟨f, fd, h1, h2, h3⟩ := h.ex
  exact ⟨f, fd, h1, ⟨fun A outer s H args us vs Q E hg hr e0 => h2.run A outer s H args us vs Q E hg hr (env0_less e0 M kp hz)⟩, h3⟩
end
section
variable {X : Cx} {pins : List (Addr × Obj)} {σ : L2.St} {H : Hp} {s : Shared} {ca : Str → Addr}
theorem RefKit.ground (R : RefKit X.prog X.w X.K X.mg X.base ca) (I : Inv X pins σ H s) : RefKit X.prog X.w X.K X.mg (DL.ground s H (frs X.stack)) ca :=
  ⟨R.B, R.X, Df_over R.alike I.mod (fun b o e => base_ground I e) (by
    show X.base.objs.size ≤ (PySem.W.hideAll _ _).objs.size
    rw [PySem.W.hideAll_size]
    exact Nat.le_trans I.ok.bsz I.sz), R.caught, R.refused⟩
/-- a lambda without arguments, its body known -/
structure LamB (X : Cx) (k : Nat) (fb : DL.Env → RE) (params : Arguments) (body : Expr) (scope : Scope) : Prop where
  L : LamX.LamS X.env.scope scope
  hdef : defaultsOf params X.env = ([], [])
  hbind : ∀ (cl : List (Str × Addr)) (pm cv ctv : Value), bindArgs (PySem.W.kla_fn "<lambda>" (X.env.qual ++ "<lambda>") params body scope cl pm cv ctv) ⟨[], []⟩ = pure []
  hbody : ∀ (A : Around) (outer : List PySem.Env) (s : Shared) (H : Hp) (E : XK) (f c' : Addr), Cn (LamX.lamCx X A outer s H E scope f c') E k → DE (LamX.lamCx X A outer s H E scope f c') E body fb
def LamV (X : Cx) (k : Nat) (fb : DL.Env → RE) (H : Hp) (o : Obj) : Prop := ∃ (params : Arguments) (body : Expr) (scope : Scope) (pm ctv : Value) (c' : Addr), o = PySem.W.kla_obj "<lambda>" (X.env.qual ++ "<lambda>") params body scope (cloFrom X.env.cells scope.names []) pm c' ctv ∧ LamB X k fb params body scope ∧ H c' = some (LamX.CodeO c' (X.env.qual ++ "<lambda>"))
theorem LamV.gr {k : Nat} {fb : DL.Env → RE} {H' : Hp} {o : Obj} (h : LamV X k fb H o) (g : Gr X.K H H') : LamV X k fb H' o := by
  obtain ⟨a, b, c, d, e, c', h1, h2, h3⟩ := h
  exact ⟨a, b, c, d, e, c', h1, h2, g.kp _ _ h3 LamX.codeO_ne⟩
theorem lam_push {params : Arguments} {body : Expr} {scope : Scope} {pos : Pos} {k : Nat} {fb : DL.Env → RE} {E : Value → Shared → Prop} {Q : Value → Shared → Prop} (Mk : Maker X) (B : LamB X k fb params body scope) (I : Inv X pins σ H s) (hT : LamX.Tabs (TbK X.K) H)
    (h : ∀ (f : Addr) (o : Obj) (H1 : Hp) (s' : Shared), Inv X ((f, o) :: pins) σ H1 s' → Gr X.K H H1 → f ∉ frs X.stack → LamV X k fb H1 o → Q (.ref f) s') :
    wpAny (model X.prog X.w) X.A (eval (.Lambda params body scope pos) X.env) Q E s := by
  obtain ⟨c, Pt, TB, hc, hm, hu⟩ := Mk.ex
  refine lam_make3 I TB hc hm hu hT B.hdef (B.L.has I.ok) fun f c' pm ctv H1 s' I1 g hf hfn hfr hfs hfl hco => ?_
  refine h f _ H1 s' (I1.pins_of fun p hp => ?_) g hfr ⟨params, body, scope, pm, ctv, c', rfl, B, hco⟩
  rcases List.mem_cons.mp hp with e | e
  · rw [e]
    exact ⟨hf, hfn, hfl, hfs, fun v z => nomatch z⟩
  · exact I1.pin p (List.mem_append_right _ e)
theorem can_of {τ : Nat → Addr} {A0 P : List Addr} {ρ : DL.Env} {f : Addr} {o : Obj} {k : Nat} {fb : DL.Env → RE} {r : FO} (Mk : Maker X) (I : Inv X pins σ H s) (S : SRep X.K τ A0 H σ ρ P) (hm : (f, o) ∈ pins) (hfr : f ∉ frs X.stack) (hv : LamV X k fb H o) (ho : foOf (fb (pubE ρ)) = some r) :
    Can X.prog X.w X.K X.mg (DL.ground s H (frs X.stack)) (k + 1) H (P ++ A0) f r := by
  obtain ⟨params, body, scope, pm, ctv, c', rfl, B, hco⟩ := hv
  obtain ⟨h1, h2, _⟩ := I.pin _ (List.mem_append_right _ hm)
  exact lam_can (I.pins_of (pins' := []) fun p hp => absurd hp (by simp)) Mk.fn S B.L h1 h2 hfr hco (B.hbind _ _ _ _) B.hbody ho
end
section
variable {X : Cx} {ca : Str → Addr} {E : XK}
open Classical in
/-- _law_refused(lambda: .., wd, x) -/
noncomputable def fRefd (K : PySem.W.Frag) (ca : Str → Addr) (n wd : Str) (fb : DL.Env → RE) (i : Nat) : DL.Env → RE := fun ρ => match ρ[i]? with
  | some (some (.pub m d)) => if fb (pubE ρ) = .err (ca n) d ∧ RefOk K ca n wd d then .ok (.pu (.bool true)) ρ else .st
  | _ => .st
theorem de_refLam {n wd : Str} {k i : Nat} {fb : DL.Env → RE} {params : Arguments} {body : Expr} {scope : Scope} {y : Str} {kd : Nat} {p p1 p2 p3 pos : Pos} (Mk : Maker X) (c : Cn X E (k + 4)) (R : RefKit X.prog X.w X.K X.mg X.base ca) (B : LamB X k fb params body scope) (hv : PE X (.Name y p3) (tVar i)) (hg : Gl X "_law_refused" := by rfl)
    (he : starEach [.Lambda params body scope p1, .Constant (.str wd) kd p2, .Name y p3] X.env = (false, eval (.Lambda params body scope p1) X.env) :: starEach [.Constant (.str wd) kd p2, .Name y p3] X.env := by rfl) (he2 : starEach [.Constant (.str wd) kd p2, .Name y p3] X.env = (false, eval (.Constant (.str wd) kd p2) X.env) :: starEach [.Name y p3] X.env := by rfl)
    (he3 : starEach [.Name y p3] X.env = (false, eval (.Name y p3) X.env) :: starEach [] X.env := by rfl) (hpl : (backTo pos (starEach [.Constant (.str wd) kd p2, .Name y p3] X.env)).any (·.1) = false := by rfl) :
    DE X E (.Call (.Name "_law_refused" p) [.Lambda params body scope p1, .Constant (.str wd) kd p2, .Name y p3] [] pos) (fRefd X.K ca n wd fb i) := by
  obtain ⟨fc, fdc, Fc, hmc⟩ := R.caught
  obtain ⟨fr, fdr, Fr, hmr⟩ := R.refused
  refine ⟨⟨fun pins s σ H Q I ⟨τ, A0, P, ρ, S, cc⟩ => ?_⟩⟩
  unfold fRefd at cc
  split at cc
  next m d q =>
    split at cc
    next hh =>
      obtain ⟨hfb, ok⟩ := hh
      obtain ⟨v, hσ, rv⟩ := S.puD q
      refine wpAny_Call_Name_kw (ld_glob I hg hmr ?_ (by decide))
      refine PySem.W.callWith_K (h₀ := X.base) I.ok.mod.kin Fr.kp ?_ he hpl
      rw [he]
      show wpAny _ _ (spliced ((false, eval (.Lambda params body scope p1) X.env) :: backTo pos (starEach [.Constant (.str wd) kd p2, .Name y p3] X.env))) _ _ s
      refine Calls.spliced_cons (lam_push Mk B I S.tb fun f o H1 s1 I1 g hfr lv => ?_)
      refine thn ((pa_cons pe_str (pa_cons hv pa_nil he3) he2).run pos ((f, o) :: pins) s1 σ H1 (fun vs H2 => vs = [.str wd, v] ∧ H2 = H1) I1 ⟨v, hσ, rfl, rfl⟩) fun us s2 ⟨vs, H2, I2, r, e1, e2⟩ => ⟨I2.kIn, ?_⟩
      subst e1
      rw [e2] at I2
      have S1 := S.grow g
      have C := can_of Mk I2 S1 List.mem_cons_self hfr lv (r := .err (ca n) d) (by rw [hfb]; rfl)
      have I3 : Inv X pins σ H1 s2 := I2.pins_of fun p hp => I2.pin p (List.mem_append_right _ (List.mem_cons_of_mem _ hp))
      have R2 := R.ground I2
      cases r with
      | cons r2 r =>
        cases r with
        | cons r3 r =>
          cases r
          obtain ⟨t, rfl⟩ := r2
          refine wpAny_call (codeAny_mono (refused_run (Q := Q) (E := L2.E0) R2.B R2.X R2.alike Fc hmc Fr c.gd c.rm (env0_ground I2) C ok S1.tr S1.tb (rv.ext g.hid) r3 fun H' g2 => cc (.bl true) H' P (Stp.gr (g.trans g2)) (S.grow (g.trans g2)) (.bl true)) fun r s' hq => ?_)
          cases r with
          | error e => exact (passL (X := X) pins σ H1 s2 e s' I3 hq)
          | ok fl =>
            cases fl with
            | ret u => exact I3.after hq
            | next => exact False.elim hq
            | brk => exact False.elim hq
            | cont => exact False.elim hq
    next => exact cc.elim
  next => exact cc.elim
end

end K84
/-! E6: a list of lambdas, all refused. -/
namespace K84
open PySem L2 PyProof.Rows DL
section
variable {X : Cx}
inductive LamEs (X : Cx) (k : Nat) : List Expr → List (DL.Env → RE) → Prop
  | nil : LamEs X k [] []
  | cons {params : Arguments} {body : Expr} {scope : Scope} {pos : Pos} {fb : DL.Env → RE} {es : List Expr} {fbs : List (DL.Env → RE)} : LamB X k fb params body scope → starEach (.Lambda params body scope pos :: es) X.env = (false, eval (.Lambda params body scope pos) X.env) :: starEach es X.env → LamEs X k es fbs → LamEs X k (.Lambda params body scope pos :: es) (fb :: fbs)
inductive LamFs (X : Cx) (k : Nat) (pins : List (Addr × Obj)) (H : Hp) : List V → List (DL.Env → RE) → Prop
  | nil : LamFs X k pins H [] []
  | cons {f : Addr} {o : Obj} {fs : List V} {fb : DL.Env → RE} {fbs : List (DL.Env → RE)} : (f, o) ∈ pins → f ∉ frs X.stack → LamV X k fb H o → LamFs X k pins H fs fbs → LamFs X k pins H (.ref f :: fs) (fb :: fbs)
theorem LamFs.more {k : Nat} {pins pins' : List (Addr × Obj)} {H H' : Hp} (g : Gr X.K H H') (h : ∀ p ∈ pins, p ∈ pins') : ∀ {fs : List V} {fbs : List (DL.Env → RE)}, LamFs X k pins H fs fbs → LamFs X k pins' H' fs fbs
  | _, _, .nil => .nil
  | _, _, .cons a b c d => .cons (h _ a) b (c.gr g) (d.more g h)
theorem lams_run {k : Nat} {σ : L2.St} (Mk : Maker X) (pos : Pos) {E : Value → Shared → Prop} : ∀ {es : List Expr} {fbs : List (DL.Env → RE)} {pins : List (Addr × Obj)} {H : Hp} {s : Shared} {Q : List Value → Shared → Prop}, LamEs X k es fbs → Inv X pins σ H s → LamX.Tabs (TbK X.K) H →
    (∀ (fs : List V) (us : List Value) (pins' : List (Addr × Obj)) (H1 : Hp) (s1 : Shared), Inv X pins' σ H1 s1 → (∀ p ∈ pins, p ∈ pins') → Gr X.K H H1 → LamFs X k pins' H1 fs fbs → fs.length = fbs.length → Vals fs us → Q us s1) →
    wpAny (model X.prog X.w) X.A (spliced (backTo pos (starEach es X.env))) Q E s
  | _, _, pins, H, s, Q, .nil, I, hT, h => Calls.spliced_nil (h [] [] pins H s I (fun _ z => z) (Ext.gr (Ext.rfl H)) .nil rfl .nil)
  | _, _, pins, H, s, Q, .cons (params := params) (body := body) (scope := scope) (pos := lp) (es := es) B he r, I, hT, h => by
    rw [he]
    show wpAny _ _ (spliced ((false, eval (.Lambda params body scope lp) X.env) :: backTo pos (starEach es X.env))) _ _ s
    refine Calls.spliced_cons (lam_push Mk B I hT fun f o H1 s1 I1 g hfr lv => ?_)
    refine lams_run Mk pos r I1 (g.tb hT) fun fs us pins' H2 s2 I2 hp g2 lf hl hv => ?_
    exact h (.ref f :: fs) (.ref f :: us) pins' H2 s2 I2 (fun p z => hp p (List.mem_cons_of_mem _ z)) (g.trans g2) (.cons (hp _ List.mem_cons_self) hfr (lv.gr g2) lf) (by simp [hl]) (.cons rfl hv)
end
section
variable {X : Cx} {ca : Str → Addr} {E : XK}
open Classical in
/-- _law_all_refused([lambda: .., ..], wd, x) -/
noncomputable def fAllRefd (K : PySem.W.Frag) (ca : Str → Addr) (n wd : Str) (fbs : List (DL.Env → RE)) (i : Nat) : DL.Env → RE := fun ρ => match ρ[i]? with
  | some (some (.pub m d)) => if (∀ fb ∈ fbs, fb (pubE ρ) = .err (ca n) d) ∧ RefOk K ca n wd d ∧ fbs.length ≤ sizeLine then .ok (.pu (.bool true)) ρ else .st
  | _ => .st
theorem LamFs.cans {pins : List (Addr × Obj)} {σ : L2.St} {H : Hp} {s : Shared} {τ : Nat → Addr} {A0 P : List Addr} {ρ : DL.Env} {k : Nat} {r : FO} (Mk : Maker X) (I : Inv X pins σ H s) (S : SRep X.K τ A0 H σ ρ P) : ∀ {fs : List V} {fbs : List (DL.Env → RE)}, LamFs X k pins H fs fbs → (∀ fb ∈ fbs, foOf (fb (pubE ρ)) = some r) →
    ∀ f ∈ fs, ∃ a, f = V.ref a ∧ Can X.prog X.w X.K X.mg (DL.ground s H (frs X.stack)) (k + 1) H (P ++ A0) a r
  | _, _, .nil, _, f, hf => absurd hf (by simp)
  | _, _, .cons a b c d, h, f, hf => by
    rcases List.mem_cons.mp hf with e | e
    · exact ⟨_, e, can_of Mk I S a b c (h _ List.mem_cons_self)⟩
    · exact LamFs.cans Mk I S d (fun fb z => h fb (List.mem_cons_of_mem _ z)) f e
theorem de_allLam {n wd : Str} {k i : Nat} {es : List Expr} {fbs : List (DL.Env → RE)} {y : Str} {kd : Nat} {p p1 p2 p3 pos : Pos} (Mk : Maker X) (c : Cn X E (k + 5)) (R : RefKit X.prog X.w X.K X.mg X.base ca) (hfa : ∃ fa fda, FunD X.K "_law_all_refused" "_law_all_refused" (defArgs s_l_all_refused) (defBody s_l_all_refused) (defScope s_l_all_refused) [] [] fa fda ∧ X.mg "_law_all_refused" = some (.ref fa))
    (B : LamEs X k es fbs) (hv : PE X (.Name y p3) (tVar i)) (hg : Gl X "_law_all_refused" := by rfl)
    (he : starEach [.List es p1, .Constant (.str wd) kd p2, .Name y p3] X.env = (false, eval (.List es p1) X.env) :: starEach [.Constant (.str wd) kd p2, .Name y p3] X.env := by rfl) (he2 : starEach [.Constant (.str wd) kd p2, .Name y p3] X.env = (false, eval (.Constant (.str wd) kd p2) X.env) :: starEach [.Name y p3] X.env := by rfl)
    (he3 : starEach [.Name y p3] X.env = (false, eval (.Name y p3) X.env) :: starEach [] X.env := by rfl) (hpl : (backTo pos (starEach [.Constant (.str wd) kd p2, .Name y p3] X.env)).any (·.1) = false := by rfl) :
    DE X E (.Call (.Name "_law_all_refused" p) [.List es p1, .Constant (.str wd) kd p2, .Name y p3] [] pos) (fAllRefd X.K ca n wd fbs i) := by
  obtain ⟨fa, fda, Fa, hma⟩ := hfa
  refine ⟨⟨fun pins s σ H Q I ⟨τ, A0, P, ρ, S, cc⟩ => ?_⟩⟩
  unfold fAllRefd at cc
  split at cc
  next m d q =>
    split at cc
    next hh =>
      obtain ⟨hfb, ok, hz⟩ := hh
      obtain ⟨v, hσ, rv⟩ := S.puD q
      refine wpAny_Call_Name_kw (ld_glob I hg hma ?_ (by decide))
      refine PySem.W.callWith_K (h₀ := X.base) I.ok.mod.kin Fa.kp ?_ he hpl
      rw [he]
      show wpAny _ _ (spliced ((false, eval (.List es p1) X.env) :: backTo pos (starEach [.Constant (.str wd) kd p2, .Name y p3] X.env))) _ _ s
      refine Calls.spliced_cons (wpAny_List_spliced (lams_run Mk p1 B I S.tb fun fs us pins' H1 s1 I1 hp g lf hl hvs => ⟨by rw [← hvs.length, hl]; exact hz, ?_⟩))
      have hf : H1 s1.heap.objs.size = none := I1.hok.fresh (Nat.le_refl _)
      have I1' : Inv X pins' σ (upd H1 s1.heap.objs.size (.lst fs)) { s1 with heap := s1.heap.push { cls := .type "list", data := .seq us.toArray } } := I1.laid (t' := s1.toks) (fun b u e => Heap.get?_push_of_some _ e) (Nat.le_refl _) ⟨by rw [hl]; exact hz, us, 0, hvs, Heap.get?_push_size _ rfl⟩
      have g1 : Gr X.K H1 (upd H1 s1.heap.objs.size (.lst fs)) := Ext.gr (Evl.Ex.new hf)
      have hpl1 : (upd H1 s1.heap.objs.size (.lst fs)) s1.heap.objs.size = some (.lst fs) := upd_same
      generalize upd H1 s1.heap.objs.size (.lst fs) = H3 at I1' g1 hpl1
      generalize s1.heap.objs.size = pl at I1' hpl1 hf ⊢
      generalize ({ s1 with heap := s1.heap.push { cls := .type "list", data := .seq us.toArray } } : Shared) = s3 at I1' ⊢
      refine thn ((pa_cons pe_str (pa_cons hv pa_nil he3) he2).run pos pins' s3 σ H3 (fun vs H2 => vs = [.str wd, v] ∧ H2 = H3) I1' ⟨v, hσ, rfl, rfl⟩) fun us2 s2 ⟨vs, H2, I2, r, e1, e2⟩ => ⟨I2.kIn, ?_⟩
      subst e1
      rw [e2] at I2
      have g3 := g.trans g1
      have S1 := S.grow g3
      have C := LamFs.cans (r := .err (ca n) d) Mk I2 S1 (lf.more g1 fun _ z => z) fun fb z => by rw [hfb fb z]; rfl
      have I3 : Inv X pins σ H3 s2 := I2.pins_of fun p z => I2.pin p (List.mem_append_right _ (hp p z))
      have R2 := R.ground I2
      cases r with
      | cons r2 r =>
        cases r with
        | cons r3 r =>
          cases r
          obtain ⟨t, rfl⟩ := r2
          refine wpAny_call (codeAny_mono (all_refused_run (Q := Q) (E := L2.E0) R2 Fa c.gd c.rm (env0_ground I2) hpl1 C ok S1.tr S1.tb (rv.ext g3.hid) r3 fun H' g2 => cc (.bl true) H' P (Stp.gr (g3.trans g2)) (S.grow (g3.trans g2)) (.bl true)) fun r s' hq => ?_)
          cases r with
          | error e => exact (passL (X := X) pins σ H3 s2 e s' I3 hq)
          | ok fl =>
            cases fl with
            | ret u => exact I3.after hq
            | next => exact False.elim hq
            | brk => exact False.elim hq
            | cont => exact False.elim hq
    next => exact cc.elim
  next => exact cc.elim
end

end K84
/-! E7: _law_same. -/
namespace K84
open PySem L2 PyProof.Rows DL
abbrev s_l_same : Stmt := top 50
abbrev N_l_same : List Str := ["told", "due", "at"]
theorem sc_l_same : FnScope N_l_same ["told", "due"] (defScope s_l_same) := ⟨rfl, rfl, rfl, by decide +kernel, rfl, by decide +kernel, by decide +kernel⟩
def g_l_same (Fs : List Sl → RF) : DL.Env → RS := sSeq (sIf (fOr (fOp2 gIsN (fVar 1) (fC .none)) (fOr (fOp2 gIsN (fVar 1) (fC (.bool true))) (fOp2 gIsN (fVar 1) (fC (.bool false))))) (sRet (fIf (fOp2 gIsN (fVar 1) (fC .none)) (fOp2 gIsN (fVar 0) (fC .none)) (fIf (fOp2 gIsN (fVar 1) (fC (.bool true))) (fOp2 gIsN (fVar 0) (fC (.bool true))) (fOp2 gIsN (fVar 0) (fC (.bool false)))))) (.nx)) (sSeq (sIf (fOp1 (gIsi2 "list" "tuple") (fVar 1)) (sSeq (sIf (fOr (fAnd (fNot (fOp1 (gIsi "list") (fVar 0))) (fOp1 (gIsi "list") (fVar 1))) (fAnd (fNot (fOp1 (gIsi "tuple") (fVar 0))) (fOp1 (gIsi "tuple") (fVar 1)))) (sRet (fC (.bool false))) (.nx)) (sRet (fAnd (fOp2 gEq (bndA (fCons (fVar 0) (fNil)) gLen) (bndA (fCons (fVar 1) (fNil)) gLen)) (fOp2 gEq (fLc (srcA (fCons (bndA (fCons (fVar 1) (fNil)) gLen) (fNil)) kRng1) (bName 2) (fNot (fCall 2 Fs (fCons (fOp2 gIx (fVar 0) (fVar 2)) (fCons (fOp2 gIx (fVar 1) (fVar 2)) (fNil))))) (fVar 2) [2]) (bndA (fNil) gMkL))))) (.nx)) (sSeq (sIf (fOp1 (gIsi "int") (fVar 1)) (sRet (fAnd (fOp1 (gIsi "int") (fVar 0)) (fAnd (fNot (fOp1 (gIsi "bool") (fVar 0))) (fOp2 gEq (fVar 0) (fVar 1))))) (.nx)) (sRet (fAnd (fOp1 (gIsi "str") (fVar 0)) (fOp2 gEq (fVar 0) (fVar 1))))))
def F_l_same : Nat → List Sl → RF
  | 0 => fun _ => .st
  | n + 1 => fnF 3 (g_l_same (F_l_same n))
theorem b_l_same {P : Program} {w : World} {K : PySem.W.Frag} {mg : Str → Option Value} {base : Heap} {k : Nat} {Fs : List Sl → RF} (B : Bl mg) (d_l_same : Df P w K mg base "_law_same" s_l_same k ["told", "due"] Fs) {f : Addr} {cdv : Value} {A : Around} {outer : List PySem.Env} {s : Shared} {H : Hp} {E : XK} (c : Cn (fx P w K mg base N_l_same "_law_same" s_l_same f cdv A outer s H E) E k) :
    DSs (fx P w K mg base N_l_same "_law_same" s_l_same f cdv A outer s H E) E (defBody s_l_same) (g_l_same Fs) := by
  have nd := sc_l_same.nd
  exact dss_cons (ds_if (dt_w (dw_or (t_is (de_var (pv 1)) (de_non)) (dw_or (t_is (de_var (pv 1)) (de_bl)) (dw_or1 (t_is (de_var (pv 1)) (de_bl)))))) (dss_one (ds_ret (de_if (t_is (de_var (pv 1)) (de_non)) (d_is (de_var (pv 0)) (de_non)) (de_if (t_is (de_var (pv 1)) (de_bl)) (d_is (de_var (pv 0)) (de_bl)) (d_is (de_var (pv 0)) (de_bl)))))) (dss_nil))
    (dss_cons (ds_if (dt_val (d_isi2 B "list" "tuple" "list" "tuple" rfl rfl B.list bt_list B.tuple bt_tuple (de_var (pv 1)))) (dss_cons (ds_if (dt_w (dw_or (dt_w (dw_and (dt_not (dt_val (d_isi B "list" "list" rfl B.list bt_list (de_var (pv 0))))) (dw_and1 (dt_val (d_isi B "list" "list" rfl B.list bt_list (de_var (pv 1))))))) (dw_or1 (dt_w (dw_and (dt_not (dt_val (d_isi B "tuple" "tuple" rfl B.tuple bt_tuple (de_var (pv 0))))) (dw_and1 (dt_val (d_isi B "tuple" "tuple" rfl B.tuple bt_tuple (de_var (pv 1)))))))))) (dss_one (ds_ret (de_bl))) (dss_nil))
    (dss_one (ds_ret (de_and (d_eq c.rm.units (d_len B (da_cons (de_var (pv 0)) (da_nil))) (d_len B (da_cons (de_var (pv 1)) (da_nil)))) (de_one (d_eq c.rm.units (de_lc (own := [("at", 2)]) c.cm nd (di_rng1 rfl B.range (da_cons (d_len B (da_cons (de_var (pv 1)) (da_nil))) (da_nil))) (blkOk_by (by rfl)) (gt_name) (by decide) (fun _ _ _ _ _ => pg_name nd (i := 2) rfl (by first | exact .inl rfl | exact .inr rfl)) (fun _ _ _ _ _ => dts_one (dt_not (dt_val (de_call (hk := Nat.le_refl _) d_l_same c.blk (da_cons (d_ix (de_var (pv 0)) (de_var (pv 2))) (da_cons (d_ix (de_var (pv 1)) (de_var (pv 2))) (da_nil))))))) (fun _ _ _ _ _ => de_var (pv 2))) (de_mkL (da_nil)))))))) (dss_nil))
    (dss_cons (ds_if (dt_val (d_isi B "int" "int" rfl B.int bt_int (de_var (pv 1)))) (dss_one (ds_ret (de_and (d_isi B "int" "int" rfl B.int bt_int (de_var (pv 0))) (de_and (de_not (d_isi B "bool" "bool" rfl B.bool bt_bool (de_var (pv 0)))) (de_one (d_eq c.rm.units (de_var (pv 0)) (de_var (pv 1)))))))) (dss_nil))
    (dss_one (ds_ret (de_and (d_isi B "str" "str" rfl B.str bt_str (de_var (pv 0))) (de_one (d_eq c.rm.units (de_var (pv 0)) (de_var (pv 1)))))))))
theorem df_l_same {P : Program} {w : World} {K : PySem.W.Frag} {mg : Str → Option Value} {base : Heap} (B : Bl mg) {f : Addr} {fd : FuncData} (F : FunD K "_law_same" "_law_same" (defArgs s_l_same) (defBody s_l_same) (defScope s_l_same) [] [] f fd) (hm : mg "_law_same" = some (.ref f)) : ∀ n, Df P w K mg base "_law_same" s_l_same n ["told", "due"] (F_l_same n)
  | 0 => by
    refine ⟨f, fd, hm, ⟨fun A outer s H args us vs Q E hg hr e0 hb r hl h => ?_⟩, F.kp, ?_, ?_⟩
    · obtain ⟨τ, A0, P0, as, S, c⟩ := h
      exact (show False from c).elim
    · obtain ⟨oc, od, kV, doc, pm, an, cdv, ct, osl, rfl, lk, hcd⟩ := (Fun.ofD F).ex
      exact fun us hl => match us, hl with | [_, _], _ => rfl
    · obtain ⟨oc, od, kV, doc, pm, an, cdv, ct, osl, rfl, lk, hcd⟩ := (Fun.ofD F).ex
      exact ⟨kV, doc, pm, an, cdv, ct, rfl⟩
  | n + 1 => Df.mk' F hm sc_l_same rfl (fun _ _ _ _ _ _ us hl => match us, hl with | [_, _], _ => rfl) fun cdv A outer s H E c => b_l_same B (df_l_same B F hm n) c

end K84
/-! E8: _law_weights_right. -/
namespace K84
open PySem L2 PyProof.Rows DL
abbrev s_l_weights_right : Stmt := top 64
abbrev N_l_weights_right : List Str := ["generator", "weights", "number", "kept", "due", "whole", "broken", "weight", "extra", "plain", "more", "less", "at", "told", "values", "turn", "one", "other", "value", "right", "much"]
theorem sc_l_weights_right : FnScope N_l_weights_right ["generator", "weights", "number"] (defScope s_l_weights_right) := ⟨rfl, rfl, rfl, by decide +kernel, rfl, by decide +kernel, by decide +kernel⟩
noncomputable def g_l_weights_right (K : PySem.W.Frag) (ca : Str → Addr) : DL.Env → RS := sSeq (sBind (bTup [bName 3, bName 4, bName 5]) (bndA (fCons (bndA (fCons (fVar 1) (fNil)) gRepr) (fCons (fCall 2 F_l_shares (fCons (fVar 1) (fCons (fVar 2) (fNil)))) (fCons (bndA (fCons (fVar 1) (fNil)) gSum) (fNil)))) gMkT)) (sSeq (sPut 6 (bndA (fCons (fLc (srcE (fVar 1) itemsL) (bName 7) (fOp2 gGt (fOp2 gMod (bndA (fCons (fOp2 gMul (fVar 7) (fVar 2)) (fNil)) gInt1) (fVar 5)) (fC (.int 0))) (fVar 7) [7]) (fNil)) gLen)) (sSeq (sPut 8 (fOp2 gSub (fVar 2) (bndA (fCons (fLc (srcE (fVar 1) itemsL) (bName 7) (fC (.bool true)) (fOp2 gDiv (fOp2 gMul (fVar 7) (fVar 2)) (fVar 5)) [7]) (fNil)) gSum))) (sSeq (sPut 9 (fLc (srcE (fVar 1) itemsL) (bName 7) (fC (.bool true)) (fOp2 gDiv (fOp2 gAdd (fOp2 gMul (fOp2 gMul (fC (.int 2)) (fVar 7)) (fVar 2)) (fVar 5)) (fOp2 gMul (fC (.int 2)) (fVar 5))) [7])) (sSeq (sPut 10 (fCall 2 F_l_shares (fCons (fVar 1) (fCons (fOp2 gAdd (fVar 2) (fC (.int 1))) (fNil))))) (sSeq (sPut 11 (fLc (srcA (fCons (bndA (fCons (fVar 1) (fNil)) gLen) (fNil)) kRng1) (bName 12) (fOp2 gLt (fOp2 gIx (fVar 10) (fVar 12)) (fOp2 gIx (fVar 4) (fVar 12))) (fVar 12) [12])) (sSeq (sTold 13 (fCall 2 (F_shares_of ca) (fCons (fVar 1) (fCons (fVar 2) (fNil)))) (fCons (fCall 2 (F_share_count ca) (fCons (fVar 1) (fCons (fVar 2) (fNil)))) (fCons (fCall 2 (F_plain_shares ca) (fCons (fVar 1) (fCons (fVar 2) (fNil)))) (fCons (fCall 2 (F_gap_of ca) (fCons (fVar 1) (fCons (fVar 2) (fNil)))) (fCons (fCall 2 (F_paradox ca) (fCons (fVar 1) (fCons (fVar 2) (fNil)))) (fCons (fCall 3 (F_missed ca) (fCons (fVar 4) (fCons (fVar 1) (fCons (fVar 2) (fNil))))) (fNil)))))) (fNot (fCall 2 (F_l_same 8) (fCons (fVar 13) (fCons (bndA (fCons (fVar 4) (fCons (fCall 2 F_l_ways (fCons (fVar 6) (fCons (fVar 8) (fNil)))) (fCons (fVar 9) (fCons (fOp2 gSub (bndA (fCons (fVar 9) (fNil)) gSum) (fVar 2)) (fCons (fIf (fOp2 gNe (fVar 11) (bndA (fNil) gMkL)) (fOp2 gIx (fVar 11) (fC (.int 0))) (fC .none)) (fCons (fCall 3 F_l_missed (fCons (fVar 1) (fCons (fVar 2) (fCons (fVar 4) (fNil))))) (fNil))))))) gMkL) (fNil))))) (sRet (fC (.bool false)))) (sSeq (sPut 13 (bndA (fCons (fCallG 2 (pick .none [1, 0]) (F_shares_of ca) (fCons (fVar 2) (fCons (fVar 1) (fNil)))) (fCons (fCallG 2 (pick .none [1, 0]) (F_plain_shares ca) (fCons (fVar 2) (fCons (fVar 1) (fNil)))) (fCons (fCallG 2 (pick .none [1, 0]) (F_gap_of ca) (fCons (fVar 2) (fCons (fVar 1) (fNil)))) (fNil)))) gMkL)) (sSeq (sPut 13 (fOp2 gAdd (fVar 13) (bndA (fCons (fCallG 2 (pick .none [1, 0]) (F_share_count ca) (fCons (fVar 2) (fCons (fVar 1) (fNil)))) (fCons (fCallG 2 (pick .none [1, 0]) (F_paradox ca) (fCons (fVar 2) (fCons (fVar 1) (fNil)))) (fNil))) gMkL))) (sSeq (sIf (fNot (fCall 2 (F_l_same 8) (fCons (fVar 13) (fCons (bndA (fCons (fVar 4) (fCons (fVar 9) (fCons (fOp2 gSub (bndA (fCons (fVar 9) (fNil)) gSum) (fVar 2)) (fCons (fCall 2 F_l_ways (fCons (fVar 6) (fCons (fVar 8) (fNil)))) (fCons (fIf (fOp2 gNe (fVar 11) (bndA (fNil) gMkL)) (fOp2 gIx (fVar 11) (fC (.int 0))) (fC .none)) (fNil)))))) gMkL) (fNil))))) (sRet (fC (.bool false))) (.nx)) (sSeq (sOwn 14 (bndA (fCons (fVar 4) (fCons (fOp1 gRev (fVar 4)) (fCons (fOp1 (gCut (some 1) none) (fVar 4)) (fCons (fOp2 gAdd (fVar 4) (bndA (fCons (fC (.int 0)) (fNil)) gMkL)) (fCons (bndA (fCons (fVar 4) (fNil)) gTupleOf) (fCons (fVar 9) (fCons (fC .none) (fCons (fC (.int 7)) (fCons (fDict0) (fCons (fOp2 gMul (bndA (fCons (fC .none) (fNil)) gMkL) (bndA (fCons (fVar 4) (fNil)) gLen)) (fNil))))))))))) gMkL)) (sSeq (sFor (srcA (fCons (fC (.int 8)) (fNil)) kRng1) (bName 15) (sSeq (sPar 16 17 (fLend 2 0 F_l_random (fCons (bndA (fCons (fVar 4) (fNil)) gLen) (fNil))) (fLend 2 0 F_l_random (fCons (bndA (fCons (fVar 4) (fNil)) gLen) (fNil)))) (sApp 14 (fIf (fOp2 gEq (fVar 16) (fVar 17)) (fCall 3 F_l_put (fCons (fVar 4) (fCons (fVar 16) (fCons (fOp2 gAdd (fOp2 gIx (fVar 4) (fVar 16)) (fC (.int 1))) (fNil))))) (fCall 3 F_l_put (fCons (fCall 3 F_l_put (fCons (fVar 4) (fCons (fVar 16) (fCons (fOp2 gAdd (fOp2 gIx (fVar 4) (fVar 16)) (fC (.int 1))) (fNil))))) (fCons (fVar 17) (fCons (fOp2 gSub (fOp2 gIx (fVar 4) (fVar 17)) (fC (.int 1))) (fNil))))))))) (sSeq (sFor (srcE (fVar 14) itemsL) (bName 18) (sSeq (sPut 19 (fCall 3 F_l_are_shares (fCons (fVar 1) (fCons (fVar 2) (fCons (fVar 18) (fNil)))))) (sSeq (sIf (fNot (fCall 2 (F_l_same 8) (fCons (bndA (fCons (fCall 3 (F_are_shares ca) (fCons (fVar 1) (fCons (fVar 2) (fCons (fVar 18) (fNil))))) (fCons (fCallG 3 (pick .none [2, 1, 0]) (F_are_shares ca) (fCons (fVar 18) (fCons (fVar 2) (fCons (fVar 1) (fNil))))) (fNil))) gMkL) (fCons (bndA (fCons (fVar 19) (fCons (fVar 19) (fNil))) gMkL) (fNil))))) (sRet (fC (.bool false))) (.nx)) (sIf (fAnd (fOp1 (gIsi "list") (fVar 18)) (fAnd (fOp2 gEq (bndA (fCons (fVar 18) (fNil)) gLen) (bndA (fCons (fVar 4) (fNil)) gLen)) (fAnd (fOp2 gEq (fLc (srcE (fVar 18) itemsL) (bName 16) (fNot (fCall 1 F_l_is_count (fCons (fVar 16) (fNil)))) (fVar 16) [16]) (bndA (fNil) gMkL)) (fOp2 gEq (bndA (fCons (fVar 18) (fNil)) gSum) (fVar 2))))) (sSeq (sPut 20 (fCall 3 F_l_missed (fCons (fVar 1) (fCons (fVar 2) (fCons (fVar 18) (fNil)))))) (sIf (fOr (fNot (fCall 2 (F_l_same 8) (fCons (bndA (fCons (fCall 3 (F_missed ca) (fCons (fVar 18) (fCons (fVar 1) (fCons (fVar 2) (fNil))))) (fCons (fCallG 3 (pick .none [2, 1, 0]) (F_missed ca) (fCons (fVar 2) (fCons (fVar 1) (fCons (fVar 18) (fNil))))) (fNil))) gMkL) (fCons (bndA (fCons (fVar 20) (fCons (fVar 20) (fNil))) gMkL) (fNil))))) (fCall 2 F_l_less (fCons (fVar 20) (fCons (fCall 3 F_l_missed (fCons (fVar 1) (fCons (fVar 2) (fCons (fVar 4) (fNil))))) (fNil))))) (sRet (fC (.bool false))) (.nx))) (sIf (fNot (fRefd K ca "InvalidTable" "table" (fCall 3 (F_missed ca) (fCons (fVar 18) (fCons (fVar 1) (fCons (fVar 2) (fNil))))) 18)) (sRet (fC (.bool false))) (.nx)))))) (sRet (fOp2 gEq (bndA (fCons (fVar 1) (fNil)) gRepr) (fVar 3)))))))))))))))
noncomputable def F_l_weights_right (K : PySem.W.Frag) (ca : Str → Addr) : List Sl → RF := fnF 21 (g_l_weights_right K ca)
theorem b_l_weights_right {P : Program} {w : World} {K : PySem.W.Frag} {mg : Str → Option Value} {base : Heap} {ca : Str → Addr} (B : Bl mg) (d_l_shares : Df P w K mg base "_law_shares" s_l_shares 2 ["weights", "number"] F_l_shares) (d_shares_of : Df P w K mg base "shares_of" s_shares_of 5 ["weights", "number"] (F_shares_of ca)) (d_missed : Df P w K mg base "missed" s_missed 5 ["shares", "weights", "number"] (F_missed ca)) (d_paradox : Df P w K mg base "paradox" s_paradox 5 ["weights", "number"] (F_paradox ca)) (d_gap_of : Df P w K mg base "gap_of" s_gap_of 5 ["weights", "number"] (F_gap_of ca)) (d_plain_shares : Df P w K mg base "plain_shares" s_plain_shares 5 ["weights", "number"] (F_plain_shares ca)) (d_share_count : Df P w K mg base "share_count" s_share_count 5 ["weights", "number"] (F_share_count ca)) (d_l_same : Df P w K mg base "_law_same" s_l_same 8 ["told", "due"] (F_l_same 8)) (d_l_missed : Df P w K mg base "_law_missed" s_l_missed 3 ["weights", "number", "value"] F_l_missed) (d_l_ways : Df P w K mg base "_law_ways" s_l_ways 1 ["many", "some"] F_l_ways) (d_l_random : Df P w K mg base "_law_random" s_l_random 2 ["generator", "bound"] F_l_random) (d_l_put : Df P w K mg base "_law_put" s_l_put 1 ["things", "at", "thing"] F_l_put) (d_l_are_shares : Df P w K mg base "_law_are_shares" s_l_are_shares 2 ["weights", "number", "value"] F_l_are_shares) (d_are_shares : Df P w K mg base "are_shares" s_are_shares 5 ["weights", "number", "value"] (F_are_shares ca)) (d_l_is_count : Df P w K mg base "_law_is_count" s_l_is_count 1 ["value"] F_l_is_count) (d_l_less : Df P w K mg base "_law_less" s_l_less 1 ["one", "other"] F_l_less) (R : RefKit P w K mg base ca) {f : Addr} {cdv : Value} {A : Around} {outer : List PySem.Env} {s : Shared} {H : Hp} {E : XK} (Mk : Maker (fx P w K mg base N_l_weights_right "_law_weights_right" s_l_weights_right f cdv A outer s H E)) (c : Cn (fx P w K mg base N_l_weights_right "_law_weights_right" s_l_weights_right f cdv A outer s H E) E 11) :
    DSs (fx P w K mg base N_l_weights_right "_law_weights_right" s_l_weights_right f cdv A outer s H E) E (defBody s_l_weights_right) (g_l_weights_right K ca) := by
  have nd := sc_l_weights_right.nd
  exact dss_cons (ds_asg (gt_tup (gts_cons (gt_name) (gts_cons (gt_name) (gts_cons (gt_name) (gts_nil))))) (pg_tup c.cm (pgs_cons (pg_name nd (i := 3) rfl (by first | exact .inl rfl | exact .inr rfl)) (pgs_cons (pg_name nd (i := 4) rfl (by first | exact .inl rfl | exact .inr rfl)) (pgs_cons (pg_name nd (i := 5) rfl (by first | exact .inl rfl | exact .inr rfl)) (pgs_nil))))) (de_mkT (da_cons (d_repr c (da_cons (de_var (pv 1)) (da_nil)) B.repr) (da_cons (de_call d_l_shares c (da_cons (de_var (pv 1)) (da_cons (de_var (pv 2)) (da_nil)))) (da_cons (d_sum c B (da_cons (de_var (pv 1)) (da_nil))) (da_nil))))))
    (dss_cons (ds_put (i := 6) nd rfl (by first | exact .inl rfl | exact .inr rfl) (d_len B (da_cons (de_lc (own := [("weight", 7)]) c.cm nd (di_list (de_var (pv 1))) (blkOk_by (by rfl)) (gt_name) (by decide) (fun _ _ _ _ _ => pg_name nd (i := 7) rfl (by first | exact .inl rfl | exact .inr rfl)) (fun _ _ _ _ _ => dts_one (t_gt (d_mod (d_int B (da_cons (d_mul (de_var (pv 7)) (de_var (pv 2))) (da_nil))) (de_var (pv 5))) (de_int))) (fun _ _ _ _ _ => de_var (pv 7))) (da_nil))))
    (dss_cons (ds_put (i := 8) nd rfl (by first | exact .inl rfl | exact .inr rfl) (d_sub (de_var (pv 2)) (d_sum c B (da_cons (de_lc (own := [("weight", 7)]) c.cm nd (di_list (de_var (pv 1))) (blkOk_by (by rfl)) (gt_name) (by decide) (fun _ _ _ _ _ => pg_name nd (i := 7) rfl (by first | exact .inl rfl | exact .inr rfl)) (fun _ _ _ _ _ => dts_nil) (fun _ _ _ _ _ => d_div (d_mul (de_var (pv 7)) (de_var (pv 2))) (de_var (pv 5)))) (da_nil)))))
    (dss_cons (ds_lc (ps_lc (own := [("weight", 7)]) c.cm nd (i := 9) rfl (di_list (de_var (pv 1))) (blkOk_by (by rfl)) (gt_name) (by decide) (fun _ _ _ _ _ => pg_name nd (i := 7) rfl (by first | exact .inl rfl | exact .inr rfl)) (fun _ _ _ _ _ => dts_nil) (fun _ _ _ _ _ => d_div (d_add (d_mul (d_mul (de_int) (de_var (pv 7))) (de_var (pv 2))) (de_var (pv 5))) (d_mul (de_int) (de_var (pv 5)))) rfl))
    (dss_cons (ds_put (i := 10) nd rfl (by first | exact .inl rfl | exact .inr rfl) (de_call d_l_shares c (da_cons (de_var (pv 1)) (da_cons (d_add (de_var (pv 2)) (de_int)) (da_nil)))))
    (dss_cons (ds_lc (ps_lc (own := [("at", 12)]) c.cm nd (i := 11) rfl (di_rng1 rfl B.range (da_cons (d_len B (da_cons (de_var (pv 1)) (da_nil))) (da_nil))) (blkOk_by (by rfl)) (gt_name) (by decide) (fun _ _ _ _ _ => pg_name nd (i := 12) rfl (by first | exact .inl rfl | exact .inr rfl)) (fun _ _ _ _ _ => dts_one (t_lt (d_ix (de_var (pv 10)) (de_var (pv 12))) (d_ix (de_var (pv 4)) (de_var (pv 12))))) (fun _ _ _ _ _ => de_var (pv 12)) rfl))
    (dss_toldC (dss_told (i := 13) nd rfl (by first | exact .inl rfl | exact .inr rfl) (de_call d_shares_of c (da_cons (de_var (pv 1)) (da_cons (de_var (pv 2)) (da_nil)))) (da_cons (de_call d_share_count c (da_cons (de_var (pv 1)) (da_cons (de_var (pv 2)) (da_nil)))) (da_cons (de_call d_plain_shares c (da_cons (de_var (pv 1)) (da_cons (de_var (pv 2)) (da_nil)))) (da_cons (de_call d_gap_of c (da_cons (de_var (pv 1)) (da_cons (de_var (pv 2)) (da_nil)))) (da_cons (de_call d_paradox c (da_cons (de_var (pv 1)) (da_cons (de_var (pv 2)) (da_nil)))) (da_cons (de_call d_missed c (da_cons (de_var (pv 4)) (da_cons (de_var (pv 1)) (da_cons (de_var (pv 2)) (da_nil))))) (da_nil)))))) (dt_not (dt_val (de_call d_l_same c (da_cons (de_var (pv 13)) (da_cons (de_mkL (da_cons (de_var (pv 4)) (da_cons (de_call d_l_ways c (da_cons (de_var (pv 6)) (da_cons (de_var (pv 8)) (da_nil)))) (da_cons (de_var (pv 9)) (da_cons (d_sub (d_sum c B (da_cons (de_var (pv 9)) (da_nil))) (de_var (pv 2))) (da_cons (de_if (t_ne c (de_var (pv 11)) (de_mkL (da_nil))) (d_ix (de_var (pv 11)) (de_int)) (de_non)) (da_cons (de_call d_l_missed c (da_cons (de_var (pv 1)) (da_cons (de_var (pv 2)) (da_cons (de_var (pv 4)) (da_nil))))) (da_nil)))))))) (da_nil)))))) (dss_one (ds_ret (de_bl))) (pv 13))
    (dss_cons (ds_put (i := 13) nd rfl (by first | exact .inl rfl | exact .inr rfl) (de_mkL (da_cons (de_callK d_shares_of c ["number", "weights"] [1, 0] (dk_cons (de_var (pv 2)) (dk_cons (de_var (pv 1)) (dk_nil))) (fun _ _ _ _ _ _ us hl => match us, hl with | [_, _], _ => rfl)) (da_cons (de_callK d_plain_shares c ["number", "weights"] [1, 0] (dk_cons (de_var (pv 2)) (dk_cons (de_var (pv 1)) (dk_nil))) (fun _ _ _ _ _ _ us hl => match us, hl with | [_, _], _ => rfl)) (da_cons (de_callK d_gap_of c ["number", "weights"] [1, 0] (dk_cons (de_var (pv 2)) (dk_cons (de_var (pv 1)) (dk_nil))) (fun _ _ _ _ _ _ us hl => match us, hl with | [_, _], _ => rfl)) (da_nil))))))
    (dss_cons (ds_put (i := 13) nd rfl (by first | exact .inl rfl | exact .inr rfl) (d_add (de_var (pv 13)) (de_mkL (da_cons (de_callK d_share_count c ["number", "weights"] [1, 0] (dk_cons (de_var (pv 2)) (dk_cons (de_var (pv 1)) (dk_nil))) (fun _ _ _ _ _ _ us hl => match us, hl with | [_, _], _ => rfl)) (da_cons (de_callK d_paradox c ["number", "weights"] [1, 0] (dk_cons (de_var (pv 2)) (dk_cons (de_var (pv 1)) (dk_nil))) (fun _ _ _ _ _ _ us hl => match us, hl with | [_, _], _ => rfl)) (da_nil))))))
    (dss_cons (ds_if (dt_not (dt_val (de_call d_l_same c (da_cons (de_var (pv 13)) (da_cons (de_mkL (da_cons (de_var (pv 4)) (da_cons (de_var (pv 9)) (da_cons (d_sub (d_sum c B (da_cons (de_var (pv 9)) (da_nil))) (de_var (pv 2))) (da_cons (de_call d_l_ways c (da_cons (de_var (pv 6)) (da_cons (de_var (pv 8)) (da_nil)))) (da_cons (de_if (t_ne c (de_var (pv 11)) (de_mkL (da_nil))) (d_ix (de_var (pv 11)) (de_int)) (de_non)) (da_nil))))))) (da_nil)))))) (dss_one (ds_ret (de_bl))) (dss_nil))
    (dss_cons (ds_own (i := 14) nd rfl (by first | exact .inl rfl | exact .inr rfl) (de_mkL (da_cons (de_var (pv 4)) (da_cons (d_rev (de_var (pv 4))) (da_cons (de_cut po_c po_n (de_var (pv 4))) (da_cons (d_add (de_var (pv 4)) (de_mkL (da_cons (de_int) (da_nil)))) (da_cons (d_tupleOf B (da_cons (de_var (pv 4)) (da_nil))) (da_cons (de_var (pv 9)) (da_cons (de_non) (da_cons (de_int) (da_cons (de_dict0) (da_cons (d_mul (de_mkL (da_cons (de_non) (da_nil))) (d_len B (da_cons (de_var (pv 4)) (da_nil)))) (da_nil)))))))))))))
    (dss_cons (ds_for (passes_of rfl) c.cm (di_rng1 rfl B.range (da_cons (de_int) (da_nil))) (gt_name) (pg_name nd (i := 15) rfl (by first | exact .inl rfl | exact .inr rfl)) (dss_cons (ds_par (i := 16) (j := 17) c.cm nd rfl rfl (by decide) rfl rfl (de_lend d_l_random c (pv 0) (da_cons (d_len B (da_cons (de_var (pv 4)) (da_nil))) (da_nil))) (de_lend d_l_random c (pv 0) (da_cons (d_len B (da_cons (de_var (pv 4)) (da_nil))) (da_nil))))
    (dss_one (ds_app (fun _ h => pe_bm PySem.F.plainAttrs_list PySem.F.slot_list_append PySem.F.type_list_append mt_append (pv 14) (pa_cons h pa_nil)) (de_if (t_eq c (de_var (pv 16)) (de_var (pv 17))) (de_call d_l_put c (da_cons (de_var (pv 4)) (da_cons (de_var (pv 16)) (da_cons (d_add (d_ix (de_var (pv 4)) (de_var (pv 16))) (de_int)) (da_nil))))) (de_call d_l_put c (da_cons (de_call d_l_put c (da_cons (de_var (pv 4)) (da_cons (de_var (pv 16)) (da_cons (d_add (d_ix (de_var (pv 4)) (de_var (pv 16))) (de_int)) (da_nil))))) (da_cons (de_var (pv 17)) (da_cons (d_sub (d_ix (de_var (pv 4)) (de_var (pv 17))) (de_int)) (da_nil))))))))))
    (dss_cons (ds_for (passes_of rfl) c.cm (di_list (de_var (pv 14))) (gt_name) (pg_name nd (i := 18) rfl (by first | exact .inl rfl | exact .inr rfl)) (dss_cons (ds_put (i := 19) nd rfl (by first | exact .inl rfl | exact .inr rfl) (de_call d_l_are_shares c (da_cons (de_var (pv 1)) (da_cons (de_var (pv 2)) (da_cons (de_var (pv 18)) (da_nil))))))
    (dss_cons (ds_if (dt_not (dt_val (de_call d_l_same c (da_cons (de_mkL (da_cons (de_call d_are_shares c (da_cons (de_var (pv 1)) (da_cons (de_var (pv 2)) (da_cons (de_var (pv 18)) (da_nil))))) (da_cons (de_callK d_are_shares c ["value", "number", "weights"] [2, 1, 0] (dk_cons (de_var (pv 18)) (dk_cons (de_var (pv 2)) (dk_cons (de_var (pv 1)) (dk_nil)))) (fun _ _ _ _ _ _ us hl => match us, hl with | [_, _, _], _ => rfl)) (da_nil)))) (da_cons (de_mkL (da_cons (de_var (pv 19)) (da_cons (de_var (pv 19)) (da_nil)))) (da_nil)))))) (dss_one (ds_ret (de_bl))) (dss_nil))
    (dss_one (ds_if (dt_w (dw_and (dt_val (d_isi B "list" "list" rfl B.list bt_list (de_var (pv 18)))) (dw_and (t_eq c (d_len B (da_cons (de_var (pv 18)) (da_nil))) (d_len B (da_cons (de_var (pv 4)) (da_nil)))) (dw_and (t_eq c (de_lc (own := [("one", 16)]) c.cm nd (di_list (de_var (pv 18))) (blkOk_by (by rfl)) (gt_name) (by decide) (fun _ _ _ _ _ => pg_name nd (i := 16) rfl (by first | exact .inl rfl | exact .inr rfl)) (fun _ _ _ _ _ => dts_one (dt_not (dt_val (de_call d_l_is_count c.blk (da_cons (de_var (pv 16)) (da_nil)))))) (fun _ _ _ _ _ => de_var (pv 16))) (de_mkL (da_nil))) (dw_and1 (t_eq c (d_sum c B (da_cons (de_var (pv 18)) (da_nil))) (de_var (pv 2)))))))) (dss_cons (ds_put (i := 20) nd rfl (by first | exact .inl rfl | exact .inr rfl) (de_call d_l_missed c (da_cons (de_var (pv 1)) (da_cons (de_var (pv 2)) (da_cons (de_var (pv 18)) (da_nil))))))
    (dss_one (ds_if (dt_w (dw_or (dt_not (dt_val (de_call d_l_same c (da_cons (de_mkL (da_cons (de_call d_missed c (da_cons (de_var (pv 18)) (da_cons (de_var (pv 1)) (da_cons (de_var (pv 2)) (da_nil))))) (da_cons (de_callK d_missed c ["number", "weights", "shares"] [2, 1, 0] (dk_cons (de_var (pv 2)) (dk_cons (de_var (pv 1)) (dk_cons (de_var (pv 18)) (dk_nil)))) (fun _ _ _ _ _ _ us hl => match us, hl with | [_, _, _], _ => rfl)) (da_nil)))) (da_cons (de_mkL (da_cons (de_var (pv 20)) (da_cons (de_var (pv 20)) (da_nil)))) (da_nil)))))) (dw_or1 (dt_val (de_call d_l_less c (da_cons (de_var (pv 20)) (da_cons (de_call d_l_missed c (da_cons (de_var (pv 1)) (da_cons (de_var (pv 2)) (da_cons (de_var (pv 4)) (da_nil))))) (da_nil)))))))) (dss_one (ds_ret (de_bl))) (dss_nil)))) (dss_one (ds_if (dt_not (dt_val (de_refLam (n := "InvalidTable") (k := 6) Mk (c.mono (by decide)) R (LamB.mk (LamX.lamS_by (by rfl)) rfl (fun _ _ _ _ => rfl) (fun _ _ _ _ _ _ _ cl => de_call d_missed cl (da_cons (de_var (pv 18)) (da_cons (de_var (pv 1)) (da_cons (de_var (pv 2)) (da_nil)))))) (pv 18)))) (dss_one (ds_ret (de_bl))) (dss_nil))))))))
    (dss_one (ds_ret (d_eq c.rm.units (d_repr c (da_cons (de_var (pv 1)) (da_nil)) B.repr) (de_var (pv 3)))))))))))))))))
theorem df_l_weights_right {P : Program} {w : World} {K : PySem.W.Frag} {mg : Str → Option Value} {base : Heap} {ca : Str → Addr} (B : Bl mg) (d_l_shares : Df P w K mg base "_law_shares" s_l_shares 2 ["weights", "number"] F_l_shares) (d_shares_of : Df P w K mg base "shares_of" s_shares_of 5 ["weights", "number"] (F_shares_of ca)) (d_missed : Df P w K mg base "missed" s_missed 5 ["shares", "weights", "number"] (F_missed ca)) (d_paradox : Df P w K mg base "paradox" s_paradox 5 ["weights", "number"] (F_paradox ca)) (d_gap_of : Df P w K mg base "gap_of" s_gap_of 5 ["weights", "number"] (F_gap_of ca)) (d_plain_shares : Df P w K mg base "plain_shares" s_plain_shares 5 ["weights", "number"] (F_plain_shares ca)) (d_share_count : Df P w K mg base "share_count" s_share_count 5 ["weights", "number"] (F_share_count ca)) (d_l_same : Df P w K mg base "_law_same" s_l_same 8 ["told", "due"] (F_l_same 8)) (d_l_missed : Df P w K mg base "_law_missed" s_l_missed 3 ["weights", "number", "value"] F_l_missed) (d_l_ways : Df P w K mg base "_law_ways" s_l_ways 1 ["many", "some"] F_l_ways) (d_l_random : Df P w K mg base "_law_random" s_l_random 2 ["generator", "bound"] F_l_random) (d_l_put : Df P w K mg base "_law_put" s_l_put 1 ["things", "at", "thing"] F_l_put) (d_l_are_shares : Df P w K mg base "_law_are_shares" s_l_are_shares 2 ["weights", "number", "value"] F_l_are_shares) (d_are_shares : Df P w K mg base "are_shares" s_are_shares 5 ["weights", "number", "value"] (F_are_shares ca)) (d_l_is_count : Df P w K mg base "_law_is_count" s_l_is_count 1 ["value"] F_l_is_count) (d_l_less : Df P w K mg base "_law_less" s_l_less 1 ["one", "other"] F_l_less) (R : RefKit P w K mg base ca) {f : Addr} {fd : FuncData} (F : FunD K "_law_weights_right" "_law_weights_right" (defArgs s_l_weights_right) (defBody s_l_weights_right) (defScope s_l_weights_right) [] [] f fd) (hm : mg "_law_weights_right" = some (.ref f)) (Mt : MakT K mg base "_law_weights_right") (hcd : fd.code = .ref (He.cT K ("_law_weights_right", none)).1) : Df P w K mg base "_law_weights_right" s_l_weights_right 12 ["generator", "weights", "number"] (F_l_weights_right K ca) :=
  Df_mkC F hm sc_l_weights_right rfl (fun _ _ _ _ _ _ us hl => match us, hl with | [_, _, _], _ => rfl) hcd fun A outer s H E c => b_l_weights_right B d_l_shares d_shares_of d_missed d_paradox d_gap_of d_plain_shares d_share_count d_l_same d_l_missed d_l_ways d_l_random d_l_put d_l_are_shares d_are_shares d_l_is_count d_l_less R (mk_of Mt (mem_TbK (by first | exact .head _ | exact .tail _ (.head _) | exact .tail _ (.tail _ (.head _)) | exact .tail _ (.tail _ (.tail _ (.head _)))) (by first | rfl | decide))) c

end K84
/-! E10: law, but for its first statement. -/
namespace K84
open PySem L2 PyProof.Rows DL
abbrev s_law : Stmt := top 65
abbrev N_law : List Str := ["script", "generator", "other", "weights", "turn", "great", "bad", "told"]
theorem sc_law : FnScope N_law ["script"] (defScope s_law) := ⟨rfl, rfl, rfl, by decide +kernel, rfl, by decide +kernel, by decide +kernel⟩
noncomputable def g_lawT (K : PySem.W.Frag) (ca : Str → Addr) : DL.Env → RS := sSeq (sOwn 3 (fLc (srcA (fCons (fOp2 gAdd (fC (.int 1)) (fLend 2 1 F_l_random (fCons (fC (.int 12)) (fNil)))) (fNil)) kRng1) (bName 4) (fC (.bool true)) (fLend 2 1 F_l_pick (fCons (bndA (fCons (fC (.int 0)) (fCons (fC (.int 1)) (fCons (fC (.int 1)) (fCons (fC (.int 2)) (fCons (fC (.int 3)) (fCons (fC (.int 7)) (fCons (fC (.int 100)) (fCons (fC (.int 12345)) (fNil))))))))) gMkL) (fNil))) [4])) (sSeq (sSetO 3 (fOp2 gAdd (fC (.int 1)) (fLend 2 1 F_l_random (fCons (fC (.int 50)) (fNil)))) (fLend 2 1 F_l_random (fCons (fLenO 3) (fNil)))) (sSeq (sIf (fNot (fLend 3 1 (F_l_weights_right K ca) (fCons (fVar 3) (fCons (fLend 2 1 F_l_pick (fCons (bndA (fCons (fC (.int 1)) (fCons (fC (.int 7)) (fCons (fC (.int 10)) (fCons (fC (.int 100)) (fCons (fC (.int 100)) (fCons (fC (.int 1000)) (fNil))))))) gMkL) (fNil))) (fNil))))) (sRet (fC (.bool false))) (.nx)) (sSeq (sPut 5 (fLc (srcA (fCons (fC (.int 30)) (fNil)) kRng1) (bName 4) (fC (.bool true)) (fOp2 gAdd (fC (.int 1)) (fLend 2 2 F_l_random (fCons (fOp2 gPow (fC (.int 10)) (fC (.int 40))) (fNil)))) [4])) (sSeq (sIf (fNot (fLend 3 2 (F_l_weights_right K ca) (fCons (fVar 5) (fCons (fOp2 gAdd (fC (.int 1)) (fLend 2 2 F_l_random (fCons (fOp2 gPow (fC (.int 10)) (fC (.int 6))) (fNil)))) (fNil))))) (sRet (fC (.bool false))) (.nx)) (sSeq (sFor (srcE (bndA (fCons (fC .none) (fCons (fC (.int 7)) (fCons (bndA (fNil) gMkT) (fCons (bndA (fNil) gMkL) (fCons (bndA (fCons (fC (.int 0)) (fNil)) gMkL) (fCons (bndA (fCons (fC (.int 0)) (fCons (fC (.int 0)) (fNil))) gMkL) (fCons (bndA (fCons (fC (.int 1)) (fCons (fC (.int 2)) (fNil))) gMkT) (fCons (bndA (fCons (fOp2 gSub (fC (.int 0)) (fC (.int 1))) (fCons (fC (.int 2)) (fNil))) gMkL) (fCons (bndA (fCons (fC (.bool true)) (fNil)) gMkL) (fCons (bndA (fCons (fC .none) (fNil)) gMkL) (fCons (bndA (fCons (fC (.str "1")) (fNil)) gMkL) (fCons (fOp2 gMul (bndA (fCons (fC (.int 1)) (fNil)) gMkL) (fC (.int 31))) (fCons (fDict0) (fNil)))))))))))))) gMkL) itemsL) (bName 6) (sIf (fNot (fAllRefd K ca "InvalidWeights" "weights" [fCall 2 (F_shares_of ca) (fCons (fVar 6) (fCons (fC .none) (fNil))), fCall 3 (F_are_shares ca) (fCons (fVar 6) (fCons (fC .none) (fCons (fC .none) (fNil)))), fCall 2 (F_share_count ca) (fCons (fVar 6) (fCons (fC .none) (fNil))), fCall 3 (F_missed ca) (fCons (fC .none) (fCons (fVar 6) (fCons (fC .none) (fNil)))), fCall 2 (F_plain_shares ca) (fCons (fVar 6) (fCons (fC .none) (fNil))), fCall 2 (F_gap_of ca) (fCons (fVar 6) (fCons (fC .none) (fNil))), fCall 2 (F_paradox ca) (fCons (fVar 6) (fCons (fC .none) (fNil)))] 6)) (sRet (fC (.bool false))) (.nx))) (sSeq (sFor (srcE (bndA (fCons (fC .none) (fCons (fC (.int 0)) (fCons (fOp2 gAdd (fOp2 gPow (fC (.int 10)) (fC (.int 6))) (fC (.int 1))) (fCons (fOp2 gSub (fC (.int 0)) (fC (.int 1))) (fCons (fC (.bool true)) (fCons (fC (.str "100")) (fCons (bndA (fCons (fC (.int 100)) (fNil)) gMkL) (fNil)))))))) gMkL) itemsL) (bName 6) (sIf (fNot (fAllRefd K ca "InvalidNumber" "number" [fCall 2 (F_shares_of ca) (fCons (bndA (fCons (fC (.int 1)) (fCons (fC (.int 2)) (fNil))) gMkL) (fCons (fVar 6) (fNil))), fCall 3 (F_are_shares ca) (fCons (bndA (fCons (fC (.int 1)) (fCons (fC (.int 2)) (fNil))) gMkL) (fCons (fVar 6) (fCons (fC .none) (fNil)))), fCall 2 (F_share_count ca) (fCons (bndA (fCons (fC (.int 1)) (fCons (fC (.int 2)) (fNil))) gMkL) (fCons (fVar 6) (fNil))), fCall 3 (F_missed ca) (fCons (fC .none) (fCons (bndA (fCons (fC (.int 1)) (fCons (fC (.int 2)) (fNil))) gMkL) (fCons (fVar 6) (fNil)))), fCall 2 (F_plain_shares ca) (fCons (bndA (fCons (fC (.int 1)) (fCons (fC (.int 2)) (fNil))) gMkL) (fCons (fVar 6) (fNil))), fCall 2 (F_gap_of ca) (fCons (bndA (fCons (fC (.int 1)) (fCons (fC (.int 2)) (fNil))) gMkL) (fCons (fVar 6) (fNil))), fCall 2 (F_paradox ca) (fCons (bndA (fCons (fC (.int 1)) (fCons (fC (.int 2)) (fNil))) gMkL) (fCons (fVar 6) (fNil)))] 6)) (sRet (fC (.bool false))) (.nx))) (sSeq (sPut 7 (bndA (fCons (fCall 2 (F_shares_of ca) (fCons (bndA (fCons (fC (.int 1)) (fCons (fC (.int 1)) (fCons (fC (.int 1)) (fNil)))) gMkL) (fCons (fC (.int 100)) (fNil)))) (fCons (fCall 3 (F_missed ca) (fCons (bndA (fCons (fC (.int 34)) (fCons (fC (.int 33)) (fCons (fC (.int 33)) (fNil)))) gMkL) (fCons (bndA (fCons (fC (.int 1)) (fCons (fC (.int 1)) (fCons (fC (.int 1)) (fNil)))) gMkL) (fCons (fC (.int 100)) (fNil))))) (fCons (fCall 2 (F_paradox ca) (fCons (bndA (fCons (fC (.int 6)) (fCons (fC (.int 6)) (fCons (fC (.int 2)) (fNil)))) gMkL) (fCons (fC (.int 10)) (fNil)))) (fCons (fCall 2 (F_gap_of ca) (fCons (fOp2 gMul (bndA (fCons (fC (.int 1)) (fNil)) gMkL) (fC (.int 6))) (fCons (fC (.int 100)) (fNil)))) (fCons (fCall 2 (F_plain_shares ca) (fCons (bndA (fCons (fC (.int 1)) (fCons (fC (.int 1)) (fNil))) gMkL) (fCons (fC (.int 101)) (fNil)))) (fNil)))))) gMkL)) (sRet (fCall 2 (F_l_same 8) (fCons (fVar 7) (fCons (bndA (fCons (bndA (fCons (fC (.int 34)) (fCons (fC (.int 33)) (fCons (fC (.int 33)) (fNil)))) gMkL) (fCons (bndA (fCons (fC (.int 4)) (fCons (fC (.int 3)) (fNil))) gMkT) (fCons (fC (.int 2)) (fCons (fC (.int 2)) (fCons (bndA (fCons (fC (.int 51)) (fCons (fC (.int 51)) (fNil))) gMkL) (fNil)))))) gMkL) (fNil))))))))))))
theorem b_lawT {P : Program} {w : World} {K : PySem.W.Frag} {mg : Str → Option Value} {base : Heap} {ca : Str → Addr} (B : Bl mg) (d_l_random : Df P w K mg base "_law_random" s_l_random 2 ["generator", "bound"] F_l_random) (d_l_pick : Df P w K mg base "_law_pick" s_l_pick 3 ["generator", "things"] F_l_pick) (d_l_weights_right : Df P w K mg base "_law_weights_right" s_l_weights_right 12 ["generator", "weights", "number"] (F_l_weights_right K ca)) (d_shares_of : Df P w K mg base "shares_of" s_shares_of 5 ["weights", "number"] (F_shares_of ca)) (d_are_shares : Df P w K mg base "are_shares" s_are_shares 5 ["weights", "number", "value"] (F_are_shares ca)) (d_share_count : Df P w K mg base "share_count" s_share_count 5 ["weights", "number"] (F_share_count ca)) (d_missed : Df P w K mg base "missed" s_missed 5 ["shares", "weights", "number"] (F_missed ca)) (d_plain_shares : Df P w K mg base "plain_shares" s_plain_shares 5 ["weights", "number"] (F_plain_shares ca)) (d_gap_of : Df P w K mg base "gap_of" s_gap_of 5 ["weights", "number"] (F_gap_of ca)) (d_paradox : Df P w K mg base "paradox" s_paradox 5 ["weights", "number"] (F_paradox ca)) (d_l_same : Df P w K mg base "_law_same" s_l_same 8 ["told", "due"] (F_l_same 8)) (R : RefKit P w K mg base ca) (hfa : ∃ fa fda, FunD K "_law_all_refused" "_law_all_refused" (defArgs s_l_all_refused) (defBody s_l_all_refused) (defScope s_l_all_refused) [] [] fa fda ∧ mg "_law_all_refused" = some (.ref fa)) {f : Addr} {cdv : Value} {A : Around} {outer : List PySem.Env} {s : Shared} {H : Hp} {E : XK} (Mk : Maker (fx P w K mg base N_law "law" s_law f cdv A outer s H E)) (c : Cn (fx P w K mg base N_law "law" s_law f cdv A outer s H E) E 12) :
    DSs (fx P w K mg base N_law "law" s_law f cdv A outer s H E) E ((defBody s_law).drop 1) (g_lawT K ca) := by
  have nd := sc_law.nd
  exact dss_cons (ds_lcOwn (ps_lc (own := [("turn", 4)]) c.cm nd (i := 3) rfl (di_rng1 rfl B.range (da_cons (d_add (de_int) (de_lend d_l_random c (pv 1) (da_cons (de_int) (da_nil)))) (da_nil))) (blkOk_by (by rfl)) (gt_name) (by decide) (fun _ _ _ _ _ => pg_name nd (i := 4) rfl (by first | exact .inl rfl | exact .inr rfl)) (fun _ _ _ _ _ => dts_nil) (fun _ _ _ _ _ => de_lend d_l_pick c.blk (pv 1) (da_cons (de_mkL (da_cons (de_int) (da_cons (de_int) (da_cons (de_int) (da_cons (de_int) (da_cons (de_int) (da_cons (de_int) (da_cons (de_int) (da_cons (de_int) (da_nil)))))))))) (da_nil))) rfl))
    (dss_cons (ds_setO (pv 3) (d_add (de_int) (de_lend d_l_random c (pv 1) (da_cons (de_int) (da_nil)))) (de_lend d_l_random c (pv 1) (da_cons (d_lenO B (pv 3)) (da_nil))))
    (dss_cons (ds_if (dt_not (dt_val (de_lend d_l_weights_right c (pv 1) (da_cons (de_var (pv 3)) (da_cons (de_lend d_l_pick c (pv 1) (da_cons (de_mkL (da_cons (de_int) (da_cons (de_int) (da_cons (de_int) (da_cons (de_int) (da_cons (de_int) (da_cons (de_int) (da_nil)))))))) (da_nil))) (da_nil)))))) (dss_one (ds_ret (de_bl))) (dss_nil))
    (dss_cons (ds_lc (ps_lc (own := [("turn", 4)]) c.cm nd (i := 5) rfl (di_rng1 rfl B.range (da_cons (de_int) (da_nil))) (blkOk_by (by rfl)) (gt_name) (by decide) (fun _ _ _ _ _ => pg_name nd (i := 4) rfl (by first | exact .inl rfl | exact .inr rfl)) (fun _ _ _ _ _ => dts_nil) (fun _ _ _ _ _ => d_add (de_int) (de_lend d_l_random c.blk (pv 2) (da_cons (d_pow (de_int) (de_int)) (da_nil)))) rfl))
    (dss_cons (ds_if (dt_not (dt_val (de_lend d_l_weights_right c (pv 2) (da_cons (de_var (pv 5)) (da_cons (d_add (de_int) (de_lend d_l_random c (pv 2) (da_cons (d_pow (de_int) (de_int)) (da_nil)))) (da_nil)))))) (dss_one (ds_ret (de_bl))) (dss_nil))
    (dss_cons (ds_for (passes_of rfl) c.cm (di_list (de_mkL (da_cons (de_non) (da_cons (de_int) (da_cons (de_mkT (da_nil)) (da_cons (de_mkL (da_nil)) (da_cons (de_mkL (da_cons (de_int) (da_nil))) (da_cons (de_mkL (da_cons (de_int) (da_cons (de_int) (da_nil)))) (da_cons (de_mkT (da_cons (de_int) (da_cons (de_int) (da_nil)))) (da_cons (de_mkL (da_cons (d_sub (de_int) (de_int)) (da_cons (de_int) (da_nil)))) (da_cons (de_mkL (da_cons (de_bl) (da_nil))) (da_cons (de_mkL (da_cons (de_non) (da_nil))) (da_cons (de_mkL (da_cons (de_str) (da_nil))) (da_cons (d_mul (de_mkL (da_cons (de_int) (da_nil))) (de_int)) (da_cons (de_dict0) (da_nil)))))))))))))))) (gt_name) (pg_name nd (i := 6) rfl (by first | exact .inl rfl | exact .inr rfl)) (dss_one (ds_if (dt_not (dt_val (de_allLam (n := "InvalidWeights") (k := 6) Mk (c.mono (by decide)) R hfa (.cons (LamB.mk (LamX.lamS_by (by rfl)) rfl (fun _ _ _ _ => rfl) (fun _ _ _ _ _ _ _ cl => de_call d_shares_of cl (da_cons (de_var (pv 6)) (da_cons (de_non) (da_nil))))) rfl (.cons (LamB.mk (LamX.lamS_by (by rfl)) rfl (fun _ _ _ _ => rfl) (fun _ _ _ _ _ _ _ cl => de_call d_are_shares cl (da_cons (de_var (pv 6)) (da_cons (de_non) (da_cons (de_non) (da_nil)))))) rfl (.cons (LamB.mk (LamX.lamS_by (by rfl)) rfl (fun _ _ _ _ => rfl) (fun _ _ _ _ _ _ _ cl => de_call d_share_count cl (da_cons (de_var (pv 6)) (da_cons (de_non) (da_nil))))) rfl (.cons (LamB.mk (LamX.lamS_by (by rfl)) rfl (fun _ _ _ _ => rfl) (fun _ _ _ _ _ _ _ cl => de_call d_missed cl (da_cons (de_non) (da_cons (de_var (pv 6)) (da_cons (de_non) (da_nil)))))) rfl (.cons (LamB.mk (LamX.lamS_by (by rfl)) rfl (fun _ _ _ _ => rfl) (fun _ _ _ _ _ _ _ cl => de_call d_plain_shares cl (da_cons (de_var (pv 6)) (da_cons (de_non) (da_nil))))) rfl (.cons (LamB.mk (LamX.lamS_by (by rfl)) rfl (fun _ _ _ _ => rfl) (fun _ _ _ _ _ _ _ cl => de_call d_gap_of cl (da_cons (de_var (pv 6)) (da_cons (de_non) (da_nil))))) rfl (.cons (LamB.mk (LamX.lamS_by (by rfl)) rfl (fun _ _ _ _ => rfl) (fun _ _ _ _ _ _ _ cl => de_call d_paradox cl (da_cons (de_var (pv 6)) (da_cons (de_non) (da_nil))))) rfl (.nil)))))))) (pv 6)))) (dss_one (ds_ret (de_bl))) (dss_nil))))
    (dss_cons (ds_for (passes_of rfl) c.cm (di_list (de_mkL (da_cons (de_non) (da_cons (de_int) (da_cons (d_add (d_pow (de_int) (de_int)) (de_int)) (da_cons (d_sub (de_int) (de_int)) (da_cons (de_bl) (da_cons (de_str) (da_cons (de_mkL (da_cons (de_int) (da_nil))) (da_nil)))))))))) (gt_name) (pg_name nd (i := 6) rfl (by first | exact .inl rfl | exact .inr rfl)) (dss_one (ds_if (dt_not (dt_val (de_allLam (n := "InvalidNumber") (k := 6) Mk (c.mono (by decide)) R hfa (.cons (LamB.mk (LamX.lamS_by (by rfl)) rfl (fun _ _ _ _ => rfl) (fun _ _ _ _ _ _ _ cl => de_call d_shares_of cl (da_cons (de_mkL (da_cons (de_int) (da_cons (de_int) (da_nil)))) (da_cons (de_var (pv 6)) (da_nil))))) rfl (.cons (LamB.mk (LamX.lamS_by (by rfl)) rfl (fun _ _ _ _ => rfl) (fun _ _ _ _ _ _ _ cl => de_call d_are_shares cl (da_cons (de_mkL (da_cons (de_int) (da_cons (de_int) (da_nil)))) (da_cons (de_var (pv 6)) (da_cons (de_non) (da_nil)))))) rfl (.cons (LamB.mk (LamX.lamS_by (by rfl)) rfl (fun _ _ _ _ => rfl) (fun _ _ _ _ _ _ _ cl => de_call d_share_count cl (da_cons (de_mkL (da_cons (de_int) (da_cons (de_int) (da_nil)))) (da_cons (de_var (pv 6)) (da_nil))))) rfl (.cons (LamB.mk (LamX.lamS_by (by rfl)) rfl (fun _ _ _ _ => rfl) (fun _ _ _ _ _ _ _ cl => de_call d_missed cl (da_cons (de_non) (da_cons (de_mkL (da_cons (de_int) (da_cons (de_int) (da_nil)))) (da_cons (de_var (pv 6)) (da_nil)))))) rfl (.cons (LamB.mk (LamX.lamS_by (by rfl)) rfl (fun _ _ _ _ => rfl) (fun _ _ _ _ _ _ _ cl => de_call d_plain_shares cl (da_cons (de_mkL (da_cons (de_int) (da_cons (de_int) (da_nil)))) (da_cons (de_var (pv 6)) (da_nil))))) rfl (.cons (LamB.mk (LamX.lamS_by (by rfl)) rfl (fun _ _ _ _ => rfl) (fun _ _ _ _ _ _ _ cl => de_call d_gap_of cl (da_cons (de_mkL (da_cons (de_int) (da_cons (de_int) (da_nil)))) (da_cons (de_var (pv 6)) (da_nil))))) rfl (.cons (LamB.mk (LamX.lamS_by (by rfl)) rfl (fun _ _ _ _ => rfl) (fun _ _ _ _ _ _ _ cl => de_call d_paradox cl (da_cons (de_mkL (da_cons (de_int) (da_cons (de_int) (da_nil)))) (da_cons (de_var (pv 6)) (da_nil))))) rfl (.nil)))))))) (pv 6)))) (dss_one (ds_ret (de_bl))) (dss_nil))))
    (dss_cons (ds_put (i := 7) nd rfl (by first | exact .inl rfl | exact .inr rfl) (de_mkL (da_cons (de_call d_shares_of c (da_cons (de_mkL (da_cons (de_int) (da_cons (de_int) (da_cons (de_int) (da_nil))))) (da_cons (de_int) (da_nil)))) (da_cons (de_call d_missed c (da_cons (de_mkL (da_cons (de_int) (da_cons (de_int) (da_cons (de_int) (da_nil))))) (da_cons (de_mkL (da_cons (de_int) (da_cons (de_int) (da_cons (de_int) (da_nil))))) (da_cons (de_int) (da_nil))))) (da_cons (de_call d_paradox c (da_cons (de_mkL (da_cons (de_int) (da_cons (de_int) (da_cons (de_int) (da_nil))))) (da_cons (de_int) (da_nil)))) (da_cons (de_call d_gap_of c (da_cons (d_mul (de_mkL (da_cons (de_int) (da_nil))) (de_int)) (da_cons (de_int) (da_nil)))) (da_cons (de_call d_plain_shares c (da_cons (de_mkL (da_cons (de_int) (da_cons (de_int) (da_nil)))) (da_cons (de_int) (da_nil)))) (da_nil))))))))
    (dss_one (ds_ret (de_call d_l_same c (da_cons (de_var (pv 7)) (da_cons (de_mkL (da_cons (de_mkL (da_cons (de_int) (da_cons (de_int) (da_cons (de_int) (da_nil))))) (da_cons (de_mkT (da_cons (de_int) (da_cons (de_int) (da_nil)))) (da_cons (de_int) (da_cons (de_int) (da_cons (de_mkL (da_cons (de_int) (da_cons (de_int) (da_nil)))) (da_nil))))))) (da_nil)))))))))))))

end K84
/-! E11: the script is read. -/
namespace K84
open PySem L2 PyProof.Rows DL
abbrev s_l_cell : Stmt := top 47
abbrev N_l_cell : List Str := ["script", "index"]
theorem sc_l_cell : FnScope N_l_cell ["script", "index"] (defScope s_l_cell) := ⟨rfl, rfl, rfl, by decide +kernel, rfl, by decide +kernel, by decide +kernel⟩
abbrev s_l_generator : Stmt := top 48
abbrev N_l_generator : List Str := ["script", "index", "seed"]
theorem sc_l_generator : FnScope N_l_generator ["script", "index"] (defScope s_l_generator) := ⟨rfl, rfl, rfl, by decide +kernel, rfl, by decide +kernel, by decide +kernel⟩
/-- the i-th cell; where it is wanting, one made of the first -/
def cellI (i : Nat) (ns : List Int) : Int := match ns[i]? with
  | some n => n
  | none => (ns.take 1).sum % 1000003
theorem cut1 : ∀ ns : List Int, cutV (ns.map V.int) none (some 1) = (ns.take 1).map V.int
  | [] => rfl
  | n :: r => by
    have h : HT.sIx ((n :: r).map V.int).length ((n :: r).map V.int).length (some ((1 : Nat) : Int)) = 1 := by
      rw [HT.sIx_nat, List.length_map, List.length_cons]
      omega
    unfold cutV
    rw [show ((1 : Int)) = ((1 : Nat) : Int) from rfl, h, HT.sIx_none]
    rfl
section
variable {P : Program} {w : World} {K : PySem.W.Frag} {mg : Str → Option Value} {base : Heap}
theorem cell_run (B : Bl mg) {fc : Addr} {fdc : FuncData} (F : FunD K "_law_cell" "_law_cell" (defArgs s_l_cell) (defBody s_l_cell) (defScope s_l_cell) [] [] fc fdc) {A : Around} {outer : List PySem.Env} {s : Shared} {H : Hp} {l : Addr} {ns : List Int} {t : Tok} {k j : Nat} {Q : VK} {E : XK}
    (hgd : A.guards = some []) (hr : Room (k + 1) A) (e0 : Env0 P w K mg base A outer s H) (hS : SqL K H l (ns.map V.int)) (hq : ∀ H', Gr K H H' → Q (.int (cellI j ns)) H') :
    codeAny (model P w) A (.call (.ref fc) ⟨[.ref l, .int (j : Nat) t], []⟩) (CR (L2.CX P w) outer P w H s Q E) s := by
  obtain ⟨oc, od, kV, doc, pm, an, cdv, ct, osl, rfl, lk, hcd⟩ := (Fun.ofD F).ex
  refine LamX.run_ofS (N := N_l_cell) (ps := ["script", "index"]) (us := [.ref l, .int (j : Nat) t]) (vs := [.ref l, .int (j : Nat)]) lk hcd sc_l_cell hr e0 (.of_eq (by first | rfl | with_unfolding_all rfl)) (.cons rfl (.cons ⟨t, rfl⟩ .nil)) rfl fun hr2 => ?_
  have nd := sc_l_cell.nd
  have cn : Cn (fx P w K mg base N_l_cell "_law_cell" s_l_cell fc cdv A outer s H E) E k := ⟨hgd, hr2, passes_call (W := fun cls d _ H => E cls d H) (takes_of rfl rfl rfl rfl) (fun _ _ _ _ h => h), takes_of rfl rfl rfl rfl, rfl⟩
  refine ⟨_, pss_cons (ps_if (pt_cmp (pc_lt (pv 1) (pe_callB call_len rfl B.len bt_len (pa_cons (pv 0) pa_nil)))) (pss_one (ps_ret (pe_ix ix_seq (pv 0) (pv 1) fun _ _ => rfl))) pss_nil)
    (pss_one (ps_ret (pe_op op_mod (pe_callB (cr_sum cn.cm) rfl B.sum bt_sum (pa_cons (pe_slice sl_list (pv 0) po_n po_c) pa_nil)) pe_int))), ?_⟩
  refine ⟨.int (j : Nat), rfl, .ref l, rfl, .ref l, _, rfl, .inl ⟨_, hS, rfl⟩, (j : Nat), _, rfl, rfl, _, rfl, ?_⟩
  by_cases hj : j < ns.length
  · have hd : decide (((j : Nat) : Int) < ((ns.map V.int).length : Nat)) = true := decide_eq_true (by rw [List.length_map]; omega)
    show if decide (((j : Nat) : Int) < ((ns.map V.int).length : Nat)) = true then _ else _
    rw [if_pos hd]
    have hc : cellI j ns = L2.cellOf ns j := by
      unfold cellI L2.cellOf
      rw [List.getElem?_eq_getElem hj]
      simp [hj]
    rw [hc] at hq
    exact ⟨.ref l, rfl, .int (j : Nat), rfl, .inl ⟨l, _, (j : Nat), .int (L2.cellOf ns j), rfl, rfl, hS, atI_cell hj, hq H (Ext.gr (Ext.rfl H))⟩⟩
  · have hd : ¬ decide (((j : Nat) : Int) < ((ns.map V.int).length : Nat)) = true := fun z => hj (by
      have := of_decide_eq_true z
      rw [List.length_map] at this
      omega)
    show if decide (((j : Nat) : Int) < ((ns.map V.int).length : Nat)) = true then _ else _
    rw [if_neg hd]
    refine ⟨.ref l, rfl, l, _, rfl, hS, fun p hp => ⟨p, ns.take 1, rfl, .inl (.inl (by rw [cut1]; exact upd_same)), _, 1000003, rfl, rfl, show (0 : Int) < 1000003 by decide, ?_⟩⟩
    have hc : cellI j ns = (ns.take 1).sum % 1000003 := by
      unfold cellI
      rw [List.getElem?_eq_none (by omega)]
    rw [hc] at hq
    exact hq _ (Ext.gr (Evl.Ex.new hp))
end
end K84
/-! E12: the generator. -/
namespace K84
open PySem L2 PyProof.Rows DL
def g_l_generatorT : DL.Env → RS := sRet (bndA (fCons (fOp2 gMod (bndA (fCons (bndA (fCons (fOp2 gSub (fVar 2) (fOp2 gPow (fC (.int 10)) (fC (.int 18)))) (fCons (fC (.int 0)) (fNil))) gMax2) (fNil)) gInt1) (fOp2 gPow (fOp2 gPow (fC (.int 10)) (fC (.int 60))) (fC (.int 10)))) (fCons (fOp2 gMod (bndA (fCons (fVar 2) (fNil)) gInt1) (fC (.int 2147483647))) (fCons (fOp2 gMul (fC (.int 1000)) (fVar 1)) (fNil)))) gMkL)
theorem b_l_generatorT {P : Program} {w : World} {K : PySem.W.Frag} {mg : Str → Option Value} {base : Heap} {ca : Str → Addr} (B : Bl mg) {f : Addr} {cdv : Value} {A : Around} {outer : List PySem.Env} {s : Shared} {H : Hp} {E : XK} {k : Nat} (c : Cn (fx P w K mg base N_l_generator "_law_generator" s_l_generator f cdv A outer s H E) E k) :
    DSs (fx P w K mg base N_l_generator "_law_generator" s_l_generator f cdv A outer s H E) E ((defBody s_l_generator).drop 1) (g_l_generatorT) := by
  have nd := sc_l_generator.nd
  exact dss_one (ds_ret (de_mkL (da_cons (d_mod (d_int B (da_cons (d_max2 c B (da_cons (d_sub (de_var (pv 2)) (d_pow (de_int) (de_int))) (da_cons (de_int) (da_nil)))) (da_nil))) (d_pow (d_pow (de_int) (de_int)) (de_int))) (da_cons (d_mod (d_int B (da_cons (de_var (pv 2)) (da_nil))) (de_int)) (da_cons (d_mul (de_int) (de_var (pv 1))) (da_nil))))))

section
variable {Y : Cx}
theorem pe_cellI (B : Bl Y.mg) {fc : Addr} {fdc : FuncData} (F : FunD Y.K "_law_cell" "_law_cell" (defArgs s_l_cell) (defBody s_l_cell) (defScope s_l_cell) [] [] fc fdc) (hm : Y.mg "_law_cell" = some (.ref fc)) {k i j n : Nat} {a b : Str} {p p1 p2 pos : Pos} (hgd : Y.A.guards = some []) (hr : Room (k + 1) Y.A) (ha : PE Y (.Name a p1) (tVar i)) (hb : PE Y (.Name b p2) (tVar j))
    (hg : Gl Y "_law_cell" := by rfl) (he : starEach [.Name a p1, .Name b p2] Y.env = (false, eval (.Name a p1) Y.env) :: starEach [.Name b p2] Y.env := by rfl) (he2 : starEach [.Name b p2] Y.env = (false, eval (.Name b p2) Y.env) :: starEach [] Y.env := by rfl) (hpl : (backTo pos (starEach [.Name b p2] Y.env)).any (·.1) = false := by rfl) :
    PE Y (.Call (.Name "_law_cell" p) [.Name a p1, .Name b p2] [] pos) (fun σ H Q => ∃ l ns, σ[i]? = some (some (.ref l)) ∧ σ[j]? = some (some (.int (n : Nat))) ∧ SqL Y.K H l (ns.map V.int) ∧ ∀ H', Gr Y.K H H' → Q (.int (cellI n ns)) H') := by
  refine ⟨fun pins s σ H Q I ⟨l, ns, h1, h2, hS, q⟩ => ?_⟩
  refine wpAny_Call_Name_kw (ld_glob I hg hm ?_ (by decide))
  refine PySem.W.callWith_K (h₀ := Y.base) I.ok.mod.kin F.kp (thn ((pa_cons ha (pa_cons hb pa_nil he2) he).run pos pins s σ H (fun vs H1 => vs = [.ref l, .int (n : Nat)] ∧ H1 = H) I ⟨.ref l, h1, .int (n : Nat), h2, rfl, rfl⟩) fun us s1 ⟨vs, H1, I1, r, e1, e2⟩ => ⟨I1.kIn, ?_⟩) he hpl
  subst e1
  rw [e2] at I1
  cases r with
  | cons r1 r =>
    cases r with
    | cons r2 r =>
      cases r
      obtain rfl := r1
      obtain ⟨t, rfl⟩ := r2
      refine wpAny_call (codeAny_mono (cell_run (Q := Q) (E := L2.E0) B F hgd hr I1.env0 hS q) fun r s' hq => ?_)
      cases r with
      | error e => exact (passL (X := Y) pins σ H s1 e s' I1 hq)
      | ok fl =>
        cases fl with
        | ret u => exact I1.after hq
        | next => exact False.elim hq
        | brk => exact False.elim hq
        | cont => exact False.elim hq
end
section
variable {P : Program} {w : World} {K : PySem.W.Frag} {mg : Str → Option Value} {base : Heap}
theorem generator_run (B : Bl mg) {fc fg : Addr} {fdc fdg : FuncData} (F : FunD K "_law_cell" "_law_cell" (defArgs s_l_cell) (defBody s_l_cell) (defScope s_l_cell) [] [] fc fdc) (hm : mg "_law_cell" = some (.ref fc)) (Fg : FunD K "_law_generator" "_law_generator" (defArgs s_l_generator) (defBody s_l_generator) (defScope s_l_generator) [] [] fg fdg)
    {A : Around} {outer : List PySem.Env} {s : Shared} {H : Hp} {l : Addr} {ns : List Int} {t : Tok} {k n : Nat} {Q : VK} {E : XK} {ds : List D} {ρ' : DL.Env} (hgd : A.guards = some []) (hr : Room (k + 2) A) (e0 : Env0 P w K mg base A outer s H) (hS : SqL K H l (ns.map V.int)) (tb : LamX.Tabs (TbK K) H)
    (hres : g_l_generatorT [none, some (.pu (.int (n : Nat))), some (.pu (.int (cellI n ns)))] = .ret (.frs ds) ρ') (hq : ∀ p xs H', Gr K H H' → H p = none → H' p = some (.lst xs) → Rps K (hid [p] H') xs ds → Q (.ref p) H') :
    codeAny (model P w) A (.call (.ref fg) ⟨[.ref l, .int (n : Nat) t], []⟩) (CR (L2.CX P w) outer P w H s Q E) s := by
  obtain ⟨oc, od, kV, doc, pm, an, cdv, ct, osl, rfl, lk, hcd⟩ := (Fun.ofD Fg).ex
  refine LamX.run_ofS (N := N_l_generator) (ps := ["script", "index"]) (us := [.ref l, .int (n : Nat) t]) (vs := [.ref l, .int (n : Nat)]) lk hcd sc_l_generator (hr.mono (j := k + 1 + 1) (Nat.le_refl _)) e0 (.of_eq (by first | rfl | with_unfolding_all rfl)) (.cons rfl (.cons ⟨t, rfl⟩ .nil)) rfl fun hr2 => ?_
  have nd := sc_l_generator.nd
  have cn : Cn (fx P w K mg base N_l_generator "_law_generator" s_l_generator fg cdv A outer s H E) E (k + 1) := ⟨hgd, hr2, passes_call (W := fun cls d _ H => E cls d H) (takes_of rfl rfl rfl rfl) (fun _ _ _ _ h => h), takes_of rfl rfl rfl rfl, rfl⟩
  refine ⟨_, pss_cons (ps_set nd (i := 2) rfl (.inl rfl) (pe_cellI (n := n) (Y := fx P w K mg base N_l_generator "_law_generator" s_l_generator fg cdv A outer s H E) B F hm hgd hr2 (pv 0) (pv 1))) (b_l_generatorT (ca := fun _ => 0) B cn).pss, ?_⟩
  refine ⟨l, ns, rfl, rfl, hS, fun H2 g => ?_⟩
  refine ⟨fun _ => 0, [], [], [none, some (.pu (.int (n : Nat))), some (.pu (.int (cellI n ns)))], srep_of (fun a z => absurd z (by simp)) (g.tb tb) rfl fun i sl q => ?_, ?_⟩
  · match i with
    | 0 => simp at q
    | 1 => exact ⟨_, .int (n : Nat), (by simpa using q.symm), rfl, .int _⟩
    | 2 => exact ⟨_, .int (cellI n ns), (by simpa using q.symm), rfl, .int _⟩
    | _ + 3 => simp at q
  · rw [hres]
    intro p xs σ3 H3 P3 t3 hp n1 n2 S3 hl r3
    exact hq p xs H3 (g.trans t3.toGr) (hp.elim (fun z => absurd z (by simp)) (g.al p)) hl (r3.ext (hid_less fun a z => List.mem_append_right _ z))
end

end K84
/-! E13: law, joined. -/
namespace K84
open PySem L2 PyProof.Rows DL
section
variable {Y : Cx}
theorem pe_gen (B : Bl Y.mg) {fc fg : Addr} {fdc fdg : FuncData} (F : FunD Y.K "_law_cell" "_law_cell" (defArgs s_l_cell) (defBody s_l_cell) (defScope s_l_cell) [] [] fc fdc) (hm : Y.mg "_law_cell" = some (.ref fc)) (Fg : FunD Y.K "_law_generator" "_law_generator" (defArgs s_l_generator) (defBody s_l_generator) (defScope s_l_generator) [] [] fg fdg) (hmg : Y.mg "_law_generator" = some (.ref fg))
    {k i j n : Nat} {z : Int} (hz : z = (n : Nat)) {a : Str} {p p1 p2 pos : Pos} (hgd : Y.A.guards = some []) (hr : Room (k + 2) Y.A) (ha : PE Y (.Name a p1) (tVar i))
    (hg : Gl Y "_law_generator" := by rfl) (he : starEach [.Name a p1, .Constant (.int z) j p2] Y.env = (false, eval (.Name a p1) Y.env) :: starEach [.Constant (.int z) j p2] Y.env := by rfl) (he2 : starEach [.Constant (.int z) j p2] Y.env = (false, eval (.Constant (.int z) j p2) Y.env) :: starEach [] Y.env := by rfl) (hpl : (backTo pos (starEach [.Constant (.int z) j p2] Y.env)).any (·.1) = false := by rfl) :
    PE Y (.Call (.Name "_law_generator" p) [.Name a p1, .Constant (.int z) j p2] [] pos) (fun σ H Q => ∃ l ns ds ρ', σ[i]? = some (some (.ref l)) ∧ SqL Y.K H l (ns.map V.int) ∧ LamX.Tabs (TbK Y.K) H ∧ g_l_generatorT [none, some (.pu (.int (n : Nat))), some (.pu (.int (cellI n ns)))] = .ret (.frs ds) ρ' ∧ ∀ p xs H', Gr Y.K H H' → H p = none → H' p = some (.lst xs) → Rps Y.K (hid [p] H') xs ds → Q (.ref p) H') := by
  refine ⟨fun pins s σ H Q I ⟨l, ns, ds, ρ', h1, hS, tb, hres, q⟩ => ?_⟩
  refine wpAny_Call_Name_kw (ld_glob I hg hmg ?_ (by decide))
  refine PySem.W.callWith_K (h₀ := Y.base) I.ok.mod.kin Fg.kp (thn ((pa_cons ha (pa_cons pe_int pa_nil he2) he).run pos pins s σ H (fun vs H1 => vs = [.ref l, .int (n : Nat)] ∧ H1 = H) I ⟨.ref l, h1, by rw [hz], rfl⟩) fun us s1 ⟨vs, H1, I1, r, e1, e2⟩ => ⟨I1.kIn, ?_⟩) he hpl
  subst e1
  rw [e2] at I1
  cases r with
  | cons r1 r =>
    cases r with
    | cons r2 r =>
      cases r
      obtain rfl := r1
      obtain ⟨t, rfl⟩ := r2
      refine wpAny_call (codeAny_mono (generator_run (Q := Q) (E := L2.E0) B F hm Fg hgd hr I1.env0 hS tb hres q) fun r s' hq => ?_)
      cases r with
      | error e => exact (passL (X := Y) pins σ H s1 e s' I1 hq)
      | ok fl =>
        cases fl with
        | ret u => exact I1.after hq
        | next => exact False.elim hq
        | brk => exact False.elim hq
        | cont => exact False.elim hq
end
section
variable {P : Program} {w : World} {K : PySem.W.Frag} {mg : Str → Option Value} {base : Heap}
theorem srep_gen {p q : Addr} {xs ys : List V} {ds es : List D} {H : Hp} {l : Addr} {n : Nat} (tb : LamX.Tabs (TbK K) H) (hpq : p ≠ q) (hl : H p = some (.lst xs)) (hl2 : H q = some (.lst ys)) (r : Rps K (hid [p, q] H) xs ds) (r2 : Rps K (hid [p, q] H) ys es) :
    SRep K (fun _ => 0) [] H (some (.ref l) :: some (.ref p) :: some (.ref q) :: List.replicate n none) (none :: some (.own 0 ds) :: some (.own 0 es) :: List.replicate n none) [p, q] := by
  have one : ∀ {i : Nat} {s : Sl}, ((none :: some (.own 0 ds) :: some (.own 0 es) :: List.replicate n none : DL.Env))[i]? = some (some s) → (i = 1 ∧ s = .own 0 ds) ∨ (i = 2 ∧ s = .own 0 es) := fun {i s} z => by
    match i with
    | 0 => simp at z
    | 1 => exact .inl ⟨rfl, by simpa using z.symm⟩
    | 2 => exact .inr ⟨rfl, by simpa using z.symm⟩
    | i + 3 =>
      have z : (List.replicate n (none : Option Sl))[i]? = some (some s) := by simpa using z
      rw [List.getElem?_replicate] at z
      split at z <;> simp at z
  refine ⟨fun i m d z => ?_, fun i t fs z => ?_, fun i j t u es' fs b hij e1 e2 e3 => ?_, fun a z => ?_, by simp, fun a z => by simp, tb, fun i g z => ?_⟩
  · rcases one z with ⟨_, e⟩ | ⟨_, e⟩ <;> cases e
  · rcases one z with ⟨rfl, e⟩ | ⟨rfl, e⟩
    · cases e
      exact ⟨p, xs, rfl, by simp, hl, by simpa using r, .inl rfl⟩
    · cases e
      exact ⟨q, ys, rfl, by simp, hl2, by simpa using r2, .inl rfl⟩
  · rcases one e1 with ⟨rfl, _⟩ | ⟨rfl, _⟩ <;> rcases one e2 with ⟨rfl, _⟩ | ⟨rfl, _⟩
    · exact absurd rfl hij
    · intro z
      have z := e3.trans z.symm
      exact hpq (by cases z; rfl)
    · intro z
      have z := e3.trans z.symm
      exact hpq (by cases z; rfl)
    · exact absurd rfl hij
  · have z : a = p ∨ a = q := by simpa using z
    rcases z with rfl | rfl
    · rw [hl]; exact fun z => nomatch z
    · rw [hl2]; exact fun z => nomatch z
  · rcases one z with ⟨_, e⟩ | ⟨_, e⟩ <;> cases e
theorem law_run (B : Bl mg) {fc fg fl cd : Addr} {fdc fdg fdl : FuncData} (F : FunD K "_law_cell" "_law_cell" (defArgs s_l_cell) (defBody s_l_cell) (defScope s_l_cell) [] [] fc fdc) (hm : mg "_law_cell" = some (.ref fc)) (Fg : FunD K "_law_generator" "_law_generator" (defArgs s_l_generator) (defBody s_l_generator) (defScope s_l_generator) [] [] fg fdg) (hmg : mg "_law_generator" = some (.ref fg))
    (Fl : FunD K "law" "law" (defArgs s_law) (defBody s_law) (defScope s_law) [] [] fl fdl) (hcd : fdl.code = .ref cd) {g : DL.Env → RS}
    (hb : ∀ (A : Around) (outer : List PySem.Env) (s : Shared) (H : Hp) (E : XK), Cn (fx P w K mg base N_law "law" s_law fl (.ref cd) A outer s H E) E 12 → DSs (fx P w K mg base N_law "law" s_law fl (.ref cd) A outer s H E) E ((defBody s_law).drop 1) g)
    {A : Around} {outer : List PySem.Env} {s : Shared} {H : Hp} {l : Addr} {ns : List Int} {Q : VK} {E : XK} {ds es : List D} {ρ' ρ'' ρ2 : DL.Env} (hgd : A.guards = some []) (hr : Room 13 A) (e0 : Env0 P w K mg base A outer s H) (hS : SqL K H l (ns.map V.int)) (tb : LamX.Tabs (TbK K) H) (hn1 : noLs ds = true) (hn2 : noLs es = true)
    (hgen : g_l_generatorT [none, some (.pu (.int ((0 : Nat) : Int))), some (.pu (.int (cellI 0 ns)))] = .ret (.frs ds) ρ') (hgen2 : g_l_generatorT [none, some (.pu (.int ((1 : Nat) : Int))), some (.pu (.int (cellI 1 ns)))] = .ret (.frs es) ρ'') (hres : g [none, some (.own 0 ds), some (.own 0 es), none, none, none, none, none] = .ret (.pu (.bool true)) ρ2) (hq : ∀ H', Q (.bl true) H') :
    codeAny (model P w) A (.call (.ref fl) ⟨[.ref l], []⟩) (CR (L2.CX P w) outer P w H s Q E) s := by
  obtain ⟨oc, od, kV, doc, pm, an, cdv, ct, osl, rfl, lk, hcd2⟩ := (Fun.ofD Fl).ex
  obtain rfl : cdv = .ref cd := hcd
  refine LamX.run_ofS (N := N_law) (ps := ["script"]) (us := [.ref l]) (vs := [.ref l]) lk hcd2 sc_law (hr.mono (j := 12 + 1) (Nat.le_refl _)) e0 (.of_eq (by first | rfl | with_unfolding_all rfl)) (.cons rfl .nil) rfl fun hr2 => ?_
  have nd := sc_law.nd
  have cn : Cn (fx P w K mg base N_law "law" s_law fl (.ref cd) A outer s H E) E 12 := ⟨hgd, hr2, passes_call (W := fun cls d _ H => E cls d H) (takes_of rfl rfl rfl rfl) (fun _ _ _ _ h => h), takes_of rfl rfl rfl rfl, rfl⟩
  refine ⟨_, pss_cons (ps_asg (pe_tup (pa_cons (pe_gen (Y := fx P w K mg base N_law "law" s_law fl (.ref cd) A outer s H E) (k := 10) (n := 0) B F hm Fg hmg rfl hgd hr2 (pv 0)) (pa_cons (pe_gen (Y := fx P w K mg base N_law "law" s_law fl (.ref cd) A outer s H E) (k := 10) (n := 1) B F hm Fg hmg rfl hgd hr2 (pv 0)) pa_nil)))
    (pg_tup cn.cm (pgs_cons (pg_name nd (i := 1) rfl (by first | exact .inl rfl | exact .inr rfl)) (pgs_cons (pg_name nd (i := 2) rfl (by first | exact .inl rfl | exact .inr rfl)) pgs_nil)))) (hb A outer s H E cn).pss, ?_⟩
  refine ⟨l, ns, ds, ρ', rfl, hS, tb, hgen, fun p xs H1 g1 hp hl r1 => ?_⟩
  refine ⟨l, ns, es, ρ'', rfl, ?_, g1.tb tb, hgen2, fun q ys H2 g2 hq2 hl2 r2 => ?_⟩
  · rcases hS with (hS | ⟨o, hS⟩) | hS
    · exact .inl (.inl (g1.kp _ _ hS fun _ z => nomatch z))
    · exact .inl (.inr ⟨o, g1.kp _ _ hS fun _ z => nomatch z⟩)
    · exact .inr hS
  refine ⟨show 2 ≤ sizeLine by decide, fun t ht => ⟨t, [.ref p, .ref q], rfl, .inl (.inl upd_same), rfl, .ref p, [.ref q], rfl, .ref q, [], rfl, rfl, ?_⟩⟩
  have g3 : Gr K H2 (upd H2 t (.tup [.ref p, .ref q])) := Ext.gr (Evl.Ex.new ht)
  have p2 : H2 p = some (.lst xs) := g2.kp _ _ hl fun _ z => nomatch z
  have pq : p ≠ q := fun z => by rw [z, hq2] at hl; cases hl
  have p3 := g3.kp _ _ p2 fun _ z => nomatch z
  have q3 := g3.kp _ _ hl2 fun _ z => nomatch z
  have ra : Rps K (hid [p, q] (upd H2 t (.tup [.ref p, .ref q]))) xs ds := noLs_rp (p := q) q3 (A := [p]) (fun a z => by
    rcases List.mem_cons.mp z with z | z
    · exact .inr (by rw [z]; exact .head _)
    · exact .inl (List.mem_singleton.mp z)) hn1 (r1.ext (g2.trans g3).hid)
  have rb : Rps K (hid [p, q] (upd H2 t (.tup [.ref p, .ref q]))) ys es := noLs_rp (p := p) p3 (A := [q]) (fun a z => by
    rcases List.mem_cons.mp z with z | z
    · exact .inl z
    · exact .inr z) hn2 (r2.ext g3.hid)
  refine ⟨fun _ => 0, [], [p, q], _, srep_gen (((g1.trans g2).trans g3).tb tb) pq p3 q3 ra rb, ?_⟩
  show CDS _ _ _ _ _ _ (g [none, some (.own 0 ds), some (.own 0 es), none, none, none, none, none]) _
  rw [hres]
  intro v σ3 H3 P3 t3 S3 r3
  rw [rp_bool r3]
  exact hq H3
end
end K84
/-! E14: the end, with the caller's guards known. -/
namespace K84
open PySem PySem.Spec L2 PyProof.Rows DL
/-- the script at a, tracked where K lacks it, and the empty tables of T -/
def startH (K : PySem.W.Frag) (T : List Addr) (a : Addr) (vs : List Value) (ns : List Int) : Hp := fun b =>
  if b ∈ T then some (.tbl #[]) else if b = a then (match K.lookup a with
    | none => some (.frz { cls := .type "list", data := .seq vs.toArray } (.lst (ns.map V.int)))
    | some _ => none) else none
section
variable {K : PySem.W.Frag} {T : List Addr} {a : Addr} {vs : List Value} {ns : List Int}
theorem startH_tab {b : Addr} (h : b ∈ T) : startH K T a vs ns b = some (.tbl #[]) := if_pos h
theorem startH_cases (b : Addr) : startH K T a vs ns b = none ∨ (b ∈ T ∧ startH K T a vs ns b = some (.tbl #[])) ∨ (b = a ∧ b ∉ T ∧ K.lookup a = none ∧ startH K T a vs ns b = some (.frz { cls := .type "list", data := .seq vs.toArray } (.lst (ns.map V.int)))) := by
  by_cases h : b ∈ T
  · exact .inr (.inl ⟨h, if_pos h⟩)
  · by_cases e : b = a
    · cases q : K.lookup a with
      | none => exact .inr (.inr ⟨e, h, rfl, by unfold startH; rw [if_neg h, if_pos e, q]⟩)
      | some o => exact .inl (by unfold startH; rw [if_neg h, if_pos e, q])
    · exact .inl (by unfold startH; rw [if_neg h, if_neg e])
end
section
variable {P : Program} {w : World} {K : PySem.W.Frag} {mg mb : Str → Option Value} {s₁ : Shared} {T : List Addr} {a : Addr} {vs : List Value} {ns : List Int}
theorem startH_hok (hT : ∀ b ∈ T, s₁.heap.get? b = some { cls := .none, data := .fields #[] }) (ha : s₁.heap.get? a = some { cls := .type "list", data := .seq vs.toArray }) (hi : IntsAre vs ns) (hl : ns.length ≤ sizeLine) : HOk P w (startH K T a vs ns) s₁.heap := fun b u z => by
  rcases startH_cases (K := K) (T := T) (a := a) (vs := vs) (ns := ns) b with e | ⟨hb, e⟩ | ⟨rfl, hb, q, e⟩
  · rw [e] at z; cases z
  · rw [e] at z; cases z; exact hT b hb
  · rw [e] at z; cases z
    exact ⟨ha, by rw [List.length_map]; exact hl, vs, _, vals_ints hi, ha⟩
theorem startH_sql (KX : K.In s₁.heap) (ha : s₁.heap.get? a = some { cls := .type "list", data := .seq vs.toArray }) (hi : IntsAre vs ns) (hl : ns.length ≤ sizeLine) (hT : a ∉ T) : SqL K (startH K T a vs ns) a (ns.map V.int) := by
  cases q : K.lookup a with
  | none => exact .inl (.inr ⟨_, by unfold startH; rw [if_neg hT, if_pos rfl, q]⟩)
  | some o =>
    have e := KX a o q
    rw [ha] at e
    cases e
    exact .inr ⟨_, vs.toArray, _, q, rfl, rfl, rfl, by rw [List.size_toArray, hi.length]; exact hl, by simpa using vals_ints hi⟩
theorem startH_free (hT : ∀ b ∈ T, s₁.heap.get? b = some { cls := .none, data := .fields #[] }) (ha : s₁.heap.get? a = some { cls := .type "list", data := .seq vs.toArray }) {b : Addr} {o : Obj} (e : s₁.heap.get? b = some o) (h1 : ∀ us n, o.data ≠ .seq us n) (h2 : o.data ≠ .fields #[]) : startH K T a vs ns b = none := by
  rcases startH_cases (K := K) (T := T) (a := a) (vs := vs) (ns := ns) b with z | ⟨hb, _⟩ | ⟨rfl, _⟩
  · exact z
  · rw [hT b hb] at e; cases e; exact absurd rfl h2
  · rw [ha] at e; cases e; exact absurd rfl (h1 _ _)
theorem startH_ns (hT : ∀ b ∈ T, s₁.heap.get? b = some { cls := .none, data := .fields #[] }) (ha : s₁.heap.get? a = some { cls := .type "list", data := .seq vs.toArray }) {b : Addr} {m : Str → Option Value} (h : s₁.heap.Ns b m) : (hidT s₁.heap (startH K T a vs ns)).Ns b m := by
  obtain ⟨o, es, ep, e, d, r⟩ := h
  exact ⟨o, es, ep, hidT_get e (startH_free hT ha e (fun us n z => by rw [d] at z; cases z) fun z => by rw [d] at z; cases z), d, r⟩
theorem startH_kin (KX : K.In s₁.heap) (nT : ∀ b ∈ T, K.lookup b = none) : K.In (hidT s₁.heap (startH K T a vs ns)) := fun b o e => hidT_get (KX b o e) (by
  rcases startH_cases (K := K) (T := T) (a := a) (vs := vs) (ns := ns) b with z | ⟨hb, _⟩ | ⟨rfl, _, q, _⟩
  · exact z
  · rw [nT b hb] at e; cases e
  · rw [q] at e; cases e)
theorem startH_env (KX : K.In s₁.heap) (nT : ∀ b ∈ T, K.lookup b = none) (hns : s₁.heap.Ns mainGlobals mg) (hb : s₁.heap.Ns builtinsNs mb) (hbb : ∀ x : Str, x ≠ "__name__" → mb x = bootBuiltins x) (hlim : s₁.heap.NoLimit) (hg : s₁.gens = #[])
    (hT : ∀ b ∈ T, s₁.heap.get? b = some { cls := .none, data := .fields #[] }) (ha : s₁.heap.get? a = some { cls := .type "list", data := .seq vs.toArray }) (hi : IntsAre vs ns) (hl : ns.length ≤ sizeLine) : Env0 P w K mg (hidT s₁.heap (startH K T a vs ns)) callerA [] s₁ (startH K T a vs ns) :=
  ⟨rfl, ⟨startH_kin KX nT, startH_ns hT ha hns, ⟨mb, startH_ns hT ha hb, hbb⟩, let ⟨mc, h1, h2⟩ := hlim; ⟨mc, startH_ns hT ha h1, h2⟩⟩, fun b o e => of_hidT e, Nat.le_of_eq (hidT_size _ _), trivial, fun b z => absurd (show b ∈ ([] : List Addr) from z) (by simp), startH_hok hT ha hi hl, .of_eq hg⟩
theorem startH_tabB {c Pt : Addr} (hP : Pt ∈ T) (hns : s₁.heap.Ns mainGlobals mg) (C : PySem.W.CodeHd s₁.heap c Pt) (hbm : ∃ (bm : Addr) (ob : Obj), mg "__builtins__" = some (.ref bm) ∧ bm ≠ builtinsNs ∧ s₁.heap.get? bm = some ob ∧ ob.cls = .type "module" ∧ ob.dict = some builtinsNs ∧ ob.data = .plain)
    (hT : ∀ b ∈ T, s₁.heap.get? b = some { cls := .none, data := .fields #[] }) (ha : s₁.heap.get? a = some { cls := .type "list", data := .seq vs.toArray }) : LamX.TabB (hidT s₁.heap (startH K T a vs ns)) mg c Pt := by
  refine ⟨?_, ?_, fun z => ?_⟩
  · obtain ⟨o, us, file, tf, flags, tg, inF, text, tt, e1, r1, r2, r3, r4, r5, r6, r7, r8, hne⟩ := C
    refine ⟨o, us, file, tf, flags, tg, inF, text, tt, hidT_get e1 (startH_free hT ha e1 (fun us n z => ?_) fun z => ?_), r1, r2, r3, r4, r5, r6, r7, r8, hne⟩
    · rw [r2] at z; cases z
    · rw [r2] at z
      cases z
      simp at r3
  · obtain ⟨bm, ob, b1, b2, b3, b4, b5, b6⟩ := hbm
    refine ⟨bm, ob, b1, b2, fun q => ?_, fun q => ?_, hidT_get b3 (startH_free hT ha b3 (fun us n z => ?_) fun z => ?_), b4, b5, b6⟩
    · obtain ⟨o, es, ep, e, hd, _⟩ := hns
      rw [q, e] at b3; cases b3
      rw [hd] at b6; cases b6
    · rw [q, hT _ hP] at b3; cases b3; cases b6
    · rw [b6] at z; cases z
    · rw [b6] at z; cases z
  · obtain ⟨o, es, ep, e, hd, _⟩ := hns
    rw [z, hT _ hP] at e; cases e; cases hd
theorem end_call {fa : Addr} (hT : ∀ b ∈ T, s₁.heap.get? b = some { cls := .none, data := .fields #[] }) (C : ∀ b ∈ T, ∃ c, PySem.W.CodeHd s₁.heap c b) (ha : s₁.heap.get? a = some { cls := .type "list", data := .seq vs.toArray }) (hi : IntsAre vs ns) (hl : ns.length ≤ sizeLine)
    (F : codeAny (model P w) callerA (.call (.ref fa) ⟨[.ref a], []⟩) (CR (L2.CX P w) [] P w (startH K T a vs ns) s₁ (fun v _ => v = .bl true) L2.E0) s₁) :
    codeAny (model P w) callerA (.call (.ref fa) ⟨[.ref a], []⟩) (fun r s' => r = .ok (.ret (.bool true)) ∧ OldK s₁.heap s'.heap ∧ s'.os = s₁.os ∧ AllBare s'.gens) s₁ := by
  refine codeAny_mono F fun r s' h => ?_
  cases r with
  | error e =>
    obtain ⟨_, _, _, _, _, _, _, _, _, _, _, _, _, _, _, _, z⟩ := h
  | ok fl =>
    cases fl with
    | next => exact False.elim h
    | brk => exact False.elim h
    | cont => exact False.elim h
    | ret u =>
      obtain ⟨v, H', os, bare, un, hok', r', q⟩ := h
      have q' : v = .bl true := q
      subst q'
      obtain rfl : u = Value.bool true := r'
      have key : ∀ b o, b ∉ T → s₁.heap.get? b = some o → s'.heap.get? b = some o := fun b o nb e => by
        rcases startH_cases (K := K) (T := T) (a := a) (vs := vs) (ns := ns) b with z | ⟨z, _⟩ | ⟨rfl, _, _, z⟩
        · exact un.keep b o e z (by intro w; exact absurd (show b ∈ ([] : List Addr) from w) (by simp)) (by simp)
        · exact absurd z nb
        · obtain ⟨e2, _⟩ := hok' b _ (un.frzs b _ _ z)
          rw [ha] at e; cases e
          exact e2
      have grown : ∀ b ∈ T, ∃ more : Array Value, s'.heap.get? b = some { cls := .none, data := .fields more } := fun b hb => by
        obtain ⟨more, z⟩ := un.tbls b #[] (startH_tab hb)
        exact ⟨_, hok' b _ z⟩
      refine ⟨rfl, ⟨fun b o e => ?_, fun b o e => ?_⟩, os, bare⟩
      · by_cases hb : b ∈ T
        · obtain ⟨more, hm⟩ := grown b hb
          obtain ⟨c, Cc⟩ := C b hb
          rw [hT b hb] at e
          cases e
          exact .inr (.inl ⟨(Cc.tab (hT b hb)).isCodeTable, rfl, #[], more, rfl, by rw [Array.empty_append]; exact hm⟩)
        · exact .inl (key b o hb e)
      · by_cases hb : b ∈ T
        · obtain ⟨more, hm⟩ := grown b hb
          exact ⟨_, hm⟩
        · exact ⟨o, key b o hb e⟩
end
end K84
/-! A0: shares: the arithmetic, no program in sight. -/
namespace SH
open DL
def ab (i : Int) : Int := if i < 0 then -i else i
theorem ab_nonneg (i : Int) : 0 ≤ ab i := by unfold ab; split <;> omega
theorem ab_ge (i : Int) : i ≤ ab i ∧ -i ≤ ab i := by unfold ab; split <;> omega
/-! ### sums -/
theorem sum_le {α : Type} {f g : α → Int} : ∀ {l : List α}, (∀ x ∈ l, f x ≤ g x) → (l.map f).sum ≤ (l.map g).sum
  | [], _ => by simp
  | x :: l, h => by
    have h1 := h x List.mem_cons_self
    have h2 := sum_le (l := l) fun y hy => h y (List.mem_cons_of_mem _ hy)
    simp only [List.map_cons, List.sum_cons]
    omega
theorem sum_add {α : Type} {f g : α → Int} : ∀ {l : List α}, (l.map fun x => f x + g x).sum = (l.map f).sum + (l.map g).sum
  | [] => by simp
  | x :: l => by
    have h2 := sum_add (f := f) (g := g) (l := l)
    simp only [List.map_cons, List.sum_cons]
    omega
theorem sum_sub {α : Type} {f g : α → Int} : ∀ {l : List α}, (l.map fun x => f x - g x).sum = (l.map f).sum - (l.map g).sum
  | [] => by simp
  | x :: l => by
    have h2 := sum_sub (f := f) (g := g) (l := l)
    simp only [List.map_cons, List.sum_cons]
    omega
theorem sum_mulL {α : Type} {f : α → Int} (c : Int) : ∀ {l : List α}, (l.map fun x => c * f x).sum = c * (l.map f).sum
  | [] => by simp
  | x :: l => by
    have h2 := sum_mulL (f := f) c (l := l)
    simp only [List.map_cons, List.sum_cons]
    rw [h2, Int.mul_add]
theorem sum_mulR {α : Type} {f : α → Int} (c : Int) {l : List α} : (l.map fun x => f x * c).sum = (l.map f).sum * c := by
  rw [Int.mul_comm, ← sum_mulL]
  congr 1
  exact List.map_congr_left fun x _ => Int.mul_comm _ _
theorem sum_eq {α : Type} {f g : α → Int} {l : List α} (h : ∀ x ∈ l, f x = g x) : (l.map f).sum = (l.map g).sum := by
  rw [List.map_congr_left h]
theorem sum_perm {α : Type} {f : α → Int} {l m : List α} (h : l.Perm m) : (l.map f).sum = (m.map f).sum := by
  induction h with
  | nil => rfl
  | cons x _ ih => simp only [List.map_cons, List.sum_cons, ih]
  | swap x y l => simp only [List.map_cons, List.sum_cons]; omega
  | trans _ _ a b => exact a.trans b
theorem sum_nonneg : ∀ {l : List Int}, (∀ x ∈ l, 0 ≤ x) → 0 ≤ l.sum
  | [], _ => by simp
  | x :: l, h => by
    have h1 := h x List.mem_cons_self
    have h2 := sum_nonneg (l := l) fun y hy => h y (List.mem_cons_of_mem _ hy)
    simp only [List.sum_cons]
    omega
theorem le_sum : ∀ {l : List Int}, (∀ x ∈ l, 0 ≤ x) → ∀ x ∈ l, x ≤ l.sum
  | [], _, x, hx => absurd hx (by simp)
  | y :: l, h, x, hx => by
    have h1 := h y List.mem_cons_self
    have h2 := sum_nonneg (l := l) fun y hy => h y (List.mem_cons_of_mem _ hy)
    simp only [List.sum_cons]
    rcases List.mem_cons.mp hx with e | e
    · omega
    · have := le_sum (l := l) (fun y hy => h y (List.mem_cons_of_mem _ hy)) x e
      omega
theorem map_range {α : Type} (l : List α) (d : α) : (List.range l.length).map (fun i => l.getD i d) = l := by
  refine List.ext_getElem (by simp) fun i h1 h2 => ?_
  simp [h2]
theorem sum_range (l : List Int) : ((List.range l.length).map fun i => l.getD i 0).sum = l.sum := by rw [map_range]
/-! ### shares -/
def fl (W N w : Int) : Int := w * N / W
def rs (W N w : Int) : Int := w * N % W
def fls (ws : List Int) (N : Int) : List Int := ws.map (fl ws.sum N)
def rss (ws : List Int) (N : Int) : List Int := ws.map (rs ws.sum N)
def exN (ws : List Int) (N : Int) : Int := N - (fls ws N).sum
def rai (ws : List Int) (N : Int) : List Nat := (sortK (rss ws N)).take (exN ws N).toNat
def sh1 (ws : List Int) (N : Int) (i : Nat) : Int := fl ws.sum N (ws.getD i 0) + if i ∈ rai ws N then 1 else 0
def made (ws : List Int) (N : Int) : List Int := (List.range ws.length).map (sh1 ws N)
theorem made_length {ws : List Int} {N : Int} : (made ws N).length = ws.length := by simp [made]
theorem made_getD {ws : List Int} {N : Int} {i : Nat} (h : i < ws.length) : (made ws N).getD i 0 = sh1 ws N i := by simp [made, h]
theorem rss_length {ws : List Int} {N : Int} : (rss ws N).length = ws.length := by simp [rss]
/-- weights -/
structure Wt (ws : List Int) : Prop where
  nn : ∀ w ∈ ws, 0 ≤ w
  ps : 0 < ws.sum
  l1 : 1 ≤ ws.length
  l30 : ws.length ≤ 30
section
variable {ws : List Int} {N : Int}
theorem Wt.getD (h : Wt ws) (i : Nat) : 0 ≤ ws.getD i 0 := by
  by_cases e : i < ws.length
  · rw [List.getD_eq_getElem?_getD, List.getElem?_eq_getElem e]
    exact h.nn _ (List.getElem_mem e)
  · rw [List.getD_eq_getElem?_getD, List.getElem?_eq_none (by omega)]
    exact Int.le_refl 0
theorem rs_range {W w : Int} (h : 0 < W) : 0 ≤ rs W N w ∧ rs W N w < W := ⟨Int.emod_nonneg _ (by omega), Int.emod_lt_of_pos _ h⟩
theorem fl_rs (W w : Int) : w * N = W * fl W N w + rs W N w := (Int.mul_ediv_add_emod _ _).symm
theorem rss_sum (ws : List Int) (N : Int) : (rss ws N).sum = ws.sum * exN ws N := by
  unfold rss exN fls
  have e : (ws.map fun w => w * N).sum = ws.sum * N := by
    have z := sum_mulR (f := fun w : Int => w) (l := ws) N
    rw [List.map_id'] at z
    exact z
  have e2 : (ws.map fun w => w * N).sum = (ws.map fun w => ws.sum * fl ws.sum N w + rs ws.sum N w).sum := sum_eq fun w _ => fl_rs _ _
  rw [sum_add, sum_mulL] at e2
  rw [Int.mul_sub]
  omega
theorem cnt_sum {W : Int} : ∀ {l : List Int}, (∀ x ∈ l, 0 ≤ x ∧ x < W) → l.sum ≤ W * ((l.filter fun x => decide (0 < x)).length : Nat)
  | [], _ => by simp
  | x :: l, h => by
    have h1 := h x List.mem_cons_self
    have h2 := cnt_sum (l := l) fun y hy => h y (List.mem_cons_of_mem _ hy)
    rw [List.sum_cons, List.filter_cons]
    by_cases e : 0 < x
    · rw [decide_eq_true e, if_pos rfl, List.length_cons, Int.natCast_add, Int.mul_add]
      simp only [Int.natCast_one, Int.mul_one]
      omega
    · rw [decide_eq_false e, if_neg Bool.false_ne_true]
      omega
theorem rss_mem (h : Wt ws) : ∀ x ∈ rss ws N, 0 ≤ x ∧ x < ws.sum := fun x hx => by
  obtain ⟨w, _, rfl⟩ := List.mem_map.mp hx
  exact rs_range h.ps
theorem exN_nonneg (h : Wt ws) : 0 ≤ exN ws N := by
  have e := rss_sum ws N
  have z : 0 ≤ (rss ws N).sum := sum_nonneg fun x hx => (rss_mem h x hx).1
  rw [e] at z
  exact Int.nonneg_of_mul_nonneg_right z h.ps
def brk (ws : List Int) (N : Int) : Nat := ((rss ws N).filter fun x => decide (0 < x)).length
theorem exN_le (h : Wt ws) : exN ws N ≤ (brk ws N : Nat) := by
  have e := rss_sum ws N
  have z := cnt_sum (rss_mem (N := N) h)
  rw [e] at z
  exact Int.le_of_mul_le_mul_left z h.ps
theorem brk_le : brk ws N ≤ ws.length := by
  unfold brk
  have := List.length_filter_le (fun x => decide (0 < x)) (rss ws N)
  rw [rss_length] at this
  exact this
theorem exN_toNat (h : Wt ws) : (exN ws N).toNat ≤ ws.length := by
  have h1 := exN_le (N := N) h
  have h2 := brk_le (ws := ws) (N := N)
  omega
/-! the order -/
theorem sortK_perm (ns : List Int) : (sortK ns).Perm (List.range ns.length) := List.mergeSort_perm _ _
theorem sortK_pw (ns : List Int) : (sortK ns).Pairwise fun a b => ns.getD b 0 ≤ ns.getD a 0 := by
  have z : (sortK ns).Pairwise fun a b => decide (ns.getD b 0 < ns.getD a 0 ∨ (ns.getD a 0 = ns.getD b 0 ∧ a ≤ b)) = true := by
    refine List.pairwise_mergeSort (fun a b c h1 h2 => ?_) (fun a b => ?_) _
    · have h1 := of_decide_eq_true h1
      have h2 := of_decide_eq_true h2
      exact decide_eq_true (by omega)
    · rw [Bool.or_eq_true, decide_eq_true_eq, decide_eq_true_eq]
      omega
  refine z.imp fun {a b} h => ?_
  have h := of_decide_eq_true h
  omega
theorem sortK_nodup (ns : List Int) : (sortK ns).Nodup := (sortK_perm ns).nodup_iff.mpr List.nodup_range
theorem take_drop_sep {l : List Nat} (h : l.Nodup) (n : Nat) {x : Nat} (h1 : x ∈ l.drop n) : x ∉ l.take n := fun h2 => by
  have z : (l.take n ++ l.drop n).Nodup := by rw [List.take_append_drop]; exact h
  exact (List.nodup_append.mp z).2.2 x h2 x h1 rfl
theorem ind_sum {l : List Nat} (h : l.Nodup) (n : Nat) (hn : n ≤ l.length) : (l.map fun i => if i ∈ l.take n then (1 : Int) else 0).sum = (n : Nat) := by
  have e : (l.map fun i => if i ∈ l.take n then (1 : Int) else 0).sum = (((l.take n) ++ (l.drop n)).map fun i => if i ∈ l.take n then (1 : Int) else 0).sum := by rw [List.take_append_drop]
  rw [e, List.map_append, List.sum_append]
  have a : ∀ m : List Nat, (∀ x ∈ m, x ∈ l.take n) → (m.map fun i => if i ∈ l.take n then (1 : Int) else 0).sum = (m.length : Nat) := by
    intro m
    induction m with
    | nil => intro _; rfl
    | cons x m ih =>
      intro hm
      rw [List.map_cons, List.sum_cons, if_pos (hm x List.mem_cons_self), ih fun y hy => hm y (List.mem_cons_of_mem _ hy), List.length_cons]
      omega
  have b : ∀ m : List Nat, (∀ x ∈ m, x ∉ l.take n) → (m.map fun i => if i ∈ l.take n then (1 : Int) else 0).sum = 0 := by
    intro m
    induction m with
    | nil => intro _; rfl
    | cons x m ih =>
      intro hm
      rw [List.map_cons, List.sum_cons, if_neg (hm x List.mem_cons_self), ih fun y hy => hm y (List.mem_cons_of_mem _ hy)]
      rfl
  rw [a _ fun x hx => hx, b _ fun x hx => take_drop_sep h n hx, List.length_take, Nat.min_eq_left hn]
  omega
theorem fls_sum : ((List.range ws.length).map fun i => fl ws.sum N (ws.getD i 0)).sum = (fls ws N).sum := by
  have e : (fun i => fl ws.sum N (ws.getD i 0)) = (fl ws.sum N) ∘ fun i => ws.getD i 0 := rfl
  rw [e, ← List.map_map, map_range]
  rfl
theorem made_sum (h : Wt ws) : (made ws N).sum = N := by
  unfold made sh1
  rw [sum_add, fls_sum]
  have p : (List.range ws.length).Perm (sortK (rss ws N)) := by
    have z := (sortK_perm (rss ws N)).symm
    rw [rss_length] at z
    exact z
  rw [sum_perm p]
  have hl : (exN ws N).toNat ≤ (sortK (rss ws N)).length := by
    rw [sortK_length, rss_length]
    exact exN_toNat h
  have z := ind_sum (sortK_nodup (rss ws N)) _ hl
  unfold rai
  rw [z]
  have h2 := exN_nonneg (N := N) h
  unfold exN at h2 ⊢
  omega
theorem fl_nonneg (h : Wt ws) (hN : 0 ≤ N) (i : Nat) : 0 ≤ fl ws.sum N (ws.getD i 0) := Int.ediv_nonneg (Int.mul_nonneg (h.getD i) hN) (by have := h.ps; omega)
theorem sh1_nonneg (h : Wt ws) (hN : 0 ≤ N) (i : Nat) : 0 ≤ sh1 ws N i := by
  have := fl_nonneg h hN i
  unfold sh1
  split <;> omega
theorem made_nonneg (h : Wt ws) (hN : 0 ≤ N) : ∀ x ∈ made ws N, 0 ≤ x := fun x hx => by
  obtain ⟨i, _, rfl⟩ := List.mem_map.mp hx
  exact sh1_nonneg h hN i
theorem made_le (h : Wt ws) (hN : 0 ≤ N) : ∀ x ∈ made ws N, x ≤ N := fun x hx => by
  have := le_sum (made_nonneg h hN) x hx
  rw [made_sum h] at this
  exact this
/-! the least miss -/
theorem thr (h : Wt ws) : ∃ t : Int, 0 ≤ t ∧ t ≤ ws.sum ∧ ∀ i, i < ws.length → (i ∈ rai ws N → t ≤ rs ws.sum N (ws.getD i 0)) ∧ (i ∉ rai ws N → rs ws.sum N (ws.getD i 0) ≤ t) := by
  have gd : ∀ i, i < ws.length → (rss ws N).getD i 0 = rs ws.sum N (ws.getD i 0) := fun i hi => by simp [rss, hi]
  have hl : (sortK (rss ws N)).length = ws.length := by rw [sortK_length, rss_length]
  have hm : ∀ i, i < ws.length → i ∈ sortK (rss ws N) := fun i hi => (sortK_perm (rss ws N)).mem_iff.mpr (List.mem_range.mpr (by rw [rss_length]; exact hi))
  have hE := exN_toNat (N := N) h
  have pw := List.pairwise_iff_getElem.mp (sortK_pw (rss ws N))
  generalize hL : sortK (rss ws N) = L at hl hm pw
  have hr : rai ws N = L.take (exN ws N).toNat := by unfold rai; rw [hL]
  rw [hr]
  generalize (exN ws N).toNat = n at hE
  cases n with
  | zero =>
    refine ⟨ws.sum, by have := h.ps; omega, Int.le_refl _, fun i hi => ⟨fun z => absurd z (by simp), fun _ => ?_⟩⟩
    have := (rs_range (N := N) (w := ws.getD i 0) h.ps).2
    omega
  | succ n =>
    have hn : n < L.length := by omega
    have mem : ∀ x ∈ L, x < ws.length := fun x hx => by
      rw [← hL] at hx
      have z := List.mem_range.mp ((sortK_perm (rss ws N)).mem_iff.mp hx)
      rw [rss_length] at z
      exact z
    have hx := mem _ (List.getElem_mem hn)
    refine ⟨rs ws.sum N (ws.getD L[n] 0), (rs_range h.ps).1, by have := (rs_range (N := N) (w := ws.getD L[n] 0) h.ps).2; omega, fun i hi => ⟨fun hm2 => ?_, fun hm2 => ?_⟩⟩
    · obtain ⟨a, ha, e⟩ := List.mem_iff_getElem.mp hm2
      rw [List.length_take] at ha
      rw [List.getElem_take] at e
      rw [← gd i hi, ← gd _ hx, ← e]
      by_cases q : a = n
      · subst q; exact Int.le_refl _
      · exact pw a n (by omega) hn (by omega)
    · obtain ⟨a, ha, e⟩ := List.mem_iff_getElem.mp (hm i hi)
      have ge : n + 1 ≤ a := by
        refine Nat.le_of_not_lt fun z => hm2 ?_
        rw [← e]
        exact List.mem_iff_getElem.mpr ⟨a, by rw [List.length_take]; omega, by rw [List.getElem_take]⟩
      rw [← gd i hi, ← gd _ hx, ← e]
      exact pw n a hn ha (by omega)
theorem ab_k {W r t k : Int} (h1 : 0 ≤ r) (h2 : r < W) (h3 : 0 ≤ t) (h4 : t ≤ W) : (r ≤ t → r ≤ ab (k * W - r) - (W - 2 * t) * k) ∧ (t ≤ r → (W - r) - (W - 2 * t) ≤ ab (k * W - r) - (W - 2 * t) * k) := by
  have ex : (W - 2 * t) * k = k * W - 2 * (t * k) := by rw [Int.sub_mul, Int.mul_comm W k, Int.mul_assoc]
  rw [ex]
  have hk : k ≤ 0 ∨ 1 ≤ k := by omega
  rcases hk with hk | hk
  · have a1 : 0 ≤ (-k) * (W - t) := Int.mul_nonneg (by omega) (by omega)
    have e1 : (-k) * (W - t) = -(k * W) + t * k := by rw [Int.neg_mul, Int.mul_sub, Int.mul_comm t k]; omega
    rw [e1] at a1
    have a2 := (ab_ge (k * W - r)).2
    exact ⟨fun _ => by omega, fun _ => by omega⟩
  · have a1 : 0 ≤ t * (k - 1) := Int.mul_nonneg h3 (by omega)
    rw [Int.mul_sub, Int.mul_one] at a1
    have a2 := (ab_ge (k * W - r)).1
    exact ⟨fun _ => by omega, fun _ => by omega⟩
/-- how much a list misses, times the sum of the weights -/
def mis (ws : List Int) (N : Int) (v : List Int) : Int := ((List.range ws.length).map fun i => ab (v.getD i 0 * ws.sum - ws.getD i 0 * N)).sum
theorem mis_least (h : Wt ws) {v : List Int} (hl : v.length = ws.length) (hs : v.sum = N) : mis ws N (made ws N) ≤ mis ws N v := by
  obtain ⟨t, t0, t1, ht⟩ := thr (N := N) h
  have key : ((List.range ws.length).map fun i => ab ((made ws N).getD i 0 * ws.sum - ws.getD i 0 * N) - (ws.sum - 2 * t) * (made ws N).getD i 0).sum ≤ ((List.range ws.length).map fun i => ab (v.getD i 0 * ws.sum - ws.getD i 0 * N) - (ws.sum - 2 * t) * v.getD i 0).sum := by
    refine sum_le fun i hi => ?_
    have hi := List.mem_range.mp hi
    rw [made_getD hi]
    obtain ⟨q1, q2⟩ := ht i hi
    have rr := rs_range (N := N) (w := ws.getD i 0) h.ps
    have fr := fl_rs (N := N) ws.sum (ws.getD i 0)
    rw [fr]
    generalize rs ws.sum N (ws.getD i 0) = r at *
    have dst : ∀ x : Int, x * ws.sum - (ws.sum * fl ws.sum N (ws.getD i 0) + r) = (x - fl ws.sum N (ws.getD i 0)) * ws.sum - r := fun x => by
      rw [Int.sub_mul, Int.mul_comm ws.sum (fl _ _ _)]
      omega
    rw [dst, dst]
    unfold sh1
    generalize fl ws.sum N (ws.getD i 0) = f at *
    obtain ⟨a1, a2⟩ := ab_k (k := v.getD i 0 - f) rr.1 rr.2 t0 t1
    rw [Int.mul_sub (ws.sum - 2 * t) (v.getD i 0) f] at a1 a2
    by_cases m : i ∈ rai ws N
    · rw [if_pos m, show f + 1 - f = 1 by omega, Int.one_mul, Int.mul_add, Int.mul_one]
      have a2 := a2 (q1 m)
      have e : ab (ws.sum - r) = ws.sum - r := by unfold ab; rw [if_neg (by omega)]
      rw [e]
      omega
    · rw [if_neg m, show f + 0 - f = 0 by omega, Int.zero_mul, Int.add_zero]
      have a1 := a1 (q2 m)
      have e : ab (0 - r) = r := by unfold ab; split <;> omega
      rw [e]
      omega
  rw [sum_sub, sum_sub, sum_mulL, sum_mulL] at key
  have s1 : ((List.range ws.length).map fun i => (made ws N).getD i 0).sum = N := by
    have z := sum_range (made ws N)
    rw [made_length, made_sum h] at z
    exact z
  have s2 : ((List.range ws.length).map fun i => v.getD i 0).sum = N := by
    have z := sum_range v
    rw [hl, hs] at z
    exact z
  rw [s1, s2] at key
  unfold mis
  omega
end
end SH
/-! A1: lowest terms, Euclid, choices, what are shares. -/
namespace SH
def gc (a b : Int) : Int := (Nat.gcd a.natAbs b.natAbs : Nat)
def lw (a b : Int) : Int × Int := (a / gc a b, b / gc a b)
theorem gc_pos {a b : Int} (h : 0 < b) : 0 < gc a b := by
  unfold gc
  have : 0 < Nat.gcd a.natAbs b.natAbs := Nat.gcd_pos_of_pos_right _ (by omega)
  omega
theorem gc_dvd {a b : Int} : gc a b ∣ a ∧ gc a b ∣ b := by
  unfold gc
  exact ⟨Int.ofNat_dvd_left.mpr (Nat.gcd_dvd_left _ _), Int.ofNat_dvd_left.mpr (Nat.gcd_dvd_right _ _)⟩
theorem lw_mul {a b : Int} : a = gc a b * (lw a b).1 ∧ b = gc a b * (lw a b).2 := ⟨(Int.mul_ediv_cancel' gc_dvd.1).symm, (Int.mul_ediv_cancel' gc_dvd.2).symm⟩
theorem lw_scale {k a b : Int} (hk : 0 < k) : lw (k * a) (k * b) = lw a b := by
  have e : gc (k * a) (k * b) = k * gc a b := by
    unfold gc
    rw [Int.natAbs_mul, Int.natAbs_mul, Nat.gcd_mul_left, Int.natCast_mul]
    congr 1
    omega
  unfold lw
  rw [e, Int.mul_ediv_mul_of_pos _ _ hk, Int.mul_ediv_mul_of_pos _ _ hk]
theorem lw_pos {a b : Int} (h : 0 < b) : 0 < (lw a b).2 := by
  have g := gc_pos (a := a) h
  have e := (lw_mul (a := a) (b := b)).2
  refine Int.lt_of_not_ge fun z => ?_
  have := Int.mul_nonneg (Int.le_of_lt g) (show 0 ≤ -(lw a b).2 by omega)
  rw [Int.mul_neg] at this
  omega
theorem lw_nonneg {a b : Int} (h : 0 < b) (ha : 0 ≤ a) : 0 ≤ (lw a b).1 := Int.ediv_nonneg ha (Int.le_of_lt (gc_pos h))
theorem lw_le {a b : Int} (h : 0 < b) (ha : 0 ≤ a) : (lw a b).1 ≤ a ∧ (lw a b).2 ≤ b := ⟨Int.ediv_le_self _ ha, Int.ediv_le_self _ (Int.le_of_lt h)⟩
theorem lw_zero {b : Int} (h : 0 < b) : lw 0 b = (0, 1) := by
  have e : gc 0 b = b := by
    unfold gc
    rw [Int.natAbs_zero, Nat.gcd_zero_left]
    omega
  unfold lw
  rw [e, Int.zero_ediv, Int.ediv_self (by omega)]
theorem lw_plus {a e W : Int} (h : 0 < W) : lw ((lw a W).1 * (lw e W).2 + (lw e W).1 * (lw a W).2) ((lw a W).2 * (lw e W).2) = lw (a + e) W := by
  obtain ⟨a1, a2⟩ := lw_mul (a := a) (b := W)
  obtain ⟨b1, b2⟩ := lw_mul (a := e) (b := W)
  have g1 := gc_pos (a := a) h
  have g2 := gc_pos (a := e) h
  have gp : 0 < gc a W * gc e W := Int.mul_pos g1 g2
  generalize gc a W = g at *
  generalize gc e W = k at *
  generalize (lw a W).1 = p at *
  generalize (lw a W).2 = q at *
  generalize (lw e W).1 = c at *
  generalize (lw e W).2 = d at *
  have x1 : g * k * (p * d + c * q) = W * (a + e) := by
    have s1 : g * k * (p * d) = (g * p) * (k * d) := by rw [Int.mul_assoc, Int.mul_assoc]; congr 1; rw [← Int.mul_assoc, ← Int.mul_assoc, Int.mul_comm k p]
    have s2 : g * k * (c * q) = (k * c) * (g * q) := by rw [Int.mul_comm g k, Int.mul_assoc, Int.mul_assoc]; congr 1; rw [← Int.mul_assoc, ← Int.mul_assoc, Int.mul_comm g c]
    rw [Int.mul_add, s1, s2, ← a1, ← b1, ← a2, ← b2, Int.mul_add, Int.mul_comm a W, Int.mul_comm e W]
  have x2 : g * k * (q * d) = W * W := by
    have s1 : g * k * (q * d) = (g * q) * (k * d) := by rw [Int.mul_assoc, Int.mul_assoc]; congr 1; rw [← Int.mul_assoc, ← Int.mul_assoc, Int.mul_comm k q]
    rw [s1, ← a2, ← b2]
  rw [← lw_scale gp, x1, x2, lw_scale h]
/-- sums in lowest terms -/
def pls (x y : Int × Int) : Int × Int := lw (x.1 * y.2 + y.1 * x.2) (x.2 * y.2)
theorem tot_lw {W : Int} (h : 0 < W) : ∀ (l : List Int) (a : Int), (l.map fun e => lw e W).foldl pls (lw a W) = lw (a + l.sum) W
  | [], a => by simp
  | e :: l, a => by
    rw [List.map_cons, List.foldl_cons, List.sum_cons, ← Int.add_assoc, ← tot_lw h l (a + e)]
    congr 1
    exact lw_plus h
/-! Euclid -/
def euc : Nat → Nat → Nat → Option Nat
  | 0, _, _ => none
  | n + 1, a, b => if b = 0 then some a else euc n b (a % b)
theorem euc_ok : ∀ (k n a b : Nat), b < 2 ^ k → 2 * k + 1 ≤ n → euc n a b = some (Nat.gcd a b)
  | 0, n, a, b, h, hn => by
    obtain ⟨n, rfl⟩ : ∃ m, n = m + 1 := ⟨n - 1, by omega⟩
    have : b = 0 := by simpa using h
    subst this
    simp [euc]
  | k + 1, n, a, b, h, hn => by
    obtain ⟨n, rfl⟩ : ∃ m, n = m + 2 := ⟨n - 2, by omega⟩
    by_cases hb : b = 0
    · subst hb; simp [euc]
    · rw [euc, if_neg hb, euc]
      have e1 : Nat.gcd a b = Nat.gcd b (a % b) := by rw [Nat.gcd_comm a b, Nat.gcd_rec b a, Nat.gcd_comm]
      by_cases hr : a % b = 0
      · rw [if_pos hr, e1, hr, Nat.gcd_zero_right]
      · rw [if_neg hr]
        have hlt : a % b < b := Nat.mod_lt _ (by omega)
        have h3 : b % (a % b) < a % b := Nat.mod_lt _ (by omega)
        have h4 : b % (a % b) + a % b ≤ b := by
          have q := Nat.div_add_mod b (a % b)
          have q2 : 1 ≤ b / (a % b) := Nat.div_pos (by omega) (by omega)
          have q3 : (a % b) * 1 ≤ (a % b) * (b / (a % b)) := Nat.mul_le_mul_left _ q2
          omega
        have e2 : Nat.gcd b (a % b) = Nat.gcd (a % b) (b % (a % b)) := by rw [Nat.gcd_comm b, Nat.gcd_rec (a % b) b, Nat.gcd_comm]
        rw [e1, e2]
        refine euc_ok k n _ _ ?_ (by omega)
        rw [Nat.pow_succ] at h
        omega
/-! choices -/
def ch : Nat → Nat → Nat
  | _, 0 => 1
  | 0, _ + 1 => 0
  | m + 1, k + 1 => ch m k + ch m (k + 1)
theorem ch_zero : ∀ (m k : Nat), m < k → ch m k = 0
  | 0, k + 1, _ => rfl
  | m + 1, k + 1, h => by rw [ch, ch_zero m k (by omega), ch_zero m (k + 1) (by omega)]
theorem ch_self : ∀ m, ch m m = 1
  | 0 => rfl
  | m + 1 => by rw [ch, ch_self m, ch_zero m (m + 1) (by omega)]
theorem ch_le : ∀ m k, ch m k ≤ 2 ^ m
  | 0, 0 => by simp [ch]
  | 0, k + 1 => by simp [ch]
  | m + 1, 0 => by simp only [ch]; exact Nat.one_le_two_pow
  | m + 1, k + 1 => by
    have h1 := ch_le m k
    have h2 := ch_le m (k + 1)
    rw [ch, Nat.pow_succ]
    omega
theorem ch_step : ∀ m k, ch m (k + 1) * (k + 1) = ch m k * (m - k)
  | 0, k => by simp [ch]
  | m + 1, 0 => by
    have z := ch_step m 0
    simp only [ch, Nat.sub_zero, Nat.zero_add, Nat.mul_one, Nat.one_mul] at z ⊢
    omega
  | m + 1, k + 1 => by
    have z1 := ch_step m k
    have z2 := ch_step m (k + 1)
    show (ch m (k + 1) + ch m (k + 2)) * (k + 1 + 1) = (ch m k + ch m (k + 1)) * (m + 1 - (k + 1))
    rw [Nat.add_mul, Nat.add_mul, z2, show m + 1 - (k + 1) = m - k by omega, ← z1]
    by_cases hk : k + 1 ≤ m
    · rw [show ch m (k + 1) * (k + 1 + 1) = ch m (k + 1) * (k + 1) + ch m (k + 1) by rw [Nat.mul_add, Nat.mul_one]]
      have : m - k = (m - (k + 1)) + 1 := by omega
      rw [this, Nat.mul_add (ch m (k + 1)) (m - (k + 1)) 1, Nat.mul_one]
      omega
    · rw [ch_zero m (k + 1) (by omega)]
      simp
/-! what are shares -/
theorem ok_iff {W N w one : Int} (h : 0 < W) : (one ≠ fl W N w ∧ (one ≠ fl W N w + 1 ∨ rs W N w = 0)) ↔ W ≤ ab (one * W - w * N) := by
  have rr := rs_range (N := N) (w := w) h
  rw [fl_rs (N := N) W w]
  generalize rs W N w = r at *
  generalize fl W N w = f at *
  have e : one * W - (W * f + r) = (one - f) * W - r := by rw [Int.sub_mul, Int.mul_comm W f]; omega
  rw [e]
  obtain ⟨k, hk⟩ : ∃ k, k = one - f := ⟨_, rfl⟩
  rw [← hk]
  have k0 : one ≠ f ↔ k ≠ 0 := by omega
  have k1 : one ≠ f + 1 ↔ k ≠ 1 := by omega
  rw [k0, k1]
  have cs : k ≤ -1 ∨ k = 0 ∨ k = 1 ∨ 2 ≤ k := by omega
  rcases cs with c | rfl | rfl | c
  · have a1 : 0 ≤ (-1 - k) * W := Int.mul_nonneg (by omega) (by omega)
    rw [Int.sub_mul] at a1
    have a2 := (ab_ge (k * W - r)).2
    exact ⟨fun _ => by omega, fun _ => ⟨by omega, .inl (by omega)⟩⟩
  · rw [Int.zero_mul]
    refine ⟨fun z => absurd rfl z.1, fun z => ?_⟩
    unfold ab at z
    split at z <;> omega
  · rw [Int.one_mul]
    refine ⟨fun z => ?_, fun z => ⟨by decide, .inr ?_⟩⟩
    · rcases z.2 with z | z
      · exact absurd rfl z
      · rw [z]; unfold ab; split <;> omega
    · unfold ab at z
      split at z <;> omega
  · have a1 : 0 ≤ (k - 2) * W := Int.mul_nonneg (by omega) (by omega)
    rw [Int.sub_mul] at a1
    have a2 := (ab_ge (k * W - r)).1
    exact ⟨fun _ => by omega, fun _ => ⟨by omega, .inl (by omega)⟩⟩
end SH
/-! B1: rules that evaluate denotations. -/
namespace DL
open PySem L2 PyProof.Rows
theorem lc_gen {α : Type} {bind : D → Env → Option Env} {ft fe : Env → RE} {vs : List Nat} {ρ : Env} (φ ψ : α → D) (p : α → Bool) : ∀ (xs : List α) (acc : List D), acc.length + xs.length ≤ sizeLine →
    (∀ x ∈ xs, ∃ ρ1, bind (φ x) ρ = some ρ1 ∧ Ev ft ρ1 (.bool (p x)) ∧ (p x = true → Ev fe ρ1 (ψ x)) ∧ wipeE ρ1 vs = ρ) → lcGo bind ft fe vs (xs.map φ) acc ρ = .ok (.frs (acc ++ (xs.filter p).map ψ)) ρ
  | [], acc, _, _ => by simp [lcGo]
  | x :: r, acc, hl, h => by
    obtain ⟨ρ1, h1, ⟨w, h2, h2'⟩, h3, h4⟩ := h x List.mem_cons_self
    have hl2 : acc.length + r.length + 1 ≤ sizeLine := by simpa [Nat.add_assoc] using hl
    rw [List.map_cons]
    unfold lcGo
    rw [h1]
    dsimp only
    rw [h2]
    dsimp only
    rw [h2']
    cases e : p x with
    | true =>
      obtain ⟨w3, h5, h6⟩ := h3 e
      dsimp only
      rw [h5]
      dsimp only
      rw [if_pos (by omega), h4, lc_gen φ ψ p r (acc ++ [w3.d]) (by simp; omega) fun d hd => h d (List.mem_cons_of_mem _ hd)]
      simp [e, h6]
    | false =>
      dsimp only
      rw [h4, lc_gen φ ψ p r acc (by omega) fun d hd => h d (List.mem_cons_of_mem _ hd)]
      simp [e]
theorem evl_gen {α : Type} {src : Env → RI} {bind : D → Env → Option Env} {ft fe : Env → RE} {vs : List Nat} {ρ : Env} (φ ψ : α → D) (p : α → Bool) (xs : List α) (hs : src ρ = .ok (xs.map φ) ρ) (hw : wipeE ρ vs = ρ) (hl : xs.length ≤ sizeLine)
    (h : ∀ x ∈ xs, ∃ ρ1, bind (φ x) ρ = some ρ1 ∧ Ev ft ρ1 (.bool (p x)) ∧ (p x = true → Ev fe ρ1 (ψ x)) ∧ wipeE ρ1 vs = ρ) : Evl (fLc src bind ft fe vs) ρ ((xs.filter p).map ψ) := by
  unfold Evl fLc
  rw [hs]
  dsimp only
  rw [hw, lc_gen φ ψ p xs [] (by simpa using hl) h]
  rfl
theorem evl_map {α : Type} {src : Env → RI} {bind : D → Env → Option Env} {fe : Env → RE} {vs : List Nat} {ρ : Env} (φ ψ : α → D) (xs : List α) (hs : src ρ = .ok (xs.map φ) ρ) (hw : wipeE ρ vs = ρ) (hl : xs.length ≤ sizeLine)
    (h : ∀ x ∈ xs, ∃ ρ1, bind (φ x) ρ = some ρ1 ∧ Ev fe ρ1 (ψ x) ∧ wipeE ρ1 vs = ρ) : Evl (fLc src bind (fC (.bool true)) fe vs) ρ (xs.map ψ) := by
  have z := evl_gen (src := src) (bind := bind) (ft := fC (.bool true)) (fe := fe) (vs := vs) (ρ := ρ) φ ψ (fun _ => true) xs hs hw hl fun x hx => by
    obtain ⟨ρ1, h1, h2, h3⟩ := h x hx
    exact ⟨ρ1, h1, .k, fun _ => h2, h3⟩
  rw [List.filter_eq_self.mpr fun _ _ => rfl] at z
  exact z
theorem sum_map (r : List Int) : gSum [.list (r.map .int)] = some (.pu (.int r.sum)) := by
  show (intsOf (r.map .int)).map _ = _
  rw [intsOf_map r]
  rfl
theorem rng1 {n : Nat} (h : n < 2 ^ 62) : kRng1 [.int (n : Nat)] = some ((List.range n).map fun i : Nat => .int (i : Nat)) := by
  have h1 : -(2 ^ 62) ≤ (n : Int) ∧ (n : Int) < 2 ^ 62 := by
    constructor
    · exact Int.le_trans (by decide) (Int.natCast_nonneg n)
    · exact Int.ofNat_lt.mpr h
  unfold kRng1
  simp only [h1, and_self, if_true, rngD, Int.toNat_natCast, Int.zero_add]
end DL
namespace DL
open PySem L2 PyProof.Rows
/-- the value of an expression that changes the slots -/
def EvS (f : Env → RE) (ρ ρ' : Env) (d : D) : Prop := ∃ w, f ρ = .ok w ρ' ∧ w.d = d
theorem Ev.s {f : Env → RE} {ρ : Env} {d : D} (h : Ev f ρ d) : EvS f ρ ρ d := h
theorem EvS.op2 {ρ ρ1 ρ2 : Env} {fa fb : Env → RE} {a b : D} {w : W} {g : D → D → Option W} (ha : EvS fa ρ ρ1 a) (hb : EvS fb ρ1 ρ2 b) (h : g a b = some w) : EvS (fOp2 g fa fb) ρ ρ2 w.d := by
  obtain ⟨wa, h1, rfl⟩ := ha
  obtain ⟨wb, h2, rfl⟩ := hb
  refine ⟨w, ?_, rfl⟩
  unfold fOp2 bndE
  rw [h1]
  dsimp only
  rw [h2]
  dsimp only
  rw [h]
  rfl
def EvLS (fs : Env → RL) (ρ ρ' : Env) (ds : List D) : Prop := fs ρ = .ok ds ρ'
theorem EvLS.nil {ρ : Env} : EvLS fNil ρ ρ [] := rfl
theorem EvLS.cons {ρ ρ1 ρ2 : Env} {fa : Env → RE} {fr : Env → RL} {a : D} {ds : List D} (ha : EvS fa ρ ρ1 a) (hr : EvLS fr ρ1 ρ2 ds) : EvLS (fCons fa fr) ρ ρ2 (a :: ds) := by
  obtain ⟨wa, h1, rfl⟩ := ha
  unfold EvLS fCons
  rw [h1]
  dsimp only
  rw [hr]
theorem EvS.bndA {ρ ρ1 : Env} {fs : Env → RL} {ds : List D} {w : W} {k : List D → Option W} (hs : EvLS fs ρ ρ1 ds) (h : k ds = some w) : EvS (bndA fs k) ρ ρ1 w.d := by
  unfold EvS DL.bndA
  rw [hs]
  dsimp only
  rw [h]
  exact ⟨w, rfl, rfl⟩
theorem EvS.both {ρ ρ1 ρ2 : Env} {fa ft ff : Env → RE} {d : D} {x : Bool} (ha : EvS fa ρ ρ1 (.bool x)) (h1 : x = true → EvS ft ρ1 ρ2 d) (h2 : x = false → EvS ff ρ1 ρ2 d) : EvS (fBoth fa ft ff) ρ ρ2 d := by
  obtain ⟨w, e1, e2⟩ := ha
  unfold EvS fBoth bndE
  rw [e1]
  dsimp only
  rw [e2]
  cases x with
  | true => exact h1 rfl
  | false => exact h2 rfl
theorem EvS.not {ρ ρ1 : Env} {fa : Env → RE} {x : Bool} (ha : EvS fa ρ ρ1 (.bool x)) : EvS (fNot fa) ρ ρ1 (.bool (!x)) :=
  ha.both (fun e => by subst e; exact Ev.k.s) fun e => by subst e; exact Ev.k.s
/-- or of two that are false -/
theorem EvS.orF {ρ ρ1 ρ2 : Env} {fa fb : Env → RE} (ha : EvS fa ρ ρ1 (.bool false)) (hb : EvS fb ρ1 ρ2 (.bool false)) : EvS (fOr fa fb) ρ ρ2 (.bool false) := ha.both (fun e => nomatch e) fun _ => hb
theorem seq_nx {ρ ρ1 : Env} {f g : Env → RS} (h : Nx f ρ ρ1) : sSeq f g ρ = g ρ1 := by
  unfold sSeq
  rw [show f ρ = .nx ρ1 from h]
theorem seq_ret {ρ ρ1 : Env} {f g : Env → RS} {w : W} (h : f ρ = .ret w ρ1) : sSeq f g ρ = .ret w ρ1 := by
  unfold sSeq
  rw [h]
/-- a function's answer whose first argument is lent -/
def FrO (F : List Sl → RF) (ds : List D) (es : List D) (ds2 : List D) (d : D) : Prop := ∃ w, F (.own 1 ds :: es.map .pu) = .ok w [(1, ds2)] ∧ w.d = d
theorem colE_own {t : Nat} {ds : List D} {ρ : Env} (h : colE ρ = []) : colE (some (.own (t + 1) ds) :: ρ) = [(t + 1, ds)] := by
  unfold colE at h ⊢
  rw [List.filterMap_cons]
  show (match tagOf (some (.own (t + 1) ds)) with
    | none => ρ.filterMap tagOf
    | some b => b :: ρ.filterMap tagOf) = _
  rw [h]
  rfl
theorem frO_of {n : Nat} {g : Env → RS} {ds es ds2 : List D} {w : W} {d : D} {ρ' : Env} (h : g (some (.own 1 ds) :: ((es.map Sl.pu).map some ++ List.replicate (n - (es.length + 1)) none)) = .ret w ρ') (hw : w.d = d) (hc : colE ρ' = [(1, ds2)]) : FrO (fnF n g) ds es ds2 d := by
  refine ⟨w, ?_, hw⟩
  unfold fnF
  rw [show (List.map some (Sl.own 1 ds :: es.map .pu) ++ List.replicate (n - (Sl.own 1 ds :: es.map Sl.pu).length) none) = (some (.own 1 ds) :: ((es.map Sl.pu).map some ++ List.replicate (n - (es.length + 1)) none)) by simp, h]
  dsimp only
  rw [hc, show colE ((Sl.own 1 ds :: es.map Sl.pu).map some) = [(1, ds)] from colE_own (t := 0) (colE_args0 es)]
  rfl
theorem EvS.lend {n i t : Nat} {F : List Sl → RF} {fs : Env → RL} {ρ : Env} {ds es ds2 : List D} {d : D} (h : ρ[i]? = some (some (.own t ds))) (hs : EvL fs ρ es) (hn : es.length + 1 = n) (hF : FrO F ds es ds2 d) : EvS (fLend n i F fs) ρ (ρ.set i (some (.own t ds2))) d := by
  obtain ⟨w, hw, e⟩ := hF
  refine ⟨w, ?_, e⟩
  unfold fLend
  rw [h]
  dsimp only
  rw [show fs ρ = _ from hs]
  dsimp only
  rw [h]
  dsimp only
  rw [if_pos hn, hw]
  rfl
theorem ret_s {ρ ρ' : Env} {fa : Env → RE} {d : D} (h : EvS fa ρ ρ' d) : ∃ w, sRet fa ρ = .ret w ρ' ∧ w.d = d := by
  obtain ⟨w, h1, h2⟩ := h
  refine ⟨w, ?_, h2⟩
  unfold sRet sE
  rw [h1]
theorem put_s {ρ ρ' : Env} {fa : Env → RE} {d : D} {i : Nat} (h : EvS fa ρ ρ' d) : Nx (sPut i fa) ρ (ρ'.set i (some (.pu d))) := by
  obtain ⟨w, h1, rfl⟩ := h
  unfold Nx sPut sE
  rw [h1]
theorem if_s {ρ ρ' : Env} {fc : Env → RE} {f g : Env → RS} {x : Bool} (hc : EvS fc ρ ρ' (.bool x)) : sIf fc f g ρ = if x then f ρ' else g ρ' := by
  obtain ⟨w, h1, h2⟩ := hc
  unfold sIf sE
  rw [h1]
  dsimp only
  rw [h2]
  cases x <;> rfl
theorem Ev.ixO {ρ : Env} {i t : Nat} {ds : List D} {fb : Env → RE} {j : Nat} {d : D} (h : ρ[i]? = some (some (.own t ds))) (hb : Ev fb ρ (.int (j : Nat))) (hd : ds[j]? = some d) : Ev (fIxO i fb) ρ d := by
  obtain ⟨w, h1, h2⟩ := hb
  unfold Ev fIxO
  rw [h]
  dsimp only
  rw [h1]
  dsimp only
  rw [h, h2]
  have hl : j < ds.length := (List.getElem?_eq_some_iff.mp hd).1
  have e : atI ds (j : Int) = some d := by
    unfold atI ixN
    rw [if_pos (by omega), if_pos (by omega)]
    show ds[((j : Int)).toNat]? = _
    rw [Int.toNat_natCast]
    exact hd
  dsimp only
  rw [e]
  exact ⟨_, rfl, rfl⟩
theorem Nx.setO {ρ : Env} {i t : Nat} {ds : List D} {fv fi : Env → RE} {j : Nat} {d : D} (h : ρ[i]? = some (some (.own t ds))) (hv : Ev fv ρ d) (hi : Ev fi ρ (.int (j : Nat))) (hj : j < ds.length) : Nx (sSetO i fv fi) ρ (ρ.set i (some (.own t (ds.set j d)))) := by
  obtain ⟨w, h1, rfl⟩ := hv
  obtain ⟨w2, h3, h4⟩ := hi
  unfold Nx sSetO sE
  rw [h1]
  dsimp only
  rw [h]
  dsimp only
  rw [h3]
  dsimp only
  rw [h, h4]
  dsimp only
  have e : ixN ds.length (j : Int) = some j := by
    unfold ixN
    rw [if_pos (by omega), if_pos (by omega), Int.toNat_natCast]
  rw [e]
/-- a comprehension that draws, at most B draws -/
theorem lc_st {α : Type} {bind : D → Env → Option Env} {fe : Env → RE} {vs : List Nat} (φ : α → D) (k B : Nat) (Inv : Nat → Env → Prop) (Pd : D → Prop) : ∀ (xs : List α) (acc : List D) (m : Nat) (ρ : Env), acc.length + xs.length ≤ sizeLine → m + k * xs.length ≤ B → Inv m ρ →
    (∀ x ∈ xs, ∀ m ρ, Inv m ρ → m + k ≤ B → ∃ ρ1 ρ3 d, bind (φ x) ρ = some ρ1 ∧ EvS fe ρ1 ρ3 d ∧ Inv (m + k) (wipeE ρ3 vs) ∧ Pd d) →
    ∃ ds ρ', lcGo bind (fC (.bool true)) fe vs (xs.map φ) acc ρ = .ok (.frs (acc ++ ds)) ρ' ∧ ds.length = xs.length ∧ (∀ d ∈ ds, Pd d) ∧ Inv (m + k * xs.length) ρ'
  | [], acc, m, ρ, _, _, hI, _ => ⟨[], ρ, by simp [lcGo], rfl, fun d hd => absurd hd (by simp), by simpa using hI⟩
  | x :: r, acc, m, ρ, hl, hB, hI, h => by
    have hk : m + k + k * r.length = m + k * (x :: r).length := by
      rw [List.length_cons, Nat.mul_add, Nat.mul_one]; omega
    obtain ⟨ρ1, ρ3, d, h1, ⟨w, h2, rfl⟩, h3, h4⟩ := h x List.mem_cons_self m ρ hI (by omega)
    have hl2 : acc.length + r.length + 1 ≤ sizeLine := by simpa [Nat.add_assoc] using hl
    obtain ⟨ds, ρ', q1, q2, q3, q4⟩ := lc_st φ k B Inv Pd r (acc ++ [w.d]) (m + k) (wipeE ρ3 vs) (by simp; omega) (by omega) h3 fun y hy => h y (List.mem_cons_of_mem _ hy)
    refine ⟨w.d :: ds, ρ', ?_, by simp [q2], fun y hy => ?_, ?_⟩
    · rw [List.map_cons]
      unfold lcGo
      rw [h1]
      show (match fe ρ1 with
        | .ok w3 ρ3 => if acc.length < sizeLine then lcGo bind (fC (.bool true)) fe vs (r.map φ) (acc ++ [w3.d]) (wipeE ρ3 vs) else .st
        | _ => .st) = _
      rw [h2]
      dsimp only
      rw [if_pos (by omega), q1]
      simp
    · rcases List.mem_cons.mp hy with z | z
      · rw [z]; exact h4
      · exact q3 y z
    · rw [← hk]; exact q4
theorem evs_lc {α : Type} {src : Env → RI} {bind : D → Env → Option Env} {fe : Env → RE} {vs : List Nat} {ρ : Env} (φ : α → D) (k B : Nat) (Inv : Nat → Env → Prop) (Pd : D → Prop) (xs : List α) (m : Nat) (hs : src ρ = .ok (xs.map φ) ρ) (hw : wipeE ρ vs = ρ) (hl : xs.length ≤ sizeLine) (hB : m + k * xs.length ≤ B) (hI : Inv m ρ)
    (h : ∀ x ∈ xs, ∀ m ρ, Inv m ρ → m + k ≤ B → ∃ ρ1 ρ3 d, bind (φ x) ρ = some ρ1 ∧ EvS fe ρ1 ρ3 d ∧ Inv (m + k) (wipeE ρ3 vs) ∧ Pd d) :
    ∃ ds ρ', fLc src bind (fC (.bool true)) fe vs ρ = .ok (.frs ds) ρ' ∧ ds.length = xs.length ∧ (∀ d ∈ ds, Pd d) ∧ Inv (m + k * xs.length) ρ' := by
  obtain ⟨ds, ρ', h1, h2⟩ := lc_st φ k B Inv Pd xs [] m ρ (by simpa using hl) hB hI h
  refine ⟨ds, ρ', ?_, h2⟩
  unfold fLc
  rw [hs]
  dsimp only
  rw [hw, h1]
  rfl
end DL
namespace DL
open PySem L2 PyProof.Rows
/-- a lent call whose arguments change the slots, too -/
theorem EvS.lendS {n i t : Nat} {F : List Sl → RF} {fs : Env → RL} {ρ ρ1 : Env} {ds es ds2 : List D} {d : D} {t0 : Nat} {ds0 : List D} (h0 : ρ[i]? = some (some (.own t0 ds0))) (hs : EvLS fs ρ ρ1 es) (h : ρ1[i]? = some (some (.own t ds))) (hn : es.length + 1 = n) (hF : FrO F ds es ds2 d) : EvS (fLend n i F fs) ρ (ρ1.set i (some (.own t ds2))) d := by
  obtain ⟨w, hw, e⟩ := hF
  refine ⟨w, ?_, e⟩
  unfold fLend
  rw [h0]
  dsimp only
  rw [show fs ρ = _ from hs]
  dsimp only
  rw [h]
  dsimp only
  rw [if_pos hn, hw]
  rfl
/-! ### small data -/
structure Sm (k W : Nat) (d : D) : Prop where
  lay : d.canLay0 = true
  sh : d.showable = true
  shrt : d.intsShort 13 = true
  dep : d.depth ≤ k
  wt : d.weight ≤ W
structure Sms (k W : Nat) (ds : List D) : Prop where
  lay : PyData.canLayAll0 ds = true
  sh : PyData.showableAll ds = true
  shrt : PyData.intsShortAll 13 ds = true
  dep : PyData.depthAll ds ≤ k
  wt : PyData.weightAll ds ≤ W
theorem Sm.int {n : Int} (h0 : 0 ≤ n) (h1 : n < 1048576) : Sm 0 20 (.int n) := by
  have lg : n.natAbs.log2 < 20 := by
    by_cases e : n.natAbs = 0
    · rw [e]; decide
    · exact (Nat.log2_lt e).mpr (by omega)
  refine ⟨rfl, ?_, ?_, Nat.le_refl _, ?_⟩
  · exact decide_eq_true (by omega)
  · refine decide_eq_true ?_
    have := toString_length_le (v := n) h0 (k := 10) (by decide) (by omega)
    simp only [PyData.shown]
    exact Nat.le_trans this (by decide)
  · simp only [PyData.weight]
    split
    · exact Nat.zero_le _
    · omega
theorem Sms.nil {k : Nat} : Sms k 0 [] := ⟨rfl, rfl, rfl, by simp [PyData.depthAll], by simp [PyData.weightAll]⟩
theorem Sms.cons {k a b : Nat} {d : D} {ds : List D} (h : Sm k a d) (hs : Sms k b ds) : Sms k (a + 1 + b) (d :: ds) := by
  have := h.dep
  have := h.wt
  have := hs.dep
  have := hs.wt
  refine ⟨?_, ?_, ?_, ?_, ?_⟩
  · simp only [PyData.canLayAll0, h.lay, hs.lay, Bool.and_self]
  · simp only [PyData.showableAll, h.sh, hs.sh, Bool.and_self]
  · simp only [PyData.intsShortAll, h.shrt, hs.shrt, Bool.and_self]
  · simp only [PyData.depthAll]; omega
  · simp only [PyData.weightAll]; omega
theorem Sms.map {α : Type} {k a : Nat} {φ : α → D} : ∀ {xs : List α}, (∀ x ∈ xs, Sm k a (φ x)) → Sms k ((a + 1) * xs.length) (xs.map φ)
  | [], _ => by simpa using Sms.nil
  | x :: xs, h => by
    have z := Sms.cons (h x List.mem_cons_self) (Sms.map (xs := xs) fun y hy => h y (List.mem_cons_of_mem _ hy))
    rw [List.map_cons, List.length_cons, Nat.mul_add, Nat.mul_one, Nat.add_comm]
    exact z
theorem Sm.list {k W : Nat} {ds : List D} (h : Sms k W ds) : Sm (k + 1) W (.list ds) := by
  have := h.dep
  exact ⟨by simp only [PyData.canLay0, h.lay], by simp only [PyData.showable, h.sh], by simp only [PyData.intsShort, h.shrt], by simp only [PyData.depth]; omega, by simp only [PyData.weight]; exact h.wt⟩
theorem Sm.tuple {k W : Nat} {ds : List D} (h : Sms k W ds) : Sm (k + 1) W (.tuple ds) := by
  have := h.dep
  exact ⟨by simp only [PyData.canLay0, h.lay], by simp only [PyData.showable, h.sh], by simp only [PyData.intsShort, h.shrt], by simp only [PyData.depth]; omega, by simp only [PyData.weight]; exact h.wt⟩
theorem Sm.mono {k k2 W W2 : Nat} {d : D} (h : Sm k W d) (h1 : k ≤ k2) (h2 : W ≤ W2) : Sm k2 W2 d := ⟨h.lay, h.sh, h.shrt, Nat.le_trans h.dep h1, Nat.le_trans h.wt h2⟩
/-- a text of it is told -/
def Rpr (d : D) : Prop := ∃ s, gRepr [d] = some (.pu (.str s))
theorem Sm.rpr {k W : Nat} {d : D} (h : Sm k W d) (hk : k ≤ 60) (hW : W ≤ 1048576) : Rpr d := by
  have e : (2 : Nat) ^ 20 = 1048576 := by decide
  have l : PyData.layable0 d = true := by
    unfold PyData.layable0
    have h1 := h.dep
    have h2 := h.wt
    rw [h.lay, decide_eq_true (show d.depth ≤ 64 by omega), decide_eq_true (show d.weight ≤ 2 ^ 20 by omega)]; rfl
  have z := PyProof.Rows.shown_le13 l h.shrt
  have sl : 15728653 ≤ sizeLine := by decide
  have hd := h.dep
  have ok : (d.canLay0 && d.showable && decide (d.shown.length ≤ sizeLine) && decide (d.depth ≤ 60)) = true := by
    rw [h.lay, h.sh, decide_eq_true (show d.shown.length ≤ sizeLine by omega), decide_eq_true (show d.depth ≤ 60 by omega)]; rfl
  refine ⟨d.shown, ?_⟩
  unfold gRepr
  split
  · rename_i q
    cases q
    cases h.lay
  · rename_i q
    cases q
    rw [if_pos ok]
  · rename_i q1 q2
    exact absurd rfl (q2 d)
theorem Rpr.of {d : D} (h : (gRepr [d]).isSome = true) : Rpr d := by
  unfold gRepr at h
  split at h
  · rename_i q
    cases q
    exact ⟨_, rfl⟩
  · rename_i d2 q1 q
    cases q
    split at h
    · rename_i ok
      refine ⟨d.shown, ?_⟩
      unfold gRepr
      split
      · rename_i q
        cases q
        exact absurd rfl q1
      · rename_i q
        cases q
        rw [if_pos ok]
      · rename_i q2
        exact absurd rfl (q2 d)
    · cases h
  · cases h
end DL
namespace DL
open PySem L2 PyProof.Rows
theorem eq_nil : gEq (.list []) (.list []) = some (.pu (.bool true)) := by rfl
theorem ne_nil : gNe (.list []) (.list []) = some (.pu (.bool false)) := by rfl
theorem len_list {ds : List D} : gLen [.list ds] = some (.pu (.int ds.length)) := rfl
theorem atI_nat {α : Type} {xs : List α} {i : Nat} {x : α} (h : xs[i]? = some x) : atI xs (i : Int) = some x := by
  have hl : i < xs.length := (List.getElem?_eq_some_iff.mp h).1
  unfold atI ixN
  rw [if_pos (by omega), if_pos (by omega)]
  show xs[((i : Int)).toNat]? = _
  rw [Int.toNat_natCast]
  exact h
theorem ev_ge {ρ : Env} {fa fb : Env → RE} {i j : Int} (ha : Ev fa ρ (.int i)) (hb : Ev fb ρ (.int j)) : Ev (fOp2 gGe fa fb) ρ (.bool (decide (j ≤ i))) := Ev.op2 (w := .pu (.bool (decide (j ≤ i)))) ha hb rfl
theorem ev_gt {ρ : Env} {fa fb : Env → RE} {i j : Int} (ha : Ev fa ρ (.int i)) (hb : Ev fb ρ (.int j)) : Ev (fOp2 gGt fa fb) ρ (.bool (decide (j < i))) := Ev.op2 (w := .pu (.bool (decide (j < i)))) ha hb rfl
theorem ev_lt {ρ : Env} {fa fb : Env → RE} {i j : Int} (ha : Ev fa ρ (.int i)) (hb : Ev fb ρ (.int j)) : Ev (fOp2 gLt fa fb) ρ (.bool (decide (i < j))) := Ev.op2 (w := .pu (.bool (decide (i < j)))) ha hb rfl
theorem eq_intB {i j : Int} : gEq (.int i) (.int j) = some (.pu (.bool (decide (i = j)))) := by
  show gEq0 _ _ = _
  unfold gEq0
  simp [SeqAt.shaped, PyData.canLay0, PyData.depth, PyData.eqv]
  rfl
theorem ev_eqI {ρ : Env} {fa fb : Env → RE} {i j : Int} (ha : Ev fa ρ (.int i)) (hb : Ev fb ρ (.int j)) : Ev (fOp2 gEq fa fb) ρ (.bool (decide (i = j))) := Ev.op2 (w := .pu (.bool (decide (i = j)))) ha hb eq_intB
theorem ev_max {ρ : Env} {fa fb : Env → RE} {i j : Int} (ha : Ev fa ρ (.int i)) (hb : Ev fb ρ (.int j)) : Ev (bndA (fCons fa (fCons fb (fNil))) gMax2) ρ (.int (if j > i then j else i)) := Ev.bndA (w := .pu (.int (if j > i then j else i))) (.cons ha (.cons hb .nil)) rfl
theorem for_cons {bind : D → Env → Option Env} {body : Env → RS} {d : D} {r : List D} {ρ ρ1 ρ2 : Env} {o : RS} (b : bind d ρ = some ρ1) (s : body ρ1 = .nx ρ2) (t : forGo bind body r ρ2 = o) : forGo bind body (d :: r) ρ = o := by
  unfold forGo
  rw [b]
  dsimp only
  rw [s]
  exact t
theorem ev_addI {ρ : Env} {fa fb : Env → RE} {i j : Int} (ha : Ev fa ρ (.int i)) (hb : Ev fb ρ (.int j)) : Ev (fOp2 gAdd fa fb) ρ (.int (i + j)) := Ev.op2 (w := .pu (.int (i + j))) ha hb rfl
theorem ev_subI {ρ : Env} {fa fb : Env → RE} {i j : Int} (ha : Ev fa ρ (.int i)) (hb : Ev fb ρ (.int j)) : Ev (fOp2 gSub fa fb) ρ (.int (i - j)) := Ev.op2 (w := .pu (.int (i - j))) ha hb rfl
theorem enumD_eq : ∀ (ds : List D) (k : Nat), enumD k ds = (List.range ds.length).map fun i => .tuple [.int ((k + i : Nat) : Int), ds.getD i .none]
  | [], k => rfl
  | d :: ds, k => by
    rw [List.length_cons, List.range_succ_eq_map, List.map_cons, List.map_map]
    show PyData.tuple [.int (k : Nat), d] :: enumD (k + 1) ds = _
    rw [enumD_eq ds (k + 1)]
    congr 1
    refine List.map_congr_left fun i hi => ?_
    simp only [Function.comp, List.getD_cons_succ]
    rw [show k + 1 + i = k + (i + 1) by omega]
theorem fmod_range {i j : Int} (hj : 0 < j) : 0 ≤ i.fmod j ∧ i.fmod j < j := ⟨Int.fmod_nonneg_of_pos i hj, Int.fmod_lt_of_pos i hj⟩
theorem ev_mod {ρ : Env} {fa fb : Env → RE} {i j : Int} (ha : Ev fa ρ (.int i)) (hb : Ev fb ρ (.int j)) (h : j ≠ 0) : Ev (fOp2 gMod fa fb) ρ (.int (i.fmod j)) := by
  refine Ev.op2 (w := .pu (.int (i.fmod j))) ha hb ?_
  show (if decide (j ≠ 0) then _ else _) = _
  rw [decide_eq_true h]; rfl
theorem ev_mul {ρ : Env} {fa fb : Env → RE} {i j : Int} (ha : Ev fa ρ (.int i)) (hb : Ev fb ρ (.int j)) (h : i.natAbs < 2 ^ 64 ∨ j.natAbs < 2 ^ 64) : Ev (fOp2 gMul fa fb) ρ (.int (i * j)) := by
  refine Ev.op2 (w := .pu (.int (i * j))) ha hb ?_
  show (if cMul i j then some (W.pu (.int (i * j))) else none) = _
  have e : cMul i j = true := by
    unfold cMul
    rcases h with h | h
    · rw [decide_eq_true h]; rfl
    · rw [decide_eq_true h]; simp
  rw [e]; rfl
theorem ev_int {ρ : Env} {fa : Env → RE} {i : Int} (ha : Ev fa ρ (.int i)) : Ev (bndA (fCons fa (fNil)) gInt1) ρ (.int i) := Ev.bndA (w := .pu (.int i)) (.cons ha .nil) rfl
theorem ev_isN {ρ : Env} {fa : Env → RE} {d : D} (ha : Ev fa ρ d) : Ev (fOp2 gIsN fa (fC .none)) ρ (.bool (isNone d)) := Ev.op2 (w := .pu (.bool (isNone d))) ha .k rfl
theorem ev_isB {ρ : Env} {fa : Env → RE} {d : D} {b : Bool} (ha : Ev fa ρ d) : Ev (fOp2 gIsN fa (fC (.bool b))) ρ (.bool (isBl b d)) := Ev.op2 (w := .pu (.bool (isBl b d))) ha .k rfl
theorem ev_isi {ρ : Env} {fa : Env → RE} {d : D} {n : String} (ha : Ev fa ρ d) (h : dOk d = true) : Ev (fOp1 (gIsi n) fa) ρ (.bool (isA n d)) := Ev.op1 (w := .pu (.bool (isA n d))) ha (by unfold gIsi; rw [if_pos h])
theorem ev_isi2 {ρ : Env} {fa : Env → RE} {d : D} {n m : String} (ha : Ev fa ρ d) (h : dOk d = true) : Ev (fOp1 (gIsi2 n m) fa) ρ (.bool (isA n d || isA m d)) := Ev.op1 (w := .pu (.bool (isA n d || isA m d))) ha (by unfold gIsi2; rw [if_pos h])
theorem sFor_ok {src : Env → RI} {bind : D → Env → Option Env} {body : Env → RS} {ρ ρ1 : Env} {items : List D} {o : RS} (hs : src ρ = .ok items ρ1) (h : forGo bind body items ρ1 = o) : sFor src bind body ρ = o := by
  unfold sFor
  rw [hs]
  exact h
theorem ev_notN {ρ : Env} {fa : Env → RE} {d : D} (ha : Ev fa ρ d) : Ev (fOp2 gNotN fa (fC .none)) ρ (.bool (!isNone d)) := Ev.op2 (w := .pu (.bool (!isNone d))) ha .k rfl
theorem nx_ifS {ρ ρ' : Env} {fc : Env → RE} {f : Env → RS} (hc : EvS fc ρ ρ' (.bool false)) : Nx (sIf fc f .nx) ρ ρ' := by
  unfold Nx
  rw [if_s hc]
  rfl
theorem ev_pow {ρ : Env} {fa fb : Env → RE} {i j : Int} (ha : Ev fa ρ (.int i)) (hb : Ev fb ρ (.int j)) (h : cPow i j = true) : Ev (fOp2 gPow fa fb) ρ (.int (i ^ j.toNat)) := by
  refine Ev.op2 (w := .pu (.int (i ^ j.toNat))) ha hb ?_
  show (if cPow i j then some (W.pu (.int (i ^ j.toNat))) else none) = _
  rw [h]; rfl
theorem dOk_cases {d : D} (h : dOk d = true) : (∀ l, d = .dict l → l = []) := fun l e => by
  subst e
  cases l with
  | nil => rfl
  | cons a b => cases h
end DL
/-! B2: rules for lists of ints, great ints. -/
namespace DL
open PySem L2 PyProof.Rows SH
abbrev iL (ns : List Int) : D := .list (ns.map .int)
abbrev isD (ns : List Int) : List D := ns.map .int
section
variable {ρ : Env} {fa fb fc : Env → RE} {i j : Int} {ns ms : List Int} {d : D}
theorem log2_lt' {n k : Nat} (h : n < 2 ^ k) (hk : 0 < k) : n.log2 < k := by
  by_cases e : n = 0
  · rw [e]; simpa [Nat.log2_zero] using hk
  · exact (Nat.log2_lt e).mpr h
/-- great, but not too great -/
def bk : Nat := 450
def Gt1 (i : Int) : Prop := i.natAbs < 2 ^ bk
theorem gt1_of {i : Int} {k : Nat} (hk : k ≤ 450) (h : i.natAbs < 2 ^ k) : Gt1 i := Nat.lt_of_lt_of_le h (Nat.pow_le_pow_right (by decide) hk)
theorem ev_mulB (ha : Ev fa ρ (.int i)) (hb : Ev fb ρ (.int j)) (hi : Gt1 i) (hj : Gt1 j) : Ev (fOp2 gMul fa fb) ρ (.int (i * j)) := by
  refine Ev.op2 (w := .pu (.int (i * j))) ha hb ?_
  show (if cMul i j then some (W.pu (.int (i * j))) else none) = _
  have e : cMul i j = true := by
    unfold cMul
    have h1 : i.natAbs.log2 < 450 := log2_lt' hi (by decide)
    have h2 : j.natAbs.log2 < 450 := log2_lt' hj (by decide)
    rw [decide_eq_true (show i.natAbs.log2 + j.natAbs.log2 < 1000000 by omega), Bool.or_true]
  rw [e]; rfl
theorem ev_divB (ha : Ev fa ρ (.int i)) (hb : Ev fb ρ (.int j)) (hp : 0 < j) (hj : Gt1 j) : Ev (fOp2 gDiv fa fb) ρ (.int (i / j)) := by
  rw [← Int.fdiv_eq_ediv_of_nonneg _ (Int.le_of_lt hp)]
  refine Ev.op2 (w := .pu (.int (i.fdiv j))) ha hb ?_
  show (if cDiv i j then some (W.pu (.int (i.fdiv j))) else none) = _
  have e : cDiv i j = true := by
    unfold cDiv
    have h2 : j.natAbs.log2 < 450 := log2_lt' hj (by decide)
    rw [decide_eq_true hp, decide_eq_true (show j.natAbs.log2 < 9000 by omega)]
    simp
  rw [e]; rfl
theorem ev_modB (ha : Ev fa ρ (.int i)) (hb : Ev fb ρ (.int j)) (hp : 0 < j) : Ev (fOp2 gMod fa fb) ρ (.int (i % j)) := by
  rw [← Int.fmod_eq_emod_of_nonneg _ (Int.le_of_lt hp)]
  exact ev_mod ha hb (by omega)
theorem ev_abs (ha : Ev fa ρ (.int i)) : Ev (bndA (fCons fa (fNil)) gAbs) ρ (.int (ab i)) := Ev.bndA (w := .pu (.int (if i < 0 then -i else i))) (.cons ha .nil) rfl
theorem ev_neg (ha : Ev fa ρ (.int i)) : Ev (fOp1 gNeg fa) ρ (.int (-i)) := Ev.op1 (w := .pu (.int (-i))) ha rfl
theorem ev_len {ds : List D} (ha : Ev fa ρ (.list ds)) : Ev (bndA (fCons fa (fNil)) gLen) ρ (.int (ds.length : Nat)) := Ev.bndA (w := .pu (.int (ds.length : Nat))) (.cons ha .nil) rfl
theorem ev_lenI (ha : Ev fa ρ (iL ns)) : Ev (bndA (fCons fa (fNil)) gLen) ρ (.int (ns.length : Nat)) := by
  have z := ev_len ha
  rw [List.length_map] at z
  exact z
theorem ev_sum (ha : Ev fa ρ (iL ns)) : Ev (bndA (fCons fa (fNil)) gSum) ρ (.int ns.sum) := Ev.bndA (w := .pu (.int ns.sum)) (.cons ha .nil) (sum_map ns)
theorem at_int {k : Nat} (h : k < ns.length) : (ns.map PyData.int)[k]? = some (.int (ns.getD k 0)) := by
  rw [List.getElem?_map, List.getElem?_eq_getElem h]
  simp [h]
theorem ix_int {k : Nat} (h : k < ns.length) : gIx (iL ns) (.int (k : Nat)) = some (.pu (.int (ns.getD k 0))) := by
  show (atI (ns.map PyData.int) (k : Int)).map W.pu = _
  rw [atI_nat (at_int h)]
  rfl
theorem ev_ixI {k : Nat} (ha : Ev fa ρ (iL ns)) (hb : Ev fb ρ (.int (k : Nat))) (h : k < ns.length) : Ev (fOp2 gIx fa fb) ρ (.int (ns.getD k 0)) := Ev.op2 (w := .pu (.int (ns.getD k 0))) ha hb (ix_int h)
theorem ev_le (ha : Ev fa ρ (.int i)) (hb : Ev fb ρ (.int j)) : Ev (fOp2 gLe fa fb) ρ (.bool (decide (i ≤ j))) := Ev.op2 (w := .pu (.bool (decide (i ≤ j)))) ha hb rfl
theorem ne_intB : gNe (.int i) (.int j) = some (.pu (.bool (!decide (i = j)))) := by
  show gNe0 (.int i) (.int j) = _
  unfold gNe0
  rw [if_pos (show (SeqAt.shaped (.int i) && SeqAt.shaped (.int j)) = true from rfl)]
  congr 3
theorem ev_neI (ha : Ev fa ρ (.int i)) (hb : Ev fb ρ (.int j)) : Ev (fOp2 gNe fa fb) ρ (.bool (!decide (i = j))) := Ev.op2 (w := .pu (.bool (!decide (i = j)))) ha hb ne_intB
theorem ev_mkL {fs : Env → RL} {ds : List D} (hs : EvL fs ρ ds) (h : ds.length ≤ 1000) : Evl (bndA fs gMkL) ρ ds := by
  refine Evl.bndA hs ?_
  show (if ds.length ≤ sizeLine then some (W.frs ds) else none) = _
  rw [if_pos (Nat.le_trans h (by decide))]
theorem ev_mkT {fs : Env → RL} {ds : List D} (hs : EvL fs ρ ds) (h : ds.length ≤ 1000) : Ev (bndA fs gMkT) ρ (.tuple ds) := by
  refine Ev.bndA (w := .pu (.tuple ds)) hs ?_
  show (if ds.length ≤ sizeLine then some (W.pu (.tuple ds)) else none) = _
  rw [if_pos (Nat.le_trans h (by decide))]
theorem Evl.op2 {g : D → D → Option W} {a b : D} {ds : List D} (ha : Ev fa ρ a) (hb : Ev fb ρ b) (h : g a b = some (.frs ds)) : Evl (fOp2 g fa fb) ρ ds := by
  obtain ⟨w, h1, h2⟩ := ha
  obtain ⟨u, h3, h4⟩ := hb
  unfold Evl fOp2 bndE
  rw [h1]
  dsimp only
  rw [h3]
  dsimp only
  rw [h2, h4, h]
  rfl
theorem cutH_take {ds : List D} {n : Nat} (h : n ≤ ds.length) : gCutH (.list ds) (.int (n : Nat)) = some (.frs (ds.take n)) := by
  show some (W.frs (cutD ds none (some ((n : Nat) : Int)))) = _
  unfold cutD
  rw [HT.sIx_none, HT.sIx_nat, Nat.min_eq_left h]
  rfl
theorem cutL_drop {ds : List D} {n : Nat} (h : n ≤ ds.length) : gCutL (.list ds) (.int (n : Nat)) = some (.frs (ds.drop n)) := by
  show some (W.frs (cutD ds (some ((n : Nat) : Int)) none)) = _
  unfold cutD
  rw [HT.sIx_none, HT.sIx_nat, Nat.min_eq_left h]
  congr 2
  rw [← List.length_drop, List.take_length]
/-- the places as ints -/
theorem ev_in {l : List Nat} {k : Nat} (ha : Ev fa ρ (.int (k : Nat))) (hb : Ev fb ρ (.list (l.map fun j => .int (j : Nat)))) : Ev (fOp2 gIn fa fb) ρ (.bool (decide (k ∈ l))) := by
  refine Ev.op2 (w := .pu (.bool (decide (k ∈ l)))) ha hb ?_
  have e : (l.map fun j => PyData.int (j : Nat)) = (l.map fun j => ((j : Nat) : Int)).map .int := by rw [List.map_map]; rfl
  show (match intsOf (l.map fun j => PyData.int (j : Nat)) with
    | some ns => some (W.pu (.bool (ns.contains ((k : Nat) : Int))))
    | none => none) = _
  rw [e, intsOf_map]
  dsimp only
  congr 3
  rw [Bool.eq_iff_iff, List.contains_iff_mem, decide_eq_true_eq, List.mem_map]
  constructor
  · rintro ⟨a, h1, h2⟩
    have : a = k := by omega
    rw [← this]; exact h1
  · exact fun h => ⟨k, h, rfl⟩
theorem ev_intB {b : Bool} (ha : Ev fa ρ (.bool b)) : Ev (bndA (fCons fa (fNil)) gInt1) ρ (.int (if b then 1 else 0)) := Ev.bndA (w := .pu (.int (if b then 1 else 0))) (.cons ha .nil) (by cases b <;> rfl)
/-- sources -/
theorem src_list {ds : List D} (ha : Ev fa ρ (.list ds)) : srcE fa itemsL ρ = .ok ds ρ := srcE_ok ha rfl
theorem enum_int : kEnum [iL ns] = some ((List.range ns.length).map fun k : Nat => .tuple [.int (k : Nat), .int (ns.getD k 0)]) := by
  show some (enumD 0 (ns.map PyData.int)) = _
  rw [enumD_eq, List.length_map]
  congr 1
  refine List.map_congr_left fun i hi => ?_
  rw [Nat.zero_add, List.getD_eq_getElem?_getD, at_int (List.mem_range.mp hi)]
  rfl
theorem src_enum (ha : Ev fa ρ (iL ns)) : srcA (fCons fa (fNil)) kEnum ρ = .ok ((List.range ns.length).map fun k : Nat => .tuple [.int (k : Nat), .int (ns.getD k 0)]) ρ := srcA_ok (.cons ha .nil) enum_int
theorem src_rng {n : Nat} (ha : Ev fa ρ (.int (n : Nat))) (h : n < 2 ^ 62) : srcA (fCons fa (fNil)) kRng1 ρ = .ok ((List.range n).map fun k : Nat => .int (k : Nat)) ρ := srcA_ok (.cons ha .nil) (rng1 h)
theorem sortK_ok {fs : Env → RL} {k m : Nat} (hs : EvL fs ρ [.int (ns.length : Nat)]) (hl : ns.length ≤ 1000) (h : ρ[k]? = some (some (.pub m (iL ns)))) : Evl (fSortK fs k) ρ ((sortK ns).map fun j => .int (j : Nat)) := by
  unfold Evl fSortK
  rw [show fs ρ = _ from hs]
  dsimp only
  have e : sortArg [.int (ns.length : Nat)] ρ[k]? = some ns := by
    rw [h]
    show (match intsOf (ns.map .int) with
      | some ms => if (ms.length : Int) = (ns.length : Nat) ∧ ms.length ≤ 1000 then some ms else none
      | none => none) = _
    rw [intsOf_map]
    dsimp only
    rw [if_pos ⟨rfl, hl⟩]
  rw [e]
theorem ev_gcd (ha : Ev fa ρ (.int i)) (hb : Ev fb ρ (.int j)) : Ev (bndA (fCons fa (fCons fb (fNil))) gGcd) ρ (.int (gc i j)) := Ev.bndA (w := .pu (.int (gc i j))) (.cons ha (.cons hb .nil)) rfl
theorem ev_eqNil {ds : List D} (ha : Ev fa ρ (.list ds)) (h : ds = []) : Ev (fOp2 gEq fa (bndA (fNil) gMkL)) ρ (.bool true) := by
  subst h
  exact Ev.op2 (w := .pu (.bool true)) ha (Ev.bndA (w := .frs []) .nil rfl) eq_nil
theorem ev_neNil {ds : List D} (ha : Ev fa ρ (.list ds)) (h : ds = []) : Ev (fOp2 gNe fa (bndA (fNil) gMkL)) ρ (.bool false) := by
  subst h
  exact Ev.op2 (w := .pu (.bool false)) ha (Ev.bndA (w := .frs []) .nil rfl) ne_nil
/-- x == [], x a list of plain items -/
theorem ev_isNil {ds : List D} (hs : ∀ d ∈ ds, d.canLay0 = true ∧ d.depth ≤ 10) (ha : Ev fa ρ (.list ds)) : Ev (fOp2 gEq fa (bndA (fNil) gMkL)) ρ (.bool ds.isEmpty) ∧ Ev (fOp2 gNe fa (bndA (fNil) gMkL)) ρ (.bool (!ds.isEmpty)) := by
  have lay : ∀ l : List D, (∀ d ∈ l, d.canLay0 = true ∧ d.depth ≤ 10) → PyData.canLayAll0 l = true ∧ PyData.depthAll l ≤ 10 := by
    intro l
    induction l with
    | nil => intro _; exact ⟨rfl, by simp [PyData.depthAll]⟩
    | cons x l ih =>
      intro h
      obtain ⟨a, b⟩ := ih fun y hy => h y (List.mem_cons_of_mem _ hy)
      obtain ⟨c, e⟩ := h x List.mem_cons_self
      exact ⟨by simp only [PyData.canLayAll0, a, c, Bool.and_self], by simp only [PyData.depthAll]; omega⟩
  obtain ⟨l1, l2⟩ := lay ds hs
  have s1 : SeqAt.shaped (.list ds) = true := by
    unfold SeqAt.shaped
    rw [Bool.and_eq_true, decide_eq_true_eq]
    exact ⟨by simpa [PyData.canLay0] using l1, by simp only [PyData.depth]; omega⟩
  have e : PyData.eqv (.list ds) (.list []) = ds.isEmpty := by
    cases ds <;> rfl
  constructor
  · refine Ev.op2 (w := .pu (.bool ds.isEmpty)) ha (Ev.bndA (w := .frs []) .nil rfl) ?_
    show gEq0 (.list ds) (.list []) = _
    unfold gEq0
    rw [s1, e]
    rfl
  · refine Ev.op2 (w := .pu (.bool (!ds.isEmpty))) ha (Ev.bndA (w := .frs []) .nil rfl) ?_
    show gNe0 (.list ds) (.list []) = _
    unfold gNe0
    rw [s1, e]
    rfl
theorem FrL.of {F : List Sl → RF} {ds es : List D} (h : FrL F ds es) {es2 : List D} (e : es = es2) : FrL F ds es2 := e ▸ h
end
end DL
/-! B3: the program's defs, what they answer. -/
namespace K84
open PySem L2 PyProof.Rows DL SH
def isWh : D → Bool
  | .int _ => true
  | _ => false
def isCt : D → Bool
  | .int i => decide (0 ≤ i)
  | _ => false
theorem fr_is_whole {d : D} (h : dOk d = true) : Fr F_is_whole [d] (.bool (isWh d)) := by
  cases d with
  | dict l => cases dOk_cases h l rfl; exact ⟨_, rfl, rfl⟩
  | none => exact ⟨_, rfl, rfl⟩
  | bool b => exact ⟨_, rfl, rfl⟩
  | int i => exact ⟨_, rfl, rfl⟩
  | str x => exact ⟨_, rfl, rfl⟩
  | list l => exact ⟨_, rfl, rfl⟩
  | tuple l => exact ⟨_, rfl, rfl⟩
theorem fr_is_count {d : D} (h : dOk d = true) : Fr F_is_count [d] (.bool (isCt d)) := by
  refine fr_of ?_
  have q : (isCt d) = (isWh d && isCt d) := by cases d <;> rfl
  rw [q]
  refine .ret (.and (.call (.cons (.var rfl) .nil) (fr_is_whole h) rfl) fun e => ?_) rfl
  cases d with
  | int i => exact Ev.op2 (w := .pu (.bool (decide (0 ≤ i)))) (.var rfl) .k rfl
  | _ => cases e
theorem l_is_count {d : D} (h : dOk d = true) : Fr F_l_is_count [d] (.bool (isCt d)) := by
  cases d with
  | dict l => cases dOk_cases h l rfl; exact ⟨_, rfl, rfl⟩
  | none => exact ⟨_, rfl, rfl⟩
  | bool b => exact ⟨_, rfl, rfl⟩
  | int i => exact ⟨_, rfl, rfl⟩
  | str x => exact ⟨_, rfl, rfl⟩
  | list l => exact ⟨_, rfl, rfl⟩
  | tuple l => exact ⟨_, rfl, rfl⟩
abbrev fD (p : Int × Int) : D := .tuple [.int p.1, .int p.2]
theorem gt1_le {a b : Int} (h0 : 0 ≤ a) (h : a ≤ b) (hb : Gt1 b) : Gt1 a := by
  unfold Gt1 at *
  omega
theorem gc_le {a b : Int} (h : 0 < b) : gc a b ≤ b := Int.le_of_dvd h gc_dvd.2
theorem fr_lowest {a b : Int} (hb : 0 < b) (hg : Gt1 b) : Fr F_lowest [.int a, .int b] (fD (lw a b)) := by
  have g := gc_pos (a := a) hb
  have gg : Gt1 (gc a b) := gt1_le (Int.le_of_lt g) (gc_le hb) hg
  refine fr_of (Rt.seq (Nx.put (ev_gcd (.var rfl) (.var rfl))) (Rt.seq (ρ1 := [some (.pu (.int a)), some (.pu (.int b)), some (.pu (.int (gc a b)))]) ?_ (.ret (ev_mkT (.cons (ev_divB (.var rfl) (.var rfl) g gg) (.cons (ev_divB (.var rfl) (.var rfl) g gg) .nil)) (by show 2 ≤ 1000; decide)) rfl)))
  refine Nx.if (x := false) ?_ (fun z => nomatch z) fun _ => .nx
  have z := ev_lt (fa := fVar 1) (fb := fC (.int 0)) (ρ := [some (.pu (.int a)), some (.pu (.int b)), some (.pu (.int (gc a b)))]) (i := b) (j := 0) (.var rfl) .k
  rw [decide_eq_false (by omega)] at z
  exact z
theorem ix_fD (p : Int × Int) {ρ : DL.Env} {fa : DL.Env → RE} (ha : Ev fa ρ (fD p)) : Ev (fOp2 gIx fa (fC (.int 0))) ρ (.int p.1) ∧ Ev (fOp2 gIx fa (fC (.int 1))) ρ (.int p.2) :=
  ⟨Ev.op2 (w := .pu (.int p.1)) ha .k rfl, Ev.op2 (w := .pu (.int p.2)) ha .k rfl⟩
theorem fr_plus {p q : Int × Int} (h1 : Gt1 p.1) (h2 : Gt1 p.2) (h3 : Gt1 q.1) (h4 : Gt1 q.2) (hp : 0 < p.2 * q.2) (hg : Gt1 (p.2 * q.2)) : Fr F_plus [fD p, fD q] (fD (pls p q)) := by
  have a := ix_fD p (ρ := args 2 [fD p, fD q]) (fa := fVar 0) (.var rfl)
  have b := ix_fD q (ρ := args 2 [fD p, fD q]) (fa := fVar 1) (.var rfl)
  exact fr_of (.ret (.call (.cons (ev_addI (ev_mulB a.1 b.2 h1 h4) (ev_mulB b.1 a.2 h3 h2)) (.cons (ev_mulB a.2 b.2 h2 h4) .nil)) (fr_lowest hp hg) rfl) rfl)
theorem pow_lt {i : Int} {k : Nat} (h0 : 0 ≤ i) (h : i < ((2 ^ k : Nat) : Int)) : i.natAbs < 2 ^ k := by omega
theorem mul_lt {a b : Int} {m n : Nat} (ha : a.natAbs < 2 ^ m) (hb : b.natAbs < 2 ^ n) : (a * b).natAbs < 2 ^ (m + n) := by
  rw [Int.natAbs_mul, Nat.pow_add]
  exact Nat.mul_lt_mul'' ha hb
theorem nat_le {a b : Int} {n : Nat} (h0 : 0 ≤ a) (h : a ≤ b) (hb : b.natAbs < 2 ^ n) : a.natAbs < 2 ^ n := by omega
theorem tot_loop {W : Int} (hW : 0 < W) (hW2 : W.natAbs < 2 ^ 200) (x0 : Option Sl) : ∀ (l : List Int) (a : Int) (x2 : Option Sl), (∀ e ∈ l, 0 ≤ e) → 0 ≤ a → (a + l.sum).natAbs < 2 ^ 200 → isPub x2 →
    ∃ x2', forGo (bName 2) (sPut 1 (fCall 2 F_plus (fCons (fVar 1) (fCons (fVar 2) (fNil))))) (l.map fun e => fD (lw e W)) [x0, some (.pu (fD (lw a W))), x2] = .nx [x0, some (.pu (fD (lw (a + l.sum) W))), x2'] ∧ isPub x2'
  | [], a, x2, _, _, _, hx => ⟨x2, by rw [List.sum_nil, Int.add_zero]; rfl, hx⟩
  | e :: l, a, x2, he, ha, hs, hx => by
    have e0 := he e List.mem_cons_self
    have l0 := sum_nonneg fun y hy => he y (List.mem_cons_of_mem _ hy)
    rw [List.sum_cons, ← Int.add_assoc] at hs ⊢
    obtain ⟨x2', h1, h2⟩ := tot_loop hW hW2 x0 l (a + e) (some (.pu (fD (lw e W)))) (fun y hy => he y (List.mem_cons_of_mem _ hy)) (by omega) hs (fun _ _ z => nomatch z)
    refine ⟨x2', ?_, h2⟩
    have pa := lw_le (a := a) hW ha
    have pe := lw_le (a := e) hW e0
    have qa := lw_pos (a := a) hW
    have qe := lw_pos (a := e) hW
    have na : (lw a W).1.natAbs < 2 ^ 200 := nat_le (lw_nonneg hW ha) (by omega) hs
    have ne : (lw e W).1.natAbs < 2 ^ 200 := nat_le (lw_nonneg hW e0) (by omega) hs
    have da : (lw a W).2.natAbs < 2 ^ 200 := nat_le (Int.le_of_lt qa) pa.2 hW2
    have de : (lw e W).2.natAbs < 2 ^ 200 := nat_le (Int.le_of_lt qe) pe.2 hW2
    have key := fr_plus (p := lw a W) (q := lw e W) (gt1_of (by decide) na) (gt1_of (by decide) da) (gt1_of (by decide) ne) (gt1_of (by decide) de) (Int.mul_pos qa qe) (gt1_of (by decide) (mul_lt da de))
    rw [show pls (lw a W) (lw e W) = lw (a + e) W from lw_plus hW] at key
    refine for_cons (ρ1 := [x0, some (.pu (fD (lw a W))), some (.pu (fD (lw e W)))]) rfl (Nx.put (.call (.cons (.var rfl) (.cons (.var rfl) .nil)) key rfl)) h1
theorem colE_pub2 {a b : D} {x : Option Sl} (h : isPub x) : colE [some (.pu a), some (.pu b), x] = [] := colE_pubs fun o ho => by
  simp only [List.mem_cons, List.not_mem_nil, or_false] at ho
  rcases ho with rfl | rfl | rfl
  · exact fun _ _ z => nomatch z
  · exact fun _ _ z => nomatch z
  · exact h
theorem fr_total {W : Int} (hW : 0 < W) (hW2 : W.natAbs < 2 ^ 200) {l : List Int} (hl : ∀ e ∈ l, 0 ≤ e) (hs : l.sum.natAbs < 2 ^ 200) : Fr F_total_of [.list (l.map fun e => fD (lw e W))] (fD (lw l.sum W)) := by
  obtain ⟨x2, h1, h2⟩ := tot_loop hW hW2 (some (.pu (.list (l.map fun e => fD (lw e W))))) l 0 none hl (Int.le_refl _) (by rw [Int.zero_add]; exact hs) (fun _ _ z => nomatch z)
  rw [lw_zero hW, Int.zero_add] at h1
  refine fr_of (Rt.seq (Nx.put (ev_mkT (.cons .k (.cons .k .nil)) (by show 2 ≤ 1000; decide))) (Rt.seq (sFor_ok (src_list (.var rfl)) h1) (.ret (.var rfl) (colE_pub2 h2))))
end K84
/-! B4: weights, quotas, shares: the program. -/
namespace K84
open PySem L2 PyProof.Rows DL SH
structure Vd (ws : List Int) (N : Int) : Prop where
  wt : Wt ws
  big : ws.sum.natAbs < 2 ^ 150
  n0 : 0 ≤ N
  n1 : N ≤ 1000001
section
variable {ws : List Int} {N : Int} {ca : Str → Addr}
theorem Vd.w (V : Vd ws N) {w : Int} (h : w ∈ ws) : 0 ≤ w ∧ w.natAbs < 2 ^ 150 := ⟨V.wt.nn w h, nat_le (V.wt.nn w h) (le_sum V.wt.nn w h) V.big⟩
theorem Vd.gw (V : Vd ws N) {w : Int} (h : w ∈ ws) : Gt1 w := gt1_of (by decide) (V.w h).2
theorem Vd.nN (V : Vd ws N) : N.natAbs < 2 ^ 20 := by have := V.n0; have := V.n1; omega
theorem Vd.gN (V : Vd ws N) : Gt1 N := gt1_of (by decide) V.nN
theorem Vd.gS (V : Vd ws N) : Gt1 ws.sum := gt1_of (by decide) V.big
theorem Vd.len (V : Vd ws N) : ws.length ≤ sizeLine := Nat.le_trans V.wt.l30 (by decide)
theorem Vd.gd (V : Vd ws N) {i : Nat} (h : i < ws.length) : ws.getD i 0 ∈ ws := by
  rw [List.getD_eq_getElem?_getD, List.getElem?_eq_getElem h]
  exact List.getElem_mem h
theorem gd_map {f : Int → Int} {i : Nat} (h : i < ws.length) : (ws.map f).getD i 0 = f (ws.getD i 0) := by simp [h]
theorem src_enumN {ρ : DL.Env} {fa : DL.Env → RE} {ns : List Int} {n : Nat} (ha : Ev fa ρ (iL ns)) (hn : ns.length = n) : srcA (fCons fa (fNil)) kEnum ρ = .ok ((List.range n).map fun k : Nat => .tuple [.int (k : Nat), .int (ns.getD k 0)]) ρ := by
  rw [src_enum ha, hn]
theorem fr_floors (V : Vd ws N) : FrL F_floors_of [iL ws, .int N] (isD (fls ws N)) := by
  have z := evl_map (src := srcE (fVar 0) itemsL) (bind := bName 2) (fe := fOp2 gDiv (fOp2 gMul (fVar 2) (fVar 1)) (bndA (fCons (fVar 0) (fNil)) gSum)) (vs := [2]) (ρ := args 3 [iL ws, .int N]) (fun w : Int => .int w) (fun w => .int (fl ws.sum N w)) ws (src_list (.var rfl)) rfl V.len fun w hw =>
    ⟨[some (.pu (iL ws)), some (.pu (.int N)), some (.pu (.int w))], rfl, ev_divB (ev_mulB (.var rfl) (.var rfl) (V.gw hw) V.gN) (ev_sum (.var rfl)) V.wt.ps V.gS, rfl⟩
  refine (frL_of (.ret z rfl)).of ?_
  unfold fls isD
  rw [List.map_map]
  rfl
theorem fr_rests (V : Vd ws N) : FrL F_rests_of [iL ws, .int N] (isD (rss ws N)) := by
  have z := evl_map (src := srcE (fVar 0) itemsL) (bind := bName 2) (fe := fOp2 gMod (fOp2 gMul (fVar 2) (fVar 1)) (bndA (fCons (fVar 0) (fNil)) gSum)) (vs := [2]) (ρ := args 3 [iL ws, .int N]) (fun w : Int => .int w) (fun w => .int (rs ws.sum N w)) ws (src_list (.var rfl)) rfl V.len fun w hw =>
    ⟨[some (.pu (iL ws)), some (.pu (.int N)), some (.pu (.int w))], rfl, ev_modB (ev_mulB (.var rfl) (.var rfl) (V.gw hw) V.gN) (ev_sum (.var rfl)) V.wt.ps, rfl⟩
  refine (frL_of (.ret z rfl)).of ?_
  unfold rss isD
  rw [List.map_map]
  rfl
abbrev nL (l : List Nat) : List D := l.map fun j => .int (j : Nat)
theorem exN_nat (V : Vd ws N) : exN ws N = ((exN ws N).toNat : Nat) := (Int.toNat_of_nonneg (exN_nonneg V.wt)).symm
theorem fls_length : (fls ws N).length = ws.length := by simp [fls]
theorem fr_greatest (V : Vd ws N) : FrL F_greatest_rests [iL ws, .int N] (nL (rai ws N)) := by
  have hl : (sortK (rss ws N)).length = ws.length := by rw [sortK_length, rss_length]
  have e3 : Ev (fOp2 gSub (fVar 1) (bndA (fCons (fCall 2 F_floors_of (fCons (fVar 0) (fCons (fVar 1) (fNil)))) (fNil)) gSum)) [some (.pu (iL ws)), some (.pu (.int N)), some (.pu (iL (rss ws N))), none] (.int ((exN ws N).toNat : Nat)) := by
    rw [← exN_nat V]
    exact ev_subI (.var rfl) (ev_sum (.call (.cons (.var rfl) (.cons (.var rfl) .nil)) (fr_floors V).fr rfl))
  refine frL_of (RtL.seq (Nx.put (.call (.cons (.var rfl) (.cons (.var rfl) .nil)) (fr_rests V).fr rfl)) (RtL.seq (Nx.put e3) (.ret (Evl.op2 (a := .list (nL (sortK (rss ws N)))) (sortK_ok (m := 0) (ns := rss ws N) (.cons (by
    have z := ev_lenI (fa := fVar 0) (ns := ws) (ρ := [some (.pu (iL ws)), some (.pu (.int N)), some (.pu (iL (rss ws N))), some (.pu (.int ((exN ws N).toNat : Nat)))]) (.var rfl)
    rw [← rss_length (ws := ws) (N := N)] at z
    exact z) .nil) (by rw [rss_length]; exact Nat.le_trans V.wt.l30 (by decide)) rfl).ev (.var rfl) ?_) rfl)))
  rw [cutH_take (by rw [List.length_map, hl]; exact exN_toNat V.wt)]
  unfold rai nL
  rw [List.map_take]
theorem fr_made (V : Vd ws N) : FrL F_made_shares [iL ws, .int N] (isD (made ws N)) := by
  have z := evl_map (src := srcA (fCons (fCall 2 F_floors_of (fCons (fVar 0) (fCons (fVar 1) (fNil)))) (fNil)) kEnum) (bind := bTup [bName 3, bName 4]) (fe := fOp2 gAdd (fVar 4) (bndA (fCons (fOp2 gIn (fVar 3) (fVar 2)) (fNil)) gInt1)) (vs := [3, 4]) (ρ := [some (.pu (iL ws)), some (.pu (.int N)), some (.pu (.list (nL (rai ws N)))), none, none]) (fun k : Nat => .tuple [.int (k : Nat), .int ((fls ws N).getD k 0)]) (fun k => .int (sh1 ws N k)) (List.range ws.length)
    (src_enumN (.call (.cons (.var rfl) (.cons (.var rfl) .nil)) (fr_floors V).fr rfl) fls_length) rfl (by rw [List.length_range]; exact V.len) fun k hk => by
      refine ⟨[some (.pu (iL ws)), some (.pu (.int N)), some (.pu (.list (nL (rai ws N)))), some (.pu (.int (k : Nat))), some (.pu (.int ((fls ws N).getD k 0)))], rfl, ?_, rfl⟩
      have e : sh1 ws N k = (fls ws N).getD k 0 + if decide (k ∈ rai ws N) = true then 1 else 0 := by
        unfold sh1 fls
        rw [gd_map (List.mem_range.mp hk)]
        simp only [decide_eq_true_eq]
      rw [e]
      exact ev_addI (.var rfl) (ev_intB (ev_in (.var rfl) (.var rfl)))
  refine (frL_of (RtL.seq (Nx.put (.call (.cons (.var rfl) (.cons (.var rfl) .nil)) (fr_greatest V).fr rfl)) (.ret z rfl))).of ?_
  unfold made isD
  rw [List.map_map]
  rfl
theorem ev_chain {ρ : DL.Env} {fa fb fc : DL.Env → RE} {i j k : Int} (ha : Ev fa ρ (.int i)) (hb : Ev fb ρ (.int j)) (hc : Ev fc ρ (.int k)) (h1 : i ≤ j) (h2 : j ≤ k) : Ev (fChain gLe gLe fa fb fc) ρ (.bool true) := by
  have z := Ev.chain (g := gLe) (g' := gLe) (x := true) (w := .pu (.bool true)) ha hb (by show some (W.pu (.bool (decide (i ≤ j)))) = _; rw [decide_eq_true h1]) fun _ => ⟨hc, by show some (W.pu (.bool (decide (j ≤ k)))) = _; rw [decide_eq_true h2]⟩
  exact z
/-- [x for x in xs if not is_count(x)] -/
theorem lc_cnt {F : List Sl → RF} (hF : ∀ d, dOk d = true → Fr F [d] (.bool (isCt d))) {ρ : DL.Env} {fa : DL.Env → RE} {j : Nat} {ds : List D} (ha : Ev fa ρ (.list ds)) (hd : ∀ d ∈ ds, dOk d = true) (hl : ds.length ≤ 1000) (hj : ρ[j]? = some none) : Ev (fLc (srcE fa itemsL) (bName j) (fNot (fCall 1 F (fCons (fVar j) (fNil)))) (fVar j) [j]) ρ (.list (ds.filter fun d => !isCt d)) := by
  have hjl : j < ρ.length := (List.getElem?_eq_some_iff.mp hj).1
  have w : wipeE ρ [j] = ρ := by
    show ρ.set j none = ρ
    rw [← (List.getElem?_eq_some_iff.mp hj).2, List.set_getElem_self]
  have z := evl_gen (src := srcE fa itemsL) (bind := bName j) (ft := fNot (fCall 1 F (fCons (fVar j) (fNil)))) (fe := fVar j) (vs := [j]) (ρ := ρ) (fun d : D => d) (fun d => d) (fun d => !isCt d) ds (by rw [List.map_id']; exact src_list ha) w (Nat.le_trans hl (by decide)) fun d hdm => by
    have g : (ρ.set j (some (.pu d)))[j]? = some (some (.pu d)) := List.getElem?_set_self hjl
    refine ⟨ρ.set j (some (.pu d)), rfl, .not (.call (.cons (.var g) .nil) (hF d (hd d hdm)) rfl), fun _ => .var g, ?_⟩
    show (ρ.set j (some (.pu d))).set j none = ρ
    rw [List.set_set]
    exact w
  rw [List.map_id'] at z
  exact z.ev
theorem filt_nil {xs : List Int} (h : ∀ x ∈ xs, 0 ≤ x) : ((xs.map PyData.int).filter fun d => !isCt d) = [] := by
  rw [List.filter_eq_nil_iff]
  intro d hd
  obtain ⟨x, hx, e⟩ := List.mem_map.mp hd
  rw [← e]
  simp [isCt, h x hx]
theorem ints_dOk : ∀ d ∈ isD ws, dOk d = true := fun d hd => by
  obtain ⟨x, _, rfl⟩ := List.mem_map.mp hd
  rfl
theorem fr_check_weights (V : Vd ws N) : Fr (F_check_weights ca) [iL ws] .none := by
  have hl : ((isD ws).length : Int) = (ws.length : Nat) := by rw [List.length_map]
  have h1 := V.wt.l1
  have h2 := V.wt.l30
  refine fr_nx (ρ1 := args 2 [iL ws]) (Nx.seq (ρ1 := args 2 [iL ws]) (Nx.if (x := false) (.or (x := false) (y := false) (.not (x := true) (Ev.op1 (w := .pu (.bool true)) (.var rfl) rfl)) fun _ => .not (x := true) (ev_chain .k (ev_lenI (ns := ws) (.var rfl)) .k (by omega) (by omega))) (fun z => nomatch z) fun _ => .nx) (Nx.if (x := false) (.or (x := false) (y := false) ?_ fun _ => ?_) (fun z => nomatch z) fun _ => .nx)) rfl
  · exact ev_neNil (lc_cnt (fun d h => fr_is_count h) (ds := isD ws) (.var rfl) ints_dOk (by rw [List.length_map]; omega) rfl) (filt_nil V.wt.nn)
  · have z := ev_eqI (fa := bndA (fCons (fVar 0) (fNil)) gSum) (fb := fC (.int 0)) (ρ := args 2 [iL ws]) (i := ws.sum) (j := 0) (ev_sum (.var rfl)) .k
    have := V.wt.ps
    rw [decide_eq_false (by omega)] at z
    exact z
theorem fr_check (V : Vd ws N) (h1 : 1 ≤ N) (h2 : N ≤ 1000000) : Fr (F_check_whole ca) [iL ws, .int N] .none :=
  fr_nx (ρ1 := args 2 [iL ws, .int N]) (Nx.seq (ρ1 := args 2 [iL ws, .int N]) (Nx.drop (.call (.cons (.var rfl) .nil) (fr_check_weights V) rfl)) (Nx.if (x := false) (.or (x := false) (y := false) (.not (x := true) (.call (.cons (.var rfl) .nil) (fr_is_whole (d := .int N) rfl) rfl)) fun _ => .not (x := true) (ev_chain .k (.var rfl) .k h1 h2)) (fun z => nomatch z) fun _ => .nx)) rfl
theorem nx_check {ρ : DL.Env} {f0 f1 : DL.Env → RE} (V : Vd ws N) (h1 : 1 ≤ N) (h2 : N ≤ 1000000) (ha : Ev f0 ρ (iL ws)) (hb : Ev f1 ρ (.int N)) : Nx (sDrop (fCall 2 (F_check_whole ca) (fCons f0 (fCons f1 (fNil))))) ρ ρ := Nx.drop (.call (.cons ha (.cons hb .nil)) (fr_check V h1 h2) rfl)
theorem fr_shares_of (V : Vd ws N) (h1 : 1 ≤ N) (h2 : N ≤ 1000000) : FrL (F_shares_of ca) [iL ws, .int N] (isD (made ws N)) :=
  frL_of (RtL.seq (nx_check V h1 h2 (.var rfl) (.var rfl)) (.ret (Evl.call (.cons (.var rfl) (.cons (.var rfl) .nil)) (fr_made V) rfl) rfl))
/-! nearest -/
def nr (ws : List Int) (N : Int) : List Int := ws.map fun w => (2 * w * N + ws.sum) / (2 * ws.sum)
theorem Vd.g2 (V : Vd ws N) : Gt1 (2 * ws.sum) := gt1_of (k := 1 + 151) (by decide) (mul_lt (a := 2) (m := 2) (n := 150) (by decide) V.big)
theorem ev_near {ρ : DL.Env} {f0 f1 f2 : DL.Env → RE} (V : Vd ws N) {w : Int} (hw : w ∈ ws) (h0 : Ev f0 ρ (.int w)) (h1 : Ev f1 ρ (.int N)) (h2 : Ev f2 ρ (.int ws.sum)) : Ev (fOp2 gDiv (fOp2 gAdd (fOp2 gMul (fOp2 gMul (fC (.int 2)) f0) f1) f2) (fOp2 gMul (fC (.int 2)) f2)) ρ (.int ((2 * w * N + ws.sum) / (2 * ws.sum))) := by
  have g2 : Gt1 2 := gt1_of (k := 2) (by decide) (by decide)
  have hp := V.wt.ps
  exact ev_divB (ev_addI (ev_mulB (ev_mulB .k h0 g2 (V.gw hw)) h1 (gt1_of (k := 2 + 150) (by decide) (mul_lt (a := 2) (by decide) (V.w hw).2)) V.gN) h2) (ev_mulB .k h2 g2 V.gS) (by omega) V.g2
theorem fr_nearest (V : Vd ws N) : FrL F_nearest_to [iL ws, .int N] (isD (nr ws N)) := by
  have z := evl_map (src := srcE (fVar 0) itemsL) (bind := bName 3) (fe := fOp2 gDiv (fOp2 gAdd (fOp2 gMul (fOp2 gMul (fC (.int 2)) (fVar 3)) (fVar 1)) (fVar 2)) (fOp2 gMul (fC (.int 2)) (fVar 2))) (vs := [3]) (ρ := [some (.pu (iL ws)), some (.pu (.int N)), some (.pu (.int ws.sum)), none]) (fun w : Int => .int w) (fun w => .int ((2 * w * N + ws.sum) / (2 * ws.sum))) ws (src_list (.var rfl)) rfl V.len fun w hw =>
    ⟨[some (.pu (iL ws)), some (.pu (.int N)), some (.pu (.int ws.sum)), some (.pu (.int w))], rfl, ev_near V hw (.var rfl) (.var rfl) (.var rfl), rfl⟩
  refine (frL_of (RtL.seq (Nx.put (ev_sum (.var rfl))) (.ret z rfl))).of ?_
  unfold nr isD
  rw [List.map_map]
  rfl
theorem fr_plain (V : Vd ws N) (h1 : 1 ≤ N) (h2 : N ≤ 1000000) : Fr (F_plain_shares ca) [iL ws, .int N] (iL (nr ws N)) :=
  fr_of (Rt.seq (nx_check V h1 h2 (.var rfl) (.var rfl)) (.ret (.call (.cons (.var rfl) (.cons (.var rfl) .nil)) (fr_nearest V).fr rfl) rfl))
theorem fr_gap (V : Vd ws N) (h1 : 1 ≤ N) (h2 : N ≤ 1000000) : Fr (F_gap_of ca) [iL ws, .int N] (.int ((nr ws N).sum - N)) :=
  fr_of (Rt.seq (nx_check V h1 h2 (.var rfl) (.var rfl)) (.ret (ev_subI (ev_sum (.call (.cons (.var rfl) (.cons (.var rfl) .nil)) (fr_nearest V).fr rfl)) (.var rfl)) rfl))
end
end K84
/-! B5: choices, the paradox, what are counts, what are shares, how much is missed: the program. -/
namespace K84
open PySem L2 PyProof.Rows DL SH
section
variable {ws : List Int} {N : Int} {ca : Str → Addr}
theorem for_ret {bind : D → DL.Env → Option DL.Env} {body : DL.Env → RS} {d : D} {r : List D} {ρ ρ1 ρ2 : DL.Env} {w : W} (b : bind d ρ = some ρ1) (s : body ρ1 = .ret w ρ2) : forGo bind body (d :: r) ρ = .ret w ρ2 := by
  unfold forGo
  rw [b]
  dsimp only
  rw [s]
/-! choices -/
theorem cho_loop {m k : Nat} (hm : m ≤ 30) (hk : k ≤ m) : ∀ (n j : Nat) (x : Option Sl), j + n = k → isPub x →
    ∃ x', forGo (bName 3) (sPut 2 (fOp2 gDiv (fOp2 gMul (fVar 2) (fOp2 gSub (fVar 0) (fVar 3))) (fOp2 gAdd (fVar 3) (fC (.int 1))))) ((List.range' j n).map fun i : Nat => .int (i : Nat)) [some (.pu (.int (m : Nat))), some (.pu (.int (k : Nat))), some (.pu (.int (ch m j : Nat))), x] = .nx [some (.pu (.int (m : Nat))), some (.pu (.int (k : Nat))), some (.pu (.int (ch m k : Nat))), x'] ∧ isPub x'
  | 0, j, x, h, hx => by
    rw [Nat.add_zero] at h
    subst h
    exact ⟨x, rfl, hx⟩
  | n + 1, j, x, h, hx => by
    obtain ⟨x', h1, h2⟩ := cho_loop hm hk n (j + 1) (some (.pu (.int (j : Nat)))) (by omega) (fun _ _ z => nomatch z)
    refine ⟨x', ?_, h2⟩
    rw [List.range'_succ, List.map_cons]
    have st := ch_step m j
    have sm : ((m : Int) - (j : Int)) = ((m - j : Nat) : Int) := by omega
    have le1 : ch m j < 2 ^ 64 := Nat.lt_of_le_of_lt (ch_le m j) (Nat.pow_lt_pow_right (by decide) (by omega))
    have dv : ((ch m j : Nat) : Int) * ((m : Int) - (j : Int)) / ((j : Int) + 1) = ((ch m (j + 1) : Nat) : Int) := by
      rw [sm, ← Int.natCast_mul, ← st, show ((j : Int) + 1) = ((j + 1 : Nat) : Int) by omega, ← Int.natCast_ediv, Nat.mul_div_cancel _ (by omega)]
    have e := ev_divB (fa := fOp2 gMul (fVar 2) (fOp2 gSub (fVar 0) (fVar 3))) (fb := fOp2 gAdd (fVar 3) (fC (.int 1))) (ρ := [some (.pu (.int (m : Nat))), some (.pu (.int (k : Nat))), some (.pu (.int (ch m j : Nat))), some (.pu (.int (j : Nat)))])
      (ev_mulB (.var rfl) (ev_subI (.var rfl) (.var rfl)) (gt1_of (k := 64) (by decide) (by omega)) (gt1_of (k := 64) (by decide) (by omega))) (ev_addI (.var rfl) .k) (by omega) (gt1_of (k := 64) (by decide) (by omega))
    rw [dv] at e
    exact for_cons (ρ1 := [some (.pu (.int (m : Nat))), some (.pu (.int (k : Nat))), some (.pu (.int (ch m j : Nat))), some (.pu (.int (j : Nat)))]) rfl (Nx.put e) h1
theorem fr_chosen {m k : Nat} (hm : m ≤ 30) (hk : k ≤ m) : Fr F_chosen_of [.int (m : Nat), .int (k : Nat)] (.int (ch m k : Nat)) := by
  obtain ⟨x, h1, h2⟩ := cho_loop hm hk k 0 none (by omega) (fun _ _ z => nomatch z)
  rw [← List.range_eq_range', show ch m 0 = 1 by cases m <;> rfl] at h1
  refine fr_of (Rt.seq (ρ1 := [some (.pu (.int (m : Nat))), some (.pu (.int (k : Nat))), some (.pu (.int 1)), none]) (Nx.put .k) (Rt.seq (sFor_ok (src_rng (n := k) (.var rfl) (Nat.lt_of_le_of_lt (show k ≤ 30 by omega) (by decide))) h1) (.ret (.var rfl) (colE_pubs fun o ho => ?_))))
  simp only [List.mem_cons, List.not_mem_nil, or_false] at ho
  rcases ho with rfl | rfl | rfl | rfl
  · exact fun _ _ z => nomatch z
  · exact fun _ _ z => nomatch z
  · exact fun _ _ z => nomatch z
  · exact h2
theorem fr_count (V : Vd ws N) (h1 : 1 ≤ N) (h2 : N ≤ 1000000) : Fr (F_share_count ca) [iL ws, .int N] (.int (ch (brk ws N) (exN ws N).toNat : Nat)) := by
  have hb := brk_le (ws := ws) (N := N)
  have l30 := V.wt.l30
  have he := exN_le (N := N) V.wt
  have z := evl_gen (src := srcE (fCall 2 F_rests_of (fCons (fVar 0) (fCons (fVar 1) (fNil)))) itemsL) (bind := bName 3) (ft := fOp2 gGt (fVar 3) (fC (.int 0))) (fe := fVar 3) (vs := [3]) (ρ := args 4 [iL ws, .int N]) (fun r : Int => .int r) (fun r : Int => .int r) (fun r => decide (0 < r)) (rss ws N)
    (src_list (.call (.cons (.var rfl) (.cons (.var rfl) .nil)) (fr_rests V).fr rfl)) rfl (by rw [rss_length]; exact V.len) fun r _ =>
      ⟨[some (.pu (iL ws)), some (.pu (.int N)), none, some (.pu (.int r))], rfl, ev_gt (.var rfl) .k, fun _ => .var rfl, rfl⟩
  have e1 : Ev (bndA (fCons (fLc (srcE (fCall 2 F_rests_of (fCons (fVar 0) (fCons (fVar 1) (fNil)))) itemsL) (bName 3) (fOp2 gGt (fVar 3) (fC (.int 0))) (fVar 3) [3]) (fNil)) gLen) (args 4 [iL ws, .int N]) (.int (brk ws N : Nat)) := ev_lenI z.ev
  have e2 : Ev (fOp2 gSub (fVar 1) (bndA (fCons (fCall 2 F_floors_of (fCons (fVar 0) (fCons (fVar 1) (fNil)))) (fNil)) gSum)) [some (.pu (iL ws)), some (.pu (.int N)), some (.pu (.int (brk ws N : Nat))), none] (.int ((exN ws N).toNat : Nat)) := by
    rw [← exN_nat V]
    exact ev_subI (.var rfl) (ev_sum (.call (.cons (.var rfl) (.cons (.var rfl) .nil)) (fr_floors V).fr rfl))
  exact fr_of (Rt.seq (nx_check V h1 h2 (.var rfl) (.var rfl)) (Rt.seq (Nx.put e1) (.ret (.call (.cons (.var rfl) (.cons e2 .nil)) (fr_chosen (by omega) (by omega)) rfl) rfl)))
/-! the paradox -/
def parB (ws : List Int) (N : Int) (i : Nat) : Bool := decide ((made ws (N + 1)).getD i 0 < (made ws N).getD i 0)
def parD (o : Option Nat) : D := match o with
  | some i => .int (i : Nat)
  | none => .none
theorem par_loop {A B : List Int} {d0 d1 : D} {k : Nat} (hB : B.length = k) : ∀ (n j : Nat) (x y : Option Sl), j + n = k → isPub x → isPub y →
    ∃ x' y', isPub x' ∧ isPub y' ∧ forGo (bTup [bName 3, bName 4]) (sIf (fOp2 gLt (fVar 4) (fOp2 gIx (fVar 2) (fVar 3))) (sRet (fVar 3)) (.nx)) ((List.range' j n).map fun i : Nat => .tuple [.int (i : Nat), .int (A.getD i 0)]) [some (.pu d0), some (.pu d1), some (.pu (iL B)), x, y] =
      match (List.range' j n).find? fun i => decide (A.getD i 0 < B.getD i 0) with
      | some i => .ret (.pu (.int (i : Nat))) [some (.pu d0), some (.pu d1), some (.pu (iL B)), x', y']
      | none => .nx [some (.pu d0), some (.pu d1), some (.pu (iL B)), x', y']
  | 0, j, x, y, h, hx, hy => ⟨x, y, hx, hy, rfl⟩
  | n + 1, j, x, y, h, hx, hy => by
    rw [List.range'_succ, List.map_cons, List.find?_cons]
    have t := ev_lt (fa := fVar 4) (fb := fOp2 gIx (fVar 2) (fVar 3)) (ρ := [some (.pu d0), some (.pu d1), some (.pu (iL B)), some (.pu (.int (j : Nat))), some (.pu (.int (A.getD j 0)))]) (i := A.getD j 0) (j := B.getD j 0) (.var rfl) (ev_ixI (.var rfl) (.var rfl) (by omega))
    cases q : decide (A.getD j 0 < B.getD j 0) with
    | true =>
      refine ⟨some (.pu (.int (j : Nat))), some (.pu (.int (A.getD j 0))), (fun _ _ z => nomatch z), (fun _ _ z => nomatch z), ?_⟩
      refine for_ret (ρ1 := [some (.pu d0), some (.pu d1), some (.pu (iL B)), some (.pu (.int (j : Nat))), some (.pu (.int (A.getD j 0)))]) rfl ?_
      rw [if_eq t, q]
      rfl
    | false =>
      obtain ⟨x', y', p1, p2, h1⟩ := par_loop (A := A) (d0 := d0) (d1 := d1) hB n (j + 1) (some (.pu (.int (j : Nat)))) (some (.pu (.int (A.getD j 0)))) (by omega) (fun _ _ z => nomatch z) (fun _ _ z => nomatch z)
      refine ⟨x', y', p1, p2, ?_⟩
      refine for_cons (ρ1 := [some (.pu d0), some (.pu d1), some (.pu (iL B)), some (.pu (.int (j : Nat))), some (.pu (.int (A.getD j 0)))]) rfl ?_ h1
      rw [if_eq t, q]
      rfl
theorem Vd.up (V : Vd ws N) (h2 : N ≤ 1000000) : Vd ws (N + 1) := ⟨V.wt, V.big, by have := V.n0; omega, by omega⟩
theorem fr_paradox (V : Vd ws N) (h1 : 1 ≤ N) (h2 : N ≤ 1000000) : Fr (F_paradox ca) [iL ws, .int N] (parD ((List.range ws.length).find? (parB ws N))) := by
  obtain ⟨x, y, px, py, hl⟩ := par_loop (A := made ws (N + 1)) (B := made ws N) (d0 := iL ws) (d1 := .int N) made_length ws.length 0 none none (by omega) (fun _ _ z => nomatch z) (fun _ _ z => nomatch z)
  rw [← List.range_eq_range'] at hl
  have pb : ∀ o ∈ ([some (Sl.pu (iL ws)), some (.pu (.int N)), some (.pu (iL (made ws N))), x, y] : DL.Env), isPub o := fun o ho => by
    simp only [List.mem_cons, List.not_mem_nil, or_false] at ho
    rcases ho with rfl | rfl | rfl | rfl | rfl
    · exact fun _ _ z => nomatch z
    · exact fun _ _ z => nomatch z
    · exact fun _ _ z => nomatch z
    · exact px
    · exact py
  refine fr_of (Rt.seq (nx_check V h1 h2 (.var rfl) (.var rfl)) (Rt.seq (Nx.put (.call (.cons (.var rfl) (.cons (.var rfl) .nil)) (fr_made V).fr rfl)) ?_))
  have sr := sFor_ok (bind := bTup [bName 3, bName 4]) (body := sIf (fOp2 gLt (fVar 4) (fOp2 gIx (fVar 2) (fVar 3))) (sRet (fVar 3)) (.nx)) (ρ := [some (.pu (iL ws)), some (.pu (.int N)), some (.pu (iL (made ws N))), none, none]) (src_enumN (fa := fCall 2 F_made_shares (fCons (fVar 0) (fCons (fOp2 gAdd (fVar 1) (fC (.int 1))) (fNil)))) (.call (.cons (.var rfl) (.cons (ev_addI (.var rfl) .k) .nil)) (fr_made (V.up h2)).fr rfl) made_length) hl
  show Rt _ [some (.pu (iL ws)), some (.pu (.int N)), some (.pu (iL (made ws N))), none, none] _
  change sFor _ _ _ _ = (match (List.range ws.length).find? (parB ws N) with
      | some i => RS.ret (.pu (.int (i : Nat))) [some (.pu (iL ws)), some (.pu (.int N)), some (.pu (iL (made ws N))), x, y]
      | none => .nx [some (.pu (iL ws)), some (.pu (.int N)), some (.pu (iL (made ws N))), x, y]) at sr
  cases q : (List.range ws.length).find? (parB ws N) with
  | some i =>
    rw [q] at sr
    exact Rt.now ⟨_, _, sr, rfl, colE_pubs pb⟩
  | none =>
    rw [q] at sr
    exact Rt.seq sr (.ret .k (colE_pubs pb))
end
end K84
/-! B6: what are counts, what are shares, how much is missed: the program. -/
namespace K84
open PySem L2 PyProof.Rows DL SH
/-- a value that may be asked about -/
structure VO (v : D) : Prop where
  dok : dOk v = true
  it : ∀ ds, v = .list ds → ds.length ≤ 1000 ∧ ∀ d ∈ ds, dOk d = true ∧ d.canLay0 = true ∧ d.depth ≤ 10
def intsE (ds : List D) (f : List Int → Bool) : Bool := match intsOf ds with
  | some ns => f ns
  | none => false
def cB (n : Nat) (N : Int) : D → Bool
  | .list ds => (!(!decide ((ds.length : Int) = (n : Nat)) || !(ds.filter fun d => !isCt d).isEmpty)) && intsE ds fun ns => decide (ns.sum = N)
  | _ => false
theorem cB_list {n : Nat} {N : Int} {ds : List D} : cB n N (.list ds) = ((!(!decide ((ds.length : Int) = (n : Nat)) || !(ds.filter fun d => !isCt d).isEmpty)) && intsE ds fun ns => decide (ns.sum = N)) := rfl
theorem ct_ints : ∀ {ds : List D}, (ds.filter fun d => !isCt d) = [] → ∃ ns, ds = isD ns ∧ ∀ x ∈ ns, 0 ≤ x
  | [], _ => ⟨[], rfl, fun x hx => absurd hx (by simp)⟩
  | d :: ds, h => by
    rw [List.filter_cons] at h
    split at h
    · cases h
    · rename_i hd
      obtain ⟨ns, rfl, hn⟩ := ct_ints h
      cases d with
      | int i =>
        refine ⟨i :: ns, rfl, fun x hx => ?_⟩
        rcases List.mem_cons.mp hx with e | e
        · rw [e]
          simpa [isCt] using hd
        · exact hn x e
      | none => exact absurd rfl hd
      | bool b => exact absurd rfl hd
      | str z => exact absurd rfl hd
      | list z => exact absurd rfl hd
      | tuple z => exact absurd rfl hd
      | dict z => exact absurd rfl hd
theorem intsE_map (ns : List Int) (f : List Int → Bool) : intsE (isD ns) f = f ns := by
  unfold intsE
  rw [intsOf_map]
/-- such a value -/
theorem cB_true {n : Nat} {N : Int} {v : D} (h : cB n N v = true) : ∃ vs, v = iL vs ∧ vs.length = n ∧ (∀ x ∈ vs, 0 ≤ x) ∧ vs.sum = N := by
  cases v with
  | list ds =>
    rw [cB_list] at h
    simp only [Bool.and_eq_true, Bool.not_eq_true', Bool.or_eq_false_iff, Bool.not_eq_false', decide_eq_true_eq, List.isEmpty_iff] at h
    obtain ⟨⟨h1, h2⟩, h3⟩ := h
    obtain ⟨ns, rfl, hn⟩ := ct_ints h2
    rw [intsE_map, decide_eq_true_eq] at h3
    rw [List.length_map] at h1
    exact ⟨ns, rfl, by omega, hn, h3⟩
  | _ => cases h
theorem cB_of {n : Nat} {N : Int} {vs : List Int} (h1 : vs.length = n) (h2 : ∀ x ∈ vs, 0 ≤ x) (h3 : vs.sum = N) : cB n N (iL vs) = true := by
  rw [cB_list, filt_nil h2, intsE_map, decide_eq_true h3, List.length_map, h1, decide_eq_true rfl]
  rfl
theorem lay_filter {ds : List D} {p : D → Bool} (h : ∀ d ∈ ds, dOk d = true ∧ d.canLay0 = true ∧ d.depth ≤ 10) : ∀ d ∈ ds.filter p, d.canLay0 = true ∧ d.depth ≤ 10 := fun d hd => (h d (List.mem_filter.mp hd).1).2
theorem lay_nats (l : List Nat) : ∀ d ∈ nL l, d.canLay0 = true ∧ d.depth ≤ 10 := fun d hd => by
  obtain ⟨i, _, rfl⟩ := List.mem_map.mp hd
  exact ⟨rfl, by simp [PyData.depth]⟩
theorem isA_list {v : D} (h : ∀ ds, v ≠ .list ds) : isA "list" v = false := by
  cases v with
  | list ds => exact absurd rfl (h ds)
  | _ => rfl
theorem fr_counts {n : Nat} {N : Int} {v : D} (h : VO v) : Fr F_are_counts_of [.int (n : Nat), .int N, v] (.bool (cB n N v)) := by
  by_cases hl : ∃ ds, v = .list ds
  · obtain ⟨ds, rfl⟩ := hl
    obtain ⟨i1, i2⟩ := h.it ds rfl
    have e1 := ev_neI (fa := bndA (fCons (fVar 2) (fNil)) gLen) (fb := fVar 0) (ρ := args 4 [.int (n : Nat), .int N, .list ds]) (ev_len (.var rfl)) (.var rfl)
    have e2 := (ev_isNil (lay_filter (p := fun d => !isCt d) i2) (lc_cnt (fun d h => fr_is_count h) (ds := ds) (fa := fVar 2) (j := 3) (ρ := args 4 [.int (n : Nat), .int N, .list ds]) (.var rfl) (fun d hd => (i2 d hd).1) i1 rfl)).2
    refine fr_of (Rt.guard (x := !decide ((ds.length : Int) = (n : Nat)) || !(ds.filter fun d => !isCt d).isEmpty) (Ev.or (x := false) (y := !decide ((ds.length : Int) = (n : Nat)) || !(ds.filter fun d => !isCt d).isEmpty) (.not (x := true) (ev_isi (n := "list") (d := .list ds) (.var rfl) h.dok)) fun _ => .or e1 fun _ => e2) (fun z => ?_) fun z => ?_)
    · rw [cB_list, z]
      exact .ret .k rfl
    · have z2 := z
      simp only [Bool.or_eq_false_iff, Bool.not_eq_false', List.isEmpty_iff] at z2
      obtain ⟨ns, rfl, hn⟩ := ct_ints z2.2
      rw [cB_list, z, intsE_map]
      exact .ret (ev_eqI (ev_sum (.var rfl)) (.var rfl)) rfl
  · have nl : ∀ ds, v ≠ .list ds := fun ds e => hl ⟨ds, e⟩
    have e : cB n N v = false := by
      cases v with
      | list ds => exact absurd rfl (nl ds)
      | _ => rfl
    rw [e]
    have z := ev_isi (n := "list") (d := v) (fa := fVar 2) (ρ := args 4 [.int (n : Nat), .int N, v]) (.var rfl) h.dok
    rw [isA_list nl] at z
    exact fr_of (Rt.guard (x := true) (Ev.or (x := true) (y := true) (.not (x := false) z) fun z => nomatch z) (fun _ => .ret .k rfl) fun z => nomatch z)
section
variable {ws : List Int} {N : Int} {ca : Str → Addr}
def okL (ws : List Int) (N : Int) (vs : List Int) : Bool := ((List.range ws.length).filter fun k => decide (ws.sum ≤ ab (vs.getD k 0 * ws.sum - ws.getD k 0 * N))).isEmpty
def sB (ws : List Int) (N : Int) (v : D) : Bool := cB ws.length N v && match v with
  | .list ds => intsE ds (okL ws N)
  | _ => false
theorem filter_int {n : Nat} {p : Nat → Bool} : ((List.range n).filter p).isEmpty = ((((List.range n).filter p).map fun k => PyData.int (k : Nat)) : List D).isEmpty := by
  cases (List.range n).filter p <;> rfl
theorem fr_are_shares (V : Vd ws N) (h1 : 1 ≤ N) (h2 : N ≤ 1000000) {v : D} (h : VO v) : Fr (F_are_shares ca) [iL ws, .int N, v] (.bool (sB ws N v)) := by
  have c : Ev (fNot (fCall 3 F_are_counts_of (fCons (bndA (fCons (fVar 0) (fNil)) gLen) (fCons (fVar 1) (fCons (fVar 2) (fNil)))))) (args 7 [iL ws, .int N, v]) (.bool (!cB ws.length N v)) := .not (.call (.cons (ev_lenI (.var rfl)) (.cons (.var rfl) (.cons (.var rfl) .nil))) (fr_counts h) rfl)
  refine fr_of (Rt.seq (nx_check V h1 h2 (.var rfl) (.var rfl)) ?_)
  refine Rt.guard c (fun z => ?_) fun z => ?_
  · have z : cB ws.length N v = false := by simpa using z
    unfold sB
    rw [z]
    exact .ret .k rfl
  · have z : cB ws.length N v = true := by simpa using z
    obtain ⟨vs, rfl, l1, l2, l3⟩ := cB_true z
    have lz := evl_gen (src := srcA (fCons (fVar 2) (fNil)) kEnum) (bind := bTup [bName 5, bName 6]) (ft := fAnd (fOp2 gNe (fVar 6) (fOp2 gIx (fVar 3) (fVar 5))) (fOr (fOp2 gNe (fVar 6) (fOp2 gAdd (fOp2 gIx (fVar 3) (fVar 5)) (fC (.int 1)))) (fOp2 gEq (fOp2 gIx (fVar 4) (fVar 5)) (fC (.int 0))))) (fe := fVar 5) (vs := [5, 6]) (ρ := [some (.pu (iL ws)), some (.pu (.int N)), some (.pu (iL vs)), some (.pu (iL (fls ws N))), some (.pu (iL (rss ws N))), none, none])
      (fun k : Nat => .tuple [.int (k : Nat), .int (vs.getD k 0)]) (fun k : Nat => .int (k : Nat)) (fun k => decide (ws.sum ≤ ab (vs.getD k 0 * ws.sum - ws.getD k 0 * N))) (List.range ws.length) (src_enumN (.var rfl) l1) rfl (by rw [List.length_range]; exact V.len) fun k hk => by
        have hk := List.mem_range.mp hk
        refine ⟨[some (.pu (iL ws)), some (.pu (.int N)), some (.pu (iL vs)), some (.pu (iL (fls ws N))), some (.pu (iL (rss ws N))), some (.pu (.int (k : Nat))), some (.pu (.int (vs.getD k 0)))], rfl, ?_, fun _ => .var rfl, rfl⟩
        have f1 : (fls ws N).getD k 0 = fl ws.sum N (ws.getD k 0) := gd_map hk
        have r1 : (rss ws N).getD k 0 = rs ws.sum N (ws.getD k 0) := gd_map hk
        have iff := ok_iff (N := N) (w := ws.getD k 0) (one := vs.getD k 0) V.wt.ps
        have e : decide (ws.sum ≤ ab (vs.getD k 0 * ws.sum - ws.getD k 0 * N)) = ((!decide (vs.getD k 0 = fl ws.sum N (ws.getD k 0))) && ((!decide (vs.getD k 0 = fl ws.sum N (ws.getD k 0) + 1)) || decide (rs ws.sum N (ws.getD k 0) = 0))) := by
          rw [Bool.eq_iff_iff, decide_eq_true_eq, ← iff]
          simp
        rw [e, ← f1, ← r1]
        exact .and (ev_neI (.var rfl) (ev_ixI (.var rfl) (.var rfl) (by rw [fls_length]; exact hk))) fun _ => .or (ev_neI (.var rfl) (ev_addI (ev_ixI (.var rfl) (.var rfl) (by rw [fls_length]; exact hk)) .k)) fun _ => ev_eqI (ev_ixI (.var rfl) (.var rfl) (by rw [rss_length]; exact hk)) .k
    have fin := (ev_isNil (lay_nats _) lz.ev).1
    have e2 : sB ws N (iL vs) = (nL ((List.range ws.length).filter fun k => decide (ws.sum ≤ ab (vs.getD k 0 * ws.sum - ws.getD k 0 * N)))).isEmpty := by
      unfold sB
      rw [z]
      show (true && intsE (isD vs) (okL ws N)) = _
      rw [intsE_map, Bool.true_and]
      exact filter_int
    rw [e2]
    exact Rt.seq (Nx.put (.call (.cons (.var rfl) (.cons (.var rfl) .nil)) (fr_floors V).fr rfl)) (Rt.seq (Nx.put (.call (.cons (.var rfl) (.cons (.var rfl) .nil)) (fr_rests V).fr rfl)) (.ret fin rfl))
/-! missed -/
def mi (ws : List Int) (N : Int) (vs : List Int) (k : Nat) : Int := ab (vs.getD k 0 * ws.sum - ws.getD k 0 * N)
def miL (ws : List Int) (N : Int) (vs : List Int) : List Int := (List.range ws.length).map (mi ws N vs)
theorem miL_sum {vs : List Int} : (miL ws N vs).sum = mis ws N vs := rfl
theorem gd_mem {vs : List Int} {k : Nat} (h : k < vs.length) : vs.getD k 0 ∈ vs := by
  rw [List.getD_eq_getElem?_getD, List.getElem?_eq_getElem h]
  exact List.getElem_mem h
theorem vs_small (V : Vd ws N) {vs : List Int} (h0 : ∀ x ∈ vs, 0 ≤ x) (hs : vs.sum = N) {k : Nat} (hk : k < vs.length) : 0 ≤ vs.getD k 0 ∧ (vs.getD k 0).natAbs < 2 ^ 20 := by
  have a := h0 _ (gd_mem hk)
  have b := le_sum h0 _ (gd_mem hk)
  rw [hs] at b
  exact ⟨a, nat_le a b V.nN⟩
theorem mi_small (V : Vd ws N) {vs : List Int} (hl : vs.length = ws.length) (h0 : ∀ x ∈ vs, 0 ≤ x) (hs : vs.sum = N) {k : Nat} (hk : k < ws.length) : 0 ≤ mi ws N vs k ∧ mi ws N vs k ≤ ((2 ^ 171 : Nat) : Int) := by
  refine ⟨ab_nonneg _, ?_⟩
  obtain ⟨a1, a2⟩ := vs_small V h0 hs (k := k) (by omega)
  obtain ⟨b1, b2⟩ := V.w (V.gd hk)
  have m1 := mul_lt a2 V.big
  have m2 := mul_lt b2 V.nN
  have e : (2 : Nat) ^ (20 + 150) = 2 ^ (150 + 20) := rfl
  have e2 : (2 : Nat) ^ 171 = 2 ^ (150 + 20) + 2 ^ (150 + 20) := by decide
  have p1 : 0 ≤ vs.getD k 0 * ws.sum := Int.mul_nonneg a1 (Int.le_of_lt V.wt.ps)
  have p2 : 0 ≤ ws.getD k 0 * N := Int.mul_nonneg b1 V.n0
  rw [e2]
  unfold mi ab
  generalize vs.getD k 0 * ws.sum = p at *
  generalize ws.getD k 0 * N = q at *
  rw [e] at m1
  generalize (2 : Nat) ^ (150 + 20) = z at *
  split <;> omega
theorem mis_small (V : Vd ws N) {vs : List Int} (hl : vs.length = ws.length) (h0 : ∀ x ∈ vs, 0 ≤ x) (hs : vs.sum = N) : (mis ws N vs).natAbs < 2 ^ 200 := by
  have z := sum_le (f := mi ws N vs) (g := fun _ => ((2 ^ 171 : Nat) : Int)) (l := List.range ws.length) fun k hk => (mi_small V hl h0 hs (List.mem_range.mp hk)).2
  have c : ∀ (l : List Nat) (c : Int), (l.map fun _ => c).sum = (l.length : Nat) * c := by
    intro l c
    induction l with
    | nil => simp
    | cons x l ih =>
      rw [List.map_cons, List.sum_cons, ih, List.length_cons, Int.natCast_add, Int.add_mul]
      simp only [Int.natCast_one, Int.one_mul]
      omega
  rw [c, List.length_range] at z
  have z0 : 0 ≤ mis ws N vs := sum_nonneg fun x hx => by
    obtain ⟨k, hk, rfl⟩ := List.mem_map.mp hx
    exact ab_nonneg _
  have z1 : mis ws N vs ≤ (ws.length : Nat) * ((2 ^ 171 : Nat) : Int) := z
  have l30 := V.wt.l30
  have e2 : (2 : Nat) ^ 200 = 2 ^ 171 * 2 ^ 29 := by decide
  rw [e2]
  have pz : 0 < (2 : Nat) ^ 171 := by decide
  have q : (ws.length : Nat) * 2 ^ 171 ≤ 30 * 2 ^ 171 := Nat.mul_le_mul_right _ l30
  generalize (2 : Nat) ^ 171 = y at *
  have : mis ws N vs ≤ ((ws.length * y : Nat) : Int) := by rw [Int.natCast_mul]; exact z1
  omega
theorem ev_mi {ρ : DL.Env} {f5 f3 f1 f4 f2 : DL.Env → RE} (V : Vd ws N) {vs : List Int} (hl : vs.length = ws.length) (h0 : ∀ x ∈ vs, 0 ≤ x) (hs : vs.sum = N) {k : Nat} (hk : k < ws.length) (a5 : Ev f5 ρ (.int (vs.getD k 0))) (a3 : Ev f3 ρ (.int ws.sum)) (a1 : Ev f1 ρ (iL ws)) (a4 : Ev f4 ρ (.int (k : Nat))) (a2 : Ev f2 ρ (.int N)) :
    Ev (bndA (fCons (fOp2 gSub (fOp2 gMul f5 f3) (fOp2 gMul (fOp2 gIx f1 f4) f2)) (fNil)) gAbs) ρ (.int (mi ws N vs k)) :=
  ev_abs (ev_subI (ev_mulB a5 a3 (gt1_of (by decide) (vs_small V h0 hs (by omega)).2) V.gS) (ev_mulB (ev_ixI a1 a4 hk) a2 (V.gw (V.gd hk)) V.gN))
theorem fr_missed (V : Vd ws N) (h1 : 1 ≤ N) (h2 : N ≤ 1000000) {vs : List Int} (hl : vs.length = ws.length) (h0 : ∀ x ∈ vs, 0 ≤ x) (hs : vs.sum = N) (hv : VO (iL vs)) : Fr (F_missed ca) [iL vs, iL ws, .int N] (fD (lw (mis ws N vs) ws.sum)) := by
  have c : Ev (fNot (fCall 3 F_are_counts_of (fCons (bndA (fCons (fVar 1) (fNil)) gLen) (fCons (fVar 2) (fCons (fVar 0) (fNil)))))) (args 6 [iL vs, iL ws, .int N]) (.bool false) := by
    have z := Ev.not (Ev.call (F := F_are_counts_of) (fs := fCons (bndA (fCons (fVar 1) (fNil)) gLen) (fCons (fVar 2) (fCons (fVar 0) (fNil)))) (ρ := args 6 [iL vs, iL ws, .int N]) (n := 3) (.cons (ev_lenI (ns := ws) (.var rfl)) (.cons (.var rfl) (.cons (.var rfl) .nil))) (fr_counts hv) rfl)
    rw [cB_of hl h0 hs] at z
    exact z
  have lz := evl_map (src := srcA (fCons (fVar 0) (fNil)) kEnum) (bind := bTup [bName 4, bName 5]) (fe := fCall 2 F_lowest (fCons (bndA (fCons (fOp2 gSub (fOp2 gMul (fVar 5) (fVar 3)) (fOp2 gMul (fOp2 gIx (fVar 1) (fVar 4)) (fVar 2))) (fNil)) gAbs) (fCons (fVar 3) (fNil)))) (vs := [4, 5]) (ρ := [some (.pu (iL vs)), some (.pu (iL ws)), some (.pu (.int N)), some (.pu (.int ws.sum)), none, none])
    (fun k : Nat => .tuple [.int (k : Nat), .int (vs.getD k 0)]) (fun k : Nat => fD (lw (mi ws N vs k) ws.sum)) (List.range ws.length) (src_enumN (.var rfl) hl) rfl (by rw [List.length_range]; exact V.len) fun k hk =>
      ⟨[some (.pu (iL vs)), some (.pu (iL ws)), some (.pu (.int N)), some (.pu (.int ws.sum)), some (.pu (.int (k : Nat))), some (.pu (.int (vs.getD k 0)))], rfl, .call (.cons (ev_mi V hl h0 hs (List.mem_range.mp hk) (.var rfl) (.var rfl) (.var rfl) (.var rfl) (.var rfl)) (.cons (.var rfl) .nil)) (fr_lowest V.wt.ps V.gS) rfl, rfl⟩
  have e : ((List.range ws.length).map fun k : Nat => fD (lw (mi ws N vs k) ws.sum)) = (miL ws N vs).map fun e => fD (lw e ws.sum) := by
    unfold miL
    rw [List.map_map]
    rfl
  rw [e] at lz
  have tot := fr_total V.wt.ps (Nat.lt_of_lt_of_le V.big (Nat.pow_le_pow_right (by decide) (by decide))) (l := miL ws N vs) (fun x hx => by
    obtain ⟨k, hk, rfl⟩ := List.mem_map.mp hx
    exact ab_nonneg _) (by rw [miL_sum]; exact mis_small V hl h0 hs)
  rw [miL_sum] at tot
  exact fr_of (Rt.seq (nx_check V h1 h2 (.var rfl) (.var rfl)) (Rt.seq (ρ1 := args 6 [iL vs, iL ws, .int N]) (Nx.if c (fun z => nomatch z) fun _ => .nx) (Rt.seq (Nx.put (ev_sum (.var rfl))) (.ret (.call (.cons lz.ev .nil) tot rfl) rfl))))
theorem missed_no (V : Vd ws N) (h1 : 1 ≤ N) (h2 : N ≤ 1000000) {v : D} (hv : VO v) (hc : cB ws.length N v = false) : FrE (F_missed ca) [v, iL ws, .int N] (ca "InvalidTable") v := by
  have c : Ev (fNot (fCall 3 F_are_counts_of (fCons (bndA (fCons (fVar 1) (fNil)) gLen) (fCons (fVar 2) (fCons (fVar 0) (fNil)))))) (args 6 [v, iL ws, .int N]) (.bool true) := by
    have z := Ev.not (Ev.call (F := F_are_counts_of) (fs := fCons (bndA (fCons (fVar 1) (fNil)) gLen) (fCons (fVar 2) (fCons (fVar 0) (fNil)))) (ρ := args 6 [v, iL ws, .int N]) (n := 3) (.cons (ev_lenI (ns := ws) (.var rfl)) (.cons (.var rfl) (.cons (.var rfl) .nil))) (fr_counts hv) rfl)
    rw [hc] at z
    exact z
  exact frE_of (Er.seq (nx_check V h1 h2 (.var rfl) (.var rfl)) (Er.now (Er.if c (fun _ => Er.raise (.cons (.var rfl) .nil)) fun z => nomatch z)))
end
end K84
/-! B7: the law's small defs. -/
namespace K84
open PySem L2 PyProof.Rows DL SH
theorem nx_par {ρ : DL.Env} {fa fb : DL.Env → RE} {a b : D} {i j : Nat} (ha : Ev fa ρ a) (hb : ∃ u, fb ρ = .ok (.pu u) ρ ∧ u = b) : Nx (sPar i j fa fb) ρ ((ρ.set i (some (.pu a))).set j (some (.pu b))) := by
  obtain ⟨w, h1, rfl⟩ := ha
  obtain ⟨u, h2, rfl⟩ := hb
  unfold Nx sPar sE
  rw [h1]
  dsimp only
  rw [h2]
theorem ev_pu {ρ : DL.Env} {fa : DL.Env → RE} {i : Int} (ha : Ev fa ρ (.int i)) : ∃ u, fa ρ = .ok (.pu u) ρ ∧ u = .int i := by
  obtain ⟨w, h, e⟩ := ha
  cases w with
  | pu d => exact ⟨d, h, e⟩
  | frs ds => cases e
theorem for_brk {bind : D → DL.Env → Option DL.Env} {body : DL.Env → RS} {d : D} {r : List D} {ρ ρ1 ρ2 : DL.Env} (b : bind d ρ = some ρ1) (s : body ρ1 = .bk ρ2) : forGo bind body (d :: r) ρ = .nx ρ2 := by
  unfold forGo
  rw [b]
  dsimp only
  rw [s]
theorem eu_loop : ∀ (l : List D) (a b g : Nat) (x : Option Sl), euc l.length a b = some g → isPub x →
    ∃ b' x' : Option Sl, isPub b' ∧ isPub x' ∧ forGo (bName 2) (sSeq (sIf (fOp2 gEq (fVar 1) (fC (.int 0))) (.bk) (.nx)) (sPar 0 1 (fVar 1) (fOp2 gMod (bndA (fCons (fVar 0) (fNil)) gInt1) (fVar 1)))) l [some (.pu (.int (a : Nat))), some (.pu (.int (b : Nat))), x] = .nx [some (.pu (.int (g : Nat))), b', x']
  | [], a, b, g, x, h, hx => by cases h
  | d :: l, a, b, g, x, h, hx => by
    rw [List.length_cons, euc] at h
    have t := ev_eqI (fa := fVar 1) (fb := fC (.int 0)) (ρ := [some (.pu (.int (a : Nat))), some (.pu (.int (b : Nat))), some (.pu d)]) (i := (b : Nat)) (j := 0) (.var rfl) .k
    by_cases hb : b = 0
    · rw [if_pos hb] at h
      cases h
      rw [decide_eq_true (by omega)] at t
      refine ⟨some (.pu (.int (b : Nat))), some (.pu d), (fun _ _ z => nomatch z), (fun _ _ z => nomatch z), ?_⟩
      refine for_brk (ρ1 := [some (.pu (.int (a : Nat))), some (.pu (.int (b : Nat))), some (.pu d)]) rfl ?_
      unfold sSeq
      rw [if_eq t]
      rfl
    · rw [if_neg hb] at h
      rw [decide_eq_false (by omega)] at t
      obtain ⟨b', x', p1, p2, h1⟩ := eu_loop l b (a % b) g (some (.pu d)) h (fun _ _ z => nomatch z)
      refine ⟨b', x', p1, p2, for_cons (ρ1 := [some (.pu (.int (a : Nat))), some (.pu (.int (b : Nat))), some (.pu d)]) rfl ?_ h1⟩
      have m := ev_modB (fa := bndA (fCons (fVar 0) (fNil)) gInt1) (fb := fVar 1) (ρ := [some (.pu (.int (a : Nat))), some (.pu (.int (b : Nat))), some (.pu d)]) (i := (a : Nat)) (j := (b : Nat)) (ev_int (.var rfl)) (.var rfl) (by omega)
      rw [← Int.natCast_emod] at m
      exact Nx.seq (Nx.if (x := false) t (fun z => nomatch z) fun _ => .nx) (nx_par (a := .int (b : Nat)) (b := .int ((a % b : Nat) : Int)) (.var rfl) (ev_pu m))
theorem l_gcd {a b : Int} (ha : 0 ≤ a) (hb : 0 < b) (h : b.natAbs < 2 ^ 200) : Fr F_l_gcd [.int a, .int b] (.int (gc a b)) := by
  have ea : ab a = ((a.natAbs : Nat) : Int) := by unfold ab; split <;> omega
  have eb : ab b = ((b.natAbs : Nat) : Int) := by unfold ab; split <;> omega
  obtain ⟨b', x', p1, p2, h1⟩ := eu_loop ((List.range 100000).map fun k : Nat => .int (k : Nat)) a.natAbs b.natAbs (Nat.gcd a.natAbs b.natAbs) none (by rw [List.length_map, List.length_range]; exact euc_ok 200 _ _ _ h (by omega)) (fun _ _ z => nomatch z)
  have n1 := nx_par (i := 0) (j := 1) (fa := bndA (fCons (fVar 0) (fNil)) gAbs) (fb := bndA (fCons (fVar 1) (fNil)) gAbs) (ρ := args 3 [.int a, .int b]) (a := .int (ab a)) (b := .int (ab b)) (ev_abs (.var rfl)) (ev_pu (ev_abs (.var rfl)))
  rw [ea, eb] at n1
  refine fr_of (Rt.seq n1 (Rt.seq (sFor_ok (src_rng (n := 100000) .k (by decide)) h1) (.ret (.var rfl) (colE_pubs fun o ho => ?_))))
  simp only [List.mem_cons, List.not_mem_nil, or_false] at ho
  rcases ho with rfl | rfl | rfl
  · exact fun _ _ z => nomatch z
  · exact p1
  · exact p2
theorem l_low {a b : Int} (ha : 0 ≤ a) (hb : 0 < b) (h : b.natAbs < 2 ^ 200) : Fr F_l_low [.int a, .int b] (fD (lw a b)) := by
  have g := gc_pos (a := a) hb
  have gg : Gt1 (gc a b) := gt1_le (Int.le_of_lt g) (gc_le hb) (gt1_of (by decide) h)
  exact fr_of (Rt.seq (Nx.put (.call (.cons (.var rfl) (.cons (.var rfl) .nil)) (l_gcd ha hb h) rfl)) (.ret (ev_mkT (.cons (ev_divB (.var rfl) (.var rfl) g gg) (.cons (ev_divB (.var rfl) (.var rfl) g gg) .nil)) (by show 2 ≤ 1000; decide)) rfl))
theorem l_less {p q : Int × Int} (h1 : Gt1 p.1) (h2 : Gt1 p.2) (h3 : Gt1 q.1) (h4 : Gt1 q.2) : Fr F_l_less [fD p, fD q] (.bool (decide (p.1 * q.2 < q.1 * p.2))) := by
  have a := ix_fD p (ρ := args 2 [fD p, fD q]) (fa := fVar 0) (.var rfl)
  have b := ix_fD q (ρ := args 2 [fD p, fD q]) (fa := fVar 1) (.var rfl)
  exact fr_of (.ret (ev_lt (ev_mulB a.1 b.2 h1 h4) (ev_mulB b.1 a.2 h3 h2)) rfl)
theorem l_put {vs : List Int} {i : Nat} {x : Int} (h : i < vs.length) (hl : vs.length ≤ 1000) : FrL F_l_put [iL vs, .int (i : Nat), .int x] (isD (vs.set i x)) := by
  have s : 1000 ≤ sizeLine := by decide
  have e1 : Evl (fOp2 gCutH (fVar 0) (fVar 1)) (args 3 [iL vs, .int (i : Nat), .int x]) ((isD vs).take i) := Evl.op2 (.var rfl) (.var rfl) (cutH_take (by rw [List.length_map]; omega))
  have e2 : Evl (fOp2 gCutL (fVar 0) (fOp2 gAdd (fVar 1) (fC (.int 1)))) (args 3 [iL vs, .int (i : Nat), .int x]) ((isD vs).drop (i + 1)) := Evl.op2 (.var rfl) (b := .int ((i + 1 : Nat) : Int)) (by
    have z := ev_addI (fa := fVar 1) (fb := fC (.int 1)) (ρ := args 3 [iL vs, .int (i : Nat), .int x]) (i := (i : Nat)) (j := 1) (.var rfl) .k
    rw [show ((i : Nat) : Int) + 1 = ((i + 1 : Nat) : Int) by omega] at z
    exact z) (cutL_drop (by rw [List.length_map]; omega))
  have e3 : Evl (bndA (fCons (fVar 2) (fNil)) gMkL) (args 3 [iL vs, .int (i : Nat), .int x]) [.int x] := ev_mkL (.cons (.var rfl) .nil) (by show 1 ≤ 1000; decide)
  have ll : (isD vs).length = vs.length := List.length_map _
  have e4 : Evl (fOp2 gAdd (fOp2 gCutH (fVar 0) (fVar 1)) (bndA (fCons (fVar 2) (fNil)) gMkL)) (args 3 [iL vs, .int (i : Nat), .int x]) ((isD vs).take i ++ [.int x]) := Evl.op2 e1.ev e3.ev (by
    show (if ((isD vs).take i).length + 1 ≤ sizeLine then some (W.frs ((isD vs).take i ++ [PyData.int x])) else none) = _
    rw [if_pos (by rw [List.length_take]; omega)])
  have e5 : Evl (fOp2 gAdd (fOp2 gAdd (fOp2 gCutH (fVar 0) (fVar 1)) (bndA (fCons (fVar 2) (fNil)) gMkL)) (fOp2 gCutL (fVar 0) (fOp2 gAdd (fVar 1) (fC (.int 1))))) (args 3 [iL vs, .int (i : Nat), .int x]) ((isD vs).take i ++ [.int x] ++ (isD vs).drop (i + 1)) := Evl.op2 e4.ev e2.ev (by
    show (if ((isD vs).take i ++ [PyData.int x]).length + ((isD vs).drop (i + 1)).length ≤ sizeLine then some (W.frs _) else (none : Option W)) = _
    rw [if_pos (by rw [List.length_append, List.length_take, List.length_drop, List.length_singleton]; omega)])
  refine (frL_of (.ret e5 rfl)).of ?_
  unfold isD
  rw [List.map_set, List.set_eq_take_append_cons_drop, if_pos (by rw [List.length_map]; exact h)]
  simp
/-! the triangle -/
def row (m : Nat) : List Int := (List.range (m + 1)).map fun k => ((ch m k : Nat) : Int)
theorem row_length {m : Nat} : (row m).length = m + 1 := by simp [row]
theorem row_getD {m k : Nat} (h : k < m + 1) : (row m).getD k 0 = (ch m k : Nat) := by simp [row, h]
theorem row_succ (m : Nat) : [(1 : Int)] ++ (List.range m).map (fun k => (row m).getD k 0 + (row m).getD (k + 1) 0) ++ [1] = row (m + 1) := by
  refine List.ext_getElem (by simp [row_length]) fun i h1 h2 => ?_
  rw [row_length] at h2
  have e : (row (m + 1))[i]'(by rw [row_length]; exact h2) = ((ch (m + 1) i : Nat) : Int) := by simp [row]
  rw [e]
  match i with
  | 0 => simp [ch]
  | i + 1 =>
    by_cases hi : i < m
    · rw [List.getElem_append_left (by simp; omega)]
      simp only [List.cons_append, List.nil_append, List.getElem_cons_succ, List.getElem_map, List.getElem_range]
      rw [row_getD (by omega), row_getD (by omega), ch]
      omega
    · have : i = m := by omega
      subst this
      rw [List.getElem_append_right (by simp)]
      simp [ch_self]
theorem ways_loop {d0 d1 : D} : ∀ (l : List D) (m : Nat) (x : Option Sl), m + l.length ≤ 30 → isPub x →
    ∃ x', isPub x' ∧ forGo (bName 3) (sPut 2 (fOp2 gAdd (fOp2 gAdd (bndA (fCons (fC (.int 1)) (fNil)) gMkL) (fLc (srcA (fCons (fOp2 gSub (bndA (fCons (fVar 2) (fNil)) gLen) (fC (.int 1))) (fNil)) kRng1) (bName 4) (fC (.bool true)) (fOp2 gAdd (fOp2 gIx (fVar 2) (fVar 4)) (fOp2 gIx (fVar 2) (fOp2 gAdd (fVar 4) (fC (.int 1))))) [4])) (bndA (fCons (fC (.int 1)) (fNil)) gMkL))) l [some (.pu d0), some (.pu d1), some (.pu (iL (row m))), x, none] = .nx [some (.pu d0), some (.pu d1), some (.pu (iL (row (m + l.length)))), x', none]
  | [], m, x, h, hx => ⟨x, hx, rfl⟩
  | d :: l, m, x, h, hx => by
    rw [List.length_cons] at h
    obtain ⟨x', p1, h1⟩ := ways_loop (d0 := d0) (d1 := d1) l (m + 1) (some (.pu d)) (by omega) (fun _ _ z => nomatch z)
    refine ⟨x', p1, ?_⟩
    rw [List.length_cons, show m + (l.length + 1) = m + 1 + l.length by omega]
    have s : 1000 ≤ sizeLine := by decide
    have one : ∀ ρ, Ev (bndA (fCons (fC (.int 1)) (fNil)) gMkL) ρ (iL [1]) := fun ρ => (ev_mkL (.cons .k .nil) (by show 1 ≤ 1000; decide)).ev
    have ln : Ev (fOp2 gSub (bndA (fCons (fVar 2) (fNil)) gLen) (fC (.int 1))) [some (.pu d0), some (.pu d1), some (.pu (iL (row m))), some (.pu d), none] (.int (m : Nat)) := by
      have z := ev_subI (fa := bndA (fCons (fVar 2) (fNil)) gLen) (fb := fC (.int 1)) (ρ := [some (.pu d0), some (.pu d1), some (.pu (iL (row m))), some (.pu d), none]) (j := 1) (ev_lenI (ns := row m) (.var rfl)) .k
      rw [row_length, show (((m + 1 : Nat) : Int) - 1) = (m : Nat) by omega] at z
      exact z
    have lz := evl_map (src := srcA (fCons (fOp2 gSub (bndA (fCons (fVar 2) (fNil)) gLen) (fC (.int 1))) (fNil)) kRng1) (bind := bName 4) (fe := fOp2 gAdd (fOp2 gIx (fVar 2) (fVar 4)) (fOp2 gIx (fVar 2) (fOp2 gAdd (fVar 4) (fC (.int 1))))) (vs := [4]) (ρ := [some (.pu d0), some (.pu d1), some (.pu (iL (row m))), some (.pu d), none]) (fun k : Nat => .int (k : Nat)) (fun k : Nat => .int ((row m).getD k 0 + (row m).getD (k + 1) 0)) (List.range m) (src_rng ln (Nat.lt_of_le_of_lt (show m ≤ 30 by omega) (by decide))) rfl (by rw [List.length_range]; omega) fun k hk => by
      have hk := List.mem_range.mp hk
      refine ⟨[some (.pu d0), some (.pu d1), some (.pu (iL (row m))), some (.pu d), some (.pu (.int (k : Nat)))], rfl, ev_addI (ev_ixI (.var rfl) (.var rfl) (by rw [row_length]; omega)) (ev_ixI (k := k + 1) (.var rfl) ?_ (by rw [row_length]; omega)), rfl⟩
      have z := ev_addI (fa := fVar 4) (fb := fC (.int 1)) (ρ := [some (.pu d0), some (.pu d1), some (.pu (iL (row m))), some (.pu d), some (.pu (.int (k : Nat)))]) (i := (k : Nat)) (j := 1) (.var rfl) .k
      rw [show ((k : Nat) : Int) + 1 = ((k + 1 : Nat) : Int) by omega] at z
      exact z
    have e4 := Evl.op2 (g := gAdd) (ds := isD [1] ++ (List.range m).map fun k : Nat => .int ((row m).getD k 0 + (row m).getD (k + 1) 0)) (one _) lz.ev (by
      show (if (1 : Nat) + ((List.range m).map _).length ≤ sizeLine then some (W.frs _) else (none : Option W)) = _
      rw [if_pos (by rw [List.length_map, List.length_range]; omega)])
    have e5 := Evl.op2 (g := gAdd) (ds := isD [1] ++ ((List.range m).map fun k : Nat => .int ((row m).getD k 0 + (row m).getD (k + 1) 0)) ++ isD [1]) e4.ev (one _) (by
      show (if (isD [1] ++ (List.range m).map _).length + (1 : Nat) ≤ sizeLine then some (W.frs _) else (none : Option W)) = _
      rw [if_pos (by rw [List.length_append, List.length_map, List.length_map, List.length_range]; show 1 + m + 1 ≤ _; omega)])
    have e6 : isD [1] ++ ((List.range m).map fun k : Nat => PyData.int ((row m).getD k 0 + (row m).getD (k + 1) 0)) ++ isD [1] = isD (row (m + 1)) := by
      rw [← row_succ]
      unfold isD
      rw [List.map_append, List.map_append, List.map_map]
      rfl
    rw [e6] at e5
    exact for_cons (ρ1 := [some (.pu d0), some (.pu d1), some (.pu (iL (row m))), some (.pu d), none]) rfl (Nx.put e5.ev) h1
theorem l_ways {m k : Nat} (hm : m ≤ 30) (hk : k ≤ m) : Fr F_l_ways [.int (m : Nat), .int (k : Nat)] (.int (ch m k : Nat)) := by
  obtain ⟨x', p1, h1⟩ := ways_loop (d0 := .int (m : Nat)) (d1 := .int (k : Nat)) ((List.range m).map fun k : Nat => .int (k : Nat)) 0 none (by rw [List.length_map, List.length_range]; omega) (fun _ _ z => nomatch z)
  rw [List.length_map, List.length_range, Nat.zero_add] at h1
  have r0 : Ev (bndA (fCons (fC (.int 1)) (fNil)) gMkL) (args 5 [.int (m : Nat), .int (k : Nat)]) (iL (row 0)) := (ev_mkL (.cons .k .nil) (by show 1 ≤ 1000; decide)).ev
  refine fr_of (Rt.seq (Nx.put r0) (Rt.seq (sFor_ok (src_rng (n := m) (.var rfl) (Nat.lt_of_le_of_lt hm (by decide))) h1) (.ret ?_ (colE_pubs fun o ho => ?_))))
  · have z := ev_ixI (fa := fVar 2) (fb := fVar 1) (ns := row m) (k := k) (ρ := [some (.pu (.int (m : Nat))), some (.pu (.int (k : Nat))), some (.pu (iL (row m))), x', none]) (.var rfl) (.var rfl) (by rw [row_length]; omega)
    rw [row_getD (by omega)] at z
    exact z
  · simp only [List.mem_cons, List.not_mem_nil, or_false] at ho
    rcases ho with rfl | rfl | rfl | rfl | rfl
    · exact fun _ _ z => nomatch z
    · exact fun _ _ z => nomatch z
    · exact fun _ _ z => nomatch z
    · exact p1
    · exact fun _ _ z => nomatch z
end K84
/-! B8: draws; what is the same. -/
namespace K84
open PySem L2 PyProof.Rows DL SH
def Gen (m : Nat) (ds : List D) : Prop := ∃ a s c : Int, ds = [.int a, .int s, .int c] ∧ 0 ≤ a ∧ 0 ≤ s ∧ s < 2147483647 ∧ 0 ≤ c ∧ c ≤ (m : Nat)
theorem fr_l_hash {s c : Int} (hs : 0 ≤ s) (hs2 : s < 2147483647) (hc : 0 ≤ c) (hc2 : c < 2 ^ 60) : ∃ z : Int, Fr F_l_hash [.int s, .int c] (.int z) := by
  refine ⟨_, fr_of (Rt.seq (Nx.put (ev_mod (ev_int (ev_addI (ev_addI (ev_addI (ev_mul (.var rfl) .k (.inl ?_)) (ev_mul (ev_mul .k (.var rfl) (.inl (by decide))) (.var rfl) (.inr ?_))) (ev_mul .k (.var rfl) (.inl (by decide)))) .k)) .k (by decide))) (Rt.seq (Nx.put (ev_mod (ev_int (ev_addI (ev_addI (ev_mul (.var rfl) (.var rfl) (.inl ?_)) (ev_mul .k (.var rfl) (.inl (by decide)))) .k)) .k (by decide))) (.ret (ev_mod (ev_int (ev_mul (.var rfl) .k (.inr (by decide)))) .k (by decide)) rfl)))⟩
  · omega
  · omega
  · have := fmod_range (i := s * 1140671 + 27644437 * c * c + 131 * c + 19) (j := 2147483629) (by decide)
    omega

def rBody : DL.Env → RS := sSeq (sSetO 0 (fOp2 gAdd (fIxO 0 (fC (.int 2))) (fC (.int 1))) (fC (.int 2))) (sPut 2 (fOp2 gAdd (fOp2 gMul (fVar 2) (fC (.int 2147483587))) (fCall 2 F_l_hash (fCons (fIxO 0 (fC (.int 1))) (fCons (fIxO 0 (fC (.int 2))) (fNil))))))
theorem rnd_loop {a s b : Int} (hs : 0 ≤ s) (hs2 : s < 2147483647) : ∀ (l : List D) (c z : Int) (x : Option Sl), 0 ≤ c → c + (l.length : Nat) < 2 ^ 60 → isPub x →
    ∃ (z' : Int) (x' : Option Sl), isPub x' ∧ forGo (bName 3) rBody l [some (.own 1 [.int a, .int s, .int c]), some (.pu (.int b)), some (.pu (.int z)), x] = .nx [some (.own 1 [.int a, .int s, .int (c + (l.length : Nat))]), some (.pu (.int b)), some (.pu (.int z')), x']
  | [], c, z, x, _, _, hx => ⟨z, x, hx, by simp [forGo]⟩
  | d :: l, c, z, x, hc, hc2, hx => by
    rw [List.length_cons, Int.natCast_add, Int.natCast_one] at hc2 ⊢
    obtain ⟨hz, fh⟩ := fr_l_hash (s := s) (c := c + 1) hs hs2 (by omega) (by omega)
    obtain ⟨z', x', p1, h1⟩ := rnd_loop (a := a) (b := b) hs hs2 l (c + 1) (z * 2147483587 + hz) (some (.pu d)) (by omega) (by omega) (fun _ _ w => nomatch w)
    refine ⟨z', x', p1, ?_⟩
    rw [show c + ((l.length : Nat) + 1) = c + 1 + (l.length : Nat) by omega]
    refine for_cons (ρ1 := [some (.own 1 [.int a, .int s, .int c]), some (.pu (.int b)), some (.pu (.int z)), some (.pu d)]) rfl ?_ h1
    exact Nx.seq (ρ1 := [some (.own 1 [.int a, .int s, .int (c + 1)]), some (.pu (.int b)), some (.pu (.int z)), some (.pu d)]) (Nx.setO (j := 2) (t := 1) (ds := [.int a, .int s, .int c]) rfl (ev_addI (.ixO (j := 2) rfl .k rfl) .k) .k (by show 2 < 3; decide))
      (Nx.put (ev_addI (ev_mul (.var rfl) .k (.inr (by decide))) (.call (.cons (.ixO (j := 1) (d := .int s) rfl .k rfl) (.cons (.ixO (j := 2) (d := .int (c + 1)) rfl .k rfl) .nil)) fh rfl)))
theorem bits_le {b : Int} (h1 : 1 ≤ b) (h2 : b.natAbs < 2 ^ 149) : Builtin.Int.intBits b ≤ 149 := by
  unfold Builtin.Int.intBits
  have : (b == 0) = false := by
    rw [beq_eq_false_iff_ne]; omega
  rw [this]
  have := (Nat.log2_lt (show b.natAbs ≠ 0 by omega)).mpr h2
  simp only [Bool.false_eq_true, if_false]
  omega
theorem random_ok {ds : List D} {m : Nat} {b : Int} (G : Gen m ds) (hm : m + 6 < 2 ^ 50) (h1 : 1 ≤ b) (h2 : b.natAbs < 2 ^ 149) : ∃ (r : Nat) (ds2 : List D), FrO F_l_random ds [.int b] ds2 (.int (r : Nat)) ∧ (r : Int) < b ∧ Gen (m + 6) ds2 := by
  obtain ⟨a, s, c, rfl, ha, hs, hs2, hc, hc2⟩ := G
  have up : ∀ z : Int, 0 ≤ z → ∃ n : Nat, z = (n : Nat) := fun z hz => ⟨z.toNat, by rw [Int.toNat_of_nonneg hz]⟩
  have t1 : Ev (fOp2 gGt (fIxO 0 (fC (.int 0))) (fC (.int 0))) [some (.own 1 [.int a, .int s, .int c]), some (.pu (.int b)), none, none] (.bool (decide (0 < a))) := ev_gt (.ixO (j := 0) rfl .k rfl) .k
  have gb : Gt1 b := gt1_of (by decide) h2
  by_cases h : 0 < a
  · obtain ⟨n, hn⟩ := up (a % b) (Int.emod_nonneg _ (by omega))
    have lt := Int.emod_lt_of_pos a (show 0 < b by omega)
    have s1 : Nx (sPut 2 (fOp2 gMod (bndA (fCons (fIxO 0 (fC (.int 0))) (fNil)) gInt1) (fVar 1))) [some (.own 1 [.int a, .int s, .int c]), some (.pu (.int b)), none, none] [some (.own 1 [.int a, .int s, .int c]), some (.pu (.int b)), some (.pu (.int (a % b))), none] := Nx.put (ev_modB (ev_int (.ixO (j := 0) rfl .k rfl)) (.var rfl) (by omega))
    have s2 : Nx (sSetO 0 (fOp2 gDiv (fIxO 0 (fC (.int 0))) (fVar 1)) (fC (.int 0))) [some (.own 1 [.int a, .int s, .int c]), some (.pu (.int b)), some (.pu (.int (a % b))), none] [some (.own 1 [.int (a / b), .int s, .int c]), some (.pu (.int b)), some (.pu (.int (a % b))), none] :=
      Nx.setO (j := 0) (t := 1) (ds := [.int a, .int s, .int c]) (d := .int (a / b)) rfl (ev_divB (.ixO (j := 0) rfl .k rfl) (.var rfl) (by omega) gb) .k (by show 0 < 3; decide)
    refine ⟨n, [.int (a / b), .int s, .int c], frO_of (w := .pu (.int (a % b))) (ρ' := [some (.own 1 [.int (a / b), .int s, .int c]), some (.pu (.int b)), some (.pu (.int (a % b))), none]) ?_ (by rw [← hn]; rfl) rfl, by omega, a / b, s, c, rfl, ?_, hs, hs2, hc, by omega⟩
    · show g_l_random [some (.own 1 [.int a, .int s, .int c]), some (.pu (.int b)), none, none] = _
      unfold g_l_random
      refine seq_ret ?_
      rw [if_eq t1, decide_eq_true h]
      simp only [if_true]
      rw [seq_nx s1, seq_nx s2]
      rfl
    · exact Int.ediv_nonneg ha (by omega)
  · have hbits := bits_le h1 h2
    let e0 : DL.Env := [some (.own 1 [.int a, .int s, .int c]), some (.pu (.int b)), some (.pu (.int 0)), none]
    have s1 : Nx (sPut 2 (fC (.int 0))) [some (.own 1 [.int a, .int s, .int c]), some (.pu (.int b)), none, none] e0 := Nx.put .k
    have tq : Builtin.Int.intBits b / 30 ≤ 4 := by omega
    have rg : Ev (fOp2 gAdd (fC (.int 1)) (fOp2 gDiv (fOp1 gBits (fVar 1)) (fC (.int 30)))) e0 (.int ((1 + Builtin.Int.intBits b / 30 : Nat) : Int)) := by
      have z := ev_addI (fa := fC (.int 1)) (ρ := e0) (i := 1) .k (ev_divB (fa := fOp1 gBits (fVar 1)) (fb := fC (.int 30)) (ρ := e0) (i := (Builtin.Int.intBits b : Nat)) (j := 30) (Ev.op1 (w := .pu (.int (Builtin.Int.intBits b : Nat))) (.var rfl) rfl) .k (by decide) (gt1_of (k := 5) (by decide) (by decide)))
      rw [show (1 : Int) + ((Builtin.Int.intBits b : Nat) : Int) / 30 = ((1 + Builtin.Int.intBits b / 30 : Nat) : Int) by omega] at z
      exact z
    generalize hT : 1 + Builtin.Int.intBits b / 30 = T at rg
    obtain ⟨z', x', p1, hl⟩ := rnd_loop (a := a) (b := b) hs hs2 ((List.range T).map fun k : Nat => .int (k : Nat)) c 0 none hc (by rw [List.length_map, List.length_range]; omega) (fun _ _ w => nomatch w)
    rw [List.length_map, List.length_range] at hl
    have s2 := sFor_ok (bind := bName 3) (body := rBody) (src_rng rg (Nat.lt_of_le_of_lt (show T ≤ 5 by omega) (by decide))) hl
    unfold rBody at s2
    obtain ⟨n, hn⟩ := up (z' % b) (Int.emod_nonneg _ (by omega))
    have lt := Int.emod_lt_of_pos z' (show 0 < b by omega)
    let e1 : DL.Env := [some (.own 1 [.int a, .int s, .int (c + (T : Nat))]), some (.pu (.int b)), some (.pu (.int z')), x']
    have ce : colE e1 = [(1, [.int a, .int s, .int (c + (T : Nat))])] := colE_own (t := 0) (colE_pubs fun o ho => by
      simp only [List.mem_cons, List.not_mem_nil, or_false] at ho
      rcases ho with rfl | rfl | rfl
      · exact fun _ _ w => nomatch w
      · exact fun _ _ w => nomatch w
      · exact p1)
    have r : Ev (fOp2 gMod (bndA (fCons (fVar 2) (fNil)) gInt1) (fVar 1)) e1 (.int (z' % b)) := ev_modB (ev_int (.var rfl)) (.var rfl) (by omega)
    obtain ⟨w, q1, q2⟩ := ret_s (Ev.s r)
    refine ⟨n, [.int a, .int s, .int (c + (T : Nat))], frO_of (w := w) (ρ' := e1) ?_ (by rw [q2, ← hn]) ce, by omega, a, s, c + (T : Nat), rfl, ha, hs, hs2, by omega, by omega⟩
    show g_l_random [some (.own 1 [.int a, .int s, .int c]), some (.pu (.int b)), none, none] = _
    unfold g_l_random
    rw [seq_nx (show Nx _ _ _ from Nx.if t1 (fun z => absurd (of_decide_eq_true z) h) fun _ => .nx), seq_nx s1, seq_nx (show Nx _ _ _ from s2)]
    exact q1
/-- one of a list of ints -/
theorem pick_ok {ds : List D} {m : Nat} {ns : List Int} (G : Gen m ds) (hm : m + 6 < 2 ^ 50) (h1 : 1 ≤ ns.length) (h2 : ns.length ≤ 1000) : ∃ (z : Int) (ds2 : List D), FrO F_l_pick ds [iL ns] ds2 (.int z) ∧ z ∈ ns ∧ Gen (m + 6) ds2 := by
  obtain ⟨r, ds2, f1, f2, f3⟩ := random_ok (b := (ns.length : Nat)) G hm (by omega) (by
    have : (((ns.length : Nat) : Int)).natAbs = ns.length := by omega
    rw [this]
    exact Nat.lt_of_le_of_lt h2 (by decide))
  have hr : r < ns.length := by omega
  refine ⟨ns.getD r 0, ds2, ?_, gd_mem hr, f3⟩
  have q : EvS (fOp2 gIx (fVar 1) (fLend 2 0 F_l_random (fCons (bndA (fCons (fVar 1) (fNil)) gLen) (fNil)))) [some (.own 1 ds), some (.pu (iL ns))] [some (.own 1 ds2), some (.pu (iL ns))] (.int (ns.getD r 0)) :=
    EvS.op2 (w := .pu (.int (ns.getD r 0))) (Ev.s (.var rfl)) (EvS.lend (t := 1) (ds := ds) (es := [.int (ns.length : Nat)]) rfl (.cons (ev_lenI (.var rfl)) .nil) rfl f1) (ix_int hr)
  obtain ⟨w, q1, q2⟩ := ret_s q
  exact frO_of (ρ' := [some (.own 1 ds2), some (.pu (iL ns))]) q1 q2 rfl
theorem same_bool (n : Nat) (b : Bool) : Fr (F_l_same (n + 1)) [.bool b, .bool b] (.bool true) := by
  cases b <;> exact ⟨_, rfl, rfl⟩
theorem same_none (n : Nat) : Fr (F_l_same (n + 1)) [.none, .none] (.bool true) := ⟨_, rfl, rfl⟩
theorem same_int (n : Nat) (i : Int) : Fr (F_l_same (n + 1)) [.int i, .int i] (.bool true) := by
  refine fr_of (Rt.guard (x := false) (.or (x := false) (y := false) (ev_isN (d := .int i) (.var rfl)) fun _ => .or (x := false) (y := false) (ev_isB (b := true) (d := .int i) (.var rfl)) fun _ => ev_isB (b := false) (d := .int i) (.var rfl)) (fun z => nomatch z) fun _ => Rt.seq (ρ1 := args 3 [.int i, .int i]) (Nx.if (x := false) (ev_isi2 (n := "list") (m := "tuple") (d := .int i) (.var rfl) rfl) (fun z => nomatch z) fun _ => .nx) (Rt.now (Rt.if (x := true) (ev_isi (n := "int") (d := .int i) (.var rfl) rfl) (fun _ => .ret ?_ rfl) fun z => nomatch z)))
  have e := Ev.and (x := true) (y := true) (fa := fOp1 (gIsi "int") (fVar 0)) (fb := fAnd (fNot (fOp1 (gIsi "bool") (fVar 0))) (fOp2 gEq (fVar 0) (fVar 1))) (ρ := args 3 [.int i, .int i]) (ev_isi (n := "int") (d := .int i) (.var rfl) rfl) fun _ => Ev.and (x := true) (y := true) (.not (x := false) (ev_isi (n := "bool") (d := .int i) (.var rfl) rfl)) fun _ => by
    have z := ev_eqI (fa := fVar 0) (fb := fVar 1) (ρ := args 3 [.int i, .int i]) (i := i) (j := i) (.var rfl) (.var rfl)
    rw [decide_eq_true rfl] at z
    exact z
  exact e
theorem same_list (n : Nat) {ds : List D} (hl : ds.length ≤ 1000) (h : ∀ d ∈ ds, Fr (F_l_same n) [d, d] (.bool true)) : Fr (F_l_same (n + 1)) [.list ds, .list ds] (.bool true) := by
  refine fr_of (Rt.guard (x := false) (.or (x := false) (y := false) (ev_isN (d := .list ds) (.var rfl)) fun _ => .or (x := false) (y := false) (ev_isB (b := true) (d := .list ds) (.var rfl)) fun _ => ev_isB (b := false) (d := .list ds) (.var rfl)) (fun z => nomatch z) fun _ => Rt.now (Rt.if (x := true) (ev_isi2 (n := "list") (m := "tuple") (d := .list ds) (.var rfl) rfl) (fun _ => ?_) fun z => nomatch z))
  refine Rt.guard (x := false) (.or (x := false) (y := false) (.and (x := false) (y := true) (.not (x := true) (ev_isi (n := "list") (d := .list ds) (.var rfl) rfl)) fun z => nomatch z) fun _ => .and (x := true) (y := false) (.not (x := false) (ev_isi (n := "tuple") (d := .list ds) (.var rfl) rfl)) fun _ => ev_isi (n := "tuple") (d := .list ds) (.var rfl) rfl) (fun z => nomatch z) fun _ => .ret ?_ rfl
  refine Ev.and (x := true) (y := true) ?_ fun _ => ?_
  · have z := ev_eqI (fa := bndA (fCons (fVar 0) (fNil)) gLen) (fb := bndA (fCons (fVar 1) (fNil)) gLen) (ρ := args 3 [.list ds, .list ds]) (i := ds.length) (j := ds.length) (Ev.bndA (.cons (.var rfl) .nil) len_list) (Ev.bndA (.cons (.var rfl) .nil) len_list)
    rw [decide_eq_true rfl] at z
    exact z
  · have s : 1000 ≤ sizeLine := by decide
    have z := evl_gen (src := srcA (fCons (bndA (fCons (fVar 1) (fNil)) gLen) (fNil)) kRng1) (bind := bName 2) (ft := fNot (fCall 2 (F_l_same n) (fCons (fOp2 gIx (fVar 0) (fVar 2)) (fCons (fOp2 gIx (fVar 1) (fVar 2)) (fNil))))) (fe := fVar 2) (vs := [2]) (ρ := args 3 [.list ds, .list ds]) (fun i : Nat => .int (i : Nat)) (fun i : Nat => .int (i : Nat)) (fun _ => false) (List.range ds.length) (srcA_ok (.cons (Ev.bndA (.cons (.var rfl) .nil) len_list) .nil) (rng1 (Nat.lt_of_le_of_lt hl (by decide)))) rfl (by rw [List.length_range]; omega) fun i hi => by
      have hi' := List.mem_range.mp hi
      have e : gIx (.list ds) (.int (i : Nat)) = some (.pu ds[i]) := by
        show (atI ds (i : Int)).map W.pu = _
        rw [DL.atI_nat (List.getElem?_eq_getElem hi')]
        rfl
      exact ⟨_, rfl, .not (x := true) (.call (.cons (Ev.op2 (w := .pu ds[i]) (.var rfl) (.var rfl) e) (.cons (Ev.op2 (w := .pu ds[i]) (.var rfl) (.var rfl) e) .nil)) (h _ (List.getElem_mem hi')) rfl), fun z => (nomatch z), rfl⟩
    rw [List.filter_eq_nil_iff.mpr (fun _ _ => by simp)] at z
    exact Ev.op2 (w := .pu (.bool true)) z.ev (Ev.bndA (w := .frs []) .nil rfl) eq_nil

theorem same_tup (n : Nat) {ds : List D} (hl : ds.length ≤ 1000) (h : ∀ d ∈ ds, Fr (F_l_same n) [d, d] (.bool true)) : Fr (F_l_same (n + 1)) [.tuple ds, .tuple ds] (.bool true) := by
  refine fr_of (Rt.guard (x := false) (.or (x := false) (y := false) (ev_isN (d := .tuple ds) (.var rfl)) fun _ => .or (x := false) (y := false) (ev_isB (b := true) (d := .tuple ds) (.var rfl)) fun _ => ev_isB (b := false) (d := .tuple ds) (.var rfl)) (fun z => nomatch z) fun _ => Rt.now (Rt.if (x := true) (ev_isi2 (n := "list") (m := "tuple") (d := .tuple ds) (.var rfl) rfl) (fun _ => ?_) fun z => nomatch z))
  refine Rt.guard (x := false) (.or (x := false) (y := false) (.and (x := true) (y := false) (.not (x := false) (ev_isi (n := "list") (d := .tuple ds) (.var rfl) rfl)) fun _ => ev_isi (n := "list") (d := .tuple ds) (.var rfl) rfl) fun _ => .and (x := false) (y := true) (.not (x := true) (ev_isi (n := "tuple") (d := .tuple ds) (.var rfl) rfl)) fun z => nomatch z) (fun z => nomatch z) fun _ => .ret ?_ rfl
  have len_tup : gLen [.tuple ds] = some (.pu (.int ds.length)) := rfl
  refine Ev.and (x := true) (y := true) ?_ fun _ => ?_
  · have z := ev_eqI (fa := bndA (fCons (fVar 0) (fNil)) gLen) (fb := bndA (fCons (fVar 1) (fNil)) gLen) (ρ := args 3 [.tuple ds, .tuple ds]) (i := ds.length) (j := ds.length) (Ev.bndA (.cons (.var rfl) .nil) len_tup) (Ev.bndA (.cons (.var rfl) .nil) len_tup)
    rw [decide_eq_true rfl] at z
    exact z
  · have s : 1000 ≤ sizeLine := by decide
    have z := evl_gen (src := srcA (fCons (bndA (fCons (fVar 1) (fNil)) gLen) (fNil)) kRng1) (bind := bName 2) (ft := fNot (fCall 2 (F_l_same n) (fCons (fOp2 gIx (fVar 0) (fVar 2)) (fCons (fOp2 gIx (fVar 1) (fVar 2)) (fNil))))) (fe := fVar 2) (vs := [2]) (ρ := args 3 [.tuple ds, .tuple ds]) (fun i : Nat => .int (i : Nat)) (fun i : Nat => .int (i : Nat)) (fun _ => false) (List.range ds.length) (srcA_ok (.cons (Ev.bndA (.cons (.var rfl) .nil) len_tup) .nil) (rng1 (Nat.lt_of_le_of_lt hl (by decide)))) rfl (by rw [List.length_range]; omega) fun i hi => by
      have hi' := List.mem_range.mp hi
      have e : gIx (.tuple ds) (.int (i : Nat)) = some (.pu ds[i]) := by
        show (atI ds (i : Int)).map W.pu = _
        rw [DL.atI_nat (List.getElem?_eq_getElem hi')]
        rfl
      exact ⟨_, rfl, .not (x := true) (.call (.cons (Ev.op2 (w := .pu ds[i]) (.var rfl) (.var rfl) e) (.cons (Ev.op2 (w := .pu ds[i]) (.var rfl) (.var rfl) e) .nil)) (h _ (List.getElem_mem hi')) rfl), fun z => (nomatch z), rfl⟩
    rw [List.filter_eq_nil_iff.mpr (fun _ _ => by simp)] at z
    exact Ev.op2 (w := .pu (.bool true)) z.ev (Ev.bndA (w := .frs []) .nil rfl) eq_nil
theorem same_iL (n : Nat) {r : List Int} (hl : r.length ≤ 1000) : Fr (F_l_same (n + 2)) [iL r, iL r] (.bool true) := same_list (n + 1) (by rw [List.length_map]; exact hl) fun d hd => by
  obtain ⟨x, hx, rfl⟩ := List.mem_map.mp hd
  exact same_int n x
theorem same_fD (n : Nat) (p : Int × Int) : Fr (F_l_same (n + 2)) [fD p, fD p] (.bool true) := same_tup (n + 1) (by show 2 ≤ 1000; decide) fun d hd => by
  simp only [List.mem_cons, List.not_mem_nil, or_false] at hd
  rcases hd with rfl | rfl <;> exact same_int n _
end K84
/-! B9: refusals, texts, the law's own shares. -/
namespace K84
open PySem L2 PyProof.Rows DL SH
def words : List D := [.str "layout", .str "table", .str "bounds", .str "report", .str "part", .str "number", .str "names", .str "text", .str "lot", .str "weights", .str "lines", .str "margins", .str "edit", .str "unlike", .str "many"]
def kinds (n : Str) : List Bool := exNames.map fun m => decide (n = m)
section
variable {P : Program} {K : PySem.W.Frag} {mg : Str → Option Value} {ca : Str → Addr}
theorem isX_ok (X : Exs P K mg ca) {n m : Str} {d : D} (hn : n ∈ exR) (hm : m ∈ exNames) : gIsX K (exR.map ca) (ca m) (excD (ca n) d) = some (.pu (.bool (decide (n = m)))) := by
  show (if ca n ∈ exR.map ca then (PySem.W.kitOne K (.ref (ca n)) (.ref (ca m))).map fun b => W.pu (.bool b) else none) = _
  rw [if_pos (List.mem_map.mpr ⟨n, hn, rfl⟩), X.kit n hn m hm]
  rfl
theorem caught_ok (X : Exs P K mg ca) {n wd : Str} {d : D} {j : Nat} (hn : n ∈ exR) (h1 : (kinds n).count true = 1) (h2 : (kinds n).findIdx? id = some j) (h3 : words[j]? = some (.str wd)) : ∃ ρ', g_l_caughtT K ca [none, some (.pu (excD (ca n) d)), none, none, none] = .ret (.pu (.tuple [.str wd, d])) ρ' := by
  have k : ∀ {ρ : DL.Env} {m : Str}, ρ[1]? = some (some (.pu (excD (ca n) d))) → m ∈ exNames → Ev (fOp1 (gIsX K (exR.map ca) (ca m)) (fVar 1)) ρ (.bool (decide (n = m))) := fun h hm => Ev.op1 (w := .pu (.bool _)) (.var h) (isX_ok X hn hm)
  let B (m : Str) : D := .bool (decide (n = m))
  have r : Rt (g_l_caughtT K ca) [none, some (.pu (excD (ca n) d)), none, none, none] (.tuple [.str wd, d]) := by
    refine Rt.guard (x := false) (Ev.op2 (w := .pu (.bool false)) (.var rfl) .k rfl) (fun z => nomatch z) fun _ => ?_
    refine Rt.seq (Nx.put (Ev.bndA (k := gMkL) (w := .frs [B "InvalidLayout", B "InvalidTable", B "InvalidBounds", B "InvalidReport"]) (.cons (k rfl (by decide)) (.cons (k rfl (by decide)) (.cons (k rfl (by decide)) (.cons (k rfl (by decide)) .nil)))) rfl)) ?_
    refine Rt.seq (Nx.put (Ev.op2 (g := gAdd) (w := .frs [B "InvalidLayout", B "InvalidTable", B "InvalidBounds", B "InvalidReport", B "InvalidPart", B "InvalidNumber", B "InvalidNames", B "InvalidText"]) (.var rfl) (Ev.bndA (k := gMkL) (w := .frs [B "InvalidPart", B "InvalidNumber", B "InvalidNames", B "InvalidText"]) (.cons (k rfl (by decide)) (.cons (k rfl (by decide)) (.cons (k rfl (by decide)) (.cons (k rfl (by decide)) .nil)))) rfl) rfl)) ?_
    refine Rt.seq (Nx.put (Ev.op2 (g := gAdd) (w := .frs [B "InvalidLayout", B "InvalidTable", B "InvalidBounds", B "InvalidReport", B "InvalidPart", B "InvalidNumber", B "InvalidNames", B "InvalidText", B "InvalidLot", B "InvalidWeights", B "InvalidLines", B "InvalidMargins"]) (.var rfl) (Ev.bndA (k := gMkL) (w := .frs [B "InvalidLot", B "InvalidWeights", B "InvalidLines", B "InvalidMargins"]) (.cons (k rfl (by decide)) (.cons (k rfl (by decide)) (.cons (k rfl (by decide)) (.cons (k rfl (by decide)) .nil)))) rfl) rfl)) ?_
    refine Rt.seq (Nx.put (Ev.op2 (g := gAdd) (w := .frs ((kinds n).map .bool)) (.var rfl) (Ev.bndA (k := gMkL) (w := .frs [B "InvalidEdit", B "Unlike", B "TooMany"]) (.cons (k rfl (by decide)) (.cons (k rfl (by decide)) (.cons (k rfl (by decide)) .nil))) rfl) rfl)) ?_
    refine Rt.seq (Nx.put (Ev.bndA (k := gMkL) (w := .frs words) (.cons .k (.cons .k (.cons .k (.cons .k (.cons .k (.cons .k (.cons .k (.cons .k (.cons .k (.cons .k (.cons .k (.cons .k (.cons .k (.cons .k (.cons .k .nil))))))))))))))) rfl)) ?_
    have c : Ev (fOp2 gEq (fOp1 gCntT (fVar 3)) (fC (.int 1))) [none, some (.pu (excD (ca n) d)), none, some (.pu (.list ((kinds n).map .bool))), some (.pu (.list words))] (.bool true) := by
      have z := ev_eqI (ρ := [none, some (.pu (excD (ca n) d)), none, some (.pu (.list ((kinds n).map .bool))), some (.pu (.list words))]) (fa := fOp1 gCntT (fVar 3)) (fb := fC (.int 1)) (i := ((kinds n).count true : Nat)) (j := 1) (Ev.op1 (w := .pu (.int ((kinds n).count true : Nat))) (.var rfl) rfl) .k
      rw [h1] at z
      exact z
    refine .ret (.if c (fun _ => ?_) fun z => nomatch z) rfl
    have e1 : gIdxT (.list ((kinds n).map .bool)) = some (.pu (.int (j : Nat))) := by
      show ((some (kinds n)).bind fun bs => (bs.findIdx? id).map fun j => W.pu (.int j)) = _
      rw [Option.bind_some, h2]
      rfl
    have e2 : gIx (.list words) (.int (j : Nat)) = some (.pu (.str wd)) := by
      show (atI words (j : Int)).map W.pu = _
      rw [DL.atI_nat h3]
      rfl
    have e3 : gVal (exR.map ca) (excD (ca n) d) = some (.pu d) := by
      show (if ca n ∈ exR.map ca then some (W.pu d) else none) = _
      rw [if_pos (List.mem_map.mpr ⟨n, hn, rfl⟩)]
    exact Ev.bndA (k := gMkT) (w := .pu (.tuple [.str wd, d])) (.cons (Ev.op2 (w := .pu (.str wd)) (.var rfl) (Ev.op1 (w := .pu (.int (j : Nat))) (.var rfl) e1) e2) (.cons (Ev.op1 (w := .pu d) (.var rfl) e3) .nil)) rfl
  obtain ⟨w, ρ', r1, r2, _⟩ := r
  cases w with
  | pu t => exact ⟨ρ', by rw [r1]; rw [show t = _ from r2]⟩
  | frs t => cases r2
theorem alike_ok {d : D} (h : Rpr d) : Fr F_l_alike [d, d] (.bool true) := by
  obtain ⟨s, hs⟩ := h
  refine fr_of (.ret ?_ rfl)
  exact Ev.op2 (w := .pu (.bool true)) (Ev.bndA (w := .pu (.str s)) (.cons (.var rfl) .nil) hs) (Ev.bndA (w := .pu (.str s)) (.cons (.var rfl) .nil) hs) (by
    show some (W.pu (.bool (decide (s = s)))) = _
    rw [decide_eq_true rfl])
theorem refOk_of (X : Exs P K mg ca) {n wd : Str} {d : D} {j : Nat} (hn : n ∈ exR) (h1 : (kinds n).count true = 1) (h2 : (kinds n).findIdx? id = some j) (h3 : words[j]? = some (.str wd)) (h : Rpr d) : RefOk K ca n wd d := by
  refine ⟨hn, caught_ok X hn h1 h2 h3, ?_⟩
  have r : Rt g_l_refusedT [none, some (.pu (.str wd)), some (.pu d), some (.pu (.tuple [.str wd, d]))] (.bool true) := by
    refine .ret (.and (x := true) (y := true) ?_ fun _ => .call (.cons (Ev.op2 (w := .pu d) (.var rfl) .k rfl) (.cons (.var rfl) .nil)) (alike_ok h) rfl) rfl
    exact Ev.op2 (w := .pu (.bool true)) (Ev.op2 (w := .pu (.str wd)) (.var rfl) .k rfl) (.var rfl) (by
      show some (W.pu (.bool (decide (wd = wd)))) = _
      rw [decide_eq_true rfl])
  obtain ⟨w, ρ', r1, r2, _⟩ := r
  cases w with
  | pu t => exact ⟨ρ', by rw [r1]; rw [show t = _ from r2]⟩
  | frs t => cases r2
theorem ref_weights (X : Exs P K mg ca) {d : D} (h : Rpr d) : RefOk K ca "InvalidWeights" "weights" d := refOk_of X (j := 9) (by decide) (by decide +kernel) (by decide +kernel) rfl h
theorem ref_number (X : Exs P K mg ca) {d : D} (h : Rpr d) : RefOk K ca "InvalidNumber" "number" d := refOk_of X (j := 5) (by decide) (by decide +kernel) (by decide +kernel) rfl h
theorem ref_table (X : Exs P K mg ca) {d : D} (h : Rpr d) : RefOk K ca "InvalidTable" "table" d := refOk_of X (j := 1) (by decide) (by decide +kernel) (by decide +kernel) rfl h
theorem fRefd_ok {ρ : DL.Env} {i m : Nat} {n wd : Str} {fb : DL.Env → RE} {d : D} (h : ρ[i]? = some (some (.pub m d))) (h1 : fb (pubE ρ) = .err (ca n) d) (h2 : RefOk K ca n wd d) : Ev (fRefd K ca n wd fb i) ρ (.bool true) := by
  unfold Ev fRefd
  rw [h]
  dsimp only
  rw [if_pos ⟨h1, h2⟩]
  exact ⟨_, rfl, rfl⟩
theorem fAllRefd_ok {K : PySem.W.Frag} {ρ : DL.Env} {i m : Nat} {n wd : Str} {fbs : List (DL.Env → RE)} {d : D} (h : ρ[i]? = some (some (.pub m d))) (h1 : ∀ fb ∈ fbs, fb (pubE ρ) = .err (ca n) d) (h2 : RefOk K ca n wd d) (h3 : fbs.length ≤ sizeLine) : Ev (fAllRefd K ca n wd fbs i) ρ (.bool true) := by
  unfold Ev fAllRefd
  rw [h]
  dsimp only
  rw [if_pos ⟨h1, h2, h3⟩]
  exact ⟨_, rfl, rfl⟩
end
section
variable {P : Program} {K : PySem.W.Frag} {mg : Str → Option Value} {ca : Str → Addr}
end
/-! texts -/
structure Sb (W : Nat) (d : D) : Prop where
  lay : d.canLay0 = true
  sh : d.showable = true
  shrt : d.intsShort 50 = true
  dep : d.depth ≤ 10
  wt : d.weight ≤ W
theorem Sb.int {n : Int} (h0 : -1 ≤ n) (h1 : n < 10 ^ 45) : Sb 150 (.int n) := by
  by_cases e1 : n = -1
  · subst e1
    exact ⟨rfl, by decide, by decide +kernel, by decide, by decide⟩
  have h0 : 0 ≤ n := by omega
  have lg : n.natAbs.log2 < 150 := by
    by_cases e : n.natAbs = 0
    · rw [e]; decide
    · refine (Nat.log2_lt e).mpr (Nat.lt_trans (show n.natAbs < 10 ^ 45 by omega) (by decide))
  refine ⟨rfl, ?_, ?_, by simp [PyData.depth], ?_⟩
  · exact decide_eq_true (by omega)
  · refine decide_eq_true ?_
    have := toString_length_le (v := n) h0 (k := 45) (by decide) h1
    simp only [PyData.shown]
    exact Nat.le_trans this (by decide)
  · simp only [PyData.weight]
    split
    · exact Nat.zero_le _
    · omega
theorem Sb.rpr {d : D} {W : Nat} (h : Sb W d) (hW : W ≤ 100000) : Rpr d := by
  have z := PyData.shown_le 50 (by decide) d (PyData.leavesShort_of_canLay0 50 d h.lay h.shrt)
  have sl : 6000000 ≤ sizeLine := by decide
  have hw := h.wt
  have hd := h.dep
  have ok : (d.canLay0 && d.showable && decide (d.shown.length ≤ sizeLine) && decide (d.depth ≤ 60)) = true := by
    rw [h.lay, h.sh, decide_eq_true (show d.shown.length ≤ sizeLine by omega), decide_eq_true (show d.depth ≤ 60 by omega)]; rfl
  refine ⟨d.shown, ?_⟩
  unfold gRepr
  split
  · rename_i q
    cases q
    cases h.lay
  · rename_i q
    cases q
    rw [if_pos ok]
  · rename_i q1 q2
    exact absurd rfl (q2 d)
theorem sb_ints : ∀ {ns : List Int}, (∀ x ∈ ns, -1 ≤ x ∧ x < 10 ^ 45) → PyData.canLayAll0 (isD ns) = true ∧ PyData.showableAll (isD ns) = true ∧ PyData.intsShortAll 50 (isD ns) = true ∧ PyData.depthAll (isD ns) ≤ 1 ∧ PyData.weightAll (isD ns) ≤ 151 * ns.length
  | [], _ => ⟨rfl, rfl, rfl, by simp [isD, PyData.depthAll], by simp [isD, PyData.weightAll]⟩
  | n :: ns, h => by
    obtain ⟨a, b, c, d, e⟩ := sb_ints (ns := ns) fun y hy => h y (List.mem_cons_of_mem _ hy)
    obtain ⟨h1, h2⟩ := h n List.mem_cons_self
    have S := Sb.int h1 h2
    have w := S.wt
    unfold isD at *
    rw [List.map_cons, List.length_cons]
    refine ⟨?_, ?_, ?_, ?_, ?_⟩
    · simp only [PyData.canLayAll0, S.lay, a, Bool.and_self]
    · simp only [PyData.showableAll, S.sh, b, Bool.and_self]
    · simp only [PyData.intsShortAll, S.shrt, c, Bool.and_self]
    · simp only [PyData.depthAll, PyData.depth]; omega
    · simp only [PyData.weightAll]; omega
theorem rpr_iL {ns : List Int} (h : ∀ x ∈ ns, -1 ≤ x ∧ x < 10 ^ 45) (hl : ns.length ≤ 100) : Rpr (iL ns) := by
  obtain ⟨a, b, c, d, e⟩ := sb_ints h
  unfold isD at a b c d e
  refine Sb.rpr (W := 15100) ⟨by simpa only [PyData.canLay0] using a, by simpa only [PyData.showable] using b, by simpa only [PyData.intsShort] using c, by simp only [PyData.depth]; omega, by simp only [PyData.weight]; omega⟩ (by decide)
theorem rpr_tup {ns : List Int} (h : ∀ x ∈ ns, -1 ≤ x ∧ x < 10 ^ 45) (hl : ns.length ≤ 100) : Rpr (.tuple (isD ns)) := by
  obtain ⟨a, b, c, d, e⟩ := sb_ints h
  refine Sb.rpr (W := 15100) ⟨by simpa only [PyData.canLay0] using a, by simpa only [PyData.showable] using b, by simpa only [PyData.intsShort] using c, by simp only [PyData.depth]; omega, by simp only [PyData.weight]; omega⟩ (by decide)
theorem rpr_nones : ∀ n : Nat, n ≤ 30 → Rpr (.list (List.replicate n .none)) := by
  have h : ∀ n : Fin 31, (gRepr [.list (List.replicate n.val .none)]).isSome = true := by decide +kernel
  exact fun n hn => Rpr.of (h ⟨n, by omega⟩)
section
variable {ws : List Int} {N : Int}
theorem vo_iL {ns : List Int} (hl : ns.length ≤ 1000) : VO (iL ns) := ⟨rfl, fun ds e => by
  cases e
  refine ⟨by rw [List.length_map]; exact hl, fun d hd => ?_⟩
  obtain ⟨x, _, rfl⟩ := List.mem_map.mp hd
  exact ⟨rfl, rfl, by simp [PyData.depth]⟩⟩
/-! the law's own -/
theorem l_shares (V : Vd ws N) : FrL F_l_shares [iL ws, .int N] (isD (made ws N)) := by
  have hl : (sortK (rss ws N)).length = ws.length := by rw [sortK_length, rss_length]
  have lens : ∀ {f : Int → Int}, (ws.map f).length = ws.length := fun {f} => List.length_map _
  have z1 := evl_map (src := srcE (fVar 0) itemsL) (bind := bName 5) (fe := fOp2 gDiv (fOp2 gMul (fVar 5) (fVar 1)) (fVar 2)) (vs := [5]) (ρ := [some (.pu (iL ws)), some (.pu (.int N)), some (.pu (.int ws.sum)), none, none, none, none, none, none, none]) (fun w : Int => .int w) (fun w => .int (fl ws.sum N w)) ws (src_list (.var rfl)) rfl V.len fun w hw =>
    ⟨[some (.pu (iL ws)), some (.pu (.int N)), some (.pu (.int ws.sum)), none, none, some (.pu (.int w)), none, none, none, none], rfl, ev_divB (ev_mulB (.var rfl) (.var rfl) (V.gw hw) V.gN) (.var rfl) V.wt.ps V.gS, rfl⟩
  have z2 := evl_map (src := srcE (fVar 0) itemsL) (bind := bName 5) (fe := fOp2 gMod (bndA (fCons (fOp2 gMul (fVar 5) (fVar 1)) (fNil)) gInt1) (fVar 2)) (vs := [5]) (ρ := [some (.pu (iL ws)), some (.pu (.int N)), some (.pu (.int ws.sum)), none, none, none, none, none, none, none]) (fun w : Int => .int w) (fun w => .int (rs ws.sum N w)) ws (src_list (.var rfl)) rfl V.len fun w hw =>
    ⟨[some (.pu (iL ws)), some (.pu (.int N)), some (.pu (.int ws.sum)), none, none, some (.pu (.int w)), none, none, none, none], rfl, ev_modB (ev_int (ev_mulB (.var rfl) (.var rfl) (V.gw hw) V.gN)) (.var rfl) V.wt.ps, rfl⟩
  have e1 : (ws.map fun w => PyData.int (fl ws.sum N w)) = isD (fls ws N) := by unfold fls isD; rw [List.map_map]; rfl
  have e2 : (ws.map fun w => PyData.int (rs ws.sum N w)) = isD (rss ws N) := by unfold rss isD; rw [List.map_map]; rfl
  rw [e1] at z1
  rw [e2] at z2
  have tp := ev_mkT (EvL.cons z1.ev (EvL.cons z2.ev .nil)) (by show 2 ≤ 1000; decide)
  let ρ4 : DL.Env := [some (.pu (iL ws)), some (.pu (.int N)), some (.pu (.int ws.sum)), some (.pu (iL (fls ws N))), some (.pu (iL (rss ws N))), none, none, none, none, none]
  have so := sortK_ok (m := 0) (ns := rss ws N) (k := 4) (ρ := ρ4) (fs := fCons (bndA (fCons (fVar 0) (fNil)) gLen) (fNil)) (.cons (by
    have z := ev_lenI (fa := fVar 0) (ns := ws) (ρ := ρ4) (.var rfl)
    rw [← rss_length (ws := ws) (N := N)] at z
    exact z) .nil) (by rw [rss_length]; exact Nat.le_trans V.wt.l30 (by decide)) rfl
  have cu : Ev (fOp2 gCutH (fVar 6) (fOp2 gSub (fVar 1) (bndA (fCons (fVar 3) (fNil)) gSum))) (ρ4.set 6 (some (.pu (.list (nL (sortK (rss ws N))))))) (.list (nL (rai ws N))) := by
    have es : Ev (fOp2 gSub (fVar 1) (bndA (fCons (fVar 3) (fNil)) gSum)) (ρ4.set 6 (some (.pu (.list (nL (sortK (rss ws N))))))) (.int ((exN ws N).toNat : Nat)) := by
      rw [← exN_nat V]
      exact ev_subI (.var rfl) (ev_sum (ns := fls ws N) (.var rfl))
    refine (Evl.op2 (a := .list (nL (sortK (rss ws N)))) (.var rfl) es ?_).ev
    rw [cutH_take (by rw [List.length_map, hl]; exact exN_toNat V.wt)]
    unfold rai nL
    rw [List.map_take]
  have z := evl_map (src := srcA (fCons (fVar 3) (fNil)) kEnum) (bind := bTup [bName 8, bName 9]) (fe := fOp2 gAdd (fVar 9) (bndA (fCons (fOp2 gIn (fVar 8) (fVar 7)) (fNil)) gInt1)) (vs := [8, 9]) (ρ := [some (.pu (iL ws)), some (.pu (.int N)), some (.pu (.int ws.sum)), some (.pu (iL (fls ws N))), some (.pu (iL (rss ws N))), none, some (.pu (.list (nL (sortK (rss ws N))))), some (.pu (.list (nL (rai ws N)))), none, none]) (fun k : Nat => .tuple [.int (k : Nat), .int ((fls ws N).getD k 0)]) (fun k => .int (sh1 ws N k)) (List.range ws.length)
    (src_enumN (.var rfl) fls_length) rfl (by rw [List.length_range]; exact V.len) fun k hk => by
      refine ⟨[some (.pu (iL ws)), some (.pu (.int N)), some (.pu (.int ws.sum)), some (.pu (iL (fls ws N))), some (.pu (iL (rss ws N))), none, some (.pu (.list (nL (sortK (rss ws N))))), some (.pu (.list (nL (rai ws N)))), some (.pu (.int (k : Nat))), some (.pu (.int ((fls ws N).getD k 0)))], rfl, ?_, rfl⟩
      have e : sh1 ws N k = (fls ws N).getD k 0 + if decide (k ∈ rai ws N) = true then 1 else 0 := by
        unfold sh1 fls
        rw [gd_map (List.mem_range.mp hk)]
        simp only [decide_eq_true_eq]
      rw [e]
      exact ev_addI (.var rfl) (ev_intB (ev_in (.var rfl) (.var rfl)))
  have em : ((List.range ws.length).map fun k => PyData.int (sh1 ws N k)) = isD (made ws N) := by unfold made isD; rw [List.map_map]; rfl
  rw [em] at z
  exact frL_of (RtL.seq (Nx.put (ev_sum (.var rfl))) (RtL.seq (ρ1 := ρ4) (Nx.bind tp rfl) (RtL.seq (Nx.put so.ev) (RtL.seq (Nx.put cu) (.ret z rfl)))))
theorem l_missed (V : Vd ws N) {vs : List Int} (hl : vs.length = ws.length) (h0 : ∀ x ∈ vs, 0 ≤ x) (hs : vs.sum = N) : Fr F_l_missed [iL ws, .int N, iL vs] (fD (lw (mis ws N vs) ws.sum)) := by
  have lz := evl_map (src := srcA (fCons (fVar 2) (fNil)) kEnum) (bind := bTup [bName 4, bName 5]) (fe := bndA (fCons (fOp2 gSub (fOp2 gMul (fVar 5) (fVar 3)) (fOp2 gMul (fOp2 gIx (fVar 0) (fVar 4)) (fVar 1))) (fNil)) gAbs) (vs := [4, 5]) (ρ := [some (.pu (iL ws)), some (.pu (.int N)), some (.pu (iL vs)), some (.pu (.int ws.sum)), none, none])
    (fun k : Nat => .tuple [.int (k : Nat), .int (vs.getD k 0)]) (fun k : Nat => .int (mi ws N vs k)) (List.range ws.length) (src_enumN (.var rfl) hl) rfl (by rw [List.length_range]; exact V.len) fun k hk =>
      ⟨[some (.pu (iL ws)), some (.pu (.int N)), some (.pu (iL vs)), some (.pu (.int ws.sum)), some (.pu (.int (k : Nat))), some (.pu (.int (vs.getD k 0)))], rfl, ev_mi V hl h0 hs (List.mem_range.mp hk) (.var rfl) (.var rfl) (.var rfl) (.var rfl) (.var rfl), rfl⟩
  have e : ((List.range ws.length).map fun k : Nat => PyData.int (mi ws N vs k)) = isD (miL ws N vs) := by unfold miL isD; rw [List.map_map]; rfl
  rw [e] at lz
  have nn : 0 ≤ mis ws N vs := sum_nonneg fun x hx => by
    obtain ⟨k, hk, rfl⟩ := List.mem_map.mp hx
    exact ab_nonneg _
  have sm := ev_sum lz.ev
  rw [miL_sum] at sm
  exact fr_of (Rt.seq (Nx.put (ev_sum (.var rfl))) (.ret (.call (.cons sm (.cons (.var rfl) .nil)) (l_low nn V.wt.ps (Nat.lt_of_lt_of_le V.big (Nat.pow_le_pow_right (by decide) (by decide)))) rfl) rfl))
theorem l_are_shares (V : Vd ws N) {v : D} (h : VO v) : Fr F_l_are_shares [iL ws, .int N, v] (.bool (sB ws N v)) := by
  by_cases hl : ∃ ds, v = .list ds
  · obtain ⟨ds, rfl⟩ := hl
    obtain ⟨i1, i2⟩ := h.it ds rfl
    have e1 := ev_neI (fa := bndA (fCons (fVar 2) (fNil)) gLen) (fb := bndA (fCons (fVar 0) (fNil)) gLen) (ρ := args 6 [iL ws, .int N, .list ds]) (ev_len (.var rfl)) (ev_lenI (ns := ws) (.var rfl))
    have e2 := (ev_isNil (lay_filter (p := fun d => !isCt d) i2) (lc_cnt (fun d h => l_is_count h) (ds := ds) (fa := fVar 2) (j := 3) (ρ := args 6 [iL ws, .int N, .list ds]) (.var rfl) (fun d hd => (i2 d hd).1) i1 rfl)).2
    have e3 : (!(!decide ((ds.length : Int) = (ws.length : Nat)) || !(ds.filter fun d => !isCt d).isEmpty)) = true → Ev (fOp2 gNe (bndA (fCons (fVar 2) (fNil)) gSum) (fVar 1)) (args 6 [iL ws, .int N, .list ds]) (.bool (!intsE ds fun ns => decide (ns.sum = N))) := fun z => by
      simp only [Bool.not_eq_true', Bool.or_eq_false_iff, Bool.not_eq_false', List.isEmpty_iff] at z
      obtain ⟨ns, rfl, hn⟩ := ct_ints z.2
      rw [intsE_map]
      exact ev_neI (ev_sum (.var rfl)) (.var rfl)
    have gd : Ev (fOr (fNot (fOp1 (gIsi "list") (fVar 2))) (fOr (fOp2 gNe (bndA (fCons (fVar 2) (fNil)) gLen) (bndA (fCons (fVar 0) (fNil)) gLen)) (fOr (fOp2 gNe (fLc (srcE (fVar 2) itemsL) (bName 3) (fNot (fCall 1 F_l_is_count (fCons (fVar 3) (fNil)))) (fVar 3) [3]) (bndA (fNil) gMkL)) (fOp2 gNe (bndA (fCons (fVar 2) (fNil)) gSum) (fVar 1))))) (args 6 [iL ws, .int N, .list ds]) (.bool (!cB ws.length N (.list ds))) := by
      have e : (!cB ws.length N (.list ds)) = (false || (!decide ((ds.length : Int) = (ws.length : Nat)) || ((!(ds.filter fun d => !isCt d).isEmpty) || !intsE ds fun ns => decide (ns.sum = N)))) := by
        rw [cB_list]
        cases decide ((ds.length : Int) = (ws.length : Nat)) <;> cases (ds.filter fun d => !isCt d).isEmpty <;> cases (intsE ds fun ns => decide (ns.sum = N)) <;> rfl
      rw [e]
      exact Ev.or (.not (x := true) (ev_isi (n := "list") (d := .list ds) (.var rfl) h.dok)) fun _ => .or e1 fun q1 => .or e2 fun q2 => e3 (by rw [q1, q2]; rfl)
    refine fr_of (Rt.guard gd (fun z => ?_) fun z => ?_)
    · have z : cB ws.length N (.list ds) = false := by simpa using z
      unfold sB
      rw [z]
      exact .ret .k rfl
    · have z : cB ws.length N (.list ds) = true := by simpa using z
      obtain ⟨vs, e, l1, l2, l3⟩ := cB_true z
      cases e
      have lz := evl_gen (src := srcA (fCons (fVar 2) (fNil)) kEnum) (bind := bTup [bName 5, bName 3]) (ft := fOp2 gGe (bndA (fCons (fOp2 gSub (fOp2 gMul (fVar 3) (fVar 4)) (fOp2 gMul (fOp2 gIx (fVar 0) (fVar 5)) (fVar 1))) (fNil)) gAbs) (fVar 4)) (fe := fVar 5) (vs := [5, 3]) (ρ := [some (.pu (iL ws)), some (.pu (.int N)), some (.pu (iL vs)), none, some (.pu (.int ws.sum)), none])
        (fun k : Nat => .tuple [.int (k : Nat), .int (vs.getD k 0)]) (fun k : Nat => .int (k : Nat)) (fun k => decide (ws.sum ≤ ab (vs.getD k 0 * ws.sum - ws.getD k 0 * N))) (List.range ws.length) (src_enumN (.var rfl) l1) rfl (by rw [List.length_range]; exact V.len) fun k hk =>
          ⟨[some (.pu (iL ws)), some (.pu (.int N)), some (.pu (iL vs)), some (.pu (.int (vs.getD k 0))), some (.pu (.int ws.sum)), some (.pu (.int (k : Nat)))], rfl, ev_ge (ev_mi V l1 l2 l3 (List.mem_range.mp hk) (.var rfl) (.var rfl) (.var rfl) (.var rfl) (.var rfl)) (.var rfl), fun _ => .var rfl, rfl⟩
      have fin := (ev_isNil (lay_nats _) lz.ev).1
      have e2 : sB ws N (iL vs) = (nL ((List.range ws.length).filter fun k => decide (ws.sum ≤ ab (vs.getD k 0 * ws.sum - ws.getD k 0 * N)))).isEmpty := by
        unfold sB
        rw [z]
        show (true && intsE (isD vs) (okL ws N)) = _
        rw [intsE_map, Bool.true_and]
        exact filter_int
      rw [e2]
      exact Rt.seq (Nx.put (ev_sum (.var rfl))) (.ret fin rfl)
  · have nl : ∀ ds, v ≠ .list ds := fun ds e => hl ⟨ds, e⟩
    have e : sB ws N v = false := by
      unfold sB
      cases v with
      | list ds => exact absurd rfl (nl ds)
      | _ => rfl
    rw [e]
    have z := ev_isi (n := "list") (d := v) (fa := fVar 2) (ρ := args 6 [iL ws, .int N, v]) (.var rfl) h.dok
    rw [isA_list nl] at z
    exact fr_of (Rt.guard (x := true) (Ev.or (x := true) (y := true) (.not (x := false) z) fun z => nomatch z) (fun _ => .ret .k rfl) fun z => nomatch z)
end
end K84
/-! B10: helpers for _law_weights_right. -/
namespace K84
open PySem L2 PyProof.Rows DL SH
/-- returns True, the generator gone on -/
def Pw (M : Nat) (g : DL.Env → RS) (ρ : DL.Env) : Prop := ∃ w ρ' ds2, g ρ = .ret w ρ' ∧ w.d = .bool true ∧ colE ρ' = [(1, ds2)] ∧ Gen M ds2
theorem Pw.seq {M : Nat} {f g : DL.Env → RS} {ρ ρ1 : DL.Env} (h : Nx f ρ ρ1) (k : Pw M g ρ1) : Pw M (sSeq f g) ρ := by
  obtain ⟨w, ρ', ds2, h1, h2, h3, h4⟩ := k
  exact ⟨w, ρ', ds2, by rw [seq_nx h]; exact h1, h2, h3, h4⟩
theorem Nx.app {ρ : DL.Env} {fa : DL.Env → RE} {i t : Nat} {ds : List D} {d : D} (h : ρ[i]? = some (some (.own t ds))) (ha : Ev fa ρ d) (hl : ds.length < sizeLine) : Nx (sApp i fa) ρ (ρ.set i (some (.own t (ds ++ [d])))) := by
  obtain ⟨w, h1, rfl⟩ := ha
  unfold Nx sApp
  rw [h]
  dsimp only
  unfold sE
  rw [h1]
  dsimp only
  rw [h]
  dsimp only
  rw [if_pos hl]
theorem nx_parS {ρ ρ1 ρ2 : DL.Env} {fa fb : DL.Env → RE} {a : D} {b : Int} {i j : Nat} (ha : EvS fa ρ ρ1 a) (hb : EvS fb ρ1 ρ2 (.int b)) : Nx (sPar i j fa fb) ρ ((ρ2.set i (some (.pu a))).set j (some (.pu (.int b)))) := by
  obtain ⟨w, h1, rfl⟩ := ha
  obtain ⟨u, h2, e⟩ := hb
  cases u with
  | pu d =>
    have e : d = .int b := e
    subst e
    unfold Nx sPar sE
    rw [h1]
    dsimp only
    rw [h2]
  | frs ds => cases e
/-- [x for x in xs if not is_count(x)], the target's slot known or not -/
theorem lc_cntS {F : List Sl → RF} (hF : ∀ d, dOk d = true → Fr F [d] (.bool (isCt d))) {ρ : DL.Env} {fa : DL.Env → RE} {j : Nat} {ds : List D} (ha : Ev fa ρ (.list ds)) (hd : ∀ d ∈ ds, dOk d = true) (hl : ds.length ≤ 1000) (hj : j < ρ.length) : EvS (fLc (srcE fa itemsL) (bName j) (fNot (fCall 1 F (fCons (fVar j) (fNil)))) (fVar j) [j]) ρ (ρ.set j none) (.list (ds.filter fun d => !isCt d)) := by
  have z := lc_cnt hF (ρ := ρ.set j none) (fa := fC (.list ds)) (j := j) (ds := ds) .k hd hl (List.getElem?_set_self hj)
  obtain ⟨w, h1, h2⟩ := z
  refine ⟨w, ?_, h2⟩
  unfold fLc at h1 ⊢
  rw [src_list .k] at h1
  rw [src_list ha]
  dsimp only at h1 ⊢
  rw [show wipeE (ρ.set j none) [j] = ρ.set j none from List.set_set ..] at h1
  exact h1
theorem EvS.and {ρ ρ1 ρ2 : DL.Env} {fa fb : DL.Env → RE} {y : Bool} (ha : EvS fa ρ ρ1 (.bool true)) (hb : EvS fb ρ1 ρ2 (.bool y)) : EvS (fAnd fa fb) ρ ρ2 (.bool y) := ha.both (fun _ => hb) fun z => nomatch z
theorem EvS.andF {ρ ρ1 : DL.Env} {fa fb : DL.Env → RE} (ha : EvS fa ρ ρ1 (.bool false)) : EvS (fAnd fa fb) ρ ρ1 (.bool false) := ha.both (fun z => nomatch z) fun _ => ⟨.pu (.bool false), rfl, rfl⟩
/-- told = [..]; if c: ..; told[0].append(k) -/
theorem told_nx {ρ : DL.Env} {f1 fc : DL.Env → RE} {fr : DL.Env → RL} {gA : DL.Env → RS} {i : Nat} {ds1 ds : List D} (h1 : Evl f1 ρ ds1) (h2 : EvL fr ρ ds) (l1 : ds.length < 1000) (l2 : ds1.length < 1000) (l3 : i < ρ.length) (h3 : Ev fc (ρ.set i (some (.pu (.list (.list ds1 :: ds))))) (.bool false)) :
    Nx (sTold i f1 fr fc gA) ρ (keepE i ρ (ρ.set i (some (.pu (.list (.list ds1 :: ds)))))) := by
  obtain ⟨w, q1, q2⟩ := h3
  unfold Nx sTold
  rw [h1]
  dsimp only
  rw [h2]
  dsimp only
  rw [if_pos ⟨l1, l2, l3⟩, q1]
  dsimp only
  rw [q2]
theorem lw_mono {a b W : Int} (hW : 0 < W) (h : a ≤ b) : (lw a W).1 * (lw b W).2 ≤ (lw b W).1 * (lw a W).2 := by
  obtain ⟨a1, a2⟩ := lw_mul (a := a) (b := W)
  obtain ⟨b1, b2⟩ := lw_mul (a := b) (b := W)
  have g1 := gc_pos (a := a) hW
  have g2 := gc_pos (a := b) hW
  have gp : 0 < gc a W * gc b W := Int.mul_pos g1 g2
  generalize gc a W = g at *
  generalize gc b W = k at *
  generalize (lw a W).1 = p at *
  generalize (lw a W).2 = q at *
  generalize (lw b W).1 = c at *
  generalize (lw b W).2 = d at *
  refine Int.le_of_mul_le_mul_left (a := g * k) ?_ gp
  have s1 : g * k * (p * d) = a * W := by
    have : g * k * (p * d) = (g * p) * (k * d) := by rw [Int.mul_assoc, Int.mul_assoc]; congr 1; rw [← Int.mul_assoc, ← Int.mul_assoc, Int.mul_comm k p]
    rw [this, ← a1, ← b2]
  have s2 : g * k * (c * q) = b * W := by
    have : g * k * (c * q) = (k * c) * (g * q) := by rw [Int.mul_comm g k, Int.mul_assoc, Int.mul_assoc]; congr 1; rw [← Int.mul_assoc, ← Int.mul_assoc, Int.mul_comm g c]
    rw [this, ← b1, ← a2]
  rw [s1, s2]
  exact Int.mul_le_mul_of_nonneg_right h (Int.le_of_lt hW)
/-! values -/
structure GV (v : D) : Prop where
  vo : VO v
  rp : Rpr v
section
variable {ws : List Int} {N : Int} {ca : Str → Addr}
theorem gv_iL {ns : List Int} (h : ∀ x ∈ ns, -1 ≤ x ∧ x < 10 ^ 45) (hl : ns.length ≤ 100) : GV (iL ns) := ⟨vo_iL (by omega), rpr_iL h hl⟩
theorem nr_range (V : Vd ws N) : ∀ x ∈ nr ws N, 0 ≤ x ∧ x ≤ N := fun x hx => by
  obtain ⟨w, hw, rfl⟩ := List.mem_map.mp hx
  have p := V.wt.ps
  have w0 := V.wt.nn w hw
  have w1 := le_sum V.wt.nn w hw
  have a : 0 ≤ 2 * w * N := Int.mul_nonneg (by omega) V.n0
  refine ⟨Int.ediv_nonneg (by omega) (by omega), ?_⟩
  have b : w * N ≤ ws.sum * N := Int.mul_le_mul_of_nonneg_right w1 V.n0
  have e : 2 * w * N = 2 * (w * N) := Int.mul_assoc 2 w N
  have e2 : (N + 1) * (2 * ws.sum) = 2 * (ws.sum * N) + 2 * ws.sum := by
    rw [Int.add_mul, Int.one_mul, Int.mul_left_comm N 2, Int.mul_comm N]
  have := Int.ediv_lt_of_lt_mul (a := 2 * w * N + ws.sum) (b := N + 1) (c := 2 * ws.sum) (by omega) (by rw [e2]; omega)
  omega
theorem small45 {x : Int} (h : x ≤ 2000000) : x < 10 ^ 45 := Int.lt_of_le_of_lt h (by decide)
def V0 (due pl : List Int) : List D := [iL due, iL due.reverse, iL (due.drop 1), iL (due ++ [0]), .tuple (isD due), iL pl, .none, .int 7, .dict [], .list (List.replicate due.length .none)]
theorem vo_flat {v : D} (h : dOk v = true) (hn : ∀ ds, v ≠ .list ds) : VO v := ⟨h, fun ds e => absurd e (hn ds)⟩
theorem V0_ok {due pl : List Int} (hd : ∀ x ∈ due, 0 ≤ x ∧ x ≤ 1000001) (hp : ∀ x ∈ pl, 0 ≤ x ∧ x ≤ 1000001) (l1 : due.length ≤ 30) (l2 : pl.length ≤ 30) : ∀ v ∈ V0 due pl, GV v := by
  have rg : ∀ {x : Int}, 0 ≤ x ∧ x ≤ 1000001 → -1 ≤ x ∧ x < 10 ^ 45 := fun h => ⟨by omega, small45 (by omega)⟩
  intro v hv
  simp only [V0, List.mem_cons, List.not_mem_nil, or_false] at hv
  rcases hv with rfl | rfl | rfl | rfl | rfl | rfl | rfl | rfl | rfl | rfl
  · exact gv_iL (fun x hx => rg (hd x hx)) (by omega)
  · exact gv_iL (fun x hx => rg (hd x (List.mem_reverse.mp hx))) (by rw [List.length_reverse]; omega)
  · exact gv_iL (fun x hx => rg (hd x (List.mem_of_mem_drop hx))) (by rw [List.length_drop]; omega)
  · refine gv_iL (fun x hx => ?_) (by rw [List.length_append]; show due.length + 1 ≤ 100; omega)
    rcases List.mem_append.mp hx with z | z
    · exact rg (hd x z)
    · rw [List.mem_singleton.mp z]
      exact ⟨by decide, by decide⟩
  · exact ⟨vo_flat rfl (fun _ z => nomatch z), rpr_tup (fun x hx => rg (hd x hx)) (by omega)⟩
  · exact gv_iL (fun x hx => rg (hp x hx)) (by omega)
  · exact ⟨vo_flat rfl (fun _ z => nomatch z), Rpr.of (by decide +kernel)⟩
  · exact ⟨vo_flat rfl (fun _ z => nomatch z), Rpr.of (by decide +kernel)⟩
  · exact ⟨vo_flat rfl (fun _ z => nomatch z), Rpr.of (by decide +kernel)⟩
  · refine ⟨⟨rfl, fun ds e => ?_⟩, rpr_nones _ l1⟩
    cases e
    refine ⟨by rw [List.length_replicate]; omega, fun d hd => ?_⟩
    rw [(List.mem_replicate.mp hd).2]
    exact ⟨rfl, rfl, by simp [PyData.depth]⟩
/-- the values, as they are written -/
theorem V0_ev {ρ : DL.Env} {f4 f9 : DL.Env → RE} {due pl : List Int} (h4 : Ev f4 ρ (iL due)) (h9 : Ev f9 ρ (iL pl)) (l1 : due.length ≤ 30) :
    Evl (bndA (fCons f4 (fCons (fOp1 gRev f4) (fCons (fOp1 (gCut (some 1) none) f4) (fCons (fOp2 gAdd f4 (bndA (fCons (fC (.int 0)) (fNil)) gMkL)) (fCons (bndA (fCons f4 (fNil)) gTupleOf) (fCons f9 (fCons (fC .none) (fCons (fC (.int 7)) (fCons (fDict0) (fCons (fOp2 gMul (bndA (fCons (fC .none) (fNil)) gMkL) (bndA (fCons f4 (fNil)) gLen)) (fNil))))))))))) gMkL) ρ (V0 due pl) := by
  have s : 1000 ≤ sizeLine := by decide
  have e2 : Ev (fOp1 gRev f4) ρ (iL due.reverse) := by
    have z := Ev.op1 (g := gRev) (w := .frs (isD due).reverse) h4 rfl
    rw [show W.d (.frs (isD due).reverse) = iL due.reverse by show PyData.list (List.map PyData.int due).reverse = PyData.list (List.map PyData.int due.reverse); rw [List.map_reverse]] at z
    exact z
  have e3 : Ev (fOp1 (gCut (some 1) none) f4) ρ (iL (due.drop 1)) := by
    have z := Ev.op1 (g := gCut (some 1) none) (w := .frs (DL.cutD (isD due) (some 1) none)) h4 rfl
    have e : DL.cutD (isD due) (some 1) none = isD (due.drop 1) := by
      cases due with
      | nil => rfl
      | cons x r =>
        unfold DL.cutD
        rw [HT.sIx_none, show (some (1 : Int)) = some ((1 : Nat) : Int) from rfl, HT.sIx_nat]
        have hm : min 1 (isD (x :: r)).length = 1 := by
          simp only [isD, List.length_map, List.length_cons]
          omega
        rw [hm]
        unfold isD
        rw [← List.map_drop]
        refine List.take_of_length_le ?_
        simp
    rw [show W.d (.frs (DL.cutD (isD due) (some 1) none)) = iL (due.drop 1) by show PyData.list _ = _; rw [e]] at z
    exact z
  have e4 : Ev (fOp2 gAdd f4 (bndA (fCons (fC (.int 0)) (fNil)) gMkL)) ρ (iL (due ++ [0])) := by
    have z := Evl.op2 (g := gAdd) (ds := isD due ++ [.int 0]) h4 (ev_mkL (EvL.cons (a := .int 0) .k .nil) (by show 1 ≤ 1000; decide)).ev (by
      show (if (isD due).length + 1 ≤ sizeLine then some (W.frs _) else (none : Option W)) = _
      rw [if_pos (by simp only [isD, List.length_map]; omega)])
    have e : isD due ++ [PyData.int 0] = isD (due ++ [0]) := by simp [isD]
    rw [e] at z
    exact z.ev
  have e5 : Ev (bndA (fCons f4 (fNil)) gTupleOf) ρ (.tuple (isD due)) := Ev.bndA (w := .pu (.tuple (isD due))) (.cons h4 .nil) rfl
  have e9 : Ev fDict0 ρ (.dict []) := ⟨.pu (.dict []), rfl, rfl⟩
  have e10 : Ev (fOp2 gMul (bndA (fCons (fC .none) (fNil)) gMkL) (bndA (fCons f4 (fNil)) gLen)) ρ (.list (List.replicate due.length .none)) := by
    have z := Ev.op2 (g := gMul) (w := .frs (List.replicate due.length [PyData.none]).flatten) (ev_mkL (EvL.cons (a := .none) .k .nil) (by show 1 ≤ 1000; decide)).ev (ev_lenI h4) (by
      unfold gMul
      dsimp only
      rw [Int.toNat_natCast, if_pos ⟨by omega, by omega, by simp only [List.length_cons, List.length_nil]; omega⟩])
    have e : (List.replicate due.length [PyData.none]).flatten = List.replicate due.length .none := by
      generalize due.length = n
      induction n with
      | zero => rfl
      | succ n ih => rw [List.replicate_succ, List.flatten_cons, ih, List.replicate_succ]; rfl
    rw [e] at z
    exact z
  exact ev_mkL (.cons h4 (.cons e2 (.cons e3 (.cons e4 (.cons e5 (.cons h9 (.cons .k (.cons .k (.cons e9 (.cons e10 .nil)))))))))) (by show 10 ≤ 1000; decide)
theorem set_range {vs : List Int} {i : Nat} {x a b : Int} (h : ∀ y ∈ vs, a ≤ y ∧ y ≤ b) (hx : a ≤ x ∧ x ≤ b) : ∀ y ∈ vs.set i x, a ≤ y ∧ y ≤ b := fun y hy => by
  rcases List.mem_or_eq_of_mem_set hy with z | z
  · exact h y z
  · rw [z]; exact hx
end
end K84
/-! B11: _law_weights_right. -/
namespace K84
open PySem L2 PyProof.Rows DL SH
noncomputable def vBody (K : PySem.W.Frag) (ca : Str → Addr) : DL.Env → RS := sSeq (sPut 19 (fCall 3 F_l_are_shares (fCons (fVar 1) (fCons (fVar 2) (fCons (fVar 18) (fNil)))))) (sSeq (sIf (fNot (fCall 2 (F_l_same 8) (fCons (bndA (fCons (fCall 3 (F_are_shares ca) (fCons (fVar 1) (fCons (fVar 2) (fCons (fVar 18) (fNil))))) (fCons (fCallG 3 (pick .none [2, 1, 0]) (F_are_shares ca) (fCons (fVar 18) (fCons (fVar 2) (fCons (fVar 1) (fNil))))) (fNil))) gMkL) (fCons (bndA (fCons (fVar 19) (fCons (fVar 19) (fNil))) gMkL) (fNil))))) (sRet (fC (.bool false))) (.nx)) (sIf (fAnd (fOp1 (gIsi "list") (fVar 18)) (fAnd (fOp2 gEq (bndA (fCons (fVar 18) (fNil)) gLen) (bndA (fCons (fVar 4) (fNil)) gLen)) (fAnd (fOp2 gEq (fLc (srcE (fVar 18) itemsL) (bName 16) (fNot (fCall 1 F_l_is_count (fCons (fVar 16) (fNil)))) (fVar 16) [16]) (bndA (fNil) gMkL)) (fOp2 gEq (bndA (fCons (fVar 18) (fNil)) gSum) (fVar 2))))) (sSeq (sPut 20 (fCall 3 F_l_missed (fCons (fVar 1) (fCons (fVar 2) (fCons (fVar 18) (fNil)))))) (sIf (fOr (fNot (fCall 2 (F_l_same 8) (fCons (bndA (fCons (fCall 3 (F_missed ca) (fCons (fVar 18) (fCons (fVar 1) (fCons (fVar 2) (fNil))))) (fCons (fCallG 3 (pick .none [2, 1, 0]) (F_missed ca) (fCons (fVar 2) (fCons (fVar 1) (fCons (fVar 18) (fNil))))) (fNil))) gMkL) (fCons (bndA (fCons (fVar 20) (fCons (fVar 20) (fNil))) gMkL) (fNil))))) (fCall 2 F_l_less (fCons (fVar 20) (fCons (fCall 3 F_l_missed (fCons (fVar 1) (fCons (fVar 2) (fCons (fVar 4) (fNil))))) (fNil))))) (sRet (fC (.bool false))) (.nx))) (sIf (fNot (fRefd K ca "InvalidTable" "table" (fCall 3 (F_missed ca) (fCons (fVar 18) (fCons (fVar 1) (fCons (fVar 2) (fNil))))) 18)) (sRet (fC (.bool false))) (.nx))))
def dBody : DL.Env → RS := sSeq (sPar 16 17 (fLend 2 0 F_l_random (fCons (bndA (fCons (fVar 4) (fNil)) gLen) (fNil))) (fLend 2 0 F_l_random (fCons (bndA (fCons (fVar 4) (fNil)) gLen) (fNil)))) (sApp 14 (fIf (fOp2 gEq (fVar 16) (fVar 17)) (fCall 3 F_l_put (fCons (fVar 4) (fCons (fVar 16) (fCons (fOp2 gAdd (fOp2 gIx (fVar 4) (fVar 16)) (fC (.int 1))) (fNil))))) (fCall 3 F_l_put (fCons (fCall 3 F_l_put (fCons (fVar 4) (fCons (fVar 16) (fCons (fOp2 gAdd (fOp2 gIx (fVar 4) (fVar 16)) (fC (.int 1))) (fNil))))) (fCons (fVar 17) (fCons (fOp2 gSub (fOp2 gIx (fVar 4) (fVar 17)) (fC (.int 1))) (fNil)))))))
theorem ev_less {ρ : DL.Env} {f : DL.Env → RE} {l : List Nat} (h : Ev f ρ (.list (nL l))) : Ev (fIf (fOp2 gNe f (bndA (fNil) gMkL)) (fOp2 gIx f (fC (.int 0))) (fC .none)) ρ (parD l.head?) := by
  have z := (ev_isNil (lay_nats l) h).2
  cases l with
  | nil => exact Ev.if (x := false) z (fun q => nomatch q) fun _ => .k
  | cons a r =>
    have e : gIx (.list (nL (a :: r))) (.int 0) = some (.pu (.int (a : Nat))) := by
      show (atI (nL (a :: r)) ((0 : Nat) : Int)).map W.pu = _
      rw [DL.atI_nat (x := PyData.int (a : Nat)) rfl]
      rfl
    exact Ev.if (x := true) (d := .int (a : Nat)) z (fun _ => Ev.op2 (w := .pu (.int (a : Nat))) h .k e) (fun q => nomatch q)
theorem same_par (n : Nat) (o : Option Nat) : Fr (F_l_same (n + 1)) [parD o, parD o] (.bool true) := by
  cases o with
  | none => exact same_none n
  | some i => exact same_int n _
abbrev WE (ds : List D) (ws : List Int) (N : Int) (kt : Str) (x13 x14 x15 x16 x17 x18 x19 x20 : Option Sl) : DL.Env := [some (.own 1 ds), some (.pu (iL ws)), some (.pu (.int N)), some (.pu (.str kt)), some (.pu (iL (made ws N))), some (.pu (.int ws.sum)), some (.pu (.int (brk ws N : Nat))), none, some (.pu (.int ((exN ws N).toNat : Nat))), some (.pu (iL (nr ws N))), some (.pu (iL (made ws (N + 1)))), some (.pu (.list (nL ((List.range ws.length).filter (parB ws N))))), none, x13, x14, x15, x16, x17, x18, x19, x20]
section
variable {P : Program} {K : PySem.W.Frag} {mg : Str → Option Value} {ca : Str → Addr} {ws : List Int} {N : Int}
theorem due_rg (V : Vd ws N) : ∀ x ∈ made ws N, 0 ≤ x ∧ x ≤ 1000001 := fun x hx => ⟨made_nonneg V.wt V.n0 x hx, Int.le_trans (made_le V.wt V.n0 x hx) V.n1⟩
/-- one drawn value -/
theorem draw_turn (V : Vd ws N) (h2 : N ≤ 1000000) {ds vs : List D} {m : Nat} {kt : Str} {x13 x15 x16 x17 x18 x19 x20 : Option Sl} (G : Gen m ds) (hm : m + 12 < 2 ^ 50) (hv : ∀ v ∈ vs, GV v) (hl : vs.length ≤ 100) (d : D) :
    ∃ ds2 vs2 y16 y17, isPub y16 ∧ isPub y17 ∧ Nx dBody (WE ds ws N kt x13 (some (.own 0 vs)) (some (.pu d)) x16 x17 x18 x19 x20) (WE ds2 ws N kt x13 (some (.own 0 vs2)) (some (.pu d)) y16 y17 x18 x19 x20) ∧ Gen (m + 12) ds2 ∧ (∀ v ∈ vs2, GV v) ∧ vs2.length = vs.length + 1 := by
  have l30 := V.wt.l30
  have l1 := V.wt.l1
  have dl : (made ws N).length = ws.length := made_length
  have bn : (((ws.length : Nat) : Int)).natAbs < 2 ^ 149 := by
    have : (((ws.length : Nat) : Int)).natAbs = ws.length := by omega
    rw [this]
    exact Nat.lt_of_le_of_lt l30 (by decide)
  obtain ⟨i, d2, f1, q1, G2⟩ := random_ok (b := (ws.length : Nat)) G (by omega) (by omega) bn
  obtain ⟨j, d3, f2, q2, G3⟩ := random_ok (b := (ws.length : Nat)) G2 (by omega) (by omega) bn
  have hi : i < (made ws N).length := by omega
  have hj : j < (made ws N).length := by omega
  have ln : ∀ {ρ : DL.Env}, ρ[4]? = some (some (.pub 0 (iL (made ws N)))) → EvL (fCons (bndA (fCons (fVar 4) (fNil)) gLen) (fNil)) ρ [.int (ws.length : Nat)] := fun h => .cons (by
    have z := ev_lenI (ns := made ws N) (.var h)
    rw [dl] at z
    exact z) .nil
  have s1 : Nx (sPar 16 17 (fLend 2 0 F_l_random (fCons (bndA (fCons (fVar 4) (fNil)) gLen) (fNil))) (fLend 2 0 F_l_random (fCons (bndA (fCons (fVar 4) (fNil)) gLen) (fNil)))) (WE ds ws N kt x13 (some (.own 0 vs)) (some (.pu d)) x16 x17 x18 x19 x20) (WE d3 ws N kt x13 (some (.own 0 vs)) (some (.pu d)) (some (.pu (.int (i : Nat)))) (some (.pu (.int (j : Nat)))) x18 x19 x20) :=
    nx_parS (ρ1 := WE d2 ws N kt x13 (some (.own 0 vs)) (some (.pu d)) x16 x17 x18 x19 x20) (ρ2 := WE d3 ws N kt x13 (some (.own 0 vs)) (some (.pu d)) x16 x17 x18 x19 x20) (EvS.lend (t := 1) (ds := ds) rfl (ln rfl) rfl f1) (EvS.lend (t := 1) (ds := d2) rfl (ln rfl) rfl f2)
  have rg := due_rg V
  have gi := rg _ (gd_mem hi)
  have gj := rg _ (gd_mem hj)
  have lt45 : ∀ {x : Int}, -1 ≤ x ∧ x ≤ 1000002 → -1 ≤ x ∧ x < 10 ^ 45 := fun h => ⟨h.1, small45 (by omega)⟩
  have rg' : ∀ x ∈ made ws N, -1 ≤ x ∧ x ≤ 1000002 := fun x hx => by have := rg x hx; omega
  have one : ∀ {ρ : DL.Env}, ρ[4]? = some (some (.pub 0 (iL (made ws N)))) → ρ[16]? = some (some (.pub 0 (.int (i : Nat)))) → Evl (fCall 3 F_l_put (fCons (fVar 4) (fCons (fVar 16) (fCons (fOp2 gAdd (fOp2 gIx (fVar 4) (fVar 16)) (fC (.int 1))) (fNil))))) ρ (isD ((made ws N).set i ((made ws N).getD i 0 + 1))) := fun h4 h16 =>
    Evl.call (.cons (.var h4) (.cons (.var h16) (.cons (ev_addI (ev_ixI (.var h4) (.var h16) hi) .k) .nil))) (l_put hi (by omega)) rfl
  have key : ∃ ns : List Int, (∀ x ∈ ns, -1 ≤ x ∧ x ≤ 1000002) ∧ ns.length ≤ 100 ∧ Ev (fIf (fOp2 gEq (fVar 16) (fVar 17)) (fCall 3 F_l_put (fCons (fVar 4) (fCons (fVar 16) (fCons (fOp2 gAdd (fOp2 gIx (fVar 4) (fVar 16)) (fC (.int 1))) (fNil))))) (fCall 3 F_l_put (fCons (fCall 3 F_l_put (fCons (fVar 4) (fCons (fVar 16) (fCons (fOp2 gAdd (fOp2 gIx (fVar 4) (fVar 16)) (fC (.int 1))) (fNil))))) (fCons (fVar 17) (fCons (fOp2 gSub (fOp2 gIx (fVar 4) (fVar 17)) (fC (.int 1))) (fNil)))))) (WE d3 ws N kt x13 (some (.own 0 vs)) (some (.pu d)) (some (.pu (.int (i : Nat)))) (some (.pu (.int (j : Nat)))) x18 x19 x20) (iL ns) := by
    have r1 := set_range (i := i) (x := (made ws N).getD i 0 + 1) rg' (by omega)
    by_cases e : ((i : Nat) : Int) = (j : Nat)
    · refine ⟨_, r1, by rw [List.length_set]; omega, Ev.if (x := true) ?_ (fun _ => (one rfl rfl).ev) fun q => nomatch q⟩
      have z := ev_eqI (fa := fVar 16) (fb := fVar 17) (ρ := WE d3 ws N kt x13 (some (.own 0 vs)) (some (.pu d)) (some (.pu (.int (i : Nat)))) (some (.pu (.int (j : Nat)))) x18 x19 x20) (i := (i : Nat)) (j := (j : Nat)) (.var rfl) (.var rfl)
      rw [decide_eq_true e] at z
      exact z
    · refine ⟨_, set_range (i := j) (x := (made ws N).getD j 0 - 1) r1 (by omega), by rw [List.length_set, List.length_set]; omega, Ev.if (x := false) ?_ (fun q => nomatch q) fun _ => (Evl.call (.cons (one rfl rfl).ev (.cons (.var rfl) (.cons (ev_subI (ev_ixI (.var rfl) (.var rfl) hj) .k) .nil))) (l_put (by rw [List.length_set]; exact hj) (by rw [List.length_set]; omega)) rfl).ev⟩
      have z := ev_eqI (fa := fVar 16) (fb := fVar 17) (ρ := WE d3 ws N kt x13 (some (.own 0 vs)) (some (.pu d)) (some (.pu (.int (i : Nat)))) (some (.pu (.int (j : Nat)))) x18 x19 x20) (i := (i : Nat)) (j := (j : Nat)) (.var rfl) (.var rfl)
      rw [decide_eq_false e] at z
      exact z
  obtain ⟨ns, n1, n2, ev⟩ := key
  refine ⟨d3, vs ++ [iL ns], some (.pu (.int (i : Nat))), some (.pu (.int (j : Nat))), (fun _ _ z => nomatch z), (fun _ _ z => nomatch z), Nx.seq s1 (Nx.app (t := 0) (ds := vs) rfl ev (Nat.lt_of_le_of_lt hl (by decide))), G3, fun v h => ?_, by rw [List.length_append]; rfl⟩
  rcases List.mem_append.mp h with z | z
  · exact hv v z
  · rw [List.mem_singleton.mp z]
    exact gv_iL (fun x hx => lt45 (n1 x hx)) n2
/-- the drawn values -/
theorem draw_loop (V : Vd ws N) (h2 : N ≤ 1000000) {kt : Str} {x13 x18 x19 x20 : Option Sl} : ∀ (l : List D) (ds vs : List D) (m : Nat) (x15 x16 x17 : Option Sl), Gen m ds → m + 12 * l.length < 2 ^ 50 → (∀ v ∈ vs, GV v) → vs.length + l.length ≤ 100 → isPub x15 → isPub x16 → isPub x17 →
    ∃ ds2 vs2 y15 y16 y17, isPub y15 ∧ isPub y16 ∧ isPub y17 ∧ forGo (bName 15) dBody l (WE ds ws N kt x13 (some (.own 0 vs)) x15 x16 x17 x18 x19 x20) = .nx (WE ds2 ws N kt x13 (some (.own 0 vs2)) y15 y16 y17 x18 x19 x20) ∧ Gen (m + 12 * l.length) ds2 ∧ ∀ v ∈ vs2, GV v
  | [], ds, vs, m, x15, x16, x17, G, hm, hv, hl, p1, p2, p3 => ⟨ds, vs, x15, x16, x17, p1, p2, p3, rfl, by simpa using G, hv⟩
  | d :: l, ds, vs, m, x15, x16, x17, G, hm, hv, hl, p1, p2, p3 => by
    rw [List.length_cons] at hm hl
    obtain ⟨ds2, vs2, y16, y17, q1, q2, n1, G2, v2, l2⟩ := draw_turn V h2 (kt := kt) (x13 := x13) (x15 := x15) (x16 := x16) (x17 := x17) (x18 := x18) (x19 := x19) (x20 := x20) G (by omega) hv (by omega) d
    obtain ⟨ds3, vs3, z15, z16, z17, r1, r2, r3, h1, G3, v3⟩ := draw_loop V h2 (kt := kt) (x13 := x13) (x18 := x18) (x19 := x19) (x20 := x20) l ds2 vs2 (m + 12) (some (.pu d)) y16 y17 G2 (by omega) v2 (by omega) (fun _ _ z => nomatch z) q1 q2
    refine ⟨ds3, vs3, z15, z16, z17, r1, r2, r3, for_cons rfl n1 h1, ?_, v3⟩
    rw [List.length_cons, show m + 12 * (l.length + 1) = m + 12 + 12 * l.length by omega]
    exact G3
end
end K84
/-! B12: one value judged. -/
namespace K84
open PySem L2 PyProof.Rows DL SH
theorem gEq_nil' {ds : List D} (hs : ∀ d ∈ ds, d.canLay0 = true ∧ d.depth ≤ 10) : gEq (.list ds) (.list []) = some (.pu (.bool ds.isEmpty)) := by
  have z := (ev_isNil (ρ := []) (fa := fC (.list ds)) hs .k).1
  obtain ⟨w, h1, h2⟩ := z
  unfold fOp2 bndE at h1
  have h1 : resW (gEq (.list ds) (.list [])) [] = .ok w [] := h1
  unfold resW at h1
  cases q : gEq (.list ds) (.list []) with
  | none => rw [q] at h1; cases h1
  | some u =>
    rw [q] at h1
    have h1 : RE.ok u [] = .ok w [] := h1
    cases h1
    cases w with
    | pu d => rw [show d = _ from h2]
    | frs es => cases h2
abbrev missD (ca : Str → Addr) : DL.Env → RS := sSeq (sPut 20 (fCall 3 F_l_missed (fCons (fVar 1) (fCons (fVar 2) (fCons (fVar 18) (fNil)))))) (sIf (fOr (fNot (fCall 2 (F_l_same 8) (fCons (bndA (fCons (fCall 3 (F_missed ca) (fCons (fVar 18) (fCons (fVar 1) (fCons (fVar 2) (fNil))))) (fCons (fCallG 3 (pick .none [2, 1, 0]) (F_missed ca) (fCons (fVar 2) (fCons (fVar 1) (fCons (fVar 18) (fNil))))) (fNil))) gMkL) (fCons (bndA (fCons (fVar 20) (fCons (fVar 20) (fNil))) gMkL) (fNil))))) (fCall 2 F_l_less (fCons (fVar 20) (fCons (fCall 3 F_l_missed (fCons (fVar 1) (fCons (fVar 2) (fCons (fVar 4) (fNil))))) (fNil))))) (sRet (fC (.bool false))) (.nx))
noncomputable abbrev refB (K : PySem.W.Frag) (ca : Str → Addr) : DL.Env → RS := sIf (fNot (fRefd K ca "InvalidTable" "table" (fCall 3 (F_missed ca) (fCons (fVar 18) (fCons (fVar 1) (fCons (fVar 2) (fNil))))) 18)) (sRet (fC (.bool false))) (.nx)
abbrev cond18 : DL.Env → RE := fAnd (fOp1 (gIsi "list") (fVar 18)) (fAnd (fOp2 gEq (bndA (fCons (fVar 18) (fNil)) gLen) (bndA (fCons (fVar 4) (fNil)) gLen)) (fAnd (fOp2 gEq (fLc (srcE (fVar 18) itemsL) (bName 16) (fNot (fCall 1 F_l_is_count (fCons (fVar 16) (fNil)))) (fVar 16) [16]) (bndA (fNil) gMkL)) (fOp2 gEq (bndA (fCons (fVar 18) (fNil)) gSum) (fVar 2))))
theorem cond_ok {ρ : DL.Env} {v : D} {due : List Int} {N : Int} {n : Nat} (h18 : ρ[18]? = some (some (.pub 0 v))) (h4 : ρ[4]? = some (some (.pub 0 (iL due)))) (h2 : ρ[2]? = some (some (.pub 0 (.int N)))) (hl : 16 < ρ.length) (hd : due.length = n) (hv : VO v) : ∃ ρ', (ρ' = ρ ∨ ρ' = ρ.set 16 none) ∧ EvS cond18 ρ ρ' (.bool (cB n N v)) := by
  by_cases hls : ∃ ds, v = .list ds
  · obtain ⟨ds, rfl⟩ := hls
    obtain ⟨i1, i2⟩ := hv.it ds rfl
    have e0 : EvS (fOp1 (gIsi "list") (fVar 18)) ρ ρ (.bool true) := Ev.s (ev_isi (n := "list") (d := .list ds) (.var h18) hv.dok)
    have e1 : EvS (fOp2 gEq (bndA (fCons (fVar 18) (fNil)) gLen) (bndA (fCons (fVar 4) (fNil)) gLen)) ρ ρ (.bool (decide ((ds.length : Int) = (n : Nat)))) := Ev.s (by
      rw [← hd]
      exact ev_eqI (ev_len (.var h18)) (ev_lenI (.var h4)))
    by_cases q1 : (ds.length : Int) = (n : Nat)
    · rw [decide_eq_true q1] at e1
      have l1 := lc_cntS (fun d h => l_is_count h) (ρ := ρ) (fa := fVar 18) (j := 16) (ds := ds) (.var h18) (fun d hd => (i2 d hd).1) i1 hl
      have e2 : EvS (fOp2 gEq (fLc (srcE (fVar 18) itemsL) (bName 16) (fNot (fCall 1 F_l_is_count (fCons (fVar 16) (fNil)))) (fVar 16) [16]) (bndA (fNil) gMkL)) ρ (ρ.set 16 none) (.bool (ds.filter fun d => !isCt d).isEmpty) :=
        EvS.op2 (w := .pu (.bool (ds.filter fun d => !isCt d).isEmpty)) l1 (b := .list []) (Ev.s (Ev.bndA (w := .frs []) .nil rfl)) (gEq_nil' (lay_filter i2))
      cases q2 : (ds.filter fun d => !isCt d).isEmpty with
      | true =>
        rw [q2] at e2
        obtain ⟨ns, rfl, hn⟩ := ct_ints (List.isEmpty_iff.mp q2)
        have e3 : EvS (fOp2 gEq (bndA (fCons (fVar 18) (fNil)) gSum) (fVar 2)) (ρ.set 16 none) (ρ.set 16 none) (.bool (decide (ns.sum = N))) := Ev.s (ev_eqI (ev_sum (.var (by rw [List.getElem?_set_ne (by decide)]; exact h18))) (.var (by rw [List.getElem?_set_ne (by decide)]; exact h2)))
        refine ⟨_, .inr rfl, ?_⟩
        rw [cB_list, q2, decide_eq_true q1, intsE_map]
        exact EvS.and e0 (EvS.and e1 (EvS.and e2 e3))
      | false =>
        rw [q2] at e2
        refine ⟨_, .inr rfl, ?_⟩
        rw [cB_list, q2, decide_eq_true q1]
        exact EvS.and e0 (EvS.and e1 (EvS.andF e2))
    · rw [decide_eq_false q1] at e1
      refine ⟨_, .inl rfl, ?_⟩
      rw [cB_list, decide_eq_false q1]
      exact EvS.and e0 (EvS.andF e1)
  · have nl : ∀ ds, v ≠ .list ds := fun ds e => hls ⟨ds, e⟩
    have e : cB n N v = false := by
      cases v with
      | list ds => exact absurd rfl (nl ds)
      | _ => rfl
    rw [e]
    have z := ev_isi (n := "list") (d := v) (fa := fVar 18) (ρ := ρ) (.var h18) hv.dok
    rw [isA_list nl] at z
    exact ⟨ρ, .inl rfl, EvS.andF (Ev.s z)⟩
section
variable {P : Program} {K : PySem.W.Frag} {mg : Str → Option Value} {ca : Str → Addr} {ws : List Int} {N : Int}
theorem mis_nonneg {vs : List Int} : 0 ≤ mis ws N vs := sum_nonneg fun x hx => by
  obtain ⟨k, _, rfl⟩ := List.mem_map.mp hx
  exact ab_nonneg _
theorem lw_gt (V : Vd ws N) {vs : List Int} (hl : vs.length = ws.length) (h0 : ∀ x ∈ vs, 0 ≤ x) (hs : vs.sum = N) : Gt1 (lw (mis ws N vs) ws.sum).1 ∧ Gt1 (lw (mis ws N vs) ws.sum).2 := by
  have p := lw_le V.wt.ps (mis_nonneg (ws := ws) (N := N) (vs := vs))
  have q := lw_pos (a := mis ws N vs) V.wt.ps
  exact ⟨gt1_le (lw_nonneg V.wt.ps mis_nonneg) p.1 (gt1_of (by decide) (mis_small V hl h0 hs)), gt1_le (Int.le_of_lt q) p.2 V.gS⟩
theorem due_ok (V : Vd ws N) : (made ws N).length = ws.length ∧ (∀ x ∈ made ws N, 0 ≤ x) ∧ (made ws N).sum = N := ⟨made_length, made_nonneg V.wt V.n0, made_sum V.wt⟩
/-- a list that sums to the number: how much it misses -/
theorem miss_turn (V : Vd ws N) (h1 : 1 ≤ N) (h2 : N ≤ 1000000) {ds : List D} {kt : Str} {vs : List Int} {x13 x14 x15 x16 x17 x19 x20 : Option Sl} (hl : vs.length = ws.length) (h0 : ∀ x ∈ vs, 0 ≤ x) (hs : vs.sum = N) (hv : VO (iL vs)) :
    Nx (missD ca)
      (WE ds ws N kt x13 x14 x15 x16 x17 (some (.pu (iL vs))) x19 x20) (WE ds ws N kt x13 x14 x15 x16 x17 (some (.pu (iL vs))) x19 (some (.pu (fD (lw (mis ws N vs) ws.sum))))) := by
  obtain ⟨d1, d2, d3⟩ := due_ok V
  obtain ⟨g1, g2⟩ := lw_gt V hl h0 hs
  obtain ⟨g3, g4⟩ := lw_gt V d1 d2 d3
  have mm := fr_missed (ca := ca) V h1 h2 hl h0 hs hv
  have s8 : Fr (F_l_same 8) [.list [fD (lw (mis ws N vs) ws.sum), fD (lw (mis ws N vs) ws.sum)], .list [fD (lw (mis ws N vs) ws.sum), fD (lw (mis ws N vs) ws.sum)]] (.bool true) := same_list 7 (by show 2 ≤ 1000; decide) fun y hy => by
    have e : y = fD (lw (mis ws N vs) ws.sum) := by
      simp only [List.mem_cons, List.not_mem_nil, or_false, or_self] at hy
      exact hy
    rw [e]; exact same_fD 5 _
  have ls := l_less g1 g2 g3 g4
  have lf : decide ((lw (mis ws N vs) ws.sum).1 * (lw (mis ws N (made ws N)) ws.sum).2 < (lw (mis ws N (made ws N)) ws.sum).1 * (lw (mis ws N vs) ws.sum).2) = false := by
    refine decide_eq_false ?_
    have := lw_mono V.wt.ps (mis_least V.wt hl hs)
    omega
  rw [lf] at ls
  refine Nx.seq (Nx.put (.call (.cons (.var rfl) (.cons (.var rfl) (.cons (.var rfl) .nil))) (l_missed V hl h0 hs) rfl)) (Nx.if (x := false) (.or (x := false) (y := false) (.not (x := true) (.call (.cons (ev_mkL (.cons (.call (.cons (.var rfl) (.cons (.var rfl) (.cons (.var rfl) .nil))) mm rfl) (.cons (.callG (.cons (.var rfl) (.cons (.var rfl) (.cons (.var rfl) .nil))) mm rfl) .nil)) (by show 2 ≤ 1000; decide)).ev (.cons (ev_mkL (.cons (.var rfl) (.cons (.var rfl) .nil)) (by show 2 ≤ 1000; decide)).ev .nil)) s8 rfl)) fun _ => .call (.cons (.var rfl) (.cons (.call (.cons (.var rfl) (.cons (.var rfl) (.cons (.var rfl) .nil))) (l_missed V d1 d2 d3) rfl) .nil)) ls rfl) (fun z => nomatch z) fun _ => .nx)
theorem val_turn (X : Exs P K mg ca) (V : Vd ws N) (h1 : 1 ≤ N) (h2 : N ≤ 1000000) {ds : List D} {kt : Str} {x13 x14 x15 x16 x17 x19 x20 : Option Sl} (p16 : isPub x16) (p20 : isPub x20) {v : D} (hv : GV v) :
    ∃ y16 y19 y20, isPub y16 ∧ isPub y19 ∧ isPub y20 ∧ Nx (vBody K ca) (WE ds ws N kt x13 x14 x15 x16 x17 (some (.pu v)) x19 x20) (WE ds ws N kt x13 x14 x15 y16 x17 (some (.pu v)) y19 y20) := by
  have s1 := Nx.put (i := 19) (ρ := WE ds ws N kt x13 x14 x15 x16 x17 (some (.pu v)) x19 x20) (Ev.call (fs := fCons (fVar 1) (fCons (fVar 2) (fCons (fVar 18) (fNil)))) (n := 3) (.cons (.var rfl) (.cons (.var rfl) (.cons (.var rfl) .nil))) (l_are_shares V hv.vo) rfl)
  have as := fr_are_shares (ca := ca) V h1 h2 hv.vo
  have s8 : Fr (F_l_same 8) [.list [.bool (sB ws N v), .bool (sB ws N v)], .list [.bool (sB ws N v), .bool (sB ws N v)]] (.bool true) := same_list 7 (by show 2 ≤ 1000; decide) fun y hy => by
    have e : y = .bool (sB ws N v) := by
      simp only [List.mem_cons, List.not_mem_nil, or_false, or_self] at hy
      exact hy
    rw [e]; exact same_bool 6 _
  obtain ⟨ρ', hρ, hc⟩ := cond_ok (ρ := WE ds ws N kt x13 x14 x15 x16 x17 (some (.pu v)) (some (.pu (.bool (sB ws N v)))) x20) (v := v) (due := made ws N) (N := N) rfl rfl rfl (by show 16 < 21; decide) made_length hv.vo
  have hρ2 : ∃ y16, isPub y16 ∧ ρ' = WE ds ws N kt x13 x14 x15 y16 x17 (some (.pu v)) (some (.pu (.bool (sB ws N v)))) x20 := by
    rcases hρ with e | e
    · exact ⟨x16, p16, e⟩
    · exact ⟨none, (fun _ _ z => nomatch z), e⟩
  obtain ⟨y16, py, rfl⟩ := hρ2
  have fin : ∃ y20, isPub y20 ∧ Nx (sIf cond18 (missD ca) (refB K ca)) (WE ds ws N kt x13 x14 x15 x16 x17 (some (.pu v)) (some (.pu (.bool (sB ws N v)))) x20) (WE ds ws N kt x13 x14 x15 y16 x17 (some (.pu v)) (some (.pu (.bool (sB ws N v)))) y20) := by
    cases q : cB ws.length N v with
    | true =>
      obtain ⟨vs, e, l1, l2, l3⟩ := cB_true q
      refine ⟨some (.pu (fD (lw (mis ws N vs) ws.sum))), (fun _ _ z => nomatch z), ?_⟩
      unfold Nx
      rw [if_s hc, q, if_pos rfl]
      subst e
      exact miss_turn (ca := ca) V h1 h2 l1 l2 l3 hv.vo
    | false =>
      refine ⟨x20, p20, ?_⟩
      unfold Nx
      rw [if_s hc, q, if_neg Bool.false_ne_true]
      exact Nx.if (x := false) (.not (x := true) (fRefd_ok (K := K) (ca := ca) (n := "InvalidTable") (wd := "table") (fb := fCall 3 (F_missed ca) (fCons (fVar 18) (fCons (fVar 1) (fCons (fVar 2) (fNil))))) (i := 18) (m := 0) (d := v) rfl (callE (.cons (.var rfl) (.cons (.var rfl) (.cons (.var rfl) .nil))) (missed_no V h1 h2 hv.vo q) rfl) (ref_table X hv.rp))) (fun z => nomatch z) fun _ => .nx
  obtain ⟨y20, py20, fin⟩ := fin
  refine ⟨y16, some (.pu (.bool (sB ws N v))), y20, py, (fun _ _ z => nomatch z), py20, ?_⟩
  exact Nx.seq s1 (Nx.seq (Nx.if (x := false) (.not (x := true) (.call (.cons (ev_mkL (.cons (.call (.cons (.var rfl) (.cons (.var rfl) (.cons (.var rfl) .nil))) as rfl) (.cons (.callG (.cons (.var rfl) (.cons (.var rfl) (.cons (.var rfl) .nil))) as rfl) .nil)) (by show 2 ≤ 1000; decide)).ev (.cons (ev_mkL (.cons (.var rfl) (.cons (.var rfl) .nil)) (by show 2 ≤ 1000; decide)).ev .nil)) s8 rfl)) (fun z => nomatch z) fun _ => .nx) fin)
end
end K84
/-! B13: _law_weights_right, whole. -/
namespace K84
open PySem L2 PyProof.Rows DL SH
section
variable {P : Program} {K : PySem.W.Frag} {mg : Str → Option Value} {ca : Str → Addr} {ws : List Int} {N : Int}
theorem val_loop (X : Exs P K mg ca) (V : Vd ws N) (h1 : 1 ≤ N) (h2 : N ≤ 1000000) {ds : List D} {kt : Str} {x13 x14 x15 x17 : Option Sl} : ∀ (l : List D) (x16 x18 x19 x20 : Option Sl), isPub x16 → isPub x18 → isPub x19 → isPub x20 → (∀ v ∈ l, GV v) →
    ∃ y16 y18 y19 y20, isPub y16 ∧ isPub y18 ∧ isPub y19 ∧ isPub y20 ∧ forGo (bName 18) (vBody K ca) l (WE ds ws N kt x13 x14 x15 x16 x17 x18 x19 x20) = .nx (WE ds ws N kt x13 x14 x15 y16 x17 y18 y19 y20)
  | [], x16, x18, x19, x20, p1, p2, p3, p4, _ => ⟨x16, x18, x19, x20, p1, p2, p3, p4, rfl⟩
  | v :: l, x16, x18, x19, x20, p1, p2, p3, p4, hv => by
    obtain ⟨a16, a19, a20, q1, q2, q3, n1⟩ := val_turn X V h1 h2 (ds := ds) (kt := kt) (x13 := x13) (x14 := x14) (x15 := x15) (x16 := x16) (x17 := x17) (x19 := x19) (x20 := x20) p1 p4 (hv v List.mem_cons_self)
    obtain ⟨y16, y18, y19, y20, r1, r2, r3, r4, h⟩ := val_loop X V h1 h2 (ds := ds) (kt := kt) (x13 := x13) (x14 := x14) (x15 := x15) (x17 := x17) l a16 (some (.pu v)) a19 a20 q1 (fun _ _ z => nomatch z) q2 q3 fun y hy => hv y (List.mem_cons_of_mem _ hy)
    exact ⟨y16, y18, y19, y20, r1, r2, r3, r4, for_cons rfl n1 h⟩
theorem Pw.mono {M : Nat} {g : DL.Env → RS} {ρ : DL.Env} (h : Pw M g ρ) : Pw M g ρ := h
theorem brk_eq : (ws.filter fun w => decide (0 < rs ws.sum N w)).length = brk ws N := by
  unfold brk rss
  rw [List.filter_map, List.length_map]
  rfl
theorem weights_pw (X : Exs P K mg ca) (V : Vd ws N) (h1 : 1 ≤ N) (h2 : N ≤ 1000000) (hr : ∀ w ∈ ws, w < 10 ^ 45) {ds : List D} {m : Nat} (G : Gen m ds) (hm : m + 200 < 2 ^ 50) : Pw (m + 96) (g_l_weights_right K ca) (some (.own 1 ds) :: some (.pu (iL ws)) :: some (.pu (.int N)) :: List.replicate 18 none) := by
  obtain ⟨kt, hk⟩ := rpr_iL (ns := ws) (fun x hx => ⟨by have := V.wt.nn x hx; omega, hr x hx⟩) (by have := V.wt.l30; omega)
  have l30 := V.wt.l30
  have V1 := V.up h2
  obtain ⟨d1, d2, d3⟩ := due_ok V
  have hE : (exN ws N).toNat ≤ brk ws N := by have := exN_le (N := N) V.wt; omega
  have hB : brk ws N ≤ 30 := by have := brk_le (ws := ws) (N := N); omega
  obtain ⟨ga, gs, gc', hG, hG2⟩ := id G
  have nL : noLs ds = true := by rw [hG]; rfl
  unfold g_l_weights_right
  -- kept, due, whole
  refine Pw.seq (ρ1 := [some (.own 1 ds), some (.pu (iL ws)), some (.pu (.int N)), some (.pu (.str kt)), some (.pu (iL (made ws N))), some (.pu (.int ws.sum)), none, none, none, none, none, none, none, none, none, none, none, none, none, none, none]) (Nx.bind (ev_mkT (.cons (Ev.bndA (w := .pu (.str kt)) (.cons (.var rfl) .nil) hk) (.cons (Evl.call (.cons (.var rfl) (.cons (.var rfl) .nil)) (l_shares V) rfl).ev (.cons (ev_sum (.var rfl)) .nil))) (by show 3 ≤ 1000; decide)) rfl) ?_
  -- broken
  have z1 := evl_gen (src := srcE (fVar 1) itemsL) (bind := bName 7) (ft := fOp2 gGt (fOp2 gMod (bndA (fCons (fOp2 gMul (fVar 7) (fVar 2)) (fNil)) gInt1) (fVar 5)) (fC (.int 0))) (fe := fVar 7) (vs := [7]) (ρ := [some (.own 1 ds), some (.pu (iL ws)), some (.pu (.int N)), some (.pu (.str kt)), some (.pu (iL (made ws N))), some (.pu (.int ws.sum)), none, none, none, none, none, none, none, none, none, none, none, none, none, none, none]) (fun w : Int => .int w) (fun w : Int => .int w) (fun w => decide (0 < rs ws.sum N w)) ws (src_list (.var rfl)) rfl V.len fun w hw =>
    ⟨[some (.own 1 ds), some (.pu (iL ws)), some (.pu (.int N)), some (.pu (.str kt)), some (.pu (iL (made ws N))), some (.pu (.int ws.sum)), none, some (.pu (.int w)), none, none, none, none, none, none, none, none, none, none, none, none, none], rfl, ev_gt (ev_modB (ev_int (ev_mulB (.var rfl) (.var rfl) (V.gw hw) V.gN)) (.var rfl) V.wt.ps) .k, fun _ => .var rfl, rfl⟩
  have b1 := ev_lenI z1.ev
  rw [brk_eq] at b1
  refine Pw.seq (Nx.put b1) ?_
  -- extra
  have z2 := evl_map (src := srcE (fVar 1) itemsL) (bind := bName 7) (fe := fOp2 gDiv (fOp2 gMul (fVar 7) (fVar 2)) (fVar 5)) (vs := [7]) (ρ := [some (.own 1 ds), some (.pu (iL ws)), some (.pu (.int N)), some (.pu (.str kt)), some (.pu (iL (made ws N))), some (.pu (.int ws.sum)), some (.pu (.int (brk ws N : Nat))), none, none, none, none, none, none, none, none, none, none, none, none, none, none]) (fun w : Int => .int w) (fun w => .int (fl ws.sum N w)) ws (src_list (.var rfl)) rfl V.len fun w hw =>
    ⟨[some (.own 1 ds), some (.pu (iL ws)), some (.pu (.int N)), some (.pu (.str kt)), some (.pu (iL (made ws N))), some (.pu (.int ws.sum)), some (.pu (.int (brk ws N : Nat))), some (.pu (.int w)), none, none, none, none, none, none, none, none, none, none, none, none, none], rfl, ev_divB (ev_mulB (.var rfl) (.var rfl) (V.gw hw) V.gN) (.var rfl) V.wt.ps V.gS, rfl⟩
  have f1 : (ws.map fun w => PyData.int (fl ws.sum N w)) = isD (fls ws N) := by unfold fls isD; rw [List.map_map]; rfl
  rw [f1] at z2
  have b2 : Ev (fOp2 gSub (fVar 2) (bndA (fCons (fLc (srcE (fVar 1) itemsL) (bName 7) (fC (.bool true)) (fOp2 gDiv (fOp2 gMul (fVar 7) (fVar 2)) (fVar 5)) [7]) (fNil)) gSum)) [some (.own 1 ds), some (.pu (iL ws)), some (.pu (.int N)), some (.pu (.str kt)), some (.pu (iL (made ws N))), some (.pu (.int ws.sum)), some (.pu (.int (brk ws N : Nat))), none, none, none, none, none, none, none, none, none, none, none, none, none, none] (.int ((exN ws N).toNat : Nat)) := by
    rw [← exN_nat V]
    exact ev_subI (.var rfl) (ev_sum z2.ev)
  refine Pw.seq (Nx.put b2) ?_
  -- plain
  have z3 := evl_map (src := srcE (fVar 1) itemsL) (bind := bName 7) (fe := fOp2 gDiv (fOp2 gAdd (fOp2 gMul (fOp2 gMul (fC (.int 2)) (fVar 7)) (fVar 2)) (fVar 5)) (fOp2 gMul (fC (.int 2)) (fVar 5))) (vs := [7]) (ρ := [some (.own 1 ds), some (.pu (iL ws)), some (.pu (.int N)), some (.pu (.str kt)), some (.pu (iL (made ws N))), some (.pu (.int ws.sum)), some (.pu (.int (brk ws N : Nat))), none, some (.pu (.int ((exN ws N).toNat : Nat))), none, none, none, none, none, none, none, none, none, none, none, none]) (fun w : Int => .int w) (fun w => .int ((2 * w * N + ws.sum) / (2 * ws.sum))) ws (src_list (.var rfl)) rfl V.len fun w hw =>
    ⟨[some (.own 1 ds), some (.pu (iL ws)), some (.pu (.int N)), some (.pu (.str kt)), some (.pu (iL (made ws N))), some (.pu (.int ws.sum)), some (.pu (.int (brk ws N : Nat))), some (.pu (.int w)), some (.pu (.int ((exN ws N).toNat : Nat))), none, none, none, none, none, none, none, none, none, none, none, none], rfl, ev_near V hw (.var rfl) (.var rfl) (.var rfl), rfl⟩
  have f3 : (ws.map fun w => PyData.int ((2 * w * N + ws.sum) / (2 * ws.sum))) = isD (nr ws N) := by unfold nr isD; rw [List.map_map]; rfl
  rw [f3] at z3
  refine Pw.seq (Nx.put z3.ev) ?_
  -- more
  refine Pw.seq (Nx.put (Evl.call (.cons (.var rfl) (.cons (ev_addI (.var rfl) .k) .nil)) (l_shares V1) rfl).ev) ?_
  -- less
  have z5 := evl_gen (src := srcA (fCons (bndA (fCons (fVar 1) (fNil)) gLen) (fNil)) kRng1) (bind := bName 12) (ft := fOp2 gLt (fOp2 gIx (fVar 10) (fVar 12)) (fOp2 gIx (fVar 4) (fVar 12))) (fe := fVar 12) (vs := [12]) (ρ := [some (.own 1 ds), some (.pu (iL ws)), some (.pu (.int N)), some (.pu (.str kt)), some (.pu (iL (made ws N))), some (.pu (.int ws.sum)), some (.pu (.int (brk ws N : Nat))), none, some (.pu (.int ((exN ws N).toNat : Nat))), some (.pu (iL (nr ws N))), some (.pu (iL (made ws (N + 1)))), none, none, none, none, none, none, none, none, none, none]) (fun k : Nat => .int (k : Nat)) (fun k : Nat => .int (k : Nat)) (parB ws N) (List.range ws.length) (src_rng (ev_lenI (.var rfl)) (Nat.lt_of_le_of_lt l30 (by decide))) rfl (by rw [List.length_range]; exact V.len) fun k hk =>
    have hk := List.mem_range.mp hk
    ⟨[some (.own 1 ds), some (.pu (iL ws)), some (.pu (.int N)), some (.pu (.str kt)), some (.pu (iL (made ws N))), some (.pu (.int ws.sum)), some (.pu (.int (brk ws N : Nat))), none, some (.pu (.int ((exN ws N).toNat : Nat))), some (.pu (iL (nr ws N))), some (.pu (iL (made ws (N + 1)))), none, some (.pu (.int (k : Nat))), none, none, none, none, none, none, none, none], rfl, ev_lt (ev_ixI (.var rfl) (.var rfl) (by rw [made_length]; exact hk)) (ev_ixI (.var rfl) (.var rfl) (by rw [made_length]; exact hk)), fun _ => .var rfl, rfl⟩
  refine Pw.seq (ρ1 := WE ds ws N kt none none none none none none none none) (Nx.put z5.ev) ?_
  -- told
  have hd : ((List.range ws.length).filter (parB ws N)).head? = (List.range ws.length).find? (parB ws N) := List.head?_filter ..
  have dueV : VO (iL (made ws N)) := vo_iL (by rw [d1]; omega)
  have q1 := fr_shares_of (ca := ca) V h1 h2
  have q2 := fr_count (ca := ca) V h1 h2
  have q3 := fr_plain (ca := ca) V h1 h2
  have q4 := fr_gap (ca := ca) V h1 h2
  have q5 := fr_paradox (ca := ca) V h1 h2
  have q6 := fr_missed (ca := ca) V h1 h2 d1 d2 d3 dueV
  rw [← hd] at q5
  have nl : (nr ws N).length = ws.length := by simp [nr]
  have sd : ∀ n, Fr (F_l_same (n + 2)) [iL (made ws N), iL (made ws N)] (.bool true) := fun n => same_iL n (by rw [d1]; omega)
  have sp : ∀ n, Fr (F_l_same (n + 2)) [iL (nr ws N), iL (nr ws N)] (.bool true) := fun n => same_iL n (by rw [nl]; omega)
  have s1 : Fr (F_l_same 8) [.list [iL (made ws N), .int (ch (brk ws N) (exN ws N).toNat : Nat), iL (nr ws N), .int ((nr ws N).sum - N), parD ((List.range ws.length).filter (parB ws N)).head?, fD (lw (mis ws N (made ws N)) ws.sum)], .list [iL (made ws N), .int (ch (brk ws N) (exN ws N).toNat : Nat), iL (nr ws N), .int ((nr ws N).sum - N), parD ((List.range ws.length).filter (parB ws N)).head?, fD (lw (mis ws N (made ws N)) ws.sum)]] (.bool true) := same_list 7 (by show 6 ≤ 1000; decide) fun y hy => by
    simp only [List.mem_cons, List.not_mem_nil, or_false] at hy
    rcases hy with rfl | rfl | rfl | rfl | rfl | rfl
    · exact sd 5
    · exact same_int 6 _
    · exact sp 5
    · exact same_int 6 _
    · exact same_par 6 _
    · exact same_fD 5 _
  have s2 : Fr (F_l_same 8) [.list [iL (made ws N), iL (nr ws N), .int ((nr ws N).sum - N), .int (ch (brk ws N) (exN ws N).toNat : Nat), parD ((List.range ws.length).filter (parB ws N)).head?], .list [iL (made ws N), iL (nr ws N), .int ((nr ws N).sum - N), .int (ch (brk ws N) (exN ws N).toNat : Nat), parD ((List.range ws.length).filter (parB ws N)).head?]] (.bool true) := same_list 7 (by show 5 ≤ 1000; decide) fun y hy => by
    simp only [List.mem_cons, List.not_mem_nil, or_false] at hy
    rcases hy with rfl | rfl | rfl | rfl | rfl
    · exact sd 5
    · exact sp 5
    · exact same_int 6 _
    · exact same_int 6 _
    · exact same_par 6 _
  have lw1 := l_ways hB hE
  have lm := l_missed V d1 d2 d3
  refine Pw.seq (ρ1 := WE ds ws N kt none none none none none none none none) ?_ ?_
  · have t := told_nx (i := 13) (gA := sRet (fC (.bool false))) (ρ := WE ds ws N kt none none none none none none none none)
      (f1 := fCall 2 (F_shares_of ca) (fCons (fVar 1) (fCons (fVar 2) (fNil)))) (ds1 := isD (made ws N))
      (fr := fCons (fCall 2 (F_share_count ca) (fCons (fVar 1) (fCons (fVar 2) (fNil)))) (fCons (fCall 2 (F_plain_shares ca) (fCons (fVar 1) (fCons (fVar 2) (fNil)))) (fCons (fCall 2 (F_gap_of ca) (fCons (fVar 1) (fCons (fVar 2) (fNil)))) (fCons (fCall 2 (F_paradox ca) (fCons (fVar 1) (fCons (fVar 2) (fNil)))) (fCons (fCall 3 (F_missed ca) (fCons (fVar 4) (fCons (fVar 1) (fCons (fVar 2) (fNil))))) (fNil))))))
      (ds := [.int (ch (brk ws N) (exN ws N).toNat : Nat), iL (nr ws N), .int ((nr ws N).sum - N), parD ((List.range ws.length).filter (parB ws N)).head?, fD (lw (mis ws N (made ws N)) ws.sum)])
      (fc := fNot (fCall 2 (F_l_same 8) (fCons (fVar 13) (fCons (bndA (fCons (fVar 4) (fCons (fCall 2 F_l_ways (fCons (fVar 6) (fCons (fVar 8) (fNil)))) (fCons (fVar 9) (fCons (fOp2 gSub (bndA (fCons (fVar 9) (fNil)) gSum) (fVar 2)) (fCons (fIf (fOp2 gNe (fVar 11) (bndA (fNil) gMkL)) (fOp2 gIx (fVar 11) (fC (.int 0))) (fC .none)) (fCons (fCall 3 F_l_missed (fCons (fVar 1) (fCons (fVar 2) (fCons (fVar 4) (fNil))))) (fNil))))))) gMkL) (fNil)))))
      (Evl.call (.cons (.var rfl) (.cons (.var rfl) .nil)) q1 rfl)
      (.cons (.call (.cons (.var rfl) (.cons (.var rfl) .nil)) q2 rfl) (.cons (.call (.cons (.var rfl) (.cons (.var rfl) .nil)) q3 rfl) (.cons (.call (.cons (.var rfl) (.cons (.var rfl) .nil)) q4 rfl) (.cons (.call (.cons (.var rfl) (.cons (.var rfl) .nil)) q5 rfl) (.cons (.call (.cons (.var rfl) (.cons (.var rfl) (.cons (.var rfl) .nil))) q6 rfl) .nil)))))
      (by show 5 < 1000; decide) (by simp only [isD, List.length_map, d1]; omega) (by show 13 < 21; decide)
      (.not (x := true) (.call (.cons (.var rfl) (.cons (ev_mkL (.cons (.var rfl) (.cons (.call (.cons (.var rfl) (.cons (.var rfl) .nil)) lw1 rfl) (.cons (.var rfl) (.cons (ev_subI (ev_sum (ns := nr ws N) (.var rfl)) (.var rfl)) (.cons (ev_less (.var rfl)) (.cons (.call (.cons (.var rfl) (.cons (.var rfl) (.cons (.var rfl) .nil))) lm rfl) .nil)))))) (by show 6 ≤ 1000; decide)).ev .nil)) s1 rfl))
    subst hG
    exact t
  -- told again, by keywords
  refine Pw.seq (Nx.put (ev_mkL (.cons (Ev.callG (.cons (.var rfl) (.cons (.var rfl) .nil)) q1.fr rfl) (.cons (.callG (.cons (.var rfl) (.cons (.var rfl) .nil)) q3 rfl) (.cons (.callG (.cons (.var rfl) (.cons (.var rfl) .nil)) q4 rfl) .nil))) (by show 3 ≤ 1000; decide)).ev) ?_
  refine Pw.seq (Nx.put (Evl.op2 (g := gAdd) (ds := [iL (made ws N), iL (nr ws N), .int ((nr ws N).sum - N), .int (ch (brk ws N) (exN ws N).toNat : Nat), parD ((List.range ws.length).filter (parB ws N)).head?]) (.var rfl) (ev_mkL (.cons (Ev.callG (.cons (.var rfl) (.cons (.var rfl) .nil)) q2 rfl) (.cons (.callG (.cons (.var rfl) (.cons (.var rfl) .nil)) q5 rfl) .nil)) (by show 2 ≤ 1000; decide)).ev rfl).ev) ?_
  refine Pw.seq (ρ1 := WE ds ws N kt (some (.pu (.list [iL (made ws N), iL (nr ws N), .int ((nr ws N).sum - N), .int (ch (brk ws N) (exN ws N).toNat : Nat), parD ((List.range ws.length).filter (parB ws N)).head?]))) none none none none none none none) (Nx.if (x := false) (.not (x := true) (.call (.cons (.var rfl) (.cons (ev_mkL (.cons (.var rfl) (.cons (.var rfl) (.cons (ev_subI (ev_sum (ns := nr ws N) (.var rfl)) (.var rfl)) (.cons (.call (.cons (.var rfl) (.cons (.var rfl) .nil)) lw1 rfl) (.cons (ev_less (.var rfl)) .nil))))) (by show 5 ≤ 1000; decide)).ev .nil)) s2 rfl)) (fun z => nomatch z) fun _ => .nx) ?_
  -- values
  generalize hx13 : (some (Sl.pu (.list [iL (made ws N), iL (nr ws N), .int ((nr ws N).sum - N), .int (ch (brk ws N) (exN ws N).toNat : Nat), parD ((List.range ws.length).filter (parB ws N)).head?])) : Option Sl) = x13
  have p13 : isPub x13 := by rw [← hx13]; exact fun _ _ z => nomatch z
  have n13 : noN (WE ds ws N kt x13 none none none none none none none) = true := by rw [← hx13]; rfl
  have v0 := V0_ok (due_rg V) (fun x hx => by have := nr_range V x hx; omega) (by rw [d1]; exact l30) (by rw [nl]; exact l30)
  refine Pw.seq (ρ1 := WE ds ws N kt x13 (some (.own 0 (V0 (made ws N) (nr ws N)))) none none none none none none) ?_ ?_
  · have e := V0_ev (ρ := WE ds ws N kt x13 none none none none none none none) (f4 := fVar 4) (f9 := fVar 9) (due := made ws N) (pl := nr ws N) (.var rfl) (.var rfl) (by rw [d1]; exact l30)
    unfold Nx sOwn sE
    rw [e]
    dsimp only
    rw [if_pos n13]
    rfl
  -- draws
  obtain ⟨ds2, vs2, y15, y16, y17, p15, p16, p17, dl, G2, gv⟩ := draw_loop V h2 (kt := kt) (x13 := x13) (x18 := none) (x19 := none) (x20 := none) ((List.range 8).map fun k : Nat => .int (k : Nat)) ds (V0 (made ws N) (nr ws N)) m none none none G (by rw [List.length_map, List.length_range]; omega) v0 (by rw [List.length_map, List.length_range]; show 10 + 8 ≤ 100; decide) (fun _ _ z => nomatch z) (fun _ _ z => nomatch z) (fun _ _ z => nomatch z)
  rw [List.length_map, List.length_range] at G2
  refine Pw.seq (show Nx _ _ _ from sFor_ok (src_rng (n := 8) .k (by decide)) dl) ?_
  -- each value
  obtain ⟨z16, z18, z19, z20, r1, r2, r3, r4, vl⟩ := val_loop X V h1 h2 (ds := ds2) (kt := kt) (x13 := x13) (x14 := some (.pu (.list vs2))) (x15 := y15) (x17 := y17) vs2 y16 none none none p16 (fun _ _ z => nomatch z) (fun _ _ z => nomatch z) (fun _ _ z => nomatch z) gv
  have sv : srcE (fVar 14) itemsL (WE ds2 ws N kt x13 (some (.own 0 vs2)) y15 y16 y17 none none none) = .ok vs2 (WE ds2 ws N kt x13 (some (.pu (.list vs2))) y15 y16 y17 none none none) := rfl
  refine Pw.seq (show Nx _ _ _ from sFor_ok sv vl) ?_
  -- repr(weights) == kept
  have fe : Ev (fOp2 gEq (bndA (fCons (fVar 1) (fNil)) gRepr) (fVar 3)) (WE ds2 ws N kt x13 (some (.pu (.list vs2))) y15 z16 y17 z18 z19 z20) (.bool true) := Ev.op2 (w := .pu (.bool true)) (Ev.bndA (w := .pu (.str kt)) (.cons (.var rfl) .nil) hk) (.var rfl) (by
    show some (W.pu (.bool (decide (kt = kt)))) = _
    rw [decide_eq_true rfl])
  obtain ⟨w, e1, e2⟩ := ret_s (Ev.s fe)
  refine ⟨w, _, ds2, e1, e2, colE_own (t := 0) (colE_pubs fun o ho => ?_), by rw [show m + 96 = m + 12 * 8 by omega]; exact G2⟩
  simp only [List.mem_cons, List.not_mem_nil, or_false] at ho
  rcases ho with rfl | rfl | rfl | rfl | rfl | rfl | rfl | rfl | rfl | rfl | rfl | rfl | rfl | rfl | rfl | rfl | rfl | rfl | rfl | rfl
  all_goals first | assumption | exact fun _ _ z => nomatch z
theorem weights_right_ok (X : Exs P K mg ca) (V : Vd ws N) (h1 : 1 ≤ N) (h2 : N ≤ 1000000) (hr : ∀ w ∈ ws, w < 10 ^ 45) {ds : List D} {m : Nat} (G : Gen m ds) (hm : m + 200 < 2 ^ 50) : ∃ ds2, FrO (F_l_weights_right K ca) ds [iL ws, .int N] ds2 (.bool true) ∧ Gen (m + 96) ds2 := by
  obtain ⟨w, ρ', ds2, e1, e2, e3, G2⟩ := weights_pw X V h1 h2 hr G hm
  exact ⟨ds2, frO_of e1 e2 e3, G2⟩
end
end K84
/-! B14: the written cases; the generator; what is refused. -/
namespace K84
open PySem L2 PyProof.Rows DL SH
/-! written shares -/
theorem sortK_is {ns : List Int} {l : List Nat} (hp : l.Perm (List.range ns.length)) (hs : l.Pairwise fun a b => ns.getD b 0 < ns.getD a 0 ∨ (ns.getD a 0 = ns.getD b 0 ∧ a ≤ b)) : sortK ns = l := by
  have z : (sortK ns).Pairwise fun a b => ns.getD b 0 < ns.getD a 0 ∨ (ns.getD a 0 = ns.getD b 0 ∧ a ≤ b) := by
    have z : (sortK ns).Pairwise fun a b => decide (ns.getD b 0 < ns.getD a 0 ∨ (ns.getD a 0 = ns.getD b 0 ∧ a ≤ b)) = true := by
      refine List.pairwise_mergeSort (fun a b c h1 h2 => ?_) (fun a b => ?_) _
      · have h1 := of_decide_eq_true h1
        have h2 := of_decide_eq_true h2
        exact decide_eq_true (by omega)
      · rw [Bool.or_eq_true, decide_eq_true_eq, decide_eq_true_eq]
        omega
    exact z.imp fun {a b} h => of_decide_eq_true h
  exact List.Perm.eq_of_pairwise (fun a b _ _ h1 h2 => by omega) z hs ((sortK_perm ns).trans hp.symm)
theorem rai_is {ws : List Int} {N : Int} {ns : List Int} {l r : List Nat} (h1 : rss ws N = ns) (hp : l.Perm (List.range ns.length)) (hs : l.Pairwise fun a b => ns.getD b 0 < ns.getD a 0 ∨ (ns.getD a 0 = ns.getD b 0 ∧ a ≤ b)) (h2 : l.take (exN ws N).toNat = r) : rai ws N = r := by
  unfold rai
  rw [h1, sortK_is hp hs, h2]
theorem m1 : made [1, 1, 1] 100 = [34, 33, 33] := by
  have r : rai [1, 1, 1] 100 = [0] := rai_is (ns := [1, 1, 1]) (l := [0, 1, 2]) (by decide +kernel) (by decide +kernel) (by decide +kernel) (by decide +kernel)
  unfold made sh1
  rw [r]
  decide +kernel
theorem m2 : (List.range 3).find? (parB [6, 6, 2] 10) = some 2 := by
  have r : rai [6, 6, 2] 10 = [2] := rai_is (ns := [4, 4, 6]) (l := [2, 0, 1]) (by decide +kernel) (by decide +kernel) (by decide +kernel) (by decide +kernel)
  have r2 : rai [6, 6, 2] (10 + 1) = [0, 1] := rai_is (ns := [10, 10, 8]) (l := [0, 1, 2]) (by decide +kernel) (by decide +kernel) (by decide +kernel) (by decide +kernel)
  have a : made [6, 6, 2] 10 = [4, 4, 2] := by
    unfold made sh1
    rw [r]
    decide +kernel
  have b : made [6, 6, 2] (10 + 1) = [5, 5, 1] := by
    unfold made sh1
    rw [r2]
    decide +kernel
  have p : parB [6, 6, 2] 10 = fun i => decide (([5, 5, 1] : List Int).getD i 0 < ([4, 4, 2] : List Int).getD i 0) := by
    funext i
    unfold parB
    rw [a, b]
  rw [p]
  decide +kernel
theorem m3 : lw (mis [1, 1, 1] 100 [34, 33, 33]) 3 = (4, 3) := by decide +kernel
theorem m4 : (nr [1, 1, 1, 1, 1, 1] 100).sum - 100 = 2 := by decide +kernel
theorem m5 : nr [1, 1] 101 = [51, 51] := by decide +kernel
theorem vd_of {ws : List Int} {N : Int} (h1 : (ws.all fun w => decide (0 ≤ w)) = true) (h2 : 0 < ws.sum) (h3 : 1 ≤ ws.length ∧ ws.length ≤ 30) (h4 : ws.sum.natAbs < 2 ^ 150) (h5 : 0 ≤ N ∧ N ≤ 1000001) : Vd ws N :=
  ⟨⟨fun w hw => of_decide_eq_true (List.all_eq_true.mp h1 w hw), h2, h3.1, h3.2⟩, h4, h5.1, h5.2⟩
/-! the generator -/
theorem generator_ok (n : Nat) (hn : n ≤ 1) (z : Int) : ∃ ds ρ', g_l_generatorT [none, some (.pu (.int (n : Nat))), some (.pu (.int z))] = .ret (.frs ds) ρ' ∧ Gen 1000 ds ∧ noLs ds = true := by
  have p1 : cPow 10 18 = true := by decide +kernel
  have p2 : cPow 10 60 = true := by decide +kernel
  have p3 : cPow (10 ^ (60 : Int).toNat) 10 = true := by decide +kernel
  have b1 : (0 : Int) < (10 ^ (60 : Int).toNat) ^ (10 : Int).toNat := by decide +kernel
  have r : RtL g_l_generatorT [none, some (.pu (.int (n : Nat))), some (.pu (.int z))] [.int ((if (0 : Int) > z - 10 ^ (18 : Int).toNat then 0 else z - 10 ^ (18 : Int).toNat).fmod ((10 ^ (60 : Int).toNat) ^ (10 : Int).toNat)), .int (z.fmod 2147483647), .int (1000 * (n : Nat))] := by
    refine .ret (Evl.bndA (k := gMkL) (.cons (ev_mod (ev_int (ev_max (ev_subI (.var rfl) (ev_pow .k .k p1)) .k)) (ev_pow (ev_pow .k .k p2) .k p3) (by omega)) (.cons (ev_mod (ev_int (.var rfl)) .k (by decide)) (.cons (ev_mul .k (.var rfl) (.inl (by decide))) .nil))) rfl) rfl
  obtain ⟨ρ', h1, _⟩ := r
  have q1 := fmod_range (i := if (0 : Int) > z - 10 ^ (18 : Int).toNat then 0 else z - 10 ^ (18 : Int).toNat) b1
  have q2 := fmod_range (i := z) (j := 2147483647) (by decide)
  exact ⟨_, ρ', h1, ⟨_, _, _, rfl, q1.1, q2.1, q2.2, by omega, by omega⟩, rfl⟩
/-! what is refused -/
def WB : List D := [.none, .int 7, .tuple [], .list [], .list [.int 0], .list [.int 0, .int 0], .tuple [.int 1, .int 2], .list [.int (-1), .int 2], .list [.bool true], .list [.none], .list [.str "1"], .list (List.replicate 31 (.int 1)), .dict []]
def NB : List D := [.none, .int 0, .int 1000001, .int (-1), .bool true, .str "100", .list [.int 100]]
section
variable {ca : Str → Addr}
theorem cw_str : FrE (F_check_weights ca) [.list [.str "1"]] (ca "InvalidWeights") (.list [.str "1"]) := by
  have lay : ∀ d ∈ [PyData.str "1"], dOk d = true ∧ d.canLay0 = true ∧ d.depth ≤ 10 := fun d hd => by
    rw [List.mem_singleton.mp hd]
    exact ⟨rfl, by decide +kernel, by simp [PyData.depth]⟩
  have e2 := (ev_isNil (lay_filter (p := fun d => !isCt d) lay) (lc_cnt (fun d h => fr_is_count h) (ds := [.str "1"]) (fa := fVar 0) (j := 1) (ρ := args 2 [.list [.str "1"]]) (.var rfl) (fun d hd => (lay d hd).1) (by show 1 ≤ 1000; decide) rfl)).2
  exact frE_of (Er.seq (ρ1 := args 2 [.list [.str "1"]]) (Nx.if (x := false) (.or (x := false) (y := false) (.not (x := true) (Ev.op1 (w := .pu (.bool true)) (.var rfl) rfl)) fun _ => .not (x := true) (ev_chain .k (ev_len (.var rfl)) .k (by decide) (by decide))) (fun z => nomatch z) fun _ => .nx) (Er.if (x := true) (.or (x := true) (y := true) e2 fun z => nomatch z) (fun _ => Er.raise (.cons (.var rfl) .nil)) fun z => nomatch z))
theorem cw_err : ∀ d ∈ WB, FrE (F_check_weights ca) [d] (ca "InvalidWeights") d := fun d hd => by
  simp only [WB, List.mem_cons, List.not_mem_nil, or_false] at hd
  rcases hd with rfl | rfl | rfl | rfl | rfl | rfl | rfl | rfl | rfl | rfl | rfl | rfl | rfl
  case _ => rfl
  case _ => rfl
  case _ => rfl
  case _ => rfl
  case _ => rfl
  case _ => rfl
  case _ => rfl
  case _ => rfl
  case _ => rfl
  case _ => rfl
  case _ => exact cw_str
  case _ => rfl
  case _ => rfl
theorem cn_err : ∀ d ∈ NB, FrE (F_check_whole ca) [iL [1, 2], d] (ca "InvalidNumber") d := fun d hd => by
  simp only [NB, List.mem_cons, List.not_mem_nil, or_false] at hd
  rcases hd with rfl | rfl | rfl | rfl | rfl | rfl | rfl <;> rfl
theorem wb_rpr : ∀ d ∈ WB, Rpr d := by
  have h : ∀ d ∈ WB, (gRepr [d]).isSome = true := by decide +kernel
  exact fun d hd => Rpr.of (h d hd)
theorem nb_rpr : ∀ d ∈ NB, Rpr d := by
  have h : ∀ d ∈ NB, (gRepr [d]).isSome = true := by decide +kernel
  exact fun d hd => Rpr.of (h d hd)
theorem ch_first {d e : D} (hd : d ∈ WB) : FrE (F_check_whole ca) [d, e] (ca "InvalidWeights") d := frE_of (Er.now (Er.drop (callE (.cons (.var rfl) .nil) (cw_err d hd) rfl)))
theorem e_shares {a b v : D} {c : Addr} (h : FrE (F_check_whole ca) [a, b] c v) : FrE (F_shares_of ca) [a, b] c v := frE_of (Er.now (Er.drop (callE (.cons (.var rfl) (.cons (.var rfl) .nil)) h rfl)))
theorem e_are {a b x v : D} {c : Addr} (h : FrE (F_check_whole ca) [a, b] c v) : FrE (F_are_shares ca) [a, b, x] c v := frE_of (Er.now (Er.drop (callE (.cons (.var rfl) (.cons (.var rfl) .nil)) h rfl)))
theorem e_count {a b v : D} {c : Addr} (h : FrE (F_check_whole ca) [a, b] c v) : FrE (F_share_count ca) [a, b] c v := frE_of (Er.now (Er.drop (callE (.cons (.var rfl) (.cons (.var rfl) .nil)) h rfl)))
theorem e_missed {a b x v : D} {c : Addr} (h : FrE (F_check_whole ca) [a, b] c v) : FrE (F_missed ca) [x, a, b] c v := frE_of (Er.now (Er.drop (callE (.cons (.var rfl) (.cons (.var rfl) .nil)) h rfl)))
theorem e_plain {a b v : D} {c : Addr} (h : FrE (F_check_whole ca) [a, b] c v) : FrE (F_plain_shares ca) [a, b] c v := frE_of (Er.now (Er.drop (callE (.cons (.var rfl) (.cons (.var rfl) .nil)) h rfl)))
theorem e_gap {a b v : D} {c : Addr} (h : FrE (F_check_whole ca) [a, b] c v) : FrE (F_gap_of ca) [a, b] c v := frE_of (Er.now (Er.drop (callE (.cons (.var rfl) (.cons (.var rfl) .nil)) h rfl)))
theorem e_par {a b v : D} {c : Addr} (h : FrE (F_check_whole ca) [a, b] c v) : FrE (F_paradox ca) [a, b] c v := frE_of (Er.now (Er.drop (callE (.cons (.var rfl) (.cons (.var rfl) .nil)) h rfl)))
end
end K84
/-! B15: the law. -/
namespace K84
open PySem L2 PyProof.Rows DL SH
abbrev LE (ds es : List D) (x3 x4 x5 x6 x7 : Option Sl) : DL.Env := [none, some (.own 0 ds), some (.own 0 es), x3, x4, x5, x6, x7]
theorem srcA_S {fs : DL.Env → RL} {k : List D → Option (List D)} {ρ ρ1 : DL.Env} {ds items : List D} (ha : EvLS fs ρ ρ1 ds) (h : k ds = some items) : srcA fs k ρ = .ok items ρ1 := by
  unfold srcA
  rw [show fs ρ = _ from ha]
  dsimp only
  rw [h]
theorem lc_src {src : DL.Env → RI} {bind : D → DL.Env → Option DL.Env} {ft fe : DL.Env → RE} {vs : List Nat} {ρ ρ1 : DL.Env} {items : List D} (h : src ρ = .ok items ρ1) : fLc src bind ft fe vs ρ = fLc (fun ρ => .ok items ρ) bind ft fe vs ρ1 := by
  unfold fLc
  rw [h]
theorem nx_setOS {ρ ρ1 ρ2 : DL.Env} {i t t0 : Nat} {ds ds0 : List D} {fv fi : DL.Env → RE} {j : Nat} {d : D} (hv : EvS fv ρ ρ1 d) (h1 : ρ1[i]? = some (some (.own t0 ds0))) (hi : EvS fi ρ1 ρ2 (.int (j : Nat))) (h2 : ρ2[i]? = some (some (.own t ds))) (hj : j < ds.length) : Nx (sSetO i fv fi) ρ (ρ2.set i (some (.own t (ds.set j d)))) := by
  obtain ⟨w, e1, rfl⟩ := hv
  obtain ⟨u, e2, e3⟩ := hi
  unfold Nx sSetO sE
  rw [e1]
  dsimp only
  rw [h1]
  dsimp only
  rw [e2]
  dsimp only
  rw [h2, e3]
  dsimp only
  have ix : ixN ds.length ((j : Nat) : Int) = some j := by
    unfold ixN
    rw [if_pos (by omega), if_pos (by omega), Int.toNat_natCast]
  rw [ix]
theorem ints_of {p : Int → Prop} : ∀ {ds : List D}, (∀ d ∈ ds, ∃ z, d = .int z ∧ p z) → ∃ ns, ds = isD ns ∧ ∀ z ∈ ns, p z
  | [], _ => ⟨[], rfl, fun z hz => absurd hz (by simp)⟩
  | d :: ds, h => by
    obtain ⟨z, rfl, hz⟩ := h d List.mem_cons_self
    obtain ⟨ns, rfl, hn⟩ := ints_of (ds := ds) fun y hy => h y (List.mem_cons_of_mem _ hy)
    refine ⟨z :: ns, rfl, fun y hy => ?_⟩
    rcases List.mem_cons.mp hy with e | e
    · rw [e]; exact hz
    · exact hn y e
theorem sum_bound {M : Int} : ∀ {ws : List Int}, (∀ w ∈ ws, 0 ≤ w ∧ w ≤ M) → 0 ≤ ws.sum ∧ ws.sum ≤ (ws.length : Nat) * M
  | [], _ => by simp
  | w :: ws, h => by
    obtain ⟨a, b⟩ := h w List.mem_cons_self
    obtain ⟨c, d⟩ := sum_bound (ws := ws) fun y hy => h y (List.mem_cons_of_mem _ hy)
    rw [List.sum_cons, List.length_cons, Int.natCast_add, Int.add_mul]
    simp only [Int.natCast_one, Int.one_mul]
    omega
def TM : Int := 10 ^ 40
theorem vd_big {ws : List Int} {N : Int} (h : ∀ w ∈ ws, 0 ≤ w ∧ w ≤ TM) (hp : ∃ w ∈ ws, 1 ≤ w) (h30 : ws.length ≤ 30) (h1 : 0 ≤ N) (h2 : N ≤ 1000001) : Vd ws N := by
  obtain ⟨w, hw, hw1⟩ := hp
  obtain ⟨s0, s1⟩ := sum_bound h
  have le := le_sum (fun x hx => (h x hx).1) w hw
  have l1 : 1 ≤ ws.length := List.length_pos_of_mem hw
  refine ⟨⟨fun x hx => (h x hx).1, by omega, l1, h30⟩, ?_, h1, h2⟩
  have q : ((ws.length : Nat) : Int) * TM ≤ 30 * TM := Int.mul_le_mul_of_nonneg_right (by omega) (by decide)
  have b : 30 * TM < ((2 ^ 150 : Nat) : Int) := by decide
  have e : ws.sum < ((2 ^ 150 : Nat) : Int) := by omega
  generalize (2 : Nat) ^ 150 = z at *
  omega
theorem tm45 : TM < 10 ^ 45 := by decide
section
variable {P : Program} {K : PySem.W.Frag} {mg : Str → Option Value} {ca : Str → Addr}
theorem wb_loop (X : Exs P K mg ca) {ds es : List D} {x3 x4 x5 x7 : Option Sl} (fbs : List (DL.Env → RE)) (hf : fbs.length ≤ sizeLine) (n wd : Str) (L : List D) (hfb : ∀ d ∈ L, ∀ fb ∈ fbs, fb (pubE (LE ds es x3 x4 x5 (some (.pu d)) x7)) = .err (ca n) d) (hr : ∀ d ∈ L, RefOk K ca n wd d) : ∀ (l : List D) (x6 : Option Sl), (∀ d ∈ l, d ∈ L) →
    ∃ x6', forGo (bName 6) (sIf (fNot (fAllRefd K ca n wd fbs 6)) (sRet (fC (.bool false))) (.nx)) l (LE ds es x3 x4 x5 x6 x7) = .nx (LE ds es x3 x4 x5 x6' x7)
  | [], x6, _ => ⟨x6, rfl⟩
  | d :: l, x6, h => by
    obtain ⟨x6', h1⟩ := wb_loop X fbs hf n wd L hfb hr l (some (.pu d)) fun y hy => h y (List.mem_cons_of_mem _ hy)
    have hd := h d List.mem_cons_self
    exact ⟨x6', for_cons (ρ1 := LE ds es x3 x4 x5 (some (.pu d)) x7) rfl (Nx.if (x := false) (.not (x := true) (fAllRefd_ok (m := 0) (d := d) rfl (hfb d hd) (hr d hd) hf)) (fun z => nomatch z) fun _ => .nx) h1⟩
theorem mkI {ρ : DL.Env} {fs : DL.Env → RL} {ns : List Int} (h : EvL fs ρ (isD ns)) (hl : ns.length ≤ 1000) : Ev (bndA fs gMkL) ρ (iL ns) := (ev_mkL h (by simpa [isD] using hl)).ev
theorem wb_src {ρ : DL.Env} : srcE (bndA (fCons (fC .none) (fCons (fC (.int 7)) (fCons (bndA (fNil) gMkT) (fCons (bndA (fNil) gMkL) (fCons (bndA (fCons (fC (.int 0)) (fNil)) gMkL) (fCons (bndA (fCons (fC (.int 0)) (fCons (fC (.int 0)) (fNil))) gMkL) (fCons (bndA (fCons (fC (.int 1)) (fCons (fC (.int 2)) (fNil))) gMkT) (fCons (bndA (fCons (fOp2 gSub (fC (.int 0)) (fC (.int 1))) (fCons (fC (.int 2)) (fNil))) gMkL) (fCons (bndA (fCons (fC (.bool true)) (fNil)) gMkL) (fCons (bndA (fCons (fC .none) (fNil)) gMkL) (fCons (bndA (fCons (fC (.str "1")) (fNil)) gMkL) (fCons (fOp2 gMul (bndA (fCons (fC (.int 1)) (fNil)) gMkL) (fC (.int 31))) (fCons (fDict0) (fNil)))))))))))))) gMkL) itemsL ρ = .ok WB ρ := by
  have l1 : ∀ d : D, Ev (bndA (fCons (fC d) (fNil)) gMkL) ρ (.list [d]) := fun d => (ev_mkL (.cons .k .nil) (by show 1 ≤ 1000; decide)).ev
  have e31 : Ev (fOp2 gMul (bndA (fCons (fC (.int 1)) (fNil)) gMkL) (fC (.int 31))) ρ (.list (List.replicate 31 (.int 1))) := Ev.op2 (w := .frs (List.replicate 31 (.int 1))) (l1 (.int 1)) .k rfl
  have ed : Ev fDict0 ρ (.dict []) := ⟨.pu (.dict []), rfl, rfl⟩
  have em : Ev (fOp2 gSub (fC (.int 0)) (fC (.int 1))) ρ (.int (-1)) := ev_subI (i := 0) (j := 1) .k .k
  exact src_list (ev_mkL (.cons .k (.cons .k (.cons (ev_mkT .nil (by show 0 ≤ 1000; decide)) (.cons (ev_mkL .nil (by show 0 ≤ 1000; decide)).ev (.cons (l1 _) (.cons (ev_mkL (.cons .k (.cons .k .nil)) (by show 2 ≤ 1000; decide)).ev (.cons (ev_mkT (.cons .k (.cons .k .nil)) (by show 2 ≤ 1000; decide)) (.cons (ev_mkL (.cons em (.cons .k .nil)) (by show 2 ≤ 1000; decide)).ev (.cons (l1 _) (.cons (l1 _) (.cons (l1 _) (.cons e31 (.cons ed .nil))))))))))))) (by show 13 ≤ 1000; decide)).ev
theorem nb_src {ρ : DL.Env} : srcE (bndA (fCons (fC .none) (fCons (fC (.int 0)) (fCons (fOp2 gAdd (fOp2 gPow (fC (.int 10)) (fC (.int 6))) (fC (.int 1))) (fCons (fOp2 gSub (fC (.int 0)) (fC (.int 1))) (fCons (fC (.bool true)) (fCons (fC (.str "100")) (fCons (bndA (fCons (fC (.int 100)) (fNil)) gMkL) (fNil)))))))) gMkL) itemsL ρ = .ok NB ρ := by
  have ep : Ev (fOp2 gAdd (fOp2 gPow (fC (.int 10)) (fC (.int 6))) (fC (.int 1))) ρ (.int 1000001) := ev_addI (i := 10 ^ (6 : Int).toNat) (j := 1) (ev_pow .k .k (by decide +kernel)) .k
  have em : Ev (fOp2 gSub (fC (.int 0)) (fC (.int 1))) ρ (.int (-1)) := ev_subI (i := 0) (j := 1) .k .k
  exact src_list (ev_mkL (.cons .k (.cons .k (.cons ep (.cons em (.cons .k (.cons .k (.cons (ev_mkL (.cons .k .nil) (by show 1 ≤ 1000; decide)).ev .nil))))))) (by show 7 ≤ 1000; decide)).ev
theorem fin_ok {ρ : DL.Env} (h7 : 7 < ρ.length) : ∃ ρ1, Nx (sPut 7 (bndA (fCons (fCall 2 (F_shares_of ca) (fCons (bndA (fCons (fC (.int 1)) (fCons (fC (.int 1)) (fCons (fC (.int 1)) (fNil)))) gMkL) (fCons (fC (.int 100)) (fNil)))) (fCons (fCall 3 (F_missed ca) (fCons (bndA (fCons (fC (.int 34)) (fCons (fC (.int 33)) (fCons (fC (.int 33)) (fNil)))) gMkL) (fCons (bndA (fCons (fC (.int 1)) (fCons (fC (.int 1)) (fCons (fC (.int 1)) (fNil)))) gMkL) (fCons (fC (.int 100)) (fNil))))) (fCons (fCall 2 (F_paradox ca) (fCons (bndA (fCons (fC (.int 6)) (fCons (fC (.int 6)) (fCons (fC (.int 2)) (fNil)))) gMkL) (fCons (fC (.int 10)) (fNil)))) (fCons (fCall 2 (F_gap_of ca) (fCons (fOp2 gMul (bndA (fCons (fC (.int 1)) (fNil)) gMkL) (fC (.int 6))) (fCons (fC (.int 100)) (fNil)))) (fCons (fCall 2 (F_plain_shares ca) (fCons (bndA (fCons (fC (.int 1)) (fCons (fC (.int 1)) (fNil))) gMkL) (fCons (fC (.int 101)) (fNil)))) (fNil)))))) gMkL)) ρ ρ1 ∧
    ∃ w, sRet (fCall 2 (F_l_same 8) (fCons (fVar 7) (fCons (bndA (fCons (bndA (fCons (fC (.int 34)) (fCons (fC (.int 33)) (fCons (fC (.int 33)) (fNil)))) gMkL) (fCons (bndA (fCons (fC (.int 4)) (fCons (fC (.int 3)) (fNil))) gMkT) (fCons (fC (.int 2)) (fCons (fC (.int 2)) (fCons (bndA (fCons (fC (.int 51)) (fCons (fC (.int 51)) (fNil))) gMkL) (fNil)))))) gMkL) (fNil)))) ρ1 = .ret w ρ1 ∧ w.d = .bool true := by
  have V1 : Vd [1, 1, 1] 100 := vd_of (by decide) (by decide) (by decide) (by decide +kernel) (by decide)
  have V2 : Vd [6, 6, 2] 10 := vd_of (by decide) (by decide) (by decide) (by decide +kernel) (by decide)
  have V3 : Vd [1, 1, 1, 1, 1, 1] 100 := vd_of (by decide) (by decide) (by decide) (by decide +kernel) (by decide)
  have V4 : Vd [1, 1] 101 := vd_of (by decide) (by decide) (by decide) (by decide +kernel) (by decide)
  have q1 := (fr_shares_of (ca := ca) V1 (by decide) (by decide)).fr
  rw [m1] at q1
  have q2 := fr_missed (ca := ca) V1 (by decide) (by decide) (vs := [34, 33, 33]) rfl (by decide) (by decide) (vo_iL (by decide))
  rw [show ([1, 1, 1] : List Int).sum = 3 by decide, m3] at q2
  have q3 := fr_paradox (ca := ca) V2 (by decide) (by decide)
  rw [show ([6, 6, 2] : List Int).length = 3 from rfl, m2] at q3
  have q4 := fr_gap (ca := ca) V3 (by decide) (by decide)
  rw [m4] at q4
  have q5 := fr_plain (ca := ca) V4 (by decide) (by decide)
  rw [m5] at q5
  have l3 : ∀ (a b c : Int) (ρ : DL.Env), Ev (bndA (fCons (fC (.int a)) (fCons (fC (.int b)) (fCons (fC (.int c)) (fNil)))) gMkL) ρ (iL [a, b, c]) := fun a b c ρ => mkI (ns := [a, b, c]) (.cons .k (.cons .k (.cons .k .nil))) (by show 3 ≤ 1000; decide)
  have l2 : ∀ (a b : Int) (ρ : DL.Env), Ev (bndA (fCons (fC (.int a)) (fCons (fC (.int b)) (fNil))) gMkL) ρ (iL [a, b]) := fun a b ρ => mkI (ns := [a, b]) (.cons .k (.cons .k .nil)) (by show 2 ≤ 1000; decide)
  have l1 : ∀ (a : Int) (ρ : DL.Env), Ev (bndA (fCons (fC (.int a)) (fNil)) gMkL) ρ (iL [a]) := fun a ρ => mkI (ns := [a]) (.cons .k .nil) (by show 1 ≤ 1000; decide)
  have e6 : ∀ ρ : DL.Env, Ev (fOp2 gMul (bndA (fCons (fC (.int 1)) (fNil)) gMkL) (fC (.int 6))) ρ (iL [1, 1, 1, 1, 1, 1]) := fun ρ => Ev.op2 (w := .frs (isD [1, 1, 1, 1, 1, 1])) (l1 1 ρ) .k rfl
  let T : List D := [iL [34, 33, 33], fD (4, 3), .int 2, .int 2, iL [51, 51]]
  have t1 : Ev (bndA (fCons (fCall 2 (F_shares_of ca) (fCons (bndA (fCons (fC (.int 1)) (fCons (fC (.int 1)) (fCons (fC (.int 1)) (fNil)))) gMkL) (fCons (fC (.int 100)) (fNil)))) (fCons (fCall 3 (F_missed ca) (fCons (bndA (fCons (fC (.int 34)) (fCons (fC (.int 33)) (fCons (fC (.int 33)) (fNil)))) gMkL) (fCons (bndA (fCons (fC (.int 1)) (fCons (fC (.int 1)) (fCons (fC (.int 1)) (fNil)))) gMkL) (fCons (fC (.int 100)) (fNil))))) (fCons (fCall 2 (F_paradox ca) (fCons (bndA (fCons (fC (.int 6)) (fCons (fC (.int 6)) (fCons (fC (.int 2)) (fNil)))) gMkL) (fCons (fC (.int 10)) (fNil)))) (fCons (fCall 2 (F_gap_of ca) (fCons (fOp2 gMul (bndA (fCons (fC (.int 1)) (fNil)) gMkL) (fC (.int 6))) (fCons (fC (.int 100)) (fNil)))) (fCons (fCall 2 (F_plain_shares ca) (fCons (bndA (fCons (fC (.int 1)) (fCons (fC (.int 1)) (fNil))) gMkL) (fCons (fC (.int 101)) (fNil)))) (fNil)))))) gMkL) ρ (.list T) :=
    (ev_mkL (.cons (.call (.cons (l3 1 1 1 ρ) (.cons .k .nil)) q1 rfl) (.cons (.call (.cons (l3 34 33 33 ρ) (.cons (l3 1 1 1 ρ) (.cons .k .nil))) q2 rfl) (.cons (.call (.cons (l3 6 6 2 ρ) (.cons .k .nil)) q3 rfl) (.cons (.call (.cons (e6 ρ) (.cons .k .nil)) q4 rfl) (.cons (.call (.cons (l2 1 1 ρ) (.cons .k .nil)) q5 rfl) .nil))))) (by show 5 ≤ 1000; decide)).ev
  have s8 : Fr (F_l_same 8) [.list T, .list T] (.bool true) := same_list 7 (by show 5 ≤ 1000; decide) fun y hy => by
    simp only [T, List.mem_cons, List.not_mem_nil, or_false] at hy
    rcases hy with rfl | rfl | rfl | rfl | rfl
    · exact same_iL 5 (by show 3 ≤ 1000; decide)
    · exact same_fD 5 _
    · exact same_int 6 _
    · exact same_int 6 _
    · exact same_iL 5 (by show 2 ≤ 1000; decide)
  refine ⟨_, Nx.put t1, ?_⟩
  exact ret_s (Ev.s (.call (.cons (.var (List.getElem?_set_self h7)) (.cons (ev_mkL (.cons (l3 34 33 33 _) (.cons (ev_mkT (EvL.cons .k (EvL.cons .k .nil)) (by show 2 ≤ 1000; decide)) (.cons .k (.cons .k (.cons (l2 51 51 _) .nil))))) (by show 5 ≤ 1000; decide)).ev .nil)) s8 rfl))
end
end K84
/-! B16: the law answers True. -/
namespace K84
open PySem L2 PyProof.Rows DL SH
section
variable {P : Program} {K : PySem.W.Frag} {mg : Str → Option Value} {ca : Str → Addr}
def LW : List Int := [0, 1, 1, 2, 3, 7, 100, 12345]
def LN : List Int := [1, 7, 10, 100, 100, 1000]
theorem small_b {b : Int} (h : 0 ≤ b ∧ b ≤ 1000000) : b.natAbs < 2 ^ 149 := Nat.lt_of_le_of_lt (show b.natAbs ≤ 1000000 by omega) (by decide)
/-- the first weights -/
theorem law_w1 {ds es : List D} {m : Nat} (G : Gen m ds) (hm : m + 1000 < 2 ^ 50) : ∃ ds2 ns, Gen (m + 78) ds2 ∧ (∀ z ∈ ns, z ∈ LW) ∧ 1 ≤ ns.length ∧ ns.length ≤ 12 ∧
    Nx (sOwn 3 (fLc (srcA (fCons (fOp2 gAdd (fC (.int 1)) (fLend 2 1 F_l_random (fCons (fC (.int 12)) (fNil)))) (fNil)) kRng1) (bName 4) (fC (.bool true)) (fLend 2 1 F_l_pick (fCons (bndA (fCons (fC (.int 0)) (fCons (fC (.int 1)) (fCons (fC (.int 1)) (fCons (fC (.int 2)) (fCons (fC (.int 3)) (fCons (fC (.int 7)) (fCons (fC (.int 100)) (fCons (fC (.int 12345)) (fNil))))))))) gMkL) (fNil))) [4])) (LE ds es none none none none none) (LE ds2 es (some (.own 0 (isD ns))) none none none none) := by
  obtain ⟨r, d1, f1, q1, G1⟩ := random_ok (b := 12) G (by omega) (by decide) (small_b (by decide))
  have e1 : EvS (fOp2 gAdd (fC (.int 1)) (fLend 2 1 F_l_random (fCons (fC (.int 12)) (fNil)))) (LE ds es none none none none none) (LE d1 es none none none none none) (.int ((1 + r : Nat) : Int)) := by
    have z := EvS.op2 (g := gAdd) (w := .pu (.int (1 + (r : Nat)))) (Ev.s (ρ := LE ds es none none none none none) (f := fC (.int 1)) .k) (EvS.lend (t := 0) (ds := ds) (i := 1) (n := 2) (es := [.int 12]) (ρ := LE ds es none none none none none) rfl (.cons .k .nil) rfl f1) rfl
    rw [show W.d (.pu (.int (1 + ((r : Nat) : Int)))) = .int ((1 + r : Nat) : Int) by show PyData.int _ = _; congr 1 <;> omega] at z
    exact z
  have sr := srcA_S (.cons e1 .nil) (rng1 (n := 1 + r) (Nat.lt_of_le_of_lt (show 1 + r ≤ 12 by omega) (by decide)))
  obtain ⟨l, ρ', h1, h2, h3, d2, G2, rfl⟩ := evs_lc (src := fun ρ => .ok ((List.range (1 + r)).map fun i : Nat => .int (i : Nat)) ρ) (bind := bName 4) (fe := fLend 2 1 F_l_pick (fCons (bndA (fCons (fC (.int 0)) (fCons (fC (.int 1)) (fCons (fC (.int 1)) (fCons (fC (.int 2)) (fCons (fC (.int 3)) (fCons (fC (.int 7)) (fCons (fC (.int 100)) (fCons (fC (.int 12345)) (fNil))))))))) gMkL) (fNil))) (vs := [4]) (ρ := LE d1 es none none none none none) (fun i : Nat => .int (i : Nat)) 6 (m + 78) (fun k ρ => ∃ ds, Gen k ds ∧ ρ = LE ds es none none none none none) (fun v => ∃ z, v = .int z ∧ z ∈ LW) (List.range (1 + r)) (m + 6)
    rfl rfl (by rw [List.length_range]; exact Nat.le_trans (show 1 + r ≤ 12 by omega) (by decide)) (by rw [List.length_range]; omega) ⟨d1, G1, rfl⟩ fun j hj k ρ hI hk => by
      obtain ⟨dk, Gk, rfl⟩ := hI
      obtain ⟨z, d2, f2, z2, G2⟩ := pick_ok (ns := LW) Gk (by omega) (by decide) (by decide)
      exact ⟨_, _, .int z, rfl, EvS.lend (t := 0) (ds := dk) (es := [iL LW]) rfl (.cons (mkI (ns := LW) (.cons .k (.cons .k (.cons .k (.cons .k (.cons .k (.cons .k (.cons .k (.cons .k .nil)))))))) (by decide)) .nil) rfl f2, ⟨d2, G2, rfl⟩, z, rfl, z2⟩
  rw [List.length_range] at h2 G2
  obtain ⟨ns, rfl, hn⟩ := ints_of h3
  have hl : ns.length = 1 + r := by simpa [isD] using h2
  refine ⟨d2, ns, ?_, hn, by omega, by omega, ?_⟩
  · obtain ⟨a, s, c, e, i1, i2, i3, i4, i5⟩ := G2
    exact ⟨a, s, c, e, i1, i2, i3, i4, by omega⟩
  · unfold Nx sOwn sE
    rw [lc_src sr, h1]
    dsimp only
    rw [if_pos (show noN (LE d2 es none none none none none) = true from rfl)]
    rfl
theorem lw_range : ∀ z ∈ LW, 0 ≤ z ∧ z ≤ 12345 := by decide
theorem ln_range : ∀ z ∈ LN, 1 ≤ z ∧ z ≤ 1000 := by decide
theorem Gen.up {m n : Nat} {ds : List D} (G : Gen m ds) (h : m ≤ n) : Gen n ds := by
  obtain ⟨a, s, c, e, i1, i2, i3, i4, i5⟩ := G
  exact ⟨a, s, c, e, i1, i2, i3, i4, by omega⟩
/-- one of them is put -/
theorem law_w2 {ds es : List D} {m : Nat} {ns : List Int} (G : Gen m ds) (hm : m + 1000 < 2 ^ 50) (h1 : 1 ≤ ns.length) (h2 : ns.length ≤ 12) : ∃ (ds2 : List D) (j r : Nat), Gen (m + 12) ds2 ∧ j < ns.length ∧ r < 50 ∧
    Nx (sSetO 3 (fOp2 gAdd (fC (.int 1)) (fLend 2 1 F_l_random (fCons (fC (.int 50)) (fNil)))) (fLend 2 1 F_l_random (fCons (fLenO 3) (fNil)))) (LE ds es (some (.own 0 (isD ns))) none none none none) (LE ds2 es (some (.own 0 (isD (ns.set j (1 + (r : Nat)))))) none none none none) := by
  obtain ⟨r, d1, f1, q1, G1⟩ := random_ok (b := 50) G (by omega) (by decide) (small_b (by decide))
  obtain ⟨j, d2, f2, q2, G2⟩ := random_ok (b := (ns.length : Nat)) G1 (by omega) (by omega) (small_b (by omega))
  have e1 : EvS (fOp2 gAdd (fC (.int 1)) (fLend 2 1 F_l_random (fCons (fC (.int 50)) (fNil)))) (LE ds es (some (.own 0 (isD ns))) none none none none) (LE d1 es (some (.own 0 (isD ns))) none none none none) (.int (1 + (r : Nat))) :=
    EvS.op2 (g := gAdd) (w := .pu (.int (1 + (r : Nat)))) (Ev.s (ρ := LE ds es (some (.own 0 (isD ns))) none none none none) (f := fC (.int 1)) .k) (EvS.lend (t := 0) (ds := ds) (i := 1) (n := 2) (es := [.int 50]) (ρ := LE ds es (some (.own 0 (isD ns))) none none none none) rfl (.cons .k .nil) rfl f1) rfl
  have ln : Ev (fLenO 3) (LE d1 es (some (.own 0 (isD ns))) none none none none) (.int (ns.length : Nat)) := by
    refine ⟨.pu (.int ((isD ns).length : Nat)), rfl, ?_⟩
    show PyData.int _ = _
    rw [show (isD ns).length = ns.length from List.length_map _]
  have e2 : EvS (fLend 2 1 F_l_random (fCons (fLenO 3) (fNil))) (LE d1 es (some (.own 0 (isD ns))) none none none none) (LE d2 es (some (.own 0 (isD ns))) none none none none) (.int (j : Nat)) := EvS.lend (t := 0) (ds := d1) (es := [.int (ns.length : Nat)]) rfl (.cons ln .nil) rfl f2
  refine ⟨d2, j, r, G2, by omega, by omega, ?_⟩
  have z := nx_setOS (i := 3) (t := 0) (t0 := 0) (ds := isD ns) (ds0 := isD ns) e1 rfl e2 rfl (by rw [show (isD ns).length = ns.length from List.length_map _]; omega)
  have e : isD (ns.set j (1 + ((r : Nat) : Int))) = (isD ns).set j (.int (1 + (r : Nat))) := by unfold isD; rw [List.map_set]
  rw [e]
  exact z
/-- the great weights -/
theorem law_w3 {ds es : List D} {x3 : Option Sl} {m : Nat} (G : Gen m es) (hm : m + 1000 < 2 ^ 50) : ∃ es2 ns, Gen (m + 180) es2 ∧ (∀ z ∈ ns, 1 ≤ z ∧ z ≤ TM) ∧ ns.length = 30 ∧
    Nx (sPut 5 (fLc (srcA (fCons (fC (.int 30)) (fNil)) kRng1) (bName 4) (fC (.bool true)) (fOp2 gAdd (fC (.int 1)) (fLend 2 2 F_l_random (fCons (fOp2 gPow (fC (.int 10)) (fC (.int 40))) (fNil)))) [4])) (LE ds es x3 none none none none) (LE ds es2 x3 none (some (.pu (iL ns))) none none) := by
  have pw : ∀ ρ : DL.Env, Ev (fOp2 gPow (fC (.int 10)) (fC (.int 40))) ρ (.int TM) := fun ρ => ev_pow (i := 10) (j := 40) .k .k (by decide +kernel)
  obtain ⟨l, ρ', h1, h2, h3, d2, G2, rfl⟩ := evs_lc (src := srcA (fCons (fC (.int 30)) (fNil)) kRng1) (bind := bName 4) (fe := fOp2 gAdd (fC (.int 1)) (fLend 2 2 F_l_random (fCons (fOp2 gPow (fC (.int 10)) (fC (.int 40))) (fNil)))) (vs := [4]) (ρ := LE ds es x3 none none none none) (fun i : Nat => .int (i : Nat)) 6 (m + 180) (fun k ρ => ∃ es, Gen k es ∧ ρ = LE ds es x3 none none none none) (fun v => ∃ z, v = .int z ∧ (1 ≤ z ∧ z ≤ TM)) (List.range 30) m
    (src_rng (n := 30) .k (by decide)) rfl (by rw [List.length_range]; decide) (by rw [List.length_range]; omega) ⟨es, G, rfl⟩ fun j hj k ρ hI hk => by
      obtain ⟨dk, Gk, rfl⟩ := hI
      obtain ⟨r, d2, f2, q2, G2⟩ := random_ok (b := TM) Gk (by omega) (by decide) (by decide +kernel)
      exact ⟨_, _, .int (1 + (r : Nat)), rfl, EvS.op2 (g := gAdd) (w := .pu (.int (1 + (r : Nat)))) (Ev.s .k) (EvS.lend (t := 0) (ds := dk) (es := [.int TM]) rfl (.cons (pw _) .nil) rfl f2) rfl, ⟨d2, G2, rfl⟩, _, rfl, by omega⟩
  rw [List.length_range] at h2 G2
  obtain ⟨ns, rfl, hn⟩ := ints_of h3
  have hl : ns.length = 30 := by simpa [isD] using h2
  exact ⟨d2, ns, G2, hn, hl, put_s ⟨_, h1, rfl⟩⟩
theorem law_ok (X : Exs P K mg ca) {ds es : List D} (G : Gen 1000 ds) (G2 : Gen 1000 es) : ∃ ρ2, g_lawT K ca [none, some (.own 0 ds), some (.own 0 es), none, none, none, none, none] = .ret (.pu (.bool true)) ρ2 := by
  -- the first weights
  obtain ⟨d1, ns, Ga, hn, l1, l12, n1⟩ := law_w1 (es := es) G (by decide)
  obtain ⟨d2, j, r, Gb, hj, hr, n2⟩ := law_w2 (es := es) Ga (by decide) l1 l12
  have l2 : (ns.set j (1 + ((r : Nat) : Int))).length = ns.length := List.length_set ..
  have rg1 : ∀ w ∈ ns.set j (1 + ((r : Nat) : Int)), 0 ≤ w ∧ w ≤ 12345 := set_range (fun z hz => lw_range z (hn z hz)) (by omega)
  have tmb : (12345 : Int) ≤ TM := by decide
  generalize hws : ns.set j (1 + ((r : Nat) : Int)) = ws at n2 l2 rg1
  have one : ∃ w ∈ ws, 1 ≤ w := ⟨1 + ((r : Nat) : Int), by rw [← hws]; exact List.mem_iff_getElem.mpr ⟨j, by rw [List.length_set]; exact hj, by simp⟩, by omega⟩
  -- judged
  obtain ⟨z, d3, f3, hz, Gc⟩ := pick_ok (ns := LN) Gb (by decide) (by decide) (by decide)
  have zr := ln_range z hz
  have V1 : Vd ws z := vd_big (fun w hw => by have := rg1 w hw; omega) one (by omega) (by omega) (by omega)
  obtain ⟨d4, f4, Gd⟩ := weights_right_ok (ca := ca) X V1 (by omega) (by omega) (fun w hw => by have := rg1 w hw; exact Int.lt_of_le_of_lt this.2 (by decide)) Gc (by decide)
  have n3 : Nx (sIf (fNot (fLend 3 1 (F_l_weights_right K ca) (fCons (fVar 3) (fCons (fLend 2 1 F_l_pick (fCons (bndA (fCons (fC (.int 1)) (fCons (fC (.int 7)) (fCons (fC (.int 10)) (fCons (fC (.int 100)) (fCons (fC (.int 100)) (fCons (fC (.int 1000)) (fNil))))))) gMkL) (fNil))) (fNil))))) (sRet (fC (.bool false))) (.nx)) (LE d2 es (some (.own 0 (isD ws))) none none none none) (LE d4 es (some (.pu (iL ws))) none none none none) := by
    have a1 : EvS (fVar 3) (LE d2 es (some (.own 0 (isD ws))) none none none none) (LE d2 es (some (.pu (iL ws))) none none none none) (iL ws) := ⟨.pu (iL ws), rfl, rfl⟩
    have a2 : EvS (fLend 2 1 F_l_pick (fCons (bndA (fCons (fC (.int 1)) (fCons (fC (.int 7)) (fCons (fC (.int 10)) (fCons (fC (.int 100)) (fCons (fC (.int 100)) (fCons (fC (.int 1000)) (fNil))))))) gMkL) (fNil))) (LE d2 es (some (.pu (iL ws))) none none none none) (LE d3 es (some (.pu (iL ws))) none none none none) (.int z) := EvS.lend (t := 0) (ds := d2) (es := [iL LN]) rfl (.cons (mkI (ns := LN) (.cons .k (.cons .k (.cons .k (.cons .k (.cons .k (.cons .k .nil)))))) (by decide)) .nil) rfl f3
    exact nx_ifS (EvS.not (x := true) (EvS.lendS (t := 0) (ds := d3) (t0 := 0) (ds0 := d2) rfl (.cons a1 (.cons a2 .nil)) rfl rfl f4))
  -- the great ones
  obtain ⟨e1, gs, Ge, hg, gl, n4⟩ := law_w3 (ds := d4) (x3 := some (.pu (iL ws))) G2 (by decide)
  obtain ⟨r2, e2, f5, q5, Gf⟩ := random_ok (b := 1000000) Ge (by decide) (by decide) (small_b (by decide))
  have one2 : ∃ w ∈ gs, 1 ≤ w := by
    have h0 : 0 < gs.length := by omega
    exact ⟨gs[0], List.getElem_mem h0, (hg _ (List.getElem_mem h0)).1⟩
  have V2 : Vd gs (1 + ((r2 : Nat) : Int)) := vd_big (fun w hw => by have := hg w hw; omega) one2 (by omega) (by omega) (by omega)
  obtain ⟨e3, f6, Gg⟩ := weights_right_ok (ca := ca) X V2 (by omega) (by omega) (fun w hw => Int.lt_of_le_of_lt (hg w hw).2 tm45) Gf (by decide)
  have n5 : Nx (sIf (fNot (fLend 3 2 (F_l_weights_right K ca) (fCons (fVar 5) (fCons (fOp2 gAdd (fC (.int 1)) (fLend 2 2 F_l_random (fCons (fOp2 gPow (fC (.int 10)) (fC (.int 6))) (fNil)))) (fNil))))) (sRet (fC (.bool false))) (.nx)) (LE d4 e1 (some (.pu (iL ws))) none (some (.pu (iL gs))) none none) (LE d4 e3 (some (.pu (iL ws))) none (some (.pu (iL gs))) none none) := by
    have a1 : EvS (fVar 5) (LE d4 e1 (some (.pu (iL ws))) none (some (.pu (iL gs))) none none) (LE d4 e1 (some (.pu (iL ws))) none (some (.pu (iL gs))) none none) (iL gs) := Ev.s (.var rfl)
    have p6 : Ev (fOp2 gPow (fC (.int 10)) (fC (.int 6))) (LE d4 e1 (some (.pu (iL ws))) none (some (.pu (iL gs))) none none) (.int 1000000) := ev_pow (i := 10) (j := 6) .k .k (by decide +kernel)
    have a2 : EvS (fOp2 gAdd (fC (.int 1)) (fLend 2 2 F_l_random (fCons (fOp2 gPow (fC (.int 10)) (fC (.int 6))) (fNil)))) (LE d4 e1 (some (.pu (iL ws))) none (some (.pu (iL gs))) none none) (LE d4 e2 (some (.pu (iL ws))) none (some (.pu (iL gs))) none none) (.int (1 + (r2 : Nat))) :=
      EvS.op2 (g := gAdd) (w := .pu (.int (1 + (r2 : Nat)))) (Ev.s (f := fC (.int 1)) .k) (EvS.lend (t := 0) (ds := e1) (i := 2) (n := 2) (es := [.int 1000000]) (ρ := LE d4 e1 (some (.pu (iL ws))) none (some (.pu (iL gs))) none none) rfl (.cons p6 .nil) rfl f5) rfl
    exact nx_ifS (EvS.not (x := true) (EvS.lendS (t := 0) (ds := e2) (t0 := 0) (ds0 := e1) rfl (.cons a1 (.cons a2 .nil)) rfl rfl f6))
  -- refused
  have l12 : ∀ ρ : DL.Env, Ev (bndA (fCons (fC (.int 1)) (fCons (fC (.int 2)) (fNil))) gMkL) ρ (iL [1, 2]) := fun ρ => mkI (ns := [1, 2]) (.cons .k (.cons .k .nil)) (by show 2 ≤ 1000; decide)
  obtain ⟨x6, n6⟩ := wb_loop X (ds := d4) (es := e3) (x3 := some (.pu (iL ws))) (x4 := none) (x5 := some (.pu (iL gs))) (x7 := none) [fCall 2 (F_shares_of ca) (fCons (fVar 6) (fCons (fC .none) (fNil))), fCall 3 (F_are_shares ca) (fCons (fVar 6) (fCons (fC .none) (fCons (fC .none) (fNil)))), fCall 2 (F_share_count ca) (fCons (fVar 6) (fCons (fC .none) (fNil))), fCall 3 (F_missed ca) (fCons (fC .none) (fCons (fVar 6) (fCons (fC .none) (fNil)))), fCall 2 (F_plain_shares ca) (fCons (fVar 6) (fCons (fC .none) (fNil))), fCall 2 (F_gap_of ca) (fCons (fVar 6) (fCons (fC .none) (fNil))), fCall 2 (F_paradox ca) (fCons (fVar 6) (fCons (fC .none) (fNil)))] (by show 7 ≤ sizeLine; decide) "InvalidWeights" "weights" WB (fun d hd fb hfb => by
    simp only [List.mem_cons, List.not_mem_nil, or_false] at hfb
    rcases hfb with rfl | rfl | rfl | rfl | rfl | rfl | rfl
    · exact callE (.cons (.var rfl) (.cons .k .nil)) (e_shares (ch_first hd)) rfl
    · exact callE (.cons (.var rfl) (.cons .k (.cons .k .nil))) (e_are (ch_first hd)) rfl
    · exact callE (.cons (.var rfl) (.cons .k .nil)) (e_count (ch_first hd)) rfl
    · exact callE (.cons .k (.cons (.var rfl) (.cons .k .nil))) (e_missed (ch_first hd)) rfl
    · exact callE (.cons (.var rfl) (.cons .k .nil)) (e_plain (ch_first hd)) rfl
    · exact callE (.cons (.var rfl) (.cons .k .nil)) (e_gap (ch_first hd)) rfl
    · exact callE (.cons (.var rfl) (.cons .k .nil)) (e_par (ch_first hd)) rfl) (fun d hd => ref_weights X (wb_rpr d hd)) WB none fun d hd => hd
  obtain ⟨y6, n7⟩ := wb_loop X (ds := d4) (es := e3) (x3 := some (.pu (iL ws))) (x4 := none) (x5 := some (.pu (iL gs))) (x7 := none) [fCall 2 (F_shares_of ca) (fCons (bndA (fCons (fC (.int 1)) (fCons (fC (.int 2)) (fNil))) gMkL) (fCons (fVar 6) (fNil))), fCall 3 (F_are_shares ca) (fCons (bndA (fCons (fC (.int 1)) (fCons (fC (.int 2)) (fNil))) gMkL) (fCons (fVar 6) (fCons (fC .none) (fNil)))), fCall 2 (F_share_count ca) (fCons (bndA (fCons (fC (.int 1)) (fCons (fC (.int 2)) (fNil))) gMkL) (fCons (fVar 6) (fNil))), fCall 3 (F_missed ca) (fCons (fC .none) (fCons (bndA (fCons (fC (.int 1)) (fCons (fC (.int 2)) (fNil))) gMkL) (fCons (fVar 6) (fNil)))), fCall 2 (F_plain_shares ca) (fCons (bndA (fCons (fC (.int 1)) (fCons (fC (.int 2)) (fNil))) gMkL) (fCons (fVar 6) (fNil))), fCall 2 (F_gap_of ca) (fCons (bndA (fCons (fC (.int 1)) (fCons (fC (.int 2)) (fNil))) gMkL) (fCons (fVar 6) (fNil))), fCall 2 (F_paradox ca) (fCons (bndA (fCons (fC (.int 1)) (fCons (fC (.int 2)) (fNil))) gMkL) (fCons (fVar 6) (fNil)))] (by show 7 ≤ sizeLine; decide) "InvalidNumber" "number" NB (fun d hd fb hfb => by
    simp only [List.mem_cons, List.not_mem_nil, or_false] at hfb
    rcases hfb with rfl | rfl | rfl | rfl | rfl | rfl | rfl
    · exact callE (.cons (l12 _) (.cons (.var rfl) .nil)) (e_shares (cn_err d hd)) rfl
    · exact callE (.cons (l12 _) (.cons (.var rfl) (.cons .k .nil))) (e_are (cn_err d hd)) rfl
    · exact callE (.cons (l12 _) (.cons (.var rfl) .nil)) (e_count (cn_err d hd)) rfl
    · exact callE (.cons .k (.cons (l12 _) (.cons (.var rfl) .nil))) (e_missed (cn_err d hd)) rfl
    · exact callE (.cons (l12 _) (.cons (.var rfl) .nil)) (e_plain (cn_err d hd)) rfl
    · exact callE (.cons (l12 _) (.cons (.var rfl) .nil)) (e_gap (cn_err d hd)) rfl
    · exact callE (.cons (l12 _) (.cons (.var rfl) .nil)) (e_par (cn_err d hd)) rfl) (fun d hd => ref_number X (nb_rpr d hd)) NB x6 fun d hd => hd
  have n6' := sFor_ok (bind := bName 6) wb_src n6
  have n7' := sFor_ok (bind := bName 6) nb_src n7
  obtain ⟨ρ1, n8, w, n9, hw⟩ := fin_ok (ca := ca) (ρ := LE d4 e3 (some (.pu (iL ws))) none (some (.pu (iL gs))) y6 none) (by show 7 < 8; decide)
  refine ⟨ρ1, ?_⟩
  show g_lawT K ca (LE ds es none none none none none) = _
  unfold g_lawT
  rw [seq_nx n1, seq_nx n2, seq_nx n3, seq_nx n4, seq_nx n5, seq_nx (show Nx _ _ _ from n6'), seq_nx (show Nx _ _ _ from n7'), seq_nx n8, n9]
  cases w with
  | pu d => rw [show d = _ from hw]
  | frs l => cases hw
end
end K84
/-! H2: the facts of the head, and the end. -/
namespace K84
open PySem PySem.Spec PyProof.Rows L2 DL
section
variable {w : World} {h : Heap} {K : PySem.W.Frag} {mg : Str → Option Value}
theorem fnAt (KX : K.In h) (G : h.Ns mainGlobals mg) (c : Says w h K) (x : Str) (i k l : Nat) (h1 : fnl[k]? = some (dfn x i)) (h2 : fal[l]? = some (.glo x)) : ∃ fd, FunD K x x (defArgs (top i)) (defBody (top i)) (defScope (top i)) [] [] (He.ga K x) fd ∧ mg x = some (.ref (He.ga K x)) := by
  obtain ⟨fd, F⟩ := c.x.t.d.def_ k (d := dfn x i) h1
  exact ⟨fd, F, He.glo_ok KX G (c.x.t.d.fact l (f := .glo x) h2)⟩
theorem code_of {x : Str} {i : Nat} {fd : FuncData} (F : FunD K x x (defArgs (top i)) (defBody (top i)) (defScope (top i)) [] [] (He.ga K x) fd) : fd.code = .ref (He.cT K (x, none)).1 := by
  obtain ⟨oc, od, kV, doc, pm, an, cdv, ct, osl, rfl, lk, hcd⟩ := (Fun.ofD F).ex
  obtain ⟨cd, e⟩ := He.codeIn_ref hcd
  have z := He.codeOf_eq (K := K) (p := (x, none)) lk (c := cd) e
  show cdv = .ref (He.codeOf K (x, none))
  rw [z]
  exact e
theorem iniA : ∀ i ∈ exIx, ∃ (p1 p2 p3 : Pos) (j : Nat), defArgs (ini i) = DLX.xA p1 p2 p3 j := fun i hi => by
  simp only [exIx, List.mem_cons, List.not_mem_nil, or_false] at hi
  rcases hi with rfl | rfl | rfl <;> exact ⟨_, _, _, _, rfl⟩
theorem iniB : ∀ i ∈ exIx, ∃ a b c d e f g h i2 k : Pos, defBody (ini i) = DLX.xB a b c d e f g h i2 k ∧ (c.endLine == e.line) = true := fun i hi => by
  simp only [exIx, List.mem_cons, List.not_mem_nil, or_false] at hi
  rcases hi with rfl | rfl | rfl <;> exact ⟨_, _, _, _, _, _, _, _, _, _, rfl, rfl⟩
theorem ex_at (e : obsX1 K = exvs) {n : Str} (hn : n ∈ exR) : ∃ i ∈ exIx, DLX.exV PR K (He.ga K n) = DLX.exVal (defArgs (ini i)) (defBody (ini i)) := by
  obtain ⟨j, hj, e1⟩ := List.mem_iff_getElem.mp hn
  have z := congrArg (fun l : List DLX.ExV => l[j]?) e
  unfold obsX1 exvs at z
  simp only [List.getElem?_map] at z
  rw [List.getElem?_eq_getElem hj, e1] at z
  cases q : exIx[j]? with
  | none => rw [q] at z; cases z
  | some i =>
    rw [q] at z
    exact ⟨i, List.mem_of_getElem? q, Option.some.inj z⟩
theorem gloEx (KX : K.In h) (G : h.Ns mainGlobals mg) (c : Says w h K) : ∀ n ∈ exNames, mg n = some (.ref (He.ga K n)) := fun n hn => by
  simp only [exNames, List.mem_cons, List.not_mem_nil, or_false] at hn
  rcases hn with rfl | rfl | rfl | rfl | rfl | rfl | rfl | rfl | rfl | rfl | rfl | rfl | rfl | rfl | rfl
  · exact He.glo_ok KX G (c.x.t.d.fact 43 (f := .glo "InvalidLayout") rfl)
  · exact He.glo_ok KX G (c.x.t.d.fact 44 (f := .glo "InvalidTable") rfl)
  · exact He.glo_ok KX G (c.x.t.d.fact 45 (f := .glo "InvalidBounds") rfl)
  · exact He.glo_ok KX G (c.x.t.d.fact 46 (f := .glo "InvalidReport") rfl)
  · exact He.glo_ok KX G (c.x.t.d.fact 47 (f := .glo "InvalidPart") rfl)
  · exact He.glo_ok KX G (c.x.t.d.fact 48 (f := .glo "InvalidNumber") rfl)
  · exact He.glo_ok KX G (c.x.t.d.fact 49 (f := .glo "InvalidNames") rfl)
  · exact He.glo_ok KX G (c.x.t.d.fact 50 (f := .glo "InvalidText") rfl)
  · exact He.glo_ok KX G (c.x.t.d.fact 51 (f := .glo "InvalidLot") rfl)
  · exact He.glo_ok KX G (c.x.t.d.fact 52 (f := .glo "InvalidWeights") rfl)
  · exact He.glo_ok KX G (c.x.t.d.fact 53 (f := .glo "InvalidLines") rfl)
  · exact He.glo_ok KX G (c.x.t.d.fact 54 (f := .glo "InvalidMargins") rfl)
  · exact He.glo_ok KX G (c.x.t.d.fact 55 (f := .glo "InvalidEdit") rfl)
  · exact He.glo_ok KX G (c.x.t.d.fact 56 (f := .glo "Unlike") rfl)
  · exact He.glo_ok KX G (c.x.t.d.fact 57 (f := .glo "TooMany") rfl)
theorem exs_of (KX : K.In h) (G : h.Ns mainGlobals mg) (c : Says w h K) : Exs PR K mg (He.ga K) := by
  have m := c.x.more
  unfold exB at m
  obtain ⟨_, m⟩ := He.ba m
  obtain ⟨_, m⟩ := He.ba m
  obtain ⟨m1, m⟩ := He.ba m
  have ma : ∀ n ∈ exR, _ := fun n hn => List.all_eq_true.mp m n hn
  have tp : (PR.main.scope.names.lookup ("super" : Str)).isSome = false := by decide +kernel
  have sub : ∀ n ∈ exR, n ∈ exNames := by decide
  refine ⟨gloEx KX G c, fun n hn => ?_, fun n hn => ?_, fun n hn k hk => ?_, He.glo_ok KX G (c.x.t.d.fact 42 (f := .glo "SumError") rfl), fun n hn => ?_⟩
  · obtain ⟨i, hi, e⟩ := ex_at c.e hn
    exact DLX.exT_of (gloEx KX G c n (sub n hn)) (He.free_ok KX G (c.x.t.d.fact 72 (f := .free "super") rfl)) tp (of_decide_eq_true m1) (He.ba (ma n hn)).1 e (iniA i hi) (iniB i hi)
  · exact exkB_ok (He.ba (He.ba (ma n hn)).2).1
  · have z := (He.ba (He.ba (He.ba (ma n hn)).2).2).2
    exact of_decide_eq_true (List.all_eq_true.mp z k hk)
  · exact of_decide_eq_true (He.ba (He.ba (He.ba (ma n hn)).2).2).1
theorem bl_of (KX : K.In h) (G : h.Ns mainGlobals mg) (c : Says w h K) : Bl mg := ⟨He.free_ok KX G (c.x.t.d.fact 58 (f := .free "len") rfl), He.free_ok KX G (c.x.t.d.fact 59 (f := .free "isinstance") rfl), He.free_ok KX G (c.x.t.d.fact 60 (f := .free "int") rfl), He.free_ok KX G (c.x.t.d.fact 61 (f := .free "bool") rfl), He.free_ok KX G (c.x.t.d.fact 62 (f := .free "str") rfl), He.free_ok KX G (c.x.t.d.fact 63 (f := .free "list") rfl), He.free_ok KX G (c.x.t.d.fact 64 (f := .free "tuple") rfl), He.free_ok KX G (c.x.t.d.fact 65 (f := .free "max") rfl), He.free_ok KX G (c.x.t.d.fact 66 (f := .free "sum") rfl), He.free_ok KX G (c.x.t.d.fact 67 (f := .free "enumerate") rfl), He.free_ok KX G (c.x.t.d.fact 68 (f := .free "range") rfl), He.free_ok KX G (c.x.t.d.fact 69 (f := .free "repr") rfl), He.free_ok KX G (c.x.t.d.fact 70 (f := .free "abs") rfl), He.free_ok KX G (c.x.t.d.fact 71 (f := .free "sorted") rfl)⟩
theorem gcd_of (KX : K.In h) (G : h.Ns mainGlobals mg) (c : Says w h K) : mg "gcd" = some (.builtin "math.gcd") := by
  have m := c.x.more
  unfold exB at m
  obtain ⟨_, m⟩ := He.ba m
  exact PySem.W.mg_of KX G (of_decide_eq_true (He.ba m).1)
theorem tabs_ne (c : Says w h K) {p q : He.Defn} (hp : p ∈ tfl) (hq : q ∈ tfl) (e : (He.cT K p).2 = (He.cT K q).2) : p = q := by
  have m := c.x.more
  unfold exB at m
  have z := List.all_eq_true.mp (List.all_eq_true.mp (He.ba m).1 p hp) q hq
  rw [Bool.or_eq_true] at z
  rcases z with z | z
  · exact of_decide_eq_true z
  · exact absurd e (of_decide_eq_true z)
theorem mak (c : Says w h K) {base : Heap} {x : Str} (hx : ((x, none) : He.Defn) ∈ tfl) (t : LamX.TabB base mg (He.cT K (x, none)).1 (He.cT K (x, none)).2) : MakT K mg base x := ⟨t, fun p hp e => by
  obtain ⟨q, hq, rfl⟩ := List.mem_map.mp hp
  simp only [lamDefs, List.mem_cons, List.not_mem_nil, or_false] at hq
  rcases hq with rfl | rfl | rfl | rfl
  · have z := tabs_ne c (by decide) hx e
    cases z
    rfl
  · have z := tabs_ne c (by decide) hx e
    cases z
    rfl
  · have z := tabs_ne c (by decide) hx e
    cases z
    rfl
  · have z := tabs_ne c (by decide) hx e
    cases z
    rfl⟩
end
def tT (K : PySem.W.Frag) : List Addr := tfl.map fun p => (He.cT K p).2
theorem law_end {w : World} {K : PySem.W.Frag} {mg mb : Str → Option Value} {s₁ : Shared} {a : Addr} {vs : List Value} {ns : List Int} (KX : K.In s₁.heap) (G : s₁.heap.Ns mainGlobals mg) (c : Says w s₁.heap K) (hb : s₁.heap.Ns builtinsNs mb) (hbb : ∀ x : Str, x ≠ "__name__" → mb x = bootBuiltins x) (hlim : s₁.heap.NoLimit) (hg : s₁.gens = #[])
    (hbm : ∃ (bm : Addr) (ob : Obj), mg "__builtins__" = some (.ref bm) ∧ bm ≠ builtinsNs ∧ s₁.heap.get? bm = some ob ∧ ob.cls = .type "module" ∧ ob.dict = some builtinsNs ∧ ob.data = .plain)
    (ha : s₁.heap.get? a = some { cls := .type "list", data := .seq vs.toArray }) (hi : IntsAre vs ns) (hl : ns.length ≤ sizeLine) :
    codeAny (model PR w) callerA (.call (.ref (He.ga K "law")) ⟨[.ref a], []⟩) (fun r s' => r = .ok (.ret (.bool true)) ∧ OldK s₁.heap s'.heap ∧ s'.os = s₁.os ∧ AllBare s'.gens) s₁ := by
  have hT : ∀ b ∈ tT K, s₁.heap.get? b = some { cls := .none, data := .fields #[] } := fun b h => by
    obtain ⟨p, hp, rfl⟩ := List.mem_map.mp h
    exact c.x.empty p hp
  have nT : ∀ b ∈ tT K, K.lookup b = none := fun b h => by
    obtain ⟨p, hp, rfl⟩ := List.mem_map.mp h
    exact c.x.out p hp
  have hC : ∀ p ∈ tfl, PySem.W.CodeHd s₁.heap (He.cT K p).1 (He.cT K p).2 := fun p hp => PySem.W.codeHd_of_K KX (c.x.hd p hp)
  have C : ∀ b ∈ tT K, ∃ c, PySem.W.CodeHd s₁.heap c b := fun b h => by
    obtain ⟨p, hp, rfl⟩ := List.mem_map.mp h
    exact ⟨_, hC p hp⟩
  have aT : a ∉ tT K := fun z => by
    have q := hT a z
    rw [ha] at q
    cases q
  have e0 : Env0 PR w K mg (hidT s₁.heap (startH K (tT K) a vs ns)) callerA [] s₁ (startH K (tT K) a vs ns) := startH_env KX nT G hb hbb hlim hg hT ha hi hl
  have tb : ∀ p ∈ tfl, LamX.TabB (hidT s₁.heap (startH K (tT K) a vs ns)) mg (He.cT K p).1 (He.cT K p).2 := fun p hp => startH_tabB (List.mem_map.mpr ⟨p, hp, rfl⟩) G (hC p hp) hbm hT ha
  have tbs : LamX.Tabs (TbK K) (startH K (tT K) a vs ns) := fun q hq => by
    obtain ⟨p, hp, rfl⟩ := List.mem_map.mp hq
    have hp2 : p.1 ∈ tfl := by
      simp only [lamDefs, List.mem_cons, List.not_mem_nil, or_false] at hp
      rcases hp with rfl | rfl | rfl | rfl
      · exact .head _
      · exact .tail _ (.head _)
      · exact .tail _ (.tail _ (.head _))
      · exact .tail _ (.tail _ (.tail _ (.head _)))
    exact ⟨#[], startH_tab (List.mem_map.mpr ⟨p.1, hp2, rfl⟩), trivial, fun pos cv h => by cases h⟩
  have B := bl_of KX G c
  have X := exs_of KX G c
  obtain ⟨tMOST_WEIGHTS, h_MOST_WEIGHTS⟩ := He.int_ok KX G (c.x.t.d.fact 73 (f := .int "MOST_WEIGHTS" 30) rfl)
  obtain ⟨tMOST_NUMBER, h_MOST_NUMBER⟩ := He.int_ok KX G (c.x.t.d.fact 74 (f := .int "MOST_NUMBER" 1000000) rfl)
  have hgcd := gcd_of KX G c
  refine end_call (K := K) hT C ha hi hl ?_
  generalize hbase : hidT s₁.heap (startH K (tT K) a vs ns) = base at e0 tb
  obtain ⟨f_is_whole, F_is_whole, m_is_whole⟩ := fnAt KX G c "is_whole" 19 0 0 rfl rfl
  have d_is_whole := df_is_whole (P := PR) (w := w) (base := base) B  F_is_whole m_is_whole
  obtain ⟨f_lowest, F_lowest, m_lowest⟩ := fnAt KX G c "lowest" 20 1 1 rfl rfl
  have d_lowest := df_lowest (P := PR) (w := w) (base := base) B hgcd F_lowest m_lowest
  obtain ⟨f_plus, F_plus, m_plus⟩ := fnAt KX G c "plus" 21 2 2 rfl rfl
  have d_plus := df_plus (P := PR) (w := w) (base := base) B d_lowest F_plus m_plus
  obtain ⟨f_total_of, F_total_of, m_total_of⟩ := fnAt KX G c "total_of" 22 3 3 rfl rfl
  have d_total_of := df_total_of (P := PR) (w := w) (base := base) B d_plus F_total_of m_total_of
  obtain ⟨f_is_count, F_is_count, m_is_count⟩ := fnAt KX G c "is_count" 24 4 4 rfl rfl
  have d_is_count := df_is_count (P := PR) (w := w) (base := base) B d_is_whole F_is_count m_is_count
  obtain ⟨f_check_weights, F_check_weights, m_check_weights⟩ := fnAt KX G c "check_weights" 28 5 5 rfl rfl
  have d_check_weights := df_check_weights (ca := He.ga K) (P := PR) (w := w) (base := base) B d_is_count (X.t "InvalidWeights" (by decide)) h_MOST_WEIGHTS F_check_weights m_check_weights
  obtain ⟨f_check_whole, F_check_whole, m_check_whole⟩ := fnAt KX G c "check_whole" 29 6 6 rfl rfl
  have d_check_whole := df_check_whole (ca := He.ga K) (P := PR) (w := w) (base := base) B d_check_weights d_is_whole (X.t "InvalidNumber" (by decide)) h_MOST_NUMBER F_check_whole m_check_whole
  obtain ⟨f_floors_of, F_floors_of, m_floors_of⟩ := fnAt KX G c "floors_of" 30 7 7 rfl rfl
  have d_floors_of := df_floors_of (P := PR) (w := w) (base := base) B  F_floors_of m_floors_of
  obtain ⟨f_rests_of, F_rests_of, m_rests_of⟩ := fnAt KX G c "rests_of" 31 8 8 rfl rfl
  have d_rests_of := df_rests_of (P := PR) (w := w) (base := base) B  F_rests_of m_rests_of
  obtain ⟨f_greatest_rests, F_greatest_rests, m_greatest_rests⟩ := fnAt KX G c "greatest_rests" 32 9 9 rfl rfl
  have d_greatest_rests := df_greatest_rests (P := PR) (w := w) (base := base) B d_rests_of d_floors_of F_greatest_rests m_greatest_rests (mak c (.tail _ (.tail _ (.tail _ (.head _)))) (tb ("greatest_rests", none) (.tail _ (.tail _ (.tail _ (.head _)))))) (code_of F_greatest_rests)
  obtain ⟨f_made_shares, F_made_shares, m_made_shares⟩ := fnAt KX G c "made_shares" 33 10 10 rfl rfl
  have d_made_shares := df_made_shares (P := PR) (w := w) (base := base) B d_greatest_rests d_floors_of F_made_shares m_made_shares
  obtain ⟨f_shares_of, F_shares_of, m_shares_of⟩ := fnAt KX G c "shares_of" 34 11 11 rfl rfl
  have d_shares_of := df_shares_of (ca := He.ga K) (P := PR) (w := w) (base := base) B d_check_whole d_made_shares F_shares_of m_shares_of
  obtain ⟨f_are_counts_of, F_are_counts_of, m_are_counts_of⟩ := fnAt KX G c "are_counts_of" 35 12 12 rfl rfl
  have d_are_counts_of := df_are_counts_of (P := PR) (w := w) (base := base) B d_is_count F_are_counts_of m_are_counts_of
  obtain ⟨f_are_shares, F_are_shares, m_are_shares⟩ := fnAt KX G c "are_shares" 36 13 13 rfl rfl
  have d_are_shares := df_are_shares (ca := He.ga K) (P := PR) (w := w) (base := base) B d_check_whole d_are_counts_of d_floors_of d_rests_of F_are_shares m_are_shares
  obtain ⟨f_chosen_of, F_chosen_of, m_chosen_of⟩ := fnAt KX G c "chosen_of" 37 14 14 rfl rfl
  have d_chosen_of := df_chosen_of (P := PR) (w := w) (base := base) B  F_chosen_of m_chosen_of
  obtain ⟨f_share_count, F_share_count, m_share_count⟩ := fnAt KX G c "share_count" 38 15 15 rfl rfl
  have d_share_count := df_share_count (ca := He.ga K) (P := PR) (w := w) (base := base) B d_check_whole d_rests_of d_chosen_of d_floors_of F_share_count m_share_count
  obtain ⟨f_missed, F_missed, m_missed⟩ := fnAt KX G c "missed" 39 16 16 rfl rfl
  have d_missed := df_missed (ca := He.ga K) (P := PR) (w := w) (base := base) B d_check_whole d_are_counts_of d_total_of d_lowest (X.t "InvalidTable" (by decide)) F_missed m_missed
  obtain ⟨f_nearest_to, F_nearest_to, m_nearest_to⟩ := fnAt KX G c "nearest_to" 40 17 17 rfl rfl
  have d_nearest_to := df_nearest_to (P := PR) (w := w) (base := base) B  F_nearest_to m_nearest_to
  obtain ⟨f_plain_shares, F_plain_shares, m_plain_shares⟩ := fnAt KX G c "plain_shares" 41 18 18 rfl rfl
  have d_plain_shares := df_plain_shares (ca := He.ga K) (P := PR) (w := w) (base := base) B d_check_whole d_nearest_to F_plain_shares m_plain_shares
  obtain ⟨f_gap_of, F_gap_of, m_gap_of⟩ := fnAt KX G c "gap_of" 42 19 19 rfl rfl
  have d_gap_of := df_gap_of (ca := He.ga K) (P := PR) (w := w) (base := base) B d_check_whole d_nearest_to F_gap_of m_gap_of
  obtain ⟨f_paradox, F_paradox, m_paradox⟩ := fnAt KX G c "paradox" 43 20 20 rfl rfl
  have d_paradox := df_paradox (ca := He.ga K) (P := PR) (w := w) (base := base) B d_check_whole d_made_shares F_paradox m_paradox
  obtain ⟨f_l_hash, F_l_hash, m_l_hash⟩ := fnAt KX G c "_law_hash" 45 21 21 rfl rfl
  have d_l_hash := df_l_hash (P := PR) (w := w) (base := base) B  F_l_hash m_l_hash
  obtain ⟨f_l_random, F_l_random, m_l_random⟩ := fnAt KX G c "_law_random" 46 22 22 rfl rfl
  have d_l_random := df_l_random (P := PR) (w := w) (base := base) B d_l_hash F_l_random m_l_random
  obtain ⟨f_l_pick, F_l_pick, m_l_pick⟩ := fnAt KX G c "_law_pick" 49 25 25 rfl rfl
  have d_l_pick := df_l_pick (P := PR) (w := w) (base := base) B d_l_random F_l_pick m_l_pick
  obtain ⟨f_l_gcd, F_l_gcd, m_l_gcd⟩ := fnAt KX G c "_law_gcd" 51 27 27 rfl rfl
  have d_l_gcd := df_l_gcd (P := PR) (w := w) (base := base) B  F_l_gcd m_l_gcd
  obtain ⟨f_l_low, F_l_low, m_l_low⟩ := fnAt KX G c "_law_low" 52 28 28 rfl rfl
  have d_l_low := df_l_low (P := PR) (w := w) (base := base) B d_l_gcd F_l_low m_l_low
  obtain ⟨f_l_less, F_l_less, m_l_less⟩ := fnAt KX G c "_law_less" 53 29 29 rfl rfl
  have d_l_less := df_l_less (P := PR) (w := w) (base := base) B  F_l_less m_l_less
  obtain ⟨f_l_put, F_l_put, m_l_put⟩ := fnAt KX G c "_law_put" 54 30 30 rfl rfl
  have d_l_put := df_l_put (P := PR) (w := w) (base := base) B  F_l_put m_l_put
  obtain ⟨f_l_alike, F_l_alike, m_l_alike⟩ := fnAt KX G c "_law_alike" 56 32 32 rfl rfl
  have d_l_alike := df_l_alike (P := PR) (w := w) (base := base) B  F_l_alike m_l_alike
  obtain ⟨f_l_is_count, F_l_is_count, m_l_is_count⟩ := fnAt KX G c "_law_is_count" 59 35 35 rfl rfl
  have d_l_is_count := df_l_is_count (P := PR) (w := w) (base := base) B  F_l_is_count m_l_is_count
  obtain ⟨f_l_shares, F_l_shares, m_l_shares⟩ := fnAt KX G c "_law_shares" 60 36 36 rfl rfl
  have d_l_shares := df_l_shares (P := PR) (w := w) (base := base) B  F_l_shares m_l_shares (mak c (.tail _ (.tail _ (.head _))) (tb ("_law_shares", none) (.tail _ (.tail _ (.head _))))) (code_of F_l_shares)
  obtain ⟨f_l_are_shares, F_l_are_shares, m_l_are_shares⟩ := fnAt KX G c "_law_are_shares" 61 37 37 rfl rfl
  have d_l_are_shares := df_l_are_shares (P := PR) (w := w) (base := base) B d_l_is_count F_l_are_shares m_l_are_shares
  obtain ⟨f_l_missed, F_l_missed, m_l_missed⟩ := fnAt KX G c "_law_missed" 62 38 38 rfl rfl
  have d_l_missed := df_l_missed (P := PR) (w := w) (base := base) B d_l_low F_l_missed m_l_missed
  obtain ⟨f_l_ways, F_l_ways, m_l_ways⟩ := fnAt KX G c "_law_ways" 63 39 39 rfl rfl
  have d_l_ways := df_l_ways (P := PR) (w := w) (base := base) B  F_l_ways m_l_ways
  obtain ⟨f_l_same, F_l_same, m_l_same⟩ := fnAt KX G c "_law_same" 50 26 26 rfl rfl
  obtain ⟨f_l_caught, F_l_caught, m_l_caught⟩ := fnAt KX G c "_law_caught" 55 31 31 rfl rfl
  obtain ⟨f_l_refused, F_l_refused, m_l_refused⟩ := fnAt KX G c "_law_refused" 57 33 33 rfl rfl
  obtain ⟨f_l_all_refused, F_l_all_refused, m_l_all_refused⟩ := fnAt KX G c "_law_all_refused" 58 34 34 rfl rfl
  obtain ⟨f_l_cell, F_l_cell, m_l_cell⟩ := fnAt KX G c "_law_cell" 47 23 23 rfl rfl
  obtain ⟨f_l_generator, F_l_generator, m_l_generator⟩ := fnAt KX G c "_law_generator" 48 24 24 rfl rfl
  obtain ⟨f_law, F_law, m_law⟩ := fnAt KX G c "law" 65 41 41 rfl rfl
  obtain ⟨f_l_weights_right, F_l_weights_right, m_l_weights_right⟩ := fnAt KX G c "_law_weights_right" 64 40 40 rfl rfl
  have d_l_same := df_l_same (P := PR) (w := w) (base := base) B F_l_same m_l_same 8
  have Rk : RefKit PR w K mg base (He.ga K) := ⟨B, X, d_l_alike, ⟨_, _, F_l_caught, m_l_caught⟩, ⟨_, _, F_l_refused, m_l_refused⟩⟩
  have d_l_weights_right := df_l_weights_right (ca := He.ga K) (P := PR) (w := w) (base := base) B d_l_shares d_shares_of d_missed d_paradox d_gap_of d_plain_shares d_share_count d_l_same d_l_missed d_l_ways d_l_random d_l_put d_l_are_shares d_are_shares d_l_is_count d_l_less Rk F_l_weights_right m_l_weights_right (mak c (.tail _ (.head _)) (tb ("_law_weights_right", none) (.tail _ (.head _)))) (code_of F_l_weights_right)
  have Mlaw := mak c (.head _) (tb ("law", none) (.head _))
  obtain ⟨ds, ρ', hgen, Gn, nn⟩ := generator_ok 0 (by decide) (cellI 0 ns)
  obtain ⟨es, ρ'', hgen2, Gn2, nn2⟩ := generator_ok 1 (by decide) (cellI 1 ns)
  obtain ⟨ρ2, hres⟩ := law_ok X Gn Gn2
  exact law_run (P := PR) (w := w) (base := base) (g := g_lawT K (He.ga K)) B F_l_cell m_l_cell F_l_generator m_l_generator F_law (code_of F_law)
    (fun A outer s H E cn => b_lawT B d_l_random d_l_pick d_l_weights_right d_shares_of d_are_shares d_share_count d_missed d_plain_shares d_gap_of d_paradox d_l_same Rk ⟨_, _, F_l_all_refused, m_l_all_refused⟩ (mk_of Mlaw (mem_TbK (.head _) rfl)) cn)
    rfl ⟨rfl, by decide, by decide⟩ e0 (startH_sql KX ha hi hl aT) tbs nn nn2 hgen hgen2 hres fun _ => rfl
end K84
open PySem PySem.W PySem.Calls PyProof.Rows
theorem PySem.Challenge.cw_addsup_k84_whole_shares_of_a_whole_holds : PySem.Challenge.rw_addsup_k84_whole_shares_of_a_whole.Holds := by
  w_on; o_law
  refine HandSHeadRun.head_imp (r := OpenLaw.row PySem.Challenge.rw_addsup_k84_whole_shares_of_a_whole) (q := view (OpenLaw.row PySem.Challenge.rw_addsup_k84_whole_shares_of_a_whole).prog [0, 65]) (H := K84.hk) (ob := K84.ob) (M := 60000) (loose := K84.loose) (d := HandSHeadRun.topDef (OpenLaw.row PySem.Challenge.rw_addsup_k84_whole_shares_of_a_whole).prog 65) (kwd := []) K84.ob_eq
    K84.run (by kernel_rfl) (by kernel_rfl) (by kernel_rfl) (by rfl) (by first | assumption | decide +kernel) (by decide +kernel) ⟨rfl, rfl, rfl, rfl, rfl, by decide +kernel⟩ ?hw ?hc
  case hw => w_witness2
  case hc =>
    refine Att.attach_callB (l := PySem.Challenge.rw_addsup_k84_whole_shares_of_a_whole) (n := 63) rfl (by kernel_rfl) fun w s₀ s₁ mg mb fa o pm cd doc a vs ns G Y ho hd hcd hmg hobj hints hlen hbits hg => ?_
    obtain ⟨K, KX, c⟩ := Y
    have hmg2 : mg ("law" : PySem.Str) = some (.ref fa) := by
      have e : (HandSHeadRun.topDef (OpenLaw.row PySem.Challenge.rw_addsup_k84_whole_shares_of_a_whole).prog 65).name = ("law" : PySem.Str) := by kernel_rfl
      rw [← e]
      exact hmg
    obtain ⟨fd, F, m⟩ := K84.fnAt KX G.T.g c "law" 65 41 41 rfl rfl
    rw [hmg2] at m
    cases m
    exact K84.law_end KX G.T.g c G.T.b G.T.builtins G.T.nolimit hg G.T.bmain hobj hints (Nat.le_trans hlen (by decide))
