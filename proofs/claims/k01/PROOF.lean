import PyProof.Rows.All
import Wide.All
import OpenK.AllK
import Wide.FinOn
import HandS.ForMost
import HandS.Exc
import HandS.ExcOwn
import HandS.WordsExc
import HandS.CallSlots
import HandS.Lambda
import HandS.Wide
import HandS.TupAny
import HandS.TupLe
import HandS.FStr
import HandS.Flow
import HandS.Style
import HandS.SortRule
import HandS.SortInts
import HandS.GenList
import PyProof.TupleOfGen
import KE.SortData
import PyProof.TupleOfSeq
import KE.GoesMore
import HandS.Zip
import HandS.Defaults
import HandS.Head0
import HandS.Head1
import HandS.Head2
import HandS.HeadEnd
import HandS.HeadHook1
import HandS.HeadHook2
import HandS.HeadHook3
import HandS.HeadHook4
import HandS.HeadWalk
import HandS.Deep
import PySem.Challenge.RW_dialstack_k01_exact_numbers_for_phones
section
set_option Elab.async false
set_option linter.all false
set_option maxRecDepth 100000
namespace Dl
open PySem L2

/-- plain data: lists that are never changed any more stand by value; `loc` is a thing that may change -/
inductive D where
  | non | bl (b : Bool) | int (i : Int) | str (s : Str)
  | tup (xs : List D) | lst (xs : List D)
  | scr (ns : List Int)
  | loc (n : Nat)
  deriving Inhabited

/-- things that may change -/
inductive O where
  | lst (xs : List D)
  | dic (kvs : List (Key × D))
  | dit (kvs : List (List Key × D))
  | ins (c : Nat) (fs : List (Str × D))

abbrev G := List O
abbrev Env' := List (Option D)

inductive Res (α : Type) where
  | ok (a : α) (g : G) | err (c : Nat) (g : G) | stuck

structure Cfg where
  exc : Nat → Addr
  cls : Nat → Addr
  tabs : List (Addr × Str)

section
variable (K : PySem.W.Frag) (H : Hp) (ν μ : List Addr)
mutual
def RepD : D → V → Prop
  | .non, v => v = .non
  | .bl b, v => v = .bl b
  | .int i, v => v = .int i
  | .str s, v => v = .str s
  | .tup ds, v => ∃ a xs, v = .ref a ∧ SqT K H a xs ∧ RepL ds xs
  | .lst ds, v => ∃ a xs, v = .ref a ∧ H a = some (.lst xs) ∧ a ∉ μ ∧ a ∉ ν ∧ RepL ds xs
  | .scr ns, v => ∃ a, v = .ref a ∧ ((∃ o, H a = some (.frz o (.lst (ns.map V.int)))) ∨ SqL K (fun _ => none) a (ns.map V.int))
  | .loc n, v => ∃ a, v = .ref a ∧ μ[n]? = some a
def RepL : List D → List V → Prop
  | [], vs => vs = []
  | d :: ds, vs => ∃ v r, vs = v :: r ∧ RepD d v ∧ RepL ds r
end
end

def Fix (o : HO) : Prop := (∃ xs, o = .tup xs) ∨ ∃ ob u, o = .frz ob u
def NTb (o : HO) : Prop := ∀ ps, o ≠ .tbl ps

/-- nothing, or a table -/
def Free (H : Hp) (a : Addr) : Prop := ∀ o, H a = some o → NTb o → False
theorem free_none {H : Hp} {a : Addr} (h : H a = none) : Free H a := fun o e _ => by rw [h] at e; cases e
structure Ext (H : Hp) (μ : List Addr) (H' : Hp) (μ' : List Addr) : Prop where
  mu : ∃ more, μ' = μ ++ more ∧ ∀ a ∈ more, Free H a
  kp : ∀ b o, H b = some o → (b ∉ μ ∨ Fix o) → NTb o → H' b = some o
  dm : ∀ b o, H b = some o → NTb o → ∃ o', H' b = some o' ∧ NTb o'

section
variable {K : PySem.W.Frag} {H H' H'' : Hp} {ν ν' μ μ' μ'' : List Addr}
theorem Ext.refl : Ext H μ H μ := ⟨⟨[], by simp, by simp⟩, fun _ _ h _ _ => h, fun _ o h n => ⟨o, h, n⟩⟩
theorem Ext.out (e : Ext H μ H' μ') {b : Addr} {o : HO} (h : H b = some o) (n : b ∉ μ) (nt : NTb o) : b ∉ μ' := by
  obtain ⟨more, rfl, hm⟩ := e.mu
  intro z
  rcases List.mem_append.mp z with z | z
  · exact n z
  · exact hm b z o h nt
theorem Ext.trans (e : Ext H μ H' μ') (f : Ext H' μ' H'' μ'') : Ext H μ H'' μ'' where
  mu := by
    obtain ⟨m1, rfl, h1⟩ := e.mu
    obtain ⟨m2, rfl, h2⟩ := f.mu
    refine ⟨m1 ++ m2, by rw [List.append_assoc], fun a ha => ?_⟩
    rcases List.mem_append.mp ha with z | z
    · exact h1 a z
    · intro o ho hn
      obtain ⟨o', e1, e2⟩ := e.dm a o ho hn
      exact h2 a z o' e1 e2
  kp := fun b o h c n => by
    have h1 := e.kp b o h c n
    refine f.kp b o h1 ?_ n
    rcases c with c | c
    · exact .inl (e.out h c n)
    · exact .inr c
  dm := fun b o h n => by
    obtain ⟨o', e1, e2⟩ := e.dm b o h n
    exact f.dm b o' e1 e2

theorem fix_tup {xs : List V} : Fix (.tup xs) := .inl ⟨xs, rfl⟩
theorem fix_frz {ob : Obj} {u : HO} : Fix (.frz ob u) := .inr ⟨ob, u, rfl⟩
theorem ntb_tup {xs : List V} : NTb (.tup xs) := fun _ z => by cases z
theorem ntb_lst {xs : List V} : NTb (.lst xs) := fun _ z => by cases z
theorem ntb_frz {ob : Obj} {u : HO} : NTb (.frz ob u) := fun _ z => by cases z

/-- what a value's standing leans on -/
structure Kp (ν : List Addr) (H : Hp) (μ : List Addr) (H' : Hp) (μ' : List Addr) : Prop where
  mu : ∃ more, μ' = μ ++ more ∧ ∀ a ∈ more, Free H a
  kp : ∀ b o, H b = some o → ((b ∉ μ ∧ b ∉ ν) ∨ Fix o) → NTb o → H' b = some o
theorem Ext.kp' (e : Ext H μ H' μ') : Kp ν H μ H' μ' := ⟨e.mu, fun b o h c n => e.kp b o h (c.imp (·.1) id) n⟩
theorem Rd.kp {a : Addr} {u : HO} (k : Kp ν H μ H' μ') (h : Rd H a u) (n : NTb u) (c : (a ∉ μ ∧ a ∉ ν) ∨ Fix u) : Rd H' a u := by
  rcases h with h | ⟨o, h⟩
  · exact .inl (k.kp _ _ h c n)
  · exact .inr ⟨o, k.kp _ _ h (.inr fix_frz) ntb_frz⟩
theorem Kp.out (e : Kp ν H μ H' μ') {b : Addr} {o : HO} (h : H b = some o) (n : b ∉ μ) (nt : NTb o) : b ∉ μ' := by
  obtain ⟨more, rfl, hm⟩ := e.mu
  intro z
  rcases List.mem_append.mp z with z | z
  · exact n z
  · exact hm b z o h nt
theorem Rd.some {a : Addr} {u : HO} (h : Rd H a u) : ∃ o, H a = some o := by
  rcases h with h | ⟨o, h⟩
  · exact ⟨_, h⟩
  · exact ⟨_, h⟩
mutual
theorem RepD.mono (k : Kp ν H μ H' μ') : ∀ (d : D) {v : V}, RepD K H ν μ d v → RepD K H' ν μ' d v
  | .non, v, h => h
  | .bl b, v, h => h
  | .int i, v, h => h
  | .str s, v, h => h
  | .tup ds, v, h => by
    unfold RepD at h ⊢
    obtain ⟨a, xs, e, h1, h2⟩ := h
    refine ⟨a, xs, e, ?_, RepL.mono k ds h2⟩
    rcases h1 with h1 | h1
    · exact .inl (Rd.kp k h1 ntb_tup (.inr fix_tup))
    · exact .inr h1
  | .lst ds, v, h => by
    unfold RepD at h ⊢
    obtain ⟨a, xs, e, h1, h2, h3, h4⟩ := h
    exact ⟨a, xs, e, k.kp _ _ h1 (.inl ⟨h2, h3⟩) ntb_lst, k.out h1 h2 ntb_lst, h3, RepL.mono k ds h4⟩
  | .scr ns, v, h => by
    unfold RepD at h ⊢
    obtain ⟨a, e, h⟩ := h
    refine ⟨a, e, ?_⟩
    rcases h with ⟨o, h⟩ | h
    · exact .inl ⟨o, k.kp _ _ h (.inr fix_frz) ntb_frz⟩
    · exact .inr h
  | .loc n, v, h => by
    unfold RepD at h ⊢
    obtain ⟨a, e, h⟩ := h
    obtain ⟨more, rfl, _⟩ := k.mu
    refine ⟨a, e, ?_⟩
    rw [List.getElem?_append_left (List.getElem?_eq_some_iff.mp h).1]
    exact h
theorem RepL.mono (k : Kp ν H μ H' μ') : ∀ (ds : List D) {vs : List V}, RepL K H ν μ ds vs → RepL K H' ν μ' ds vs
  | [], vs, h => h
  | d :: ds, vs, h => by
    unfold RepL at h ⊢
    obtain ⟨v, r, e, h1, h2⟩ := h
    exact ⟨v, r, e, RepD.mono k d h1, RepL.mono k ds h2⟩
end
mutual
/-- fewer lists in the making -/
theorem RepD.less {D₀ : Addr} : ∀ (d : D) {v : V}, RepD K H (D₀ :: ν) μ d v → RepD K H ν μ d v
  | .non, v, h => h
  | .bl b, v, h => h
  | .int i, v, h => h
  | .str s, v, h => h
  | .tup ds, v, h => by
    unfold RepD at h ⊢
    obtain ⟨a, xs, e, h1, h2⟩ := h
    exact ⟨a, xs, e, h1, RepL.less ds h2⟩
  | .lst ds, v, h => by
    unfold RepD at h ⊢
    obtain ⟨a, xs, e, h1, h2, h3, h4⟩ := h
    exact ⟨a, xs, e, h1, h2, fun z => h3 (List.mem_cons_of_mem _ z), RepL.less ds h4⟩
  | .scr ns, v, h => h
  | .loc n, v, h => h
theorem RepL.less {D₀ : Addr} : ∀ (ds : List D) {vs : List V}, RepL K H (D₀ :: ν) μ ds vs → RepL K H ν μ ds vs
  | [], vs, h => h
  | d :: ds, vs, h => by
    unfold RepL at h ⊢
    obtain ⟨v, r, e, h1, h2⟩ := h
    exact ⟨v, r, e, RepD.less d h1, RepL.less ds h2⟩
end
mutual
/-- one more list in the making, at an address that nothing held -/
theorem RepD.more {D₀ : Addr} (hn : H D₀ = none) : ∀ (d : D) {v : V}, RepD K H ν μ d v → RepD K H (D₀ :: ν) μ d v
  | .non, v, h => h
  | .bl b, v, h => h
  | .int i, v, h => h
  | .str s, v, h => h
  | .tup ds, v, h => by
    unfold RepD at h ⊢
    obtain ⟨a, xs, e, h1, h2⟩ := h
    exact ⟨a, xs, e, h1, RepL.more hn ds h2⟩
  | .lst ds, v, h => by
    unfold RepD at h ⊢
    obtain ⟨a, xs, e, h1, h2, h3, h4⟩ := h
    refine ⟨a, xs, e, h1, h2, fun z => ?_, RepL.more hn ds h4⟩
    rcases List.mem_cons.mp z with z | z
    · rw [z, hn] at h1; cases h1
    · exact h3 z
  | .scr ns, v, h => h
  | .loc n, v, h => h
theorem RepL.more {D₀ : Addr} (hn : H D₀ = none) : ∀ (ds : List D) {vs : List V}, RepL K H ν μ ds vs → RepL K H (D₀ :: ν) μ ds vs
  | [], vs, h => h
  | d :: ds, vs, h => by
    unfold RepL at h ⊢
    obtain ⟨v, r, e, h1, h2⟩ := h
    exact ⟨v, r, e, RepD.more hn d h1, RepL.more hn ds h2⟩
end
theorem RepL.length : ∀ {ds : List D} {vs : List V}, RepL K H ν μ ds vs → ds.length = vs.length
  | [], vs, h => by unfold RepL at h; subst h; rfl
  | d :: ds, vs, h => by
    unfold RepL at h
    obtain ⟨v, r, rfl, h1, h2⟩ := h
    simp [RepL.length h2]
theorem RepL.get : ∀ {ds : List D} {vs : List V} {i : Nat} {d : D}, RepL K H ν μ ds vs → ds[i]? = some d → ∃ v, vs[i]? = some v ∧ RepD K H ν μ d v
  | [], vs, i, d, h, e => by simp at e
  | d₀ :: ds, vs, i, d, h, e => by
    unfold RepL at h
    obtain ⟨v, r, rfl, h1, h2⟩ := h
    cases i with
    | zero => simp at e; subst e; exact ⟨v, rfl, h1⟩
    | succ i => exact RepL.get (i := i) h2 (by simpa using e)
theorem RepL.snoc {d : D} {v : V} (hd : RepD K H ν μ d v) : ∀ {ds : List D} {vs : List V}, RepL K H ν μ ds vs → RepL K H ν μ (ds ++ [d]) (vs ++ [v])
  | [], vs, h => by
    unfold RepL at h; subst h
    exact ⟨v, [], rfl, hd, rfl⟩
  | d₀ :: ds, vs, h => by
    unfold RepL at h
    obtain ⟨v₀, r, rfl, h1, h2⟩ := h
    exact ⟨v₀, r ++ [v], rfl, h1, RepL.snoc hd h2⟩
theorem RepL.app : ∀ {ds es : List D} {vs ws : List V}, RepL K H ν μ ds vs → RepL K H ν μ es ws → RepL K H ν μ (ds ++ es) (vs ++ ws)
  | [], es, vs, ws, h, g => by
    unfold RepL at h; subst h; exact g
  | d₀ :: ds, es, vs, ws, h, g => by
    unfold RepL at h
    obtain ⟨v₀, r, rfl, h1, h2⟩ := h
    exact ⟨v₀, r ++ ws, rfl, h1, RepL.app h2 g⟩
theorem RepL.take : ∀ {ds : List D} {vs : List V} (n : Nat), RepL K H ν μ ds vs → RepL K H ν μ (ds.take n) (vs.take n)
  | _, _, 0, _ => rfl
  | [], vs, n + 1, h => by unfold RepL at h; subst h; rfl
  | d :: ds, vs, n + 1, h => by
    unfold RepL at h
    obtain ⟨v, r, rfl, h1, h2⟩ := h
    exact ⟨v, r.take n, rfl, h1, RepL.take n h2⟩
theorem RepL.drop : ∀ {ds : List D} {vs : List V} (n : Nat), RepL K H ν μ ds vs → RepL K H ν μ (ds.drop n) (vs.drop n)
  | ds, vs, 0, h => by simpa using h
  | [], vs, n + 1, h => by unfold RepL at h; subst h; rfl
  | d :: ds, vs, n + 1, h => by
    unfold RepL at h
    obtain ⟨v, r, rfl, h1, h2⟩ := h
    exact RepL.drop n h2
theorem RepL.set {d : D} {v : V} (hd : RepD K H ν μ d v) : ∀ {ds : List D} {vs : List V} (i : Nat), RepL K H ν μ ds vs → RepL K H ν μ (ds.set i d) (vs.set i v)
  | [], vs, i, h => by unfold RepL at h; subst h; rfl
  | d₀ :: ds, vs, i, h => by
    unfold RepL at h
    obtain ⟨v₀, r, rfl, h1, h2⟩ := h
    cases i with
    | zero => exact ⟨v, r, rfl, hd, h2⟩
    | succ i => exact ⟨v₀, r.set i v, rfl, h1, RepL.set hd i h2⟩
theorem repL_ints : ∀ (ns : List Int), RepL K H ν μ (ns.map D.int) (ns.map V.int)
  | [] => rfl
  | n :: ns => ⟨_, _, rfl, rfl, repL_ints ns⟩
end
end Dl
end
section
set_option Elab.async false
set_option linter.all false
set_option maxRecDepth 100000
namespace Dl
open PySem L2

def RepKV {κ : Type} (K : PySem.W.Frag) (H : Hp) (ν μ : List Addr) : List (κ × D) → List (κ × V) → Prop
  | [], xs => xs = []
  | (k, d) :: r, xs => ∃ v q, xs = (k, v) :: q ∧ RepD K H ν μ d v ∧ RepKV K H ν μ r q

def RepO (C : Cfg) (K : PySem.W.Frag) (H : Hp) (ν μ : List Addr) : O → Addr → Prop
  | .lst ds, a => ∃ xs, H a = some (.lst xs) ∧ RepL K H ν μ ds xs
  | .dic kvs, a => ∃ xs, H a = some (.dK xs) ∧ RepKV K H ν μ kvs xs
  | .dit kvs, a => ∃ xs, H a = some (.dT xs) ∧ RepKV K H ν μ kvs xs
  | .ins c fs, a => ∃ dx xs, H a = some (.ins (C.cls c) dx xs) ∧ RepKV K H ν μ fs xs

/-- what may be changed in place -/
def Ch : HO → Prop
  | .lst _ => True
  | .dK _ => True
  | .dT _ => True
  | .ins _ _ _ => True
  | _ => False
theorem Ch.ntb {o : HO} (h : Ch o) : NTb o := fun ps z => by subst z; exact h
theorem Ch.nfix {o : HO} (h : Ch o) : ¬ Fix o := fun z => by
  rcases z with ⟨xs, rfl⟩ | ⟨ob, u, rfl⟩ <;> exact h

section
variable {C : Cfg} {K : PySem.W.Frag} {H H' H'' : Hp} {ν ν' μ μ' μ'' : List Addr} {g g' : G}
theorem RepKV.mono {κ : Type} (k : Kp ν H μ H' μ') : ∀ {kvs : List (κ × D)} {xs : List (κ × V)}, RepKV K H ν μ kvs xs → RepKV K H' ν μ' kvs xs
  | [], xs, h => h
  | (q, d) :: r, xs, h => by
    unfold RepKV at h ⊢
    obtain ⟨v, r', e, h1, h2⟩ := h
    exact ⟨v, r', e, RepD.mono k d h1, RepKV.mono k h2⟩
theorem RepKV.less {κ : Type} {D₀ : Addr} : ∀ {kvs : List (κ × D)} {xs : List (κ × V)}, RepKV K H (D₀ :: ν) μ kvs xs → RepKV K H ν μ kvs xs
  | [], xs, h => h
  | (q, d) :: r, xs, h => by
    unfold RepKV at h ⊢
    obtain ⟨v, r', e, h1, h2⟩ := h
    exact ⟨v, r', e, RepD.less d h1, RepKV.less h2⟩
theorem RepKV.more {κ : Type} {D₀ : Addr} (hn : H D₀ = none) : ∀ {kvs : List (κ × D)} {xs : List (κ × V)}, RepKV K H ν μ kvs xs → RepKV K H (D₀ :: ν) μ kvs xs
  | [], xs, h => h
  | (q, d) :: r, xs, h => by
    unfold RepKV at h ⊢
    obtain ⟨v, r', e, h1, h2⟩ := h
    exact ⟨v, r', e, RepD.more hn d h1, RepKV.more hn h2⟩
theorem RepO.ch {o : O} {a : Addr} (h : RepO C K H ν μ o a) : ∃ u, H a = some u ∧ Ch u := by
  cases o with
  | lst ds => obtain ⟨xs, e, _⟩ := h; exact ⟨_, e, trivial⟩
  | dic ds => obtain ⟨xs, e, _⟩ := h; exact ⟨_, e, trivial⟩
  | dit ds => obtain ⟨xs, e, _⟩ := h; exact ⟨_, e, trivial⟩
  | ins c ds => obtain ⟨dx, xs, e, _⟩ := h; exact ⟨_, e, trivial⟩
theorem RepO.mono {o : O} {a : Addr} (k : Kp ν H μ H' μ') (e : H' a = H a) (h : RepO C K H ν μ o a) : RepO C K H' ν μ' o a := by
  cases o with
  | lst ds => obtain ⟨xs, q, r⟩ := h; exact ⟨xs, e.trans q, RepL.mono k _ r⟩
  | dic ds => obtain ⟨xs, q, r⟩ := h; exact ⟨xs, e.trans q, RepKV.mono k r⟩
  | dit ds => obtain ⟨xs, q, r⟩ := h; exact ⟨xs, e.trans q, RepKV.mono k r⟩
  | ins c ds => obtain ⟨dx, xs, q, r⟩ := h; exact ⟨dx, xs, e.trans q, RepKV.mono k r⟩
theorem RepO.less {o : O} {a D₀ : Addr} (h : RepO C K H (D₀ :: ν) μ o a) : RepO C K H ν μ o a := by
  cases o with
  | lst ds => obtain ⟨xs, q, r⟩ := h; exact ⟨xs, q, RepL.less _ r⟩
  | dic ds => obtain ⟨xs, q, r⟩ := h; exact ⟨xs, q, RepKV.less r⟩
  | dit ds => obtain ⟨xs, q, r⟩ := h; exact ⟨xs, q, RepKV.less r⟩
  | ins c ds => obtain ⟨dx, xs, q, r⟩ := h; exact ⟨dx, xs, q, RepKV.less r⟩
theorem RepO.more {o : O} {a D₀ : Addr} (hn : H D₀ = none) (h : RepO C K H ν μ o a) : RepO C K H (D₀ :: ν) μ o a := by
  cases o with
  | lst ds => obtain ⟨xs, q, r⟩ := h; exact ⟨xs, q, RepL.more hn _ r⟩
  | dic ds => obtain ⟨xs, q, r⟩ := h; exact ⟨xs, q, RepKV.more hn r⟩
  | dit ds => obtain ⟨xs, q, r⟩ := h; exact ⟨xs, q, RepKV.more hn r⟩
  | ins c ds => obtain ⟨dx, xs, q, r⟩ := h; exact ⟨dx, xs, q, RepKV.more hn r⟩

/-- the abstract heap holds the things that may change -/
structure RS (C : Cfg) (K : PySem.W.Frag) (H : Hp) (ν μ : List Addr) (g : G) : Prop where
  len : μ.length = g.length
  nd : μ.Nodup
  dj : ∀ a ∈ ν, a ∉ μ
  nv : ∀ a ∈ ν, ∃ xs, H a = some (.lst xs)
  ob : ∀ (n : Nat) (o : O) (a : Addr), g[n]? = some o → μ[n]? = some a → RepO C K H ν μ o a
  tb : LamX.Tabs C.tabs H

theorem RS.inμ (R : RS C K H ν μ g) {a : Addr} (h : a ∈ μ) : ∃ u, H a = some u ∧ Ch u := by
  obtain ⟨n, hn, e⟩ := List.getElem_of_mem h
  have e' : μ[n]? = some a := by rw [List.getElem?_eq_getElem hn, e]
  have hg : n < g.length := by rw [← R.len]; exact hn
  exact (R.ob n _ a (List.getElem?_eq_getElem hg) e').ch
theorem tabs_of {T : List (Addr × Str)} (t : LamX.Tabs T H) (k : ∀ b o, H b = some o → ¬ Ch o → H' b = some o) : LamX.Tabs T H' := fun p hp => by
  obtain ⟨ps, h1, h2, h3⟩ := t p hp
  refine ⟨ps, k _ _ h1 (fun z => z), h2, fun pos cv hc => ?_⟩
  obtain ⟨c, e1, e2⟩ := h3 pos cv hc
  exact ⟨c, e1, k _ _ e2 (fun z => z)⟩
/-- a new thing that never changes -/
theorem RS.new (R : RS C K H ν μ g) {p : Addr} {o : HO} (hp : H p = none) : RS C K (upd H p o) ν μ g ∧ Ext H μ (upd H p o) μ := by
  have k : ∀ b u, H b = some u → upd H p o b = some u := fun b u e => by rw [upd_ne (ne_of_none e hp)]; exact e
  have ex : Ext H μ (upd H p o) μ := ⟨⟨[], by simp, by simp⟩, fun b u e _ _ => k b u e, fun b u e n => ⟨u, k b u e, n⟩⟩
  refine ⟨⟨R.len, R.nd, R.dj, fun a ha => ?_, fun n u a e1 e2 => ?_, tabs_of R.tb fun b u e _ => k b u e⟩, ex⟩
  · obtain ⟨xs, e⟩ := R.nv a ha
    exact ⟨xs, k _ _ e⟩
  · have q := R.ob n u a e1 e2
    obtain ⟨w, hw, _⟩ := q.ch
    exact q.mono ex.kp' (by rw [k _ _ hw, hw])
/-- a new thing that may change -/
theorem RS.alloc (R : RS C K H ν μ g) {p : Addr} {o : HO} {ob : O} (hp : H p = none) (ro : Ext H μ (upd H p o) (μ ++ [p]) → RepO C K (upd H p o) ν (μ ++ [p]) ob p) :
    RS C K (upd H p o) ν (μ ++ [p]) (g ++ [ob]) ∧ Ext H μ (upd H p o) (μ ++ [p]) := by
  have k : ∀ b u, H b = some u → upd H p o b = some u := fun b u e => by rw [upd_ne (ne_of_none e hp)]; exact e
  have ex : Ext H μ (upd H p o) (μ ++ [p]) := ⟨⟨[p], rfl, fun a ha => free_none ((congrArg H (List.mem_singleton.mp ha)).trans hp)⟩, fun b u e _ _ => k b u e, fun b u e n => ⟨u, k b u e, n⟩⟩
  have np : p ∉ μ := fun z => by
    obtain ⟨u, e, _⟩ := R.inμ z
    rw [hp] at e; cases e
  refine ⟨⟨by simp [R.len], ?_, fun a ha => ?_, fun a ha => ?_, fun n u a e1 e2 => ?_, tabs_of R.tb fun b u e _ => k b u e⟩, ex⟩
  · exact List.nodup_append.mpr ⟨R.nd, by simp, fun a ha b hb z => by
      have : b = p := by simpa using hb
      subst this; subst z; exact np ha⟩
  · intro z
    rcases List.mem_append.mp z with z | z
    · exact R.dj a ha z
    · have : a = p := by simpa using z
      obtain ⟨xs, e⟩ := R.nv a ha
      rw [this, hp] at e; cases e
  · obtain ⟨xs, e⟩ := R.nv a ha
    exact ⟨xs, k _ _ e⟩
  · by_cases hn : n < g.length
    · rw [List.getElem?_append_left hn] at e1
      rw [List.getElem?_append_left (by rw [R.len]; exact hn)] at e2
      have q := R.ob n u a e1 e2
      obtain ⟨w, hw, _⟩ := q.ch
      exact q.mono ex.kp' (by rw [k _ _ hw, hw])
    · rw [List.getElem?_append_right (by omega)] at e1
      rw [List.getElem?_append_right (by rw [R.len]; omega)] at e2
      rw [R.len] at e2
      cases hj : n - g.length with
      | zero =>
        rw [hj] at e1 e2
        simp at e1 e2
        subst e1; subst e2
        exact ro ex
      | succ j => rw [hj] at e1; simp at e1
/-- a thing is changed -/
theorem RS.write (R : RS C K H ν μ g) {n : Nat} {a : Addr} {o : HO} {ob : O} (hn : μ[n]? = some a) (no : NTb o) (ro : Ext H μ (upd H a o) μ → RepO C K (upd H a o) ν μ ob a) :
    RS C K (upd H a o) ν μ (g.set n ob) ∧ Ext H μ (upd H a o) μ := by
  have ha : a ∈ μ := List.mem_of_getElem? hn
  obtain ⟨w, hw, cw⟩ := R.inμ ha
  have ex : Ext H μ (upd H a o) μ := ⟨⟨[], by simp, by simp⟩, fun b u e c _ => by
    have ne : b ≠ a := fun z => by
      subst z
      rcases c with c | c
      · exact c ha
      · rw [hw] at e; cases e; exact cw.nfix c
    rw [upd_ne ne]; exact e, fun b u e n => by
    by_cases z : b = a
    · exact ⟨o, by rw [z]; exact upd_same, no⟩
    · exact ⟨u, by rw [upd_ne z]; exact e, n⟩⟩
  refine ⟨⟨by simp [R.len], R.nd, R.dj, fun b hb => ?_, fun m u b e1 e2 => ?_, tabs_of R.tb fun b u e nc => ?_⟩, ex⟩
  · obtain ⟨xs, e⟩ := R.nv b hb
    refine ⟨xs, ?_⟩
    rw [upd_ne (fun z => R.dj b hb (by rw [z]; exact ha))]; exact e
  · by_cases hm : m = n
    · subst hm
      rw [hn] at e2; cases e2
      have hl : m < g.length := by rw [← R.len]; exact (List.getElem?_eq_some_iff.mp hn).1
      rw [List.getElem?_set_self hl] at e1
      cases e1
      exact ro ex
    · rw [List.getElem?_set_ne (Ne.symm hm)] at e1
      have q := R.ob m u b e1 e2
      refine q.mono ex.kp' (upd_ne fun z => hm ?_)
      subst z
      obtain ⟨l1, q1⟩ := List.getElem?_eq_some_iff.mp e2
      obtain ⟨l2, q2⟩ := List.getElem?_eq_some_iff.mp hn
      exact (List.getElem_inj R.nd).mp (q1.trans q2.symm)
  · rw [upd_ne (fun z => by subst z; rw [hw] at e; cases e; exact nc cw)]; exact e

/-- the frame's names -/
structure RepE (K : PySem.W.Frag) (H : Hp) (ν μ : List Addr) (ρ : Env') (σ : St) : Prop where
  len : ρ.length = σ.length
  at' : ∀ (i : Nat) (d : D), ρ[i]? = some (some d) → ∃ v, σ[i]? = some (some v) ∧ RepD K H ν μ d v
theorem RepE.mono {ρ : Env'} {σ : St} (k : Kp ν H μ H' μ') (h : RepE K H ν μ ρ σ) : RepE K H' ν μ' ρ σ :=
  ⟨h.len, fun i d e => by obtain ⟨v, e1, r⟩ := h.at' i d e; exact ⟨v, e1, RepD.mono k d r⟩⟩
theorem RepE.set {ρ : Env'} {σ : St} {d : D} {v : V} (h : RepE K H ν μ ρ σ) (r : RepD K H ν μ d v) (i : Nat) : RepE K H ν μ (ρ.set i (some d)) (σ.set i (some v)) := by
  refine ⟨by simp [h.len], fun j e he => ?_⟩
  by_cases hj : j = i
  · subst hj
    have hl : j < ρ.length := by
      have := (List.getElem?_eq_some_iff.mp he).1
      simpa using this
    rw [List.getElem?_set_self hl] at he
    cases he
    exact ⟨v, by rw [List.getElem?_set_self (by rw [← h.len]; exact hl)], r⟩
  · rw [List.getElem?_set_ne (Ne.symm hj)] at he ⊢
    exact h.at' j e he

def Res.bind {α β : Type} (r : Res α) (k : α → G → Res β) : Res β := match r with
  | .ok a g => k a g
  | .err c g => .err c g
  | .stuck => .stuck

/-- what must hold of the value and the heap behind -/
def Post (C : Cfg) (K : PySem.W.Frag) (W : WX) (σ : St) (H : Hp) (ν μ : List Addr) (r : Res D) (Q : VK) : Prop := match r with
  | .ok d g' => ∀ v H' μ', Ext H μ H' μ' → RS C K H' ν μ' g' → RepD K H' ν μ' d v → Q v H'
  | .err c g' => ∀ H' μ', Ext H μ H' μ' → RS C K H' ν μ' g' → W (.ref (C.exc c)) none σ H'
  | .stuck => False
def PostL (C : Cfg) (K : PySem.W.Frag) (W : WX) (σ : St) (H : Hp) (ν μ : List Addr) (r : Res (List D)) (Q : List V → Hp → Prop) : Prop := match r with
  | .ok d g' => ∀ v H' μ', Ext H μ H' μ' → RS C K H' ν μ' g' → RepL K H' ν μ' d v → Q v H'
  | .err c g' => ∀ H' μ', Ext H μ H' μ' → RS C K H' ν μ' g' → W (.ref (C.exc c)) none σ H'
  | .stuck => False
def PostB (C : Cfg) (K : PySem.W.Frag) (W : WX) (σ : St) (H : Hp) (ν μ : List Addr) (r : Res Bool) (Q : Bool → Hp → Prop) : Prop := match r with
  | .ok b g' => ∀ H' μ', Ext H μ H' μ' → RS C K H' ν μ' g' → Q b H'
  | .err c g' => ∀ H' μ', Ext H μ H' μ' → RS C K H' ν μ' g' → W (.ref (C.exc c)) none σ H'
  | .stuck => False
theorem Post.ext {W : WX} {σ : St} {r : Res D} {Q : VK} (e : Ext H μ H' μ') (h : Post C K W σ H ν μ r Q) : Post C K W σ H' ν μ' r Q := by
  cases r with
  | ok d g' => exact fun v H2 μ2 e2 => h v H2 μ2 (e.trans e2)
  | err c g' => exact fun H2 μ2 e2 => h H2 μ2 (e.trans e2)
  | stuck => exact h
theorem PostL.ext {W : WX} {σ : St} {r : Res (List D)} {Q : List V → Hp → Prop} (e : Ext H μ H' μ') (h : PostL C K W σ H ν μ r Q) : PostL C K W σ H' ν μ' r Q := by
  cases r with
  | ok d g' => exact fun v H2 μ2 e2 => h v H2 μ2 (e.trans e2)
  | err c g' => exact fun H2 μ2 e2 => h H2 μ2 (e.trans e2)
  | stuck => exact h
theorem PostB.ext {W : WX} {σ : St} {r : Res Bool} {Q : Bool → Hp → Prop} (e : Ext H μ H' μ') (h : PostB C K W σ H ν μ r Q) : PostB C K W σ H' ν μ' r Q := by
  cases r with
  | ok d g' => exact fun H2 μ2 e2 => h H2 μ2 (e.trans e2)
  | err c g' => exact fun H2 μ2 e2 => h H2 μ2 (e.trans e2)
  | stuck => exact h

abbrev FE := Env' → G → Res D
abbrev FT := Env' → G → Res Bool
abbrev FA := Env' → G → Res (List D)
def tD (C : Cfg) (K : PySem.W.Frag) (W : WX) (f : FE) : TE := fun σ H Q => ∃ ρ ν μ g, RepE K H ν μ ρ σ ∧ RS C K H ν μ g ∧ Post C K W σ H ν μ (f ρ g) Q
def tT (C : Cfg) (K : PySem.W.Frag) (W : WX) (f : FT) : TT := fun σ H Q => ∃ ρ ν μ g, RepE K H ν μ ρ σ ∧ RS C K H ν μ g ∧ PostB C K W σ H ν μ (f ρ g) Q
def tA (C : Cfg) (K : PySem.W.Frag) (W : WX) (f : FA) : TA := fun σ H Q => ∃ ρ ν μ g, RepE K H ν μ ρ σ ∧ RS C K H ν μ g ∧ PostL C K W σ H ν μ (f ρ g) Q
end

def DP (C : Cfg) (X : Cx) (W : WX) (e : Expr) (f : FE) : Prop := PE X e (tD C X.K W f)
def DT (C : Cfg) (X : Cx) (W : WX) (e : Expr) (f : FT) : Prop := PT X e (tT C X.K W f)
def DA (C : Cfg) (X : Cx) (W : WX) (es : List Expr) (f : FA) : Prop := PA X es (tA C X.K W f)

theorem PE.imp {X : Cx} {e : Expr} {t t' : TE} (h : PE X e t) (i : ∀ σ H Q, t' σ H Q → t σ H Q) : PE X e t' := ⟨fun pins s σ H Q I q => h.run pins s σ H Q I (i σ H Q q)⟩
theorem PT.imp {X : Cx} {e : Expr} {t t' : TT} (h : PT X e t) (i : ∀ σ H Q, t' σ H Q → t σ H Q) : PT X e t' := ⟨fun pins s σ H Q I q => h.run pins s σ H Q I (i σ H Q q)⟩
theorem PA.imp {X : Cx} {e : List Expr} {t t' : TA} (h : PA X e t) (i : ∀ σ H Q, t' σ H Q → t σ H Q) : PA X e t' := ⟨fun pos pins s σ H Q I q => h.run pos pins s σ H Q I (i σ H Q q)⟩

section
variable {C : Cfg} {X : Cx} {W : WX} {e a b c : Expr} {es : List Expr} {f fa fb fc : FE} {fes : FA} {pos : Pos}

/-- one after another: the first's value, then k of it -/
theorem bindD {K : PySem.W.Frag} {σ : St} {H : Hp} {Q : VK} {k : D → Env' → G → Res D} {R : V → Hp → Prop}
    (h : tD C K W (fun ρ g => (f ρ g).bind fun x g1 => k x ρ g1) σ H Q)
    (hk : ∀ ρ ν μ g d v H', RepE K H' ν μ ρ σ → RS C K H' ν μ g → RepD K H' ν μ d v → Post C K W σ H' ν μ (k d ρ g) Q → R v H') : tD C K W f σ H R := by
  obtain ⟨ρ, ν, μ, g, hE, hR, hP⟩ := h
  refine ⟨ρ, ν, μ, g, hE, hR, ?_⟩
  cases hf : f ρ g with
  | ok d g1 =>
    simp only [hf, Res.bind] at hP
    exact fun v H' μ' ex R' r => hk ρ ν μ' g1 d v H' (hE.mono ex.kp') R' r (hP.ext ex)
  | err c g1 =>
    simp only [hf, Res.bind] at hP
    exact hP
  | stuck =>
    simp only [hf, Res.bind] at hP
    exact hP
theorem tD_of {K : PySem.W.Frag} {σ : St} {H : Hp} {Q : VK} {ρ : Env'} {ν μ : List Addr} {g : G} (hE : RepE K H ν μ ρ σ) (hR : RS C K H ν μ g) (hP : Post C K W σ H ν μ (f ρ g) Q) : tD C K W f σ H Q := ⟨ρ, ν, μ, g, hE, hR, hP⟩
/-- a value that is there -/
theorem Post.here {K : PySem.W.Frag} {σ : St} {H : Hp} {Q : VK} {ν μ : List Addr} {g : G} {d : D} {v : V} (hR : RS C K H ν μ g) (r : RepD K H ν μ d v) (h : Post C K W σ H ν μ (.ok d g) Q) : Q v H := h v H μ .refl hR r

/-! ### names, constants -/
def fVar (i : Nat) : FE := fun ρ g => match ρ[i]? with
  | some (some d) => .ok d g
  | _ => .stuck
theorem dp_var {i : Nat} {x : Str} (hN : X.N[i]? = some x) (hv : Vis X.env.scope x) (hd : (x == ("__debug__" : Str)) = false := by decide) (hcd : (x == ("__classdict__" : Str)) = false := by decide) : DP C X W (.Name x pos) (fVar i) := by
  refine PE.imp (pe_var hN hv hd hcd) fun σ H Q h => ?_
  obtain ⟨ρ, ν, μ, g, hE, hR, hP⟩ := h
  unfold fVar at hP
  split at hP
  · rename_i d e
    obtain ⟨v, ev, r⟩ := hE.at' i d e
    exact ⟨v, ev, hP.here hR r⟩
  · exact hP.elim
def fC (d : D) : FE := fun _ g => .ok d g
theorem dp_int {i : Int} {j : Nat} : DP C X W (.Constant (.int i) j pos) (fC (.int i)) := PE.imp pe_int fun σ H Q ⟨ρ, ν, μ, g, hE, hR, hP⟩ => hP.here hR (show RepD _ _ _ _ (.int i) (.int i) from rfl)
theorem dp_str {i : Str} {j : Nat} : DP C X W (.Constant (.str i) j pos) (fC (.str i)) := PE.imp pe_str fun σ H Q ⟨ρ, ν, μ, g, hE, hR, hP⟩ => hP.here hR (show RepD _ _ _ _ (.str i) (.str i) from rfl)
theorem dp_bl {i : Bool} {j : Nat} : DP C X W (.Constant (.bool i) j pos) (fC (.bl i)) := PE.imp pe_bl fun σ H Q ⟨ρ, ν, μ, g, hE, hR, hP⟩ => hP.here hR (show RepD _ _ _ _ (.bl i) (.bl i) from rfl)
theorem dp_non {j : Nat} : DP C X W (.Constant .none j pos) (fC .non) := PE.imp pe_non fun σ H Q ⟨ρ, ν, μ, g, hE, hR, hP⟩ => hP.here hR (show RepD _ _ _ _ .non .non from rfl)

/-! ### operators -/
abbrev F2 := D → D → G → Res D
/-- an operator by values -/
def rD (C : Cfg) (K : PySem.W.Frag) (o : F2) : R2 := fun x y H Q => ∃ dx dy ν μ g, RS C K H ν μ g ∧ RepD K H ν μ dx x ∧ RepD K H ν μ dy y ∧ ∀ W σ, Post C K W σ H ν μ (o dx dy g) Q
/-- an operator that raises nothing of its own -/
def NoErr (o : F2) : Prop := ∀ x y g c g', o x y g ≠ .err c g'
theorem post_any {K : PySem.W.Frag} {σ : St} {H : Hp} {Q : VK} {ν μ : List Addr} {r : Res D} (n : ∀ c g', r ≠ .err c g') (h : Post C K W σ H ν μ r Q) (W' : WX) (σ' : St) : Post C K W' σ' H ν μ r Q := by
  cases r with
  | ok d g => exact h
  | err c g => exact absurd rfl (n c g)
  | stuck => exact h
def fBin (o : F2) (fa fb : FE) : FE := fun ρ g => (fa ρ g).bind fun x g1 => (fb ρ g1).bind fun y g2 => o x y g2
theorem tBin {K : PySem.W.Frag} {o : F2} {r : R2} {σ : St} {H : Hp} {Q : VK} (no : NoErr o) (ro : ∀ x y H Q, rD C K o x y H Q → r x y H Q) (h : tD C K W (fBin o fa fb) σ H Q) : tOp r (tD C K W fa) (tD C K W fb) σ H Q := by
  refine bindD (k := fun x ρ g1 => (fb ρ g1).bind fun y g2 => o x y g2) h fun ρ ν μ g dx x H1 hE hR rx hP => ?_
  refine ⟨ρ, ν, μ, g, hE, hR, ?_⟩
  cases hf : fb ρ g with
  | ok dy g2 =>
    simp only [hf, Res.bind] at hP
    exact fun y H2 μ2 ex R2 ry => ro _ _ _ _ ⟨dx, dy, ν, μ2, g2, R2, RepD.mono ex.kp' _ rx, ry, fun W' σ' => post_any (fun _ _ => no _ _ _ _ _) (hP.ext ex) W' σ'⟩
  | err c g2 =>
    simp only [hf, Res.bind] at hP
    exact hP
  | stuck =>
    simp only [hf, Res.bind] at hP
    exact hP
theorem dp_bin {op : Operator} {o : F2} (no : NoErr o) (ho : OpR X (binaryOp op) (rD C X.K o)) (ha : DP C X W a fa) (hb : DP C X W b fb) : DP C X W (.BinOp a op b pos) (fBin o fa fb) :=
  PE.imp (pe_op ho ha hb) fun σ H Q h => tBin no (fun _ _ _ _ z => z) h
theorem dp_cmp {op : CmpOp} {o : F2} (no : NoErr o) (ho : OpR X (compareOp op) (rD C X.K o)) (ha : DP C X W a fa) (hb : DP C X W b fb) (hm : behindInMarks op b = false) : DP C X W (.Compare a [op] [b] pos) (fBin o fa fb) :=
  PE.imp (pe_cmpR ho ha hb hm) fun σ H Q h => tBin no (fun _ _ _ _ z => z) h
end
end Dl
end
section
set_option Elab.async false
set_option linter.all false
set_option maxRecDepth 100000
namespace Dl
open PySem L2
/-! ### reading sequences -/
def lstOf (g : G) : D → Option (List D)
  | .lst xs => some xs
  | .loc n => match g[n]? with
    | some (.lst xs) => some xs
    | _ => none
  | _ => none
def seqOf (g : G) : D → Option (List D)
  | .tup xs => some xs
  | .scr ns => some (ns.map .int)
  | d => lstOf g d
section
variable {C : Cfg} {K : PySem.W.Frag} {H H' : Hp} {ν μ μ' : List Addr} {g : G} {d : D} {ds : List D} {v : V}
theorem lst_rd (R : RS C K H ν μ g) (r : RepD K H ν μ d v) (e : lstOf g d = some ds) : ∃ a xs, v = .ref a ∧ H a = some (.lst xs) ∧ RepL K H ν μ ds xs := by
  unfold lstOf at e
  split at e
  · cases e
    unfold RepD at r
    obtain ⟨a, xs, e, h1, _, _, h4⟩ := r
    exact ⟨a, xs, e, h1, h4⟩
  · split at e
    · rename_i n _ xs hg
      cases e
      unfold RepD at r
      obtain ⟨a, e, h⟩ := r
      obtain ⟨xs', h1, h2⟩ := R.ob n _ a hg h
      exact ⟨a, xs', e, h1, h2⟩
    · cases e
  · cases e
theorem seq_rd (R : RS C K H ν μ g) (r : RepD K H ν μ d v) (e : seqOf g d = some ds) : ∃ a xs, v = .ref a ∧ (SqL K H a xs ∨ SqT K H a xs) ∧ RepL K H ν μ ds xs := by
  unfold seqOf at e
  split at e
  · cases e
    unfold RepD at r
    obtain ⟨a, xs, e, h1, h2⟩ := r
    exact ⟨a, xs, e, .inr h1, h2⟩
  · cases e
    unfold RepD at r
    obtain ⟨a, e, h⟩ := r
    refine ⟨a, _, e, .inl ?_, repL_ints _⟩
    rcases h with ⟨o, h⟩ | h
    · exact .inl (.inr ⟨o, h⟩)
    · rcases h with h | h
      · rcases h with h | ⟨o, h⟩ <;> cases h
      · exact .inr h
  · obtain ⟨a, xs, e1, h1, h2⟩ := lst_rd R r e
    exact ⟨a, xs, e1, .inl (SqL.of h1), h2⟩
theorem RS.sz {a : Addr} {X : Cx} {pins : List (Addr × Obj)} {σ : St} {s : Shared} {xs : List V} (I : Inv X pins σ H s) (h : H a = some (.lst xs)) : xs.length ≤ sizeLine := (I.hok a _ h).1
/-- a new list, a new tuple -/
theorem new_lst (R : RS C K H ν μ g) {p : Addr} {xs : List V} (hp : H p = none) (r : RepL K H ν μ ds xs) : Ext H μ (upd H p (.lst xs)) μ ∧ RS C K (upd H p (.lst xs)) ν μ g ∧ RepD K (upd H p (.lst xs)) ν μ (.lst ds) (.ref p) := by
  obtain ⟨R', ex⟩ := R.new (o := .lst xs) hp
  refine ⟨ex, R', ?_⟩
  refine ⟨p, xs, rfl, upd_same, fun z => ?_, fun z => ?_, RepL.mono ex.kp' ds r⟩
  · obtain ⟨u, e, _⟩ := R.inμ z
    rw [hp] at e; cases e
  · obtain ⟨u, e⟩ := R.nv p z
    rw [hp] at e; cases e
theorem new_tup (R : RS C K H ν μ g) {p : Addr} {xs : List V} (hp : H p = none) (r : RepL K H ν μ ds xs) : Ext H μ (upd H p (.tup xs)) μ ∧ RS C K (upd H p (.tup xs)) ν μ g ∧ RepD K (upd H p (.tup xs)) ν μ (.tup ds) (.ref p) := by
  obtain ⟨R', ex⟩ := R.new (o := .tup xs) hp
  exact ⟨ex, R', p, xs, rfl, SqT.of upd_same, RepL.mono ex.kp' ds r⟩
/-- a new list that may change -/
theorem new_mut (R : RS C K H ν μ g) {p : Addr} {xs : List V} (hp : H p = none) (r : RepL K H ν μ ds xs) :
    Ext H μ (upd H p (.lst xs)) (μ ++ [p]) ∧ RS C K (upd H p (.lst xs)) ν (μ ++ [p]) (g ++ [.lst ds]) ∧ RepD K (upd H p (.lst xs)) ν (μ ++ [p]) (.loc g.length) (.ref p) := by
  obtain ⟨R', ex⟩ := R.alloc (o := .lst xs) (ob := .lst ds) hp fun ex => ⟨xs, upd_same, RepL.mono ex.kp' ds r⟩
  refine ⟨ex, R', p, rfl, ?_⟩
  rw [← R.len, List.getElem?_append_right (Nat.le_refl _)]
  simp
end
/-! ### arithmetic, concatenation -/
def oAdd : F2
  | .int i, .int j, g => .ok (.int (i + j)) g
  | .str a, .str b, g => if a.length + b.length ≤ sizeLine then .ok (.str (a ++ b)) g else .stuck
  | .tup a, .tup b, g => if a.length + b.length ≤ sizeLine then .ok (.tup (a ++ b)) g else .stuck
  | x, y, g => match lstOf g x, lstOf g y with
    | some a, some b => if a.length + b.length ≤ sizeLine then .ok (.lst (a ++ b)) g else .stuck
    | _, _ => .stuck
def oSub : F2
  | .int i, .int j, g => .ok (.int (i - j)) g
  | _, _, _ => .stuck
def mulOk (i j : Int) : Bool := decide (-(2 ^ 64) < i ∧ i < 2 ^ 64) || decide (-(2 ^ 64) < j ∧ j < 2 ^ 64) || decide (i.natAbs.log2 + j.natAbs.log2 < 1000000)
def oMul : F2
  | .int i, .int j, g => if mulOk i j then .ok (.int (i * j)) g else .stuck
  | .lst a, .int k, g => if -(2 ^ 63) ≤ k ∧ k < 2 ^ 63 ∧ a.length * k.toNat ≤ sizeLine then .ok (.lst (List.replicate k.toNat a).flatten) g else .stuck
  | _, _, _ => .stuck
def oDiv : F2
  | .int i, .int j, g => if j ≠ 0 ∧ j.natAbs < 1073741824 then .ok (.int (i.fdiv j)) g else if 0 < j ∧ j.natAbs.log2 < 9000 then .ok (.int (i.fdiv j)) g else .stuck
  | _, _, _ => .stuck
def oMod : F2
  | .int i, .int j, g => if j ≠ 0 then .ok (.int (i.fmod j)) g else .stuck
  | _, _, _ => .stuck
def oPow : F2
  | .int i, .int j, g => if 0 ≤ j ∧ j ≤ 1000000 ∧ i.natAbs < 2 ^ 64 then .ok (.int (i ^ j.toNat)) g else .stuck
  | _, _, _ => .stuck
/-! ### comparisons -/
def optAll {α : Type} : List (Option α) → Option (List α)
  | [] => some []
  | some a :: r => (optAll r).map (a :: ·)
  | none :: _ => none
def toPy (g : G) : Nat → D → Option PyData
  | 0, _ => none
  | n + 1, d => match d with
    | .non => some .none
    | .bl b => some (.bool b)
    | .int i => some (.int i)
    | .str s => some (.str s)
    | .tup ds => (optAll (ds.map (toPy g n))).map .tuple
    | .lst ds => (optAll (ds.map (toPy g n))).map .list
    | .loc l => match g[l]? with
      | some (.lst ds) => (optAll (ds.map (toPy g n))).map .list
      | _ => none
    | .scr _ => none
def eqPy (g : G) (x y : D) : Option Bool := match toPy g 12 x, toPy g 12 y with
  | some d, some e => if SeqAt.shaped d && SeqAt.shaped e then some (PyData.eqv d e) else none
  | _, _ => none
def oEq : F2 := fun x y g => match eqPy g x y with
  | some b => .ok (.bl b) g
  | none => .stuck
def oNe : F2 := fun x y g => match eqPy g x y with
  | some b => .ok (.bl (!b)) g
  | none => .stuck
def oLt : F2
  | .int i, .int j, g => .ok (.bl (decide (i < j))) g
  | .str a, .str b, g => .ok (.bl (decide (a.cps.toList < b.cps.toList))) g
  | _, _, _ => .stuck
def oLe : F2
  | .int i, .int j, g => .ok (.bl (decide (i ≤ j))) g
  | _, _, _ => .stuck
def oGt : F2
  | .int i, .int j, g => .ok (.bl (decide (j < i))) g
  | _, _, _ => .stuck
def oGe : F2
  | .int i, .int j, g => .ok (.bl (decide (j ≤ i))) g
  | _, _, _ => .stuck
def isNon : D → Bool
  | .non => true
  | _ => false
def oIs : F2
  | x, .non, g => .ok (.bl (isNon x)) g
  | _, _, _ => .stuck
def oIsNot : F2
  | x, .non, g => .ok (.bl (!isNon x)) g
  | _, _, _ => .stuck

section
variable {C : Cfg} {K : PySem.W.Frag} {H H' : Hp} {ν μ μ' : List Addr} {g : G} {d : D} {ds : List D} {v : V}
theorem toPy_rd (R : RS C K H ν μ g) : ∀ (n : Nat) (d : D) (v : V) (p : PyData), RepD K H ν μ d v → toPy g n d = some p → Dp K H v p
  | 0, _, _, _, _, e => by cases e
  | n + 1, d, v, p, r, e => by
    have all : ∀ (ds : List D) (vs : List V) (ps : List PyData), RepL K H ν μ ds vs → optAll (ds.map (toPy g n)) = some ps → DpAll K H vs ps := by
      intro ds
      induction ds with
      | nil => intro vs ps r e; unfold RepL at r; subst r; simp [optAll] at e; subst e; exact .nil
      | cons d ds ih =>
        intro vs ps r e
        unfold RepL at r
        obtain ⟨v, q, rfl, r1, r2⟩ := r
        rw [List.map_cons] at e
        cases hd : toPy g n d with
        | none => rw [hd] at e; cases e
        | some p =>
          rw [hd] at e
          simp only [optAll] at e
          cases hq : optAll (ds.map (toPy g n)) with
          | none => rw [hq] at e; cases e
          | some ps' =>
            rw [hq] at e
            cases e
            exact .cons (toPy_rd R n d v p r1 hd) (ih q ps' r2 hq)
    unfold toPy at e
    split at e
    · cases e; obtain rfl : v = .non := r; exact .non
    · cases e; obtain rfl : v = .bl _ := r; exact .bl _
    · cases e; obtain rfl : v = .int _ := r; exact .int _
    · cases e; obtain rfl : v = .str _ := r; exact .str _
    · rename_i ds
      unfold RepD at r
      obtain ⟨a, xs, rfl, h1, h2⟩ := r
      cases hq : optAll (ds.map (toPy g n)) with
      | none => rw [hq] at e; cases e
      | some ps => rw [hq] at e; cases e; exact .tup h1 (all ds xs ps h2 hq)
    · rename_i ds
      unfold RepD at r
      obtain ⟨a, xs, rfl, h1, _, _, h2⟩ := r
      cases hq : optAll (ds.map (toPy g n)) with
      | none => rw [hq] at e; cases e
      | some ps => rw [hq] at e; cases e; exact .lst (SqL.of h1) (all ds xs ps h2 hq)
    · rename_i l
      unfold RepD at r
      obtain ⟨a, rfl, h⟩ := r
      split at e
      · rename_i ds hg
        obtain ⟨xs, h1, h2⟩ := R.ob l _ a hg h
        cases hq : optAll (ds.map (toPy g n)) with
        | none => rw [hq] at e; cases e
        | some ps => rw [hq] at e; cases e; exact .lst (SqL.of h1) (all ds xs ps h2 hq)
      · cases e
    · cases e
theorem eqPy_rd (R : RS C K H ν μ g) {x y : D} {v w : V} {b : Bool} (rx : RepD K H ν μ x v) (ry : RepD K H ν μ y w) (e : eqPy g x y = some b) : ∃ d q, Dp K H v d ∧ Dp K H w q ∧ SeqAt.shaped d = true ∧ SeqAt.shaped q = true ∧ PyData.eqv d q = b := by
  unfold eqPy at e
  split at e
  · rename_i d q e1 e2
    split at e
    · rename_i hs
      rw [Bool.and_eq_true] at hs
      cases e
      exact ⟨d, q, toPy_rd R _ _ _ _ rx e1, toPy_rd R _ _ _ _ ry e2, hs.1, hs.2, rfl⟩
    · cases e
  · cases e
end
section
variable {C : Cfg} {X : Cx}
theorem noerr {o : F2} (h : ∀ x y g c g', o x y g = .err c g' → False) : NoErr o := fun x y g c g' e => h x y g c g' e
theorem oAdd_n : NoErr oAdd := noerr fun x y g c g' e => by unfold oAdd at e; split at e <;> (repeat' (split at e)) <;> cases e
theorem oSub_n : NoErr oSub := noerr fun x y g c g' e => by unfold oSub at e; split at e <;> cases e
theorem oMul_n : NoErr oMul := noerr fun x y g c g' e => by unfold oMul at e; split at e <;> (repeat' (split at e)) <;> cases e
theorem oDiv_n : NoErr oDiv := noerr fun x y g c g' e => by unfold oDiv at e; split at e <;> (repeat' (split at e)) <;> cases e
theorem oMod_n : NoErr oMod := noerr fun x y g c g' e => by unfold oMod at e; split at e <;> (repeat' (split at e)) <;> cases e
theorem oPow_n : NoErr oPow := noerr fun x y g c g' e => by unfold oPow at e; split at e <;> (repeat' (split at e)) <;> cases e
theorem oEq_n : NoErr oEq := noerr fun x y g c g' e => by unfold oEq at e; split at e <;> cases e
theorem oNe_n : NoErr oNe := noerr fun x y g c g' e => by unfold oNe at e; split at e <;> cases e
theorem oLt_n : NoErr oLt := noerr fun x y g c g' e => by unfold oLt at e; split at e <;> cases e
theorem oLe_n : NoErr oLe := noerr fun x y g c g' e => by unfold oLe at e; split at e <;> cases e
theorem oGt_n : NoErr oGt := noerr fun x y g c g' e => by unfold oGt at e; split at e <;> cases e
theorem oGe_n : NoErr oGe := noerr fun x y g c g' e => by unfold oGe at e; split at e <;> cases e
theorem oIs_n : NoErr oIs := noerr fun x y g c g' e => by unfold oIs at e; split at e <;> cases e
theorem oIsNot_n : NoErr oIsNot := noerr fun x y g c g' e => by unfold oIsNot at e; split at e <;> cases e

theorem rD_lst {K : PySem.W.Frag} {H : Hp} {ν μ : List Addr} {g : G} {ds : List D} {xs : List V} {W : WX} {σ : St} {Q : VK} (R : RS C K H ν μ g) (r : RepL K H ν μ ds xs) (h : Post C K W σ H ν μ (.ok (.lst ds) g) Q) : ∀ p, H p = none → Q (.ref p) (upd H p (.lst xs)) := fun p hp => by
  obtain ⟨e, R', r'⟩ := new_lst R hp r
  exact h _ _ _ e R' r'
theorem rD_tup {K : PySem.W.Frag} {H : Hp} {ν μ : List Addr} {g : G} {ds : List D} {xs : List V} {W : WX} {σ : St} {Q : VK} (R : RS C K H ν μ g) (r : RepL K H ν μ ds xs) (h : Post C K W σ H ν μ (.ok (.tup ds) g) Q) : ∀ p, H p = none → Q (.ref p) (upd H p (.tup xs)) := fun p hp => by
  obtain ⟨e, R', r'⟩ := new_tup R hp r
  exact h _ _ _ e R' r'

theorem rInt {K : PySem.W.Frag} {H : Hp} {ν μ : List Addr} (i : Int) : RepD K H ν μ (.int i) (.int i) := rfl
theorem rBl {K : PySem.W.Frag} {H : Hp} {ν μ : List Addr} (i : Bool) : RepD K H ν μ (.bl i) (.bl i) := rfl
theorem rStr {K : PySem.W.Frag} {H : Hp} {ν μ : List Addr} (i : Str) : RepD K H ν μ (.str i) (.str i) := rfl
theorem rNon {K : PySem.W.Frag} {H : Hp} {ν μ : List Addr} : RepD K H ν μ .non .non := rfl
theorem rTup {K : PySem.W.Frag} {H : Hp} {ν μ : List Addr} {a : Addr} {ds : List D} {xs : List V} (h : SqT K H a xs) (r : RepL K H ν μ ds xs) : RepD K H ν μ (.tup ds) (.ref a) := ⟨a, xs, rfl, h, r⟩

theorem oAdd_ok : OpR X (binaryOp .Add) (rD C X.K oAdd) := by
  intro pins s σ H x y v u Q I rx ry h
  obtain ⟨dx, dy, ν, μ, g, R, r1, r2, hP⟩ := h
  have hP := hP (fun _ _ _ _ => False) σ
  unfold oAdd at hP
  split at hP
  · obtain rfl : x = .int _ := r1
    obtain rfl : y = .int _ := r2
    exact op_add pins s σ H _ _ v u Q I rx ry ⟨_, _, rfl, rfl, hP.here R (rInt _)⟩
  · obtain rfl : x = .str _ := r1
    obtain rfl : y = .str _ := r2
    split at hP
    · rename_i hl
      exact op_add_str pins s σ H _ _ v u Q I rx ry ⟨_, _, rfl, rfl, hl, hP.here R (rStr _)⟩
    · exact hP.elim
  · unfold RepD at r1 r2
    obtain ⟨a, xs, rfl, h1, h2⟩ := r1
    obtain ⟨b, ys, rfl, h3, h4⟩ := r2
    split at hP
    · rename_i hl
      have e1 := RepL.length h2
      have e2 := RepL.length h4
      have h5 := RepL.app h2 h4
      refine op_catA pins s σ H _ _ v u Q I rx ry ⟨a, b, xs, ys, rfl, rfl, h1, h3, by omega, fun z => ?_, fun _ z => ?_, fun _ _ => rD_tup R h5 hP⟩
      · subst z
        exact hP.here R (rTup h3 h5)
      · subst z
        rw [List.append_nil] at h5
        exact hP.here R (rTup h1 h5)
    · exact hP.elim
  · split at hP
    · rename_i a b e1 e2
      obtain ⟨a, xs, rfl, h1, h2⟩ := lst_rd R r1 e1
      obtain ⟨b, ys, rfl, h3, h4⟩ := lst_rd R r2 e2
      split at hP
      · rename_i hl
        have q1 := RepL.length h2
        have q2 := RepL.length h4
        exact op_cat pins s σ H _ _ v u Q I rx ry ⟨a, b, xs, ys, rfl, rfl, h1, h3, by omega, rD_lst R (RepL.app h2 h4) hP⟩
      · exact hP.elim
    · exact hP.elim
theorem oSub_ok : OpR X (binaryOp .Sub) (rD C X.K oSub) := by
  intro pins s σ H x y v u Q I rx ry h
  obtain ⟨dx, dy, ν, μ, g, R, r1, r2, hP⟩ := h
  have hP := hP (fun _ _ _ _ => False) σ
  unfold oSub at hP
  split at hP
  · obtain rfl : x = .int _ := r1
    obtain rfl : y = .int _ := r2
    exact op_sub pins s σ H _ _ v u Q I rx ry ⟨_, _, rfl, rfl, hP.here R (rInt _)⟩
  · exact hP.elim
theorem RepL.rep {K : PySem.W.Frag} {H : Hp} {ν μ : List Addr} {ds : List D} {xs : List V} (r : RepL K H ν μ ds xs) : ∀ k : Nat, RepL K H ν μ (List.replicate k ds).flatten (List.replicate k xs).flatten
  | 0 => rfl
  | k + 1 => by
    rw [List.replicate_succ, List.replicate_succ, List.flatten_cons, List.flatten_cons]
    exact RepL.app r (RepL.rep r k)
theorem oMul_ok : OpR X (binaryOp .Mult) (rD C X.K oMul) := by
  intro pins s σ H x y v u Q I rx ry h
  obtain ⟨dx, dy, ν, μ, g, R, r1, r2, hP⟩ := h
  have hP := hP (fun _ _ _ _ => False) σ
  unfold oMul at hP
  split at hP
  · obtain rfl : x = .int _ := r1
    obtain rfl : y = .int _ := r2
    split at hP
    · rename_i i j hm
      unfold mulOk at hm
      simp only [Bool.or_eq_true, decide_eq_true_eq] at hm
      have q := hP.here R (rInt _)
      rcases hm with hm | hm
      · exact op_mul pins s σ H _ _ v u Q I rx ry ⟨_, _, rfl, rfl, hm, q⟩
      · exact op_mulW pins s σ H _ _ v u Q I rx ry ⟨_, _, rfl, rfl, hm, q⟩
    · exact hP.elim
  · unfold RepD at r1
    obtain ⟨a, xs, rfl, h1, _, _, h2⟩ := r1
    obtain rfl : y = .int _ := r2
    split at hP
    · rename_i hk
      have q1 := RepL.length h2
      exact op_rep pins s σ H _ _ v u Q I rx ry ⟨a, _, xs, rfl, rfl, h1, hk.1, hk.2.1, by rw [← q1]; exact hk.2.2, rD_lst R (RepL.rep h2 _) hP⟩
    · exact hP.elim
  · exact hP.elim
theorem oDiv_ok : OpR X (binaryOp .FloorDiv) (rD C X.K oDiv) := by
  intro pins s σ H x y v u Q I rx ry h
  obtain ⟨dx, dy, ν, μ, g, R, r1, r2, hP⟩ := h
  have hP := hP (fun _ _ _ _ => False) σ
  unfold oDiv at hP
  split at hP
  · obtain rfl : x = .int _ := r1
    obtain rfl : y = .int _ := r2
    split at hP
    · rename_i hm
      exact op_fdivN pins s σ H _ _ v u Q I rx ry ⟨_, _, rfl, rfl, hm, hP.here R (rInt _)⟩
    · split at hP
      · rename_i i j _ hm
        have q := hP.here R (rInt _)
        rw [Int.fdiv_eq_ediv_of_nonneg _ (Int.le_of_lt hm.1)] at q
        exact op_fdivW pins s σ H _ _ v u Q I rx ry ⟨_, _, rfl, rfl, hm, q⟩
      · exact hP.elim
  · exact hP.elim
theorem oMod_ok : OpR X (binaryOp .Mod) (rD C X.K oMod) := by
  intro pins s σ H x y v u Q I rx ry h
  obtain ⟨dx, dy, ν, μ, g, R, r1, r2, hP⟩ := h
  have hP := hP (fun _ _ _ _ => False) σ
  unfold oMod at hP
  split at hP
  · obtain rfl : x = .int _ := r1
    obtain rfl : y = .int _ := r2
    split at hP
    · rename_i hm
      exact op_modN pins s σ H _ _ v u Q I rx ry ⟨_, _, rfl, rfl, hm, hP.here R (rInt _)⟩
    · exact hP.elim
  · exact hP.elim
theorem oPow_ok : OpR X (binaryOp .Pow) (rD C X.K oPow) := by
  intro pins s σ H x y v u Q I rx ry h
  obtain ⟨dx, dy, ν, μ, g, R, r1, r2, hP⟩ := h
  have hP := hP (fun _ _ _ _ => False) σ
  unfold oPow at hP
  split at hP
  · obtain rfl : x = .int _ := r1
    obtain rfl : y = .int _ := r2
    split at hP
    · rename_i hm
      exact op_pow pins s σ H _ _ v u Q I rx ry ⟨_, _, rfl, rfl, hm, hP.here R (rInt _)⟩
    · exact hP.elim
  · exact hP.elim
theorem oEq_ok (hu : X.A.units + 64 < cLine) : OpR X (compareOp .Eq) (rD C X.K oEq) := by
  intro pins s σ H x y v u Q I rx ry h
  obtain ⟨dx, dy, ν, μ, g, R, r1, r2, hP⟩ := h
  have hP := hP (fun _ _ _ _ => False) σ
  unfold oEq at hP
  split at hP
  · rename_i b e
    obtain ⟨d, q, h1, h2, h3, h4, h5⟩ := eqPy_rd R r1 r2 e
    exact op_eqD hu pins s σ H _ _ v u Q I rx ry ⟨d, q, h1, h2, h3, h4, by rw [h5]; exact hP.here R (rBl _)⟩
  · exact hP.elim
theorem oNe_ok (hu : X.A.units + 64 < cLine) : OpR X (compareOp .NotEq) (rD C X.K oNe) := by
  intro pins s σ H x y v u Q I rx ry h
  obtain ⟨dx, dy, ν, μ, g, R, r1, r2, hP⟩ := h
  have hP := hP (fun _ _ _ _ => False) σ
  unfold oNe at hP
  split at hP
  · rename_i b e
    obtain ⟨d, q, h1, h2, h3, h4, h5⟩ := eqPy_rd R r1 r2 e
    exact op_neD hu pins s σ H _ _ v u Q I rx ry ⟨d, q, h1, h2, h3, h4, by rw [h5]; exact hP.here R (rBl _)⟩
  · exact hP.elim
theorem oLt_ok : OpR X (compareOp .Lt) (rD C X.K oLt) := by
  intro pins s σ H x y v u Q I rx ry h
  obtain ⟨dx, dy, ν, μ, g, R, r1, r2, hP⟩ := h
  have hP := hP (fun _ _ _ _ => False) σ
  unfold oLt at hP
  split at hP
  · obtain rfl : x = .int _ := r1
    obtain rfl : y = .int _ := r2
    exact op_lt pins s σ H _ _ v u Q I rx ry ⟨_, _, rfl, rfl, hP.here R (rBl _)⟩
  · obtain rfl : x = .str _ := r1
    obtain rfl : y = .str _ := r2
    exact op_lt_str pins s σ H _ _ v u Q I rx ry ⟨_, _, rfl, rfl, hP.here R (rBl _)⟩
  · exact hP.elim
theorem oLe_ok : OpR X (compareOp .LtE) (rD C X.K oLe) := by
  intro pins s σ H x y v u Q I rx ry h
  obtain ⟨dx, dy, ν, μ, g, R, r1, r2, hP⟩ := h
  have hP := hP (fun _ _ _ _ => False) σ
  unfold oLe at hP
  split at hP
  · obtain rfl : x = .int _ := r1
    obtain rfl : y = .int _ := r2
    exact op_le pins s σ H _ _ v u Q I rx ry ⟨_, _, rfl, rfl, hP.here R (rBl _)⟩
  · exact hP.elim
theorem oGt_ok : OpR X (compareOp .Gt) (rD C X.K oGt) := by
  intro pins s σ H x y v u Q I rx ry h
  obtain ⟨dx, dy, ν, μ, g, R, r1, r2, hP⟩ := h
  have hP := hP (fun _ _ _ _ => False) σ
  unfold oGt at hP
  split at hP
  · obtain rfl : x = .int _ := r1
    obtain rfl : y = .int _ := r2
    exact op_gt pins s σ H _ _ v u Q I rx ry ⟨_, _, rfl, rfl, hP.here R (rBl _)⟩
  · exact hP.elim
theorem oGe_ok : OpR X (compareOp .GtE) (rD C X.K oGe) := by
  intro pins s σ H x y v u Q I rx ry h
  obtain ⟨dx, dy, ν, μ, g, R, r1, r2, hP⟩ := h
  have hP := hP (fun _ _ _ _ => False) σ
  unfold oGe at hP
  split at hP
  · obtain rfl : x = .int _ := r1
    obtain rfl : y = .int _ := r2
    exact op_ge pins s σ H _ _ v u Q I rx ry ⟨_, _, rfl, rfl, hP.here R (rBl _)⟩
  · exact hP.elim
theorem isNon_rd {K : PySem.W.Frag} {H : Hp} {ν μ : List Addr} : ∀ {d : D} {v : V}, RepD K H ν μ d v → decide (v = .non) = isNon d
  | .non, v, r => by obtain rfl : v = .non := r; rfl
  | .bl _, v, r => by obtain rfl : v = .bl _ := r; rfl
  | .int _, v, r => by obtain rfl : v = .int _ := r; rfl
  | .str _, v, r => by obtain rfl : v = .str _ := r; rfl
  | .tup _, v, r => by obtain ⟨a, xs, rfl, _⟩ := r; rfl
  | .lst _, v, r => by obtain ⟨a, xs, rfl, _⟩ := r; rfl
  | .scr _, v, r => by obtain ⟨a, rfl, _⟩ := r; rfl
  | .loc _, v, r => by obtain ⟨a, rfl, _⟩ := r; rfl
theorem oIs_ok : OpR X (compareOp .Is) (rD C X.K oIs) := by
  intro pins s σ H x y v u Q I rx ry h
  obtain ⟨dx, dy, ν, μ, g, R, r1, r2, hP⟩ := h
  have hP := hP (fun _ _ _ _ => False) σ
  unfold oIs at hP
  split at hP
  · obtain rfl : y = .non := r2
    refine op_isN pins s σ H _ _ v u Q I rx ry ⟨rfl, ?_⟩
    rw [isNon_rd r1]
    exact hP.here R (rBl _)
  · exact hP.elim
theorem oIsNot_ok : OpR X (compareOp .IsNot) (rD C X.K oIsNot) := by
  intro pins s σ H x y v u Q I rx ry h
  obtain ⟨dx, dy, ν, μ, g, R, r1, r2, hP⟩ := h
  have hP := hP (fun _ _ _ _ => False) σ
  unfold oIsNot at hP
  split at hP
  · obtain rfl : y = .non := r2
    refine op_notN pins s σ H _ _ v u Q I rx ry ⟨rfl, ?_⟩
    rw [isNon_rd r1]
    exact hP.here R (rBl _)
  · exact hP.elim
end
end Dl
end
section
set_option Elab.async false
set_option linter.all false
set_option maxRecDepth 100000
namespace Dl
open PySem L2
section
variable {C : Cfg} {X : Cx} {W : WX} {e a b c o : Expr} {es rest : List Expr} {f fa fb fc : FE} {fes : FA} {ft : FT} {pos : Pos}
/-! ### argument lists, displays -/
def fNil : FA := fun _ g => .ok [] g
def fCons (fa : FE) (fr : FA) : FA := fun ρ g => (fa ρ g).bind fun x g1 => (fr ρ g1).bind fun r g2 => .ok (x :: r) g2
theorem da_nil : DA C X W [] fNil := PA.imp pa_nil fun σ H Q ⟨ρ, ν, μ, g, hE, hR, hP⟩ => hP [] H μ .refl hR rfl
theorem bindA {K : PySem.W.Frag} {σ : St} {H : Hp} {Q : List V → Hp → Prop} {k : D → Env' → G → Res (List D)} {R : V → Hp → Prop}
    (h : tA C K W (fun ρ g => (f ρ g).bind fun x g1 => k x ρ g1) σ H Q)
    (hk : ∀ ρ ν μ g d v H', RepE K H' ν μ ρ σ → RS C K H' ν μ g → RepD K H' ν μ d v → PostL C K W σ H' ν μ (k d ρ g) Q → R v H') : tD C K W f σ H R := by
  obtain ⟨ρ, ν, μ, g, hE, hR, hP⟩ := h
  refine ⟨ρ, ν, μ, g, hE, hR, ?_⟩
  cases hf : f ρ g with
  | ok d g1 =>
    simp only [hf, Res.bind] at hP
    exact fun v H' μ' ex R' r => hk ρ ν μ' g1 d v H' (hE.mono ex.kp') R' r (hP.ext ex)
  | err c g1 =>
    simp only [hf, Res.bind] at hP
    exact hP
  | stuck =>
    simp only [hf, Res.bind] at hP
    exact hP
theorem da_cons (ha : DP C X W a fa) (hr : DA C X W es fes) (hs : starEach (a :: es) X.env = (false, eval a X.env) :: starEach es X.env := by rfl) : DA C X W (a :: es) (fCons fa fes) :=
  PA.imp (pa_cons ha hr hs) fun σ H Q h => by
    refine bindA (k := fun x ρ g1 => (fes ρ g1).bind fun r g2 => .ok (x :: r) g2) h fun ρ ν μ g d v H1 hE hR r hP => ?_
    refine ⟨ρ, ν, μ, g, hE, hR, ?_⟩
    cases hf : fes ρ g with
    | ok ds g2 =>
      simp only [hf, Res.bind] at hP
      exact fun vs H2 μ2 ex R2 r2 => hP (v :: vs) H2 μ2 ex R2 ⟨v, vs, rfl, RepD.mono ex.kp' _ r, r2⟩
    | err c g2 => simp only [hf, Res.bind] at hP; exact hP
    | stuck => simp only [hf, Res.bind] at hP; exact hP
/-- the arguments, then k of them -/
theorem bindDA {K : PySem.W.Frag} {σ : St} {H : Hp} {Q : VK} {k : List D → Env' → G → Res D} {R : List V → Hp → Prop}
    (h : tD C K W (fun ρ g => (fes ρ g).bind fun x g1 => k x ρ g1) σ H Q)
    (hk : ∀ ρ ν μ g ds vs H', RepE K H' ν μ ρ σ → RS C K H' ν μ g → RepL K H' ν μ ds vs → Post C K W σ H' ν μ (k ds ρ g) Q → R vs H') : tA C K W fes σ H R := by
  obtain ⟨ρ, ν, μ, g, hE, hR, hP⟩ := h
  refine ⟨ρ, ν, μ, g, hE, hR, ?_⟩
  cases hf : fes ρ g with
  | ok d g1 =>
    simp only [hf, Res.bind] at hP
    exact fun v H' μ' ex R' r => hk ρ ν μ' g1 d v H' (hE.mono ex.kp') R' r (hP.ext ex)
  | err c g1 => simp only [hf, Res.bind] at hP; exact hP
  | stuck => simp only [hf, Res.bind] at hP; exact hP
def fTup (fes : FA) : FE := fun ρ g => (fes ρ g).bind fun ds g1 => if ds.length ≤ sizeLine then .ok (.tup ds) g1 else .stuck
def fLst (fes : FA) : FE := fun ρ g => (fes ρ g).bind fun ds g1 => if ds.length ≤ sizeLine then .ok (.lst ds) g1 else .stuck
def fMut (fes : FA) : FE := fun ρ g => (fes ρ g).bind fun ds g1 => if ds.length ≤ sizeLine then .ok (.loc g1.length) (g1 ++ [O.lst ds]) else .stuck
theorem dp_tup {x1} (h : DA C X W es fes) : DP C X W (.Tuple es x1 pos) (fTup fes) := PE.imp (pe_tup h) fun σ H Q hq => by
  refine bindDA (k := fun ds _ g1 => if ds.length ≤ sizeLine then .ok (.tup ds) g1 else .stuck) hq fun ρ ν μ g ds vs H1 hE hR r hP => ?_
  split at hP
  · rename_i hl
    exact ⟨by rw [← RepL.length r]; exact hl, rD_tup hR r hP⟩
  · exact hP.elim
theorem dp_lst (h : DA C X W es fes) : DP C X W (.List es pos) (fLst fes) := PE.imp (pe_lst h) fun σ H Q hq => by
  refine bindDA (k := fun ds _ g1 => if ds.length ≤ sizeLine then .ok (.lst ds) g1 else .stuck) hq fun ρ ν μ g ds vs H1 hE hR r hP => ?_
  split at hP
  · rename_i hl
    exact ⟨by rw [← RepL.length r]; exact hl, rD_lst hR r hP⟩
  · exact hP.elim
theorem dp_mut (h : DA C X W es fes) : DP C X W (.List es pos) (fMut fes) := PE.imp (pe_lst h) fun σ H Q hq => by
  refine bindDA (k := fun ds _ g1 => if ds.length ≤ sizeLine then .ok (.loc g1.length) (g1 ++ [O.lst ds]) else .stuck) hq fun ρ ν μ g ds vs H1 hE hR r hP => ?_
  split at hP
  · rename_i hl
    refine ⟨by rw [← RepL.length r]; exact hl, fun p hp => ?_⟩
    obtain ⟨e, R', r'⟩ := new_mut hR hp r
    exact hP _ _ _ e R' r'
  · exact hP.elim
/-! ### items, slices -/
def oIx : F2 := fun x i g => match i with
  | .int k => match x with
    | .str z => if z.length ≤ sizeLine then (match atI z.cps.toList k with
      | some c => .ok (.str ⟨#[c]⟩) g
      | none => .stuck) else .stuck
    | d => match seqOf g d with
      | some ds => match atI ds k with
        | some y => .ok y g
        | none => .stuck
      | none => .stuck
  | _ => .stuck
theorem oIx_n : NoErr oIx := noerr fun x y g c g' e => by unfold oIx at e; (repeat' (split at e)) <;> cases e
theorem atI_rep {K : PySem.W.Frag} {H : Hp} {ν μ : List Addr} {ds : List D} {vs : List V} {k : Int} {d : D} (r : RepL K H ν μ ds vs) (e : atI ds k = some d) : ∃ v, atI vs k = some v ∧ RepD K H ν μ d v := by
  unfold atI at e ⊢
  rw [← RepL.length r]
  cases hj : ixN ds.length k with
  | none => rw [hj] at e; cases e
  | some j =>
    rw [hj] at e
    exact RepL.get r e
theorem oIx_ok : IxR X (rD C X.K oIx) := by
  intro val sli pins s σ H x y v u Q I rx ry h hsb
  obtain ⟨dx, dy, ν, μ, g, R, r1, r2, hP⟩ := h
  have hP := hP (fun _ _ _ _ => False) σ
  unfold oIx at hP
  split at hP
  · obtain rfl : y = .int _ := r2
    split at hP
    · obtain rfl : x = .str _ := r1
      split at hP
      · rename_i hl
        split at hP
        · rename_i c hc
          exact ix_str val sli pins s σ H _ _ v u Q I rx ry ⟨_, _, c, rfl, rfl, hl, hc, hP.here R (rStr _)⟩ hsb
        · exact hP.elim
      · exact hP.elim
    · split at hP
      · rename_i ds e1
        split at hP
        · rename_i d e2
          obtain ⟨a, xs, rfl, h1, h2⟩ := seq_rd R r1 e1
          obtain ⟨w, e3, r3⟩ := atI_rep h2 e2
          rcases h1 with h1 | h1
          · exact ix_list val sli pins s σ H _ _ v u Q I rx ry ⟨a, xs, _, w, rfl, rfl, h1, e3, hP.here R r3⟩ hsb
          · exact ix_tup val sli pins s σ H _ _ v u Q I rx ry ⟨a, xs, _, w, rfl, rfl, h1, e3, hP.here R r3⟩ hsb
        · exact hP.elim
      · exact hP.elim
  · exact hP.elim
theorem dp_ix (ha : DP C X W a fa) (hb : DP C X W b fb) (hs : PlainIx b) : DP C X W (.Subscript a b pos) (fBin oIx fa fb) :=
  PE.imp (pe_ix oIx_ok ha hb hs) fun σ H Q h => tBin oIx_n (fun _ _ _ _ z => z) h

abbrev FO := Env' → G → Res (Option Int)
def fNo : FO := fun _ g => .ok none g
def fSo (f : FE) : FO := fun ρ g => (f ρ g).bind fun x g1 => match x with
  | .int i => .ok (some i) g1
  | _ => .stuck
def PostO (C : Cfg) (K : PySem.W.Frag) (W : WX) (σ : St) (H : Hp) (ν μ : List Addr) (r : Res (Option Int)) (Q : Option Int → Hp → Prop) : Prop := match r with
  | .ok b g' => ∀ H' μ', Ext H μ H' μ' → RS C K H' ν μ' g' → Q b H'
  | .err c g' => ∀ H' μ', Ext H μ H' μ' → RS C K H' ν μ' g' → W (.ref (C.exc c)) none σ H'
  | .stuck => False
def tO (C : Cfg) (K : PySem.W.Frag) (W : WX) (f : FO) : TO := fun σ H Q => ∃ ρ ν μ g, RepE K H ν μ ρ σ ∧ RS C K H ν μ g ∧ PostO C K W σ H ν μ (f ρ g) Q
def DO (C : Cfg) (X : Cx) (W : WX) (e : Option Expr) (f : FO) : Prop := PO X e (tO C X.K W f)
theorem PO.imp {X : Cx} {e : Option Expr} {t t' : TO} (h : PO X e t) (i : ∀ σ H Q, t' σ H Q → t σ H Q) : PO X e t' := ⟨fun pins s σ H Q I q => h.run pins s σ H Q I (i σ H Q q)⟩
theorem do_no : DO C X W none fNo := PO.imp po_none fun σ H Q ⟨ρ, ν, μ, g, hE, hR, hP⟩ => hP H μ .refl hR
theorem do_so (h : DP C X W e f) : DO C X W (some e) (fSo f) := PO.imp (po_some h) fun σ H Q ⟨ρ, ν, μ, g, hE, hR, hP⟩ => by
  refine ⟨ρ, ν, μ, g, hE, hR, ?_⟩
  unfold fSo at hP
  cases hf : f ρ g with
  | ok d g1 =>
    simp only [hf, Res.bind] at hP
    split at hP
    · exact fun v H' μ' ex R' r => ⟨_, r, hP H' μ' ex R'⟩
    · exact hP.elim
  | err c g1 => simp only [hf, Res.bind] at hP; exact hP
  | stuck => simp only [hf, Res.bind] at hP; exact hP
def cutD (xs : List D) (lo hi : Option Int) : List D := (xs.drop (HT.sIx xs.length 0 lo)).take (HT.sIx xs.length xs.length hi - HT.sIx xs.length 0 lo)
def oSl (x : D) (lo hi : Option Int) (g : G) : Res D := match x with
  | .str z => if z.length ≤ sizeLine then .ok (.str (cutS z lo hi)) g else .stuck
  | .tup ds => .ok (.tup (cutD ds lo hi)) g
  | .scr ns => .ok (.lst (cutD (ns.map .int) lo hi)) g
  | d => match lstOf g d with
    | some ds => .ok (.lst (cutD ds lo hi)) g
    | none => .stuck
def fSl (f : FE) (fl fh : FO) : FE := fun ρ g => (f ρ g).bind fun x g1 => (fl ρ g1).bind fun l g2 => (fh ρ g2).bind fun h g3 => oSl x l h g3
theorem cut_rep {K : PySem.W.Frag} {H : Hp} {ν μ : List Addr} {ds : List D} {vs : List V} (lo hi : Option Int) (r : RepL K H ν μ ds vs) : RepL K H ν μ (cutD ds lo hi) (cutV vs lo hi) := by
  unfold cutD cutV
  rw [← RepL.length r]
  exact RepL.take _ (RepL.drop _ r)
def rSl (C : Cfg) (K : PySem.W.Frag) : V → Option Int → Option Int → Hp → VK → Prop := fun x lo hi H Q => ∃ dx ν μ g, RS C K H ν μ g ∧ RepD K H ν μ dx x ∧ ∀ W σ, Post C K W σ H ν μ (oSl dx lo hi g) Q
theorem rSl_ok : SlR X (rSl C X.K) := by
  intro pins s σ H x v vl vu lo hi sl Q I rx hs pl pu h
  obtain ⟨dx, ν, μ, g, R, r1, hP⟩ := h
  have hP := hP (fun _ _ _ _ => False) σ
  unfold oSl at hP
  split at hP
  · obtain rfl : x = .str _ := r1
    split at hP
    · rename_i hl
      exact sl_str pins s σ H _ v vl vu lo hi sl Q I rx hs pl pu ⟨_, rfl, hl, hP.here R (rStr _)⟩
    · exact hP.elim
  · unfold RepD at r1
    obtain ⟨a, xs, rfl, h1, h2⟩ := r1
    refine sl_tupA pins s σ H _ v vl vu lo hi sl Q I rx hs pl pu ⟨a, xs, rfl, h1, fun z => ?_, fun _ => rD_tup R (cut_rep lo hi h2) hP⟩
    have e : cutV xs lo hi = xs := by
      unfold cutV
      rw [z.1, z.2, List.drop_zero, Nat.sub_zero, List.take_length]
    have h3 := cut_rep lo hi h2
    rw [e] at h3
    exact hP.here R (rTup h1 h3)
  · unfold RepD at r1
    obtain ⟨a, rfl, h⟩ := r1
    refine sl_list pins s σ H _ v vl vu lo hi sl Q I rx hs pl pu ⟨a, _, rfl, ?_, rD_lst R (cut_rep lo hi (repL_ints _)) hP⟩
    rcases h with ⟨o, h⟩ | h
    · exact .inl (.inr ⟨o, h⟩)
    · rcases h with h | h
      · rcases h with h | ⟨o, h⟩ <;> cases h
      · exact .inr h
  · split at hP
    · rename_i ds e
      obtain ⟨a, xs, rfl, h1, h2⟩ := lst_rd R r1 e
      exact sl_list pins s σ H _ v vl vu lo hi sl Q I rx hs pl pu ⟨a, xs, rfl, SqL.of h1, rD_lst R (cut_rep lo hi h2) hP⟩
    · exact hP.elim
theorem dp_sl {lo hi : Option Expr} {fl fh : FO} {p2 : Pos} (ha : DP C X W a fa) (hl : DO C X W lo fl) (hh : DO C X W hi fh) : DP C X W (.Subscript a (.Slice lo hi none p2) pos) (fSl fa fl fh) :=
  PE.imp (pe_slice rSl_ok ha hl hh) fun σ H Q h => by
    refine bindD (k := fun x ρ g1 => (fl ρ g1).bind fun l g2 => (fh ρ g2).bind fun h g3 => oSl x l h g3) h fun ρ ν μ g dx x H1 hE hR rx hP => ?_
    refine ⟨ρ, ν, μ, g, hE, hR, ?_⟩
    cases hf : fl ρ g with
    | ok l g2 =>
      simp only [hf, Res.bind] at hP
      intro H2 μ2 ex R2
      refine ⟨ρ, ν, μ2, g2, hE.mono ex.kp', R2, ?_⟩
      have hP := hP.ext ex
      have rx := RepD.mono ex.kp' _ rx
      cases hf : fh ρ g2 with
      | ok h g3 =>
        simp only [hf] at hP
        intro H3 μ3 ex3 R3
        refine ⟨dx, ν, μ3, g3, R3, RepD.mono ex3.kp' _ rx, fun W' σ' => ?_⟩
        refine post_any (fun c g' e => ?_) (hP.ext ex3) W' σ'
        unfold oSl at e
        (repeat' (split at e)) <;> cases e
      | err c g2 => simp only [hf] at hP; exact hP
      | stuck => simp only [hf] at hP; exact hP
    | err c g2 => simp only [hf, Res.bind] at hP; exact hP
    | stuck => simp only [hf, Res.bind] at hP; exact hP

/-! ### tests -/
theorem bindT {K : PySem.W.Frag} {σ : St} {H : Hp} {Q : Bool → Hp → Prop} {k : D → Env' → G → Res Bool} {R : V → Hp → Prop}
    (h : tT C K W (fun ρ g => (f ρ g).bind fun x g1 => k x ρ g1) σ H Q)
    (hk : ∀ ρ ν μ g d v H', RepE K H' ν μ ρ σ → RS C K H' ν μ g → RepD K H' ν μ d v → PostB C K W σ H' ν μ (k d ρ g) Q → R v H') : tD C K W f σ H R := by
  obtain ⟨ρ, ν, μ, g, hE, hR, hP⟩ := h
  refine ⟨ρ, ν, μ, g, hE, hR, ?_⟩
  cases hf : f ρ g with
  | ok d g1 =>
    simp only [hf, Res.bind] at hP
    exact fun v H' μ' ex R' r => hk ρ ν μ' g1 d v H' (hE.mono ex.kp') R' r (hP.ext ex)
  | err c g1 => simp only [hf, Res.bind] at hP; exact hP
  | stuck => simp only [hf, Res.bind] at hP; exact hP
theorem bindTB {K : PySem.W.Frag} {σ : St} {H : Hp} {Q : VK} {k : Bool → Env' → G → Res D} {R : Bool → Hp → Prop}
    (h : tD C K W (fun ρ g => (ft ρ g).bind fun x g1 => k x ρ g1) σ H Q)
    (hk : ∀ ρ ν μ g b H', RepE K H' ν μ ρ σ → RS C K H' ν μ g → Post C K W σ H' ν μ (k b ρ g) Q → R b H') : tT C K W ft σ H R := by
  obtain ⟨ρ, ν, μ, g, hE, hR, hP⟩ := h
  refine ⟨ρ, ν, μ, g, hE, hR, ?_⟩
  cases hf : ft ρ g with
  | ok d g1 =>
    simp only [hf, Res.bind] at hP
    exact fun H' μ' ex R' => hk ρ ν μ' g1 d H' (hE.mono ex.kp') R' (hP.ext ex)
  | err c g1 => simp only [hf, Res.bind] at hP; exact hP
  | stuck => simp only [hf, Res.bind] at hP; exact hP
theorem bindTT {K : PySem.W.Frag} {σ : St} {H : Hp} {Q : Bool → Hp → Prop} {k : Bool → Env' → G → Res Bool} {R : Bool → Hp → Prop}
    (h : tT C K W (fun ρ g => (ft ρ g).bind fun x g1 => k x ρ g1) σ H Q)
    (hk : ∀ ρ ν μ g b H', RepE K H' ν μ ρ σ → RS C K H' ν μ g → PostB C K W σ H' ν μ (k b ρ g) Q → R b H') : tT C K W ft σ H R := by
  obtain ⟨ρ, ν, μ, g, hE, hR, hP⟩ := h
  refine ⟨ρ, ν, μ, g, hE, hR, ?_⟩
  cases hf : ft ρ g with
  | ok d g1 =>
    simp only [hf, Res.bind] at hP
    exact fun H' μ' ex R' => hk ρ ν μ' g1 d H' (hE.mono ex.kp') R' (hP.ext ex)
  | err c g1 => simp only [hf, Res.bind] at hP; exact hP
  | stuck => simp only [hf, Res.bind] at hP; exact hP
/-- a value's truth -/
def tru (g : G) : D → Option Bool
  | .non => some false
  | .bl b => some b
  | .int i => some (i != 0)
  | .str z => if z.length ≤ sizeLine then some ((z.length : Int) != 0) else none
  | .tup ds => some (!ds.isEmpty)
  | .loc n => match g[n]? with
    | some (.lst ds) => some (!ds.isEmpty)
    | some (.dic kvs) => some (!kvs.isEmpty)
    | _ => none
  | .lst ds => some (!ds.isEmpty)
  | .scr ns => some (!ns.isEmpty)
theorem RepL.empty {K : PySem.W.Frag} {H : Hp} {ν μ : List Addr} {ds : List D} {vs : List V} (r : RepL K H ν μ ds vs) : ds.isEmpty = vs.isEmpty := by
  have := RepL.length r
  cases ds <;> cases vs <;> simp_all
theorem RepKV.empty {κ : Type} {K : PySem.W.Frag} {H : Hp} {ν μ : List Addr} {ds : List (κ × D)} {vs : List (κ × V)} (r : RepKV K H ν μ ds vs) : ds.isEmpty = vs.isEmpty := by
  cases ds with
  | nil => unfold RepKV at r; subst r; rfl
  | cons p q =>
    obtain ⟨k, d⟩ := p
    unfold RepKV at r
    obtain ⟨v, r', rfl, _⟩ := r
    rfl
theorem tru_rd {K : PySem.W.Frag} {H : Hp} {ν μ : List Addr} {g : G} {d : D} {v : V} {b : Bool} (R : RS C K H ν μ g) (r : RepD K H ν μ d v) (e : tru g d = some b) : TruV K v H b := by
  unfold tru at e
  split at e
  · cases e; obtain rfl : v = .non := r; rfl
  · cases e; obtain rfl : v = .bl _ := r; rfl
  · cases e; obtain rfl : v = .int _ := r; rfl
  · split at e
    · rename_i hl
      cases e; obtain rfl : v = .str _ := r; exact ⟨hl, rfl⟩
    · cases e
  · cases e
    unfold RepD at r
    obtain ⟨a, xs, rfl, h1, h2⟩ := r
    exact .inr (.inl ⟨xs, h1, by rw [RepL.empty h2]⟩)
  · unfold RepD at r
    obtain ⟨a, rfl, h⟩ := r
    split at e
    · rename_i ds hg
      cases e
      obtain ⟨xs, h1, h2⟩ := R.ob _ _ a hg h
      exact .inl ⟨xs, SqL.of h1, by rw [RepL.empty h2]⟩
    · rename_i ds hg
      cases e
      obtain ⟨xs, h1, h2⟩ := R.ob _ _ a hg h
      exact .inr (.inr ⟨xs, h1, by rw [RepKV.empty h2]⟩)
    · cases e
  · cases e
    unfold RepD at r
    obtain ⟨a, xs, rfl, h1, _, _, h2⟩ := r
    exact .inl ⟨xs, SqL.of h1, by rw [RepL.empty h2]⟩
  · rename_i ns
    cases e
    unfold RepD at r
    obtain ⟨a, rfl, h⟩ := r
    refine .inl ⟨ns.map V.int, ?_, by simp⟩
    rcases h with ⟨o, h⟩ | h
    · exact .inl (.inr ⟨o, h⟩)
    · rcases h with h | h
      · rcases h with h | ⟨o, h⟩ <;> cases h
      · exact .inr h
def fTru (f : FE) : FT := fun ρ g => (f ρ g).bind fun x g1 => match tru g1 x with
  | some b => .ok b g1
  | none => .stuck
theorem dt_tru (h : DP C X W e f) (he : ∀ whole, isTrue e X.env whole = (do let v ← whole; standAt e.pos; holding [v] (truthy v)) := by intro _; rfl) : DT C X W e (fTru f) :=
  PT.imp (pt_truth h he) fun σ H Q hq => by
    refine bindT (k := fun x _ g1 => match tru g1 x with
      | some b => .ok b g1
      | none => .stuck) hq fun ρ ν μ g d v H1 hE hR r hP => ?_
    split at hP
    · rename_i b hb
      exact ⟨b, tru_rd hR r hb, hP H1 μ .refl hR⟩
    · exact hP.elim
/-- a comparison as a test -/
def fB (f : FE) : FT := fun ρ g => (f ρ g).bind fun x g1 => match x with
  | .bl b => .ok b g1
  | _ => .stuck
theorem dt_of {t : TE} (h : PT X e (tTest t)) (ht : ∀ σ H Q, tD C X.K W f σ H Q → t σ H Q) : DT C X W e (fB f) :=
  PT.imp h fun σ H Q hq => by
    refine ht σ H _ (bindT (k := fun x _ g1 => match x with
      | .bl b => .ok b g1
      | _ => .stuck) hq fun ρ ν μ g d v H1 hE hR r hP => ?_)
    split at hP
    · exact ⟨_, r, hP H1 μ .refl hR⟩
    · exact hP.elim
theorem dt_cmp {op : CmpOp} {o : F2} (no : NoErr o) (ho : OpR X (compareOp op) (rD C X.K o)) (ha : DP C X W a fa) (hb : DP C X W b fb) (hm : behindInMarks op b = false) : DT C X W (.Compare a [op] [b] pos) (fB (fBin o fa fb)) :=
  dt_of (pt_cmpR ho ha hb hm) fun σ H Q h => tBin no (fun _ _ _ _ z => z) h
def fNot (ft : FT) : FT := fun ρ g => (ft ρ g).bind fun b g1 => .ok (!b) g1
theorem dt_not (h : DT C X W a ft) : DT C X W (.UnaryOp .Not a pos) (fNot ft) := PT.imp (pt_not h) fun σ H Q hq =>
  bindTT (k := fun b _ g1 => .ok (!b) g1) hq fun ρ ν μ g b H1 hE hR hP => hP H1 μ .refl hR
def DW (C : Cfg) (X : Cx) (W : WX) (e : Expr) (f : FT) : Prop := PW X e (tT C X.K W f)
theorem PW.imp {X : Cx} {e : Expr} {t t' : TT} (h : PW X e t) (i : ∀ σ H Q, t' σ H Q → t σ H Q) : PW X e t' := ⟨fun wh pins s σ H Q I q => h.run wh pins s σ H Q I (i σ H Q q)⟩
def fAnd (fa fb : FT) : FT := fun ρ g => (fa ρ g).bind fun b g1 => if b then fb ρ g1 else .ok false g1
def fOr (fa fb : FT) : FT := fun ρ g => (fa ρ g).bind fun b g1 => if b then .ok true g1 else fb ρ g1
theorem dw_and1 (h : DT C X W a ft) : DW C X W (.BoolOp .And [a] pos) ft := pw_and1 h
theorem dw_or1 (h : DT C X W a ft) : DW C X W (.BoolOp .Or [a] pos) ft := pw_or1 h
theorem dw_and {fta ftb : FT} (ha : DT C X W a fta) (hb : DW C X W (.BoolOp .And (b :: rest) pos) ftb) : DW C X W (.BoolOp .And (a :: b :: rest) pos) (fAnd fta ftb) :=
  PW.imp (pw_and ha hb) fun σ H Q hq => bindTT (k := fun b ρ g1 => if b then ftb ρ g1 else .ok false g1) hq fun ρ ν μ g b H1 hE hR hP => by
    cases b with
    | true => exact ⟨ρ, ν, μ, g, hE, hR, hP⟩
    | false => exact hP H1 μ .refl hR
theorem dw_or {fta ftb : FT} (ha : DT C X W a fta) (hb : DW C X W (.BoolOp .Or (b :: rest) pos) ftb) : DW C X W (.BoolOp .Or (a :: b :: rest) pos) (fOr fta ftb) :=
  PW.imp (pw_or ha hb) fun σ H Q hq => bindTT (k := fun b ρ g1 => if b then .ok true g1 else ftb ρ g1) hq fun ρ ν μ g b H1 hE hR hP => by
    cases b with
    | true => exact hP H1 μ .refl hR
    | false => exact ⟨ρ, ν, μ, g, hE, hR, hP⟩
theorem dt_w (h : DW C X W e ft) : DT C X W e ft := PW.pt h
/-- a if t else b -/
def fIf (ft : FT) (fa fb : FE) : FE := fun ρ g => (ft ρ g).bind fun c g1 => if c then fa ρ g1 else fb ρ g1
theorem dp_if (hc : DT C X W c ft) (ha : DP C X W a fa) (hb : DP C X W b fb) : DP C X W (.IfExp c a b pos) (fIf ft fa fb) :=
  PE.imp (pe_ifExp hc ha hb) fun σ H Q hq => bindTB (k := fun c ρ g1 => if c then fa ρ g1 else fb ρ g1) hq fun ρ ν μ g b H1 hE hR hP => by
    cases b with
    | true => exact ⟨ρ, ν, μ, g, hE, hR, hP⟩
    | false => exact ⟨ρ, ν, μ, g, hE, hR, hP⟩
/-- and, or, not as values -/
def fAndV (fa fb : FE) : FE := fun ρ g => (fa ρ g).bind fun x g1 => match tru g1 x with
  | some true => fb ρ g1
  | some false => .ok x g1
  | none => .stuck
def fOrV (fa fb : FE) : FE := fun ρ g => (fa ρ g).bind fun x g1 => match tru g1 x with
  | some true => .ok x g1
  | some false => fb ρ g1
  | none => .stuck
def fNotV (fa : FE) : FE := fun ρ g => (fa ρ g).bind fun x g1 => match tru g1 x with
  | some b => .ok (.bl (!b)) g1
  | none => .stuck
theorem dp_one {op} (h : DP C X W a fa) : DP C X W (.BoolOp op [a] pos) fa := pe_one h
theorem dp_and (ha : DP C X W a fa) (hb : DP C X W (.BoolOp .And (b :: rest) pos) fb) : DP C X W (.BoolOp .And (a :: b :: rest) pos) (fAndV fa fb) :=
  PE.imp (pe_andT ha hb) fun σ H Q hq => bindD (k := fun x ρ g1 => match tru g1 x with
  | some true => fb ρ g1
  | some false => .ok x g1
  | none => .stuck) hq fun ρ ν μ g d v H1 hE hR r hP => by
    split at hP
    · rename_i ht
      exact ⟨true, tru_rd hR r ht, by rw [if_pos rfl]; exact ⟨ρ, ν, μ, g, hE, hR, hP⟩⟩
    · rename_i ht
      exact ⟨false, tru_rd hR r ht, by rw [if_neg (by decide)]; exact hP.here hR r⟩
    · exact hP.elim
theorem dp_or (ha : DP C X W a fa) (hb : DP C X W (.BoolOp .Or (b :: rest) pos) fb) : DP C X W (.BoolOp .Or (a :: b :: rest) pos) (fOrV fa fb) :=
  PE.imp (pe_orT ha hb) fun σ H Q hq => bindD (k := fun x ρ g1 => match tru g1 x with
  | some true => .ok x g1
  | some false => fb ρ g1
  | none => .stuck) hq fun ρ ν μ g d v H1 hE hR r hP => by
    split at hP
    · rename_i ht
      exact ⟨true, tru_rd hR r ht, by rw [if_pos rfl]; exact hP.here hR r⟩
    · rename_i ht
      exact ⟨false, tru_rd hR r ht, by rw [if_neg (by decide)]; exact ⟨ρ, ν, μ, g, hE, hR, hP⟩⟩
    · exact hP.elim
theorem dp_not (ha : DP C X W a fa) : DP C X W (.UnaryOp .Not a pos) (fNotV fa) :=
  PE.imp (pe_notT ha) fun σ H Q hq => bindD (k := fun x _ g1 => match tru g1 x with
  | some b => .ok (.bl (!b)) g1
  | none => .stuck) hq fun ρ ν μ g d v H1 hE hR r hP => by
    split at hP
    · rename_i b ht
      exact ⟨b, tru_rd hR r ht, hP.here hR (rBl _)⟩
    · exact hP.elim
/-- a < b < c -/
def fCh (o o' : F2) (fa fb fc : FE) : FE := fun ρ g => (fa ρ g).bind fun x g1 => (fb ρ g1).bind fun y g2 => (o x y g2).bind fun z g3 => match z with
  | .bl true => (fc ρ g3).bind fun w g4 => o' y w g4
  | .bl false => .ok (.bl false) g3
  | _ => .stuck
theorem tCh {K : PySem.W.Frag} {o o' : F2} (no : NoErr o) (no' : NoErr o') {σ : St} {H : Hp} {Q : VK} (h : tD C K W (fCh o o' fa fb fc) σ H Q) : tChain (rD C K o) (rD C K o') (tD C K W fa) (tD C K W fb) (tD C K W fc) σ H Q := by
  refine bindD (k := fun x ρ g1 => (fb ρ g1).bind fun y g2 => (o x y g2).bind fun z g3 => match z with
  | .bl true => (fc ρ g3).bind fun w g4 => o' y w g4
  | .bl false => .ok (.bl false) g3
  | _ => .stuck) h fun ρ ν μ g dx x H1 hE hR rx hP => ?_
  refine ⟨ρ, ν, μ, g, hE, hR, ?_⟩
  cases hf : fb ρ g with
  | err c g2 => simp only [hf, Res.bind] at hP; exact hP
  | stuck => simp only [hf, Res.bind] at hP; exact hP
  | ok dy g2 =>
    simp only [hf, Res.bind] at hP
    intro y H2 μ2 ex R2 ry
    refine ⟨dx, dy, ν, μ2, g2, R2, RepD.mono ex.kp' _ rx, ry, fun W' σ' => ?_⟩
    have hP := hP.ext ex
    cases ho : o dx dy g2 with
    | err c g3 => exact absurd ho (no _ _ _ _ _)
    | stuck => simp only [ho] at hP; exact hP
    | ok z g3 =>
      simp only [ho] at hP
      intro zv H3 μ3 ex3 R3 rz
      have hP := hP.ext ex3
      split at hP
      · refine ⟨true, rz, ?_⟩
        rw [if_pos rfl]
        have hE3 := hE.mono (ex.trans ex3).kp'
        refine ⟨ρ, ν, μ3, g3, hE3, R3, ?_⟩
        cases hc : fc ρ g3 with
        | err c g4 => simp only [hc] at hP; exact hP
        | stuck => simp only [hc] at hP; exact hP
        | ok w g4 =>
          simp only [hc] at hP
          intro wv H4 μ4 ex4 R4 rw4
          exact ⟨dy, w, ν, μ4, g4, R4, RepD.mono (ex3.trans ex4).kp' _ ry, rw4, fun W2 σ2 => post_any (fun _ _ => no' _ _ _ _ _) (hP.ext ex4) W2 σ2⟩
      · refine ⟨false, rz, ?_⟩
        rw [if_neg (by decide)]
        exact hP.here R3 (rBl _)
      · exact hP.elim
theorem dp_ch {op op' : CmpOp} {o o' : F2} (no : NoErr o) (no' : NoErr o') (ho : OpR X (compareOp op) (rD C X.K o)) (ho' : OpR X (compareOp op') (rD C X.K o')) (ha : DP C X W a fa) (hb : DP C X W b fb) (hc : DP C X W c fc)
    (hm : lastMarks [op, op'] [b, c] = false := by with_unfolding_all rfl) : DP C X W (.Compare a [op, op'] [b, c] pos) (fCh o o' fa fb fc) :=
  PE.imp (pe_chain ho ho' ha hb hc hm) fun σ H Q h => tCh no no' h
theorem dt_ch {op op' : CmpOp} {o o' : F2} (no : NoErr o) (no' : NoErr o') (ho : OpR X (compareOp op) (rD C X.K o)) (ho' : OpR X (compareOp op') (rD C X.K o')) (ha : DP C X W a fa) (hb : DP C X W b fb) (hc : DP C X W c fc)
    (hm : lastMarks [op, op'] [b, c] = false := by with_unfolding_all rfl) : DT C X W (.Compare a [op, op'] [b, c] pos) (fB (fCh o o' fa fb fc)) :=
  dt_of (pt_chain ho ho' ha hb hc hm) fun σ H Q h => tCh no no' h
/-- -a -/
def fNeg (fa : FE) : FE := fun ρ g => (fa ρ g).bind fun x g1 => match x with
  | .int i => .ok (.int (-i)) g1
  | _ => .stuck
theorem dp_neg (ha : DP C X W a fa) : DP C X W (.UnaryOp .USub a pos) (fNeg fa) :=
  PE.imp (pe_un un_neg ha) fun σ H Q hq => bindD (k := fun x _ g1 => match x with
  | .int i => .ok (.int (-i)) g1
  | _ => .stuck) hq fun ρ ν μ g d v H1 hE hR r hP => by
    split at hP
    · obtain rfl : v = .int _ := r
      exact ⟨_, rfl, hP.here hR (rInt _)⟩
    · exact hP.elim
end
end Dl
end
section
set_option Elab.async false
set_option linter.all false
set_option maxRecDepth 100000
namespace Dl
open PySem L2
inductive RSt where
  | nx (ρ : Env') (g : G) | rt (d : D) (g : G) | bk (ρ : Env') (g : G) | ct (ρ : Env') (g : G) | err (c : Nat) (ρ : Env') (g : G) | stuck
abbrev FS := Env' → G → RSt
def Res.toS {α : Type} (r : Res α) (ρ : Env') (k : α → G → RSt) : RSt := match r with
  | .ok a g => k a g
  | .err c g => .err c ρ g
  | .stuck => .stuck
section
variable {C : Cfg} {K : PySem.W.Frag} {H H' H'' : Hp} {ν ν' μ μ' μ'' : List Addr} {g g' : G}
def PostS (C : Cfg) (K : PySem.W.Frag) (W : WX) (H : Hp) (ν μ : List Addr) (r : RSt) (E : Ends) : Prop := match r with
  | .nx ρ g' => ∀ σ' H' μ', Ext H μ H' μ' → RS C K H' ν μ' g' → RepE K H' ν μ' ρ σ' → E.nx σ' H'
  | .rt d g' => ∀ v H' μ', Ext H μ H' μ' → RS C K H' ν μ' g' → RepD K H' ν μ' d v → E.rt v H'
  | .bk ρ g' => ∀ σ' H' μ', Ext H μ H' μ' → RS C K H' ν μ' g' → RepE K H' ν μ' ρ σ' → E.bk σ' H'
  | .ct ρ g' => ∀ σ' H' μ', Ext H μ H' μ' → RS C K H' ν μ' g' → RepE K H' ν μ' ρ σ' → E.ct σ' H'
  | .err c ρ g' => ∀ σ' H' μ', Ext H μ H' μ' → RS C K H' ν μ' g' → RepE K H' ν μ' ρ σ' → W (.ref (C.exc c)) none σ' H'
  | .stuck => False
theorem PostS.ext {W : WX} {r : RSt} {E : Ends} (e : Ext H μ H' μ') (h : PostS C K W H ν μ r E) : PostS C K W H' ν μ' r E := by
  cases r with
  | nx ρ g' => exact fun σ2 H2 μ2 e2 => h σ2 H2 μ2 (e.trans e2)
  | rt d g' => exact fun v H2 μ2 e2 => h v H2 μ2 (e.trans e2)
  | bk ρ g' => exact fun σ2 H2 μ2 e2 => h σ2 H2 μ2 (e.trans e2)
  | ct ρ g' => exact fun σ2 H2 μ2 e2 => h σ2 H2 μ2 (e.trans e2)
  | err c ρ g' => exact fun σ2 H2 μ2 e2 => h σ2 H2 μ2 (e.trans e2)
  | stuck => exact h
def tS (C : Cfg) (K : PySem.W.Frag) (W : WX) (f : FS) : TS := fun E σ H => ∃ ρ ν μ g, RepE K H ν μ ρ σ ∧ RS C K H ν μ g ∧ PostS C K W H ν μ (f ρ g) E
end
def DS (C : Cfg) (X : Cx) (W : WX) (s : Stmt) (f : FS) : Prop := PS X s (tS C X.K W f)
def DB (C : Cfg) (X : Cx) (W : WX) (s : List Stmt) (f : FS) : Prop := PSs X s (tS C X.K W f)
theorem PS.imp {X : Cx} {e : Stmt} {t t' : TS} (h : PS X e t) (i : ∀ E σ H, t' E σ H → t E σ H) : PS X e t' := ⟨fun pins s σ H E I q => h.run pins s σ H E I (i E σ H q)⟩
theorem PSs.imp {X : Cx} {e : List Stmt} {t t' : TS} (h : PSs X e t) (i : ∀ E σ H, t' E σ H → t E σ H) : PSs X e t' := ⟨fun pins s σ H E I q => h.run pins s σ H E I (i E σ H q)⟩
section
variable {C : Cfg} {X : Cx} {W : WX} {e a b c o : Expr} {es rest : List Expr} {f fa fb fc : FE} {fes : FA} {ft : FT} {pos : Pos} {st : Stmt} {sts : List Stmt} {fs fs' : FS}
/-- an expression's value, then k of it -/
theorem bindS {K : PySem.W.Frag} {σ : St} {H : Hp} {E : Ends} {k : D → Env' → G → RSt} {R : V → Hp → Prop}
    (h : tS C K W (fun ρ g => (f ρ g).toS ρ fun x g1 => k x ρ g1) E σ H)
    (hk : ∀ ρ ν μ g d v H', RepE K H' ν μ ρ σ → RS C K H' ν μ g → RepD K H' ν μ d v → PostS C K W H' ν μ (k d ρ g) E → R v H') : tD C K W f σ H R := by
  obtain ⟨ρ, ν, μ, g, hE, hR, hP⟩ := h
  refine ⟨ρ, ν, μ, g, hE, hR, ?_⟩
  cases hf : f ρ g with
  | ok d g1 =>
    simp only [hf, Res.toS] at hP
    exact fun v H' μ' ex R' r => hk ρ ν μ' g1 d v H' (hE.mono ex.kp') R' r (hP.ext ex)
  | err c g1 =>
    simp only [hf, Res.toS] at hP
    exact fun H' μ' ex R' => hP σ H' μ' ex R' (hE.mono ex.kp')
  | stuck => simp only [hf, Res.toS] at hP; exact hP
theorem bindSA {K : PySem.W.Frag} {σ : St} {H : Hp} {E : Ends} {k : List D → Env' → G → RSt} {R : List V → Hp → Prop}
    (h : tS C K W (fun ρ g => (fes ρ g).toS ρ fun x g1 => k x ρ g1) E σ H)
    (hk : ∀ ρ ν μ g d v H', RepE K H' ν μ ρ σ → RS C K H' ν μ g → RepL K H' ν μ d v → PostS C K W H' ν μ (k d ρ g) E → R v H') : tA C K W fes σ H R := by
  obtain ⟨ρ, ν, μ, g, hE, hR, hP⟩ := h
  refine ⟨ρ, ν, μ, g, hE, hR, ?_⟩
  cases hf : fes ρ g with
  | ok d g1 =>
    simp only [hf, Res.toS] at hP
    exact fun v H' μ' ex R' r => hk ρ ν μ' g1 d v H' (hE.mono ex.kp') R' r (hP.ext ex)
  | err c g1 =>
    simp only [hf, Res.toS] at hP
    exact fun H' μ' ex R' => hP σ H' μ' ex R' (hE.mono ex.kp')
  | stuck => simp only [hf, Res.toS] at hP; exact hP
theorem bindST {K : PySem.W.Frag} {σ : St} {H : Hp} {E : Ends} {k : Bool → Env' → G → RSt} {R : Bool → Hp → Prop}
    (h : tS C K W (fun ρ g => (ft ρ g).toS ρ fun x g1 => k x ρ g1) E σ H)
    (hk : ∀ ρ ν μ g d H', RepE K H' ν μ ρ σ → RS C K H' ν μ g → PostS C K W H' ν μ (k d ρ g) E → R d H') : tT C K W ft σ H R := by
  obtain ⟨ρ, ν, μ, g, hE, hR, hP⟩ := h
  refine ⟨ρ, ν, μ, g, hE, hR, ?_⟩
  cases hf : ft ρ g with
  | ok d g1 =>
    simp only [hf, Res.toS] at hP
    exact fun H' μ' ex R' => hk ρ ν μ' g1 d H' (hE.mono ex.kp') R' (hP.ext ex)
  | err c g1 =>
    simp only [hf, Res.toS] at hP
    exact fun H' μ' ex R' => hP σ H' μ' ex R' (hE.mono ex.kp')
  | stuck => simp only [hf, Res.toS] at hP; exact hP
/-! ### blocks, small statements -/
def sNil : FS := fun ρ g => .nx ρ g
def sSeq (f1 f2 : FS) : FS := fun ρ g => match f1 ρ g with
  | .nx ρ1 g1 => f2 ρ1 g1
  | r => r
theorem db_nil : DB C X W [] sNil := PSs.imp pss_nil fun E σ H ⟨ρ, ν, μ, g, hE, hR, hP⟩ => hP σ H μ .refl hR hE
theorem db_cons (h1 : DS C X W st fs) (h2 : DB C X W sts fs') : DB C X W (st :: sts) (sSeq fs fs') := PSs.imp (pss_cons h1 h2) fun E σ H ⟨ρ, ν, μ, g, hE, hR, hP⟩ => by
  refine ⟨ρ, ν, μ, g, hE, hR, ?_⟩
  unfold sSeq at hP
  cases hf : fs ρ g with
  | nx ρ1 g1 =>
    simp only [hf] at hP
    exact fun σ' H' μ' ex R' hE' => ⟨ρ1, ν, μ', g1, hE', R', hP.ext ex⟩
  | rt d g1 => simp only [hf] at hP; exact hP
  | bk ρ1 g1 => simp only [hf] at hP; exact hP
  | ct ρ1 g1 => simp only [hf] at hP; exact hP
  | err c ρ1 g1 => simp only [hf] at hP; exact hP
  | stuck => simp only [hf] at hP; exact hP
theorem db_one (h1 : DS C X W st fs) : DB C X W [st] fs := pss_one h1
theorem ds_pass : DS C X W (.Pass pos) sNil := PS.imp ps_pass fun E σ H ⟨ρ, ν, μ, g, hE, hR, hP⟩ => hP σ H μ .refl hR hE
def sBk : FS := fun ρ g => .bk ρ g
def sCt : FS := fun ρ g => .ct ρ g
theorem ds_break : DS C X W (.Break pos) sBk := PS.imp ps_break fun E σ H ⟨ρ, ν, μ, g, hE, hR, hP⟩ => hP σ H μ .refl hR hE
theorem ds_continue : DS C X W (.Continue pos) sCt := PS.imp ps_continue fun E σ H ⟨ρ, ν, μ, g, hE, hR, hP⟩ => hP σ H μ .refl hR hE
def sEx (f : FE) : FS := fun ρ g => (f ρ g).toS ρ fun _ g1 => .nx ρ g1
theorem ds_expr (h : DP C X W e f) (hs : swapsWith e none pos.line X.env = pure false := by rfl) : DS C X W (.Expr e pos) (sEx f) := PS.imp (ps_expr h hs) fun E σ H hq =>
  bindS (k := fun _ ρ g1 => .nx ρ g1) hq fun ρ ν μ g d v H1 hE hR r hP => hP σ H1 μ .refl hR hE
def sRt (f : FE) : FS := fun ρ g => (f ρ g).toS ρ fun d g1 => .rt d g1
theorem ds_ret (h : DP C X W e f) : DS C X W (.Return (some e) pos) (sRt f) := PS.imp (ps_ret h) fun E σ H hq =>
  bindS (k := fun d _ g1 => .rt d g1) hq fun ρ ν μ g d v H1 hE hR r hP => hP v H1 μ .refl hR r
def sRtN : FS := fun _ g => .rt .non g
theorem ds_retN : DS C X W (.Return none pos) sRtN := PS.imp ps_retN fun E σ H ⟨ρ, ν, μ, g, hE, hR, hP⟩ => hP .non H μ .refl hR rNon
def sIf (ft : FT) (f1 f2 : FS) : FS := fun ρ g => (ft ρ g).toS ρ fun b g1 => if b then f1 ρ g1 else f2 ρ g1
theorem ds_if {sa sb : List Stmt} (hc : DT C X W c ft) (ha : DB C X W sa fs) (hb : DB C X W sb fs') : DS C X W (.If c sa sb pos) (sIf ft fs fs') := PS.imp (ps_if hc ha hb) fun E σ H hq =>
  bindST (k := fun b ρ g1 => if b then fs ρ g1 else fs' ρ g1) hq fun ρ ν μ g b H1 hE hR hP => by
    cases b with
    | true => exact ⟨ρ, ν, μ, g, hE, hR, hP⟩
    | false => exact ⟨ρ, ν, μ, g, hE, hR, hP⟩
def sErr (c : Nat) : FS := fun ρ g => .err c ρ g
/-- raise X('m') -/
theorem ds_raise {n : Nat} (hc : X.calm = true) (tk : Takes X W) (he : PMk X e (fun _ H Q => Q (.ref (C.exc n)) none H)) : DS C X W (.Raise (some e) none pos) (sErr n) := PS.imp (ps_raise hc tk he) fun E σ H ⟨ρ, ν, μ, g, hE, hR, hP⟩ => hP σ H μ .refl hR hE

/-! ### targets -/
abbrev FG := D → Env' → G → Res Env'
def tGt (C : Cfg) (K : PySem.W.Frag) (W : WX) (ts : List Nat) (f : FG) : TG := fun v σ H Q => ∃ d ρ ν μ g, RepE K H ν μ ρ σ ∧ RS C K H ν μ g ∧ RepD K H ν μ d v ∧ (match f d ρ g with
  | .ok ρ' g' => ∀ σ' H' μ', Ext H μ H' μ' → RS C K H' ν μ' g' → RepE K H' ν μ' ρ' σ' → (∀ vs : List Nat, (∀ i ∈ ts, i ∈ vs) → wipe σ' vs = wipe σ vs) → Q σ' H'
  | .err c g' => ∀ H' μ', Ext H μ H' μ' → RS C K H' ν μ' g' → W (.ref (C.exc c)) none σ H'
  | .stuck => False)
def DG (C : Cfg) (X : Cx) (W : WX) (tg : Expr) (ts : List Nat) (f : FG) : Prop := PG X tg (tGt C X.K W ts f)
theorem PG.imp {X : Cx} {e : Expr} {t t' : TG} (h : PG X e t) (i : ∀ v σ H Q, t' v σ H Q → t v σ H Q) : PG X e t' := ⟨fun pins s σ H v u Q I r q => h.run pins s σ H v u Q I r (i v σ H Q q)⟩
theorem wipe_set {σ : St} {x : Option V} {i : Nat} : ∀ {vs : List Nat}, i ∈ vs → wipe (σ.set i x) vs = wipe σ vs
  | [], h => by cases h
  | v :: vs, h => by
    show (wipe (σ.set i x) vs).set v none = (wipe σ vs).set v none
    by_cases hm : i ∈ vs
    · rw [wipe_set hm]
    · have hv : i = v := by
        rcases List.mem_cons.mp h with z | z
        · exact z
        · exact absurd z hm
      subst hv
      have comm : ∀ (vs : List Nat) (σ : St), i ∉ vs → wipe (σ.set i x) vs = (wipe σ vs).set i x := by
        intro vs
        induction vs with
        | nil => intro σ _; rfl
        | cons w ws ih =>
          intro σ hn
          show (wipe (σ.set i x) ws).set w none = ((wipe σ ws).set w none).set i x
          rw [ih σ (fun z => hn (List.mem_cons_of_mem _ z)), List.set_comm]
          intro z
          exact hn (by rw [z]; exact List.mem_cons_self)
      rw [comm vs σ hm, List.set_set]
def gNm (i : Nat) : FG := fun d ρ g => .ok (ρ.set i (some d)) g
theorem dg_name {i : Nat} {x : Str} (hN : X.N.Nodup) (hi : X.N[i]? = some x) (hx : Loc X.env.scope x) (hf : X.fn x = true ∨ X.env.scope.names.lookup x = some .local := by first | exact .inl rfl | exact .inr rfl | assumption) : DG C X W (.Name x pos) [i] (gNm i) :=
  PG.imp (pg_name hN hi hx hf) fun v σ H Q ⟨d, ρ, ν, μ, g, hE, hR, r, hP⟩ => hP _ H μ .refl hR (hE.set r i) fun vs h => wipe_set (h i (by simp))
abbrev FGs := List D → Env' → G → Res Env'
def tGts (C : Cfg) (K : PySem.W.Frag) (W : WX) (ts : List Nat) (f : FGs) : TGs := fun xs σ H Q => ∃ ds ρ ν μ g, RepE K H ν μ ρ σ ∧ RS C K H ν μ g ∧ RepL K H ν μ ds xs ∧ (match f ds ρ g with
  | .ok ρ' g' => ∀ σ' H' μ', Ext H μ H' μ' → RS C K H' ν μ' g' → RepE K H' ν μ' ρ' σ' → (∀ vs : List Nat, (∀ i ∈ ts, i ∈ vs) → wipe σ' vs = wipe σ vs) → Q σ' H'
  | .err c g' => ∀ H' μ', Ext H μ H' μ' → RS C K H' ν μ' g' → W (.ref (C.exc c)) none σ H'
  | .stuck => False)
def DGs (C : Cfg) (X : Cx) (W : WX) (tg : List Expr) (ts : List Nat) (f : FGs) : Prop := PGs X tg (tGts C X.K W ts f)
theorem PGs.imp {X : Cx} {e : List Expr} {t t' : TGs} (h : PGs X e t) (i : ∀ v σ H Q, t' v σ H Q → t v σ H Q) : PGs X e t' := ⟨fun pins s σ H v u Q I r q => h.run pins s σ H v u Q I r (i v σ H Q q)⟩
def gsNil : FGs := fun ds ρ g => match ds with
  | [] => .ok ρ g
  | _ => .stuck
/-- targets that raise nothing -/
def gsCons (f1 : FG) (f2 : FGs) : FGs := fun ds ρ g => match ds with
  | d :: r => match f1 d ρ g with
    | .ok ρ1 g1 => match f2 r ρ1 g1 with
      | .ok ρ2 g2 => .ok ρ2 g2
      | _ => .stuck
    | _ => .stuck
  | _ => .stuck
theorem dgs_nil : DGs C X W [] [] gsNil := PGs.imp pgs_nil fun xs σ H Q ⟨ds, ρ, ν, μ, g, hE, hR, r, hP⟩ => by
  unfold gsNil at hP
  split at hP
  · rename_i e
    split at e
    · cases e
      unfold RepL at r
      exact ⟨r, hP σ H μ .refl hR hE fun _ _ => rfl⟩
    · cases e
  · rename_i e
    split at e <;> cases e
  · exact hP.elim
theorem dgs_cons {ts1 ts2 : List Nat} {f1 : FG} {f2 : FGs} (h1 : DG C X W e ts1 f1) (h2 : DGs C X W es ts2 f2) (hs : (assignEach (e :: es) X.env).map (·.2) = assign e X.env :: (assignEach es X.env).map (·.2) := by rfl) : DGs C X W (e :: es) (ts1 ++ ts2) (gsCons f1 f2) :=
  PGs.imp (pgs_cons h1 h2 hs) fun xs σ H Q ⟨ds, ρ, ν, μ, g, hE, hR, r, hP⟩ => by
    unfold gsCons at hP
    cases ds with
    | nil => exact hP.elim
    | cons d ds =>
      unfold RepL at r
      obtain ⟨v, xs', rfl, r1, r2⟩ := r
      simp only at hP
      refine ⟨v, xs', rfl, d, ρ, ν, μ, g, hE, hR, r1, ?_⟩
      cases hf : f1 d ρ g with
      | err c g1 => simp only [hf] at hP
      | stuck => simp only [hf] at hP
      | ok ρ1 g1 =>
        simp only [hf] at hP ⊢
        intro σ1 H1 μ1 ex R1 hE1 w1
        refine ⟨ds, ρ1, ν, μ1, g1, hE1, R1, RepL.mono ex.kp' ds r2, ?_⟩
        cases hf2 : f2 ds ρ1 g1 with
        | err c g1 => simp only [hf2] at hP
        | stuck => simp only [hf2] at hP
        | ok ρ2 g2 =>
          simp only [hf2] at hP ⊢
          exact fun σ2 H2 μ2 ex2 R2 hE2 w2 => hP σ2 H2 μ2 (ex.trans ex2) R2 hE2 fun vs hv => (w2 vs fun i hi => hv i (List.mem_append_right _ hi)).trans (w1 vs fun i hi => hv i (List.mem_append_left _ hi))
def gTp (n : Nat) (f : FGs) : FG := fun d ρ g => match seqOf g d with
  | some ds => if ds.length = n then f ds ρ g else .stuck
  | none => .stuck
theorem dg_tup {k : Nat} {ts : List Nat} {f : FGs} {n : Nat} (hc : X.calm = true) (h : DGs C X W es ts f) (hn : (assignEach es X.env).length = n := by rfl) (hst : (assignEach es X.env).findIdx? (·.1) = none := by rfl) : DG C X W (.Tuple es k pos) ts (gTp n f) := by
  refine ⟨fun pins s σ H v u Q I rv hq => ?_⟩
  obtain ⟨d, ρ, ν, μ, g, hE, hR, r, hP⟩ := hq
  unfold gTp at hP
  cases hs : seqOf g d with
  | none => simp only [hs] at hP
  | some ds =>
    simp only [hs] at hP
    by_cases hl : ds.length = n
    · simp only [hl, if_true] at hP
      obtain ⟨a, xs, rfl, h1, h2⟩ := seq_rd hR r hs
      have q : tGts C X.K W ts f xs σ H Q := ⟨ds, ρ, ν, μ, g, hE, hR, h2, hP⟩
      have hx : xs.length = n := by rw [← RepL.length h2]; exact hl
      rcases h1 with h1 | h1
      · exact (pg_lst (k := k) (pos := pos) hc h hn hst).run pins s σ H _ u Q I rv ⟨a, xs, rfl, h1, hx, q⟩
      · exact (pg_tup (k := k) (pos := pos) hc h hn hst).run pins s σ H _ u Q I rv ⟨a, xs, rfl, h1, hx, q⟩
    · simp only [hl, if_false] at hP
/-- target = value -/
def sAsg (f : FE) (fg : FG) : FS := fun ρ g => (f ρ g).toS ρ fun d g1 => (fg d ρ g1).toS ρ fun ρ' g2 => .nx ρ' g2
theorem tAsg_of {K : PySem.W.Frag} {ts : List Nat} {fg : FG} {E : Ends} {σ : St} {H : Hp} (h : tS C K W (sAsg f fg) E σ H) : tAsg (tD C K W f) (tGt C K W ts fg) E σ H := by
  refine bindS (k := fun d ρ g1 => (fg d ρ g1).toS ρ fun ρ' g2 => .nx ρ' g2) h fun ρ ν μ g d v H1 hE hR r hP => ?_
  refine ⟨d, ρ, ν, μ, g, hE, hR, r, ?_⟩
  cases hf : fg d ρ g with
  | ok ρ' g' =>
    simp only [hf, Res.toS] at hP
    exact fun σ' H' μ' ex R' hE' _ => hP σ' H' μ' ex R' hE'
  | err c g' =>
    simp only [hf, Res.toS] at hP
    exact fun H' μ' ex R' => hP σ H' μ' ex R' (hE.mono ex.kp')
  | stuck => simp only [hf, Res.toS] at hP; exact hP
theorem ds_asg {tg : Expr} {ts : List Nat} {fg : FG} (he : DP C X W e f) (hg : DG C X W tg ts fg) (hs : swapsWithSole [tg] e pos.line X.env = pure false := by rfl) (hw : swappedStores [tg] e X.env = pure none := by rfl)
    (h1 : (assignEach [tg] X.env).map (·.2) = [assign tg X.env] := by rfl) : DS C X W (.Assign [tg] e pos) (sAsg f fg) := PS.imp (ps_asg he hg hs hw h1) fun E σ H h => tAsg_of h
theorem ds_set {i : Nat} {x : Str} {p : Pos} (hN : X.N.Nodup) (hi : X.N[i]? = some x) (hx : Loc X.env.scope x) (he : DP C X W e f) (hs : swapsWith e (some (.Name x p)) pos.line X.env = pure false := by rfl) (hf : X.fn x = true ∨ X.env.scope.names.lookup x = some .local := by first | exact .inl rfl | exact .inr rfl | assumption) :
    DS C X W (.Assign [.Name x p] e pos) (sAsg f (gNm i)) := PS.imp (ps_set hN hi hx he hs hf) fun E σ H h => by
  refine bindS (k := fun d ρ g1 => ((gNm i) d ρ g1).toS ρ fun ρ' g2 => .nx ρ' g2) h fun ρ ν μ g d v H1 hE hR r hP => ?_
  exact hP _ H1 μ .refl hR (hE.set r i)
/-- x, y = a, b by plain local names -/
def sPar (i j : Nat) (fes : FA) : FS := fun ρ g => (fes ρ g).toS ρ fun ds g1 => match ds with
  | [a, b] => .nx ((ρ.set i (some a)).set j (some b)) g1
  | _ => .stuck
theorem ds_par {i j : Nat} {x y : Str} {px py pt : Pos} {kt k2 pt2} (hc : X.calm = true) (hN : X.N.Nodup) (hi : X.N[i]? = some x) (hj : X.N[j]? = some y) (hij : i ≠ j)
    (hx : X.env.scope.names.lookup x = some .local) (hy : X.env.scope.names.lookup y = some .local) (ha : DA C X W [a, b] fes)
    (hw : swappedStores [.Tuple [.Name x px, .Name y py] kt pt] (.Tuple [a, b] k2 pt2) X.env = pure (some [x, y]))
    (hs : swapsWithSole [.Tuple [.Name x px, .Name y py] kt pt] (.Tuple [a, b] k2 pt2) pos.line X.env = pure false := by rfl) :
    DS C X W (.Assign [.Tuple [.Name x px, .Name y py] kt pt] (.Tuple [a, b] k2 pt2) pos) (sPar i j fes) := PS.imp (ps_par hc hN hi hj hij hx hy ha hw hs) fun E σ H h => by
  refine bindSA (k := fun ds ρ g1 => match ds with
  | [a, b] => .nx ((ρ.set i (some a)).set j (some b)) g1
  | _ => .stuck) h fun ρ ν μ g ds vs H1 hE hR r hP => ?_
  split at hP
  · unfold RepL RepL RepL at r
    obtain ⟨v, _, rfl, r1, w, _, rfl, r2, rfl⟩ := r
    exact ⟨v, w, rfl, hP _ H1 μ .refl hR ((hE.set r1 i).set r2 j)⟩
  · exact hP.elim
def sPar3 (i j l : Nat) (fes : FA) : FS := fun ρ g => (fes ρ g).toS ρ fun ds g1 => match ds with
  | [a, b, c] => .nx (((ρ.set i (some a)).set j (some b)).set l (some c)) g1
  | _ => .stuck
/-- name op= e -/
def sAug (i : Nat) (o : F2) (f : FE) : FS := fun ρ g => match ρ[i]? with
  | some (some x) => (f ρ g).toS ρ fun y g1 => (o x y g1).toS ρ fun z g2 => .nx (ρ.set i (some z)) g2
  | _ => .stuck
theorem ds_aug {i : Nat} {x : Str} {op : Operator} {o : F2} {p : Pos} (hN : X.N.Nodup) (hi : X.N[i]? = some x) (hx : Loc X.env.scope x) (he : DP C X W e f) (no : NoErr o) (ho : OpR X (inplaceOp op) (rD C X.K o)) (hf : X.fn x = true ∨ X.env.scope.names.lookup x = some .local := by first | exact .inl rfl | exact .inr rfl | assumption) :
    DS C X W (.AugAssign (.Name x p) op e pos) (sAug i o f) := PS.imp (ps_aug hN hi hx he ho hf) fun E σ H ⟨ρ, ν, μ, g, hE, hR, hP⟩ => by
  unfold sAug at hP
  split at hP
  · rename_i d hd
    obtain ⟨xv, e1, r1⟩ := hE.at' i d hd
    refine ⟨xv, e1, ρ, ν, μ, g, hE, hR, ?_⟩
    cases hf : f ρ g with
    | err c g1 =>
      simp only [hf, Res.toS] at hP
      exact fun H' μ' ex R' => hP σ H' μ' ex R' (hE.mono ex.kp')
    | stuck => simp only [hf, Res.toS] at hP; exact hP
    | ok y g1 =>
      simp only [hf, Res.toS] at hP
      intro yv H1 μ1 ex R1 r2
      refine ⟨d, y, ν, μ1, g1, R1, RepD.mono ex.kp' _ r1, r2, fun W' σ' => ?_⟩
      cases hz : o d y g1 with
      | err c g2 => exact absurd hz (no _ _ _ _ _)
      | stuck => simp only [hz] at hP; exact hP
      | ok z g2 =>
        simp only [hz] at hP
        exact fun zv H2 μ2 ex2 R2 r3 => hP _ H2 μ2 (ex.trans ex2) R2 ((hE.mono (ex.trans ex2).kp').set r3 i)
  · exact hP.elim
/-! ### while -/
def whileD (ft : FT) (fb : FS) : Nat → FS
  | 0 => fun _ _ => .stuck
  | n + 1 => fun ρ g => (ft ρ g).toS ρ fun c g1 => if c then (match fb ρ g1 with
    | .nx ρ2 g2 => whileD ft fb n ρ2 g2
    | .ct ρ2 g2 => whileD ft fb n ρ2 g2
    | .bk ρ2 g2 => .nx ρ2 g2
    | r => r) else .nx ρ g1
theorem ds_while (n : Nat) {body : List Stmt} (hp : PassesOwn (model X.prog X.w) X.A X.env X.xe) (hc : DT C X W c ft) (hb : DB C X W body fs) : DS C X W (.While c body [] pos) (whileD ft fs n) := PS.imp (ps_while hp hc hb) fun E σ H h => by
  refine ⟨fun m σ H => tS C X.K W (whileD ft fs m) E σ H, ⟨n, h⟩, fun m σ H h => ?_⟩
  cases m with
  | zero =>
    obtain ⟨ρ, ν, μ, g, hE, hR, hP⟩ := h
    exact False.elim hP
  | succ m =>
    refine bindST (k := fun c ρ g1 => if c then (match fs ρ g1 with
    | .nx ρ2 g2 => whileD ft fs m ρ2 g2
    | .ct ρ2 g2 => whileD ft fs m ρ2 g2
    | .bk ρ2 g2 => .nx ρ2 g2
    | r => r) else .nx ρ g1) h fun ρ ν μ g b H1 hE hR hP => ?_
    cases b with
    | false => exact hP σ H1 μ .refl hR hE
    | true =>
      rw [if_pos rfl] at hP ⊢
      refine ⟨fun σ' H' => tS C X.K W (whileD ft fs m) E σ' H', fun σ' H' q => ⟨m, Nat.lt_succ_self m, q⟩, ρ, ν, μ, g, hE, hR, ?_⟩
      cases hf : fs ρ g with
      | nx ρ2 g2 =>
        simp only [hf] at hP
        exact fun σ' H' μ' ex R' hE' => ⟨ρ2, ν, μ', g2, hE', R', hP.ext ex⟩
      | ct ρ2 g2 =>
        simp only [hf] at hP
        exact fun σ' H' μ' ex R' hE' => ⟨ρ2, ν, μ', g2, hE', R', hP.ext ex⟩
      | bk ρ2 g2 => simp only [hf] at hP; exact hP
      | rt d g2 => simp only [hf] at hP; exact hP
      | err c ρ2 g2 => simp only [hf] at hP; exact hP
      | stuck => simp only [hf] at hP; exact hP
end
end Dl
end
section
set_option Elab.async false
set_option linter.all false
set_option maxRecDepth 100000
namespace Dl
open PySem L2
abbrev FI := Env' → G → Res (List D)
def Keeps0 (H0 : Hp) (μ0 : List Addr) (H : Hp) : Prop := ∀ b o, H0 b = some o → (b ∉ μ0 ∨ Fix o) → NTb o → H b = some o
/-- at turn i the i-th item comes, as it was when the walk began; or in a new pair -/
def Yields (K : PySem.W.Frag) (H0 : Hp) (ν μ0 : List Addr) (items : List D) (J : It) : Prop := ∀ (i : Nat) (H : Hp), Keeps0 H0 μ0 H →
  (∀ d, items[i]? = some d → J.go i H ∧ ∀ x H', J.yld i H x H' → (H' = H ∧ RepD K H0 ν μ0 d x) ∨ (∃ T ps dps, x = .ref T ∧ H T = none ∧ H' = upd H T (.tup ps) ∧ d = .tup dps ∧ RepL K H0 ν μ0 dps ps)) ∧
  (items.length ≤ i → J.stop i H)
def tI (C : Cfg) (K : PySem.W.Frag) (W : WX) (f : FI) : TI := fun σ H R => ∃ ρ ν μ g, RepE K H ν μ ρ σ ∧ RS C K H ν μ g ∧ (match f ρ g with
  | .ok items g' => ∀ J H' μ', Ext H μ H' μ' → RS C K H' ν μ' g' → Yields K H' ν μ' items J → R J H'
  | .err c g' => ∀ H' μ', Ext H μ H' μ' → RS C K H' ν μ' g' → W (.ref (C.exc c)) none σ H'
  | .stuck => False)
def DI (C : Cfg) (X : Cx) (W : WX) (tg e : Expr) (f : FI) : Prop := PI X tg e (tI C X.K W f)
theorem PI.imp {X : Cx} {tg e : Expr} {t t' : TI} (h : PI X tg e t) (i : ∀ σ H R, t' σ H R → t σ H R) : PI X tg e t' := ⟨fun pins s σ H R I q => h.run pins s σ H R I (i σ H R q)⟩
section
variable {C : Cfg} {K : PySem.W.Frag} {H H' H0 : Hp} {ν μ μ' μ0 : List Addr} {g : G} {ds : List D} {xs : List V} {a : Addr}
theorem Ext.keeps0 (e : Ext H μ H' μ') : Keeps0 H μ H' := e.kp
theorem sqT_keep (h : SqT K H0 a xs) (k : Keeps0 H0 μ0 H) : SqT K H a xs := by
  rcases h with h | h
  · rcases h with h | ⟨o, h⟩
    · exact .inl (.inl (k _ _ h (.inr fix_tup) ntb_tup))
    · exact .inl (.inr ⟨o, k _ _ h (.inr fix_frz) ntb_frz⟩)
  · exact .inr h
theorem sq_inj {K : PySem.W.Frag} {H : Hp} {a : Addr} {xs ys : List V} (X : Cx) : True := trivial
theorem yields_tup (h : SqT K H0 a xs) (r : RepL K H0 ν μ0 ds xs) : Yields K H0 ν μ0 ds (Itt K a) := fun i H k => by
  have q := sqT_keep h k
  refine ⟨fun d hd => ?_, fun hi => ⟨xs, q, by rw [← RepL.length r]; exact hi⟩⟩
  obtain ⟨v, hv, rv⟩ := RepL.get r hd
  exact ⟨⟨xs, v, q, hv⟩, fun x H' ⟨e, y⟩ => .inl ⟨e, by
    have := y xs q
    rw [hv] at this; cases this; exact rv⟩⟩
theorem yields_lst (h : H0 a = some (.lst xs)) (n : a ∉ μ0) (r : RepL K H0 ν μ0 ds xs) : Yields K H0 ν μ0 ds (Itl K a) := fun i H k => by
  have q : SqL K H a xs := SqL.of (k _ _ h (.inl n) ntb_lst)
  refine ⟨fun d hd => ?_, fun hi => ⟨xs, q, by rw [← RepL.length r]; exact hi⟩⟩
  obtain ⟨v, hv, rv⟩ := RepL.get r hd
  exact ⟨⟨xs, v, q, hv⟩, fun x H' ⟨e, y⟩ => .inl ⟨e, by
    have := y xs q
    rw [hv] at this; cases this; exact rv⟩⟩
theorem yields_scr {ns : List Int} (h : (∃ o, H0 a = some (.frz o (.lst (ns.map V.int)))) ∨ SqL K (fun _ => none) a (ns.map V.int)) : Yields K H0 ν μ0 (ns.map D.int) (Itl K a) := fun i H k => by
  have q : SqL K H a (ns.map V.int) := by
    rcases h with ⟨o, h⟩ | h
    · exact .inl (.inr ⟨o, k _ _ h (.inr fix_frz) ntb_frz⟩)
    · rcases h with h | h
      · rcases h with h | ⟨o, h⟩ <;> cases h
      · exact .inr h
  refine ⟨fun d hd => ?_, fun hi => ⟨_, q, by simpa using hi⟩⟩
  obtain ⟨v, hv, rv⟩ := RepL.get (repL_ints (K := K) (H := H0) (ν := ν) (μ := μ0) ns) hd
  exact ⟨⟨_, v, q, hv⟩, fun x H' ⟨e, y⟩ => .inl ⟨e, by
    have := y _ q
    rw [hv] at this; cases this; exact rv⟩⟩
def signsD (z : Str) : List D := z.cps.toList.map fun c => .str ⟨#[c]⟩
theorem yields_str {z : Str} : Yields K H0 ν μ0 (signsD z) (Its z) := fun i H k => by
  refine ⟨fun d hd => ?_, fun hi => by show z.cps.size ≤ i; simpa [signsD] using hi⟩
  unfold signsD at hd
  rw [List.getElem?_map] at hd
  cases hc : z.cps.toList[i]? with
  | none => rw [hc] at hd; cases hd
  | some c =>
    rw [hc] at hd; cases hd
    have hc' : z.cps[i]? = some c := by rw [← Array.getElem?_toList]; exact hc
    refine ⟨(Array.getElem?_eq_some_iff.mp hc').1, fun x H' ⟨e, c', h1, h2⟩ => .inl ⟨e, ?_⟩⟩
    rw [hc'] at h1; cases h1
    subst h2; exact rfl
def rangeD (lo : Int) (n : Nat) : List D := (List.range n).map fun (k : Nat) => D.int (lo + (k : Int))
theorem yields_range {lo : Int} {n : Nat} : Yields K H0 ν μ0 (rangeD lo n) (Itr lo n) := fun i H k => by
  refine ⟨fun d hd => ?_, fun hi => by show n ≤ i; simpa [rangeD] using hi⟩
  unfold rangeD at hd
  rw [List.getElem?_map] at hd
  by_cases hi : i < n
  · rw [List.getElem?_range hi] at hd
    cases hd
    exact ⟨hi, fun x H' ⟨e, y⟩ => .inl ⟨e, y⟩⟩
  · rw [List.getElem?_eq_none (by simpa using hi)] at hd
    cases hd
def rangeDC (lo c : Int) (n : Nat) : List D := (List.range n).map fun (k : Nat) => D.int (lo + (k : Int) * c)
theorem yields_rangeC {lo c : Int} {n : Nat} : Yields K H0 ν μ0 (rangeDC lo c n) (Itc lo c n) := fun i H k => by
  refine ⟨fun d hd => ?_, fun hi => by show n ≤ i; simpa [rangeDC] using hi⟩
  unfold rangeDC at hd
  rw [List.getElem?_map] at hd
  by_cases hi : i < n
  · rw [List.getElem?_range hi] at hd
    cases hd
    exact ⟨hi, fun x H' ⟨e, y⟩ => .inl ⟨e, y⟩⟩
  · rw [List.getElem?_eq_none (by simpa using hi)] at hd
    cases hd
def enumD : Nat → List D → List D
  | _, [] => []
  | n, d :: r => .tup [.int (n : Int), d] :: enumD (n + 1) r
theorem enumD_get : ∀ (ds : List D) (n i : Nat), (enumD n ds)[i]? = (ds[i]?).map fun d => .tup [.int ((n + i : Nat) : Int), d]
  | [], n, i => by simp [enumD]
  | d :: r, n, 0 => by simp [enumD]
  | d :: r, n, i + 1 => by
    simp only [enumD, List.getElem?_cons_succ]
    rw [enumD_get r (n + 1) i]
    congr 1
    funext d
    rw [show n + 1 + i = n + (i + 1) by omega]
theorem enumD_length : ∀ (ds : List D) (n : Nat), (enumD n ds).length = ds.length
  | [], _ => rfl
  | d :: r, n => by simp [enumD, enumD_length r (n + 1)]
theorem yields_enum (h : H0 a = some (.lst xs)) (n : a ∉ μ0) (r : RepL K H0 ν μ0 ds xs) : Yields K H0 ν μ0 (enumD 0 ds) (Ite K a) := fun i H k => by
  have q : SqL K H a xs := SqL.of (k _ _ h (.inl n) ntb_lst)
  refine ⟨fun d hd => ?_, fun hi => ⟨xs, q, by rw [← RepL.length r, ← enumD_length ds 0]; exact hi⟩⟩
  rw [enumD_get] at hd
  cases hc : ds[i]? with
  | none => rw [hc] at hd; cases hd
  | some c =>
    rw [hc] at hd; cases hd
    obtain ⟨v, hv, rv⟩ := RepL.get r hc
    refine ⟨⟨xs, v, q, hv⟩, fun x H' ⟨T, y, e1, e2, e3, e4⟩ => .inr ⟨T, _, _, e1, e2, e3, rfl, ?_⟩⟩
    have := e4 xs q
    rw [hv] at this; cases this
    exact ⟨.int _, [v], rfl, by rw [Nat.zero_add]; exact rInt _, v, [], rfl, rv, rfl⟩
def zipD : List D → List D → List D
  | a :: r, b :: q => .tup [a, b] :: zipD r q
  | _, _ => []
theorem zipD_get : ∀ (xs ys : List D) (i : Nat) (d : D), (zipD xs ys)[i]? = some d → ∃ a b, xs[i]? = some a ∧ ys[i]? = some b ∧ d = .tup [a, b]
  | [], ys, i, d, h => by simp [zipD] at h
  | a :: r, [], i, d, h => by simp [zipD] at h
  | a :: r, b :: q, 0, d, h => by simp [zipD] at h; exact ⟨a, b, rfl, rfl, h.symm⟩
  | a :: r, b :: q, i + 1, d, h => by
    simp only [zipD, List.getElem?_cons_succ] at h
    exact zipD_get r q i d h
theorem zipD_length : ∀ (xs ys : List D), (zipD xs ys).length = min xs.length ys.length
  | [], ys => by simp [zipD]
  | a :: r, [] => by simp [zipD]
  | a :: r, b :: q => by simp [zipD, zipD_length r q]
theorem yields_zip {es : List D} {ys : List V} {b : Addr} (h : H0 a = some (.lst xs)) (n : a ∉ μ0) (r : RepL K H0 ν μ0 ds xs) (h' : H0 b = some (.lst ys)) (n' : b ∉ μ0) (r' : RepL K H0 ν μ0 es ys) : Yields K H0 ν μ0 (zipD ds es) (Itz K a b) := fun i H k => by
  have q : SqL K H a xs := SqL.of (k _ _ h (.inl n) ntb_lst)
  have q' : SqL K H b ys := SqL.of (k _ _ h' (.inl n') ntb_lst)
  refine ⟨fun d hd => ?_, fun hi => ⟨xs, ys, q, q', ?_⟩⟩
  · obtain ⟨c1, c2, e1, e2, rfl⟩ := zipD_get _ _ _ _ hd
    obtain ⟨v, hv, rv⟩ := RepL.get r e1
    obtain ⟨w, hw, rw'⟩ := RepL.get r' e2
    refine ⟨⟨xs, ys, v, w, q, q', hv, hw⟩, fun x H' ⟨T, y1, y2, e1, e2, e3, e4, e5⟩ => .inr ⟨T, _, _, e1, e2, e3, rfl, ?_⟩⟩
    have t1 := e4 xs q
    have t2 := e5 ys q'
    rw [hv] at t1; cases t1
    rw [hw] at t2; cases t2
    exact ⟨v, [w], rfl, rv, w, [], rfl, rw', rfl⟩
  · rw [zipD_length] at hi
    have l1 := RepL.length r
    have l2 := RepL.length r'
    omega
end
section
variable {C : Cfg} {X : Cx} {W : WX} {e a b c o tg : Expr} {es rest : List Expr} {f fa fb fc : FE} {fes : FA} {ft : FT} {pos p : Pos} {st : Stmt} {sts : List Stmt} {fs fs' : FS} {fi : FI} {fg : FG}
/-- what stands still while it is walked -/
def still : D → Option (List D)
  | .tup ds => some ds
  | .lst ds => some ds
  | .scr ns => some (ns.map .int)
  | .str z => some (signsD z)
  | _ => none
def iSeq (f : FE) : FI := fun ρ g => (f ρ g).bind fun d g1 => match still d with
  | some ds => .ok ds g1
  | none => .stuck
theorem di_seq (he : DP C X W e f) : DI C X W tg e (iSeq f) := by
  refine ⟨fun pins s σ H R I h => ?_⟩
  obtain ⟨ρ, ν, μ, g, hE, hR, hP⟩ := h
  unfold iSeq at hP
  have base : ∀ (wi : TE → TI) (hpi : PI X tg e (wi (tD C X.K W f))) (k : wi (tD C X.K W f) σ H R), wpAny (model X.prog X.w) X.A (eval e X.env) (fun v s1 => wpAny (model X.prog X.w) X.A (pyIter v) (PIE X pins σ tg R) X.xe s1) X.xe s := fun wi hpi k => hpi.run pins s σ H R I k
  cases hf : f ρ g with
  | err c g1 =>
    simp only [hf, Res.bind] at hP
    exact base (iList X.K) (pi_list he) ⟨ρ, ν, μ, g, hE, hR, by rw [hf]; exact hP⟩
  | stuck => simp only [hf, Res.bind] at hP
  | ok d g1 =>
    simp only [hf, Res.bind] at hP
    cases d with
    | tup ds =>
      simp only [still] at hP
      refine base (iTup X.K) (pi_tup he) ⟨ρ, ν, μ, g, hE, hR, by
        rw [hf]
        intro v H' μ' ex R' r
        unfold RepD at r
        obtain ⟨a, xs, rfl, h1, h2⟩ := r
        exact ⟨a, rfl, ⟨xs, h1⟩, hP _ _ _ ex R' (yields_tup h1 h2)⟩⟩
    | lst ds =>
      simp only [still] at hP
      refine base (iList X.K) (pi_list he) ⟨ρ, ν, μ, g, hE, hR, by
        rw [hf]
        intro v H' μ' ex R' r
        unfold RepD at r
        obtain ⟨a, xs, rfl, h1, h3, h4, h2⟩ := r
        exact ⟨a, rfl, ⟨xs, SqL.of h1⟩, hP _ _ _ ex R' (yields_lst h1 h3 h2)⟩⟩
    | scr ns =>
      simp only [still] at hP
      refine base (iList X.K) (pi_list he) ⟨ρ, ν, μ, g, hE, hR, by
        rw [hf]
        intro v H' μ' ex R' r
        unfold RepD at r
        obtain ⟨a, rfl, h1⟩ := r
        refine ⟨a, rfl, ⟨ns.map V.int, ?_⟩, hP _ _ _ ex R' (yields_scr h1)⟩
        rcases h1 with ⟨o, h⟩ | h
        · exact .inl (.inr ⟨o, h⟩)
        · rcases h with h | h
          · rcases h with h | ⟨o, h⟩ <;> cases h
          · exact .inr h⟩
    | str z =>
      simp only [still] at hP
      refine base iStr (pi_str he) ⟨ρ, ν, μ, g, hE, hR, by
        rw [hf]
        intro v H' μ' ex R' r
        obtain rfl : v = .str _ := r
        exact ⟨z, rfl, hP _ _ _ ex R' yields_str⟩⟩
    | non => simp only [still] at hP
    | bl _ => simp only [still] at hP
    | int _ => simp only [still] at hP
    | loc _ => simp only [still] at hP
theorem bindI {K : PySem.W.Frag} {σ : St} {H : Hp} {R : It → Hp → Prop} {k : List D → G → Res (List D)} {Q : List V → Hp → Prop}
    (h : tI C K W (fun ρ g => (fes ρ g).bind fun x g1 => k x g1) σ H R)
    (hk : ∀ ν μ g ds vs H', RS C K H' ν μ g → RepL K H' ν μ ds vs → (match k ds g with
      | .ok items g' => ∀ J H2 μ', Ext H' μ H2 μ' → RS C K H2 ν μ' g' → Yields K H2 ν μ' items J → R J H2
      | .err c g' => ∀ H2 μ', Ext H' μ H2 μ' → RS C K H2 ν μ' g' → W (.ref (C.exc c)) none σ H2
      | .stuck => False) → Q vs H') : tA C K W fes σ H Q := by
  obtain ⟨ρ, ν, μ, g, hE, hR, hP⟩ := h
  refine ⟨ρ, ν, μ, g, hE, hR, ?_⟩
  cases hf : fes ρ g with
  | ok ds g1 =>
    simp only [hf, Res.bind] at hP
    refine fun v H' μ' ex R' r => hk ν μ' g1 ds v H' R' r ?_
    cases hz : k ds g1 with
    | ok items g' => simp only [hz] at hP; exact fun J H2 μ2 e2 => hP J H2 μ2 (ex.trans e2)
    | err c g' => simp only [hz] at hP; exact fun H2 μ2 e2 => hP H2 μ2 (ex.trans e2)
    | stuck => simp only [hz] at hP
  | err c g1 => simp only [hf, Res.bind] at hP; exact hP
  | stuck => simp only [hf, Res.bind] at hP
def small62 (i : Int) : Bool := decide (-(2 ^ 62) ≤ i) && decide (i < 2 ^ 62)
def rng1 : List D → Option (List D)
  | [.int j] => if small62 j then some (rangeD 0 j.toNat) else none
  | _ => none
def rng2 : List D → Option (List D)
  | [.int i, .int j] => if small62 i && small62 j then some (rangeD i (j - i).toNat) else none
  | _ => none
def rng3 : List D → Option (List D)
  | [.int i, .int j, .int c] => if decide (c ≠ 0) && decide (c.natAbs < 1073741824) && Builtin.Range.small i j c && decide (0 ≤ Builtin.Range.rangeSize i j c) then some (rangeDC i c (Builtin.Range.rangeSize i j c).toNat) else none
  | _ => none
def iRng (r : List D → Option (List D)) (fes : FA) : FI := fun ρ g => (fes ρ g).bind fun ds g1 => match r ds with
  | some items => .ok items g1
  | none => .stuck
theorem iRng_of {K : PySem.W.Frag} {σ : St} {H : Hp} {R : It → Hp → Prop} {rr : List D → Option (List D)} {Q : List V → Hp → Prop} (h : tI C K W (iRng rr fes) σ H R)
    (hk : ∀ ν μ g ds vs H' items, RS C K H' ν μ g → RepL K H' ν μ ds vs → rr ds = some items → (∀ J H2 μ', Ext H' μ H2 μ' → RS C K H2 ν μ' g → Yields K H2 ν μ' items J → R J H2) → Q vs H') : tA C K W fes σ H Q :=
  bindI (k := fun ds g1 => match rr ds with
    | some items => .ok items g1
    | none => .stuck) h fun ν μ g ds vs H1 hR r hP => by
    cases hz : rr ds with
    | none => simp only [hz] at hP
    | some items =>
      simp only [hz] at hP
      exact hk ν μ g ds vs H1 items hR r hz hP
theorem di_rng1 (hg : Gl X "range") (hm : X.mg "range" = none) (ha : DA C X W [a] fes) (hs : starEach [a] X.env = [(false, eval a X.env)] := by rfl) : DI C X W tg (.Call (.Name "range" p) [a] [] pos) (iRng rng1 fes) :=
  PI.imp (pi_range1 hg hm ha hs) fun σ H R h => iRng_of h fun ν μ g ds vs H1 items hR r hz hP => by
    unfold rng1 at hz
    split at hz
    · split at hz
      · rename_i j hj
        cases hz
        unfold small62 at hj
        simp only [Bool.and_eq_true, decide_eq_true_eq] at hj
        unfold RepL RepL at r
        obtain ⟨v, _, rfl, r1, rfl⟩ := r
        obtain rfl : v = .int _ := r1
        exact ⟨j, rfl, hj.1, hj.2, hP _ _ _ .refl hR yields_range⟩
      · cases hz
    · cases hz
theorem di_rng2 (hg : Gl X "range") (hm : X.mg "range" = none) (ha : DA C X W [a, b] fes) (hs : starEach [a, b] X.env = [(false, eval a X.env), (false, eval b X.env)] := by rfl) (hs2 : starEach [b] X.env = [(false, eval b X.env)] := by rfl) :
    DI C X W tg (.Call (.Name "range" p) [a, b] [] pos) (iRng rng2 fes) :=
  PI.imp (pi_range2 hg hm ha hs hs2) fun σ H R h => iRng_of h fun ν μ g ds vs H1 items hR r hz hP => by
    unfold rng2 at hz
    split at hz
    · split at hz
      · rename_i i j hj
        cases hz
        unfold small62 at hj
        simp only [Bool.and_eq_true, decide_eq_true_eq] at hj
        unfold RepL RepL RepL at r
        obtain ⟨v, _, rfl, r1, w, _, rfl, r2, rfl⟩ := r
        obtain rfl : v = .int _ := r1
        obtain rfl : w = .int _ := r2
        exact ⟨i, j, rfl, ⟨hj.1.1, hj.1.2, hj.2.1, hj.2.2⟩, hP _ _ _ .refl hR yields_range⟩
      · cases hz
    · cases hz
theorem di_rng3 (hg : Gl X "range") (hm : X.mg "range" = none) (ha : DA C X W [a, b, c] fes)
    (hs : starEach [a, b, c] X.env = (false, eval a X.env) :: starEach [b, c] X.env := by rfl) (hpl : (backTo pos (starEach [b, c] X.env)).any (·.1) = false := by rfl) :
    DI C X W tg (.Call (.Name "range" p) [a, b, c] [] pos) (iRng rng3 fes) :=
  PI.imp (pi_range3 hg hm ha hs hpl) fun σ H R h => iRng_of h fun ν μ g ds vs H1 items hR r hz hP => by
    unfold rng3 at hz
    split at hz
    · split at hz
      · rename_i i j k hj
        cases hz
        simp only [Bool.and_eq_true, decide_eq_true_eq] at hj
        unfold RepL RepL RepL RepL at r
        obtain ⟨v, _, rfl, r1, w, _, rfl, r2, z, _, rfl, r3, rfl⟩ := r
        obtain rfl : v = .int _ := r1
        obtain rfl : w = .int _ := r2
        obtain rfl : z = .int _ := r3
        exact ⟨i, j, k, _, rfl, ⟨hj.1.1.1, hj.1.1.2, hj.1.2, (Int.toNat_of_nonneg hj.2).symm⟩, hP _ _ _ .refl hR yields_rangeC⟩
      · cases hz
    · cases hz
/-- enumerate, zip of lists that stand still -/
def enm : List D → Option (List D)
  | [.lst ds] => some (enumD 0 ds)
  | _ => none
theorem di_enum {elts : List Expr} {kk : Nat} {tpos : Pos} (hg : Gl X "enumerate") (hm : X.mg "enumerate" = none) (ha : DA C X W [a] fes) (hs : starEach [a] X.env = [(false, eval a X.env)] := by rfl) :
    DI C X W (.Tuple elts kk tpos) (.Call (.Name "enumerate" p) [a] [] pos) (iRng enm fes) :=
  PI.imp (pi_enum hg hm ha hs) fun σ H R h => iRng_of h fun ν μ g ds vs H1 items hR r hz hP => by
    unfold enm at hz
    split at hz
    · cases hz
      unfold RepL RepL at r
      obtain ⟨v, _, rfl, r1, rfl⟩ := r
      unfold RepD at r1
      obtain ⟨a, xs, rfl, h1, h3, h4, h2⟩ := r1
      exact ⟨a, xs, rfl, SqL.of h1, hP _ _ _ .refl hR (yields_enum h1 h3 h2)⟩
    · cases hz
def zpp : List D → Option (List D)
  | [.lst ds, .lst es] => some (zipD ds es)
  | _ => none
theorem di_zip {elts : List Expr} {kk : Nat} {tpos : Pos} (hg : Gl X "zip") (hm : X.mg "zip" = none) (ha : DA C X W [a, b] fes)
    (hs : starEach [a, b] X.env = (false, eval a X.env) :: starEach [b] X.env := by rfl) (hpl : (backTo pos (starEach [b] X.env)).any (·.1) = false := by rfl) :
    DI C X W (.Tuple elts kk tpos) (.Call (.Name "zip" p) [a, b] [] pos) (iRng zpp fes) :=
  PI.imp (pi_zip hg hm ha hs hpl) fun σ H R h => iRng_of h fun ν μ g ds vs H1 items hR r hz hP => by
    unfold zpp at hz
    split at hz
    · cases hz
      unfold RepL RepL RepL at r
      obtain ⟨v, _, rfl, r1, w, _, rfl, r2, rfl⟩ := r
      unfold RepD at r1 r2
      obtain ⟨a, xs, rfl, h1, h3, h4, h2⟩ := r1
      obtain ⟨b, ys, rfl, h1', h3', h4', h2'⟩ := r2
      exact ⟨a, b, xs, ys, rfl, SqL.of h1, SqL.of h1', hP _ _ _ .refl hR (yields_zip h1 h3 h2 h1' h3' h2')⟩
    · cases hz

/-! ### for -/
def forD (fg : FG) (fb : FS) : List D → FS
  | [] => fun ρ g => .nx ρ g
  | d :: r => fun ρ g => match fg d ρ g with
    | .ok ρ1 g1 => match fb ρ1 g1 with
      | .nx ρ2 g2 => forD fg fb r ρ2 g2
      | .ct ρ2 g2 => forD fg fb r ρ2 g2
      | .bk ρ2 g2 => .nx ρ2 g2
      | q => q
    | .err c g1 => .err c ρ g1
    | .stuck => .stuck
def sFor (fi : FI) (fg : FG) (fb : FS) : FS := fun ρ g => (fi ρ g).toS ρ fun items g1 => forD fg fb items ρ g1
/-- behind an item's coming -/
theorem came {K : PySem.W.Frag} {H0 H H' : Hp} {ν μ0 μ : List Addr} {g : G} {d : D} {x : V} (e : Ext H0 μ0 H μ) (R : RS C K H ν μ g)
    (h : (H' = H ∧ RepD K H0 ν μ0 d x) ∨ (∃ T ps dps, x = .ref T ∧ H T = none ∧ H' = upd H T (.tup ps) ∧ d = .tup dps ∧ RepL K H0 ν μ0 dps ps)) : Ext H μ H' μ ∧ RS C K H' ν μ g ∧ RepD K H' ν μ d x := by
  rcases h with ⟨rfl, r⟩ | ⟨T, ps, dps, rfl, hT, rfl, rfl, r⟩
  · exact ⟨.refl, R, RepD.mono e.kp' _ r⟩
  · exact new_tup R hT (RepL.mono e.kp' _ r)
theorem ds_for {body : List Stmt} {ts : List Nat} (hp : PassesOwn (model X.prog X.w) X.A X.env X.xe) (hc : X.calm = true) (hi : DI C X W tg e fi) (hg : DG C X W tg ts fg) (hb : DB C X W body fs)
    (hs : ∀ x, foldedSetIterable e X.env x = pure x := by intro _; rfl) : DS C X W (.For tg e body [] pos) (sFor fi fg fs) := PS.imp (ps_for hp hc hi hg hb hs) fun E σ H ⟨ρ, ν, μ, g, hE, hR, hP⟩ => by
  refine ⟨ρ, ν, μ, g, hE, hR, ?_⟩
  unfold sFor at hP
  cases hf : fi ρ g with
  | err c g1 =>
    simp only [hf, Res.toS] at hP
    exact fun H' μ' ex R' => hP σ H' μ' ex R' (hE.mono ex.kp')
  | stuck => simp only [hf, Res.toS] at hP; exact hP
  | ok items g1 =>
    simp only [hf, Res.toS] at hP
    intro J H1 μ1 ex1 R1 hY
    have hE1 := hE.mono ex1.kp'
    have hP1 := hP.ext ex1
    refine ⟨fun i m σ H => i ≤ items.length ∧ m = items.length - i ∧ ∃ ρ μ g, RepE X.K H ν μ ρ σ ∧ RS C X.K H ν μ g ∧ Ext H1 μ1 H μ ∧ PostS C X.K W H ν μ (forD fg fs (items.drop i) ρ g) E,
      ⟨items.length, Nat.zero_le _, rfl, ρ, μ1, g1, hE1, R1, .refl, by simpa using hP1⟩, ?_⟩
    rintro i m σ2 H2 ⟨hi1, rfl, ρ2, μ2, g2, hE2, R2, ex2, hP2⟩
    obtain ⟨y1, y2⟩ := hY i H2 ex2.kp
    by_cases hlt : i < items.length
    · right
      obtain ⟨hgo, hyl⟩ := y1 items[i] (by simp [hlt])
      rw [List.drop_eq_getElem_cons hlt] at hP2
      refine ⟨hgo, fun σ' H' => ∃ ρ μ g, RepE X.K H' ν μ ρ σ' ∧ RS C X.K H' ν μ g ∧ Ext H1 μ1 H' μ ∧ PostS C X.K W H' ν μ (forD fg fs (items.drop (i + 1)) ρ g) E,
        fun σ' H' ⟨ρ', μ', g', a1, a2, a3, a4⟩ => ⟨items.length - (i + 1), by omega, hlt, rfl, ρ', μ', g', a1, a2, a3, a4⟩, fun x H' hy => ?_⟩
      obtain ⟨e1, R3, r3⟩ := came ex2 R2 (hyl x H' hy)
      have hE3 := hE2.mono e1.kp'
      have hP3 := hP2.ext e1
      have ex3 := ex2.trans e1
      refine ⟨items[i], ρ2, ν, μ2, g2, hE3, R3, r3, ?_⟩
      unfold forD at hP3
      cases hfg : fg items[i] ρ2 g2 with
      | err c g4 =>
        simp only [hfg] at hP3
        exact fun H4 μ4 ex4 R4 => hP3 _ H4 μ4 ex4 R4 (hE3.mono ex4.kp')
      | stuck => simp only [hfg] at hP3; exact hP3
      | ok ρ4 g4 =>
        simp only [hfg] at hP3 ⊢
        intro σ4 H4 μ4 ex4 R4 hE4 _
        have hP4 := hP3.ext ex4
        refine ⟨ρ4, ν, μ4, g4, hE4, R4, ?_⟩
        cases hfb : fs ρ4 g4 with
        | nx ρ5 g5 =>
          simp only [hfb] at hP4
          exact fun σ5 H5 μ5 ex5 R5 hE5 => ⟨ρ5, μ5, g5, hE5, R5, (ex3.trans ex4).trans ex5, hP4.ext ex5⟩
        | ct ρ5 g5 =>
          simp only [hfb] at hP4
          exact fun σ5 H5 μ5 ex5 R5 hE5 => ⟨ρ5, μ5, g5, hE5, R5, (ex3.trans ex4).trans ex5, hP4.ext ex5⟩
        | bk ρ5 g5 => simp only [hfb] at hP4; exact hP4
        | rt d g5 => simp only [hfb] at hP4; exact hP4
        | err c ρ5 g5 => simp only [hfb] at hP4; exact hP4
        | stuck => simp only [hfb] at hP4; exact hP4
    · left
      refine ⟨y2 (by omega), ?_⟩
      rw [List.drop_eq_nil_of_le (by omega)] at hP2
      exact hP2 σ2 H2 μ2 .refl R2 hE2
end
end Dl
end
section
set_option Elab.async false
set_option linter.all false
set_option maxRecDepth 100000
namespace Dl
open PySem L2
def wipeD (ρ : Env') : List Nat → Env'
  | [] => ρ
  | v :: vs => (wipeD ρ vs).set v none
def W0 : WX := fun _ _ _ _ => False
section
variable {C : Cfg} {K : PySem.W.Frag} {H H' H0 : Hp} {ν μ μ' μ0 : List Addr} {g : G} {ds : List D} {xs ys : List V} {a D₀ : Addr} {ρ : Env'} {σ : St}
theorem RepE.wipe (h : RepE K H ν μ ρ σ) : ∀ vs : List Nat, RepE K H ν μ (wipeD ρ vs) (wipe σ vs)
  | [] => h
  | v :: vs => by
    have ih := RepE.wipe h vs
    refine ⟨by show ((wipeD ρ vs).set v none).length = ((L2.wipe σ vs).set v none).length; simp [ih.len], fun i d e => ?_⟩
    have e : ((wipeD ρ vs).set v none)[i]? = some (some d) := e
    show ∃ w, ((L2.wipe σ vs).set v none)[i]? = some (some w) ∧ _
    by_cases hv : v = i
    · subst hv
      rw [List.getElem?_set] at e
      simp at e
    · rw [List.getElem?_set_ne hv] at e ⊢
      exact ih.at' i d e
theorem wipe_idem {σ : St} : ∀ vs : List Nat, L2.wipe (L2.wipe σ vs) vs = L2.wipe σ vs := by
  have h : ∀ (vs : List Nat) (σ τ : St), (∀ i, i ∉ vs → σ[i]? = τ[i]?) → σ.length = τ.length → L2.wipe σ vs = L2.wipe τ vs := by
    intro vs
    induction vs with
    | nil => intro σ τ h hl; exact List.ext_getElem? fun i => h i (by simp)
    | cons v vs ih =>
      intro σ τ h hl
      show (L2.wipe σ vs).set v none = (L2.wipe τ vs).set v none
      by_cases hv : v ∈ vs
      · rw [ih σ τ (fun i hi => h i (by simp only [List.mem_cons, not_or]; exact ⟨fun z => hi (z ▸ hv), hi⟩)) hl]
      · have e : L2.wipe (σ.set v none) vs = L2.wipe (τ.set v none) vs := ih _ _ (fun i hi => by
          by_cases z : v = i
          · subst z
            rw [List.getElem?_set, List.getElem?_set]
            simp [hl]
          · rw [List.getElem?_set_ne z, List.getElem?_set_ne z]
            exact h i (by simp only [List.mem_cons, not_or]; exact ⟨fun q => z q.symm, hi⟩)) (by simp [hl])
        have comm : ∀ (vs : List Nat) (σ : St), v ∉ vs → L2.wipe (σ.set v none) vs = (L2.wipe σ vs).set v none := by
          intro vs
          induction vs with
          | nil => intro σ _; rfl
          | cons w ws ihw =>
            intro σ hn
            show (L2.wipe (σ.set v none) ws).set w none = ((L2.wipe σ ws).set w none).set v none
            rw [ihw σ (fun z => hn (List.mem_cons_of_mem _ z)), List.set_comm]
            intro z
            exact hn (by rw [z]; exact List.mem_cons_self)
        rw [← comm vs σ hv, ← comm vs τ hv, e]
  intro vs
  have hout : ∀ (vs : List Nat) (σ : St) (i : Nat), i ∉ vs → (L2.wipe σ vs)[i]? = σ[i]? := by
    intro vs
    induction vs with
    | nil => intro σ i _; rfl
    | cons v vs ih =>
      intro σ i hi
      show ((L2.wipe σ vs).set v none)[i]? = _
      rw [List.getElem?_set_ne (fun z => hi (by rw [z]; exact List.mem_cons_self)), ih σ i fun z => hi (List.mem_cons_of_mem _ z)]
  exact h vs _ _ (fun i hi => hout vs σ i hi) (wipe_length σ vs)
theorem RepE.more (hn : H D₀ = none) (h : RepE K H ν μ ρ σ) : RepE K H (D₀ :: ν) μ ρ σ := ⟨h.len, fun i d e => by
  obtain ⟨v, e1, r⟩ := h.at' i d e
  exact ⟨v, e1, RepD.more hn d r⟩⟩
/-- a list in the making -/
theorem RS.ban (R : RS C K H ν μ g) (hn : H D₀ = none) : RS C K (upd H D₀ (.lst xs)) (D₀ :: ν) μ g := by
  obtain ⟨R', ex⟩ := R.new (o := .lst xs) hn
  refine ⟨R.len, R.nd, fun a ha => ?_, fun a ha => ?_, fun n u a e1 e2 => ?_, R'.tb⟩
  · rcases List.mem_cons.mp ha with z | z
    · subst z
      intro q
      obtain ⟨u, e, _⟩ := R.inμ q
      rw [hn] at e; cases e
    · exact R.dj a z
  · rcases List.mem_cons.mp ha with z | z
    · subst z; exact ⟨xs, upd_same⟩
    · exact R'.nv a z
  · have q := R.ob n u a e1 e2
    obtain ⟨w, hw, _⟩ := q.ch
    exact (q.more hn).mono ex.kp' (upd_ne fun z => by rw [z, hn] at hw; cases hw)
theorem RS.unban (R : RS C K H (D₀ :: ν) μ g) : RS C K H ν μ g :=
  ⟨R.len, R.nd, fun a ha => R.dj a (List.mem_cons_of_mem _ ha), fun a ha => R.nv a (List.mem_cons_of_mem _ ha), fun n u a e1 e2 => (R.ob n u a e1 e2).less, R.tb⟩
mutual
/-- a list that was in the making may change from now on -/
theorem RepD.shift : ∀ (d : D) {v : V}, RepD K H (D₀ :: ν) μ d v → RepD K H ν (μ ++ [D₀]) d v
  | .non, v, h => h
  | .bl b, v, h => h
  | .int i, v, h => h
  | .str s, v, h => h
  | .tup ds, v, h => by
    unfold RepD at h ⊢
    obtain ⟨a, xs, e, h1, h2⟩ := h
    exact ⟨a, xs, e, h1, RepL.shift ds h2⟩
  | .lst ds, v, h => by
    unfold RepD at h ⊢
    obtain ⟨a, xs, e, h1, h2, h3, h4⟩ := h
    refine ⟨a, xs, e, h1, fun z => ?_, fun z => h3 (List.mem_cons_of_mem _ z), RepL.shift ds h4⟩
    rcases List.mem_append.mp z with z | z
    · exact h2 z
    · have : a = D₀ := by simpa using z
      exact h3 (by rw [this]; exact List.mem_cons_self)
  | .scr ns, v, h => h
  | .loc n, v, h => by
    unfold RepD at h ⊢
    obtain ⟨a, e, h⟩ := h
    exact ⟨a, e, by rw [List.getElem?_append_left (List.getElem?_eq_some_iff.mp h).1]; exact h⟩
theorem RepL.shift : ∀ (ds : List D) {vs : List V}, RepL K H (D₀ :: ν) μ ds vs → RepL K H ν (μ ++ [D₀]) ds vs
  | [], vs, h => h
  | d :: ds, vs, h => by
    unfold RepL at h ⊢
    obtain ⟨v, r, e, h1, h2⟩ := h
    exact ⟨v, r, e, RepD.shift d h1, RepL.shift ds h2⟩
end
theorem RepKV.shift {κ : Type} : ∀ {kvs : List (κ × D)} {xs : List (κ × V)}, RepKV K H (D₀ :: ν) μ kvs xs → RepKV K H ν (μ ++ [D₀]) kvs xs
  | [], xs, h => h
  | (q, d) :: r, xs, h => by
    unfold RepKV at h ⊢
    obtain ⟨v, r', e, h1, h2⟩ := h
    exact ⟨v, r', e, RepD.shift d h1, RepKV.shift h2⟩
theorem RepO.shift {o : O} (h : RepO C K H (D₀ :: ν) μ o a) : RepO C K H ν (μ ++ [D₀]) o a := by
  cases o with
  | lst ds => obtain ⟨xs, q, r⟩ := h; exact ⟨xs, q, RepL.shift _ r⟩
  | dic ds => obtain ⟨xs, q, r⟩ := h; exact ⟨xs, q, RepKV.shift r⟩
  | dit ds => obtain ⟨xs, q, r⟩ := h; exact ⟨xs, q, RepKV.shift r⟩
  | ins c ds => obtain ⟨dx, xs, q, r⟩ := h; exact ⟨dx, xs, q, RepKV.shift r⟩
theorem RS.shift (R : RS C K H (D₀ :: ν) μ g) (nn : D₀ ∉ ν) (hD : H D₀ = some (.lst xs)) (r : RepL K H (D₀ :: ν) μ ds xs) : RS C K H ν (μ ++ [D₀]) (g ++ [O.lst ds]) := by
  have nμ : D₀ ∉ μ := R.dj D₀ List.mem_cons_self
  refine ⟨by simp [R.len], List.nodup_append.mpr ⟨R.nd, by simp, fun a ha b hb z => ?_⟩, fun a ha z => ?_, fun a ha => R.nv a (List.mem_cons_of_mem _ ha), fun n u a e1 e2 => ?_, R.tb⟩
  · have : b = D₀ := by simpa using hb
    subst this; subst z; exact nμ ha
  · rcases List.mem_append.mp z with z | z
    · exact R.dj a (List.mem_cons_of_mem _ ha) z
    · have : a = D₀ := by simpa using z
      subst this; exact nn ha
  · by_cases hn : n < g.length
    · rw [List.getElem?_append_left hn] at e1
      rw [List.getElem?_append_left (by rw [R.len]; exact hn)] at e2
      exact (R.ob n u a e1 e2).shift
    · rw [List.getElem?_append_right (by omega)] at e1
      rw [List.getElem?_append_right (by rw [R.len]; omega), R.len] at e2
      cases hj : n - g.length with
      | zero =>
        rw [hj] at e1 e2
        simp at e1 e2
        subst e1; subst e2
        exact ⟨xs, hD, RepL.shift _ r⟩
      | succ j => rw [hj] at e1; simp at e1
theorem kp_bwrite (h : H D₀ = some (.lst xs)) : Kp (D₀ :: ν) H μ (upd H D₀ (.lst ys)) μ := ⟨⟨[], by simp, by simp⟩, fun b o e c _ => by
  rw [upd_ne fun z => ?_]; exact e
  rcases c with c | c
  · exact c.2 (by rw [z]; exact List.mem_cons_self)
  · rw [z, h] at e; cases e
    rcases c with ⟨_, c⟩ | ⟨_, _, c⟩ <;> cases c⟩
theorem RS.bwrite (R : RS C K H (D₀ :: ν) μ g) (h : H D₀ = some (.lst xs)) : RS C K (upd H D₀ (.lst ys)) (D₀ :: ν) μ g := by
  have k : Kp (D₀ :: ν) H μ (upd H D₀ (.lst ys)) μ := kp_bwrite h
  refine ⟨R.len, R.nd, R.dj, fun a ha => ?_, fun n u a e1 e2 => ?_, tabs_of R.tb fun b u e nc => ?_⟩
  · by_cases z : a = D₀
    · subst z; exact ⟨ys, upd_same⟩
    · rw [upd_ne z]; exact R.nv a ha
  · exact (R.ob n u a e1 e2).mono k (upd_ne fun z => R.dj D₀ List.mem_cons_self (by rw [← z]; exact List.mem_of_getElem? e2))
  · rw [upd_ne fun z => by rw [z, h] at e; cases e; exact nc trivial]; exact e
end
section
variable {C : Cfg} {X : Cx} {W : WX} {e a b c o tg elt iter : Expr} {es rest ifs : List Expr} {f fa fb fc fe : FE} {fes : FA} {ft : FT} {pos p : Pos} {fi : FI} {fg : FG}
def DTs (C : Cfg) (X : Cx) (W : WX) (ifs : List Expr) (f : FT) : Prop := PTs X ifs (tT C X.K W f)
theorem PTs.imp {X : Cx} {e : List Expr} {t t' : TT} (h : PTs X e t) (i : ∀ σ H Q, t' σ H Q → t σ H Q) : PTs X e t' := ⟨fun pins s σ H Q I q => h.run pins s σ H Q I (i σ H Q q)⟩
def fYes : FT := fun _ g => .ok true g
theorem dts_nil : DTs C X W [] fYes := PTs.imp pts_nil fun σ H Q ⟨ρ, ν, μ, g, hE, hR, hP⟩ => hP H μ .refl hR
theorem dts_one (h : DT C X W c ft) : DTs C X W [c] ft := pts_one h
/-- the list of what a comprehension makes of the items -/
def lcD (vs : List Nat) (fg : FG) (ft : FT) (fe : FE) (ρ : Env') : List D → G → Res (List D)
  | [], g => .ok [] g
  | d :: r, g => match fg d (wipeD ρ vs) g with
    | .ok ρ1 g1 => match ft ρ1 g1 with
      | .ok true g2 => match fe ρ1 g2 with
        | .ok y g3 => (lcD vs fg ft fe ρ r g3).bind fun ys g4 => .ok (y :: ys) g4
        | _ => .stuck
      | .ok false g2 => lcD vs fg ft fe ρ r g2
      | _ => .stuck
    | _ => .stuck
def fLcK (k : List D → G → Res D) (vs : List Nat) (fi : FI) (fg : FG) (ft : FT) (fe : FE) : FE := fun ρ g => (fi ρ g).bind fun items g1 => if items.length ≤ sizeLine then (lcD vs fg ft fe ρ items g1).bind k else .stuck
/-- a comprehension: a list that stands still; a list that may change -/
def fLc := fLcK fun ys g => .ok (.lst ys) g
def fLcM := fLcK fun ys g => .ok (.loc g.length) (g ++ [O.lst ys])
def LcEnd (k : List D → G → Res D) : Prop := ∀ (C : Cfg) (K : PySem.W.Frag) (W : WX) (σ : St) (H0 H : Hp) (ν μ0 μ : List Addr) (g : G) (D₀ : Addr) (acc : List D) (xs : List V) (Q : VK),
  H0 D₀ = none → RS C K H (D₀ :: ν) μ g → Ext H0 μ0 H μ → D₀ ∉ ν → H D₀ = some (.lst xs) → RepL K H (D₀ :: ν) μ acc xs → Post C K W σ H0 ν μ0 (k acc g) Q → Q (.ref D₀) H
theorem lcEnd : LcEnd fun ys g => .ok (.lst ys) g := fun C K W σ H0 H ν μ0 μ g D₀ acc xs Q h0 R ex nn hD r hP =>
  hP _ H μ ex R.unban ⟨D₀, xs, rfl, hD, R.dj D₀ List.mem_cons_self, nn, RepL.less _ r⟩
theorem lcEndM : LcEnd fun ys g => .ok (.loc g.length) (g ++ [O.lst ys]) := fun C K W σ H0 H ν μ0 μ g D₀ acc xs Q h0 R ex nn hD r hP => by
  have nμ := R.dj D₀ List.mem_cons_self
  obtain ⟨more, em, hm⟩ := ex.mu
  refine hP _ H (μ ++ [D₀]) ⟨⟨more ++ [D₀], by rw [em, List.append_assoc], fun a ha => ?_⟩, ex.kp, ex.dm⟩ (R.shift nn hD r) ⟨D₀, rfl, ?_⟩
  · rcases List.mem_append.mp ha with z | z
    · exact hm a z
    · have : a = D₀ := by simpa using z
      rw [this]; exact free_none h0
  · rw [← R.len, List.getElem?_append_right (Nat.le_refl _)]
    simp
theorem lc_of {K : PySem.W.Frag} {k : List D → G → Res D} {ts vs : List Nat} {σ : St} {H : Hp} {Q : VK} (hk : LcEnd k) (hts : ∀ i ∈ ts, i ∈ vs) (h : tD C K W (fLcK k vs fi fg ft fe) σ H Q) :
    tLc (tI C K W fi) (tGt C K W0 ts fg) (tT C K W0 ft) (tD C K W0 fe) vs σ H Q := by
  obtain ⟨ρ, ν, μ, g, hE, hR, hP⟩ := h
  refine ⟨ρ, ν, μ, g, hE, hR, ?_⟩
  unfold fLcK at hP
  cases hf : fi ρ g with
  | err c g1 => simp only [hf, Res.bind] at hP; exact hP
  | stuck => simp only [hf, Res.bind] at hP; exact hP
  | ok items g1 =>
    simp only [hf, Res.bind] at hP
    by_cases hsz : items.length ≤ sizeLine
    case neg => rw [if_neg hsz] at hP; exact hP.elim
    rw [if_pos hsz] at hP
    intro J H1 μ1 ex1 R1 hY D₀ hD
    have hP1 := hP.ext ex1
    have hE1 := (hE.mono ex1.kp').more hD
    have nν : D₀ ∉ ν := fun z => by
      obtain ⟨xs, e⟩ := R1.nv D₀ z
      rw [hD] at e; cases e
    obtain ⟨_, exD⟩ := R1.new (o := .lst []) hD
    refine ⟨fun i m H => i ≤ items.length ∧ m = items.length - i ∧ ∃ μ g acc xs, RS C K H (D₀ :: ν) μ g ∧ Ext H1 μ1 H μ ∧ H D₀ = some (.lst xs) ∧ RepL K H (D₀ :: ν) μ acc xs ∧ acc.length ≤ i ∧
        Post C K W σ H1 ν μ1 ((lcD vs fg ft fe ρ (items.drop i) g).bind fun ys g' => k (acc ++ ys) g') Q,
      ⟨items.length, Nat.zero_le _, rfl, μ1, g1, [], [], R1.ban hD, exD, upd_same, rfl, Nat.le_refl _, by
        rw [List.drop_zero]
        unfold Res.bind
        cases hq : lcD vs fg ft fe ρ items g1 <;> simp only [hq] at hP1 ⊢ <;> exact hP1⟩, ?_⟩
    rintro i m H2 ⟨hi1, rfl, μ2, g2, acc, xs, R2, ex2, hD2, rA, hA, hP2⟩
    obtain ⟨y1, y2⟩ := hY i H2 ex2.kp
    by_cases hlt : i < items.length
    · right
      obtain ⟨hgo, hyl⟩ := y1 items[i] (by simp [hlt])
      rw [List.drop_eq_getElem_cons hlt] at hP2
      refine ⟨hgo, fun H' => ∃ μ g acc xs, RS C K H' (D₀ :: ν) μ g ∧ Ext H1 μ1 H' μ ∧ H' D₀ = some (.lst xs) ∧ RepL K H' (D₀ :: ν) μ acc xs ∧ acc.length ≤ i + 1 ∧
          Post C K W σ H1 ν μ1 ((lcD vs fg ft fe ρ (items.drop (i + 1)) g).bind fun ys g' => k (acc ++ ys) g') Q,
        fun H' ⟨μ', g', acc', xs', b1, b2, b3, b4, b5, b6⟩ => ⟨items.length - (i + 1), by omega, hlt, rfl, μ', g', acc', xs', b1, b2, b3, b4, b5, b6⟩, fun x H' hy => ?_⟩
      have hz := hyl x H' hy
      obtain ⟨e1, R3, r3⟩ := came ex2 R2 (d := items[i]) (x := x) (hz.imp (fun z => ⟨z.1, RepD.more hD _ z.2⟩) fun ⟨T, ps, dps, z1, z2, z3, z4, z5⟩ => ⟨T, ps, dps, z1, z2, z3, z4, RepL.more hD _ z5⟩)
      have ex3 := ex2.trans e1
      have nμ2 : D₀ ∉ μ2 := R2.dj D₀ List.mem_cons_self
      have hE3 := (hE1.mono ex3.kp').wipe vs
      refine ⟨items[i], wipeD ρ vs, D₀ :: ν, μ2, g2, hE3, R3, r3, ?_⟩
      unfold lcD at hP2
      cases hfg : fg items[i] (wipeD ρ vs) g2 with
      | err c g4 => simp only [hfg, Res.bind] at hP2; exact hP2.elim
      | stuck => simp only [hfg, Res.bind] at hP2; exact hP2
      | ok ρ4 g4 =>
        simp only [hfg] at hP2 ⊢
        intro σ4 H4 μ4 ex4 R4 hE4 w4
        refine ⟨(w4 vs hts).trans (wipe_idem vs), ρ4, D₀ :: ν, μ4, g4, hE4, R4, ?_⟩
        have nμ4 : D₀ ∉ μ4 := R4.dj D₀ List.mem_cons_self
        have hD3 := e1.kp _ _ hD2 (.inl nμ2) ntb_lst
        have hD4 := ex4.kp _ _ hD3 (.inl nμ2) ntb_lst
        cases hft : ft ρ4 g4 with
        | err c g5 => simp only [hft, Res.bind] at hP2; exact hP2.elim
        | stuck => simp only [hft, Res.bind] at hP2; exact hP2
        | ok bb g5 =>
          intro H5 μ5 ex5 R5
          have hD5 := ex5.kp _ _ hD4 (.inl nμ4) ntb_lst
          have ex5' := (ex3.trans ex4).trans ex5
          have rA5 := RepL.mono ((e1.trans ex4).trans ex5).kp' _ rA
          cases bb with
          | false =>
            simp only [hft] at hP2
            rw [if_neg (by decide)]
            exact ⟨μ5, g5, acc, xs, R5, ex5', hD5, rA5, Nat.le_succ_of_le hA, hP2⟩
          | true =>
            simp only [hft] at hP2
            rw [if_pos rfl]
            refine ⟨ρ4, D₀ :: ν, μ5, g5, hE4.mono ex5.kp', R5, ?_⟩
            cases hfe : fe ρ4 g5 with
            | err c g6 => simp only [hfe, Res.bind] at hP2; exact hP2.elim
            | stuck => simp only [hfe, Res.bind] at hP2; exact hP2
            | ok y g6 =>
              simp only [hfe] at hP2
              intro yv H6 μ6 ex6 R6 r6
              have nμ5 : D₀ ∉ μ5 := R5.dj D₀ List.mem_cons_self
              have hD6 := ex6.kp _ _ hD5 (.inl nμ5) ntb_lst
              have rA6 := RepL.mono ex6.kp' _ rA5
              have ex6' := ex5'.trans ex6
              have kp : Kp (D₀ :: ν) H6 μ6 (upd H6 D₀ (.lst (xs ++ [yv]))) μ6 := kp_bwrite hD6
              have lA := RepL.length rA6
              refine ⟨xs, hD6, by omega, μ6, g6, acc ++ [y], xs ++ [yv], R6.bwrite hD6, ?_, upd_same, RepL.mono kp _ (RepL.snoc r6 rA6), by simp; omega, ?_⟩
              · refine ⟨ex6'.mu, fun b o e c n => ?_, fun b o e n => ?_⟩
                · rw [upd_ne fun z => by rw [z, hD] at e; cases e]
                  exact ex6'.kp b o e c n
                · obtain ⟨o', e1, e2⟩ := ex6'.dm b o e n
                  exact ⟨o', by rw [upd_ne fun z => by rw [z, hD] at e; cases e]; exact e1, e2⟩
              · cases hq : lcD vs fg ft fe ρ (items.drop (i + 1)) g6 with
                | ok ys g7 =>
                  simp only [hq, Res.bind] at hP2 ⊢
                  rw [List.append_assoc]; exact hP2
                | err c g7 => simp only [hq, Res.bind] at hP2 ⊢; exact hP2
                | stuck => simp only [hq, Res.bind] at hP2 ⊢; exact hP2
    · left
      refine ⟨y2 (by omega), ?_⟩
      rw [List.drop_eq_nil_of_le (by omega)] at hP2
      unfold lcD at hP2
      simp only [Res.bind, List.append_nil] at hP2
      exact hk C K W σ H1 H2 ν μ1 μ2 g2 D₀ acc xs Q hD R2 ex2 nν hD2 rA hP2
section
variable {scope : Scope} {own : List (Str × Nat)} {ts : List Nat}
theorem dp_lcK {k : List D → G → Res D} (hk : LcEnd k) (hc : X.calm = true) (hN : X.N.Nodup) (hi : DI C X W tg iter fi) (ok : BlkOk X.N X.env.scope scope own) (hts : ∀ i ∈ ts, i ∈ own.map (·.2))
    (hg : ∀ (s : Shared) (H : Hp) (A : Addr) (cl : List (Str × Addr)) (fp : List Addr), DG C (X.blk s H scope (compEnvC scope cl A X.env) fp) W0 tg ts fg)
    (ht : ∀ (s : Shared) (H : Hp) (A : Addr) (cl : List (Str × Addr)) (fp : List Addr), DTs C (X.blk s H scope (compEnvC scope cl A X.env) fp) W0 ifs ft)
    (he : ∀ (s : Shared) (H : Hp) (A : Addr) (cl : List (Str × Addr)) (fp : List Addr), DP C (X.blk s H scope (compEnvC scope cl A X.env) fp) W0 elt fe)
    (hs : ∀ x, foldedSetIterable iter X.env x = pure x := by intro _; rfl) : DP C X W (.ListComp elt [⟨tg, iter, ifs, 0⟩] scope pos) (fLcK k (own.map (·.2)) fi fg ft fe) :=
  PE.imp (pe_lc (g := tGt C X.K W0 ts fg) (tt := tT C X.K W0 ft) (te := tD C X.K W0 fe) hc hN hi ok hg ht he hs) fun σ H Q h => lc_of hk hts h
/-- name = [..] on one line, the name a local -/
theorem ds_lcK {k : List D → G → Res D} {i : Nat} {y : Str} {py spos : Pos} (hk : LcEnd k) (hc : X.calm = true) (hN : X.N.Nodup) (hy : X.N[i]? = some y) (hyl : X.env.scope.names.lookup y = some .local)
    (hsw : swapsWith (.ListComp elt [⟨tg, iter, ifs, 0⟩] scope pos) (some (.Name y py)) spos.line X.env = pure true) (hi : DI C X W tg iter fi) (ok : BlkOk X.N X.env.scope scope own) (hts : ∀ i ∈ ts, i ∈ own.map (·.2))
    (hg : ∀ (s : Shared) (H : Hp) (A : Addr) (cl : List (Str × Addr)) (fp : List Addr), DG C (X.blk s H scope (compEnvC scope cl A X.env) fp) W0 tg ts fg)
    (ht : ∀ (s : Shared) (H : Hp) (A : Addr) (cl : List (Str × Addr)) (fp : List Addr), DTs C (X.blk s H scope (compEnvC scope cl A X.env) fp) W0 ifs ft)
    (he : ∀ (s : Shared) (H : Hp) (A : Addr) (cl : List (Str × Addr)) (fp : List Addr), DP C (X.blk s H scope (compEnvC scope cl A X.env) fp) W0 elt fe)
    (hs : ∀ x, foldedSetIterable iter X.env x = pure x := by intro _; rfl) : DS C X W (.Assign [.Name y py] (.ListComp elt [⟨tg, iter, ifs, 0⟩] scope pos) spos) (sAsg (fLcK k (own.map (·.2)) fi fg ft fe) (gNm i)) :=
  PS.imp (ps_setLc (g := tGt C X.K W0 ts fg) (tt := tT C X.K W0 ft) (te := tD C X.K W0 fe) hc hN hy hyl hsw hi ok hg ht he hs) fun E σ H h => by
    have h2 : tD C X.K W (fLcK k (own.map (·.2)) fi fg ft fe) σ H fun x H1 => gName i x σ H1 E.nx :=
      bindS (k := fun d ρ g1 => ((gNm i) d ρ g1).toS ρ fun ρ' g2 => .nx ρ' g2) h fun ρ ν μ g d v H1 hE hR r hP => hP _ H1 μ .refl hR (hE.set r i)
    exact lc_of hk hts h2
end
end
end Dl
end
section
set_option Elab.async false
set_option linter.all false
set_option maxRecDepth 100000
namespace Dl
open PySem L2
open PyProof.Rows (envOfC)
abbrev FN := List D → G → Res D
/-- a def's promise: it hands back what f says -/
def spD (C : Cfg) (K : PySem.W.Frag) (n : Nat) (f : FN) : Sp := fun vs H Q E => ∃ ds ν μ g, vs.length = n ∧ RepL K H ν μ ds vs ∧ RS C K H ν μ g ∧ Post C K (fun cls d _ H => E cls d H) [] H ν μ (f ds g) Q
/-- a def's body at its arguments -/
def runB (m : Nat) (fb : FS) : FN := fun ds g => match fb (ds.map some ++ List.replicate (m - ds.length) none) g with
  | .nx _ g' => .ok .non g'
  | .rt d g' => .ok d g'
  | .err c _ g' => .err c g'
  | _ => .stuck
section
variable {C : Cfg} {P : Program} {w : World} {K : PySem.W.Frag} {mg : Str → Option Value} {base : Heap}
theorem repE_start {H : Hp} {ν μ : List Addr} {ds : List D} {vs : List V} {N : List Str} (r : RepL K H ν μ ds vs) : RepE K H ν μ (ds.map some ++ List.replicate (N.length - ds.length) none) (L2.start N vs) := by
  have hl := RepL.length r
  refine ⟨by unfold L2.start; simp [hl], fun i d e => ?_⟩
  unfold L2.start
  by_cases hi : i < ds.length
  · rw [List.getElem?_append_left (by simpa using hi), List.getElem?_map] at e
    rw [List.getElem?_append_left (by simpa [← hl] using hi), List.getElem?_map]
    cases hd : ds[i]? with
    | none => rw [hd] at e; cases e
    | some d' =>
      rw [hd] at e; cases e
      obtain ⟨v, hv, rv⟩ := RepL.get r hd
      exact ⟨v, by rw [hv]; rfl, rv⟩
  · rw [List.getElem?_append_right (by simpa using hi)] at e
    rw [List.getElem?_replicate] at e
    split at e <;> cases e
/-- THE RULE for a def by its body -/
theorem fn_body {x qual : Str} {st : Stmt} {f : Addr} {fd : FuncData} {N ps : List Str} {k : Nat} {fb : FS} (F : Fun K x qual st f fd) (S : FnScope N ps (defScope st))
    (hb : ∀ (cdv : Value) (A : Around) (outer : List Env) (s : Shared) (H : Hp) (E : XK), Room k (A.deeper (envOfC qual (defScope st) s.heap.objs.size f cdv)) →
      Takes (cxOf (L2.CX P w) P w K mg base N qual (defScope st) f cdv A outer s H E) (fun cls d _ H => E cls d H) →
      PassesOwn (model P w) (A.deeper (envOfC qual (defScope st) s.heap.objs.size f cdv)) (envOfC qual (defScope st) s.heap.objs.size f cdv) (cxOf (L2.CX P w) P w K mg base N qual (defScope st) f cdv A outer s H E).xe →
      DB C (cxOf (L2.CX P w) P w K mg base N qual (defScope st) f cdv A outer s H E) (fun cls d _ H => E cls d H) (defBody st) fb) :
    FnOk P w K mg base (L2.CX P w) (k + 1) f fd ps (spD C K ps.length (runB N.length fb)) := by
  refine F.okX S (fun vs H Q E ⟨_, _, _, _, h, _⟩ => h) fun cdv A outer s H vs Q E hr h => ?_
  obtain ⟨ds, ν, μ, g, hl, r, R, hP⟩ := h
  refine ⟨_, hb cdv A outer s H E hr (takes_of rfl rfl rfl rfl) (passes_of rfl), _, ν, μ, g, repE_start r, R, ?_⟩
  unfold runB at hP
  cases hf : fb (ds.map some ++ List.replicate (N.length - ds.length) none) g with
  | nx ρ g' => simp only [hf] at hP; exact fun σ' H' μ' ex R' hE' => hP .non H' μ' ex R' rNon
  | rt d g' => simp only [hf] at hP; exact fun v H' μ' ex R' r' => hP v H' μ' ex R' r'
  | bk ρ g' => simp only [hf] at hP; exact hP.elim
  | ct ρ g' => simp only [hf] at hP; exact hP.elim
  | err c ρ g' => simp only [hf] at hP; exact fun σ' H' μ' ex R' hE' => hP H' μ' ex R'
  | stuck => simp only [hf] at hP; exact hP
end
section
variable {C : Cfg} {X : Cx} {W : WX} {e a b c o tg elt iter : Expr} {es rest ifs : List Expr} {f fa fb fc fe : FE} {fes : FA} {ft : FT} {pos p : Pos} {fi : FI} {fg : FG}
def fCall (fn : FN) (fes : FA) : FE := fun ρ g => (fes ρ g).bind fun ds g1 => fn ds g1
theorem post_w {K : PySem.W.Frag} {σ : St} {H : Hp} {Q : VK} {ν μ : List Addr} {r : Res D} (h : Post C K W σ H ν μ r Q) : Post C K (fun cls d _ H => W cls d σ H) [] H ν μ r Q := by
  cases r with
  | ok d g => exact h
  | err c g => exact h
  | stuck => exact h
/-- f(a, ..) of a def -/
theorem dp_call {k : Nat} {fa' : Addr} {fd : FuncData} {ps : List Str} {x : Str} {fn : FN} {n : Nat} (F : FnOk X.prog X.w X.K X.mg X.base (L2.CX X.prog X.w) k fa' fd ps (spD C X.K n fn)) (hn : n = es.length + 1) (hr : Room k X.A) (hg : Gl X x) (hm : X.mg x = some (.ref fa'))
    (hk : PySem.W.keepIn X.K (.ref fa') = true) (hb : Binds X.K fd ps []) (tk : Takes X W) (hl : ∀ ρ g ds g1, fes ρ g = .ok ds g1 → ds.length = n)
    (ha : DA C X W (e :: es) fes) (hdb : (x == ("__debug__" : Str)) = false := by decide) (he : starEach (e :: es) X.env = (false, eval e X.env) :: starEach es X.env := by rfl) (hpl : (backTo pos (starEach es X.env)).any (·.1) = false := by rfl) :
    DP C X W (.Call (.Name x p) (e :: es) [] pos) (fCall fn fes) :=
  PE.imp (pe_callS (E := WE W) F hr hg hm hk hb (passAt tk) ha hdb he hpl) fun σ H Q h => by
    obtain ⟨ρ, ν, μ, g, hE, hR, hP⟩ := h
    refine ⟨ρ, ν, μ, g, hE, hR, ?_⟩
    unfold fCall at hP
    cases hf : fes ρ g with
    | ok ds g1 =>
      simp only [hf, Res.bind] at hP
      exact fun vs H' μ' ex R' r => ⟨ds, ν, μ', g1, by rw [← RepL.length r]; exact hl _ _ _ _ hf, r, R', post_w (hP.ext ex)⟩
    | err c g1 => simp only [hf, Res.bind] at hP; exact hP
    | stuck => simp only [hf, Res.bind] at hP; exact hP
/-- f() -/
def fCall0 (fn : FN) : FE := fun _ g => fn [] g
theorem dp_call0 {k : Nat} {fa' : Addr} {fd : FuncData} {ps : List Str} {x : Str} {fn : FN} (F : FnOk X.prog X.w X.K X.mg X.base (L2.CX X.prog X.w) k fa' fd ps (spD C X.K 0 fn)) (hr : Room k X.A) (hg : Gl X x) (hm : X.mg x = some (.ref fa'))
    (hk : PySem.W.keepIn X.K (.ref fa') = true) (hb : Binds X.K fd ps []) (tk : Takes X W) (hdb : (x == ("__debug__" : Str)) = false := by decide) : DP C X W (.Call (.Name x p) [] [] pos) (fCall0 fn) := by
  refine ⟨fun pins s σ H Q I h => ?_⟩
  obtain ⟨ρ, ν, μ, g, hE, hR, hP⟩ := h
  refine wpAny_Call_Name_kw (ld_glob I hg hm ?_ hdb)
  exact PySem.W.callWith_K0 I.kIn hk <| run_fnS (E := WE W) F hr hb (passAt tk σ) I .nil ⟨[], ν, μ, g, rfl, rfl, hR, post_w hP⟩
theorem fes_len_nil : ∀ ρ g ds g1, fNil ρ g = .ok ds g1 → ds.length = 0 := fun ρ g ds g1 h => by
  unfold fNil at h; cases h; rfl
theorem fes_len_cons {fr : FA} {n : Nat} (h : ∀ ρ g ds g1, fr ρ g = .ok ds g1 → ds.length = n) : ∀ ρ g ds g1, fCons fa fr ρ g = .ok ds g1 → ds.length = n + 1 := fun ρ g ds g1 e => by
  unfold fCons at e
  cases hf : fa ρ g with
  | err c g => simp [hf, Res.bind] at e
  | stuck => simp [hf, Res.bind] at e
  | ok x g2 =>
    cases hr : fr ρ g2 with
    | err c g => simp [hf, hr, Res.bind] at e
    | stuck => simp [hf, hr, Res.bind] at e
    | ok r g3 =>
      simp only [hf, hr, Res.bind] at e
      cases e
      simp [h _ _ _ _ hr]

/-! ### built-ins by values -/
abbrev FB := List D → G → Res D
def NoErrB (o : FB) : Prop := ∀ xs g c g', o xs g ≠ .err c g'
def rB (C : Cfg) (K : PySem.W.Frag) (o : FB) : List V → Hp → VK → Prop := fun vs H Q => ∃ ds ν μ g, RS C K H ν μ g ∧ RepL K H ν μ ds vs ∧ ∀ W σ, Post C K W σ H ν μ (o ds g) Q
def fBi (o : FB) (fes : FA) : FE := fun ρ g => (fes ρ g).bind fun ds g1 => o ds g1
theorem tBi {K : PySem.W.Frag} {o : FB} {σ : St} {H : Hp} {Q : VK} (no : NoErrB o) (h : tD C K W (fBi o fes) σ H Q) : tCB (rB C K o) (tA C K W fes) σ H Q :=
  bindDA (k := fun ds _ g1 => o ds g1) h fun ρ ν μ g ds vs H1 hE hR r hP => ⟨ds, ν, μ, g, hR, r, fun W' σ' => post_any (fun _ _ => no _ _ _ _) hP W' σ'⟩
theorem dp_bi {id : String} {x : Str} {ob : FB} (no : NoErrB ob) (hc : CallR X (.builtin id) (rB C X.K ob)) (hg : Gl X x) (hm : X.mg x = none) (hv : bootBuiltins x = some (.builtin id)) (ha : DA C X W (e :: es) fes) (hn : x ≠ "__name__" := by decide) (hdb : (x == ("__debug__" : Str)) = false := by decide)
    (he : starEach (e :: es) X.env = (false, eval e X.env) :: starEach es X.env := by rfl) (hpl : (backTo pos (starEach es X.env)).any (·.1) = false := by rfl) : DP C X W (.Call (.Name x p) (e :: es) [] pos) (fBi ob fes) :=
  PE.imp (pe_callB hc hg hm hv ha hn hdb he hpl) fun σ H Q h => tBi no h
theorem dp_bt {T : String} {x : Str} {ob : FB} (no : NoErrB ob) (hc : CallR X (.type T) (rB C X.K ob)) (hg : Gl X x) (hm : X.mg x = none) (hv : bootBuiltins x = some (.type T)) (ha : DA C X W (e :: es) fes) (hn : x ≠ "__name__" := by decide) (hdb : (x == ("__debug__" : Str)) = false := by decide)
    (he : starEach (e :: es) X.env = (false, eval e X.env) :: starEach es X.env := by rfl) (hpl : (backTo pos (starEach es X.env)).any (·.1) = false := by rfl) : DP C X W (.Call (.Name x p) (e :: es) [] pos) (fBi ob fes) :=
  PE.imp (pe_callTy hc hg hm hv ha hn hdb he hpl) fun σ H Q h => tBi no h
theorem rL1 {K : PySem.W.Frag} {H : Hp} {ν μ : List Addr} {d : D} {vs : List V} (r : RepL K H ν μ [d] vs) : ∃ v, vs = [v] ∧ RepD K H ν μ d v := by
  unfold RepL RepL at r
  obtain ⟨v, _, rfl, r1, rfl⟩ := r
  exact ⟨v, rfl, r1⟩
theorem rL2 {K : PySem.W.Frag} {H : Hp} {ν μ : List Addr} {d e : D} {vs : List V} (r : RepL K H ν μ [d, e] vs) : ∃ v w, vs = [v, w] ∧ RepD K H ν μ d v ∧ RepD K H ν μ e w := by
  unfold RepL RepL RepL at r
  obtain ⟨v, _, rfl, r1, w, _, rfl, r2, rfl⟩ := r
  exact ⟨v, w, rfl, r1, r2⟩
theorem noerrB {o : FB} (h : ∀ xs g c g', o xs g = .err c g' → False) : NoErrB o := fun xs g c g' e => h xs g c g' e
def bAbs : FB
  | [.int i], g => .ok (.int (if i < 0 then -i else i)) g
  | _, _ => .stuck
theorem bAbs_n : NoErrB bAbs := noerrB fun xs g c g' e => by unfold bAbs at e; split at e <;> cases e
theorem bAbs_ok : CallR X (.builtin "abs") (rB C X.K bAbs) := by
  intro pins s σ H vs us Q I rv h
  obtain ⟨ds, ν, μ, g, R, r, hP⟩ := h
  have hP := hP (fun _ _ _ _ => False) σ
  unfold bAbs at hP
  split at hP
  · obtain ⟨v, rfl, r1⟩ := rL1 r
    obtain rfl : v = .int _ := r1
    exact call_abs pins s σ H _ us Q I rv ⟨_, rfl, hP.here R (rInt _)⟩
  · exact hP.elim
/-- the ints of data -/
def intsOf : List D → Option (List Int)
  | [] => some []
  | .int i :: r => (intsOf r).map (i :: ·)
  | _ :: _ => none
theorem intsOf_rd {K : PySem.W.Frag} {H : Hp} {ν μ : List Addr} : ∀ {ds : List D} {xs : List V} {ns : List Int}, RepL K H ν μ ds xs → intsOf ds = some ns → xs = ns.map V.int
  | [], xs, ns, r, e => by unfold RepL at r; subst r; unfold intsOf at e; cases e; rfl
  | d :: ds, xs, ns, r, e => by
    unfold RepL at r
    obtain ⟨v, q, rfl, r1, r2⟩ := r
    unfold intsOf at e
    split at e
    · rename_i h; cases h
    · rename_i i r' h
      cases h
      cases hq : intsOf ds with
      | none => rw [hq] at e; cases e
      | some ms =>
        rw [hq] at e; cases e
        obtain rfl : v = .int _ := r1
        rw [intsOf_rd r2 hq]; rfl
    · cases e
theorem intsOf_map : ∀ ns : List Int, intsOf (ns.map D.int) = some ns
  | [] => rfl
  | n :: ns => by simp [intsOf, intsOf_map ns]
def maxL : List Int → Int
  | [] => 0
  | [a] => a
  | a :: r => max a (maxL r)
def minL : List Int → Int
  | [] => 0
  | [a] => a
  | a :: r => min a (minL r)
theorem maxL_is : ∀ {ns : List Int} {m : Int}, m ∈ ns → (∀ y, y ∈ ns → y ≤ m) → maxL ns = m
  | [a], m, h, _ => (List.mem_singleton.mp h).symm
  | a :: b :: r, m, h, hm => by
    have h1 := hm a (by simp)
    show max a (maxL (b :: r)) = m
    rcases List.mem_cons.mp h with z | z
    · subst z
      have hx : ∀ {ns : List Int}, ns ≠ [] → maxL ns ∈ ns := by
        intro ns
        induction ns with
        | nil => intro h; exact absurd rfl h
        | cons c cs ih =>
          intro _
          cases cs with
          | nil => simp [maxL]
          | cons d ds =>
            show max c (maxL (d :: ds)) ∈ _
            rcases Int.le_total c (maxL (d :: ds)) with q | q
            · rw [Int.max_eq_right q]; exact List.mem_cons_of_mem _ (ih (by simp))
            · rw [Int.max_eq_left q]; simp
      exact Int.max_eq_left (hm _ (List.mem_cons_of_mem _ (hx (by simp))))
    · rw [maxL_is z fun y hy => hm y (List.mem_cons_of_mem _ hy)]
      exact Int.max_eq_right h1
theorem minL_is : ∀ {ns : List Int} {m : Int}, m ∈ ns → (∀ y, y ∈ ns → m ≤ y) → minL ns = m
  | [a], m, h, _ => (List.mem_singleton.mp h).symm
  | a :: b :: r, m, h, hm => by
    have h1 := hm a (by simp)
    show min a (minL (b :: r)) = m
    rcases List.mem_cons.mp h with z | z
    · subst z
      have hx : ∀ {ns : List Int}, ns ≠ [] → minL ns ∈ ns := by
        intro ns
        induction ns with
        | nil => intro h; exact absurd rfl h
        | cons c cs ih =>
          intro _
          cases cs with
          | nil => simp [minL]
          | cons d ds =>
            show min c (minL (d :: ds)) ∈ _
            rcases Int.le_total c (minL (d :: ds)) with q | q
            · rw [Int.min_eq_left q]; simp
            · rw [Int.min_eq_right q]; exact List.mem_cons_of_mem _ (ih (by simp))
      exact Int.min_eq_left (hm _ (List.mem_cons_of_mem _ (hx (by simp))))
    · rw [minL_is z fun y hy => hm y (List.mem_cons_of_mem _ hy)]
      exact Int.min_eq_right h1
def bSum : FB
  | [d], g => match (lstOf g d).bind intsOf with
    | some ns => .ok (.int ns.sum) g
    | none => .stuck
  | _, _ => .stuck
theorem bSum_n : NoErrB bSum := noerrB fun xs g c g' e => by unfold bSum at e; split at e <;> (try split at e) <;> cases e
theorem lst_ints {K : PySem.W.Frag} {H : Hp} {ν μ : List Addr} {g : G} {d : D} {v : V} {ns : List Int} (R : RS C K H ν μ g) (r : RepD K H ν μ d v) (e : (lstOf g d).bind intsOf = some ns) : ∃ a, v = .ref a ∧ SqL K H a (ns.map V.int) := by
  cases hl : lstOf g d with
  | none => rw [hl] at e; cases e
  | some ds =>
    rw [hl] at e
    obtain ⟨a, xs, rfl, h1, h2⟩ := lst_rd R r hl
    have := intsOf_rd h2 e
    subst this
    exact ⟨a, rfl, SqL.of h1⟩
theorem bSum_ok (hc : X.calm = true) : CallR X (.builtin "sum") (rB C X.K bSum) := by
  intro pins s σ H vs us Q I rv h
  obtain ⟨ds, ν, μ, g, R, r, hP⟩ := h
  have hP := hP (fun _ _ _ _ => False) σ
  unfold bSum at hP
  split at hP
  · obtain ⟨v, rfl, r1⟩ := rL1 r
    split at hP
    · rename_i ns e
      obtain ⟨a, rfl, hs⟩ := lst_ints R r1 e
      exact cr_sum hc pins s σ H _ us Q I rv ⟨a, ns, rfl, hs, hP.here R (rInt _)⟩
    · exact hP.elim
  · exact hP.elim
def bMin : FB
  | [.int i, .int j], g => .ok (.int (if j < i then j else i)) g
  | [d], g => match (lstOf g d).bind intsOf with
    | some (n :: ns) => .ok (.int (minL (n :: ns))) g
    | _ => .stuck
  | _, _ => .stuck
theorem bMin_n : NoErrB bMin := noerrB fun xs g c g' e => by unfold bMin at e; split at e <;> (try split at e) <;> cases e
theorem bMin_ok (hc : X.calm = true) : CallR X (.builtin "min") (rB C X.K bMin) := by
  intro pins s σ H vs us Q I rv h
  obtain ⟨ds, ν, μ, g, R, r, hP⟩ := h
  have hP := hP (fun _ _ _ _ => False) σ
  unfold bMin at hP
  split at hP
  · obtain ⟨v, w, rfl, r1, r2⟩ := rL2 r
    obtain rfl : v = .int _ := r1
    obtain rfl : w = .int _ := r2
    exact call_min2 hc pins s σ H _ us Q I rv ⟨_, _, rfl, hP.here R (rInt _)⟩
  · obtain ⟨v, rfl, r1⟩ := rL1 r
    split at hP
    · rename_i n ns e
      obtain ⟨a, rfl, hs⟩ := lst_ints R r1 e
      exact cr_min hc pins s σ H _ us Q I rv ⟨a, n :: ns, rfl, hs, by simp, fun m h1 h2 => by
        have := minL_is h1 h2
        rw [this] at hP
        exact hP.here R (rInt _)⟩
    · exact hP.elim
  · exact hP.elim
def bMax : FB
  | [.int i, .int j], g => .ok (.int (if j > i then j else i)) g
  | [d], g => match (lstOf g d).bind intsOf with
    | some (n :: ns) => .ok (.int (maxL (n :: ns))) g
    | _ => .stuck
  | _, _ => .stuck
theorem bMax_n : NoErrB bMax := noerrB fun xs g c g' e => by unfold bMax at e; split at e <;> (try split at e) <;> cases e
theorem bMax_ok (hc : X.calm = true) : CallR X (.builtin "max") (rB C X.K bMax) := by
  intro pins s σ H vs us Q I rv h
  obtain ⟨ds, ν, μ, g, R, r, hP⟩ := h
  have hP := hP (fun _ _ _ _ => False) σ
  unfold bMax at hP
  split at hP
  · obtain ⟨v, w, rfl, r1, r2⟩ := rL2 r
    obtain rfl : v = .int _ := r1
    obtain rfl : w = .int _ := r2
    exact call_max2 hc pins s σ H _ us Q I rv ⟨_, _, rfl, hP.here R (rInt _)⟩
  · obtain ⟨v, rfl, r1⟩ := rL1 r
    split at hP
    · rename_i n ns e
      obtain ⟨a, rfl, hs⟩ := lst_ints R r1 e
      exact cr_max hc pins s σ H _ us Q I rv ⟨a, n :: ns, rfl, hs, by simp, fun m h1 h2 => by
        have := maxL_is h1 h2
        rw [this] at hP
        exact hP.here R (rInt _)⟩
    · exact hP.elim
  · exact hP.elim
def bLen : FB
  | [.str z], g => if z.length ≤ sizeLine then .ok (.int z.length) g else .stuck
  | [d], g => match seqOf g d with
    | some ds => .ok (.int ds.length) g
    | none => .stuck
  | _, _ => .stuck
theorem bLen_n : NoErrB bLen := noerrB fun xs g c g' e => by unfold bLen at e; split at e <;> (try split at e) <;> cases e
theorem bLen_ok : CallR X (.builtin "len") (rB C X.K bLen) := by
  intro pins s σ H vs us Q I rv h
  obtain ⟨ds, ν, μ, g, R, r, hP⟩ := h
  have hP := hP (fun _ _ _ _ => False) σ
  unfold bLen at hP
  split at hP
  · obtain ⟨v, rfl, r1⟩ := rL1 r
    obtain rfl : v = .str _ := r1
    split at hP
    · rename_i hl
      exact call_len_str pins s σ H _ us Q I rv ⟨_, rfl, hl, hP.here R (rInt _)⟩
    · exact hP.elim
  · obtain ⟨v, rfl, r1⟩ := rL1 r
    split at hP
    · rename_i es e
      obtain ⟨a, xs, rfl, h1, h2⟩ := seq_rd R r1 e
      rw [RepL.length h2] at hP
      exact call_len_seq pins s σ H _ us Q I rv ⟨a, xs, rfl, h1, hP.here R (rInt _)⟩
    · exact hP.elim
  · exact hP.elim
def bInt : FB
  | [.int i], g => .ok (.int i) g
  | [.bl b], g => .ok (.int (if b then 1 else 0)) g
  | _, _ => .stuck
theorem bInt_n : NoErrB bInt := noerrB fun xs g c g' e => by unfold bInt at e; split at e <;> cases e
theorem bInt_ok : CallR X (.type "int") (rB C X.K bInt) := by
  intro pins s σ H vs us Q I rv h
  obtain ⟨ds, ν, μ, g, R, r, hP⟩ := h
  have hP := hP (fun _ _ _ _ => False) σ
  unfold bInt at hP
  split at hP
  · obtain ⟨v, rfl, r1⟩ := rL1 r
    obtain rfl : v = .int _ := r1
    exact call_int1 pins s σ H _ us Q I rv (.inl ⟨_, rfl, hP.here R (rInt _)⟩)
  · obtain ⟨v, rfl, r1⟩ := rL1 r
    obtain rfl : v = .bl _ := r1
    exact call_int1 pins s σ H _ us Q I rv (.inr ⟨_, rfl, hP.here R (rInt _)⟩)
  · exact hP.elim
def bStr : FB
  | [.int i], g => if i.natAbs.log2 < 1920 then .ok (.str (toString i)) g else .stuck
  | _, _ => .stuck
theorem bStr_n : NoErrB bStr := noerrB fun xs g c g' e => by unfold bStr at e; split at e <;> (try split at e) <;> cases e
theorem bStr_ok : CallR X (.type "str") (rB C X.K bStr) := by
  intro pins s σ H vs us Q I rv h
  obtain ⟨ds, ν, μ, g, R, r, hP⟩ := h
  have hP := hP (fun _ _ _ _ => False) σ
  unfold bStr at hP
  split at hP
  · obtain ⟨v, rfl, r1⟩ := rL1 r
    obtain rfl : v = .int _ := r1
    split at hP
    · rename_i hl
      exact call_str_int pins s σ H _ us Q I rv ⟨_, rfl, hl, hP.here R (rStr _)⟩
    · exact hP.elim
  · exact hP.elim
def bList : FB
  | [d], g => match seqOf g d with
    | some ds => .ok (.lst ds) g
    | none => .stuck
  | _, _ => .stuck
theorem bList_n : NoErrB bList := noerrB fun xs g c g' e => by unfold bList at e; split at e <;> (try split at e) <;> cases e
theorem bList_ok : CallR X (.type "list") (rB C X.K bList) := by
  intro pins s σ H vs us Q I rv h
  obtain ⟨ds, ν, μ, g, R, r, hP⟩ := h
  have hP := hP (fun _ _ _ _ => False) σ
  unfold bList at hP
  split at hP
  · obtain ⟨v, rfl, r1⟩ := rL1 r
    split at hP
    · rename_i es e
      obtain ⟨a, xs, rfl, h1, h2⟩ := seq_rd R r1 e
      exact call_list_of pins s σ H _ us Q I rv ⟨a, xs, rfl, h1, rD_lst R h2 hP⟩
    · exact hP.elim
  · exact hP.elim
def bTuple : FB
  | [.tup ds], g => .ok (.tup ds) g
  | [d], g => match lstOf g d with
    | some ds => .ok (.tup ds) g
    | none => .stuck
  | _, _ => .stuck
theorem bTuple_n : NoErrB bTuple := noerrB fun xs g c g' e => by unfold bTuple at e; split at e <;> (try split at e) <;> cases e
theorem bTuple_ok : CallR X (.type "tuple") (rB C X.K bTuple) := by
  intro pins s σ H vs us Q I rv h
  obtain ⟨ds, ν, μ, g, R, r, hP⟩ := h
  have hP := hP (fun _ _ _ _ => False) σ
  unfold bTuple at hP
  split at hP
  · obtain ⟨v, rfl, r1⟩ := rL1 r
    unfold RepD at r1
    obtain ⟨a, xs, rfl, h1, h2⟩ := r1
    exact call_tuple_of pins s σ H _ us Q I rv ⟨a, xs, rfl, .inr ⟨h1, hP.here R (rTup h1 h2)⟩⟩
  · obtain ⟨v, rfl, r1⟩ := rL1 r
    split at hP
    · rename_i es e
      obtain ⟨a, xs, rfl, h1, h2⟩ := lst_rd R r1 e
      exact call_tuple_of pins s σ H _ us Q I rv ⟨a, xs, rfl, .inl ⟨SqL.of h1, rD_tup R h2 hP⟩⟩
    · exact hP.elim
  · exact hP.elim
end
end Dl
end
section
set_option Elab.async false
set_option linter.all false
set_option maxRecDepth 100000
namespace Dl
open PySem L2
section
variable {C : Cfg} {X : Cx} {W : WX} {e a b c o i tg elt iter : Expr} {es rest ifs : List Expr} {f fa fb fc fe fo fi' : FE} {fes : FA} {ft : FT} {pos p apos cpos : Pos} {fi : FI} {fg : FG}
/-! ### o[i] = v -/
def setD (g : G) : D → D → D → Option G
  | .loc n, .int k, v => match g[n]? with
    | some (.lst xs) => match ixN xs.length k with
      | some j => some (g.set n (.lst (xs.set j v)))
      | none => none
    | _ => none
  | _, _, _ => none
def rSetD' (C : Cfg) (K : PySem.W.Frag) : TSet := fun o i v H Q => ∃ dO dI dV ν μ g g', RS C K H ν μ g ∧ RepD K H ν μ dO o ∧ RepD K H ν μ dI i ∧ RepD K H ν μ dV v ∧ setD g dO dI dV = some g' ∧ ∀ H', Ext H μ H' μ → RS C K H' ν μ g' → Q H'
theorem set_ok : PSet X (rSetD' C X.K) := by
  intro pins s σ H o i v ov iv u Q I ro ri rv h
  obtain ⟨dO, dI, dV, ν, μ, g, g', R, r1, r2, r3, hs, hQ⟩ := h
  unfold setD at hs
  split at hs
  · obtain rfl : i = .int _ := r2
    unfold RepD at r1
    obtain ⟨a, rfl, hn⟩ := r1
    split at hs
    · rename_i xs hg
      split at hs
      · rename_i j hj
        cases hs
        obtain ⟨vs, h1, h2⟩ := R.ob _ _ a hg hn
        obtain ⟨R', ex⟩ := R.write (o := .lst (vs.set j v)) (ob := .lst (xs.set j dV)) hn ntb_lst fun ex => ⟨_, upd_same, RepL.mono ex.kp' _ (RepL.set r3 j h2)⟩
        exact set_list pins s σ H _ _ v ov iv u Q I ro ri rv ⟨a, vs, _, j, rfl, rfl, h1, by rw [← RepL.length h2]; exact hj, hQ _ ex R'⟩
      · cases hs
    · cases hs
  · cases hs
def gSb (fo fi : FE) : FG := fun d ρ g => (fo ρ g).bind fun o g1 => (fi ρ g1).bind fun i g2 => match setD g2 o i d with
  | some g3 => .ok ρ g3
  | none => .stuck
theorem dg_sub (ho : DP C X W o fo) (hi : DP C X W i fi')
    (ha : ∀ v, assign (.Subscript o i pos) X.env v = (do
      let ov ← holding [v] (eval o X.env)
      let iv ← holding [v, ov] (eval i X.env)
      standAt pos
      holding [v, ov, iv] (setItem ov iv v)
      release [v, ov, iv] []) := by intro _; rfl) : DG C X W (.Subscript o i pos) [] (gSb fo fi') :=
  PG.imp (pg_sub ho hi set_ok ha) fun v σ H Q ⟨d, ρ, ν, μ, g, hE, hR, r, hP⟩ => by
    refine ⟨ρ, ν, μ, g, hE, hR, ?_⟩
    unfold gSb at hP
    cases h1 : fo ρ g with
    | err c g1 => simp only [h1, Res.bind] at hP; exact hP
    | stuck => simp only [h1, Res.bind] at hP
    | ok dO g1 =>
      simp only [h1, Res.bind] at hP
      intro ov H1 μ1 ex1 R1 r1
      refine ⟨ρ, ν, μ1, g1, hE.mono ex1.kp', R1, ?_⟩
      cases h2 : fi' ρ g1 with
      | err c g2 =>
        simp only [h2] at hP
        exact fun H2 μ2 ex2 R2 => hP H2 μ2 (ex1.trans ex2) R2
      | stuck => simp only [h2] at hP
      | ok dI g2 =>
        simp only [h2] at hP
        intro iv H2 μ2 ex2 R2 r2
        cases h3 : setD g2 dO dI d with
        | none => simp only [h3] at hP
        | some g3 =>
          simp only [h3] at hP
          have e12 := ex1.trans ex2
          exact ⟨dO, dI, d, ν, μ2, g2, g3, R2, RepD.mono ex2.kp' _ r1, r2, RepD.mono e12.kp' _ r, h3, fun H3 ex3 R3 => hP σ H3 μ2 (e12.trans ex3) R3 (hE.mono (e12.trans ex3).kp') fun _ _ => rfl⟩
/-! ### o[i] op= v on lists -/
theorem get_list {pins : List (Addr × Obj)} {s : Shared} {σ : St} {H : Hp} {p : Addr} {xs : List V} {k : Int} {z : V} {iv : Value} {Q : VK} (I : Inv X pins σ H s) (ri : RelV (.int k) iv) (hq : SqL X.K H p xs) (he : atI xs k = some z) (q : Q z H) :
    wpAny (model X.prog X.w) X.A (getItem (.ref p) iv) (EP X pins σ Q) X.xe s := by
  obtain ⟨t, rfl⟩ := ri
  obtain ⟨its, r, pl, hz⟩ := I.list hq
  obtain ⟨j, h1, h2, h3, h4, h5⟩ := atI_get he
  obtain ⟨w, ew, rw'⟩ := r.get h2
  have hl := r.length
  have hn := line63
  have fin : EP X pins σ Q w s := ⟨z, H, I, rw', q⟩
  by_cases h0 : 0 ≤ k
  · have hj : k.toNat = j := by
      rw [seqIndex_of h0 h5] at h1
      exact Option.some.inj h1
    exact wpAny_getItem_list (x := w) pl.isList h0 (by omega) (by rw [hj]; simpa using ew) fin
  · have hj : (k + (its.toArray.size : Int)).toNat = j := by
      rw [seqIndex_neg (by omega) h4] at h1
      rw [List.size_toArray, ← hl]
      exact Option.some.inj h1
    exact wpAny_getItem_list_neg (x := w) pl.isList (by omega) (by rw [List.size_toArray] <;> omega) (by omega) (by rw [hj]; simpa using ew) fin
def getD' (g : G) : D → D → Option D
  | .loc n, .int k => match g[n]? with
    | some (.lst xs) => atI xs k
    | _ => none
  | _, _ => none
def rGetD (C : Cfg) (K : PySem.W.Frag) : V → V → Hp → VK → Prop := fun o i H Q => ∃ dO dI ν μ g d, RS C K H ν μ g ∧ RepD K H ν μ dO o ∧ RepD K H ν μ dI i ∧ getD' g dO dI = some d ∧ ∀ v, RepD K H ν μ d v → Q v H
theorem get_ok : PGet X (rGetD C X.K) := by
  intro pins s σ H o i ov iv Q I ro ri h
  obtain ⟨dO, dI, ν, μ, g, d, R, r1, r2, hs, hQ⟩ := h
  unfold getD' at hs
  split at hs
  · obtain rfl : i = .int _ := r2
    unfold RepD at r1
    obtain ⟨a, rfl, hn⟩ := r1
    split at hs
    · rename_i xs hg
      obtain ⟨vs, h1, h2⟩ := R.ob _ _ a hg hn
      obtain ⟨v, hv, rv⟩ := atI_rep h2 hs
      cases ro
      exact get_list I ri (SqL.of h1) hv (hQ v rv)
    · cases hs
  · cases hs
def sAugS (fo fi : FE) (op : F2) (f : FE) : FS := fun ρ g => (fo ρ g).toS ρ fun o g1 => (fi ρ g1).toS ρ fun i g2 => match getD' g2 o i with
  | some x => (f ρ g2).toS ρ fun y g3 => (op x y g3).toS ρ fun z g4 => match setD g4 o i z with
    | some g5 => .nx ρ g5
    | none => .stuck
  | none => .stuck
theorem ds_augS {op : Operator} {ov : F2} {tpos : Pos} (ho : DP C X W o fo) (hi : DP C X W i fi') (he : DP C X W e f) (no : NoErr ov) (hop : OpR X (inplaceOp op) (rD C X.K ov))
    (ha : ∀ ov iv new, augStore i ov iv new = (do holding [new, ov, iv] (setItem ov iv new); release [new, ov, iv] []; pure .next) := by intros; rfl) : DS C X W (.AugAssign (.Subscript o i tpos) op e pos) (sAugS fo fi' ov f) :=
  PS.imp (ps_augS ho hi get_ok he hop set_ok ha) fun E σ H ⟨ρ, ν, μ, g, hE, hR, hP⟩ => by
    refine ⟨ρ, ν, μ, g, hE, hR, ?_⟩
    unfold sAugS at hP
    cases h1 : fo ρ g with
    | err c g1 => simp only [h1, Res.toS] at hP; exact fun H' μ' ex R' => hP σ H' μ' ex R' (hE.mono ex.kp')
    | stuck => simp only [h1, Res.toS] at hP; exact hP
    | ok dO g1 =>
      simp only [h1, Res.toS] at hP
      intro xo H1 μ1 ex1 R1 r1
      have hP := hP.ext ex1
      have hE1 := hE.mono ex1.kp'
      refine ⟨ρ, ν, μ1, g1, hE1, R1, ?_⟩
      cases h2 : fi' ρ g1 with
      | err c g2 => simp only [h2] at hP; exact fun H' μ' ex R' => hP σ H' μ' ex R' (hE1.mono ex.kp')
      | stuck => simp only [h2] at hP; exact hP
      | ok dI g2 =>
        simp only [h2] at hP
        intro xi H2 μ2 ex2 R2 r2
        have hP := hP.ext ex2
        have hE2 := hE1.mono ex2.kp'
        have r1 := RepD.mono ex2.kp' _ r1
        cases h3 : getD' g2 dO dI with
        | none => simp only [h3] at hP; exact hP.elim
        | some x =>
          simp only [h3] at hP
          refine ⟨dO, dI, ν, μ2, g2, x, R2, r1, r2, h3, fun xv rx => ⟨ρ, ν, μ2, g2, hE2, R2, ?_⟩⟩
          cases h4 : f ρ g2 with
          | err c g3 => simp only [h4] at hP; exact fun H' μ' ex R' => hP σ H' μ' ex R' (hE2.mono ex.kp')
          | stuck => simp only [h4] at hP; exact hP
          | ok y g3 =>
            simp only [h4] at hP
            intro yv H3 μ3 ex3 R3 ry
            have hP := hP.ext ex3
            have hE3 := hE2.mono ex3.kp'
            refine ⟨x, y, ν, μ3, g3, R3, RepD.mono ex3.kp' _ rx, ry, fun W' σ' => ?_⟩
            cases h5 : ov x y g3 with
            | err c g4 => exact absurd h5 (no _ _ _ _ _)
            | stuck => simp only [h5] at hP; exact hP
            | ok z g4 =>
              simp only [h5] at hP
              intro zv H4 μ4 ex4 R4 rz
              have hP := hP.ext ex4
              cases h6 : setD g4 dO dI z with
              | none => simp only [h6] at hP; exact hP.elim
              | some g5 =>
                simp only [h6] at hP
                exact ⟨dO, dI, z, ν, μ4, g4, g5, R4, RepD.mono (ex3.trans ex4).kp' _ r1, RepD.mono (ex3.trans ex4).kp' _ r2, rz, h6, fun H5 ex5 R5 => hP σ H5 μ4 ex5 R5 (hE3.mono (ex4.trans ex5).kp')⟩
/-! ### in-place sums -/
def oAddI : F2
  | .int i, .int j, g => .ok (.int (i + j)) g
  | .str a, .str b, g => if a.length + b.length ≤ sizeLine then .ok (.str (a ++ b)) g else .stuck
  | .loc n, y, g => match g[n]? with
    | some (.lst xs) => match lstOf g y with
      | some ys => if xs.length + ys.length ≤ sizeLine then .ok (.loc n) (g.set n (.lst (xs ++ ys))) else .stuck
      | none => .stuck
    | _ => .stuck
  | _, _, _ => .stuck
theorem oAddI_n : NoErr oAddI := noerr fun x y g c g' e => by unfold oAddI at e; split at e <;> (repeat' (split at e)) <;> cases e
theorem oAddI_ok : OpR X (inplaceOp .Add) (rD C X.K oAddI) := by
  intro pins s σ H x y v u Q I rx ry h
  obtain ⟨dx, dy, ν, μ, g, R, r1, r2, hP⟩ := h
  have hP := hP (fun _ _ _ _ => False) σ
  unfold oAddI at hP
  split at hP
  · obtain rfl : x = .int _ := r1
    obtain rfl : y = .int _ := r2
    exact iop_add pins s σ H _ _ v u Q I rx ry ⟨_, _, rfl, rfl, hP.here R (rInt _)⟩
  · obtain rfl : x = .str _ := r1
    obtain rfl : y = .str _ := r2
    split at hP
    · rename_i hl
      exact iop_add_str pins s σ H _ _ v u Q I rx ry ⟨_, _, rfl, rfl, hl, hP.here R (rStr _)⟩
    · exact hP.elim
  · split at hP
    · rename_i xs hg
      split at hP
      · rename_i ys hy
        split at hP
        · rename_i hl
          unfold RepD at r1
          obtain ⟨a, rfl, hn⟩ := r1
          obtain ⟨vs, h1, h2⟩ := R.ob _ _ a hg hn
          obtain ⟨b, ws, rfl, h3, h4⟩ := lst_rd R r2 hy
          obtain ⟨R', ex⟩ := R.write (o := .lst (vs ++ ws)) (ob := .lst (xs ++ ys)) hn ntb_lst fun ex => ⟨_, upd_same, RepL.mono ex.kp' _ (RepL.app h2 h4)⟩
          have l1 := RepL.length h2
          have l2 := RepL.length h4
          exact iop_ext pins s σ H _ _ v u Q I rx ry ⟨a, b, vs, ws, rfl, rfl, h1, h3, by omega, hP _ _ _ ex R' ⟨a, rfl, hn⟩⟩
        · exact hP.elim
      · exact hP.elim
    · exact hP.elim
  · exact hP.elim
def oSubI : F2
  | .int i, .int j, g => .ok (.int (i - j)) g
  | _, _, _ => .stuck
theorem oSubI_n : NoErr oSubI := noerr fun x y g c g' e => by unfold oSubI at e; split at e <;> cases e
theorem oSubI_ok : OpR X (inplaceOp .Sub) (rD C X.K oSubI) := by
  intro pins s σ H x y v u Q I rx ry h
  obtain ⟨dx, dy, ν, μ, g, R, r1, r2, hP⟩ := h
  have hP := hP (fun _ _ _ _ => False) σ
  unfold oSubI at hP
  split at hP
  · obtain rfl : x = .int _ := r1
    obtain rfl : y = .int _ := r2
    exact iop_sub pins s σ H _ _ v u Q I rx ry ⟨_, _, rfl, rfl, hP.here R (rInt _)⟩
  · exact hP.elim
/-! ### methods of built-in types -/
abbrev FM := D → List D → G → Res D
def NoErrM (o : FM) : Prop := ∀ x xs g c g', o x xs g ≠ .err c g'
def rM (C : Cfg) (K : PySem.W.Frag) (o : FM) : V → List V → Hp → VK → Prop := fun x vs H Q => ∃ dx ds ν μ g, RS C K H ν μ g ∧ RepD K H ν μ dx x ∧ RepL K H ν μ ds vs ∧ ∀ W σ, Post C K W σ H ν μ (o dx ds g) Q
/-- the receiver's kind -/
def isKind (T : String) (g : G) : D → Bool
  | .str _ => decide (T = "str")
  | .lst _ => decide (T = "list")
  | .loc n => match g[n]? with
    | some (.lst _) => decide (T = "list")
    | some (.dic _) => decide (T = "dict")
    | some (.dit _) => decide (T = "dict")
    | _ => false
  | _ => false
theorem isKind_ty {K : PySem.W.Frag} {H : Hp} {ν μ : List Addr} {g : G} {d : D} {v : V} {T : String} (R : RS C K H ν μ g) (r : RepD K H ν μ d v) (h : isKind T g d = true) : tyV K T v H := by
  unfold isKind at h
  split at h
  · obtain rfl : v = .str _ := r
    show T = "str"
    exact of_decide_eq_true h
  · unfold RepD at r
    obtain ⟨a, xs, rfl, h1, _⟩ := r
    exact .inl ⟨of_decide_eq_true h, xs, SqL.of h1⟩
  · unfold RepD at r
    obtain ⟨a, rfl, hn⟩ := r
    split at h
    · rename_i hg
      obtain ⟨vs, h1, _⟩ := R.ob _ _ a hg hn
      exact .inl ⟨of_decide_eq_true h, vs, SqL.of h1⟩
    · rename_i hg
      obtain ⟨vs, h1, _⟩ := R.ob _ _ a hg hn
      exact .inr (.inr (.inl ⟨of_decide_eq_true h, .inl ⟨vs, h1⟩⟩))
    · rename_i hg
      obtain ⟨vs, h1, _⟩ := R.ob _ _ a hg hn
      exact .inr (.inr (.inl ⟨of_decide_eq_true h, .inr ⟨vs, h1⟩⟩))
    · cases h
  · cases h
def fMt (T : String) (om : FM) (fo : FE) (fes : FA) : FE := fun ρ g => (fo ρ g).bind fun x g1 => if isKind T g1 x then (fes ρ g1).bind fun ds g2 => om x ds g2 else .stuck
theorem dp_mt {T id : String} {name : Str} {om : FM} (pa : PlainAttrs T) (slot : Slot T name id) (hty : typeOf (.builtin id) = pure (.type "method_descriptor")) (no : NoErrM om) (hm : MtR X id (rM C X.K om)) (ho : DP C X W o fo) (ha : DA C X W (e :: es) fes)
    (hbase : attributeBase o name X.env (eval o X.env) = eval o X.env := by rfl)
    (hfew : ((backTo cpos (starEach (e :: es) X.env)).all (fun x => !x.1) && (backToKw cpos (keywordEach [] X.env)).all (fun x => x.1.isSome)
      && decide ((e :: es).length + ([] : List Keyword).length + (if ([] : List Keyword).isEmpty then 0 else 1) < 30)) = true := by rfl)
    (hline : (apos.endLine == cpos.line) = true := by rfl) (hs : starEach (e :: es) X.env = (false, eval e X.env) :: starEach es X.env := by rfl) (hplain : (backTo cpos (starEach es X.env)).any (·.1) = false := by rfl) :
    DP C X W (.Call (.Attribute o name apos) (e :: es) [] cpos) (fMt T om fo fes) :=
  PE.imp (pe_bm pa slot hty hm ho ha hbase hfew hline hs hplain) fun σ H Q h => by
    refine bindD (k := fun x ρ g1 => if isKind T g1 x then (fes ρ g1).bind fun ds g2 => om x ds g2 else .stuck) h fun ρ ν μ g dx x H1 hE hR rx hP => ?_
    by_cases hk : isKind T g dx = true
    · rw [if_pos hk] at hP
      refine ⟨isKind_ty hR rx hk, ρ, ν, μ, g, hE, hR, ?_⟩
      cases hf : fes ρ g with
      | err c g2 => simp only [hf, Res.bind] at hP; exact hP
      | stuck => simp only [hf, Res.bind] at hP; exact hP
      | ok ds g2 =>
        simp only [hf, Res.bind] at hP
        exact fun vs H2 μ2 ex R2 r2 => ⟨dx, ds, ν, μ2, g2, R2, RepD.mono ex.kp' _ rx, r2, fun W' σ' => post_any (fun _ _ => no _ _ _ _ _) (hP.ext ex) W' σ'⟩
    · rw [if_neg hk] at hP; exact hP.elim
def fMt0 (T : String) (om : FM) (fo : FE) : FE := fun ρ g => (fo ρ g).bind fun x g1 => if isKind T g1 x then om x [] g1 else .stuck
theorem dp_mt0 {T id : String} {name : Str} {om : FM} (pa : PlainAttrs T) (slot : Slot T name id) (hty : typeOf (.builtin id) = pure (.type "method_descriptor")) (no : NoErrM om) (hm : MtR X id (rM C X.K om)) (ho : DP C X W o fo)
    (hbase : attributeBase o name X.env (eval o X.env) = eval o X.env := by rfl) (hline : (apos.endLine == cpos.line) = true := by rfl) : DP C X W (.Call (.Attribute o name apos) [] [] cpos) (fMt0 T om fo) :=
  PE.imp (pe_bm0 pa slot hty hm ho hbase hline) fun σ H Q h => by
    refine bindD (k := fun x ρ g1 => if isKind T g1 x then om x [] g1 else .stuck) h fun ρ ν μ g dx x H1 hE hR rx hP => ?_
    by_cases hk : isKind T g dx = true
    · rw [if_pos hk] at hP
      exact ⟨isKind_ty hR rx hk, dx, [], ν, μ, g, hR, rx, rfl, fun W' σ' => post_any (fun _ _ => no _ _ _ _ _) hP W' σ'⟩
    · rw [if_neg hk] at hP; exact hP.elim
def mApp : FM
  | .loc n, [d], g => match g[n]? with
    | some (.lst xs) => if xs.length < sizeLine then .ok .non (g.set n (.lst (xs ++ [d]))) else .stuck
    | _ => .stuck
  | _, _, _ => .stuck
theorem mApp_n : NoErrM mApp := fun x xs g c g' e => by unfold mApp at e; split at e <;> (repeat' (split at e)) <;> cases e
theorem mApp_ok : MtR X "list.append" (rM C X.K mApp) := by
  intro pins s σ H x vs v us Q I rx rv h
  obtain ⟨dx, ds, ν, μ, g, R, r1, r2, hP⟩ := h
  have hP := hP (fun _ _ _ _ => False) σ
  unfold mApp at hP
  split at hP
  · split at hP
    · rename_i xs hg
      split at hP
      · rename_i hl
        unfold RepD at r1
        obtain ⟨a, rfl, hn⟩ := r1
        obtain ⟨ws, h1, h2⟩ := R.ob _ _ a hg hn
        obtain ⟨y, rfl, ry⟩ := rL1 r2
        obtain ⟨R', ex⟩ := R.write (o := .lst (ws ++ [y])) (ob := .lst (xs ++ [_])) hn ntb_lst fun ex => ⟨_, upd_same, RepL.mono ex.kp' _ (RepL.snoc ry h2)⟩
        have l1 := RepL.length h2
        exact mt_append pins s σ H _ _ v us Q I rx rv ⟨a, ws, y, rfl, rfl, h1, by omega, hP _ _ _ ex R' rNon⟩
      · exact hP.elim
    · exact hP.elim
  · exact hP.elim
/-! ### texts -/
def fFmt (f : FE) : FE := fun ρ g => (f ρ g).bind fun x g1 => match x with
  | .str y => if y.length ≤ sizeLine then .ok (.str y) g1 else .stuck
  | .int i => if i.natAbs.log2 < 1920 then .ok (.str (toString i)) g1 else .stuck
  | _ => .stuck
theorem dp_fmt (h : DP C X W e f) : DP C X W (.FormattedValue e (-1) none pos) (fFmt f) := PE.imp (pe_fmt h) fun σ H Q hq =>
  bindD (k := fun x _ g1 => match x with
  | .str y => if y.length ≤ sizeLine then .ok (.str y) g1 else .stuck
  | .int i => if i.natAbs.log2 < 1920 then .ok (.str (toString i)) g1 else .stuck
  | _ => .stuck) hq fun ρ ν μ g d v H1 hE hR r hP => by
    split at hP
    · obtain rfl : v = .str _ := r
      split at hP
      · rename_i hl
        exact .inl ⟨_, rfl, hl, hP.here hR (rStr _)⟩
      · exact hP.elim
    · obtain rfl : v = .int _ := r
      split at hP
      · rename_i hl
        exact .inr ⟨_, rfl, hl, hP.here hR (rStr _)⟩
      · exact hP.elim
    · exact hP.elim
/-- the parts of f'..' one behind the other -/
def fJs : List FE → Str → FE
  | [], acc => fun _ g => .ok (.str acc) g
  | f :: r, acc => fun ρ g => (f ρ g).bind fun x g1 => match x with
    | .str y => if (acc ++ y).length ≤ sizeLine then fJs r (acc ++ y) ρ g1 else .stuck
    | _ => .stuck
inductive DJ (C : Cfg) (X : Cx) (W : WX) : List Expr → List FE → Prop where
  | nil : DJ C X W [] []
  | cons {e : Expr} {f : FE} {es : List Expr} {fs : List FE} (h : DP C X W e f) (r : DJ C X W es fs) : DJ C X W (e :: es) (f :: fs)
theorem DJ.pj {es : List Expr} {fs : List FE} (h : DJ C X W es fs) : PJ X es (fs.map (tD C X.K W)) := by
  induction h with
  | nil => exact .nil
  | cons h r ih => exact .cons h ih
theorem tJs_of {K : PySem.W.Frag} {σ : St} : ∀ {fs : List FE} {acc : Str} {H : Hp} {Q : VK}, tD C K W (fJs fs acc) σ H Q → tJs (fs.map (tD C K W)) acc σ H fun out H1 => Q (.str out) H1
  | [], acc, H, Q, ⟨ρ, ν, μ, g, hE, hR, hP⟩ => hP.here hR (rStr _)
  | f :: r, acc, H, Q, h =>
    bindD (k := fun x ρ g1 => match x with
      | .str y => if (acc ++ y).length ≤ sizeLine then fJs r (acc ++ y) ρ g1 else .stuck
      | _ => .stuck) h fun ρ ν μ g d v H1 hE hR rv hP => by
        split at hP
        · obtain rfl : v = .str _ := rv
          split at hP
          · rename_i hl
            exact ⟨_, rfl, hl, tJs_of ⟨ρ, ν, μ, g, hE, hR, hP⟩⟩
          · exact hP.elim
        · exact hP.elim
theorem dp_joined {v1 v2 : Expr} {fs : List FE} (h : DJ C X W (v1 :: v2 :: rest) fs) : DP C X W (.JoinedStr (v1 :: v2 :: rest) pos) (fJs fs Str.empty) := PE.imp (pe_joined h.pj) fun σ H Q hq => tJs_of hq
theorem dp_joined1 (h : DP C X W e f) : DP C X W (.JoinedStr [e] pos) f := pe_joined1 h
end
end Dl
end
section
set_option Elab.async false
set_option linter.all false
set_option maxRecDepth 100000
namespace Dl
open PySem L2
section
variable {C : Cfg} {K : PySem.W.Frag} {H H' : Hp} {ν μ μ' : List Addr} {g : G}
/-- only the tables have grown, new things may stand -/
theorem ext_of_n (e : LamX.ExtN H H') : Ext H μ H' μ := ⟨⟨[], by simp, by simp⟩, fun b o h _ n => e b o h n, fun b o h n => ⟨o, e b o h n, n⟩⟩
theorem RS.extN (R : RS C K H ν μ g) (e : LamX.ExtN H H') (t : LamX.Tabs C.tabs H') : RS C K H' ν μ g := by
  have ex : Ext H μ H' μ := ext_of_n e
  refine ⟨R.len, R.nd, R.dj, fun a ha => ?_, fun n u a e1 e2 => ?_, t⟩
  · obtain ⟨xs, h⟩ := R.nv a ha
    exact ⟨xs, e _ _ h ntb_lst⟩
  · have q := R.ob n u a e1 e2
    obtain ⟨w, hw, cw⟩ := q.ch
    exact q.mono ex.kp' (by rw [e _ _ hw cw.ntb, hw])
end
section
variable {C : Cfg} {X : Cx} {W : WX} {f : FE} {pos p : Pos}
/-- told: the value, or the word where it was refused -/
def fTold (ok : Nat → Bool) (ret : Str) (fb : FE) : FE := fun ρ g => match fb ρ g with
  | .ok d g1 => .ok d g1
  | .err c g1 => if ok c then .ok (.str ret) g1 else .stuck
  | .stuck => .stuck
open LamX in
/-- x(lambda: body), x's own body: try: return a() / except e: return ret -/
theorem dp_told {x a ex ret : Str} {gA c P CS : Addr} {k j : Nat} {pg : Arguments} {sg : Scope} {dV kV doc pm cdv ct oc : Value} {an od : Option Addr} {osl : Array (Option Value)} {Ng : List Str} {okc : Nat → Bool}
    {params : Arguments} {body : Expr} {scope : Scope} {lpos : Pos} {p1 p2 p3 p4 p5 p6 p7 p8 : Pos} (hg : Gl X x) (hm : X.mg x = some (.ref gA)) (hk : PySem.W.keepIn X.K (.ref gA) = true)
    (lk : X.K.lookup gA = some ⟨oc, od, .func (PySem.W.fnOf x x pg [.Try [.Return (some (.Call (.Name a p1) [] [] p2)) p3] [.ExceptHandler (some (.Name ex p4)) none [.Return (some (.Constant (.str ret) j p5)) p6] p7] [] [] p8] sg dV kV doc pm an cdv ct), osl⟩)
    (hcg : PySem.W.codeIn X.K cdv x = true) (hb : L2.Binds X.K (PySem.W.fnOf x x pg [.Try [.Return (some (.Call (.Name a p1) [] [] p2)) p3] [.ExceptHandler (some (.Name ex p4)) none [.Return (some (.Constant (.str ret) j p5)) p6] p7] [] [] p8] sg dV kV doc pm an cdv ct) [a] [])
    (Sg : FnScope Ng [a] sg) (hNg : Ng[0]? = some a) (hva : Vis sg a) (hge : sg.names.lookup ex = some .globalImplicit) (hme : X.mg ex = some (.ref CS)) (hde : (ex == ("__debug__" : Str)) = false) (h0 : ∀ f : Addr, (L2.start Ng [V.ref f])[0]? = some (some (V.ref f)))
    (hcat : ∀ n, okc n = true → PySem.W.exmOne X.K (.ref (C.exc n)) (.ref CS) = some true)
    (TB : TabB X.base X.mg c P) (hcode : X.env.code = .ref c) (hmT : (P, X.env.qual ++ "<lambda>") ∈ C.tabs) (hu : ∀ p ∈ C.tabs, p.1 = P → p.2 = X.env.qual ++ "<lambda>") (hr : Room (k + 2) X.A) (L : LamS X.env.scope scope) (hdef : defaultsOf params X.env = ([], []))
    (hbind : ∀ (q : Str) (cl : List (Str × Addr)) (pm cv ctv : Value), bindArgs (PySem.W.kla_fn "<lambda>" q params body scope cl pm cv ctv) ⟨[], []⟩ = pure [])
    (hbody : ∀ (A : Around) (outer : List Env) (s : Shared) (H : Hp) (E : XK) (fl c' : Addr), Room k (A.deeper (lamEnv X scope s.heap.objs.size fl c')) → Takes (lamCx X A outer s H E scope fl c') (fun cls d _ H => E cls d H) →
      DP C (lamCx X A outer s H E scope fl c') (fun cls d _ H => E cls d H) body f)
    (hdb : (x == ("__debug__" : Str)) = false := by decide) (hd : (a == ("__debug__" : Str)) = false := by decide) (hcd : (a == ("__classdict__" : Str)) = false := by decide) :
    DP C X W (.Call (.Name x p) [.Lambda params body scope lpos] [] pos) (fTold okc ret f) :=
  PE.imp (pe_lamcall (T := C.tabs) (TT := TTold X.K CS ret) (t := fun E => tD C X.K (fun cls d _ H => E cls d H) f) hg hm hk lk hcg hb Sg hNg hva (told_gives hge hme hde h0) TB hcode hmT hu hr L hdef hbind
    (fun A outer s H E f' c' hr' => hbody A outer s H E f' c' hr' (takes_of rfl rfl rfl rfl)) hdb hd hcd) fun σ H Q ⟨ρ, ν, μ, g, hE, hR, hP⟩ => by
    refine ⟨hR.tb, fun H1 e1 t1 => ?_⟩
    have ex : Ext H μ H1 μ := ext_of_n e1
    refine ⟨ρ, ν, μ, g, hE.mono ex.kp', hR.extN e1 t1, ?_⟩
    unfold fTold at hP
    cases hf : f ρ g with
    | ok d g1 =>
      simp only [hf] at hP
      exact fun v H2 μ2 e2 R2 r2 => hP v H2 μ2 (ex.trans e2) R2 r2
    | stuck => simp only [hf] at hP; exact hP
    | err c g1 =>
      simp only [hf] at hP
      split at hP
      · rename_i hc
        exact fun H2 μ2 e2 R2 => ⟨true, hcat c hc, fun _ => hP _ H2 μ2 (ex.trans e2) R2 (rStr _), fun z => by cases z⟩
      · exact hP.elim
end
end Dl
end
section
set_option Elab.async false
set_option linter.all false
set_option maxRecDepth 100000
set_option maxHeartbeats 1000000
namespace Dl
open PySem PySem.Spec PyProof.Rows L2 GenW
theorem over_gen {A : Around} {elt tg iter : Expr} {ifs : List Expr} {scope : Scope} {pos : Pos} {it acc : Value} {env : Env} :
    A.over (.compLoop (.GeneratorExp elt [⟨tg, iter, ifs, 0⟩] scope pos) 0 it acc env) [] = A.deeper env := by
  obtain ⟨hd, d, fr, gs, u⟩ := A
  simp [Around.over, Around.deeper, marksOver, frameCount, unitsOf, envsOf, guardsOf, pushEnvs, pushGuards, Code.envs, Code.env?, Code.isFrame, Code.guards, Code.isGuard, Code.weight, Code.frames, Code.isCreation, Code.isCaller, Code.cUnits]
theorem over_genS {A : Around} {elt tg iter : Expr} {ifs : List Expr} {scope : Scope} {pos : Pos} {it acc : Value} {env : Env} :
    A.over (.compStart (.GeneratorExp elt [⟨tg, iter, ifs, 0⟩] scope pos) 0 it acc env) [] = A.deeper env := by
  obtain ⟨hd, d, fr, gs, u⟩ := A
  simp [Around.over, Around.deeper, marksOver, frameCount, unitsOf, envsOf, guardsOf, pushEnvs, pushGuards, Code.envs, Code.env?, Code.isFrame, Code.guards, Code.isGuard, Code.weight, Code.frames, Code.isCreation, Code.isCaller, Code.cUnits]

/-- the context of a generator expression's frame -/
abbrev gCx (X : Cx) (B : Around) (s : Shared) (H : Hp) (cenv : Env) (fp : List Addr) (pn : List (Addr × Obj)) : Cx :=
  { X with A := B.deeper cenv, s_0 := s, H_0 := H, env := cenv, outer := X.stack, stack := cenv :: X.stack, ex := fp, fn := fun _ => false, calm := true, pn := pn, xe := fun _ _ => False }
/-- what a consumer keeps in its list of what came so far -/
abbrev OkT := List V → Array Value → Prop
/-- the consumer's list, if it has one -/
def Lk (So : Option Addr) (ok : OkT) (ys : List V) (cp : List (Addr × Obj)) : Prop := match So with
  | none => cp = []
  | some S => ∃ (acc : Array Value) (c : Nat), cp = [(S, lstObj acc c)] ∧ ok ys acc
/-- while the generator sleeps -/
structure Wk (So : Option Addr) (ok : OkT) (ys : List V) (s s' : Shared) : Prop where
  os : s'.os = s.os
  bare : AllBare s'.gens
  keep : ∀ b o, So ≠ some b → s.heap.get? b = some o → s'.heap.get? b = some o
  own : ∀ S, So = some S → ∃ acc c, s'.heap.get? S = some (lstObj acc c) ∧ ok ys acc
def GIx (Xg : Cx) (So : Option Addr) (ok : OkT) (ys : List V) (σ : L2.St) (H : Hp) (s : Shared) : Prop := ∃ cp, Lk So ok ys cp ∧ Inv Xg cp σ H s
def GYx (Xg : Cx) (So : Option Addr) (ok : OkT) (N0 : Nat) (σ : L2.St) (Gv Gn : List V → Hp → Prop) : Protocol := fun n s₀ v s kap =>
  ∃ ys x H, n + 1 + ys.length = N0 ∧ ys.length < sizeLine ∧ RelV x v ∧ (∀ S, So = some S → s.heap.get? S = s₀.heap.get? S) ∧ GIx Xg So ok ys σ H s ∧ (Gv (ys ++ [x]) H ∨ (Gn (ys ++ [x]) H ∧ ∀ s', Wk So ok (ys ++ [x]) s s' → kap (.send .none) s'))
def GRx (Xg : Cx) (So : Option Addr) (ok : OkT) (N0 : Nat) (σ : L2.St) (Fin : List V → Hp → Prop) : GenEnd := fun n s₀ r s =>
  ((r = .ok (.ret .none) ∨ r = .ok .next) ∧ ∃ ys H, n + ys.length = N0 ∧ (∀ S, So = some S → s.heap.get? S = s₀.heap.get? S) ∧ GIx Xg So ok ys σ H s ∧ Fin ys H) ∨ ∃ e, r = .error e ∧ False
/-- a list that is not tracked is written -/
theorem inv_other {Xg : Cx} {cp : List (Addr × Obj)} {σ : L2.St} {H : Hp} {s s' : Shared} {S : Addr} {acc : Array Value} {c : Nat} (I : Inv Xg cp σ H s) (hS : H S = none) (hA : Apart Xg S) (hpn : ∀ p ∈ Xg.pn, p.1 ≠ S) (hex : (s.heap.get? S).isSome)
    (os : s'.os = s.os) (bare : AllBare s'.gens) (keep : ∀ b o, b ≠ S → s.heap.get? b = some o → s'.heap.get? b = some o) (e : s'.heap.get? S = some (lstObj acc c)) : Inv Xg [] σ H s' := by
  have I0 : Inv Xg [] σ H s := I.pins_of fun p hp => I.pin p (List.mem_append_left _ (by simpa using hp))
  have nt : ∀ b u, H b = some u → b ≠ S := fun b u q hb => by rw [hb, hS] at q; cases q
  have nm : ∀ b : Addr, b ∉ [S] → b ≠ S := fun b hb z => hb (by rw [z]; exact List.mem_singleton.mpr rfl)
  refine I0.call' (ch := [S]) os ⟨fun b o q _ _ hb => keep b o (nm b hb) q, fun b o q _ _ hb => ⟨o.slots, keep b o (nm b hb) q⟩, fun b o _ n _ => n, fun b o q hb => ⟨o, keep b o (nm b hb) q⟩, fun _ _ q => q, fun _ _ _ q => q, fun b ps q => ⟨#[], by rw [q]; simp⟩⟩ (fun b u q => ?_) bare fun b hb => ?_
  · refine (I0.hok b u q).stay (fun c v hc y => keep c v ?_ y) (fun _ y => y) fun _ _ y => y
    rcases hc with y | y
    · rw [y]; exact nt b u q
    · exact nt c _ y
  · rw [List.mem_singleton.mp hb]
    exact ⟨.inr hA.1, hA.2.1, hA.2.2, fun p hp => hpn p (by simpa using hp)⟩
theorem GIx.woken {Xg : Cx} {So : Option Addr} {ok : OkT} {ys ys' : List V} {σ : L2.St} {H : Hp} {s s' : Shared} (hpn : ∀ p ∈ Xg.pn, So ≠ some p.1) (hA : ∀ S, So = some S → Apart Xg S) (h : GIx Xg So ok ys σ H s) (z : Wk So ok ys' s s') :
    GIx Xg So ok ys' σ H s' := by
  obtain ⟨cp, lk, I⟩ := h
  cases So with
  | none =>
    have e : cp = [] := lk
    subst e
    exact ⟨[], rfl, I.call' (ch := []) z.os (Un.kept fun b o e => z.keep b o (by simp) e) (I.hok.kept fun b o e => z.keep b o (by simp) e) z.bare fun b hb => absurd hb (by simp)⟩
  | some S =>
    obtain ⟨acc, c, e, r⟩ := lk
    subst e
    obtain ⟨eS, hS, hSL, hSf, _⟩ := I.pin (S, lstObj acc c) (List.mem_append_right _ List.mem_cons_self)
    obtain ⟨acc', c', e', r'⟩ := z.own S rfl
    have J : Inv Xg [] σ H s' := inv_other I hS (hA S rfl) (fun p hp e => hpn p hp (by rw [e])) (by rw [eS]; rfl) z.os z.bare (fun b o hb e => z.keep b o (fun q => hb (Option.some.inj q).symm) e) e'
    refine ⟨_, ⟨acc', c', rfl, r'⟩, J.pins_of fun p hp => ?_⟩
    rw [List.mem_singleton.mp hp]
    exact ⟨e', hS, hSL, hSf, fun v q => by cases q⟩

section
variable {X : Cx} {B : Around} {sc : Shared} {H0 : Hp} {cenv : Env} {fp : List Addr} {pn : List (Addr × Obj)} {it : Addr} {tn : Nat → Heap → Prop} {J : It} {tg iter elt : Expr} {ifs : List Expr} {scope : Scope} {pos : Pos}
  {g : TG} {tt : TT} {te : TE} {σ : L2.St} {vs : List Nat} {So : Option Addr} {ok : OkT} {Gv Gn Fin : List V → Hp → Prop} {W : Nat → Nat → List V → Hp → Prop}
/-- what a turn of the generator's loop is to do -/
def GTurn (J : It) (g : TG) (tt : TT) (te : TE) (σ : L2.St) (vs : List Nat) (Gv Gn Fin : List V → Hp → Prop) (W : Nat → Nat → List V → Hp → Prop) : Prop := ∀ i m ys H, W i m ys H →
  (J.stop i H ∧ Fin ys H) ∨ (J.go i H ∧ ∃ Nx : List V → Hp → Prop, (∀ ys' H', Nx ys' H' → ∃ m', m' < m ∧ W (i + 1) m' ys' H') ∧ ∀ x H', J.yld i H x H' → g x (wipe σ vs) H' fun σ2 H2 => wipe σ2 vs = wipe σ vs ∧ tt σ2 H2 fun b H3 =>
    if b = true then te σ2 H3 fun y H4 => ys.length < sizeLine ∧ (Gv (ys ++ [y]) H4 ∨ (Gn (ys ++ [y]) H4 ∧ Nx (ys ++ [y]) H4)) else Nx ys H3)
theorem g_stat {cp : List (Addr × Obj)} {σ' : L2.St} {H' : Hp} {s' : Shared} (I' : Inv (gCx X B sc H0 cenv fp pn) cp σ' H' s') (hn : ∀ b ∈ fp, H' b = none) (hp : ∀ p ∈ pn ++ cp, ∀ b ∈ fp, p.1 ≠ b) : ∀ b ∈ fp, FpOk (gCx X B sc H0 cenv fp pn) cp H' b := fun b hb =>
  ⟨hn b hb, (I'.ok.exf b hb).1, I'.ok.exfs b hb, .inl hb, fun x c e => (I'.ok.exf b hb).2 x c e, fun p hp' => hp p hp' b hb⟩
theorem g_loop {N0 : Nat} (hT : Turn X.prog X.w X.K tg J fp it tn) (hco : cenv.scope.isCoroutine = false) (hpn : ∀ p ∈ pn, So ≠ some p.1) (hA : ∀ S, So = some S → Apart (gCx X B sc H0 cenv fp pn) S) (hfp : ∀ b ∈ fp, So ≠ some b ∧ ∀ p ∈ pn, p.1 ≠ b)
    (pg : PG (gCx X B sc H0 cenv fp pn) tg g) (pt : PTs (gCx X B sc H0 cenv fp pn) ifs tt) (pe : PE (gCx X B sc H0 cenv fp pn) elt te) (turn : GTurn J g tt te σ vs Gv Gn Fin W) :
    ∀ (m n i : Nat) (ys : List V) (s₀ s : Shared) (H : Hp), W i m ys H → m < n → n + ys.length = N0 → GIx (gCx X B sc H0 cenv fp pn) So ok ys (wipe σ vs) H s → tn i s.heap → (∀ b ∈ fp, H b = none) → (∀ S, So = some S → s.heap.get? S = s₀.heap.get? S) →
      Seg (model X.prog X.w) B (GRx (gCx X B sc H0 cenv fp pn) So ok N0 (wipe σ vs) Fin) (GYx (gCx X B sc H0 cenv fp pn) So ok N0 (wipe σ vs) Gv Gn) n s₀ (.compLoop (.GeneratorExp elt [⟨tg, iter, ifs, 0⟩] scope pos) 0 (.ref it) .none cenv)
        ((model X.prog X.w).den (.compLoop (.GeneratorExp elt [⟨tg, iter, ifs, 0⟩] scope pos) 0 (.ref it) .none cenv)) [] s := by
  intro m
  induction m using Nat.strongRecOn with
  | ind m ih =>
    intro n i ys s₀ s H w hmn hN hI st hn hs0
    obtain ⟨cp, lk, I⟩ := hI
    have same : ∀ {σ' : L2.St} {H' : Hp} {s' : Shared}, Inv (gCx X B sc H0 cenv fp pn) cp σ' H' s' → ∀ S, So = some S → s'.heap.get? S = s₀.heap.get? S := fun {σ' H' s'} I' S e => by
      rw [← hs0 S e]
      subst e
      obtain ⟨acc, c, e, _⟩ := lk
      subst e
      rw [(I.pin (S, lstObj acc c) (List.mem_append_right _ List.mem_cons_self)).1, (I'.pin (S, lstObj acc c) (List.mem_append_right _ List.mem_cons_self)).1]
    have hcp : ∀ p ∈ cp, So = some p.1 := fun p hp => by
      cases So with
      | none => have e : cp = [] := lk; rw [e] at hp; cases hp
      | some S => obtain ⟨acc, c, e, _⟩ := lk; rw [e] at hp; rw [List.mem_singleton.mp hp]
    have hpp : ∀ p ∈ pn ++ cp, ∀ b ∈ fp, p.1 ≠ b := fun p hp b hb z => by
      rcases List.mem_append.mp hp with q | q
      · exact (hfp b hb).2 p q z
      · exact (hfp b hb).1 (by rw [← z]; exact hcp p q)
    show Seg _ B _ _ n s₀ _ ((compTurn (.GeneratorExp elt [⟨tg, iter, ifs, 0⟩] scope pos) 0 (.ref it) .none cenv).onRaise (leaving cenv)) [] s
    rw [compTurn_gen, Sem.onRaise_eq_wrap]
    refine seg_bind_wrap (wpAny_standAt ?_)
    rcases turn i m ys H w with ⟨stop, fin⟩ | ⟨go, Nx, hNx, step⟩
    · have td := hT.done (gCx X B sc H0 cenv fp pn) rfl rfl rfl rfl i cp s _ H (fun _ _ => False) I (g_stat I hn hpp) st stop
      refine seg_bind_wrap ?_
      rw [over_gen]
      refine thnF td fun r s6 ⟨hr, I6⟩ => ?_
      subst hr
      exact seg_end (.ok .next) (.inl ⟨.inr rfl, ys, H, hN, same I6, ⟨cp, lk, I6⟩, fin⟩)
    · have ti := hT.item (gCx X B sc H0 cenv fp pn) rfl rfl rfl rfl i cp s _ H (fun _ _ => False) I (g_stat I hn hpp) st go
      refine seg_bind_wrap ?_
      rw [over_gen]
      refine thnF ti fun r s6 ⟨u, hr, h6⟩ => ?_
      subst hr
      refine seg_bind_wrap ?_
      rw [over_gen]
      refine thnF h6 fun _ s7 ⟨x, H7, I7, r7, y7, st7, n7⟩ => ?_
      have I7' := I7.pinned (g_stat I7 n7 hpp) (hT.obj _ _ st7)
      refine seg_bind_wrap ?_
      rw [over_gen]
      refine thnF (pg.run _ s7 _ H7 x u _ I7' r7 (step x H7 y7)) fun _ s8 ⟨σ8, H8, I8, hw8, q8⟩ => ?_
      refine seg_bind_wrap ?_
      rw [over_gen]
      refine thnF (pt.run _ s8 σ8 H8 _ I8 q8) fun b s9 ⟨H9, I9, q9⟩ => ?_
      have back : ∀ {s' : Shared} {H' : Hp}, Inv (gCx X B sc H0 cenv fp pn) (cp ++ pinsAt fp s7.heap) σ8 H' s' → Inv (gCx X B sc H0 cenv fp pn) cp (wipe σ vs) H' s' ∧ tn (i + 1) s'.heap ∧ ∀ b ∈ fp, H' b = none := fun {s' H'} I' => by
        have pin' : ∀ b ∈ fp, ∀ o, s7.heap.get? b = some o → s'.heap.get? b = some o ∧ H' b = none := fun b hb o e =>
          let z := I'.pin (b, o) (List.mem_append_right _ (List.mem_append_right _ (mem_pinsAt hb e)))
          ⟨z.1, z.2.1⟩
        have hl : (wipe σ vs).length = σ8.length := by rw [← hw8, wipe_length]
        refine ⟨(I'.pins_of fun p hp => I'.pin p ?_).weak hl (fun j v e => ?_), hT.keep _ _ _ st7 fun b hb o e => (pin' b hb o e).1, fun b hb => ?_⟩
        · exact List.mem_append_right _ (List.mem_append_left _ hp)
        · rw [← hw8] at e
          exact (wipe_some e).1
        · obtain ⟨o, e, _⟩ := hT.obj _ _ st7 b hb
          exact (pin' b hb o e).2
      cases b with
      | false =>
        simp only [Bool.false_eq_true, if_false] at q9 ⊢
        obtain ⟨m', hm, w'⟩ := hNx _ _ q9
        obtain ⟨J9, st9, n9⟩ := back I9
        exact seg_again rfl (ih m' hm n (i + 1) ys s₀ s9 H9 w' (by omega) hN ⟨cp, lk, J9⟩ st9 n9 (same J9))
      | true =>
        simp only [if_true] at q9 ⊢
        have hy : ∀ v, yieldOut cenv v = yieldValue v := fun v => by simp only [yieldOut, hco, Bool.false_eq_true, if_false]
        simp only [hy]
        rw [Sem.bind_eq_wrap', Sem.bind_eq_wrap', Sem.wrap_wrap, Sem.wrap_wrap]
        refine seg_wrap ?_
        rw [over_gen]
        refine thnF (pe.run _ s9 σ8 H9 _ I9 q9) fun z s10 ⟨yv, H10, I10, r10, hz10, q10⟩ => ?_
        obtain ⟨J10, st10, n10⟩ := back I10
        obtain ⟨k, rfl⟩ : ∃ k, n = k + 1 := ⟨n - 1, by omega⟩
        refine seg_at (seg_yield rfl rfl rfl ⟨ys, yv, H10, hN, hz10, r10, same J10, ⟨cp, lk, J10⟩, q10.imp id fun h => ⟨h.1, fun s'' z => ?_⟩⟩)
        obtain ⟨m', hm, w'⟩ := hNx _ _ h.2
        exact seg_again rfl (ih m' hm k (i + 1) (ys ++ [yv]) s'' s'' H10 w' (by omega) (by rw [List.length_append, List.length_singleton]; omega) (GIx.woken hpn hA ⟨cp, lk, J10⟩ z)
          (hT.keep _ _ _ st10 fun b hb o e => z.keep b o (hfp b hb).1 e) n10 fun _ _ => rfl)
theorem g_start {N0 m : Nat} {s₀ s : Shared} {H : Hp} (hT : Turn X.prog X.w X.K tg J fp it tn) (hco : cenv.scope.isCoroutine = false) (hpn : ∀ p ∈ pn, So ≠ some p.1) (hA : ∀ S, So = some S → Apart (gCx X B sc H0 cenv fp pn) S) (hfp : ∀ b ∈ fp, So ≠ some b ∧ ∀ p ∈ pn, p.1 ≠ b)
    (pg : PG (gCx X B sc H0 cenv fp pn) tg g) (pt : PTs (gCx X B sc H0 cenv fp pn) ifs tt) (pe : PE (gCx X B sc H0 cenv fp pn) elt te) (turn : GTurn J g tt te σ vs Gv Gn Fin W)
    (w : W 0 m [] H) (hm : m < N0) (hI : GIx (gCx X B sc H0 cenv fp pn) So ok [] (wipe σ vs) H s) (st : tn 0 s.heap) (hn : ∀ b ∈ fp, H b = none) (hs0 : ∀ S, So = some S → s.heap.get? S = s₀.heap.get? S) :
    Seg (model X.prog X.w) B (GRx (gCx X B sc H0 cenv fp pn) So ok N0 (wipe σ vs) Fin) (GYx (gCx X B sc H0 cenv fp pn) So ok N0 (wipe σ vs) Gv Gn) N0 s₀ (.compStart (.GeneratorExp elt [⟨tg, iter, ifs, 0⟩] scope pos) 0 (.ref it) .none cenv)
      ((model X.prog X.w).den (.compStart (.GeneratorExp elt [⟨tg, iter, ifs, 0⟩] scope pos) 0 (.ref it) .none cenv)) [] s := by
  have loop := g_loop (iter := iter) (scope := scope) (pos := pos) (B := B) (N0 := N0) hT hco hpn hA hfp pg pt pe turn m N0 0 [] s₀ s H w hm (Nat.add_zero _) hI st hn hs0
  show Seg _ B _ _ N0 s₀ _ ((compStart (.GeneratorExp elt [⟨tg, iter, ifs, 0⟩] scope pos) 0 (.ref it) .none cenv).onRaise (leaving cenv)) [] s
  unfold compStart
  rw [Sem.onRaise_eq_wrap]
  show Seg _ B _ _ N0 s₀ _ ((ask >>= _).wrap _ _ _ _) [] s
  refine seg_bind_wrap (wpAny_askSetting ?_)
  split
  · exact seg_again rfl loop
  · first
      | exact seg_bind_wrap (wpAny_rule (seg_bind_wrap (wpAny_standAt (seg_bind_wrap (hT.self _ 0 s _ _ st (seg_again rfl loop))))))
      | (refine seg_bind_wrap (wpAny_rule ?_); show Seg _ B _ _ N0 s₀ _ ((standAt iter.pos >>= _).wrap _ _ _ _) [] s; exact seg_bind_wrap (wpAny_standAt (seg_bind_wrap (hT.self _ 0 s _ _ st (seg_again rfl loop)))))
end
end Dl
end
section
set_option Elab.async false
set_option linter.all false
set_option maxRecDepth 100000
set_option maxHeartbeats 1000000
namespace Dl
open PySem PySem.Spec PyProof.Rows L2 GenW
abbrev gEnvOf (X : Cx) (scope : Scope) (C : Addr) (code : Value) : Env := genEnv scope (cloFrom X.env.cells scope.names []) C code builtinsNs X.env
section
variable {X : Cx} {pins : List (Addr × Obj)} {σ : L2.St} {H : Hp} {s : Shared}
theorem gen_start {B : Around} {scope : Scope} {own : List (Str × Nat)} {fp : List Addr} {code : Value} {s5 : Shared} (I : Inv X pins σ H s) (ok : BlkOk X.N X.env.scope scope own) (hN : X.N.Nodup) (hcell : ∀ y ∈ scope.names, y.2 ≠ .cell)
    (hfp : ∀ b ∈ fp, FpOk X pins H b ∧ b < s.heap.objs.size) (hh : B.handled = none) (hBf : B.frames = some X.stack) {m : Str → Option Value} (hns : s5.heap.Ns s.heap.objs.size m) (kp : ∀ b o, s.heap.get? b = some o → s5.heap.get? b = some o) (os : s5.os = s.os) (bare : AllBare s5.gens) :
    Inv (gCx X B s H (gEnvOf X scope s.heap.objs.size code) fp []) [] (wipe σ (own.map (·.2))) H s5 := by
  have hfree : ∀ y ∈ scope.names, y.2 = .free → ∃ c, X.env.cells.lookup y.1 = some c := fun y hy e => by
    rcases ok.free y hy e with k | k
    · exact I.ok.has _ (.inl k)
    · exact I.ok.has _ (.inr k)
  have cm : ∀ {y c}, (cloFrom X.env.cells scope.names []).lookup y = some c → X.env.cells.lookup y = some c := fun {y c} e => by
    rcases cloFrom_mem (PySem.mem_of_lookup e) with hm | ⟨h1, h2⟩
    · cases hm
    · obtain ⟨c1, hc⟩ := hfree _ h1 rfl
      have hc : X.env.cells.lookup y = some c1 := hc
      have e2 : c = c1 := by
        rw [h2, hc] <;> rfl
      rw [e2]
      exact hc
  have look : ∀ {y}, scope.names.lookup y = some .free → ∃ c, (cloFrom X.env.cells scope.names []).lookup y = some c := fun {y} hl => by
    have hy : (y, NameKind.free) ∈ scope.names := PySem.mem_of_lookup hl
    exact mem_lookup (cloFrom_has (cells := X.env.cells) (acc := []) hy)
  have clt : ∀ {y c}, X.env.cells.lookup y = some c → c < s.heap.objs.size := fun {y c} e => (I.cell y c e).elim fun w z => z.lt
  refine ⟨⟨I.ok.mod, ok.kind, I.ok.glob, rfl, Nat.le_refl _, fun y z c e1 e2 => I.ok.inj y z c (cm e1) (cm e2), fun y hy => ?_, fun y c z _ => ?_, fun _ => hh, Around.frames_deeper hBf, .inr ⟨rfl, rfl⟩, fun b hb => ⟨Nat.ne_of_lt (hfp b hb).2, fun y c e => (hfp b hb).1.2.2.2.2.1 y c (cm e)⟩,
      I.bs, Nat.le_trans I.ok.bsz I.sz, fun b o e hb => ?_, fun b hb z => ?_, I.stack, I.stkFree⟩,
    os, bare, Un.kept kp, ⟨m, hns, fun i y av e1 e2 e3 => ?_⟩, fun y c e => ?_, I.hok.fresh (Nat.le_refl _), fun y c e => I.freeC y c (cm e), fun q hq => absurd (show q ∈ ([] : List (Addr × Obj)) ++ [] from hq) (by simp), I.hok.kept kp, by rw [wipe_length]; exact I.len⟩
  · have hy : scope.names.lookup y = some .cell ∨ scope.names.lookup y = some .free := hy
    rcases hy with hy | hy
    · exact absurd rfl (hcell _ (PySem.mem_of_lookup hy))
    · exact look hy
  · have z : false = true := z
    cases z
  · rcases (hfp b hb).1.2.2.2.1 with z | z
    · exact I.ok.noex b o e z
    · exact absurd (Nat.lt_of_lt_of_le (Heap.lt_size e) (Nat.le_trans I.ok.bsz z)) (Nat.lt_irrefl _)
  · rcases List.mem_cons.mp (I.stkSub b z) with z | z
    · exact (hfp b hb).1.2.1 z
    · exact (hfp b hb).1.2.2.1 z
  · obtain ⟨e2, hne⟩ := wipe_some e2
    have e3 : Vis scope y := e3
    have no : ∀ k', scope.names.lookup y = some k' → (k' = .local ∨ k' = .cell) → False := fun k' e hh => by
      rcases ok.own _ (PySem.mem_of_lookup e) hh with e' | e'
      · obtain ⟨p, hp, hpy⟩ := List.mem_map.mp e'
        have e3 := ok.ix p hp
        have : p.1 = y := hpy
        rw [this] at e3
        exact hne (List.mem_map.mpr ⟨p, hp, nodup_ix hN e3 e1⟩)
      · exact e' (List.mem_of_getElem? e1)
    rcases e3 with k | k | k
    · exact (no _ k (.inl rfl)).elim
    · exact (no _ k (.inr rfl)).elim
    · obtain ⟨m, hn, hl⟩ := I.loc
      have hvis : Vis X.env.scope y := (ok.free _ (PySem.mem_of_lookup k) rfl).elim (fun k => .inr (.inl k)) (fun k => .inr (.inr k))
      obtain ⟨w', r, q⟩ := hl i y av e1 e2 hvis
      obtain ⟨c2, h2⟩ := look k
      refine ⟨w', r, .inr ⟨.inr k, c2, h2, ?_⟩⟩
      have c1 := cm h2
      rcases q with ⟨k', _⟩ | ⟨_, c3, e', z⟩
      · have k' : X.env.scope.names.lookup y = some .local := k'
        rcases ok.free _ (PySem.mem_of_lookup k) rfl with k2 | k2 <;> rw [show X.env.scope.names.lookup y = _ from k2] at k' <;> cases k'
      · rw [c1] at e'
        cases e'
        exact z.keeps kp
  · obtain ⟨w', z⟩ := I.cell y c (cm e)
    exact ⟨w', z.keeps kp⟩
/-- how the owner sees a generator that rests -/
def CV (X : Cx) (pins : List (Addr × Obj)) (σ : L2.St) (a : Addr) (g : Nat) (So : Option Addr) (ok : OkT) (ys : List V) (H : Hp) (s : Shared) : Prop :=
  Inv X pins σ H s ∧ s.heap.IsGen a g ∧ ∀ S, So = some S → H S = none ∧ ∃ (acc : Array Value) (c : Nat), s.heap.get? S = some (lstObj acc c) ∧ ok ys acc
def CY (X : Cx) (pins : List (Addr × Obj)) (σ : L2.St) (a : Addr) (g : Nat) (So : Option Addr) (ok : OkT) (N0 : Nat) (Gv Gn : List V → Hp → Prop) : Protocol := fun n s₀ v s kap =>
  ∃ ys x H, n + 1 + ys.length = N0 ∧ ys.length < sizeLine ∧ RelV x v ∧ (∀ S, So = some S → s.heap.get? S = s₀.heap.get? S) ∧ CV X pins σ a g So ok ys H s ∧ (Gv (ys ++ [x]) H ∨ (Gn (ys ++ [x]) H ∧ ∀ s', Wk So ok (ys ++ [x]) s s' → kap (.send .none) s'))
def CRn (X : Cx) (pins : List (Addr × Obj)) (σ : L2.St) (a : Addr) (g : Nat) (So : Option Addr) (ok : OkT) (N0 : Nat) (Fin : List V → Hp → Prop) : GenEnd := fun n s₀ r s =>
  ((r = .ok (.ret .none) ∨ r = .ok .next) ∧ ∃ ys H, n + ys.length = N0 ∧ (∀ S, So = some S → s.heap.get? S = s₀.heap.get? S) ∧ CV X pins σ a g So ok ys H s ∧ Fin ys H) ∨ ∃ e, r = .error e ∧ False
/-- a generator that was made, and has not begun -/
def GMd (X : Cx) (k : Nat) (pins : List (Addr × Obj)) (σ : L2.St) (H : Hp) (N0 : Nat) (Gv Gn Fin : List V → Hp → Prop) (a : Addr) (s : Shared) : Prop :=
  ∃ g code, a < s.heap.objs.size ∧ s.heap.IsGen a g ∧ s.gens[g]? = some (.fresh code) ∧ Inv X pins σ H s ∧
    ∀ (B : Around) (So : Option Addr) (ok : OkT) (s2 : Shared), Room (k + 1) B → B.frames = some X.stack → (∀ S, So = some S → s.heap.objs.size ≤ S) → s2.os = s.os → AllBare s2.gens → (∀ b o, s.heap.get? b = some o → s2.heap.get? b = some o) →
      (∀ S, So = some S → ∃ (acc : Array Value) (c : Nat), s2.heap.get? S = some (lstObj acc c) ∧ ok [] acc) → Seg (model X.prog X.w) B (CRn X pins σ a g So ok N0 Fin) (CY X pins σ a g So ok N0 Gv Gn) N0 s2 code ((model X.prog X.w).den code) [] s2
theorem gcx_pins {B : Around} {cenv : Env} {fp : List Addr} {pn cp : List (Addr × Obj)} {sc s1 : Shared} {H0 H' : Hp} {σ' : L2.St} (I : Inv (gCx X B sc H0 cenv fp []) [] σ' H' s1)
    (h : ∀ p ∈ pn ++ cp, s1.heap.get? p.1 = some p.2 ∧ H' p.1 = none ∧ p.1 ≠ cenv.locals ∧ p.1 ∉ frs X.stack ∧ ∀ v, p.2.data ≠ .cell v) : Inv (gCx X B sc H0 cenv fp pn) cp σ' H' s1 :=
  ⟨⟨I.ok.mod, I.ok.kind, I.ok.glob, I.ok.blt, I.ok.above, I.ok.inj, I.ok.has, I.ok.cab, I.ok.hd, I.ok.frames, I.ok.stk, I.ok.exf, I.ok.bs, I.ok.bsz, I.ok.noex, I.ok.exfs, I.ok.funs, I.ok.frf⟩, I.os, I.bare, I.base, I.loc, I.cell, I.free, I.freeC, h, I.hok, I.len⟩
theorem stk_young (I : Inv X pins σ H s) {b : Addr} (hb : s.heap.objs.size ≤ b) : b ∉ frs X.stack := fun z => by
  rcases List.mem_cons.mp (I.stkSub _ z) with e | e
  · have h1 := I.lt
    rw [← e] at h1
    exact Nat.lt_irrefl _ (Nat.lt_of_lt_of_le h1 hb)
  · exact I.nofs hb e
theorem gen_made {k : Nat} {elt tg iter : Expr} {ifs : List Expr} {scope : Scope} {own : List (Str × Nat)} {pos : Pos} {g : TG} {tt : TT} {te : TE} {fp : List Addr} {it : Addr} {tn : Nat → Heap → Prop} {J : It} {W : Nat → Nat → List V → Hp → Prop} {m N0 : Nat} {Gv Gn Fin : List V → Hp → Prop} {code : Value} {h' : Heap} {tk : Nat} {go : Obj} {mm : Str → Option Value} {nm qn : Value}
    (hN : X.N.Nodup) (ok : BlkOk X.N X.env.scope scope own) (hcell : ∀ y ∈ scope.names, y.2 ≠ .cell) (hco : scope.isCoroutine = false)
    (hg : ∀ (B : Around) (s : Shared) (H : Hp) (C : Addr) (code : Value) (fp : List Addr) (pn : List (Addr × Obj)), Room k (B.deeper (gEnvOf X scope C code)) → PG (gCx X B s H (gEnvOf X scope C code) fp pn) tg g)
    (ht : ∀ (B : Around) (s : Shared) (H : Hp) (C : Addr) (code : Value) (fp : List Addr) (pn : List (Addr × Obj)), Room k (B.deeper (gEnvOf X scope C code)) → PTs (gCx X B s H (gEnvOf X scope C code) fp pn) ifs tt)
    (he : ∀ (B : Around) (s : Shared) (H : Hp) (C : Addr) (code : Value) (fp : List Addr) (pn : List (Addr × Obj)), Room k (B.deeper (gEnvOf X scope C code)) → PE (gCx X B s H (gEnvOf X scope C code) fp pn) elt te)
    (I : Inv X pins σ H s) (hT : Turn X.prog X.w X.K tg J fp it tn) (st : tn 0 s.heap) (hfp : ∀ b ∈ fp, FpOk X pins H b ∧ b < s.heap.objs.size)
    (hn' : h'.Ns s.heap.objs.size mm) (hs' : Heap.SameBut s.heap.objs.size (s.heap.push { cls := .type "frame", data := .dict #[] }) h')
    (hgo : go = { cls := .type "generator", data := .fields #[.int s.gens.size 0, nm, qn] })
    (turn : GTurn J g tt te σ (own.map (·.2)) Gv Gn Fin W) (w : W 0 m [] H) (hm : m < N0) :
    GMd X k pins σ H N0 Gv Gn Fin h'.objs.size { s with gens := s.gens.push (.fresh (.compStart (.GeneratorExp elt [⟨tg, iter, ifs, 0⟩] scope pos) 0 (.ref it) .none (gEnvOf X scope s.heap.objs.size code))), toks := tk, heap := h'.push go } := by
  have hsz : h'.objs.size = s.heap.objs.size + 1 := by rw [hs'.1, Heap.size_push]
  have keep' : ∀ b o, s.heap.get? b = some o → h'.get? b = some o := fun b o e => hs'.extBut b o (Nat.ne_of_lt (Heap.lt_size e)) (Heap.get?_push_of_some _ e)
  have kp : ∀ b o, s.heap.get? b = some o → (h'.push go).get? b = some o := fun b o e => Heap.get?_push_of_some _ (keep' b o e)
  have hpg : (h'.push go).get? h'.objs.size = some go := Heap.get?_push_size _ (by rw [hgo]; rfl)
  have hgc : ∀ v, go.data ≠ .cell v := fun v q => by rw [hgo] at q; cases q
  have hgen : ∀ h : Heap, h.get? h'.objs.size = some go → h.IsGen h'.objs.size s.gens.size := fun h e => ⟨go, nm, qn, e, by rw [hgo], by rw [hgo], by rw [hgo]⟩
  have I5 : Inv X pins σ H { s with gens := s.gens.push (.fresh (.compStart (.GeneratorExp elt [⟨tg, iter, ifs, 0⟩] scope pos) 0 (.ref it) .none (gEnvOf X scope s.heap.objs.size code))), toks := tk, heap := h'.push go } :=
    I.call' (ch := []) rfl (Un.kept kp) (I.hok.kept kp) (AllBare.push I.bare rfl) fun b hb => absurd hb (by simp)
  refine ⟨s.gens.size, _, ?_, hgen _ hpg, Array.getElem?_push_size .., I5, ?_⟩
  · show h'.objs.size < (h'.push go).objs.size
    rw [Heap.size_push]; exact Nat.lt_succ_self _
  intro B So ok' s2 hrB hBf hSo os2 bare2 keep2 own2
  have kp2 : ∀ b o, s.heap.get? b = some o → s2.heap.get? b = some o := fun b o e => keep2 b o (kp b o e)
  have J0 : Inv (gCx X B s H (gEnvOf X scope s.heap.objs.size code) fp []) [] (wipe σ (own.map (·.2))) H s2 :=
    gen_start I ok hN hcell hfp hrB.hd hBf (Heap.Ns.keeps hn' fun b o e => keep2 b o (Heap.get?_push_of_some _ e)) kp2 os2 bare2
  have ea : s2.heap.get? h'.objs.size = some go := keep2 _ _ hpg
  have hSz : ∀ S, So = some S → h'.objs.size < S := fun S e => by
    have := hSo S e
    have this : (h'.push go).objs.size ≤ S := this
    rw [Heap.size_push] at this
    exact this
  have young : ∀ b, h'.objs.size ≤ b → H b = none ∧ b ≠ s.heap.objs.size ∧ b ∉ frs X.stack := fun b hb =>
    have h1 : s.heap.objs.size < b := by rw [hsz] at hb; exact hb
    ⟨I.hok.fresh (Nat.le_of_lt h1), Nat.ne_of_gt h1, stk_young I (Nat.le_of_lt h1)⟩
  have hpin : ∀ cp, Lk So ok' [] cp → (∀ p ∈ cp, s2.heap.get? p.1 = some p.2) → Inv (gCx X B s H (gEnvOf X scope s.heap.objs.size code) fp [(h'.objs.size, go)]) cp (wipe σ (own.map (·.2))) H s2 := fun cp lk hcp => by
    refine gcx_pins J0 fun p hp => ?_
    rcases List.mem_append.mp hp with z | z
    · rw [List.mem_singleton.mp z]
      obtain ⟨y1, y2, y3⟩ := young h'.objs.size (Nat.le_refl _)
      exact ⟨ea, y1, y2, y3, hgc⟩
    · cases So with
      | none => have e : cp = [] := lk; rw [e] at z; cases z
      | some S =>
        have e1 := hcp p z
        obtain ⟨acc, c, e, _⟩ := lk
        rw [e] at z
        have z := List.mem_singleton.mp z
        obtain ⟨y1, y2, y3⟩ := young S (Nat.le_of_lt (hSz S rfl))
        refine ⟨e1, ?_, ?_, ?_, ?_⟩ <;> rw [z]
        · exact y1
        · exact y2
        · exact y3
        · exact fun v q => by cases q
  have hG : GIx (gCx X B s H (gEnvOf X scope s.heap.objs.size code) fp [(h'.objs.size, go)]) So ok' [] (wipe σ (own.map (·.2))) H s2 := by
    cases So with
    | none => exact ⟨[], rfl, hpin [] rfl fun p hp => absurd hp (by simp)⟩
    | some S =>
      obtain ⟨acc, c, e, o⟩ := own2 S rfl
      refine ⟨[(S, lstObj acc c)], ⟨acc, c, rfl, o⟩, hpin _ ⟨acc, c, rfl, o⟩ fun p hp => ?_⟩
      rw [List.mem_singleton.mp hp]
      exact e
  have hpn : ∀ p ∈ [(h'.objs.size, go)], So ≠ some p.1 := fun p hp e => by
    have := hSz _ e
    rw [List.mem_singleton.mp hp] at this
    exact Nat.lt_irrefl _ this
  have hA : ∀ S, So = some S → Apart (gCx X B s H (gEnvOf X scope s.heap.objs.size code) fp [(h'.objs.size, go)]) S := fun S e => by
    have h1 := hSz S e
    obtain ⟨_, y2, _⟩ := young S (Nat.le_of_lt h1)
    refine ⟨Nat.le_of_lt (Nat.lt_of_le_of_lt (by rw [hsz]; exact Nat.le_succ _) h1), y2, fun x c e z => ?_⟩
    obtain ⟨v, q⟩ := J0.cell x c e
    have e2 : c < s.heap.objs.size := by
      have := J0.cell x c e
      have hfree : ∀ y ∈ scope.names, y.2 = .free → ∃ c, X.env.cells.lookup y.1 = some c := fun y hy e => by
        rcases ok.free y hy e with k | k
        · exact I.ok.has _ (.inl k)
        · exact I.ok.has _ (.inr k)
      rcases cloFrom_mem (PySem.mem_of_lookup (show (cloFrom X.env.cells scope.names []).lookup x = some c from e)) with hm | ⟨h1, h2⟩
      · cases hm
      · obtain ⟨c1, hc⟩ := hfree _ h1 rfl
        have hc : X.env.cells.lookup x = some c1 := hc
        rw [hc] at h2
        have h2 : c = c1 := h2
        rw [h2]
        exact (I.cell _ _ hc).elim fun w z => z.lt
    rw [z] at e2
    exact Nat.lt_irrefl _ (Nat.lt_trans (Nat.lt_trans (by rw [hsz]; exact Nat.lt_succ_self _) h1) e2)
  have hfp2 : ∀ b ∈ fp, So ≠ some b ∧ ∀ p ∈ [(h'.objs.size, go)], p.1 ≠ b := fun b hb => by
    have h1 := (hfp b hb).2
    refine ⟨fun e => ?_, fun p hp e => ?_⟩
    · have h2 := hSz b e
      exact Nat.lt_irrefl _ (Nat.lt_trans (Nat.lt_trans (by rw [hsz]; exact Nat.lt_succ_self _) h2) h1)
    · rw [List.mem_singleton.mp hp] at e
      have e : h'.objs.size = b := e
      rw [← e] at h1
      exact Nat.lt_irrefl _ (Nat.lt_trans (by rw [hsz]; exact Nat.lt_succ_self _) h1)
  have conv : ∀ {ys : List V} {H' : Hp} {s' : Shared}, GIx (gCx X B s H (gEnvOf X scope s.heap.objs.size code) fp [(h'.objs.size, go)]) So ok' ys (wipe σ (own.map (·.2))) H' s' → CV X pins σ h'.objs.size s.gens.size So ok' ys H' s' := fun {ys H' s'} ⟨cp, lk, J⟩ => by
    refine ⟨I.call' (ch := fp) J.os J.base J.hok J.bare fun b hb => ⟨(hfp b hb).1.2.2.2.1, (hfp b hb).1.2.1, (hfp b hb).1.2.2.2.2.1, (hfp b hb).1.2.2.2.2.2⟩, hgen _ (J.pin (h'.objs.size, go) (List.mem_append_left _ (List.mem_singleton.mpr rfl))).1, fun S e => ?_⟩
    subst e
    obtain ⟨acc, c, e, o⟩ := lk
    subst e
    have p := J.pin (S, lstObj acc c) (List.mem_append_right _ List.mem_cons_self)
    exact ⟨p.2.1, acc, c, p.1, o⟩
  refine seg_imp (R := GRx (gCx X B s H (gEnvOf X scope s.heap.objs.size code) fp [(h'.objs.size, go)]) So ok' N0 (wipe σ (own.map (·.2))) Fin) (Y := GYx (gCx X B s H (gEnvOf X scope s.heap.objs.size code) fp [(h'.objs.size, go)]) So ok' N0 (wipe σ (own.map (·.2))) Gv Gn)
    (fun n s₀ r s1' hR => ?_) (fun n s₀ v s1' kap kap' hkk hY => ?_) N0 ?_
  · rcases hR with ⟨h1, ys, H', h2, h0, h3, h4⟩ | ⟨e, _, z⟩
    · exact .inl ⟨h1, ys, H', h2, h0, conv h3, h4⟩
    · exact z.elim
  · obtain ⟨ys, x, H', h1, h2, h3, h0, h4, h5⟩ := hY
    exact ⟨ys, x, H', h1, h2, h3, h0, conv h4, h5.imp id fun h => ⟨h.1, fun s' z => hkk _ _ (h.2 s' z)⟩⟩
  · have hrd := hrB.deeper (gEnvOf X scope s.heap.objs.size code)
    exact g_start hT hco hpn hA hfp2 (hg B s H _ _ fp _ hrd) (ht B s H _ _ fp _ hrd) (he B s H _ _ fp _ hrd) turn w hm hG (hT.keep _ _ _ st fun b hb o e => kp2 b o e) (fun b hb => (hfp b hb).1.1) fun _ _ => rfl
theorem gen_make {k : Nat} {c P : Addr} {T : List (Addr × Str)} {elt tg iter : Expr} {ifs : List Expr} {scope : Scope} {own : List (Str × Nat)} {pos : Pos} {wi : TI} {g : TG} {tt : TT} {te : TE} {Q' : Value → Shared → Prop}
    (hr : Room k X.A) (TB : LamX.TabB X.base X.mg c P) (hcode : X.env.code = .ref c) (hmT : (P, X.env.qual ++ "<genexpr>") ∈ T) (hu : ∀ p ∈ T, p.1 = P → p.2 = X.env.qual ++ "<genexpr>")
    (hN : X.N.Nodup) (ok : BlkOk X.N X.env.scope scope own) (hcell : ∀ y ∈ scope.names, y.2 ≠ .cell) (h0 : scope.names.lookup (".0" : Str) = some NameKind.local) (hco : scope.isCoroutine = false) (hs : ∀ v, genFold iter X.env v = pure v) (hi : PI X tg iter wi)
    (hg : ∀ (B : Around) (s : Shared) (H : Hp) (C : Addr) (code : Value) (fp : List Addr) (pn : List (Addr × Obj)), Room k (B.deeper (gEnvOf X scope C code)) → PG (gCx X B s H (gEnvOf X scope C code) fp pn) tg g)
    (ht : ∀ (B : Around) (s : Shared) (H : Hp) (C : Addr) (code : Value) (fp : List Addr) (pn : List (Addr × Obj)), Room k (B.deeper (gEnvOf X scope C code)) → PTs (gCx X B s H (gEnvOf X scope C code) fp pn) ifs tt)
    (he : ∀ (B : Around) (s : Shared) (H : Hp) (C : Addr) (code : Value) (fp : List Addr) (pn : List (Addr × Obj)), Room k (B.deeper (gEnvOf X scope C code)) → PE (gCx X B s H (gEnvOf X scope C code) fp pn) elt te)
    (I : Inv X pins σ H s) (h : wi σ H fun J H1 => LamX.Tabs T H1 ∧ ∀ H2, LamX.ExtN H1 H2 → LamX.Tabs T H2 → ∃ W m N0 Gv Gn Fin, m < N0 ∧ GTurn J g tt te σ (own.map (·.2)) Gv Gn Fin W ∧ W 0 m [] H2 ∧ ∀ a s5, GMd X k pins σ H2 N0 Gv Gn Fin a s5 → Q' (.ref a) s5) :
    wpAny (model X.prog X.w) X.A (eval (.GeneratorExp elt [⟨tg, iter, ifs, 0⟩] scope pos) X.env) Q' X.xe s := by
  have hfree : ∀ y ∈ scope.names, y.2 = .free → ∃ c, X.env.cells.lookup y.1 = some c := fun y hy e => by
    rcases ok.free y hy e with k | k
    · exact I.ok.has _ (.inl k)
    · exact I.ok.has _ (.inr k)
  refine wpAny_GeneratorExp_make hco (closure_ok hfree) hcell h0 ok.kind (by have := hr.dp; omega) (thn (hi.run pins s σ H _ I h) fun xv s1 hx => thn hx fun itv s2 h2 => ?_) hs
  obtain ⟨it, fp, tn, J, H1, e, I2, hT, st2, f2, hT1, q⟩ := h2
  subst e
  refine ⟨I2.nolimit, ?_⟩
  have sz : ∀ b ∈ fp, b < s2.heap.objs.size := fun b hb => by
    obtain ⟨o, e, _⟩ := hT.obj _ _ st2 b hb
    exact Heap.lt_size e
  have cont : ∀ (code : Value) (H3 : Hp) (s4 : Shared), Inv X pins σ H3 s4 → LamX.ExtN H1 H3 → LamX.Tabs T H3 → (∀ b ∈ fp, H3 b = none) → tn 0 s4.heap → s2.heap.objs.size ≤ s4.heap.objs.size →
      wpAny (model X.prog X.w) X.A (builtinsFor X.env.globals X.env.builtins) (fun bi s₄ =>
        ∀ h', h'.Ns s₄.heap.objs.size (fun y => if y = ".0" then some (Value.ref it) else none) → Heap.SameBut s₄.heap.objs.size (s₄.heap.push { cls := .type "frame", data := .dict #[] }) h' →
          Q' (.ref h'.objs.size) { s₄ with
            gens := s₄.gens.push (.fresh (.compStart (.GeneratorExp elt [⟨tg, iter, ifs, 0⟩] scope pos) 0 (.ref it) .none (genEnv scope (cloFrom X.env.cells scope.names []) s₄.heap.objs.size code bi X.env))),
            toks := s₄.toks + 1 + 1 + 1,
            heap := h'.push { cls := .type "generator", data := .fields #[.int s₄.gens.size 0, .str "<genexpr>" (s₄.toks + 1), .str (X.env.qual ++ "<genexpr>") (s₄.toks + 1 + 1)] } }) X.xe s4 := by
    intro code H3 s4 I4 hE hT3 hn3 st4 hsz4
    obtain ⟨bm, ob, e1, e2, e3, e4, e5, e6, e7, e8⟩ := TB.bm
    refine wpAny_builtinsFor (m := X.mg) (by rw [I4.ok.glob]; exact I4.mod.glob.keeps I4.bk) e1 e2 (I4.bk _ _ e5) e6 e7 e8 ?_
    intro h' hn' hs'
    obtain ⟨W, m, N0, Gv, Gn, Fin, hm, turn, w, fin⟩ := q H3 hE hT3
    refine fin _ _ (gen_made hN ok hcell hco hg ht he I4 hT st4 (fun b hb => ⟨⟨hn3 b hb, (f2 b hb).2⟩, Nat.lt_of_lt_of_le (sz b hb) hsz4⟩) hn' hs' rfl turn w hm)
  obtain ⟨ps, hP, ht2, ha⟩ := hT1 _ hmT
  have hP' : s2.heap.get? P = some { cls := .none, data := .fields ps } := I2.hok P _ hP
  have cd := TB.code.keeps I2.bk
  cases hf : codeAmong pos ps.toList with
  | none =>
    refine wpAny_genexprCodeX hcode (cd.code hP' ht2) (cd.tab hP') hf fun c' h3 tk hx hge hlt hco' hrec htab _ => ?_
    obtain ⟨c2, oc, vs, t, e2, hoc, hd, hv⟩ := hrec
    cases e2
    have nC : H1 c' = none := I2.hok.fresh hge
    have eL : (ps ++ #[rawInt pos.line, rawInt pos.col, .ref c']).toList = ps.toList ++ [rawInt pos.line, rawInt pos.col, .ref c'] := by simp
    have I3 := LamX.inv_table (t' := tk) (q := X.env.qual ++ "<genexpr>") (more := #[rawInt pos.line, rawInt pos.col, .ref c']) (h' := h3) I2 hP (fun b o hb e => hx b o hb e) htab.2 hge ⟨oc, vs, t, hoc, hd, hv⟩
    have hE : LamX.ExtN H1 (upd (upd H1 P (.tbl (ps ++ #[rawInt pos.line, rawInt pos.col, .ref c']))) c' (LamX.CodeO c' (X.env.qual ++ "<genexpr>"))) := fun b o e n => by
      rw [upd_ne (ne_of_none e nC), upd_ne (fun z => n ps (Option.some.inj (e.symm.trans (by rw [z]; exact hP))))]
      exact e
    refine cont _ _ _ I3 hE (fun p hp => ?_) (fun b hb => ?_) (hT.keep _ _ _ st2 fun b hb o e => hx b o (fun z => ?_) e) (Nat.le_trans hge (Nat.le_of_lt hlt))
    · by_cases hb : p.1 = P
      · rw [hu p hp hb, hb]
        refine ⟨_, by rw [upd_ne (ne_of_none hP nC), upd_same], by rw [eL]; exact PySem.TriplesOk_snoc _ _ _ _ ht2, fun p' cv hcv => ?_⟩
        rw [eL] at hcv
        rcases LamX.among_app _ ht2 hcv with z | z
        · obtain ⟨c0, e1, e2⟩ := ha p' cv z
          exact ⟨c0, e1, hE _ _ (by rw [e2]) LamX.codeO_ne⟩
        · exact ⟨c', z, upd_same⟩
      · obtain ⟨ps', a1, a2, a3⟩ := hT1 p hp
        refine ⟨ps', by rw [upd_ne (ne_of_none a1 nC), upd_ne hb]; exact a1, a2, fun p' cv hcv => ?_⟩
        obtain ⟨c0, e1, e2⟩ := a3 p' cv hcv
        exact ⟨c0, e1, hE _ _ e2 LamX.codeO_ne⟩
    · have h1 := (f2 b hb).1
      rw [upd_ne (Nat.ne_of_lt (Nat.lt_of_lt_of_le (sz b hb) hge)), upd_ne (fun z => by rw [z, hP] at h1; cases h1)]
      exact h1
    · have h1 := (f2 b hb).1
      rw [z, hP] at h1
      cases h1
  | some cv =>
    refine wpAny_genexprCode_hit hcode (cd.code hP' ht2) hf ?_
    exact cont cv H1 s2 I2 (LamX.ExtN.refl H1) hT1 (fun b hb => (f2 b hb).1) st2 (Nat.le_refl _)
end
end Dl
end
section
set_option Elab.async false
set_option linter.all false
set_option maxRecDepth 100000
set_option maxHeartbeats 1000000
namespace Dl
open PySem PySem.Spec PyProof.Rows L2 GenW
section
variable {X : Cx} {pins : List (Addr × Obj)} {σ : L2.St} {a : Addr} {g : Nat} {So : Option Addr} {ok : OkT} {N0 : Nat} {Gv Gn Fin : List V → Hp → Prop} {B : Around}
theorem CV.set {ys : List V} {H : Hp} {s : Shared} (c : CV X pins σ a g So ok ys H s) {x : GenState} (hx : x.bare = true) : CV X pins σ a g So ok ys H (s.setGen g x) :=
  ⟨c.1.call' (ch := []) rfl (Un.kept fun _ _ e => e) c.1.hok (allBare_setGen c.1.bare hx) fun b hb => absurd hb (by simp), c.2⟩
theorem CV.kept {ys : List V} {H : Hp} {s : Shared} (c : CV X pins σ a g So ok ys H s) {h' : Heap} (k : ∀ b o, s.heap.get? b = some o → h'.get? b = some o) : CV X pins σ a g So ok ys H { s with heap := h' } :=
  ⟨c.1.call' (ch := []) rfl (Un.kept k) (c.1.hok.kept k) c.1.bare fun b hb => absurd hb (by simp), c.2.1.keeps k, fun S e => ⟨(c.2.2 S e).1, (c.2.2 S e).2.imp fun acc z => z.imp fun cc z => ⟨k _ _ z.1, z.2⟩⟩⟩
/-- a generator that can be asked n times -/
def Lv (X : Cx) (pins : List (Addr × Obj)) (σ : L2.St) (a : Addr) (g : Nat) (So : Option Addr) (ok : OkT) (N0 : Nat) (Gv Gn Fin : List V → Hp → Prop) (B : Around) (n : Nat) (s : Shared) : Prop :=
  s.heap.IsGen a g ∧ s.heap.NoLimit ∧ ∃ gs, s.gens[g]? = some gs ∧ gs.Goes (model X.prog X.w) B.in1 (CRn X pins σ a g So ok N0 Fin) (CY X pins σ a g So ok N0 Gv Gn) n (.send .none) (s.setGen g .running)
theorem next_c {n : Nat} {s : Shared} {Q : Option Value → Shared → Prop} {E : Value → Shared → Prop} (hh : B.handled = none) (hd : B.depth < recursionLimit) (ha : So ≠ some a) (hc : So ≠ some cStatics) (h : Lv X pins σ a g So ok N0 Gv Gn Fin B n s)
    (hY : ∀ ys x v H s1, RelV x v → (∀ S, So = some S → s1.heap.get? S = s.heap.get? S) → CV X pins σ a g So ok ys H s1 → ys.length < sizeLine → (Gv (ys ++ [x]) H ∨ (Gn (ys ++ [x]) H ∧ ∀ s', s'.gens = s1.gens → Wk So ok (ys ++ [x]) s1 s' → ∃ m, m < n ∧ Lv X pins σ a g So ok N0 Gv Gn Fin B m s')) → Q (some v) s1)
    (hP : ∀ ys H s1, (∀ S o, So = some S → s.heap.get? S = some o → s1.heap.get? S = some o) → CV X pins σ a g So ok ys H s1 → Fin ys H → Q none s1) : wpAny (model X.prog X.w) B (pyNext (.ref a)) Q E s := by
  obtain ⟨hg, hl, gs, hgs, hgo⟩ := h
  have hgo' : gs.Goes (model X.prog X.w) B.in1 (fun n s₀ r s₁ => ((r = .ok (.ret .none) ∨ r = .ok .next) ∧ ∃ ys H, n + ys.length = N0 ∧ (∀ S, So = some S → s₁.heap.get? S = s₀.heap.get? S) ∧ CV X pins σ a g So ok ys H s₁ ∧ Fin ys H) ∨ ∃ e, r = .error e ∧ False) (CY X pins σ a g So ok N0 Gv Gn) n (.send .none) (s.setGen g .running) := hgo
  have hlt : ∀ (s1 : Shared), s.gens.size ≤ s1.gens.size → g < s1.gens.size := fun s1 h => by
    have : g < s.gens.size := by
      rcases Nat.lt_or_ge g s.gens.size with h' | h'
      · exact h'
      · rw [Array.getElem?_eq_none h'] at hgs; cases hgs
    omega
  refine wpAny_gsz (n := s.gens.size) (Nat.le_refl _) ?_
  refine next_genG hh hl hd hg hgs hgo' (fun v s₁ gs' hb hv => ?_) (fun s₁ hp h' hk => ?_) fun e s₁ z => z.elim
  · obtain ⟨ys, x, H, h1, h2, h3, h0, h4, h5⟩ := hv
    intro hsz
    refine hY ys x v H _ h3 h0 (h4.set hb) h2 (h5.imp id fun h => ⟨h.1, fun s' hgn z => ?_⟩)
    have hk := h.2 (s'.setGen g .running) ⟨z.os, allBare_setGen z.bare rfl, fun b o hb e => z.keep b o hb e, z.own⟩
    cases n with
    | zero => exact False.elim hk
    | succ m =>
      refine ⟨m, Nat.lt_succ_self _, ?_, ?_, gs', ?_, hk⟩
      · obtain ⟨o, nm, qn, ho, r⟩ := h4.2.1
        exact ⟨o, nm, qn, z.keep a o ha ho, r⟩
      · have nl : s₁.heap.NoLimit := h4.1.nolimit
        obtain ⟨mc, hns, hnn⟩ := nl
        exact ⟨mc, hns.at' fun o e => z.keep cStatics o hc e, hnn⟩
      · rw [hgn]
        exact setGen_at (hlt _ (by rw [setGen_size] at hsz; exact hsz))
  · obtain ⟨ys, H, h1, h0, h2, h3⟩ := hp
    intro _
    exact hP ys H _ (fun S o e q => hk _ _ (by rw [h0 S e]; exact q)) ((h2.set (x := .finished) rfl).kept hk) h3
/-- the list is the items -/
abbrev okVals : OkT := fun ys acc => Vals ys acc.toList ∧ ys.length ≤ sizeLine
theorem vals_size {ys : List V} {acc : Array Value} (h : Vals ys acc.toList) : acc.size = ys.length := by
  have e1 := h.length
  have e2 : acc.toList.length = acc.size := by simp
  omega
theorem ext_loop {A : Around} {S : Addr} {res : Value} {R : Result → Shared → Prop} (hh : A.handled = none) (hd : A.depth < recursionLimit) (hSa : S ≠ a) (hSc : S ≠ cStatics) (hGv : ∀ ys H, ¬ Gv ys H)
    (hend : ∀ ys H s', CV X pins σ a g (some S) okVals ys H s' → Fin ys H → R (.ok (.ret res)) s') : ∀ (n : Nat) (s : Shared), Lv X pins σ a g (some S) okVals N0 Gv Gn Fin A.in1 n s →
      codeAny (model X.prog X.w) A (.builtin "list.extend.loop" ⟨[.ref S, .ref a, res], []⟩) R s := by
  intro n
  induction n using Nat.strongRecOn with
  | ind n ih =>
    intro s h
    refine codeAny_builtin F.entry_extend_loop ?_
    rw [Around.under_plainId F.plain_extend_loop _]
    show wpAny _ A.in1 (pyNext (.ref a) >>= _) _ _ s
    refine wpAny_bind (next_c (B := A.in1) hh hd (fun e => hSa (Option.some.inj e)) (fun e => hSc (Option.some.inj e)) h (fun ys x v H s1 rv _ hcv hlt hor => ?_) (fun ys H s1 _ hcv hf => wpAny_pure (hend ys H s1 hcv hf)))
    rcases hor with z | ⟨_, hk⟩
    · exact (hGv _ _ z).elim
    obtain ⟨hS0, acc, c, eS, hv, _⟩ := hcv.2.2 S rfl
    have hsz := vals_size hv
    show wpAny _ A.in1 (updateSeq S (·.push v) >>= _) _ _ _
    refine wpAny_bind (wpAny_updateSeq eS rfl (wpAny_pure ⟨plainId_quiet F.plain_extend_loop _, ?_⟩) (by rw [hsz]; omega) (by show (acc.push v).size ≤ sizeLine + 1; rw [Array.size_push, hsz]; omega))
    have hw : Wk (some S) okVals (ys ++ [x]) s1 { s1 with heap := s1.heap.update S (Obj.mapSeq (·.push v)) } := by
      refine ⟨rfl, hcv.1.bare, fun b o hb e => (Heap.get?_update_other _ _ (fun z => hb (by rw [z]))).trans e, fun S' e => ?_⟩
      cases e
      refine ⟨acc.push v, _, Heap.get?_update_self _ eS rfl, ?_, by rw [List.length_append, List.length_singleton]; omega⟩
      show Vals _ (acc.push v).toList
      rw [Array.toList_push]
      exact hv.append (.cons rv .nil)
    have hk2 := hk { s1 with heap := s1.heap.update S (Obj.mapSeq (·.push v)) } rfl hw
    obtain ⟨m, hm, hl⟩ := hk2
    exact ih m hm _ hl
/-- collect(g) -/
theorem collect_c {k : Nat} {A : Around} {H : Hp} {s : Shared} {Q : List Value → Shared → Prop} {E : Value → Shared → Prop} (hr : Room (k + 2) A) (hfr : A.frames = some X.stack) (hGv : ∀ ys H, ¬ Gv ys H) (G : GMd X k pins σ H N0 Gv Gn Fin a s)
    (hQ : ∀ ys us H' s', Inv X pins σ H' s' → Fin ys H' → Vals ys us → ys.length ≤ sizeLine → Q us s') : wpAny (model X.prog X.w) A (collect (.ref a)) Q E s := by
  obtain ⟨g, code, ha, hg, hgs, I, wake⟩ := G
  have hSa : s.heap.objs.size ≠ a := Nat.ne_of_gt ha
  have hSc : s.heap.objs.size ≠ cStatics := let ⟨_, hn, _⟩ := I.nolimit; Nat.ne_of_gt hn.lt
  unfold collect
  refine wpAny_bind (wpAny_runValue (codeAny_builtin F.entry_proto_collect ?_))
  rw [Around.under_plainId F.plain_proto_collect _]
  show wpAny _ A.in1 (newList [] >>= fun l => again (.builtin "list.__iadd__" ⟨[l, .ref a], []⟩)) _ _ s
  refine wpAny_bind (wpAny_newObj_type ?_)
  refine wpAny_pure ⟨plainId_quiet F.plain_list_iadd _, codeAny_builtin F.entry_list_iadd ?_⟩
  rw [Around.under_plainId F.plain_list_iadd _]
  have k1 : ∀ b o, s.heap.get? b = some o → (s.heap.push { cls := .type "list", data := .seq ([] : List Value).toArray }).get? b = some o := fun b o e => Heap.get?_push_of_some _ e
  show wpAny _ A.in1 (Builtin.List.listExtendWith (.ref s.heap.objs.size) (.ref a) (.ref s.heap.objs.size)) _ _ _
  unfold Builtin.List.listExtendWith
  have gty : ∀ {h : Heap}, (∀ b o, s.heap.get? b = some o → h.get? b = some o) → h.IsGen a g := fun {h} q => hg.keeps q
  refine wpAny_bind (wpAny_typeOf (Heap.IsGen.typeIs (s := { s with heap := _ }) (gty k1)) ?_)
  have h1 : Builtin.List.listSameRef (.ref s.heap.objs.size) (.ref a) = false := by simp [Builtin.List.listSameRef, hSa]
  have h2 : (Value.type "generator" == Value.type "list") = false := by decide
  have h3 : (Value.type "generator" == Value.type "tuple") = false := by decide
  simp only [h1, h2, h3, Bool.or_false, Bool.false_eq_true, if_false]
  refine wpAny_bind (wpAny_pyIter_gen (s := { s with heap := _ }) (gty k1) ?_)
  refine wpAny_bind (wpAny_holding ?_)
  unfold Builtin.List.listLengthHint
  refine wpAny_bind (wpAny_specialOf (Heap.IsGen.typeIs (s := { s with heap := _ }) (gty k1)) F.gen_no_len ?_)
  show wpAny _ A.in1 (specialOf (Value.ref a) (Str.ofString "__length_hint__") >>= _) _ _ _
  refine wpAny_bind (wpAny_specialOf (Heap.IsGen.typeIs (s := { s with heap := _ }) (gty k1)) F.gen_no_hint ?_)
  refine wpAny_pure ?_
  show wpAny _ A.in1 (rule "list.extend.makes-room" >>= fun _ => Builtin.List.listTouch (.ref s.heap.objs.size) >>= fun _ =>
    again (.builtin "list.extend.loop" ⟨[.ref s.heap.objs.size, .ref a, .ref s.heap.objs.size], []⟩)) _ _ _
  refine wpAny_bind (wpAny_rule ?_)
  have hS1 : (s.heap.push { cls := .type "list", data := .seq ([] : List Value).toArray }).get? s.heap.objs.size = some { cls := .type "list", data := .seq ([] : List Value).toArray } := Heap.get?_push_size _ rfl
  refine wpAny_bind ?_
  show wpAny _ A.in1 (updateSeq s.heap.objs.size (·.push .none) >>= fun _ => updateSeq s.heap.objs.size (·.pop)) _ _ _
  refine wpAny_bind (wpAny_updateSeq hS1 rfl ?_)
  have hS2 := Heap.get?_update_self (Obj.mapSeq (·.push Value.none)) hS1 rfl
  refine wpAny_updateSeq hS2 rfl ?_
  have hS3 := Heap.get?_update_self (Obj.mapSeq (·.pop)) hS2 rfl
  have k3 : ∀ b o, s.heap.get? b = some o → (((s.heap.push { cls := .type "list", data := .seq ([] : List Value).toArray }).update s.heap.objs.size (Obj.mapSeq (·.push Value.none))).update s.heap.objs.size (Obj.mapSeq (·.pop))).get? b = some o :=
    fun b o e => (Heap.get?_update_other _ _ (Ne.symm (Nat.ne_of_lt (Heap.lt_size e)))).trans ((Heap.get?_update_other _ _ (Ne.symm (Nat.ne_of_lt (Heap.lt_size e)))).trans (k1 b o e))
  have nl : s.heap.NoLimit := I.nolimit
  refine wpAny_pure ⟨plainId_quiet F.plain_extend_loop _, ext_loop (A := A) (X := X) (pins := pins) (σ := σ) (g := g) (N0 := N0) (Gv := Gv) (Gn := Gn) (Fin := Fin) hr.hd (by have := hr.dp; show A.depth < _; omega) hSa hSc hGv (fun ys H' s' hcv hf => ?_) N0 _ ⟨gty k3, nl.keeps k3, _, hgs, rfl, ?_⟩⟩
  · obtain ⟨hS0, acc, c, eS, hv, hz⟩ := hcv.2.2 _ rfl
    show wpAny _ A (load s.heap.objs.size >>= _) _ _ s'
    exact wpAny_bind (wpAny_load eS (wpAny_pure (hQ ys acc.toList H' s' hcv.1 hf hv hz)))
  · refine wake _ (some s.heap.objs.size) okVals _ ?_ hfr (fun S e => by rw [← Option.some.inj e]; exact Nat.le_refl _) rfl (allBare_setGen (s := { s with heap := _ }) I.bare rfl) k3 fun S e => ?_
    · exact ⟨hr.hd, by have := hr.dp; show A.depth + 3 * (k + 1) + 5 < _; omega, by have := hr.un; show A.units + 1 + 1 + 16 * (k + 1) + 200 < _; omega⟩
    · cases e
      exact ⟨#[], _, hS3, .nil, Nat.zero_le _⟩
end
end Dl
end
section
set_option Elab.async false
set_option linter.all false
set_option maxRecDepth 100000
set_option maxHeartbeats 1000000
namespace Dl
open PySem PySem.Spec PyProof.Rows L2 GenW
section
variable {X : Cx} {pins : List (Addr × Obj)} {σ : L2.St} {a : Addr} {g : Nat} {So : Option Addr} {ok : OkT} {N0 : Nat} {Gv Gn Fin : List V → Hp → Prop} {B : Around}
/-- any, all: stops at the first b -/
def GvB (b : Bool) (Q : Hp → Prop) : List V → Hp → Prop := fun ys H => ys.getLast? = some (.bl b) ∧ Q H
def GnB (b : Bool) : List V → Hp → Prop := fun ys _ => ys.getLast? = some (.bl (!b))
theorem last_snoc (ys : List V) (x : V) : (ys ++ [x]).getLast? = some x := by simp
theorem any_loop {A : Around} {R : Result → Shared → Prop} {Qt Qf : Hp → Prop} (hh : A.handled = none) (hd : A.depth < recursionLimit)
    (ht : ∀ H s', Inv X pins σ H s' → Qt H → R (.ok (.ret (.bool true))) s') (hf : ∀ H s', Inv X pins σ H s' → Qf H → R (.ok (.ret (.bool false))) s') :
    ∀ (n : Nat) (s : Shared), Lv X pins σ a g none ok N0 (GvB true Qt) (GnB true) (fun _ H => Qf H) A.in1 n s → codeAny (model X.prog X.w) A (.builtin "any.loop" ⟨[.ref a], []⟩) R s := by
  intro n
  induction n using Nat.strongRecOn with
  | ind n ih =>
    intro s h
    refine codeAny_builtin F.entry_any_loop ?_
    rw [Around.under_plainId F.plain_any_loop _]
    show wpAny _ A.in1 (pyNext (.ref a) >>= _) _ _ s
    refine wpAny_bind (next_c (B := A.in1) hh hd (by simp) (by simp) h (fun ys x v H s1 rv _ hcv hlt hor => ?_) (fun ys H s1 _ hcv hq => wpAny_bind (wpAny_rule (wpAny_pure (hf H s1 hcv.1 hq)))))
    rcases hor with ⟨z, hq⟩ | ⟨z, hk⟩
    · rw [last_snoc] at z
      cases z
      obtain rfl : v = .bool true := rv
      refine wpAny_bind (wpAny_holding (wpAny_truthy_bool ?_))
      refine wpAny_bind (wpAny_letGo ?_)
      simp only [if_true]
      exact wpAny_bind (wpAny_rule (wpAny_pure (ht H s1 hcv.1 hq)))
    · have z : (ys ++ [x]).getLast? = some (.bl false) := z
      rw [last_snoc] at z
      cases z
      obtain rfl : v = .bool false := rv
      refine wpAny_bind (wpAny_holding (wpAny_truthy_bool ?_))
      refine wpAny_bind (wpAny_letGo ?_)
      simp only [Bool.false_eq_true, if_false]
      have hk2 := hk s1 rfl ⟨rfl, hcv.1.bare, fun b o hb e => e, fun S e => by cases e⟩
      obtain ⟨m, hm, hl⟩ := hk2
      exact wpAny_pure ⟨plainId_quiet F.plain_any_loop _, ih m hm _ hl⟩
theorem all_loop {A : Around} {R : Result → Shared → Prop} {Qt Qf : Hp → Prop} (hh : A.handled = none) (hd : A.depth < recursionLimit)
    (ht : ∀ H s', Inv X pins σ H s' → Qt H → R (.ok (.ret (.bool true))) s') (hf : ∀ H s', Inv X pins σ H s' → Qf H → R (.ok (.ret (.bool false))) s') :
    ∀ (n : Nat) (s : Shared), Lv X pins σ a g none ok N0 (GvB false Qf) (GnB false) (fun _ H => Qt H) A.in1 n s → codeAny (model X.prog X.w) A (.builtin "all.loop" ⟨[.ref a], []⟩) R s := by
  intro n
  induction n using Nat.strongRecOn with
  | ind n ih =>
    intro s h
    refine codeAny_builtin F.entry_all_loop ?_
    rw [Around.under_plainId F.plain_all_loop _]
    show wpAny _ A.in1 (pyNext (.ref a) >>= _) _ _ s
    refine wpAny_bind (next_c (B := A.in1) hh hd (by simp) (by simp) h (fun ys x v H s1 rv _ hcv hlt hor => ?_) (fun ys H s1 _ hcv hq => wpAny_bind (wpAny_rule (wpAny_pure (ht H s1 hcv.1 hq)))))
    rcases hor with ⟨z, hq⟩ | ⟨z, hk⟩
    · rw [last_snoc] at z
      cases z
      obtain rfl : v = .bool false := rv
      refine wpAny_bind (wpAny_holding (wpAny_truthy_bool ?_))
      refine wpAny_bind (wpAny_letGo ?_)
      simp only [Bool.false_eq_true, if_false]
      exact wpAny_bind (wpAny_rule (wpAny_pure (hf H s1 hcv.1 hq)))
    · have z : (ys ++ [x]).getLast? = some (.bl true) := z
      rw [last_snoc] at z
      cases z
      obtain rfl : v = .bool true := rv
      refine wpAny_bind (wpAny_holding (wpAny_truthy_bool ?_))
      refine wpAny_bind (wpAny_letGo ?_)
      simp only [if_true]
      have hk2 := hk s1 rfl ⟨rfl, hcv.1.bare, fun b o hb e => e, fun S e => by cases e⟩
      obtain ⟨m, hm, hl⟩ := hk2
      exact wpAny_pure ⟨plainId_quiet F.plain_all_loop _, ih m hm _ hl⟩
theorem any_c {k : Nat} {A : Around} {H : Hp} {s : Shared} {Q : Value → Shared → Prop} {E : Value → Shared → Prop} {Qt Qf : Hp → Prop} (hr : Room (k + 2) A) (hfr : A.frames = some X.stack) (G : GMd X k pins σ H N0 (GvB true Qt) (GnB true) (fun _ H => Qf H) a s)
    (ht : ∀ H s', Inv X pins σ H s' → Qt H → Q (.bool true) s') (hf : ∀ H s', Inv X pins σ H s' → Qf H → Q (.bool false) s') : wpAny (model X.prog X.w) A (call (.builtin "any") [.ref a]) Q E s := by
  obtain ⟨g, code, ha, hg, hgs, I, wake⟩ := G
  refine call_function_tree F.kind_any F.plain_any F.entry_any (F.args_any1 _) ?_
  unfold Builtin.«any»
  refine wpAny_bind (m := oneArg "any" _) (wpAny_pure ?_)
  refine wpAny_bind (wpAny_pyIter_gen hg ?_)
  refine wpAny_pure ⟨plainId_quiet F.plain_any_loop _, any_loop (A := A) (X := X) (pins := pins) (σ := σ) (g := g) (ok := fun _ _ => True) (N0 := N0) (Qt := Qt) (Qf := Qf) hr.hd (by have := hr.dp; show A.depth < _; omega) (fun H s' I' q => ht H s' I' q) (fun H s' I' q => hf H s' I' q) N0 _ ⟨hg, I.nolimit, _, hgs, rfl, ?_⟩⟩
  exact wake _ none (fun _ _ => True) _ ⟨hr.hd, by have := hr.dp; show A.depth + 3 * (k + 1) + 5 < _; omega, by have := hr.un; show A.units + 1 + 1 + 16 * (k + 1) + 200 < _; omega⟩ hfr (fun S e => by cases e) rfl (allBare_setGen I.bare rfl) (fun b o e => e) fun S e => by cases e
theorem all_c {k : Nat} {A : Around} {H : Hp} {s : Shared} {Q : Value → Shared → Prop} {E : Value → Shared → Prop} {Qt Qf : Hp → Prop} (hr : Room (k + 2) A) (hfr : A.frames = some X.stack) (G : GMd X k pins σ H N0 (GvB false Qf) (GnB false) (fun _ H => Qt H) a s)
    (ht : ∀ H s', Inv X pins σ H s' → Qt H → Q (.bool true) s') (hf : ∀ H s', Inv X pins σ H s' → Qf H → Q (.bool false) s') : wpAny (model X.prog X.w) A (call (.builtin "all") [.ref a]) Q E s := by
  obtain ⟨g, code, ha, hg, hgs, I, wake⟩ := G
  refine call_function_tree F.kind_all F.plain_all F.entry_all (F.args_all1 _) ?_
  unfold Builtin.«all»
  refine wpAny_bind (m := oneArg "all" _) (wpAny_pure ?_)
  refine wpAny_bind (wpAny_pyIter_gen hg ?_)
  refine wpAny_pure ⟨plainId_quiet F.plain_all_loop _, all_loop (A := A) (X := X) (pins := pins) (σ := σ) (g := g) (ok := fun _ _ => True) (N0 := N0) (Qt := Qt) (Qf := Qf) hr.hd (by have := hr.dp; show A.depth < _; omega) (fun H s' I' q => ht H s' I' q) (fun H s' I' q => hf H s' I' q) N0 _ ⟨hg, I.nolimit, _, hgs, rfl, ?_⟩⟩
  exact wake _ none (fun _ _ => True) _ ⟨hr.hd, by have := hr.dp; show A.depth + 3 * (k + 1) + 5 < _; omega, by have := hr.un; show A.units + 1 + 1 + 16 * (k + 1) + 200 < _; omega⟩ hfr (fun S e => by cases e) rfl (allBare_setGen I.bare rfl) (fun b o e => e) fun S e => by cases e
end
end Dl
end
section
set_option Elab.async false
set_option linter.all false
set_option maxRecDepth 100000
set_option maxHeartbeats 1000000
namespace Dl
open PySem PySem.Spec PyProof.Rows L2 GenW
section
variable {X : Cx} {pins : List (Addr × Obj)} {σ : L2.St} {a : Addr} {g : Nat} {So : Option Addr} {ok : OkT} {N0 : Nat} {Gv Gn Fin : List V → Hp → Prop} {B : Around}
def okSum : OkT := fun ys acc => ∃ (is : List Int) (t : Tok), ys = is.map V.int ∧ acc = #[.int is.sum t]
def GnS : List V → Hp → Prop := fun ys _ => ∃ zs : List Int, ys = zs.map V.int
theorem map_int_inj {xs ys : List Int} (h : xs.map V.int = ys.map V.int) : xs = ys := by
  induction xs generalizing ys with
  | nil => cases ys with
    | nil => rfl
    | cons y ys => simp at h
  | cons x xs ih => cases ys with
    | nil => simp at h
    | cons y ys =>
      simp only [List.map_cons, List.cons.injEq, V.int.injEq] at h
      rw [h.1, ih h.2]
theorem sum_loop {A : Around} {S : Addr} {R : Result → Shared → Prop} (hh : A.handled = none) (hd : A.depth < recursionLimit) (hSa : S ≠ a) (hSc : S ≠ cStatics) (hGv : ∀ ys H, ¬ Gv ys H) (hGn : ∀ ys H, Gn ys H → GnS ys H)
    (hend : ∀ (zs : List Int) t H s', Inv X pins σ H s' → Fin (zs.map V.int) H → R (.ok (.ret (.int zs.sum t))) s') : ∀ (n : Nat) (s : Shared) (stage : Int), (stage = 0 ∨ stage = 2) → (∃ ys acc c, s.heap.get? S = some (lstObj acc c) ∧ okSum ys acc) → Lv X pins σ a g (some S) okSum N0 Gv Gn Fin A.in1 n s →
      codeAny (model X.prog X.w) A (.builtin "sum.loop" ⟨[.ref a, .ref S, rawInt stage, rawInt 0], []⟩) R s := by
  intro n
  induction n using Nat.strongRecOn with
  | ind n ih =>
    intro s stage hstage ⟨ys0, acc, c, eS, zs, t, _, eacc⟩ h
    subst eacc
    refine codeAny_builtin F.entry_sum_loop ?_
    rw [Around.under_plainId F.plain_sum_loop _]
    show wpAny _ A.in1 (seqItems? (.ref S) >>= _) _ _ s
    refine wpAny_bind (wpAny_seqItems eS rfl ?_)
    show wpAny _ A.in1 (tryCatch (pyNext (.ref a)) _ >>= _) _ _ s
    refine wpAny_bind (wpAny_tryCatch (next_c (B := A.in1) hh hd (fun e => hSa (Option.some.inj e)) (fun e => hSc (Option.some.inj e)) h (fun ys x v H s1 rv h0 hcv hlt hor => ?_) (fun ys H s1 h0 hcv hq => ?_)))
    · have e1 : s1.heap.get? S = some (lstObj #[.int zs.sum t] c) := by rw [h0 S rfl, eS]
      obtain ⟨hS0, acc', c', eS', zs', t', ey, ea⟩ := hcv.2.2 S rfl
      rw [e1] at eS'
      have q : #[Value.int zs.sum t] = acc' := by
        have := Option.some.inj eS'
        injection this with _ _ q _
        injection q
      rw [ea] at q
      have qs : zs.sum = zs'.sum := by simp at q; exact q.1
      rcases hor with z | ⟨z, hk⟩
      · exact (hGv _ _ z).elim
      obtain ⟨zs2, e2⟩ := hGn _ _ z
      obtain ⟨i, rfl⟩ : ∃ i, x = .int i := by
        have : x ∈ zs2.map V.int := by rw [← e2]; simp
        obtain ⟨i, _, e⟩ := List.mem_map.mp this
        exact ⟨i, e.symm⟩
      obtain ⟨ti, rfl⟩ : ∃ ti, v = .int i ti := rv
      have upd1 : ∀ (h1 : Heap), h1.get? S = some (lstObj #[.int zs.sum t] c) ∨ h1.get? S = some (Obj.mapSeq (fun _ => #[.int (zs.sum + i) s1.toks]) (lstObj #[.int zs.sum t] c)) → (∀ b o, b ≠ S → s1.heap.get? b = some o → h1.get? b = some o) →
          ∀ tk, Wk (some S) okSum (ys ++ [.int i]) s1 { s1 with toks := tk, heap := h1.update S (Obj.mapSeq (fun _ => #[.int (zs.sum + i) s1.toks])) } := fun h1 e2 k tk => by
        refine ⟨rfl, hcv.1.bare, fun b o hb e => (Heap.get?_update_other _ _ (fun z => hb (by rw [z]))).trans (k b o (fun z => hb (by rw [z])) e), fun S' e => ?_⟩
        cases e
        have e9 : (zs' ++ [i]).sum = zs.sum + i := by rw [qs]; simp
        rcases e2 with e2 | e2
        · exact ⟨_, _, Heap.get?_update_self _ e2 rfl, zs' ++ [i], s1.toks, by rw [ey]; simp, by rw [e9]⟩
        · exact ⟨_, _, Heap.get?_update_self _ e2 rfl, zs' ++ [i], s1.toks, by rw [ey]; simp, by rw [e9]⟩
      have slow : ∀ (st : Int), (st = 0 ∨ st = 2) → wpAny (model X.prog X.w) A.in1 ((holding [Value.int i ti] (binaryOp .Add (.int zs.sum t) (.int i ti))).attempt >>= fun x => match x with
          | .ok r => (updateSeq S fun _ => #[r]) >>= fun _ => letGo [Value.int zs.sum t, Value.int i ti] >>= fun _ => (updateSeq S fun _ => #[r]) >>= fun _ => again (.builtin "sum.loop" ⟨[.ref a, .ref S, rawInt 2, rawInt 0], []⟩)
          | .error e => (updateSeq S fun _ => #[]) >>= fun _ => letGo [Value.int zs.sum t, Value.int i ti] [e] >>= fun _ => throw e) (fun x s' => match x with
            | .done f => R (.ok f) s'
            | .again c' => c'.quiet = true ∧ codeAny (model X.prog X.w) A c' R s') (fun e s' => R (.error e) s') s1 := fun st hst => by
        refine wpAny_bind (wpAny_attempt (wpAny_holding (PySem.P.add_int ?_)))
        show wpAny _ A.in1 (updateSeq S (fun _ => #[.int (zs.sum + i) s1.toks]) >>= _) _ _ _
        refine wpAny_bind ?_
        refine wpAny_updateSeq e1 rfl ?_
        have hS2 := Heap.get?_update_self (Obj.mapSeq fun _ => #[Value.int (zs.sum + i) s1.toks]) e1 rfl
        refine wpAny_bind (wpAny_letGo ?_)
        refine wpAny_bind ?_
        have hw := upd1 (s1.heap.update S (Obj.mapSeq (fun _ => #[.int (zs.sum + i) s1.toks]))) (.inr hS2) (fun b o hb e => (Heap.get?_update_other _ _ (Ne.symm hb)).trans e) (s1.toks + 1)
        have hk2 := hk _ (by rfl) hw
        obtain ⟨m, hm, hl⟩ := hk2
        obtain ⟨acc2, c2, e5, o5⟩ := hw.own S rfl
        exact wpAny_updateSeq hS2 rfl (wpAny_pure ⟨plainId_quiet F.plain_sum_loop _, ih m hm _ 2 (.inr rfl) ⟨_, acc2, c2, e5, o5⟩ hl⟩)
      rcases hstage with rfl | rfl
      · show wpAny _ A.in1 (if (_ : Bool) = true then (mkInt (zs.sum + i) >>= _) else _) _ _ _
        split
        · refine wpAny_bind (wpAny_mkInt ?_)
          show wpAny _ A.in1 (updateSeq S (fun _ => #[.int (zs.sum + i) s1.toks]) >>= _) _ _ _
          refine wpAny_bind ?_
          have hw := upd1 s1.heap (.inl e1) (fun b o hb e => e) (s1.toks + 1)
          have hk2 := hk _ (by rfl) hw
          obtain ⟨m, hm, hl⟩ := hk2
          obtain ⟨acc2, c2, e5, o5⟩ := hw.own S rfl
          exact wpAny_updateSeq e1 rfl (wpAny_pure ⟨plainId_quiet F.plain_sum_loop _, ih m hm _ 0 (.inl rfl) ⟨_, acc2, c2, e5, o5⟩ hl⟩)
        · refine wpAny_bind (wpAny_rule ?_)
          exact slow 2 (.inr rfl)
      · exact slow 2 (.inr rfl)
    · have e1 : s1.heap.get? S = some (lstObj #[.int zs.sum t] c) := h0 S _ rfl eS
      obtain ⟨hS0, acc', c', eS', zs', t', ey, ea⟩ := hcv.2.2 S rfl
      rw [e1] at eS'
      have q : #[Value.int zs.sum t] = acc' := by
        have := Option.some.inj eS'
        injection this with _ _ q _
        injection q
      rw [ea] at q
      have qs : zs.sum = zs'.sum := by simp at q; exact q.1
      subst ey
      have := hend zs' t H s1 hcv.1 hq
      rw [← qs] at this
      exact wpAny_pure this
theorem sum_c {k : Nat} {A : Around} {H : Hp} {s : Shared} {Q : Value → Shared → Prop} {E : Value → Shared → Prop} (hr : Room (k + 2) A) (hfr : A.frames = some X.stack) (hGv : ∀ ys H, ¬ Gv ys H) (hGn : ∀ ys H, Gn ys H → GnS ys H) (G : GMd X k pins σ H N0 Gv Gn Fin a s)
    (hQ : ∀ (zs : List Int) t H s', Inv X pins σ H s' → Fin (zs.map V.int) H → Q (.int zs.sum t) s') : wpAny (model X.prog X.w) A (call (.builtin "sum") [.ref a]) Q E s := by
  obtain ⟨g, code, ha, hg, hgs, I, wake⟩ := G
  refine call_function_tree F.kind_sum F.plain_sum F.entry_sum (F.args_sum1 _) ?_
  unfold Builtin.«sum»
  simp only [List.length_cons, List.length_nil]
  rw [if_neg (by decide)]
  refine wpAny_bind (wpAny_of_eq (show Builtin.Builtins.bindParams "sum" ["start"] 0 { } = pure [none] from rfl) ?_)
  refine wpAny_bind (wpAny_pyIter_gen hg ?_)
  refine wpAny_bind (wpAny_mkInt ?_)
  refine wpAny_bind (wpAny_pure ?_)
  simp only [List.forIn_cons, List.forIn_nil]
  refine wpAny_bind (wpAny_bind (wpAny_bind (wpAny_isInstance (T := "int") (b := false) (typeIs_int _ _ _) PySem.sub_int_str ?_)))
  simp only [Bool.false_eq_true, if_false]
  refine wpAny_pure (wpAny_bind (wpAny_bind (wpAny_isInstance (T := "int") (b := false) (typeIs_int _ _ _) PySem.sub_int_bytes ?_)))
  simp only [Bool.false_eq_true, if_false]
  refine wpAny_pure (wpAny_bind (wpAny_bind (wpAny_isInstance (T := "int") (b := false) (typeIs_int _ _ _) PySem.sub_int_bytearray ?_)))
  simp only [Bool.false_eq_true, if_false]
  refine wpAny_pure (wpAny_pure ?_)
  refine wpAny_bind (wpAny_newObj_type ?_)
  have hS1 : (s.heap.push { cls := .type "list", data := .seq ([.int 0 s.toks] : List Value).toArray }).get? s.heap.objs.size = some { cls := .type "list", data := .seq ([.int 0 s.toks] : List Value).toArray } := Heap.get?_push_size _ rfl
  have k1 : ∀ b o, s.heap.get? b = some o → (s.heap.push { cls := .type "list", data := .seq ([.int 0 s.toks] : List Value).toArray }).get? b = some o := fun b o e => Heap.get?_push_of_some _ e
  have hSa : s.heap.objs.size ≠ a := Nat.ne_of_gt ha
  have hSc : s.heap.objs.size ≠ cStatics := let ⟨_, hn, _⟩ := I.nolimit; Nat.ne_of_gt hn.lt
  have nl : s.heap.NoLimit := I.nolimit
  refine wpAny_pure ⟨plainId_quiet F.plain_sum_loop _, sum_loop (A := A) (X := X) (pins := pins) (σ := σ) (g := g) (N0 := N0) (Gv := Gv) (Gn := Gn) (Fin := Fin) hr.hd (by have := hr.dp; show A.depth < _; omega) hSa hSc hGv hGn (fun zs t H s' I' q => hQ zs t H s' I' q) N0 _ 0 (.inl rfl) ⟨[], _, _, hS1, [], s.toks, rfl, rfl⟩
    ⟨hg.keeps k1, nl.keeps k1, _, hgs, rfl, ?_⟩⟩
  exact wake _ (some s.heap.objs.size) okSum _ ⟨hr.hd, by have := hr.dp; show A.depth + 3 * (k + 1) + 5 < _; omega, by have := hr.un; show A.units + 1 + 1 + 16 * (k + 1) + 200 < _; omega⟩ hfr (fun S e => by rw [← Option.some.inj e]; exact Nat.le_refl _) rfl (allBare_setGen (s := { s with heap := _ }) I.bare rfl) k1 fun S e => by cases e; exact ⟨_, _, hS1, [], s.toks, rfl, rfl⟩
end
end Dl
end
section
set_option Elab.async false
set_option linter.all false
set_option maxRecDepth 100000
set_option maxHeartbeats 1000000
namespace Dl
open PySem PySem.Spec PyProof.Rows L2 GenW
open AutoSeq1 (wpAny_loadPart')
section
variable {X : Cx} {pins : List (Addr × Obj)} {σ : L2.St} {a : Addr} {g : Nat} {So : Option Addr} {ok : OkT} {N0 : Nat} {Gv Gn Fin : List V → Hp → Prop} {B : Around}
theorem GMd.typeIs {k : Nat} {H : Hp} {s : Shared} (G : GMd X k pins σ H N0 Gv Gn Fin a s) : s.TypeIs (.ref a) "generator" := by
  obtain ⟨g, code, ha, hg, _⟩ := G
  exact hg.typeIs
theorem code_tuple_c {k : Nat} {A : Around} {H : Hp} {s : Shared} {E : Value → Shared → Prop} {Q₁ : Value → Shared → Prop} (hr : Room (k + 2) A.in1) (hfr : A.frames = some X.stack) (hGv : ∀ ys H, ¬ Gv ys H) (G : GMd X k pins σ H N0 Gv Gn Fin a s)
    (h : ∀ ys us H' s', Inv X pins σ H' s' → Fin ys H' → Vals ys us → ys.length ≤ sizeLine → Q₁ (.ref s'.heap.objs.size) { s' with heap := s'.heap.push { cls := .type "tuple", data := .seq us.toArray } }) :
    codeAny (model X.prog X.w) A (.call (.builtin "tuple.__new__") ⟨[.type "tuple", .ref a], []⟩) (wants Q₁ E) s := by
  refine codeAny_of_tree ?_
  show wpAny _ A.in1 (do checkBuiltinCall "tuple.__new__" ⟨[.type "tuple", .ref a], []⟩; again (.builtin "tuple.__new__" ⟨[.type "tuple", .ref a], []⟩)) _ _ s
  refine wpAny_bind (wpAny_of_eq (F.newCall_tuple_1 _) (wpAny_pure ⟨plainId_quiet F.plain_tuple_new _, codeAny_builtin F.entry_tuple_new ?_⟩))
  rw [Around.under_plainId F.plain_tuple_new _]
  have hsub := sub_tuple_self
  have hinit := init_tuple_lookup
  have hmh := madeHere_tuple
  have hTI := G.typeIs
  wp_walk using wpAny_typeOf hTI, collect_c (A := A.in1) hr hfr hGv G
  intro ys us H' s' I' hf hv hz
  show wpAny _ _ (Builtin.Tuple.tupleExact us.toArray >>= fun v => ret v) _ _ _
  unfold Builtin.Tuple.tupleExact
  refine wpAny_bind (wpAny_newObj_type ?_ (by show us.toArray.size ≤ sizeLine; rw [List.size_toArray, ← hv.length]; exact hz))
  exact wpAny_pure (h ys us H' s' I' hf hv hz)
theorem tuple_c {k : Nat} {A : Around} {H : Hp} {s : Shared} {E : Value → Shared → Prop} {Q : Value → Shared → Prop} (hr : Room (k + 3) A) (hfr : A.frames = some X.stack) (hGv : ∀ ys H, ¬ Gv ys H) (G : GMd X k pins σ H N0 Gv Gn Fin a s)
    (hQ : ∀ ys us H' s', Inv X pins σ H' s' → Fin ys H' → Vals ys us → ys.length ≤ sizeLine → Q (.ref s'.heap.objs.size) { s' with heap := s'.heap.push { cls := .type "tuple", data := .seq us.toArray } }) :
    wpAny (model X.prog X.w) A (call (.type "tuple") [.ref a]) Q E s := by
  refine callType_codes (Q₁ := fun obj s₁ => s₁.TypeIs obj "tuple" ∧ Q obj s₁) F.called_tuple (F.typeCall_tuple_1 _) F.entry_object_init
    (code_tuple_c (k := k) (A := A.in1) ⟨hr.hd, by have := hr.dp; show A.depth + 3 * (k + 2) + 5 < _; omega, by have := hr.un; show A.units + 1 + 1 + 16 * (k + 2) + 200 < _; omega⟩ hfr hGv G fun ys us H' s' I' hf hv hz => ⟨⟨_, Heap.get?_push_size _ rfl, rfl⟩, hQ ys us H' s' I' hf hv hz⟩) fun obj s₁ h₁ => ?_
  exact ⟨h₁.1, F.args_object_init_2 obj _, object_init_meets F.called_tuple.init.lookup F.called_tuple.made (by decide) X.prog X.w A.in1 _ s₁ ⟨h₁.1, rfl, h₁.2⟩⟩
end
end Dl
end
section
set_option Elab.async false
set_option linter.all false
set_option maxRecDepth 100000
set_option maxHeartbeats 1000000
namespace Dl
open PySem PySem.Spec PyProof.Rows L2
mutual
def encD : D → PyData
  | .non => .none
  | .bl b => .bool b
  | .int i => .int i
  | .str s => .str s
  | .tup ds => .tuple (encL ds)
  | .lst ds => .list (encL ds)
  | .scr _ => .none
  | .loc _ => .none
def encL : List D → List PyData
  | [] => []
  | d :: ds => encD d :: encL ds
end
theorem encL_map : ∀ ds : List D, encL ds = ds.map encD
  | [] => rfl
  | d :: ds => by rw [encL, encL_map ds]; rfl
mutual
def pureD : D → Bool
  | .tup ds => pureL ds
  | .lst _ => false
  | .scr _ => false
  | .loc _ => false
  | _ => true
def pureL : List D → Bool
  | [] => true
  | d :: ds => pureD d && pureL ds
end
section
variable {X : Cx} {pins : List (Addr × Obj)} {σ : L2.St} {H : Hp} {s : Shared} {ν μ : List Addr}
mutual
theorem readsD (I : Inv X pins σ H s) : ∀ (d : D) {v : V} {u : Value}, RepD X.K H ν μ d v → RelV v u → pureD d = true → Reads s.heap u (encD d) []
  | .non, v, u, h, r, _ => by
    unfold RepD at h; subst h
    obtain rfl : u = .none := r
    exact .none
  | .bl b, v, u, h, r, _ => by
    unfold RepD at h; subst h
    obtain rfl : u = .bool b := r
    exact .bool b
  | .int i, v, u, h, r, _ => by
    unfold RepD at h; subst h
    obtain ⟨t, rfl⟩ : ∃ t, u = .int i t := r
    exact .int i t
  | .str x, v, u, h, r, _ => by
    unfold RepD at h; subst h
    obtain ⟨t, rfl⟩ : ∃ t, u = .str x t := r
    exact .str x t
  | .tup ds, v, u, h, r, p => by
    unfold RepD at h
    obtain ⟨a, xs, rfl, h1, h2⟩ := h
    obtain rfl : u = .ref a := r
    obtain ⟨its, ri, ht, hz⟩ := I.tuple h1
    unfold pureD at p
    have ra := readsL I ds h2 ri p
    obtain ⟨o, e, c, n, hd⟩ := ht
    exact .tuple e c hd ra
  | .lst _, v, u, h, r, p => by unfold pureD at p; cases p
  | .scr _, v, u, h, r, p => by unfold pureD at p; cases p
  | .loc _, v, u, h, r, p => by unfold pureD at p; cases p
theorem readsL (I : Inv X pins σ H s) : ∀ (ds : List D) {vs : List V} {us : List Value}, RepL X.K H ν μ ds vs → Vals vs us → pureL ds = true → ReadsAll s.heap us (encL ds) []
  | [], vs, us, h, r, _ => by
    unfold RepL at h; subst h
    cases r
    exact .nil
  | d :: ds, vs, us, h, r, p => by
    unfold RepL at h
    obtain ⟨v, rr, rfl, h1, h2⟩ := h
    unfold pureL at p
    rw [Bool.and_eq_true] at p
    cases r with
    | cons r1 r2 =>
      exact .cons (readsD I d h1 r1 p.1) (readsL I ds h2 r2 p.2)
end
end
end Dl
end
section
set_option Elab.async false
set_option linter.all false
set_option maxRecDepth 100000
set_option maxHeartbeats 1000000
namespace Dl
open PySem PySem.Spec PyProof.Rows L2 GenW
inductive Go where
  | go
  | stop (d : D)
  | bad
/-- what a consumer makes of a generator: stp looks at what came so far, k at the end -/
def gnD (stp : List D → Go) (k : List D → G → Res D) (vs : List Nat) (fg : FG) (ft : FT) (fe : FE) (ρ : Env') : List D → List D → G → Res D
  | acc, [], g => k acc g
  | acc, d :: r, g => match fg d (wipeD ρ vs) g with
    | .ok ρ1 g1 => match ft ρ1 g1 with
      | .ok true g2 => match fe ρ1 g2 with
        | .ok y g3 => match stp (acc ++ [y]) with
          | .go => gnD stp k vs fg ft fe ρ (acc ++ [y]) r g3
          | .stop z => .ok z g3
          | .bad => .stuck
        | _ => .stuck
      | .ok false g2 => gnD stp k vs fg ft fe ρ acc r g2
      | _ => .stuck
    | _ => .stuck
def fGn (stp : List D → Go) (k : List D → G → Res D) (vs : List Nat) (fi : FI) (fg : FG) (ft : FT) (fe : FE) : FE := fun ρ g => (fi ρ g).bind fun items g1 =>
  if items.length ≤ sizeLine then gnD stp k vs fg ft fe ρ [] items g1 else .stuck
section
variable {C : Cfg} {X : Cx} {W : WX} {tg elt iter : Expr} {ifs : List Expr} {fe : FE} {ft : FT} {pos p : Pos} {fi : FI} {fg : FG} {pins : List (Addr × Obj)} {σ : L2.St} {H : Hp} {s : Shared}
/-- what is known of a generator by its denotation -/
structure GSpec (C : Cfg) (K : PySem.W.Frag) (W : WX) (σ : L2.St) (Q : VK) (stp : List D → Go) (k : List D → G → Res D) (Gv Gn Fin : List V → Hp → Prop) : Prop where
  gv : ∀ ys H, Gv ys H → ∃ ν μ acc d g, RepL K H ν μ acc ys ∧ stp acc = .stop d ∧ acc ≠ [] ∧ RS C K H ν μ g ∧ Post C K W σ H ν μ (.ok d g) Q
  gn : ∀ ys H, Gn ys H → ∃ ν μ acc, RepL K H ν μ acc ys ∧ stp acc = .go
  fin : ∀ ys H, Fin ys H → ∃ ν μ acc g, RS C K H ν μ g ∧ RepL K H ν μ acc ys ∧ Post C K W σ H ν μ (k acc g) Q
theorem gen_arg {k : Nat} {kk : List D → G → Res D} {stp : List D → Go} {c P : Addr} {scope : Scope} {own : List (Str × Nat)} {ts : List Nat} {Q : VK}
    (hr : Room k X.A) (TB : LamX.TabB X.base X.mg c P) (hcode : X.env.code = .ref c) (hmT : (P, X.env.qual ++ "<genexpr>") ∈ C.tabs) (hu : ∀ p ∈ C.tabs, p.1 = P → p.2 = X.env.qual ++ "<genexpr>")
    (hN : X.N.Nodup) (ok : BlkOk X.N X.env.scope scope own) (hts : ∀ i ∈ ts, i ∈ own.map (·.2)) (hcell : ∀ y ∈ scope.names, y.2 ≠ .cell) (h0 : scope.names.lookup (".0" : Str) = some NameKind.local) (hco : scope.isCoroutine = false) (hs : ∀ v, genFold iter X.env v = pure v) (hi : DI C X W tg iter fi)
    (hg : ∀ (B : Around) (s : Shared) (H : Hp) (A : Addr) (code : Value) (fp : List Addr) (pn : List (Addr × Obj)), Room k (B.deeper (gEnvOf X scope A code)) → DG C (gCx X B s H (gEnvOf X scope A code) fp pn) W0 tg ts fg)
    (ht : ∀ (B : Around) (s : Shared) (H : Hp) (A : Addr) (code : Value) (fp : List Addr) (pn : List (Addr × Obj)), Room k (B.deeper (gEnvOf X scope A code)) → DTs C (gCx X B s H (gEnvOf X scope A code) fp pn) W0 ifs ft)
    (he : ∀ (B : Around) (s : Shared) (H : Hp) (A : Addr) (code : Value) (fp : List Addr) (pn : List (Addr × Obj)), Room k (B.deeper (gEnvOf X scope A code)) → DP C (gCx X B s H (gEnvOf X scope A code) fp pn) W0 elt fe)
    (I : Inv X pins σ H s) (h : tD C X.K W (fGn stp kk (own.map (·.2)) fi fg ft fe) σ H Q) :
    wpAny (model X.prog X.w) X.A (eval (.GeneratorExp elt [⟨tg, iter, ifs, 0⟩] scope pos) X.env) (fun u s5 => ∃ a H2 N0 Gv Gn Fin, u = .ref a ∧ GMd X k pins σ H2 N0 Gv Gn Fin a s5 ∧ GSpec C X.K W σ Q stp kk Gv Gn Fin) X.xe s := by
  refine gen_make (T := C.tabs) (wi := tI C X.K W fi) (g := tGt C X.K W0 ts fg) (tt := tT C X.K W0 ft) (te := tD C X.K W0 fe) hr TB hcode hmT hu hN ok hcell h0 hco hs hi hg ht he I ?_
  obtain ⟨ρ, ν, μ, g, hE, hR, hP⟩ := h
  refine ⟨ρ, ν, μ, g, hE, hR, ?_⟩
  unfold fGn at hP
  cases hf : fi ρ g with
  | err c g1 => simp only [hf, Res.bind] at hP; exact hP
  | stuck => simp only [hf, Res.bind] at hP; exact hP
  | ok items g1 =>
    simp only [hf, Res.bind] at hP
    by_cases hsz : items.length ≤ sizeLine
    case neg => rw [if_neg hsz] at hP; exact hP.elim
    rw [if_pos hsz] at hP
    intro J H1 μ1 ex1 R1 hY
    have hP1 := hP.ext ex1
    have hE1 := hE.mono (ν := ν) ex1.kp'
    refine ⟨R1.tb, fun H2 hx ht2 => ?_⟩
    have exN : Ext H1 μ1 H2 μ1 := ext_of_n hx
    have R2 := R1.extN hx ht2
    have hP2 := hP1.ext exN
    have hE2 := hE1.mono (ν := ν) exN.kp'
    refine ⟨fun i m ys H => i ≤ items.length ∧ m = items.length - i ∧ ∃ μ g acc, RS C X.K H ν μ g ∧ Ext H2 μ1 H μ ∧ RepL X.K H ν μ acc ys ∧ acc.length ≤ i ∧ Post C X.K W σ H2 ν μ1 (gnD stp kk (own.map (·.2)) fg ft fe ρ acc (items.drop i) g) Q,
      items.length, items.length + 1,
      (fun ys H => ∃ μ acc d g, RepL X.K H ν μ acc ys ∧ stp acc = .stop d ∧ acc ≠ [] ∧ RS C X.K H ν μ g ∧ Post C X.K W σ H ν μ (.ok d g) Q),
      (fun ys H => ∃ μ acc, RepL X.K H ν μ acc ys ∧ stp acc = .go),
      (fun ys H => ∃ μ acc g, RS C X.K H ν μ g ∧ RepL X.K H ν μ acc ys ∧ Post C X.K W σ H ν μ (kk acc g) Q), Nat.lt_succ_self _, ?_, ?_, ?_⟩
    · rintro i m ys H3 ⟨hi1, rfl, μ3, g3, acc, R3, ex3, rA, hA, hP3⟩
      have ex13 : Ext H1 μ1 H3 μ3 := exN.trans ex3
      obtain ⟨y1, y2⟩ := hY i H3 ex13.kp
      by_cases hlt : i < items.length
      · right
        obtain ⟨hgo, hyl⟩ := y1 items[i] (by simp [hlt])
        rw [List.drop_eq_getElem_cons hlt] at hP3
        refine ⟨hgo, fun ys' H' => ∃ μ g acc, RS C X.K H' ν μ g ∧ Ext H2 μ1 H' μ ∧ RepL X.K H' ν μ acc ys' ∧ acc.length ≤ i + 1 ∧ Post C X.K W σ H2 ν μ1 (gnD stp kk (own.map (·.2)) fg ft fe ρ acc (items.drop (i + 1)) g) Q,
          fun ys' H' ⟨μ', g', acc', b1, b2, b3, b4, b5⟩ => ⟨items.length - (i + 1), by omega, hlt, rfl, μ', g', acc', b1, b2, b3, b4, b5⟩, fun x H' hy => ?_⟩
        obtain ⟨e1, R3, r3⟩ := came ex13 R3 (d := items[i]) (x := x) (hyl x H' hy)
        have ex4 := ex3.trans e1
        have hE3 := (hE2.mono (ν := ν) ex4.kp').wipe (own.map (·.2))
        refine ⟨items[i], wipeD ρ (own.map (·.2)), ν, μ3, g3, hE3, R3, r3, ?_⟩
        unfold gnD at hP3
        cases hfg : fg items[i] (wipeD ρ (own.map (·.2))) g3 with
        | err c g4 => simp only [hfg] at hP3; exact hP3.elim
        | stuck => simp only [hfg] at hP3; exact hP3
        | ok ρ4 g4 =>
          simp only [hfg] at hP3 ⊢
          intro σ4 H4 μ4 ex4' R4 hE4 w4
          refine ⟨(w4 (own.map (·.2)) hts).trans (wipe_idem (own.map (·.2))), ρ4, ν, μ4, g4, hE4, R4, ?_⟩
          cases hft : ft ρ4 g4 with
          | err c g5 => simp only [hft] at hP3; exact hP3.elim
          | stuck => simp only [hft] at hP3; exact hP3
          | ok bb g5 =>
            intro H5 μ5 ex5 R5
            have ex5' := (ex4.trans ex4').trans ex5
            have rA5 := RepL.mono ((e1.trans ex4').trans ex5).kp' _ rA
            cases bb with
            | false =>
              simp only [hft] at hP3
              rw [if_neg (by decide)]
              exact ⟨μ5, g5, acc, R5, ex5', rA5, Nat.le_succ_of_le hA, hP3⟩
            | true =>
              simp only [hft] at hP3
              rw [if_pos rfl]
              refine ⟨ρ4, ν, μ5, g5, hE4.mono ex5.kp', R5, ?_⟩
              cases hfe : fe ρ4 g5 with
              | err c g6 => simp only [hfe] at hP3; exact hP3.elim
              | stuck => simp only [hfe] at hP3; exact hP3
              | ok y g6 =>
                simp only [hfe] at hP3
                intro yv H6 μ6 ex6 R6 r6
                have rA6 := RepL.snoc r6 (RepL.mono ex6.kp' _ rA5)
                have ex6' := ex5'.trans ex6
                have lA := RepL.length rA
                refine ⟨by omega, ?_⟩
                cases hst : stp (acc ++ [y]) with
                | bad => simp only [hst] at hP3; exact hP3.elim
                | stop z =>
                  simp only [hst] at hP3
                  exact .inl ⟨μ6, acc ++ [y], z, g6, rA6, hst, by simp, R6, hP3.ext ex6'⟩
                | go =>
                  simp only [hst] at hP3
                  exact .inr ⟨⟨μ6, acc ++ [y], rA6, hst⟩, μ6, g6, acc ++ [y], R6, ex6', rA6, by simp; omega, hP3⟩
      · left
        refine ⟨y2 (by omega), μ3, acc, g3, R3, rA, ?_⟩
        rw [List.drop_eq_nil_of_le (by omega)] at hP3
        unfold gnD at hP3
        exact hP3.ext ex3
    · exact ⟨Nat.zero_le _, rfl, μ1, g1, [], R2, .refl, rfl, Nat.le_refl _, hP2⟩
    · exact fun a s5 G => ⟨a, H2, _, _, _, _, rfl, G, ⟨fun ys H h => ⟨ν, h⟩, fun ys H h => ⟨ν, h⟩, fun ys H h => ⟨ν, h⟩⟩⟩
end
end Dl
end
section
set_option Elab.async false
set_option linter.all false
set_option maxRecDepth 100000
set_option maxHeartbeats 1000000
namespace Dl
open PySem PySem.Spec PyProof.Rows L2 GenW
section
variable {X : Cx} {pins : List (Addr × Obj)} {σ : L2.St} {H : Hp} {s : Shared} {k N0 : Nat} {a : Addr} {Gv Gn Fin Gv' Gn' Fin' : List V → Hp → Prop}
theorem GMd.imp (h1 : ∀ ys H, Gv ys H → Gv' ys H) (h2 : ∀ ys H, Gn ys H → Gn' ys H) (h3 : ∀ ys H, Fin ys H → Fin' ys H) (G : GMd X k pins σ H N0 Gv Gn Fin a s) : GMd X k pins σ H N0 Gv' Gn' Fin' a s := by
  obtain ⟨g, code, e1, e2, e3, e4, wake⟩ := G
  refine ⟨g, code, e1, e2, e3, e4, fun B So ok s2 q1 q2 q3 q4 q5 q6 q7 => seg_imp (fun n s₀ r s h => ?_) (fun n s₀ v s kap kap' hk h => ?_) N0 (wake B So ok s2 q1 q2 q3 q4 q5 q6 q7)⟩
  · rcases h with ⟨r1, ys, H', r2, r3, r4, r5⟩ | z
    · exact .inl ⟨r1, ys, H', r2, r3, r4, h3 _ _ r5⟩
    · exact .inr z
  · obtain ⟨ys, x, H', r1, r2, r3, r4, r5, r6⟩ := h
    exact ⟨ys, x, H', r1, r2, r3, r4, r5, r6.imp (h1 _ _) fun z => ⟨h2 _ _ z.1, fun s' w => hk _ _ (z.2 s' w)⟩⟩
end
theorem repL_last {K : PySem.W.Frag} {H : Hp} {ν μ : List Addr} {acc : List D} {ys : List V} {c : Bool} (r : RepL K H ν μ acc ys) (h : acc.getLast? = some (.bl c)) : ys.getLast? = some (.bl c) := by
  rw [List.getLast?_eq_getElem?] at h ⊢
  obtain ⟨v, hv, rv⟩ := RepL.get r h
  rw [← RepL.length r, hv]
  rw [show v = V.bl c from rv]
section
variable {C : Cfg} {X : Cx} {W : WX} {tg elt iter : Expr} {ifs : List Expr} {fe : FE} {ft : FT} {pos p gpos : Pos} {fi : FI} {fg : FG} {k : Nat} {scope : Scope} {own : List (Str × Nat)} {ts : List Nat} {stp : List D → Go} {kk : List D → G → Res D}
structure GenOk (C : Cfg) (X : Cx) (W : WX) (k : Nat) (tg iter elt : Expr) (ifs : List Expr) (scope : Scope) (own : List (Str × Nat)) (ts : List Nat) (fi : FI) (fg : FG) (ft : FT) (fe : FE) : Prop where
  room : Room (k + 3) X.A
  tab : ∃ c P, LamX.TabB X.base X.mg c P ∧ X.env.code = .ref c ∧ (P, X.env.qual ++ "<genexpr>") ∈ C.tabs ∧ ∀ p ∈ C.tabs, p.1 = P → p.2 = X.env.qual ++ "<genexpr>"
  nd : X.N.Nodup
  blk : BlkOk X.N X.env.scope scope own
  tss : ∀ i ∈ ts, i ∈ own.map (·.2)
  cell : ∀ y ∈ scope.names, y.2 ≠ .cell
  dot : scope.names.lookup (".0" : Str) = some NameKind.local
  co : scope.isCoroutine = false
  fold : ∀ v, genFold iter X.env v = pure v
  it : DI C X W tg iter fi
  tgt : ∀ (B : Around) (s : Shared) (H : Hp) (A : Addr) (code : Value) (fp : List Addr) (pn : List (Addr × Obj)), Room k (B.deeper (gEnvOf X scope A code)) → DG C (gCx X B s H (gEnvOf X scope A code) fp pn) W0 tg ts fg
  tst : ∀ (B : Around) (s : Shared) (H : Hp) (A : Addr) (code : Value) (fp : List Addr) (pn : List (Addr × Obj)), Room k (B.deeper (gEnvOf X scope A code)) → DTs C (gCx X B s H (gEnvOf X scope A code) fp pn) W0 ifs ft
  elt : ∀ (B : Around) (s : Shared) (H : Hp) (A : Addr) (code : Value) (fp : List Addr) (pn : List (Addr × Obj)), Room k (B.deeper (gEnvOf X scope A code)) → DP C (gCx X B s H (gEnvOf X scope A code) fp pn) W0 elt fe
/-- a consumer -/
def Cons (C : Cfg) (X : Cx) (W : WX) (k : Nat) (f : Value) (stp : List D → Go) (kk : List D → G → Res D) : Prop := ∀ (pins : List (Addr × Obj)) (σ : L2.St) (H2 : Hp) (N0 : Nat) (Gv Gn Fin : List V → Hp → Prop) (a : Addr) (s5 : Shared) (Q : VK),
  Room (k + 3) X.A → X.A.frames = some X.stack → GMd X k pins σ H2 N0 Gv Gn Fin a s5 → GSpec C X.K W σ Q stp kk Gv Gn Fin → wpAny (model X.prog X.w) X.A (call f [.ref a]) (fun u s' => ∃ v H', Inv X pins σ H' s' ∧ RelV v u ∧ Q v H') X.xe s5
theorem GenOk.arg {pins : List (Addr × Obj)} {σ : L2.St} {H : Hp} {s : Shared} {Q : VK} (O : GenOk C X W k tg iter elt ifs scope own ts fi fg ft fe) (I : Inv X pins σ H s) (h : tD C X.K W (fGn stp kk (own.map (·.2)) fi fg ft fe) σ H Q) :
    wpAny (model X.prog X.w) X.A (eval (.GeneratorExp elt [⟨tg, iter, ifs, 0⟩] scope pos) X.env) (fun u s5 => ∃ a H2 N0 Gv Gn Fin, u = .ref a ∧ GMd X k pins σ H2 N0 Gv Gn Fin a s5 ∧ GSpec C X.K W σ Q stp kk Gv Gn Fin) X.xe s := by
  obtain ⟨c, P, t1, t2, t3, t4⟩ := O.tab
  exact gen_arg (k := k) ⟨O.room.hd, by have := O.room.dp; omega, by have := O.room.un; omega⟩ t1 t2 t3 t4 O.nd O.blk O.tss O.cell O.dot O.co O.fold O.it O.tgt O.tst O.elt I h
theorem dp_genB {nm : Str} {id : String} (hg : Gl X nm) (hm : X.mg nm = none) (hv : bootBuiltins nm = some (.builtin id)) (hc : Cons C X W k (.builtin id) stp kk) (O : GenOk C X W k tg iter elt ifs scope own ts fi fg ft fe)
    (hnm : nm ≠ "__name__" := by decide) (hdb : (nm == ("__debug__" : Str)) = false := by decide)
    (he : starEach [.GeneratorExp elt [⟨tg, iter, ifs, 0⟩] scope gpos] X.env = (false, eval (.GeneratorExp elt [⟨tg, iter, ifs, 0⟩] scope gpos) X.env) :: starEach [] X.env := by rfl) :
    DP C X W (.Call (.Name nm p) [.GeneratorExp elt [⟨tg, iter, ifs, 0⟩] scope gpos] [] pos) (fGn stp kk (own.map (·.2)) fi fg ft fe) := by
  refine ⟨fun pins s σ H Q I h => ?_⟩
  refine wpAny_Call_Name_kw (ld_blt I hg hm hv ?_ hnm hdb)
  refine PyProof.Rows.callWith_builtin1 ?_ he (by rfl)
  rw [he]
  show wpAny _ _ (spliced ((false, eval (.GeneratorExp elt [⟨tg, iter, ifs, 0⟩] scope gpos) X.env) :: backTo pos (starEach [] X.env))) _ _ s
  refine Calls.spliced_cons (thn (O.arg I h) fun u s5 ⟨a, H2, N0, Gv, Gn, Fn, e, G, S⟩ => ?_)
  subst e
  refine Calls.spliced_nil ?_
  exact hc pins σ H2 N0 Gv Gn Fn a s5 Q O.room I.ok.frames G S
theorem dp_genT {nm : Str} {id : String} (hg : Gl X nm) (hm : X.mg nm = none) (hv : bootBuiltins nm = some (.type id)) (hc : Cons C X W k (.type id) stp kk) (O : GenOk C X W k tg iter elt ifs scope own ts fi fg ft fe)
    (hnm : nm ≠ "__name__" := by decide) (hdb : (nm == ("__debug__" : Str)) = false := by decide)
    (he : starEach [.GeneratorExp elt [⟨tg, iter, ifs, 0⟩] scope gpos] X.env = (false, eval (.GeneratorExp elt [⟨tg, iter, ifs, 0⟩] scope gpos) X.env) :: starEach [] X.env := by rfl) :
    DP C X W (.Call (.Name nm p) [.GeneratorExp elt [⟨tg, iter, ifs, 0⟩] scope gpos] [] pos) (fGn stp kk (own.map (·.2)) fi fg ft fe) := by
  refine ⟨fun pins s σ H Q I h => ?_⟩
  refine wpAny_Call_Name_kw (ld_blt I hg hm hv ?_ hnm hdb)
  refine PyProof.Rows.callWith_type1 ?_ he (by rfl)
  rw [he]
  show wpAny _ _ (spliced ((false, eval (.GeneratorExp elt [⟨tg, iter, ifs, 0⟩] scope gpos) X.env) :: backTo pos (starEach [] X.env))) _ _ s
  refine Calls.spliced_cons (thn (O.arg I h) fun u s5 ⟨a, H2, N0, Gv, Gn, Fn, e, G, S⟩ => ?_)
  subst e
  refine Calls.spliced_nil ?_
  exact hc pins σ H2 N0 Gv Gn Fn a s5 Q O.room I.ok.frames G S
/-! ### the consumers -/
def stpB (b : Bool) : List D → Go := fun acc => match acc.getLast? with
  | some (.bl c) => if c = b then .stop (.bl b) else .go
  | _ => .bad
def kB (b : Bool) : List D → G → Res D := fun _ g => .ok (.bl (!b)) g
theorem stpB_stop {b : Bool} {acc : List D} {d : D} (h : stpB b acc = .stop d) : acc.getLast? = some (.bl b) ∧ d = .bl b := by
  unfold stpB at h
  split at h
  · rename_i c e
    split at h
    · rename_i z; subst z
      cases h
      exact ⟨e, rfl⟩
    · cases h
  · cases h
theorem stpB_go {b : Bool} {acc : List D} (h : stpB b acc = .go) : acc.getLast? = some (.bl (!b)) := by
  unfold stpB at h
  split at h
  · rename_i c e
    split at h
    · cases h
    · rename_i z
      rw [e]
      cases c <;> cases b <;> simp_all
  · cases h
theorem room2 {A : Around} (r : Room (k + 3) A) : Room (k + 2) A := ⟨r.hd, by have := r.dp; omega, by have := r.un; omega⟩
theorem any_cons : Cons C X W k (.builtin "any") (stpB true) (kB true) := by
  intro pins σ H2 N0 Gv Gn Fin a s5 Q hr hf G S
  refine any_c (k := k) (Qt := fun H => Q (.bl true) H) (Qf := fun H => Q (.bl false) H) (room2 hr) hf (G.imp (fun ys H h => ?_) (fun ys H h => ?_) fun ys H h => ?_) (fun H s' I q => ⟨.bl true, H, I, rfl, q⟩) fun H s' I q => ⟨.bl false, H, I, rfl, q⟩
  · obtain ⟨ν, μ, acc, d, g, r, e, _, R, P⟩ := S.gv ys H h
    obtain ⟨e1, rfl⟩ := stpB_stop e
    exact ⟨repL_last r e1, P.here R (rBl _)⟩
  · obtain ⟨ν, μ, acc, r, e⟩ := S.gn ys H h
    exact repL_last r (stpB_go e)
  · obtain ⟨ν, μ, acc, g, R, r, P⟩ := S.fin ys H h
    exact P.here R (rBl _)
theorem all_cons : Cons C X W k (.builtin "all") (stpB false) (kB false) := by
  intro pins σ H2 N0 Gv Gn Fin a s5 Q hr hf G S
  refine all_c (k := k) (Qt := fun H => Q (.bl true) H) (Qf := fun H => Q (.bl false) H) (room2 hr) hf (G.imp (fun ys H h => ?_) (fun ys H h => ?_) fun ys H h => ?_) (fun H s' I q => ⟨.bl true, H, I, rfl, q⟩) fun H s' I q => ⟨.bl false, H, I, rfl, q⟩
  · obtain ⟨ν, μ, acc, d, g, r, e, _, R, P⟩ := S.gv ys H h
    obtain ⟨e1, rfl⟩ := stpB_stop e
    exact ⟨repL_last r e1, P.here R (rBl _)⟩
  · obtain ⟨ν, μ, acc, r, e⟩ := S.gn ys H h
    exact repL_last r (stpB_go e)
  · obtain ⟨ν, μ, acc, g, R, r, P⟩ := S.fin ys H h
    exact P.here R (rBl _)
/-- all that comes is taken -/
def stpAll : List D → Go := fun _ => .go
def stpI : List D → Go := fun acc => match intsOf acc with
  | some _ => .go
  | none => .bad
def kSum : List D → G → Res D := fun acc g => match intsOf acc with
  | some ns => .ok (.int ns.sum) g
  | none => .stuck
theorem sum_cons : Cons C X W k (.builtin "sum") stpI kSum := by
  intro pins σ H2 N0 Gv Gn Fin a s5 Q hr hf G S
  refine sum_c (k := k) (room2 hr) hf (fun ys H h => ?_) (fun ys H h => ?_) G fun zs t H s' I q => ⟨.int zs.sum, H, I, ⟨t, rfl⟩, ?_⟩
  · obtain ⟨ν, μ, acc, d, g, r, e, _⟩ := S.gv ys H h
    unfold stpI at e
    split at e <;> cases e
  · obtain ⟨ν, μ, acc, r, e⟩ := S.gn ys H h
    unfold stpI at e
    split at e
    · rename_i ns e1
      exact ⟨ns, intsOf_rd r e1⟩
    · cases e
  · obtain ⟨ν, μ, acc, g, R, r, P⟩ := S.fin _ H q
    unfold kSum at P
    split at P
    · rename_i ns e1
      have := intsOf_rd r e1
      have := map_int_inj this
      subst this
      exact P.here R (rInt _)
    · exact P.elim
def kTup : List D → G → Res D := fun acc g => .ok (.tup acc) g
def kLst : List D → G → Res D := fun acc g => .ok (.lst acc) g
def kMut : List D → G → Res D := fun acc g => .ok (.loc g.length) (g ++ [O.lst acc])
theorem tup_cons : Cons C X W k (.type "tuple") stpAll kTup := by
  intro pins σ H2 N0 Gv Gn Fin a s5 Q hr hf G S
  refine tuple_c (k := k) hr hf (fun ys H h => ?_) G fun ys us H' s' I q hv hz => ?_
  · obtain ⟨ν, μ, acc, d, g, r, e, _⟩ := S.gv ys H h
    unfold stpAll at e
    cases e
  · obtain ⟨ν, μ, acc, g, R, r, P⟩ := S.fin _ H' q
    have hS : s'.heap.objs.size ≤ s'.heap.objs.size := Nat.le_refl _
    have I2 : Inv X pins σ (upd H' s'.heap.objs.size (.tup ys)) { s' with heap := s'.heap.push { cls := .type "tuple", data := .seq us.toArray } } :=
      I.laid (t' := s'.toks) (fun b o e => Heap.get?_push_of_some _ e) hS ⟨hz, us, hv, ⟨_, Heap.get?_push_size _ rfl, rfl, _, rfl⟩⟩
    exact ⟨.ref s'.heap.objs.size, _, I2, rfl, rD_tup R r P _ (I.hok.fresh hS)⟩
end
end Dl
end
section
set_option Elab.async false
set_option linter.all false
set_option maxRecDepth 100000
set_option maxHeartbeats 1000000
namespace Dl
open PySem PySem.Spec PyProof.Rows L2 GenW
abbrev dLe : D → D → Bool := PySem.W.dataLe false encD
def insD (d : D) : List D → List D
  | [] => [d]
  | e :: r => if dLe d e = true then d :: e :: r else e :: insD d r
/-- sorted, by putting each in its place -/
def srt : List D → List D
  | [] => []
  | d :: r => insD d (srt r)
theorem insD_at (d : D) : ∀ (l1 l2 : List D), (∀ b, b ∈ l1 → (!dLe d b) = true) → (∀ b, b ∈ l2 → dLe d b = true) → insD d (l1 ++ l2) = l1 ++ d :: l2
  | [], [], _, _ => rfl
  | [], e :: r, _, h => by
    show (if dLe d e = true then d :: e :: r else e :: insD d r) = d :: e :: r
    rw [if_pos (h e List.mem_cons_self)]
  | e :: r, l2, h1, h2 => by
    have := h1 e List.mem_cons_self
    show (if dLe d e = true then d :: e :: (r ++ l2) else e :: insD d (r ++ l2)) = e :: (r ++ d :: l2)
    rw [if_neg (by simpa using this), insD_at d r l2 (fun b hb => h1 b (List.mem_cons_of_mem _ hb)) h2]
theorem dLe_trans (a b c : D) : dLe a b = true → dLe b c = true → dLe a c = true := (PySem.W.sortLe_total _ _ _).trans a b c
theorem dLe_total (a b : D) : (dLe a b || dLe b a) = true := Bool.or_eq_true_iff.mpr ((PySem.W.sortLe_total _ _ _).total a b)
theorem srt_eq : ∀ ds : List D, srt ds = ds.mergeSort (PySem.W.dataLe false encD)
  | [] => by simp [srt]
  | d :: r => by
    obtain ⟨l1, l2, e1, e2, h⟩ := List.mergeSort_cons dLe_trans dLe_total d r
    have hs := List.pairwise_mergeSort dLe_trans dLe_total (d :: r)
    rw [e1, List.pairwise_append] at hs
    have h2 := hs.2.1
    rw [List.pairwise_cons] at h2
    show insD d (srt r) = _
    rw [srt_eq r, e2, e1]
    exact insD_at d l1 l2 h fun b hb => h2.1 b hb
theorem srt_length (ds : List D) : (srt ds).length = ds.length := by rw [srt_eq, List.length_mergeSort]
def heads : D → Bool
  | .tup (_ :: _) => true
  | _ => false
def atoms : D → Bool
  | .non => false
  | .tup _ => false
  | _ => true
def srtOk (ds : List D) : Bool := pureL ds && (ds.all fun d => ds.all fun e => PySem.W.alike (encD d) (encD e)) && (ds.all heads || ds.all atoms) && (ds.all fun d => decide ((encD d).depth ≤ 100)) && decide (ds.length ≤ sizeLine)
theorem pureL_all : ∀ {ds : List D}, pureL ds = true → ∀ d ∈ ds, pureD d = true
  | [], _, d, h => by cases h
  | e :: r, p, d, h => by
    unfold pureL at p
    rw [Bool.and_eq_true] at p
    rcases List.mem_cons.mp h with z | z
    · rw [z]; exact p.1
    · exact pureL_all p.2 d z
section
variable {X : Cx} {pins : List (Addr × Obj)} {σ : L2.St} {H : Hp} {s : Shared} {ν μ : List Addr}
theorem zip_fst {α β : Type} : ∀ {xs : List α} {ys : List β}, xs.length = ys.length → (xs.zip ys).map (·.1) = xs
  | [], [], _ => rfl
  | x :: xs, y :: ys, h => by simp [zip_fst (xs := xs) (ys := ys) (by simpa using h)]
theorem zip_each {H : Hp} : ∀ {ds : List D} {ys : List V} {us : List Value}, RepL X.K H ν μ ds ys → Vals ys us → PySem.W.EachIs (fun u (b : D × V) => RelV b.2 u ∧ RepD X.K H ν μ b.1 b.2) us (ds.zip ys)
  | [], ys, us, r, v => by unfold RepL at r; subst r; cases v; exact .nil
  | d :: ds, ys, us, r, v => by
    unfold RepL at r
    obtain ⟨y, rr, rfl, r1, r2⟩ := r
    cases v with
    | cons v1 v2 => exact .cons ⟨v1, r1⟩ (zip_each r2 v2)
theorem each_unzip {H : Hp} : ∀ {bs : List (D × V)} {us : List Value}, PySem.W.EachIs (fun u (b : D × V) => RelV b.2 u ∧ RepD X.K H ν μ b.1 b.2) us bs → Vals (bs.map (·.2)) us ∧ RepL X.K H ν μ (bs.map (·.1)) (bs.map (·.2))
  | [], us, h => by cases h; exact ⟨.nil, rfl⟩
  | b :: bs, us, h => by
    cases h with
    | cons h1 h2 =>
      obtain ⟨v, r⟩ := each_unzip h2
      exact ⟨.cons h1.1 v, b.2, _, rfl, h1.2, r⟩
theorem zip_reads (I : Inv X pins σ H s) {h' : Heap} {p : Addr} (k : ∀ b o, s.heap.get? b = some o → h'.get? b = some o) : ∀ {ds : List D} {ys : List V} {us : List Value}, RepL X.K H ν μ ds ys → Vals ys us → pureL ds = true → PySem.W.EachIs (fun u (b : D × V) => ∃ as, Reads h' u (encD b.1) as ∧ p ∉ as) us (ds.zip ys)
  | [], ys, us, r, v, _ => by unfold RepL at r; subst r; cases v; exact .nil
  | d :: ds, ys, us, r, v, q => by
    unfold RepL at r
    obtain ⟨y, rr, rfl, r1, r2⟩ := r
    unfold pureL at q
    rw [Bool.and_eq_true] at q
    cases v with
    | cons v1 v2 => exact .cons ⟨[], PyProof.Rows.Reads.keeps k (readsD I d r1 v1 q.1), by simp⟩ (zip_reads I k r2 v2 q.2)
/-- a new list is sorted -/
theorem sort_new {A : Around} {ds : List D} {ys : List V} {us : List Value} {Q : Value → Shared → Prop} {E : Value → Shared → Prop} (I : Inv X pins σ H s) (r : RepL X.K H ν μ ds ys) (v : Vals ys us) (ok : srtOk ds = true) (hr : A.units + 200 < cLine)
    (h : ∀ s' zs, RepL X.K H ν μ (srt ds) zs → Inv X pins σ (upd H s.heap.objs.size (.lst zs)) s' → Q .none s') :
    wpAny (model X.prog X.w) A (call (.builtin "list.sort") [.ref s.heap.objs.size]) Q E { s with heap := s.heap.push { cls := .type "list", data := .seq us.toArray } } := by
  unfold srtOk at ok
  simp only [Bool.and_eq_true, decide_eq_true_eq] at ok
  obtain ⟨⟨⟨⟨ok1, ok2⟩, ok3⟩, ok4⟩, ok5⟩ := ok
  have hl := RepL.length r
  have hf : (ds.zip ys).map (·.1) = ds := zip_fst (by rw [hl])
  have hm : (ds.zip ys).map (fun b : D × V => encD b.1) = ds.map encD := by
    rw [← hf, List.map_map, hf]; rfl
  have hmem : ∀ b, b ∈ ds.zip ys → b.1 ∈ ds := fun b hb => (List.of_mem_zip hb).1
  refine PySem.W.list_sort_data (s := { s with heap := s.heap.push { cls := .type "list", data := .seq us.toArray } }) (n := 0) (bs := ds.zip ys) (enc := fun b => encD b.1) (R := fun u (b : D × V) => RelV b.2 u ∧ RepD X.K H ν μ b.1 b.2)
    (Heap.get?_push_size _ rfl) (zip_each r v) (zip_reads I (fun b o e => Heap.get?_push_of_some _ e) r v ok1) (fun d hd d' hd' => ?_) ?_ (by rw [List.length_zip, hl]; rw [hl] at ok5; simpa using ok5) (fun b hb => ?_) fun out ho he => ?_
  · rw [hm] at hd hd'
    obtain ⟨x, hx, rfl⟩ := List.mem_map.mp hd
    obtain ⟨y, hy, rfl⟩ := List.mem_map.mp hd'
    exact List.all_eq_true.mp (List.all_eq_true.mp ok2 x hx) y hy
  · rw [hm]
    rw [Bool.or_eq_true] at ok3
    rcases ok3 with z | z
    · refine .inl fun d hd => ?_
      obtain ⟨x, hx, rfl⟩ := List.mem_map.mp hd
      have := List.all_eq_true.mp z x hx
      unfold heads at this
      split at this
      · exact ⟨_, _, rfl⟩
      · cases this
    · refine .inr fun d hd => ?_
      obtain ⟨x, hx, rfl⟩ := List.mem_map.mp hd
      have := List.all_eq_true.mp z x hx
      have hp := pureL_all ok1 x hx
      cases x <;> simp_all [atoms, encD, pureD]
  · have := List.all_eq_true.mp ok4 b.1 (hmem b hb)
    have := of_decide_eq_true this
    show A.units + 1 + (encD b.1).depth < cLine
    omega
  · obtain ⟨v2, r2⟩ := each_unzip he
    have e1 : ((ds.zip ys).mergeSort (PySem.W.dataLe false fun b : D × V => encD b.1)).map (·.1) = srt ds := by
      have q := List.map_mergeSort (l := ds.zip ys) (f := fun b : D × V => b.1) (r := PySem.W.dataLe false fun b : D × V => encD b.1) (s := PySem.W.dataLe false encD) (fun a _ b _ => rfl)
      rw [hf] at q
      rw [srt_eq]
      exact q
    rw [e1] at r2
    have hlen : (((ds.zip ys).mergeSort (PySem.W.dataLe false fun b : D × V => encD b.1)).map (·.2)).length ≤ sizeLine := by
      rw [← RepL.length r2]
      rw [srt_length]; exact ok5
    have hS : s.heap.objs.size ≤ s.heap.objs.size := Nat.le_refl _
    obtain ⟨c, hc⟩ := sortedHeap_at (h := s.heap.push { cls := .type "list", data := .seq us.toArray }) (a := s.heap.objs.size) (vs := us) (n := 0) (out := out.toArray) (Heap.get?_push_size _ rfl)
    refine h _ _ r2 (I.laid (t' := s.toks) (fun b o e => ?_) hS ⟨hlen, out, c, v2, hc⟩)
    have hlt := Heap.lt_size e
    rw [sortedHeap_old (Nat.ne_of_lt hlt) (by rw [Heap.size_push]; exact Nat.lt_succ_of_lt hlt)]
    exact Heap.get?_push_of_some _ e
end
section
variable {X : Cx} {pins : List (Addr × Obj)} {σ : L2.St} {C : Cfg} {W : WX} {k : Nat}
def kSrt : List D → G → Res D := fun acc g => if srtOk acc = true then .ok (.lst (srt acc)) g else .stuck
theorem sorted_cons : Cons C X W k (.builtin "sorted") stpAll kSrt := by
  intro pins σ H2 N0 Gv Gn Fin a s5 Q hr hf G S
  refine Calls.call_function_entry kind_sorted plain_sorted entry_sorted (args_sorted1 _) ?_
  unfold Builtin.«sorted»
  refine wpAny_bind (m := checkCount "sorted" 1 1 _) (wpAny_pure ?_)
  refine wpAny_bind (collect_c (k := k) (A := X.A.in1) ⟨hr.hd, by have := hr.dp; show X.A.depth + 3 * (k + 2) + 5 < _; omega, by have := hr.un; show X.A.units + 1 + 16 * (k + 2) + 200 < _; omega⟩ hf (fun ys H h => ?_) G fun ys us H' s' I q hv hz => ?_)
  · obtain ⟨ν, μ, acc, d, g, r, e, _⟩ := S.gv ys H h
    unfold stpAll at e
    cases e
  refine wpAny_bind (wpAny_newList ?_ (by rw [← hv.length]; exact hz))
  refine wpAny_bind (wpAny_holding ?_)
  obtain ⟨ν, μ, acc, g, R, r, P⟩ := S.fin _ H' q
  unfold kSrt at P
  split at P
  · rename_i ok
    refine sort_new (A := X.A.in1) I r hv ok (by have := hr.un; show X.A.units + 1 + 200 < _; omega) fun s2 zs rz I2 => ?_
    exact wpAny_pure ⟨_, rfl, .ref s'.heap.objs.size, _, I2, rfl, rD_lst R rz P _ (I.hok.fresh (Nat.le_refl _))⟩
  · exact P.elim
def bSorted : FB
  | [d], g => match seqOf g d with
    | some ds => if srtOk ds = true then .ok (.lst (srt ds)) g else .stuck
    | none => .stuck
  | _, _ => .stuck
theorem bSorted_n : NoErrB bSorted := noerrB fun xs g c g' e => by unfold bSorted at e; split at e <;> (try split at e) <;> (try split at e) <;> cases e
theorem bSorted_ok (hr : Room 1 X.A) : CallR X (.builtin "sorted") (rB C X.K bSorted) := by
  intro pins s σ H vs us Q I rv h
  obtain ⟨ds, ν, μ, g, R, r, hP⟩ := h
  have hP := hP (fun _ _ _ _ => False) σ
  unfold bSorted at hP
  split at hP
  · obtain ⟨v, rfl, r1⟩ := rL1 r
    split at hP
    · rename_i es e
      split at hP
      · rename_i ok
        obtain ⟨a, xs, rfl, h1, h2⟩ := seq_rd R r1 e
        rw [Vals.ref1 rv]
        refine Calls.call_function_entry kind_sorted plain_sorted entry_sorted (args_sorted1 _) ?_
        unfold Builtin.«sorted»
        refine wpAny_bind (m := checkCount "sorted" 1 1 _) (wpAny_pure ?_)
        have goOn : ∀ its : List Value, Vals xs its → xs.length ≤ sizeLine → ∀ h', (∀ b o', s.heap.get? b = some o' → h'.get? b = some o') → wpAny (model X.prog X.w) X.A.in1 (do
              let l ← newList its
              let _ ← holding [l] (call (.builtin "list.sort") [l] [])
              ret l) (fun fin s' => ∃ v, fin = PySem.Fin.done (.ret v) ∧ ∃ x H', Inv X pins σ H' s' ∧ RelV x v ∧ Q x H') X.xe { s with heap := h' } := fun its hv hz h' k => by
          have I' : Inv X pins σ H { s with heap := h' } := I.kept (t' := s.toks) k
          refine wpAny_bind (wpAny_newList ?_ (by rw [← hv.length]; exact hz))
          refine wpAny_bind (wpAny_holding ?_)
          refine sort_new (A := X.A.in1) I' h2 hv ok (by have := hr.un; show X.A.units + 1 + 200 < _; omega) fun s2 zs rz I2 => ?_
          exact wpAny_pure ⟨_, rfl, .ref h'.objs.size, _, I2, rfl, rD_lst R rz hP _ (I'.hok.fresh (Nat.le_refl _))⟩
        rcases h1 with h1 | h1
        · obtain ⟨its, hv, ⟨o, n, ho, hc, _, hd⟩, hz⟩ := I.list h1
          exact wpAny_bind (wpAny_collect_seq a (.inl rfl) ho hc hd (fun h' k => goOn its hv hz h' k) (by rw [List.size_toArray, ← hv.length]; exact hz))
        · obtain ⟨its, hv, ⟨o, ho, hc, n, hd⟩, hz⟩ := I.tuple h1
          exact wpAny_bind (wpAny_collect_seq a (.inr rfl) ho hc hd (fun h' k => goOn its hv hz h' k) (by rw [List.size_toArray, ← hv.length]; exact hz))
      · exact hP.elim
    · exact hP.elim
  · exact hP.elim
end
end Dl
end
section
set_option Elab.async false
set_option linter.all false
set_option maxRecDepth 100000
set_option maxHeartbeats 1000000
namespace Dl
open PySem PySem.Spec PyProof.Rows L2
section
variable {prog : Program} {w : World} {A : Around} {E : Value → Shared → Prop} {s : Shared} {l : Addr} {its : List Value} {ns : List Int} {Q : Value → Shared → Prop}
theorem iter_tup {items : Array Value} {Q : Value → Shared → Prop} (hl : s.heap.IsTuple l items)
    (h : ∀ s₂ : Shared, s₂ = { s with heap := s.heap.push { cls := .type "tuple_iterator", data := .fields #[.ref l, .int 0 0] } } →
      (s₂.heap.IsTupleIter s.heap.objs.size l 0 ∧ s₂.heap.IsTuple l items) → (∀ b ∈ [s.heap.objs.size, l], b < s₂.heap.objs.size) → l ≠ s.heap.objs.size → Q (.ref s.heap.objs.size) s₂) :
    wpAny (model prog w) A (pyIter (.ref l)) Q E s := by
  have hlt : l < s.heap.objs.size := by obtain ⟨_, e, _⟩ := hl; exact Heap.lt_size e
  refine wpAny_pyIter_tuple hl (h _ rfl ⟨⟨_, Heap.get?_push_size _ rfl, rfl, rfl⟩, (let ⟨o, e, r⟩ := hl; ⟨o, Heap.get?_push_of_some _ e, r⟩)⟩ (fun b hb => ?_) (Nat.ne_of_lt hlt))
  show b < (s.heap.push _).objs.size
  rw [Heap.size_push]
  rcases List.mem_cons.mp hb with rfl | hb
  · exact Nat.lt_succ_self _
  · rcases List.mem_cons.mp hb with rfl | hb
    · exact Nat.lt_succ_of_lt hlt
    · cases hb
theorem old_keptT {h h' : Heap} {o : Obj} (hk : ∀ b u, ¬ b ∈ [h.objs.size] → (h.push o).get? b = some u → h'.get? b = some u) : ∀ b u, h.get? b = some u → h'.get? b = some u := fun b u e =>
  hk b u (fun z => Nat.ne_of_lt (Heap.lt_size e) (List.mem_singleton.mp z)) (Heap.get?_push_of_some _ e)
theorem sum_tup (hh : A.handled = none) (hl : s.heap.IsTuple l its.toArray) (hi : IntsAre its ns)
    (h : ∀ h' tk t', (∀ b o, s.heap.get? b = some o → h'.get? b = some o) → Q (.int ns.sum t') { s with heap := h', toks := tk }) : wpAny (model prog w) A (call (.builtin "sum") [.ref l]) Q E s := by
  obtain ⟨xs, e⟩ := hi.allInts.items
  have hn : numsOf (intItems xs).toList = ns := by rw [← e]; exact hi.numsOf
  rw [nums_intItems] at hn
  rw [e] at hl
  refine call_sum_walkG (iter_tup hl fun s₂ e st hfp hlI => ?_)
  subst e
  refine ⟨_, _, _, _, _, _, numAt xs, rfl, Walks.tuple (A := A.in1) hh _ l hlI (intItems xs), st, hfp, (fun _ _ => intItems_at), fun h' tk t' hk => ?_⟩
  have := h h' tk t' (old_keptT hk)
  have e9 : preSum (numAt xs) xs.size = ns.sum := by rw [preSum_eq, List.take_of_length_le (by simp), hn]
  rw [← e9] at this
  simpa [intItems] using this
theorem max_tup (hh : A.handled = none) (hl : s.heap.IsTuple l its.toArray) (hi : IntsAre its ns) (hne : 0 < ns.length)
    (h : ∀ h' tk M t', (∀ b o, s.heap.get? b = some o → h'.get? b = some o) → M ∈ ns → (∀ a, a ∈ ns → a ≤ M) → Q (.int M t') { s with heap := h', toks := tk }) : wpAny (model prog w) A (call (.builtin "max") [.ref l]) Q E s := by
  obtain ⟨xs, e⟩ := hi.allInts.items
  have hn : numsOf (intItems xs).toList = ns := by rw [← e]; exact hi.numsOf
  rw [nums_intItems] at hn
  subst hn
  rw [e] at hl
  have hsz : 0 < xs.size := by simpa using hne
  refine call_max_walk (iter_tup hl fun s₂ e st hfp hlI => ?_)
  subst e
  refine ⟨_, _, _, _, _, _, _, rfl, Walks.tuple (A := A.in1) hh _ l hlI (intItems xs), st, hfp, by simpa [intItems] using hsz, CmpOf.ints_gt (numAt xs) (fun _ _ => intItems_at), fun v h' tk hP hk => ?_⟩
  have hv : (intItems xs)[argBest (fun i j => decide (numAt xs i > numAt xs j)) (xs.size - 1)]? = some v := by simpa [intItems] using hP
  obtain ⟨t, rfl⟩ := intItems_at hv
  obtain ⟨h1, h2⟩ := argBest_gt (numAt xs) (xs.size - 1)
  refine h h' tk _ t (old_keptT hk) ?_ fun a ha => ?_
  · rw [numAt_eq]; exact PySem.getD_mem (by rw [List.length_map, Array.length_toList]; omega)
  · obtain ⟨j, hj, rfl⟩ := mem_getD ha
    rw [List.length_map, Array.length_toList] at hj
    rw [← numAt_eq]; exact h2 j (by omega)
theorem min_tup (hh : A.handled = none) (hl : s.heap.IsTuple l its.toArray) (hi : IntsAre its ns) (hne : 0 < ns.length)
    (h : ∀ h' tk M t', (∀ b o, s.heap.get? b = some o → h'.get? b = some o) → M ∈ ns → (∀ a, a ∈ ns → M ≤ a) → Q (.int M t') { s with heap := h', toks := tk }) : wpAny (model prog w) A (call (.builtin "min") [.ref l]) Q E s := by
  obtain ⟨xs, e⟩ := hi.allInts.items
  have hn : numsOf (intItems xs).toList = ns := by rw [← e]; exact hi.numsOf
  rw [nums_intItems] at hn
  subst hn
  rw [e] at hl
  have hsz : 0 < xs.size := by simpa using hne
  refine call_min_walk (iter_tup hl fun s₂ e st hfp hlI => ?_)
  subst e
  refine ⟨_, _, _, _, _, _, _, rfl, Walks.tuple (A := A.in1) hh _ l hlI (intItems xs), st, hfp, by simpa [intItems] using hsz, CmpOf.ints_lt (numAt xs) (fun _ _ => intItems_at), fun v h' tk hP hk => ?_⟩
  have hv : (intItems xs)[argBest (fun i j => decide (numAt xs i < numAt xs j)) (xs.size - 1)]? = some v := by simpa [intItems] using hP
  obtain ⟨t, rfl⟩ := intItems_at hv
  obtain ⟨h1, h2⟩ := argBest_lt (numAt xs) (xs.size - 1)
  refine h h' tk _ t (old_keptT hk) ?_ fun a ha => ?_
  · rw [numAt_eq]; exact PySem.getD_mem (by rw [List.length_map, Array.length_toList]; omega)
  · obtain ⟨j, hj, rfl⟩ := mem_getD ha
    rw [List.length_map, Array.length_toList] at hj
    rw [← numAt_eq]; exact h2 j (by omega)
end
section
variable {X : Cx} {C : Cfg}
theorem seq_ints {K : PySem.W.Frag} {H : Hp} {ν μ : List Addr} {g : G} {d : D} {v : V} {ns : List Int} (R : RS C K H ν μ g) (r : RepD K H ν μ d v) (e : (seqOf g d).bind intsOf = some ns) : ∃ a, v = .ref a ∧ (SqL K H a (ns.map V.int) ∨ SqT K H a (ns.map V.int)) := by
  cases hl : seqOf g d with
  | none => rw [hl] at e; cases e
  | some ds =>
    rw [hl] at e
    obtain ⟨a, xs, rfl, h1, h2⟩ := seq_rd R r hl
    have := intsOf_rd h2 e
    subst this
    exact ⟨a, rfl, h1⟩
/-- over lists and tuples -/
def bSumS : FB
  | [d], g => match (seqOf g d).bind intsOf with
    | some ns => .ok (.int ns.sum) g
    | none => .stuck
  | _, _ => .stuck
theorem bSumS_n : NoErrB bSumS := noerrB fun xs g c g' e => by unfold bSumS at e; split at e <;> (try split at e) <;> cases e
theorem bSumS_ok (hc : X.calm = true) : CallR X (.builtin "sum") (rB C X.K bSumS) := by
  intro pins s σ H vs us Q I rv h
  obtain ⟨ds, ν, μ, g, R, r, hP⟩ := h
  have hP := hP (fun _ _ _ _ => False) σ
  unfold bSumS at hP
  split at hP
  · obtain ⟨v, rfl, r1⟩ := rL1 r
    split at hP
    · rename_i ns e
      obtain ⟨a, rfl, hs | hs⟩ := seq_ints R r1 e
      · exact cr_sum hc pins s σ H _ us Q I rv ⟨a, ns, rfl, hs, hP.here R (rInt _)⟩
      · obtain ⟨its, rvs, hl, _⟩ := I.tuple hs
        rw [Vals.ref1 rv]
        exact sum_tup (I.ok.hd hc) hl rvs.ints fun h' tk t' hk => ⟨.int _, H, I.kept hk, ⟨_, rfl⟩, hP.here R (rInt _)⟩
    · exact hP.elim
  · exact hP.elim
def bMinS : FB
  | [.int i, .int j], g => .ok (.int (if j < i then j else i)) g
  | [d], g => match (seqOf g d).bind intsOf with
    | some (n :: ns) => .ok (.int (minL (n :: ns))) g
    | _ => .stuck
  | _, _ => .stuck
theorem bMinS_n : NoErrB bMinS := noerrB fun xs g c g' e => by unfold bMinS at e; split at e <;> (try split at e) <;> cases e
theorem bMinS_ok (hc : X.calm = true) : CallR X (.builtin "min") (rB C X.K bMinS) := by
  intro pins s σ H vs us Q I rv h
  obtain ⟨ds, ν, μ, g, R, r, hP⟩ := h
  have hP := hP (fun _ _ _ _ => False) σ
  unfold bMinS at hP
  split at hP
  · obtain ⟨v, w, rfl, r1, r2⟩ := rL2 r
    obtain rfl : v = .int _ := r1
    obtain rfl : w = .int _ := r2
    exact call_min2 hc pins s σ H _ us Q I rv ⟨_, _, rfl, hP.here R (rInt _)⟩
  · obtain ⟨v, rfl, r1⟩ := rL1 r
    split at hP
    · rename_i n ns e
      have go : ∀ m, m ∈ n :: ns → (∀ a, a ∈ n :: ns → m ≤ a) → Q (.int m) H := fun m h1 h2 => by
        have := minL_is h1 h2
        rw [this] at hP
        exact hP.here R (rInt _)
      obtain ⟨a, rfl, hs | hs⟩ := seq_ints R r1 e
      · exact cr_min hc pins s σ H _ us Q I rv ⟨a, n :: ns, rfl, hs, by simp, go⟩
      · obtain ⟨its, rvs, hl, _⟩ := I.tuple hs
        rw [Vals.ref1 rv]
        exact min_tup (I.ok.hd hc) hl rvs.ints (by simp) fun h' tk m t' hk h1 h2 => ⟨.int _, H, I.kept hk, ⟨_, rfl⟩, go m h1 h2⟩
    · exact hP.elim
  · exact hP.elim
def bMaxS : FB
  | [.int i, .int j], g => .ok (.int (if j > i then j else i)) g
  | [d], g => match (seqOf g d).bind intsOf with
    | some (n :: ns) => .ok (.int (maxL (n :: ns))) g
    | _ => .stuck
  | _, _ => .stuck
theorem bMaxS_n : NoErrB bMaxS := noerrB fun xs g c g' e => by unfold bMaxS at e; split at e <;> (try split at e) <;> cases e
theorem bMaxS_ok (hc : X.calm = true) : CallR X (.builtin "max") (rB C X.K bMaxS) := by
  intro pins s σ H vs us Q I rv h
  obtain ⟨ds, ν, μ, g, R, r, hP⟩ := h
  have hP := hP (fun _ _ _ _ => False) σ
  unfold bMaxS at hP
  split at hP
  · obtain ⟨v, w, rfl, r1, r2⟩ := rL2 r
    obtain rfl : v = .int _ := r1
    obtain rfl : w = .int _ := r2
    exact call_max2 hc pins s σ H _ us Q I rv ⟨_, _, rfl, hP.here R (rInt _)⟩
  · obtain ⟨v, rfl, r1⟩ := rL1 r
    split at hP
    · rename_i n ns e
      have go : ∀ m, m ∈ n :: ns → (∀ a, a ∈ n :: ns → a ≤ m) → Q (.int m) H := fun m h1 h2 => by
        have := maxL_is h1 h2
        rw [this] at hP
        exact hP.here R (rInt _)
      obtain ⟨a, rfl, hs | hs⟩ := seq_ints R r1 e
      · exact cr_max hc pins s σ H _ us Q I rv ⟨a, n :: ns, rfl, hs, by simp, go⟩
      · obtain ⟨its, rvs, hl, _⟩ := I.tuple hs
        rw [Vals.ref1 rv]
        exact max_tup (I.ok.hd hc) hl rvs.ints (by simp) fun h' tk m t' hk h1 h2 => ⟨.int _, H, I.kept hk, ⟨_, rfl⟩, go m h1 h2⟩
    · exact hP.elim
  · exact hP.elim
end
end Dl
end
section
set_option Elab.async false
set_option linter.all false
set_option maxRecDepth 100000
set_option maxHeartbeats 1000000
namespace Dl
open PySem PySem.Spec PyProof.Rows L2
open AutoSeq1 (wpAny_loadPart')
open RZ (ItzT pi_zipA)
theorem meets_enumT (l : Addr) (items : Array Value) (n : Nat) (dct : Option Addr) (sl : Array (Option Value)) :
    Meets (Builtin.«enumerate.__new__» ⟨[.type "enumerate", .ref l], []⟩) (fun _ R s => s.heap.get? l = some { cls := .type "tuple", dict := dct, data := .seq items n, slots := sl } ∧
      R (.ok (.ret (.ref (s.heap.push { cls := .type "tuple_iterator", data := .fields #[.ref l, .int 0 0] }).objs.size)))
        { s with heap := (s.heap.push { cls := .type "tuple_iterator", data := .fields #[.ref l, .int 0 0] }).push { cls := .type "enumerate", data := .fields #[.none, .bool false, .ref s.heap.objs.size, rawInt 0, .none, .none] } }) :=
  .of_wp fun prog w A R s ⟨hl, h⟩ => by
    obtain ⟨hp, g, d, tk, os⟩ := s
    have hsub := sub_enumerate
    have hL : Heap.IsTuple (Shared.heap ⟨hp, g, d, tk, os⟩) l items := ⟨_, hl, rfl, n, rfl⟩
    wp_walk using wpAny_loadPart' hl
    refine wpAny_stack_any fun st => wpAny_pure ?_
    split
    · rename_i c _ _ _ _ _
      cases (c == Value.type "enumerate") <;> (wp_walk using wpAny_loadPart' hl, wpAny_pyIter_tuple hL; exact ⟨_, rfl, h⟩)
    · wp_walk using wpAny_loadPart' hl, wpAny_pyIter_tuple hL
      exact ⟨_, rfl, h⟩
section
variable {prog : Program} {w : World} {A : Around} {E : Value → Shared → Prop} {s : Shared}
theorem call_enumT {l : Addr} {items : Array Value} {Q : Value → Shared → Prop} (hL : s.heap.IsTuple l items)
    (h : ∀ h', IsEnum h' (s.heap.objs.size + 1) s.heap.objs.size 0 .none → h'.IsTupleIter s.heap.objs.size l 0 → h'.objs.size = s.heap.objs.size + 2 →
      (∀ b o, s.heap.get? b = some o → h'.get? b = some o) → Q (.ref (s.heap.objs.size + 1)) { s with heap := h' }) :
    wpAny (model prog w) A (call (.type "enumerate") [.ref l]) Q E s := by
  obtain ⟨⟨c, dct, dt, sl⟩, hl, hc, n, hd⟩ := hL
  obtain rfl : c = .type "tuple" := hc
  obtain rfl : dt = .seq items n := hd
  refine callType_new F.called_enumerate (by decide) (F.typeCall_enumerate_1 _) (F.newCall_enumerate_1 _) (fun obj => F.args_object_init_2 obj _) F.entry_enumerate_new (meets_enumT l items n dct sl) ⟨hl, ?_⟩
  have hz : (s.heap.push { cls := .type "tuple_iterator", data := .fields #[.ref l, .int 0 0] }).objs.size = s.heap.objs.size + 1 := Heap.size_push ..
  show _ ∧ _
  rw [hz]
  have he : IsEnum ((s.heap.push { cls := .type "tuple_iterator", data := .fields #[.ref l, .int 0 0] }).push
      { cls := .type "enumerate", data := .fields #[.none, .bool false, .ref s.heap.objs.size, rawInt 0, .none, .none] }) (s.heap.objs.size + 1) s.heap.objs.size 0 .none := by
    have q := Heap.get?_push_size (s.heap.push { cls := .type "tuple_iterator", data := .fields #[.ref l, .int 0 0] })
      (o := { cls := .type "enumerate", data := .fields #[.none, .bool false, .ref s.heap.objs.size, rawInt 0, .none, .none] }) rfl
    rw [hz] at q; exact q
  exact ⟨⟨_, he, rfl⟩, h _ he ⟨_, Heap.get?_push_of_some _ (Heap.get?_push_size _ rfl), rfl, rfl⟩ (by rw [Heap.size_push, hz]) fun b o x => Heap.get?_push_of_some _ (Heap.get?_push_of_some _ x)⟩
end
/-- the tuple at a, each item in a new pair -/
def IteT (K : PySem.W.Frag) (a : Addr) : It :=
  ⟨fun i H => ∃ (xs : List V) (x : V), SqT K H a xs ∧ xs[i]? = some x, fun i H v H' => ∃ T x, v = .ref T ∧ H T = none ∧ H' = upd H T (.tup [.int (i : Nat), x]) ∧ ∀ xs, SqT K H a xs → xs[i]? = some x, fun i H => ∃ xs : List V, SqT K H a xs ∧ xs.length ≤ i⟩
theorem turn_enumT {P : Program} {w : World} {K : PySem.W.Frag} {elts : List Expr} {kk : Nat} {tpos : Pos} (a e it : Addr) (hae : a ≠ e) (hai : a ≠ it) :
    Turn P w K (.Tuple elts kk tpos) (IteT K a) [e, it] e (fun i h => (∃ old, IsEnum h e it ((i : Nat) : Int) old) ∧ h.IsTupleIter it a i ∧ e ≠ it) where
  mem := by simp
  obj := fun i h st b hb => by
    obtain ⟨⟨old, he⟩, ⟨o, ho, hc, hd⟩, _⟩ := st
    have e' : b = e ∨ b = it := by simpa using hb
    rcases e' with z | z
    · rw [z]; exact ⟨_, he, fun v q => nomatch q⟩
    · rw [z]; exact ⟨o, ho, fun v q => by rw [hd] at q; cases q⟩
  keep := fun i h h' st k => let ⟨⟨old, he⟩, hi, hne⟩ := st; ⟨⟨old, k e (by simp) _ he⟩, hi.at fun o q => k it (by simp) o q, hne⟩
  item := by
    intro X hP hw hK hc i pins s σ H E I hf st hg
    subst hP hw hK
    obtain ⟨⟨old, he⟩, hit, hne⟩ := st
    obtain ⟨xs, x, hq, hx⟩ := hg
    obtain ⟨its, rv, p, hz⟩ := I.tuple hq
    obtain ⟨u, hu, ru⟩ := rv.get hx
    have hel : e < s.heap.objs.size := Heap.lt_size he
    have hil : it < s.heap.objs.size := by obtain ⟨_, q, _⟩ := hit; exact Heap.lt_size q
    have hlt : i < its.toArray.size := by
      obtain ⟨z, _⟩ := List.getElem?_eq_some_iff.mp hu
      simpa using z
    refine wpAny_pyNext_enum_itemD (Draws.tuple (A := X.A.in1) (I.ok.hd hc) it a hai its.toArray) he ⟨hit, p⟩ hlt hne (by simp [hne, Ne.symm hae]) fun x' h' tk hx' ho hit' hT hsz hk => ?_
    have ex : x' = u := by
      have hx' : its.toArray[i]? = some x' := hx'
      have : its[i]? = some x' := by simpa using hx'
      rw [hu] at this; cases this; rfl
    subst ex
    refine ⟨_, rfl, wpAny_letOwnedTupleGo_enum (s := { s with heap := h', toks := tk + 1 }) ho fun h'' he' sb => ?_⟩
    have hT2 : h''.get? s.heap.objs.size = some { cls := .type "tuple", data := .seq #[.int i tk, x'] } := (sb.2 _ (Nat.ne_of_gt hel)).trans hT
    have new : ObjOk X.prog X.w (upd H s.heap.objs.size (.tup [.int (i : Nat), x])) h'' s.heap.objs.size (.tup [.int (i : Nat), x]) :=
      ⟨by show 2 ≤ sizeLine; decide, [.int i tk, x'], .cons ⟨_, rfl⟩ (.cons ru .nil), ⟨_, hT2, rfl, _, rfl⟩⟩
    have I1 : Inv X pins σ (upd H s.heap.objs.size (.tup [.int (i : Nat), x])) { s with heap := h'', toks := tk + 1 } :=
      I.turnedNew (ch := [e, it]) (fun b ob hb q => (sb.2 b (fun z => hb (by simp [z]))).trans (hk b ob (fun z => hb (by simp [z])) (fun z => hb (by simp [z])) q)) hf (Nat.le_refl _) new
    refine ⟨.ref s.heap.objs.size, _, I1, rfl, ⟨_, x, rfl, I.hok.fresh (Nat.le_refl _), rfl, fun ys hy => by rw [I.tuple_inj hy hq]; exact hx⟩, ⟨⟨x', ?_⟩, hit'.1.at fun o q => (sb.2 it (Ne.symm hne)).trans q, hne⟩, fun b hb => ?_⟩
    · have e1 : ((i + 1 : Nat) : Int) = (i : Int) + 1 := by omega
      rw [e1]; exact he'
    · have hb' : b < s.heap.objs.size := by
        have e' : b = e ∨ b = it := by simpa using hb
        rcases e' with z | z
        · rw [z]; exact hel
        · rw [z]; exact hil
      rw [upd_ne (Nat.ne_of_lt hb')]
      exact (hf b hb).1
  done := by
    intro X hP hw hK hc i pins s σ H E I hf st hg
    subst hP hw hK
    obtain ⟨⟨old, he⟩, hit, hne⟩ := st
    obtain ⟨xs, hq, hx⟩ := hg
    obtain ⟨its, rv, p, hz⟩ := I.tuple hq
    obtain ⟨f0, f1, f2, f3, f4, f5⟩ := hf it (by simp)
    have hT : s.TypeIs (.ref e) "enumerate" := ⟨_, he, rfl⟩
    have hl := rv.length
    unfold pyNext
    refine wpAny_bind (wpAny_attempt (wpAny_callSpecial?_slot (name := Str.ofString "__next__") hT F.slot_enumerate_next (wpAny_call_entry F.slot_enumerate_next hT F.entry_enumerate_next ?_ (F.args_enumerate_next_1 _))))
    show wpAny _ _ (field (.ref e) 2 >>= _) _ _ _
    refine wpAny_bind (wpAny_field he rfl (x := .ref it) rfl ?_)
    refine wpAny_bind (PySem.wpAny_nextOf_tuple_end (I.ok.hd hc) hit p (by simp; omega) fun h' x he' hx' => ?_)
    obtain ⟨o, ho, hc⟩ := hx'
    refine wpAny_bind (wpAny_isInstance (T := "StopIteration") (b := true) ⟨o, ho, hc⟩ isSubtype_stop ?_)
    exact wpAny_pure ⟨rfl, I.turned (t' := s.toks) (fun b o hb q => he' b o hb q) f0 f1 f3 f4 f5⟩
  self := fun A i s Q E st h => let ⟨⟨_, he⟩, _⟩ := st; wpAny_pyIter_enum he h
def iEnumA (K : PySem.W.Frag) (ta : TA) : TI := fun σ H R => ta σ H fun vs H1 => ∃ a xs, vs = [.ref a] ∧ ((SqL K H1 a xs ∧ R (Ite K a) H1) ∨ (SqT K H1 a xs ∧ R (IteT K a) H1))
theorem pi_enumA {X : Cx} {e : Expr} {ta : TA} {p pos tpos : Pos} {elts : List Expr} {kk : Nat} (hg : Gl X "enumerate") (hm : X.mg "enumerate" = none) (ha : PA X [e] ta) (hs : starEach [e] X.env = [(false, eval e X.env)] := by rfl) :
    PI X (.Tuple elts kk tpos) (.Call (.Name "enumerate" p) [e] [] pos) (iEnumA X.K ta) := by
  refine ⟨fun pins s σ H R I h => ?_⟩
  refine Call_ (ld_blt I hg hm boot_enumerate (PyProof.Rows.callWith_type1 (thn (ha.run pos pins s σ H _ I h) fun us s1 ⟨vs, H1, I1, r1, q1⟩ => ?_) hs rfl))
  obtain ⟨a, xs, ex, q1⟩ := q1
  subst ex
  have r1 := Vals.ref1 r1
  subst r1
  have fresh2 : ∀ b ∈ [s1.heap.objs.size + 1, s1.heap.objs.size], FpOk X pins H1 b := fun b hb => by
    have hle : s1.heap.objs.size ≤ b := by
      rcases List.mem_cons.mp hb with z | z
      · rw [z]; exact Nat.le_add_right _ _
      · rw [List.mem_singleton.mp z]; exact Nat.le_refl _
    exact I1.fpOk hle (I1.hok.fresh hle)
  rcases q1 with ⟨hq, q⟩ | ⟨hq, q⟩
  · obtain ⟨its, rv, p', hz⟩ := I1.list hq
    refine call_enumerate_list p'.isList fun h' he hit hsz hk => wpAny_pyIter_enum he ?_
    exact ⟨s1.heap.objs.size + 1, _, _, _, H1, rfl, I1.kept (t' := s1.toks) hk, turn_enum a (s1.heap.objs.size + 1) s1.heap.objs.size, ⟨⟨.none, he⟩, hit, Nat.succ_ne_self _⟩, fresh2, q⟩
  · obtain ⟨its, rv, p', hz⟩ := I1.tuple hq
    have hlt : a < s1.heap.objs.size := by obtain ⟨o, e, _⟩ := id p'; exact Heap.lt_size e
    refine call_enumT p' fun h' he hit hsz hk => wpAny_pyIter_enum he ?_
    exact ⟨s1.heap.objs.size + 1, _, _, _, H1, rfl, I1.kept (t' := s1.toks) hk, turn_enumT a (s1.heap.objs.size + 1) s1.heap.objs.size (Nat.ne_of_lt (Nat.lt_succ_of_lt hlt)) (Nat.ne_of_lt hlt), ⟨⟨.none, he⟩, hit, Nat.succ_ne_self _⟩, fresh2, q⟩
section
variable {C : Cfg} {K : PySem.W.Frag} {H H' H0 : Hp} {ν μ μ' μ0 : List Addr} {g : G} {ds : List D} {xs : List V} {a : Addr}
theorem yields_enumT (h : SqT K H0 a xs) (r : RepL K H0 ν μ0 ds xs) : Yields K H0 ν μ0 (enumD 0 ds) (IteT K a) := fun i H k => by
  have q := sqT_keep h k
  refine ⟨fun d hd => ?_, fun hi => ⟨xs, q, by rw [← RepL.length r, ← enumD_length ds 0]; exact hi⟩⟩
  rw [enumD_get] at hd
  cases hc : ds[i]? with
  | none => rw [hc] at hd; cases hd
  | some c =>
    rw [hc] at hd; cases hd
    obtain ⟨v, hv, rv⟩ := RepL.get r hc
    refine ⟨⟨xs, v, q, hv⟩, fun x H' ⟨T, y, e1, e2, e3, e4⟩ => .inr ⟨T, _, _, e1, e2, e3, rfl, ?_⟩⟩
    have := e4 xs q
    rw [hv] at this; cases this
    exact ⟨.int _, [v], rfl, by rw [Nat.zero_add]; exact rInt _, v, [], rfl, rv, rfl⟩
theorem yields_zipT {es : List D} {ys : List V} {b : Addr} (h : SqT K H0 a xs) (r : RepL K H0 ν μ0 ds xs) (h' : SqT K H0 b ys) (r' : RepL K H0 ν μ0 es ys) : Yields K H0 ν μ0 (zipD ds es) (ItzT K a b) := fun i H k => by
  have q := sqT_keep h k
  have q' := sqT_keep h' k
  refine ⟨fun d hd => ?_, fun hi => ⟨xs, ys, q, q', ?_⟩⟩
  · obtain ⟨c1, c2, e1, e2, rfl⟩ := zipD_get _ _ _ _ hd
    obtain ⟨v, hv, rv⟩ := RepL.get r e1
    obtain ⟨w, hw, rw'⟩ := RepL.get r' e2
    refine ⟨⟨xs, ys, v, w, q, q', hv, hw⟩, fun x H' ⟨T, y1, y2, e1, e2, e3, e4, e5⟩ => .inr ⟨T, _, _, e1, e2, e3, rfl, ?_⟩⟩
    have t1 := e4 xs q
    have t2 := e5 ys q'
    rw [hv] at t1; cases t1
    rw [hw] at t2; cases t2
    exact ⟨v, [w], rfl, rv, w, [], rfl, rw', rfl⟩
  · rw [zipD_length] at hi
    have l1 := RepL.length r
    have l2 := RepL.length r'
    omega
end
section
variable {C : Cfg} {X : Cx} {W : WX} {e a b c o tg : Expr} {fes : FA} {pos p : Pos}
def enmA : List D → Option (List D)
  | [.lst ds] => some (enumD 0 ds)
  | [.tup ds] => some (enumD 0 ds)
  | _ => none
theorem di_enumA {elts : List Expr} {kk : Nat} {tpos : Pos} (hg : Gl X "enumerate") (hm : X.mg "enumerate" = none) (ha : DA C X W [a] fes) (hs : starEach [a] X.env = [(false, eval a X.env)] := by rfl) :
    DI C X W (.Tuple elts kk tpos) (.Call (.Name "enumerate" p) [a] [] pos) (iRng enmA fes) :=
  PI.imp (pi_enumA hg hm ha hs) fun σ H R h => iRng_of h fun ν μ g ds vs H1 items hR r hz hP => by
    unfold enmA at hz
    split at hz
    · cases hz
      unfold RepL RepL at r
      obtain ⟨v, _, rfl, r1, rfl⟩ := r
      unfold RepD at r1
      obtain ⟨a, xs, rfl, h1, h3, h4, h2⟩ := r1
      exact ⟨a, xs, rfl, .inl ⟨SqL.of h1, hP _ _ _ .refl hR (yields_enum h1 h3 h2)⟩⟩
    · cases hz
      unfold RepL RepL at r
      obtain ⟨v, _, rfl, r1, rfl⟩ := r
      unfold RepD at r1
      obtain ⟨a, xs, rfl, h1, h2⟩ := r1
      exact ⟨a, xs, rfl, .inr ⟨h1, hP _ _ _ .refl hR (yields_enumT h1 h2)⟩⟩
    · cases hz
def zppA : List D → Option (List D)
  | [.lst ds, .lst es] => some (zipD ds es)
  | [.tup ds, .tup es] => some (zipD ds es)
  | _ => none
theorem di_zipA {elts : List Expr} {kk : Nat} {tpos : Pos} (hg : Gl X "zip") (hm : X.mg "zip" = none) (ha : DA C X W [a, b] fes)
    (hs : starEach [a, b] X.env = (false, eval a X.env) :: starEach [b] X.env := by rfl) (hpl : (backTo pos (starEach [b] X.env)).any (·.1) = false := by rfl) :
    DI C X W (.Tuple elts kk tpos) (.Call (.Name "zip" p) [a, b] [] pos) (iRng zppA fes) :=
  PI.imp (pi_zipA hg hm ha hs hpl) fun σ H R h => iRng_of h fun ν μ g ds vs H1 items hR r hz hP => by
    unfold zppA at hz
    split at hz
    · cases hz
      unfold RepL RepL RepL at r
      obtain ⟨v, _, rfl, r1, w, _, rfl, r2, rfl⟩ := r
      unfold RepD at r1 r2
      obtain ⟨a, xs, rfl, h1, h3, h4, h2⟩ := r1
      obtain ⟨b, ys, rfl, h1', h3', h4', h2'⟩ := r2
      exact ⟨a, b, xs, ys, rfl, .inl ⟨SqL.of h1, SqL.of h1', hP _ _ _ .refl hR (yields_zip h1 h3 h2 h1' h3' h2')⟩⟩
    · cases hz
      unfold RepL RepL RepL at r
      obtain ⟨v, _, rfl, r1, w, _, rfl, r2, rfl⟩ := r
      unfold RepD at r1 r2
      obtain ⟨a, xs, rfl, h1, h2⟩ := r1
      obtain ⟨b, ys, rfl, h1', h2'⟩ := r2
      exact ⟨a, b, xs, ys, rfl, .inr ⟨h1, h1', hP _ _ _ .refl hR (yields_zipT h1 h2 h1' h2')⟩⟩
    · cases hz
end
end Dl
end
section
set_option Elab.async false
set_option linter.all false
set_option maxRecDepth 100000
set_option maxHeartbeats 1000000
namespace Dl
open PySem PySem.Spec PyProof.Rows L2
section
variable {X : Cx} {pins : List (Addr × Obj)} {σ : L2.St} {H : Hp} {s : Shared}
abbrev bEnv (X : Cx) (scope : Scope) (s : Shared) : Env := compEnvC scope (cellsFrom (s.heap.objs.size + 1) scope.names (cloFrom X.env.cells scope.names [])) s.heap.objs.size X.env
/-- a comprehension that takes nothing; its tests may lean on what the owner knows -/
theorem comp_none {elt tg iter : Expr} {ifs : List Expr} {scope : Scope} {own : List (Str × Nat)} {pos : Pos} {wi : TI} {g : TG} {tt : TT} {Q : VK} (hc : X.calm = true) (hN : X.N.Nodup) (I : Inv X pins σ H s) (hi : PI X tg iter wi) (ok : BlkOk X.N X.env.scope scope own)
    (hg : ∀ (s : Shared) (H : Hp) (A : Addr) (cl : List (Str × Addr)) (fp : List Addr), PG (X.blk s H scope (compEnvC scope cl A X.env) fp) tg g)
    (ht : ∀ (s : Shared) (H : Hp) (A : Addr) (cl : List (Str × Addr)) (fp : List Addr), (∀ pins' σ' H' s', Inv (X.blk s H scope (compEnvC scope cl A X.env) fp) pins' σ' H' s' → Inv X pins σ H' s') → PTs (X.blk s H scope (compEnvC scope cl A X.env) fp) ifs tt)
    (hs : ∀ x, foldedSetIterable iter X.env x = pure x)
    (h : wi σ H fun J H1 => ∀ D, H1 D = none → ∃ (n : Nat) (W : Nat → Hp → Prop), W 0 (upd H1 D (.lst [])) ∧ ∀ i H, W i H → (i = n ∧ J.stop i H ∧ Q (.ref D) H) ∨
      (i < n ∧ J.go i H ∧ ∀ x H', J.yld i H x H' → g x (wipe σ (own.map (·.2))) H' fun σ2 H2 => wipe σ2 (own.map (·.2)) = wipe σ (own.map (·.2)) ∧ tt σ2 H2 fun b H3 => b = false ∧ W (i + 1) H3)) :
    wpAny (model X.prog X.w) X.A (eval (.ListComp elt [⟨tg, iter, ifs, 0⟩] scope pos) X.env) (fun u s' => ∃ v H', Inv X pins σ H' s' ∧ RelV v u ∧ Q v H') X.xe s := by
  have caught : ∀ y ∈ scope.names, y.2 = .free → ∃ c, X.env.cells.lookup y.1 = some c := fun y hy e => (ok.free y hy e).elim (fun k => I.ok.has _ (.inl k)) fun k => I.ok.has _ (.inr k)
  rw [eval_ListComp]
  refine wpAny_comprehension_free (use := none) rfl hs (closure_ok caught) ok.kind (fun y hy e => by rw [ok.uniq y hy, e]) (thn (hi.run pins s σ H _ I h) fun xv s1 hx => thn hx fun itv s2 h2 => ?_)
  obtain ⟨it, fp, tn, J, H2, e, I2, T, st2, f2, q⟩ := h2
  subst e
  refine wpAny_newObj_type (newEnv_comp ?_) (by show 0 ≤ sizeLine; decide)
  have nD : H2 s2.heap.objs.size = none := I2.hok.fresh (Nat.le_refl _)
  obtain ⟨n, W, w0, turn⟩ := q _ nD
  have kept3 : ∀ b o, s2.heap.get? b = some o → (s2.heap.push { cls := .type "list", data := .seq ([] : List Value).toArray }).get? b = some o := fun b o e => Heap.get?_push_of_some _ e
  have I3 : Inv X pins σ (upd H2 s2.heap.objs.size (.lst [])) { s2 with heap := s2.heap.push { cls := .type "list", data := .seq ([] : List Value).toArray } } :=
    I2.laid (t' := s2.toks) kept3 (Nat.le_refl _) ⟨Nat.zero_le _, [], 0, .nil, Heap.get?_push_size _ rfl⟩
  have lt2 : ∀ b ∈ fp, b < s2.heap.objs.size := fun b hb => (T.obj _ _ st2 b hb).elim fun o z => Heap.lt_size z.1
  generalize hs3 : ({ s2 with heap := s2.heap.push { cls := .type "list", data := .seq ([] : List Value).toArray } } : Shared) = s3 at I3
  have eh3 : s3.heap = s2.heap.push { cls := .type "list", data := .seq ([] : List Value).toArray } := by rw [← hs3]
  have f3 : ∀ b ∈ fp, FpOk X pins (upd H2 s2.heap.objs.size (.lst [])) b ∧ b < s3.heap.objs.size := fun b hb =>
    ⟨⟨by rw [upd_ne (Nat.ne_of_lt (lt2 b hb))]; exact (f2 b hb).1, (f2 b hb).2⟩, by rw [eh3, Heap.size_push]; exact Nat.lt_succ_of_lt (lt2 b hb)⟩
  have I4 := block_start I3 ok hN f3
  have st4 : tn 0 (pushCells (s3.heap.push { cls := .type "dict", data := .dict #[] }) scope.names) :=
    T.keep _ _ _ st2 fun b _ o e => pushCells_keeps _ _ _ _ (Heap.get?_push_of_some _ (by rw [eh3]; exact kept3 b o e))
  generalize hH3 : upd H2 s2.heap.objs.size (.lst []) = H3 at I3 I4 f3 w0
  have back : ∀ pins' σ' H' s', Inv (X.blk s3 H3 scope (bEnv X scope s3) fp) pins' σ' H' s' → Inv X pins σ H' s' := fun pins' σ' H' s' I' =>
    I3.call' (ch := fp) I'.os I'.base I'.hok I'.bare fun b hb => ⟨(f3 b hb).1.2.2.2.1, (f3 b hb).1.2.1, (f3 b hb).1.2.2.2.2.1, (f3 b hb).1.2.2.2.2.2⟩
  have pg := hg s3 H3 s3.heap.objs.size (cellsFrom (s3.heap.objs.size + 1) scope.names (cloFrom X.env.cells scope.names [])) fp
  have pt := ht s3 H3 s3.heap.objs.size (cellsFrom (s3.heap.objs.size + 1) scope.names (cloFrom X.env.cells scope.names [])) fp back
  have fpo : ∀ {σ' : L2.St} {H' : Hp} {s' : Shared}, Inv (X.blk s3 H3 scope (bEnv X scope s3) fp) [] σ' H' s' → (∀ b ∈ fp, H' b = none) → ∀ b ∈ fp, FpOk (X.blk s3 H3 scope (bEnv X scope s3) fp) [] H' b := fun {σ' H' s'} I' hn b hb =>
    ⟨hn b hb, (I'.ok.exf b hb).1, I'.ok.exfs b hb, .inl hb, (I'.ok.exf b hb).2, fun p hp => absurd (show p ∈ ([] : List (Addr × Obj)) ++ [] from hp) (by simp)⟩
  have loop : codeAny (model X.prog X.w) X.A (.compLoop (.ListComp elt [⟨tg, iter, ifs, 0⟩] scope pos) 0 (.ref it) (.ref s2.heap.objs.size) (bEnv X scope s3)) (compPost (model X.prog X.w) X.A X.xe none (fun u s' => ∃ v H', Inv X pins σ H' s' ∧ RelV v u ∧ Q v H') (.ref s2.heap.objs.size) s3.heap.objs.size)
      { s3 with heap := pushCells (s3.heap.push { cls := .type "dict", data := .dict #[] }) scope.names } := by
    refine compLoop_any (fun m s' => ∃ i H', m = n - i ∧ Inv (X.blk s3 H3 scope (bEnv X scope s3) fp) [] (wipe σ (own.map (·.2))) H' s' ∧ tn i s'.heap ∧ (∀ b ∈ fp, H' b = none) ∧ W i H') ?_ n ⟨0, H3, rfl, I4, st4, fun b hb => (f3 b hb).1.1, w0⟩
    rintro m s5 ⟨i, H5, rfl, I5, st5, n5, w5⟩
    rcases turn i H5 w5 with ⟨_, stop, qq⟩ | ⟨hlt, go, step⟩
    · refine thnF (T.done (X.blk s3 H3 scope (bEnv X scope s3) fp) rfl rfl rfl hc i [] s5 _ H5 (fun _ _ => False) I5 (fpo I5 n5) st5 stop) fun r s6 ⟨hr, I6⟩ => ?_
      subst hr
      obtain ⟨m, hn, _⟩ := I6.loc
      have hn : s6.heap.Ns s3.heap.objs.size m := hn
      have nC : H5 s3.heap.objs.size = none := I6.free
      obtain ⟨f0, f1, f2, f3, f4, f5⟩ := I3.fpOk (H' := H5) (Nat.le_refl _) nC
      exact ⟨m, hn, fun h'' sb => ⟨.ref s2.heap.objs.size, H5, (back _ _ _ _ I6).turned (t' := s6.toks) (fun b o hb e => (sb.2 b hb).trans e) f0 f1 f3 f4 f5, rfl, qq⟩⟩
    · refine thnF (T.item (X.blk s3 H3 scope (bEnv X scope s3) fp) rfl rfl rfl hc i [] s5 _ H5 (fun _ _ => False) I5 (fpo I5 n5) st5 go) fun r s6 ⟨u, hr, h6⟩ => ?_
      subst hr
      refine thnF h6 fun _ s7 ⟨x, H7, I7, r7, y7, st7, n7⟩ => ?_
      refine thnF (pg.run _ s7 _ H7 x u _ (I7.pinned (fpo I7 n7) (T.obj _ _ st7)) r7 (step x H7 y7)) fun _ s8 ⟨σ8, H8, I8, hw8, q8⟩ => ?_
      refine thnF (pt.run _ s8 σ8 H8 _ I8 q8) fun b s9 ⟨H9, I9, hb9, w9⟩ => ?_
      subst hb9
      have held : ∀ b ∈ fp, ∀ o, s7.heap.get? b = some o → s9.heap.get? b = some o ∧ H9 b = none := fun b hb o e =>
        (I9.pin (b, o) (List.mem_append_right _ (List.mem_append_right _ (mem_pinsAt hb e)))).imp id And.left
      rw [if_neg Bool.false_ne_true]
      refine ⟨n - (i + 1), by omega, i + 1, H9, rfl, (I9.unpinned (pins := [])).weak (by rw [← hw8, wipe_length]) (fun j v e => ?_), T.keep _ _ _ st7 fun b hb o e => (held b hb o e).1, fun b hb => ?_, w9⟩
      · rw [← hw8] at e
        exact (wipe_some e).1
      · obtain ⟨o, e, _⟩ := T.obj _ _ st7 b hb
        exact (held b hb o e).2
  exact codeAny_compStart_list loop (T.self X.A 0 _ _ _ st4 loop)
end
end Dl
end
section
set_option Elab.async false
set_option linter.all false
set_option maxRecDepth 100000
set_option maxHeartbeats 1000000
namespace Dl
open PySem PySem.Spec PyProof.Rows L2 LamX
/-- a lambda's text -/
structure LamI where
  params : Arguments
  body : Expr
  scope : Scope
def LamOb (q : Str) (l : LamI) (cl : List (Str × Addr)) (f c' : Addr) : HO := .ext fun h => ∃ (pm ctv : Value), h.get? f = some (PySem.W.kla_obj "<lambda>" q l.params l.body l.scope cl pm c' ctv)
theorem lamOb_ok {P : Program} {w : World} {H : Hp} {h : Heap} {q : Str} {l : LamI} {cl : List (Str × Addr)} {f c' : Addr} {pm ctv : Value} (e : h.get? f = some (PySem.W.kla_obj "<lambda>" q l.params l.body l.scope cl pm c' ctv)) : ObjOk P w H h f (LamOb q l cl f c') :=
  ⟨⟨pm, ctv, e⟩, ⟨_, e⟩, fun h1 h2 ⟨pm, ctv, z⟩ k => ⟨pm, ctv, k _ z⟩⟩
abbrev lq (X : Cx) : Str := X.env.qual ++ "<lambda>"
abbrev lcl (X : Cx) (l : LamI) : List (Str × Addr) := cloFrom X.env.cells l.scope.names []
section
variable {X : Cx} {pins : List (Addr × Obj)} {σ : L2.St} {H : Hp} {s : Shared}
/-- a lambda made and kept -/
def tLamK (X : Cx) (T : List (Addr × Str)) (l : LamI) : TE := fun σ H Q => Tabs T H ∧ ∀ f c' H1, ExtN H H1 → Tabs T H1 → H1 f = none → H1 c' = some (CodeO c' (lq X)) → Q (.ref f) (upd H1 f (LamOb (lq X) l (lcl X l) f c'))
theorem pe_lamK {T : List (Addr × Str)} {c P : Addr} {l : LamI} {pos : Pos} (TB : LamX.TabB X.base X.mg c P) (hcode : X.env.code = .ref c) (hm : (P, lq X) ∈ T) (hu : ∀ p ∈ T, p.1 = P → p.2 = lq X) (hdef : defaultsOf l.params X.env = ([], []))
    (hfree : ∀ (ok : X.Ok), ∀ y ∈ l.scope.names, y.2 = .free → ∃ c, X.env.cells.lookup y.1 = some c) : PE X (.Lambda l.params l.body l.scope pos) (tLamK X T l) := by
  refine ⟨fun pins s σ H Q I ⟨hT, h⟩ => ?_⟩
  obtain ⟨ps, hP, ht, ha⟩ := hT _ hm
  have hP' : s.heap.get? P = some { cls := .none, data := .fields ps } := I.hok P _ hP
  refine PySem.W.kla_eval hdef ?_
  cases hc : codeAmong pos ps.toList with
  | none =>
    refine PySem.W.kla_makeFunction (mg := X.mg) (c := c) (P := P) (ps := ps) (closure_ok (hfree I.ok)) I.ok.glob (I.mod.glob.keeps I.bk) hcode (TB.code.keeps I.bk) hP' ht hc TB.gP (TB.bm.keeps I.bk) fun c' ctv h' tk hx hge hlt ⟨c2, oc, vs, t, e2, hoc, hd, hv⟩ htb => ?_
    cases e2
    have nC : H c' = none := I.hok.fresh hge
    have eL : (ps ++ #[rawInt pos.line, rawInt pos.col, .ref c']).toList = ps.toList ++ [rawInt pos.line, rawInt pos.col, .ref c'] := by simp
    have I1 := LamX.inv_table (t' := tk) (q := lq X) (more := #[rawInt pos.line, rawInt pos.col, .ref c']) (h' := h') I hP (fun b o hb e => hx b o hb e) htb hge ⟨oc, vs, t, hoc, hd, hv⟩
    have hE : ExtN H (upd (upd H P (.tbl (ps ++ #[rawInt pos.line, rawInt pos.col, .ref c']))) c' (CodeO c' (lq X))) := fun b o e n => by
      rw [upd_ne (ne_of_none e nC), upd_ne (fun z => n ps (Option.some.inj (e.symm.trans (by rw [z]; exact hP))))]
      exact e
    have I2 := I1.laid (t' := tk) (h' := h'.push (PySem.W.kla_obj "<lambda>" (lq X) l.params l.body l.scope (lcl X l) ((X.mg "__name__").getD .none) c' ctv)) (fun b o e => Heap.get?_push_of_some _ e) (Nat.le_refl _) (lamOb_ok (Heap.get?_push_size _ rfl))
    refine ⟨.ref h'.objs.size, _, I2, rfl, h _ c' _ hE (fun p hp => ?_) (I1.hok.fresh (Nat.le_refl _)) upd_same⟩
    by_cases hb : p.1 = P
    · rw [hu p hp hb, hb]
      refine ⟨_, by rw [upd_ne (ne_of_none hP nC), upd_same], by rw [eL]; exact PySem.TriplesOk_snoc _ _ _ _ ht, fun p' cv hcv => ?_⟩
      rw [eL] at hcv
      rcases LamX.among_app _ ht hcv with z | z
      · obtain ⟨c0, e1, e2⟩ := ha p' cv z
        exact ⟨c0, e1, hE _ _ e2 LamX.codeO_ne⟩
      · exact ⟨c', z, upd_same⟩
    · obtain ⟨ps', a1, a2, a3⟩ := hT p hp
      refine ⟨ps', by rw [upd_ne (ne_of_none a1 nC), upd_ne hb]; exact a1, a2, fun p' cv hcv => ?_⟩
      obtain ⟨c0, e1, e2⟩ := a3 p' cv hcv
      exact ⟨c0, e1, hE _ _ e2 LamX.codeO_ne⟩
  | some cv =>
    obtain ⟨c', e, hco⟩ := ha pos cv hc
    subst e
    refine PySem.W.kla_makeFunctionHit (mg := X.mg) (c := c) (P := P) (ps := ps) (closure_ok (hfree I.ok)) I.ok.glob (I.mod.glob.keeps I.bk) hcode (TB.code.keeps I.bk) hP' ht hc (TB.bm.keeps I.bk) fun ctv h' tk hx hsz => ?_
    have I1 : Inv X pins σ H { s with heap := h', toks := tk } := I.kept (t' := tk) hx
    have I2 := I1.laid (t' := tk) (h' := h'.push (PySem.W.kla_obj "<lambda>" (lq X) l.params l.body l.scope (lcl X l) ((X.mg "__name__").getD .none) c' ctv)) (fun b o e => Heap.get?_push_of_some _ e) (Nat.le_refl _) (lamOb_ok (Heap.get?_push_size _ rfl))
    exact ⟨.ref h'.objs.size, _, I2, rfl, h _ c' H (ExtN.refl H) hT (I1.hok.fresh (Nat.le_refl _)) hco⟩
end
end Dl
end
section
set_option Elab.async false
set_option linter.all false
set_option maxRecDepth 100000
set_option maxHeartbeats 1000000
namespace Dl
open PySem PySem.Spec PyProof.Rows L2 LamX
def LamsR (X : Cx) (H : Hp) : List LamI → List V → Prop
  | [], vs => vs = []
  | l :: ls, vs => ∃ f c' r, vs = .ref f :: r ∧ H f = some (LamOb (lq X) l (lcl X l) f c') ∧ H c' = some (CodeO c' (lq X)) ∧ LamsR X H ls r
theorem LamsR.length {X : Cx} {H : Hp} : ∀ {ls : List LamI} {vs : List V}, LamsR X H ls vs → ls.length = vs.length
  | [], vs, h => by rw [show vs = [] from h]; rfl
  | l :: ls, vs, ⟨f, c', r, e, _, _, t⟩ => by rw [e]; simp [LamsR.length t]
theorem LamsR.get {X : Cx} {H : Hp} : ∀ {ls : List LamI} {vs : List V}, LamsR X H ls vs → ∀ {i : Nat} {l : LamI}, ls[i]? = some l → ∃ f c', vs[i]? = some (.ref f) ∧ H f = some (LamOb (lq X) l (lcl X l) f c') ∧ H c' = some (CodeO c' (lq X))
  | [], vs, h, i, l, e => by cases e
  | a :: ls, vs, ⟨f, c', r, e, h1, h2, t⟩, 0, l, q => by cases q; exact ⟨f, c', by rw [e]; rfl, h1, h2⟩
  | a :: ls, vs, ⟨f, c', r, e, h1, h2, t⟩, i + 1, l, q => by
    obtain ⟨f', c2, q1, q2⟩ := LamsR.get t (i := i) (l := l) q
    exact ⟨f', c2, by rw [e]; exact q1, q2⟩
theorem LamsR.app {X : Cx} {H : Hp} : ∀ {ls : List LamI} {vs : List V} {ms : List LamI} {ws : List V}, LamsR X H ls vs → LamsR X H ms ws → LamsR X H (ls ++ ms) (vs ++ ws)
  | [], vs, ms, ws, h, k => by rw [show vs = [] from h]; exact k
  | a :: ls, vs, ms, ws, ⟨f, c', r, e, h1, h2, t⟩, k => by rw [e]; exact ⟨f, c', r ++ ws, rfl, h1, h2, LamsR.app t k⟩
section
variable {C : Cfg} {X : Cx} {W : WX} {H H' : Hp} {ν μ μ' : List Addr} {g : G}
theorem keep_ext {K : PySem.W.Frag} (R : RS C K H ν μ g) (e : Ext H μ H' μ') {b : Addr} {φ : Heap → Prop} (h : H b = some (.ext φ)) : H' b = some (.ext φ) :=
  e.kp b _ h (.inl fun z => by
    obtain ⟨u, e1, e2⟩ := R.inμ z
    rw [h] at e1
    cases e1
    exact e2) (fun ps z => by cases z)
theorem LamsR.mono (R : RS C X.K H ν μ g) (e : Ext H μ H' μ') : ∀ {ls : List LamI} {vs : List V}, LamsR X H ls vs → LamsR X H' ls vs
  | [], vs, h => h
  | l :: ls, vs, ⟨f, c', r, e1, h1, h2, t⟩ => ⟨f, c', r, e1, keep_ext R e h1, keep_ext R e h2, LamsR.mono R e t⟩
/-- expressions that make lambdas -/
def tLams (C : Cfg) (X : Cx) (ls : List LamI) : TA := fun σ H Q => ∃ ν μ g, RS C X.K H ν μ g ∧ ∀ vs H', Ext H μ H' μ → RS C X.K H' ν μ g → LamsR X H' ls vs → Q vs H'
theorem pa_lams_nil : PA X [] (tLams C X []) := ⟨fun pos pins s σ H Q I ⟨ν, μ, g, R, h⟩ => pa_nil.run pos pins s σ H Q I (h [] H .refl R rfl)⟩
theorem pa_lams_cons {l : LamI} {ls : List LamI} {e : Expr} {es : List Expr} (h1 : PE X e (tLamK X C.tabs l)) (h2 : PA X es (tLams C X ls)) (hs : starEach (e :: es) X.env = (false, eval e X.env) :: starEach es X.env := by rfl) : PA X (e :: es) (tLams C X (l :: ls)) := by
  refine ⟨fun pos pins s σ H Q I ⟨ν, μ, g, R, h⟩ => (pa_cons h1 h2 hs).run pos pins s σ H Q I ⟨R.tb, fun f c' H1 eN T1 nf hc => ?_⟩⟩
  have R1 := R.extN eN T1
  obtain ⟨R2, e2⟩ := R1.new (o := LamOb (lq X) l (lcl X l) f c') nf
  have e1 : Ext H μ H1 μ := ext_of_n eN
  refine ⟨ν, μ, g, R2, fun vs H' e3 R3 r3 => h _ H' ((e1.trans e2).trans e3) R3 ⟨f, c', vs, rfl, keep_ext R2 e3 upd_same, keep_ext R2 e3 ?_, r3⟩⟩
  rw [upd_ne (ne_of_none hc nf)]
  exact hc
end
end Dl
end
section
set_option Elab.async false
set_option linter.all false
set_option maxRecDepth 100000
set_option maxHeartbeats 1000000
namespace Dl
open PySem PySem.Spec PyProof.Rows L2 LamX
section
variable {X : Cx} {pins : List (Addr × Obj)} {σ : L2.St} {H : Hp} {s : Shared}
/-- x(), x a lambda that is kept -/
theorem act_kept {CXg : CXT} {Eg : XK} {Ng : List Str} {qg : Str} {sg : Scope} {gA f c' : Addr} {cdg : Value} {l : LamI} {k i : Nat} {a : Str} {pn : List (Addr × Obj)} {xe : Value → Shared → Prop} {W : WX} {E : XK} {tb : TE} {p1 p2 : Pos}
    (I : Inv X pins σ H s) (L : LamS X.env.scope l.scope)
    (hbind : ∀ (q : Str) (cl : List (Str × Addr)) (pm cv ctv : Value), bindArgs (PySem.W.kla_fn "<lambda>" q l.params l.body l.scope cl pm cv ctv) ⟨[], []⟩ = pure [])
    (tk : Takes ((cxOf CXg X.prog X.w X.K X.mg X.base Ng qg sg gA cdg X.A X.stack s H Eg).tr pn xe) W) (hW : ∀ cls d σ' H', E cls d H' → W cls d σ' H') (hr : Room (k + 1) (X.A.deeper (envOfC qg sg s.heap.objs.size gA cdg)))
    (hbody : ∀ (A : Around) (outer : List Env) (s : Shared) (H : Hp), Room k (A.deeper (lamEnv X l.scope s.heap.objs.size f c')) → PE (lamCx X A outer s H E l.scope f c') l.body tb)
    (hN : Ng[i]? = some a) (hv : Vis sg a) (hd : (a == ("__debug__" : Str)) = false := by decide) (hcd : (a == ("__classdict__" : Str)) = false := by decide) :
    PE ((cxOf CXg X.prog X.w X.K X.mg X.base Ng qg sg gA cdg X.A X.stack s H Eg).tr pn xe) (.Call (.Name a p1) [] [] p2)
      (fun σZ HZ Q => σZ[i]? = some (some (.ref f)) ∧ HZ c' = some (CodeO c' (lq X)) ∧ HZ f = some (LamOb (lq X) l (lcl X l) f c') ∧ tb σ HZ Q) := by
  refine ⟨fun pinsZ sZ σZ HZ Q IZ ⟨hs, hc, hf, ht⟩ => ?_⟩
  refine wpAny_Call_Name_kw (thn ((pe_var (pos := p1) (i := i) hN hv hd hcd).run pinsZ sZ σZ HZ (fun v H1 => v = .ref f ∧ H1 = HZ) IZ ⟨.ref f, hs, rfl, rfl⟩) fun u s1 ⟨v, H1, I1, r1, ev, eH⟩ => ?_)
  subst ev
  rw [eH] at I1
  obtain rfl : u = Value.ref f := r1
  obtain ⟨⟨pm, ctv, of1⟩, _, _⟩ := I1.hok f _ hf
  obtain ⟨⟨oc, vs, t, hoc, hdc, hvc⟩, _, _⟩ := I1.hok c' _ hc
  refine PySem.W.callWith_F0 ⟨_, _, _, _, of1⟩ ?_
  have rc : codeAny (model X.prog X.w) (X.A.deeper (envOfC qg sg s.heap.objs.size gA cdg)) (.call (.ref f) ⟨[], []⟩) (CR (L2.CX X.prog X.w) (envOfC qg sg s.heap.objs.size gA cdg :: X.stack) X.prog X.w HZ s1 Q E) s1 := by
    refine PySem.W.kla_callFunE hr.depth of1 rfl L.co L.gen rfl ⟨c', oc, vs, t, rfl, hoc, hdc, hvc⟩ ?_
    rw [hbind]
    refine wpAny_pure (wpAny_newFunctionEnv (fun y hy => (L.own y hy).2) (fun y hy => absurd hy (by simp)) (fun h₁ hns hsb => ⟨I1.nolimit.fresh _ hsb, ?_⟩) L.kind)
    show codeAny _ _ (.expr l.body (lamEnv X l.scope s1.heap.objs.size f c')) _ _
    have J := lam_start2 (tk := s1.toks + ([] : List (Str × Value)).length) (E := E) (f := f) (c' := c') I L I1.env0 hr.hd (show Un (frs X.stack) [] H HZ s.heap s1.heap from I1.base) hns fun b o e => hsb.extBut b o (Nat.ne_of_lt (Heap.lt_size e)) (Heap.get?_push_of_some _ e)
    exact PySem.W.kla_codeExpr (wpAny_mono ((hbody _ _ s1 HZ (hr.deeper _)).run [] _ _ HZ Q J ht) (fun v s' ⟨w', H', J', rv, q⟩ => ⟨w', H', J'.os, J'.bare, J'.base, J'.hok, rv, q⟩) fun e s' hq => hq)
  have hx : Passes (L2.CX X.prog X.w) ((cxOf CXg X.prog X.w X.K X.mg X.base Ng qg sg gA cdg X.A X.stack s H Eg).tr pn xe) E := passes_call tk hW
  refine wpAny_call (codeAny_mono rc fun r s' hq => ?_)
  cases r with
  | error e => exact hx pinsZ σZ HZ s1 e s' I1 hq
  | ok fl => cases fl <;> first | exact I1.after hq | exact False.elim hq
end
/-- a lambda and what it computes -/
structure LamOk (C : Cfg) (X : Cx) (k : Nat) (l : LamI) (fb : FE) : Prop where
  sc : LamS X.env.scope l.scope
  bind : ∀ (q : Str) (cl : List (Str × Addr)) (pm cv ctv : Value), bindArgs (PySem.W.kla_fn "<lambda>" q l.params l.body l.scope cl pm cv ctv) ⟨[], []⟩ = pure []
  body : ∀ (A : Around) (outer : List Env) (s : Shared) (H : Hp) (E : XK) (fl c' : Addr), Room k (A.deeper (lamEnv X l.scope s.heap.objs.size fl c')) → Takes (lamCx X A outer s H E l.scope fl c') (fun cls d _ H => E cls d H) →
    DP C (lamCx X A outer s H E l.scope fl c') (fun cls d _ H => E cls d H) l.body fb
def LamsOk (C : Cfg) (X : Cx) (k : Nat) : List LamI → List FE → Prop
  | [], fs => fs = []
  | l :: ls, fs => ∃ f r, fs = f :: r ∧ LamOk C X k l f ∧ LamsOk C X k ls r
theorem LamsOk.get {C : Cfg} {X : Cx} {k : Nat} : ∀ {ls : List LamI} {fs : List FE}, LamsOk C X k ls fs → ∀ {i : Nat} {f : FE}, fs[i]? = some f → ∃ l, ls[i]? = some l ∧ LamOk C X k l f
  | [], fs, h, i, f, e => by rw [show fs = [] from h] at e; cases e
  | l :: ls, fs, ⟨f0, r, e, h, t⟩, 0, f, q => by rw [e] at q; cases q; exact ⟨l, rfl, h⟩
  | l :: ls, fs, ⟨f0, r, e, h, t⟩, i + 1, f, q => by rw [e] at q; exact LamsOk.get t (i := i) q
theorem LamsOk.length {C : Cfg} {X : Cx} {k : Nat} : ∀ {ls : List LamI} {fs : List FE}, LamsOk C X k ls fs → ls.length = fs.length
  | [], fs, h => by rw [show fs = [] from h]; rfl
  | l :: ls, fs, ⟨f0, r, e, h, t⟩ => by rw [e]; simp [LamsOk.length t]
theorem LamsOk.app {C : Cfg} {X : Cx} {k : Nat} : ∀ {ls ms : List LamI} {fs gs : List FE}, LamsOk C X k ls fs → LamsOk C X k ms gs → LamsOk C X k (ls ++ ms) (fs ++ gs)
  | [], ms, fs, gs, h, h2 => by rw [show fs = [] from h]; exact h2
  | l :: ls, ms, fs, gs, ⟨f0, r, e, h, t⟩, h2 => by rw [e]; exact ⟨f0, r ++ gs, rfl, h, LamsOk.app t h2⟩
/-- each is refused -/
def runBad (okc : Nat → Bool) : List FE → Env' → G → Option G
  | [], _, g => some g
  | f :: fs, ρ, g => match f ρ g with
    | .err c g1 => if okc c then runBad okc fs ρ g1 else none
    | _ => none
section
variable {C : Cfg} {X Xb : Cx} {W : WX} {pins : List (Addr × Obj)} {σ : L2.St} {H : Hp} {s : Shared}
/-- told(f) in a block, f a kept lambda of the owner: it is refused -/
def tToldK (C : Cfg) (X : Cx) (k jf : Nat) (okc : Nat → Bool) (ret : Str) (σ : L2.St) : TE := fun σb H Q => ∃ l fb f c' ρ ν μ g c g1, LamOk C X k l fb ∧ σb[jf]? = some (some (.ref f)) ∧ H f = some (LamOb (lq X) l (lcl X l) f c') ∧ H c' = some (CodeO c' (lq X)) ∧
  RepE X.K H ν μ ρ σ ∧ RS C X.K H ν μ g ∧ fb ρ g = .err c g1 ∧ okc c = true ∧ ∀ H' μ', Ext H μ H' μ' → RS C X.K H' ν μ' g1 → Q (.str ret) H'
theorem pe_toldK {x a ex ret fv : Str} {gA CS : Addr} {k j jf : Nat} {pg : Arguments} {sg : Scope} {dV kV doc pm cdv ct oc : Value} {an od : Option Addr} {osl : Array (Option Value)} {Ng : List Str} {okc : Nat → Bool} {p pf pos p1 p2 p3 p4 p5 p6 p7 p8 : Pos}
    {sB : Shared} {HB : Hp} {scB : Scope} {cenv : Env} {fp : List Addr}
    (back : ∀ pins' σ' H' s', Inv (X.blk sB HB scB cenv fp) pins' σ' H' s' → Inv X pins σ H' s') (hg : Gl (X.blk sB HB scB cenv fp) x) (hm : X.mg x = some (.ref gA)) (hk : PySem.W.keepIn X.K (.ref gA) = true)
    (lk : X.K.lookup gA = some ⟨oc, od, .func (PySem.W.fnOf x x pg [.Try [.Return (some (.Call (.Name a p1) [] [] p2)) p3] [.ExceptHandler (some (.Name ex p4)) none [.Return (some (.Constant (.str ret) j p5)) p6] p7] [] [] p8] sg dV kV doc pm an cdv ct), osl⟩)
    (hcg : PySem.W.codeIn X.K cdv x = true) (hb : L2.Binds X.K (PySem.W.fnOf x x pg [.Try [.Return (some (.Call (.Name a p1) [] [] p2)) p3] [.ExceptHandler (some (.Name ex p4)) none [.Return (some (.Constant (.str ret) j p5)) p6] p7] [] [] p8] sg dV kV doc pm an cdv ct) [a] [])
    (Sg : FnScope Ng [a] sg) (hNg : Ng[0]? = some a) (hva : Vis sg a) (hge : sg.names.lookup ex = some .globalImplicit) (hme : X.mg ex = some (.ref CS)) (hde : (ex == ("__debug__" : Str)) = false) (h0 : ∀ f : Addr, (L2.start Ng [V.ref f])[0]? = some (some (V.ref f)))
    (hcat : ∀ n, okc n = true → PySem.W.exmOne X.K (.ref (C.exc n)) (.ref CS) = some true) (hr : Room (k + 2) X.A) (hNf : X.N[jf]? = some fv) (hvf : Vis cenv.scope fv)
    (hdb : (x == ("__debug__" : Str)) = false := by decide) (hd : (a == ("__debug__" : Str)) = false := by decide) (hcd : (a == ("__classdict__" : Str)) = false := by decide)
    (hdf : (fv == ("__debug__" : Str)) = false := by decide) (hcf : (fv == ("__classdict__" : Str)) = false := by decide) :
    PE (X.blk sB HB scB cenv fp) (.Call (.Name x p) [.Name fv pf] [] pos) (tToldK C X k jf okc ret σ) := by
  refine ⟨fun pins' s' σb H Q Ib ⟨l, fb, f, c', ρ, ν, μ, g, c, g1, hl, hσ, hf, hco, hE, hR, hfb, hok, hQ⟩ => ?_⟩
  refine wpAny_Call_Name_kw (ld_glob Ib hg hm ?_ hdb)
  have args := (pa_cons (pe_var (X := X.blk sB HB scB cenv fp) (pos := pf) (i := jf) hNf hvf hdf hcf) pa_nil).run pos pins' s' σb H (fun vs H1 => vs = [.ref f] ∧ H1 = H) Ib ⟨.ref f, hσ, rfl, rfl⟩
  refine PySem.W.callWith_K (h₀ := (X.blk sB HB scB cenv fp).base) Ib.ok.mod.kin hk (thn args fun us s1 ⟨vs, H1, I1, r, e1, e2⟩ => ⟨I1.kIn, ?_⟩) (by rfl) (by rfl)
  subst e1
  rw [e2] at I1
  rw [Vals.ref1 r]
  have IX := back _ _ _ _ I1
  have rc : codeAny (model X.prog X.w) X.A (.call (.ref gA) ⟨[.ref f], []⟩) (CR C8.CX0 X.stack X.prog X.w H s1 Q C8.E0) s1 := by
    refine run_ofS (N := Ng) (ps := [a]) (us := [.ref f]) (vs := [.ref f]) lk hcg Sg hr IX.env0 (hb s1 [.ref f] IX.kIn rfl) (.cons rfl .nil) rfl fun hr' => ?_
    obtain ⟨t', ht', hq'⟩ := told_gives (X := X) (q := lq X) (g := gA) (cdg := cdv) (p1 := p1) (p2 := p2) (p3 := p3) (p4 := p4) (p5 := p5) (p6 := p6) (p7 := p7) (p8 := p8) (j := j) (ret := ret) (CS := CS) hge hme hde h0 f c' s1 H Q
      (fun E H' Q' => H' f = some (LamOb (lq X) l (lcl X l) f c') ∧ tD C X.K (fun cls d _ H => E cls d H) fb σ H' Q')
      (fun W pn xe E p1 p2 tk hW => act_kept (i := 0) IX hl.sc hl.bind tk hW hr' (fun A outer s H hr2 => hl.body A outer s H E f c' hr2 (takes_of rfl rfl rfl rfl)) hNg hva hd hcd) hco ⟨hf, ρ, ν, μ, g, hE, hR, by
        rw [hfb]
        exact fun H' μ' ex R' => ⟨true, hcat c hok, fun _ => hQ H' μ' ex R', fun z => by cases z⟩⟩
    exact ⟨t', ht'.nox, hq'⟩
  refine wpAny_call (codeAny_mono rc fun r s2 hq => ?_)
  cases r with
  | error e => exact (show False from hq).elim
  | ok fl => cases fl <;> first | exact I1.after hq | exact False.elim hq
end
end Dl
end
section
set_option Elab.async false
set_option linter.all false
set_option maxRecDepth 100000
set_option maxHeartbeats 1000000
namespace Dl
open PySem PySem.Spec PyProof.Rows L2 LamX
section
variable {C : Cfg} {X : Cx} {W : WX}
/-- the bad ones stand in the list at slot ib -/
def BadR (X : Cx) (ib : Nat) (ls : List LamI) (ν μ : List Addr) (σ : L2.St) (H : Hp) : Prop := ∃ L vs, σ[ib]? = some (some (.ref L)) ∧ H L = some (.lst vs) ∧ L ∉ μ ∧ LamsR X H ls vs
theorem BadR.mono {ib : Nat} {ls : List LamI} {ν μ μ' : List Addr} {σ : L2.St} {H H' : Hp} {g : G} (R : RS C X.K H ν μ g) (e : Ext H μ H' μ') (h : BadR X ib ls ν μ σ H) : BadR X ib ls ν μ' σ H' := by
  obtain ⟨L, vs, h1, h2, h3, h4⟩ := h
  exact ⟨L, vs, h1, e.kp _ _ h2 (.inl h3) ntb_lst, e.out h2 h3 ntb_lst, LamsR.mono R e h4⟩
/-- [k for k, f in enumerate(bad) if told(f) != ret]: none -/
def tBad (C : Cfg) (X : Cx) (ib : Nat) (ls : List LamI) (fs : List FE) (okc : Nat → Bool) : TE := fun σ H Q => ∃ ρ ν μ g g', RepE X.K H ν μ ρ σ ∧ RS C X.K H ν μ g ∧ BadR X ib ls ν μ σ H ∧ runBad okc fs ρ g = some g' ∧
  ∀ D H' μ', Ext H μ H' μ' → RS C X.K H' ν μ' g' → RepD X.K H' ν μ' (.lst []) (.ref D) → Q (.ref D) H'
theorem pe_bad {x a ex ret fv kv bv : Str} {gA CS : Addr} {k j j2 jf jk ib kk : Nat} {pg : Arguments} {sg scope : Scope} {own : List (Str × Nat)} {dV kV doc pm cdv ct oc : Value} {an od : Option Addr} {osl : Array (Option Value)} {Ng : List Str} {okc : Nat → Bool} {p pf pos p1 p2 p3 p4 p5 p6 p7 p8 pk pf2 tpos ep pb epos cpos wpos kp lpos : Pos}
    {ls : List LamI} {fs : List FE} (hc : X.calm = true) (hN : X.N.Nodup) (ok : BlkOk X.N X.env.scope scope own)
    (hgE : Gl X "enumerate") (hmE : X.mg "enumerate" = none) (hNb : X.N[ib]? = some bv) (hvb : Vis X.env.scope bv) (hNk : X.N[jk]? = some kv) (hNf : X.N[jf]? = some fv) (hkf : jk ≠ jf) (hlk : (relS scope X.env.scope).names.lookup kv = some .local) (hlf : (relS scope X.env.scope).names.lookup fv = some .local)
    (hjk : jk ∈ own.map (·.2)) (hjf : jf ∈ own.map (·.2)) (hls : LamsOk C X k ls fs)
    (hgt : ∀ (s : Shared) (H : Hp) (A : Addr) (cl : List (Str × Addr)) (fp : List Addr), Gl (X.blk s H scope (compEnvC scope cl A X.env) fp) x) (hm : X.mg x = some (.ref gA)) (hk : PySem.W.keepIn X.K (.ref gA) = true)
    (lk : X.K.lookup gA = some ⟨oc, od, .func (PySem.W.fnOf x x pg [.Try [.Return (some (.Call (.Name a p1) [] [] p2)) p3] [.ExceptHandler (some (.Name ex p4)) none [.Return (some (.Constant (.str ret) j p5)) p6] p7] [] [] p8] sg dV kV doc pm an cdv ct), osl⟩)
    (hcg : PySem.W.codeIn X.K cdv x = true) (hb : L2.Binds X.K (PySem.W.fnOf x x pg [.Try [.Return (some (.Call (.Name a p1) [] [] p2)) p3] [.ExceptHandler (some (.Name ex p4)) none [.Return (some (.Constant (.str ret) j p5)) p6] p7] [] [] p8] sg dV kV doc pm an cdv ct) [a] [])
    (Sg : FnScope Ng [a] sg) (hNg : Ng[0]? = some a) (hva : Vis sg a) (hge : sg.names.lookup ex = some .globalImplicit) (hme : X.mg ex = some (.ref CS)) (hde : (ex == ("__debug__" : Str)) = false) (h0 : ∀ f : Addr, (L2.start Ng [V.ref f])[0]? = some (some (V.ref f)))
    (hcat : ∀ n, okc n = true → PySem.W.exmOne X.K (.ref (C.exc n)) (.ref CS) = some true) (hr : Room (k + 2) X.A) (hu : X.A.units + 64 < cLine)
    (hdb : (x == ("__debug__" : Str)) = false := by decide) (hd : (a == ("__debug__" : Str)) = false := by decide) (hcd : (a == ("__classdict__" : Str)) = false := by decide)
    (hdf : (fv == ("__debug__" : Str)) = false := by decide) (hcf : (fv == ("__classdict__" : Str)) = false := by decide) (hdB : (bv == ("__debug__" : Str)) = false := by decide) (hcB : (bv == ("__classdict__" : Str)) = false := by decide)
    (hs : starEach [.Name bv pb] X.env = [(false, eval (.Name bv pb) X.env)] := by rfl) (hsame : ∀ g : G, oNe (.str ret) (.str ret) g = .ok (.bl false) g := by intro _; rfl) (hmk : behindInMarks .NotEq (.Constant (.str ret) j2 wpos) = false := by rfl)
    (hfd : ∀ v, foldedSetIterable (.Call (.Name "enumerate" ep) [.Name bv pb] [] epos) X.env v = pure v := by intro _; rfl) :
    PE X (.ListComp (.Name kv kp) [⟨.Tuple [.Name kv pk, .Name fv pf2] kk tpos, .Call (.Name "enumerate" ep) [.Name bv pb] [] epos, [.Compare (.Call (.Name x p) [.Name fv pf] [] pos) [.NotEq] [.Constant (.str ret) j2 wpos] cpos], 0⟩] scope lpos) (tBad C X ib ls fs okc) := by
  refine ⟨fun pins s σ H Q I ⟨ρ, ν, μ, g, g', hE, hR, ⟨L, vs, e1, e2, e3, e4⟩, hrun, hQ⟩ => ?_⟩
  have hlen : X.N.length = σ.length := I.len.symm
  have hjfl : jf < σ.length := by rw [← hlen]; exact (List.getElem?_eq_some_iff.mp hNf).1
  refine comp_none (g := gTup X.K 2 (gCons (gName jk) (gCons (gName jf) gNil))) (tt := tTest (tOp (rD C X.K oNe) (tToldK C X k jf okc ret σ) (tC (.str ret)))) hc hN I (pi_enum hgE hmE (pa_cons (pe_var hNb hvb hdB hcB) pa_nil hs) hs) ok
    (fun s H A cl fp => pg_tup (X := X.blk s H scope (compEnvC scope cl A X.env) fp) hc (pgs_cons (pg_name hN hNk (.inl hlk) (.inr hlk)) (pgs_cons (pg_name hN hNf (.inl hlf) (.inr hlf)) pgs_nil)))
    (fun s' H' A cl fp back => pts_one (pt_cmpR (oNe_ok (X := X.blk s' H' scope (compEnvC scope cl A X.env) fp) hu) (pe_toldK back (hgt s' H' A cl fp) hm hk lk hcg hb Sg hNg hva hge hme hde h0 hcat hr hNf (.inl hlf) hdb hd hcd hdf hcf) pe_str hmk)) hfd ?_
  refine ⟨.ref L, e1, L, vs, rfl, SqL.of e2, fun D nD => ?_⟩
  obtain ⟨RD, exD⟩ := hR.new (o := .lst []) nD
  have hnμ : D ∉ μ := fun z => by
    obtain ⟨u, e, _⟩ := hR.inμ z
    rw [nD] at e; cases e
  have hnν : D ∉ ν := fun z => by
    obtain ⟨u, e⟩ := hR.nv D z
    rw [nD] at e; cases e
  refine ⟨vs.length, fun i H' => ∃ μ' g1, i ≤ vs.length ∧ Ext (upd H D (.lst [])) μ H' μ' ∧ RS C X.K H' ν μ' g1 ∧ runBad okc (fs.drop i) ρ g1 = some g', ⟨μ, g, Nat.zero_le _, .refl, RD, hrun⟩, fun i H' ⟨μ', g1, hi, ex, R', hr'⟩ => ?_⟩
  have eLt : L ∉ μ' := ex.out (by rw [upd_ne (ne_of_none e2 nD)]; exact e2) e3 ntb_lst
  have eL : H' L = some (.lst vs) := ex.kp _ _ (by rw [upd_ne (ne_of_none e2 nD)]; exact e2) (.inl e3) ntb_lst
  have eD : H' D = some (.lst []) := ex.kp _ _ upd_same (.inl hnμ) ntb_lst
  have lF := hls.length
  have lR := e4.length
  by_cases hlt : i < vs.length
  · right
    have hfl : i < fs.length := by omega
    rw [List.drop_eq_getElem_cons hfl] at hr'
    unfold runBad at hr'
    cases hfb : fs[i] ρ g1 with
    | ok d g2 => simp only [hfb] at hr'; cases hr'
    | stuck => simp only [hfb] at hr'; cases hr'
    | err c g2 =>
      simp only [hfb] at hr'
      split at hr'
      case isFalse => cases hr'
      rename_i hok
      obtain ⟨l, hl, hlo⟩ := hls.get (i := i) (f := fs[i]) (by simp [hfl])
      obtain ⟨f, c', hv, hf, hco⟩ := LamsR.get e4 hl
      refine ⟨hlt, ⟨vs, .ref f, SqL.of eL, hv⟩, fun y H2 ⟨T, y1, ey, nT, eH, hy⟩ => ?_⟩
      have hy1 : y1 = .ref f := by
        have := hy vs (SqL.of eL)
        rw [hv] at this; cases this; rfl
      subst hy1 eH ey
      obtain ⟨R2, ex2⟩ := R'.new (o := .tup [.int (i : Nat), .ref f]) nT
      refine ⟨T, _, rfl, SqT.of upd_same, rfl, .int (i : Nat), [.ref f], rfl, .ref f, [], rfl, rfl, ?_⟩
      refine ⟨(wipe_set hjf).trans ((wipe_set hjk).trans (wipe_idem _)), ?_⟩
      have exH : Ext H μ (upd H' T (.tup [.int (i : Nat), .ref f])) μ' := (exD.trans ex).trans ex2
      refine ⟨l, fs[i], f, c', ρ, ν, μ', g1, c, g2, hlo, ?_, keep_ext hR exH hf, keep_ext hR exH hco, hE.mono exH.kp', R2, hfb, hok, fun H3 μ3 ex3 R3 => ?_⟩
      · rw [List.getElem?_set_self]
        rw [List.length_set, wipe_length]; exact hjfl
      · refine ⟨.str ret, .str ret, ν, μ3, g2, R3, rStr _, rStr _, fun W σ' => ?_⟩
        rw [hsame]
        intro v H4 μ4 ex4 R4 r4
        obtain rfl : v = .bl false := r4
        exact ⟨false, rfl, rfl, μ4, g2, hlt, ((ex.trans ex2).trans ex3).trans ex4, R4, hr'⟩
  · left
    have ei : i = vs.length := by omega
    refine ⟨ei, ⟨vs, SqL.of eL, by omega⟩, ?_⟩
    rw [List.drop_eq_nil_of_le (by omega)] at hr'
    cases hr'
    exact hQ D H' μ' (exD.trans ex) R' ⟨D, [], rfl, eD, ex.out upd_same hnμ ntb_lst, hnν, rfl⟩
end
end Dl
end
section
set_option Elab.async false
set_option linter.all false
set_option maxRecDepth 100000
set_option maxHeartbeats 1000000
namespace Dl
open PySem PySem.Spec PyProof.Rows L2 LamX
section
variable {C : Cfg} {X : Cx} {W : WX} {ib : Nat} {ls ms : List LamI} {fs : List FE} {okc : Nat → Bool} {f fr f1 : FS} {sts rest body : List Stmt} {es : List Expr} {pos p pb lp bp cpos npos : Pos} {bv : Str}
theorem RepE.unset {K : PySem.W.Frag} {H : Hp} {ν μ : List Addr} {ρ : Env'} {σ : L2.St} (h : RepE K H ν μ ρ σ) (i : Nat) (v : Option V) : RepE K H ν μ (ρ.set i none) (σ.set i v) := by
  refine ⟨by simp [h.len], fun j d e => ?_⟩
  by_cases hj : i = j
  · subst hj
    by_cases hl : i < ρ.length
    · rw [List.getElem?_set_self hl] at e; cases e
    · rw [List.getElem?_eq_none (by simpa using hl)] at e; cases e
  · rw [List.getElem?_set_ne hj] at e ⊢
    exact h.at' j d e
def tSB (C : Cfg) (X : Cx) (W : WX) (ib : Nat) (ls : List LamI) (f : FS) : TS := fun E σ H => ∃ ρ ν μ g, RepE X.K H ν μ ρ σ ∧ RS C X.K H ν μ g ∧ BadR X ib ls ν μ σ H ∧ PostS C X.K W H ν μ (f ρ g) E
def DBd (C : Cfg) (X : Cx) (W : WX) (ib : Nat) (ls : List LamI) (sts : List Stmt) (f : FS) : Prop := PSs X sts (tSB C X W ib ls f)
theorem free_out {K : PySem.W.Frag} {H : Hp} {ν μ : List Addr} {g : G} (R : RS C K H ν μ g) {p : Addr} (h : H p = none) : p ∉ μ := fun z => by
  obtain ⟨u, e, _⟩ := R.inμ z
  rw [h] at e; cases e
theorem db_bad (hN : X.N.Nodup) (hib : X.N[ib]? = some bv) (hx : Loc X.env.scope bv) (hl : PA X es (tLams C X ls)) (hz : ls.length ≤ sizeLine) (hrest : DBd C X W ib ls rest f)
    (hs : swapsWith (.List es lp) (some (.Name bv p)) pos.line X.env = pure false := by rfl) (hf : X.fn bv = true ∨ X.env.scope.names.lookup bv = some .local := by first | exact .inl rfl | exact .inr rfl | assumption) :
    DB C X W (.Assign [.Name bv p] (.List es lp) pos :: rest) (fun ρ g => f (ρ.set ib none) g) := by
  refine ⟨fun pins s σ H E I ⟨ρ, ν, μ, g, hE, hR, hP⟩ => (pss_cons (ps_set hN hib hx (pe_lst hl) hs hf) hrest).run pins s σ H E I ⟨ν, μ, g, hR, fun vs H1 e1 R1 r1 => ⟨by rw [← r1.length]; exact hz, fun q nq => ?_⟩⟩⟩
  obtain ⟨R2, e2⟩ := R1.new (o := .lst vs) nq
  have hlt : ib < σ.length := by rw [I.len]; exact (List.getElem?_eq_some_iff.mp hib).1
  exact ⟨ρ.set ib none, ν, μ, g, (hE.mono (e1.trans e2).kp').unset ib _, R2, ⟨q, vs, by rw [List.getElem?_set_self hlt], upd_same, free_out R1 nq, LamsR.mono R1 e2 r1⟩, hP.ext (e1.trans e2)⟩
theorem dbd_more (hN : X.N.Nodup) (hib : X.N[ib]? = some bv) (hx : Loc X.env.scope bv) (hl : PA X es (tLams C X ms)) (hz : (ls ++ ms).length ≤ sizeLine) (hrest : DBd C X W ib (ls ++ ms) rest f)
    (hs : swapsWith (.BinOp (.Name bv pb) .Add (.List es lp) bp) (some (.Name bv p)) pos.line X.env = pure false := by rfl) (hf : X.fn bv = true ∨ X.env.scope.names.lookup bv = some .local := by first | exact .inl rfl | exact .inr rfl | assumption)
    (hd : (bv == ("__debug__" : Str)) = false := by decide) (hcd : (bv == ("__classdict__" : Str)) = false := by decide) :
    DBd C X W ib ls (.Assign [.Name bv p] (.BinOp (.Name bv pb) .Add (.List es lp) bp) pos :: rest) (fun ρ g => f (ρ.set ib none) g) := by
  have hv : Vis X.env.scope bv := hx.elim (fun z => .inl z) fun z => .inr (.inl z)
  refine ⟨fun pins s σ H E I ⟨ρ, ν, μ, g, hE, hR, ⟨L, vs, h1, h2, h3, h4⟩, hP⟩ => (pss_cons (ps_set hN hib hx (pe_op op_cat (pe_var hib hv hd hcd) (pe_lst hl)) hs hf) hrest).run pins s σ H E I
    ⟨.ref L, h1, ν, μ, g, hR, fun ws H1 e1 R1 r1 => ⟨?_, fun q nq => ⟨L, q, vs, ws, rfl, rfl, ?_, upd_same, ?_, fun t nt => ?_⟩⟩⟩⟩
  · rw [← r1.length]
    rw [List.length_append] at hz
    omega
  · rw [upd_ne (ne_of_none (e1.kp _ _ h2 (.inl h3) ntb_lst) nq)]
    exact e1.kp _ _ h2 (.inl h3) ntb_lst
  · rw [← h4.length, ← r1.length, ← List.length_append]; exact hz
  · obtain ⟨R2, e2⟩ := R1.new (o := .lst ws) nq
    obtain ⟨R3, e3⟩ := R2.new (o := .lst (vs ++ ws)) nt
    have e13 := (e1.trans e2).trans e3
    have hlt : ib < σ.length := by rw [I.len]; exact (List.getElem?_eq_some_iff.mp hib).1
    exact ⟨ρ.set ib none, ν, μ, g, (hE.mono e13.kp').unset ib _, R3, ⟨t, vs ++ ws, by rw [List.getElem?_set_self hlt], upd_same, free_out R2 nt, (LamsR.mono hR e13 h4).app (LamsR.mono R1 (e2.trans e3) r1)⟩, hP.ext e13⟩
/-- behind the look at the bad ones: all were refused -/
def sBad (okc : Nat → Bool) (fs : List FE) (f : FS) : FS := fun ρ g => match runBad okc fs ρ g with
  | some g1 => f ρ g1
  | none => .stuck
theorem bad_ne {a : Expr} (hb : PE X a (tBad C X ib ls fs okc)) (hu : X.A.units + 64 < cLine) (hsame : ∀ g : G, oNe (.lst []) (.lst []) g = .ok (.bl false) g := by intro _; rfl) (hm : behindInMarks .NotEq (.List [] npos) = false := by rfl) :
    PT X (.Compare a [.NotEq] [.List [] npos] cpos) (fun σ H Q => ∃ ρ ν μ g g', RepE X.K H ν μ ρ σ ∧ RS C X.K H ν μ g ∧ BadR X ib ls ν μ σ H ∧ runBad okc fs ρ g = some g' ∧ ∀ H' μ', Ext H μ H' μ' → RS C X.K H' ν μ' g' → Q false H') := by
  refine PT.imp (pt_cmpR (oNe_ok (C := C) hu) hb (pe_lst pa_nil) hm) fun σ H Q ⟨ρ, ν, μ, g, g', hE, hR, hB, hrun, hQ⟩ => ⟨ρ, ν, μ, g, g', hE, hR, hB, hrun, fun D H1 μ1 e1 R1 r1 => ⟨Nat.zero_le _, fun q nq => ?_⟩⟩
  obtain ⟨e2, R2, r2⟩ := new_lst (ds := []) R1 nq rfl
  refine ⟨.lst [], .lst [], ν, μ1, g', R2, RepD.mono e2.kp' _ r1, r2, fun W σ' => ?_⟩
  rw [hsame]
  intro v H4 μ4 ex4 R4 r4
  obtain rfl : v = .bl false := r4
  exact ⟨false, rfl, hQ H4 μ4 ((e1.trans e2).trans ex4) R4⟩
theorem dbd_if {a : Expr} (hb : PE X a (tBad C X ib ls fs okc)) (hu : X.A.units + 64 < cLine) (hbody : DB C X W body f1) (hrest : DB C X W rest fr) (hsame : ∀ g : G, oNe (.lst []) (.lst []) g = .ok (.bl false) g := by intro _; rfl) (hm : behindInMarks .NotEq (.List [] npos) = false := by rfl) :
    DBd C X W ib ls (.If (.Compare a [.NotEq] [.List [] npos] cpos) body [] pos :: rest) (sBad okc fs fr) := by
  refine PSs.imp (pss_cons (ps_if (bad_ne hb hu hsame hm) hbody pss_nil) hrest) fun E σ H ⟨ρ, ν, μ, g, hE, hR, hB, hP⟩ => ?_
  unfold sBad at hP
  cases hr : runBad okc fs ρ g with
  | none => simp only [hr] at hP; exact hP.elim
  | some g' =>
    simp only [hr] at hP
    refine ⟨ρ, ν, μ, g, g', hE, hR, hB, hr, fun H' μ' ex R' => ?_⟩
    show (if false = true then _ else _)
    rw [if_neg Bool.false_ne_true]
    exact ⟨ρ, ν, μ', g', hE.mono ex.kp', R', hP.ext ex⟩
theorem dbd_ifOr {a b : Expr} {es2 : List Expr} {op : Pos} {ft : FT} (hb : PE X a (tBad C X ib ls fs okc)) (hu : X.A.units + 64 < cLine) (hor : DW C X W (.BoolOp .Or (b :: es2) op) ft) (hbody : DB C X W body f1) (hrest : DB C X W rest fr)
    (hsame : ∀ g : G, oNe (.lst []) (.lst []) g = .ok (.bl false) g := by intro _; rfl) (hm : behindInMarks .NotEq (.List [] npos) = false := by rfl) :
    DBd C X W ib ls (.If (.BoolOp .Or (.Compare a [.NotEq] [.List [] npos] cpos :: b :: es2) op) body [] pos :: rest) (sBad okc fs (sSeq (sIf ft f1 sNil) fr)) := by
  refine PSs.imp (pss_cons (ps_if (PW.pt (pw_or (bad_ne hb hu hsame hm) hor)) hbody pss_nil) hrest) fun E σ H ⟨ρ, ν, μ, g, hE, hR, hB, hP⟩ => ?_
  unfold sBad at hP
  cases hr : runBad okc fs ρ g with
  | none => simp only [hr] at hP; exact hP.elim
  | some g' =>
    simp only [hr] at hP
    refine ⟨ρ, ν, μ, g, g', hE, hR, hB, hr, fun H' μ' ex R' => ?_⟩
    show (if false = true then _ else _)
    rw [if_neg Bool.false_ne_true]
    refine ⟨ρ, ν, μ', g', hE.mono ex.kp', R', ?_⟩
    have hP := hP.ext ex
    unfold sSeq sIf at hP
    cases hf : ft ρ g' with
    | err c g1 => simp only [hf, Res.toS] at hP ⊢; exact fun H2 μ2 e2 R2 => hP σ H2 μ2 e2 R2 ((hE.mono ex.kp').mono e2.kp')
    | stuck =>
      simp only [hf, Res.toS] at hP
      exact hP.elim
    | ok c g1 =>
      simp only [hf, Res.toS] at hP ⊢
      intro H2 μ2 e2 R2
      have hP := hP.ext e2
      have hE2 := (hE.mono (ν := ν) ex.kp').mono (ν := ν) e2.kp'
      cases c with
      | true =>
        rw [if_pos rfl] at hP ⊢
        refine ⟨ρ, ν, μ2, g1, hE2, R2, ?_⟩
        cases h1 : f1 ρ g1 with
        | nx ρ1 g3 =>
          simp only [h1] at hP
          exact fun σ' H' μ' ex R' hE' => ⟨ρ1, ν, μ', g3, hE', R', hP.ext ex⟩
        | rt d g3 => simp only [h1] at hP; exact hP
        | bk ρ1 g3 => simp only [h1] at hP; exact hP
        | ct ρ1 g3 => simp only [h1] at hP; exact hP
        | err c ρ1 g3 => simp only [h1] at hP; exact hP
        | stuck => simp only [h1] at hP; exact hP
      | false =>
        rw [if_neg Bool.false_ne_true] at hP ⊢
        exact ⟨ρ, ν, μ2, g1, hE2, R2, hP⟩
end
end Dl
end
section
set_option Elab.async false
set_option linter.all false
set_option maxRecDepth 100000
set_option maxHeartbeats 1000000
namespace Dl
open PySem PySem.Spec PyProof.Rows L2
/-! ### short forms for printed derivations -/
def visB (sc : Scope) (x : Str) : Bool := match sc.names.lookup x with
  | some .local => true
  | some .cell => true
  | some .free => true
  | _ => false
theorem vis_by {sc : Scope} {x : Str} (h : visB sc x = true) : Vis sc x := by
  unfold visB at h
  split at h
  · rename_i e; exact .inl e
  · rename_i e; exact .inr (.inl e)
  · rename_i e; exact .inr (.inr e)
  · cases h
def locB (sc : Scope) (x : Str) : Bool := match sc.names.lookup x with
  | some .local => true
  | some .cell => true
  | _ => false
theorem loc_by {sc : Scope} {x : Str} (h : locB sc x = true) : Loc sc x := by
  unfold locB at h
  split at h
  · rename_i e; exact .inl e
  · rename_i e; exact .inr e
  · cases h
section
variable {C : Cfg} {X : Cx} {W : WX} {e a b c o : Expr} {es rest : List Expr} {f fa fb fc : FE} {fes : FA} {ft : FT} {pos p : Pos} {st : Stmt} {sts : List Stmt} {fs fs' : FS}
theorem v_ (i : Nat) {x : Str} (hN : X.N[i]? = some x := by rfl) (hv : visB X.env.scope x = true := by rfl) (hd : (x == ("__debug__" : Str)) = false := by rfl) (hcd : (x == ("__classdict__" : Str)) = false := by rfl) : DP C X W (.Name x pos) (fVar i) := dp_var hN (vis_by hv) hd hcd
theorem g_ (i : Nat) {x : Str} (hN : X.N.Nodup) (hi : X.N[i]? = some x := by rfl) (hx : locB X.env.scope x = true := by rfl) (hf : X.fn x = true ∨ X.env.scope.names.lookup x = some .local := by first | exact .inl rfl | exact .inr rfl | assumption) : DG C X W (.Name x pos) [i] (gNm i) :=
  dg_name hN hi (loc_by hx) hf
/-- while, the turns told by the names as they stand -/
def sWh (ft : FT) (fb : FS) (nf : Env' → G → Nat) : FS := fun ρ g => whileD ft fb (nf ρ g) ρ g
theorem ds_wh (nf : Env' → G → Nat) {body : List Stmt} (hp : PassesOwn (model X.prog X.w) X.A X.env X.xe) (hc : DT C X W c ft) (hb : DB C X W body fs) : DS C X W (.While c body [] pos) (sWh ft fs nf) :=
  ⟨fun pins s σ H E I ⟨ρ, ν, μ, g, hE, hR, hP⟩ => (ds_while (nf ρ g) hp hc hb).run pins s σ H E I ⟨ρ, ν, μ, g, hE, hR, hP⟩⟩
/-- a turn for each unit of the int at slot i -/
def turnsOf (i : Nat) : Env' → G → Nat := fun ρ _ => match ρ[i]? with
  | some (some (.int z)) => z.natAbs + 2
  | _ => 2
end
/-! ### promises by names -/
def Pm (C : Cfg) (P : Program) (w : World) (K : PySem.W.Frag) (mg : Str → Option Value) (base : Heap) (k : Nat) (x : Str) (n : Nat) (fn : FN) : Prop :=
  ∃ f fd ps, FnOk P w K mg base (L2.CX P w) k f fd ps (spD C K n fn) ∧ mg x = some (.ref f) ∧ PySem.W.keepIn K (.ref f) = true ∧ Binds K fd ps []
section
variable {C : Cfg} {X : Cx} {W : WX} {e a b c o : Expr} {es rest : List Expr} {fa : FE} {fes : FA} {pos p : Pos}
theorem dp_cp {k k2 : Nat} {x : Str} {fn : FN} {n : Nat} (F : Pm C X.prog X.w X.K X.mg X.base k x n fn) (hr : Room k2 X.A) (hle : k ≤ k2) (hg : Gl X x) (tk : Takes X W) (hn : n = es.length + 1) (hl : ∀ ρ g ds g1, fes ρ g = .ok ds g1 → ds.length = n)
    (ha : DA C X W (e :: es) fes) (hdb : (x == ("__debug__" : Str)) = false := by rfl) (he : starEach (e :: es) X.env = (false, eval e X.env) :: starEach es X.env := by rfl) (hpl : (backTo pos (starEach es X.env)).any (·.1) = false := by rfl) :
    DP C X W (.Call (.Name x p) (e :: es) [] pos) (fCall fn fes) := by
  obtain ⟨f, fd, ps, h1, h2, h3, h4⟩ := F
  exact dp_call h1 hn (hr.mono hle) hg h2 h3 h4 tk hl ha hdb he hpl
theorem dp_cp0 {k k2 : Nat} {x : Str} {fn : FN} (F : Pm C X.prog X.w X.K X.mg X.base k x 0 fn) (hr : Room k2 X.A) (hle : k ≤ k2) (hg : Gl X x) (tk : Takes X W) (hdb : (x == ("__debug__" : Str)) = false := by rfl) : DP C X W (.Call (.Name x p) [] [] pos) (fCall0 fn) := by
  obtain ⟨f, fd, ps, h1, h2, h3, h4⟩ := F
  exact dp_call0 h1 (hr.mono hle) hg h2 h3 h4 tk hdb
end
section
variable {C : Cfg} {P : Program} {w : World} {K : PySem.W.Frag} {mg : Str → Option Value} {base : Heap}
/-- THE RULE for a def by its body, its code object known -/
theorem fn_bodyD {x qual : Str} {q : Str × Option Str} {params : Arguments} {body : List Stmt} {scope : Scope} {fd : FuncData} {N ps : List Str} {k : Nat} {fb : FS} (F : FunD K x qual params body scope [] [] (He.fAd K q) fd) (S : FnScope N ps scope)
    (hb : ∀ (A : Around) (outer : List Env) (s : Shared) (H : Hp) (E : XK), Room k (A.deeper (envOfC qual scope s.heap.objs.size (He.fAd K q) (.ref (He.codeOf K q)))) →
      Takes (cxOf (L2.CX P w) P w K mg base N qual scope (He.fAd K q) (.ref (He.codeOf K q)) A outer s H E) (fun cls d _ H => E cls d H) →
      PassesOwn (model P w) (A.deeper (envOfC qual scope s.heap.objs.size (He.fAd K q) (.ref (He.codeOf K q)))) (envOfC qual scope s.heap.objs.size (He.fAd K q) (.ref (He.codeOf K q))) (cxOf (L2.CX P w) P w K mg base N qual scope (He.fAd K q) (.ref (He.codeOf K q)) A outer s H E).xe →
      DB C (cxOf (L2.CX P w) P w K mg base N qual scope (He.fAd K q) (.ref (He.codeOf K q)) A outer s H E) (fun cls d _ H => E cls d H) body fb) :
    FnOk P w K mg base (L2.CX P w) (k + 1) (He.fAd K q) fd ps (spD C K ps.length (runB N.length fb)) := by
  obtain ⟨oc, od, dV, kV, doc, pm, an, cdv, ct, osl, rfl, lk, hcd, _, _⟩ := F.ex
  obtain ⟨c, rfl⟩ := He.codeIn_ref hcd
  have ec : He.codeOf K q = c := He.codeOf_eq lk rfl
  rw [ec] at hb
  refine fn_of lk hcd S (fun vs H Q E ⟨_, _, _, _, h, _⟩ => h) fun A outer s H vs Q E hr ⟨ds, ν, μ, g, hl, r, R, hP⟩ => ?_
  refine ⟨_, hb A outer s H E hr (takes_of rfl rfl rfl rfl) (passes_of rfl), _, ν, μ, g, repE_start r, R, ?_⟩
  unfold runB at hP
  cases hf : fb (ds.map some ++ List.replicate (N.length - ds.length) none) g with
  | nx ρ g' => simp only [hf] at hP; exact fun σ' H' μ' ex R' hE' => hP .non H' μ' ex R' rNon
  | rt d g' => simp only [hf] at hP; exact fun v H' μ' ex R' r' => hP v H' μ' ex R' r'
  | bk ρ g' => simp only [hf] at hP; exact hP.elim
  | ct ρ g' => simp only [hf] at hP; exact hP.elim
  | err c ρ g' => simp only [hf] at hP; exact fun σ' H' μ' ex R' hE' => hP H' μ' ex R'
  | stuck => simp only [hf] at hP; exact hP
/-- a def's promise by its datum -/
theorem pm_of {fas : List He.Fa} {fns : List He.DefD} (kin : K.In base) (G : base.Ns mainGlobals mg) (c : He.SaysD fas fns K) {d : He.DefD} (hd : d ∈ fns) {x : Str} (hx : He.Fa.glo x ∈ fas) (ha : d.at_ = (x, none)) (hdf : d.dfl = []) (hkw : d.kwd = []) {N ps : List Str} {k : Nat} {fb : FS}
    (S : FnScope N ps d.scope) (hbind : ∀ (kV doc pm : Value) (an : Option Addr) (cdv ct : Value) (us : List Value), us.length = ps.length → bindArgs (PySem.W.fnOf d.name d.qual d.params d.body d.scope .none kV doc pm an cdv ct) ⟨us, []⟩ = pure (ps.zip us))
    (hb : ∀ (A : Around) (outer : List Env) (s : Shared) (H : Hp) (E : XK), Room k (A.deeper (envOfC d.qual d.scope s.heap.objs.size (He.fAd K d.at_) (.ref (He.codeOf K d.at_)))) →
      Takes (cxOf (L2.CX P w) P w K mg base N d.qual d.scope (He.fAd K d.at_) (.ref (He.codeOf K d.at_)) A outer s H E) (fun cls d _ H => E cls d H) →
      PassesOwn (model P w) (A.deeper (envOfC d.qual d.scope s.heap.objs.size (He.fAd K d.at_) (.ref (He.codeOf K d.at_)))) (envOfC d.qual d.scope s.heap.objs.size (He.fAd K d.at_) (.ref (He.codeOf K d.at_))) (cxOf (L2.CX P w) P w K mg base N d.qual d.scope (He.fAd K d.at_) (.ref (He.codeOf K d.at_)) A outer s H E).xe →
      DB C (cxOf (L2.CX P w) P w K mg base N d.qual d.scope (He.fAd K d.at_) (.ref (He.codeOf K d.at_)) A outer s H E) (fun cls d _ H => E cls d H) d.body fb) :
    Pm C P w K mg base (k + 1) x ps.length (runB N.length fb) := by
  obtain ⟨fd, F⟩ := c.defs hd
  unfold He.DefD.dvs He.DefD.kws at F
  rw [hdf, hkw] at F
  refine ⟨He.fAd K d.at_, fd, ps, fn_bodyD F S hb, ?_, F.kp, F.bindsN hbind⟩
  rw [ha]
  exact He.glo_ok kin G (c.facts hx)
end
end Dl
end
section
set_option Elab.async false
set_option linter.all false
set_option maxRecDepth 100000
set_option maxHeartbeats 1000000
namespace Dl
open PySem PySem.Spec PyProof.Rows L2 LamX
/-- the def that tells of refusals: def x(a): try: return a() / except ex: return ret -/
structure ToldF (C : Cfg) (K : PySem.W.Frag) (mg : Str → Option Value) (x ret : Str) (okc : Nat → Bool) (gA CS : Addr) (a ex : Str) (j : Nat) (pg : Arguments) (sg : Scope) (dV kV doc pm cdv ct oc : Value) (an od : Option Addr) (osl : Array (Option Value)) (Ng : List Str) (p1 p2 p3 p4 p5 p6 p7 p8 : Pos) : Prop where
  hm : mg x = some (.ref gA)
  hk : PySem.W.keepIn K (.ref gA) = true
  lk : K.lookup gA = some ⟨oc, od, .func (PySem.W.fnOf x x pg [.Try [.Return (some (.Call (.Name a p1) [] [] p2)) p3] [.ExceptHandler (some (.Name ex p4)) none [.Return (some (.Constant (.str ret) j p5)) p6] p7] [] [] p8] sg dV kV doc pm an cdv ct), osl⟩
  hcg : PySem.W.codeIn K cdv x = true
  hb : L2.Binds K (PySem.W.fnOf x x pg [.Try [.Return (some (.Call (.Name a p1) [] [] p2)) p3] [.ExceptHandler (some (.Name ex p4)) none [.Return (some (.Constant (.str ret) j p5)) p6] p7] [] [] p8] sg dV kV doc pm an cdv ct) [a] []
  Sg : FnScope Ng [a] sg
  hNg : Ng[0]? = some a
  hva : Vis sg a
  hge : sg.names.lookup ex = some .globalImplicit
  hme : mg ex = some (.ref CS)
  hde : (ex == ("__debug__" : Str)) = false
  h0 : ∀ f : Addr, (L2.start Ng [V.ref f])[0]? = some (some (V.ref f))
  hcat : ∀ n, okc n = true → PySem.W.exmOne K (.ref (C.exc n)) (.ref CS) = some true
  hd : (a == ("__debug__" : Str)) = false
  hcd : (a == ("__classdict__" : Str)) = false
def ToldOk (C : Cfg) (K : PySem.W.Frag) (mg : Str → Option Value) (x ret : Str) (okc : Nat → Bool) : Prop :=
  ∃ gA CS a ex j pg sg dV kV doc pm cdv ct oc an od osl Ng p1 p2 p3 p4 p5 p6 p7 p8, ToldF C K mg x ret okc gA CS a ex j pg sg dV kV doc pm cdv ct oc an od osl Ng p1 p2 p3 p4 p5 p6 p7 p8
theorem told_of {C : Cfg} {K : PySem.W.Frag} {base : Heap} {mg : Str → Option Value} {fas : List He.Fa} {fns : List He.DefD} (kin : K.In base) (G : base.Ns mainGlobals mg) (c : He.SaysD fas fns K) {d : He.DefD} (hd : d ∈ fns) {x a ex ret : Str} {j : Nat} {p1 p2 p3 p4 p5 p6 p7 p8 : Pos} {okc : Nat → Bool}
    (hx : He.Fa.glo x ∈ fas) (ha : d.at_ = (x, none)) (hn : d.name = x) (hq : d.qual = x) (hdf : d.dfl = []) (hkw : d.kwd = []) (hbd : d.body = [.Try [.Return (some (.Call (.Name a p1) [] [] p2)) p3] [.ExceptHandler (some (.Name ex p4)) none [.Return (some (.Constant (.str ret) j p5)) p6] p7] [] [] p8])
    (hex : He.Fa.glo ex ∈ fas) (Ng : List Str) (Sg : FnScope Ng [a] d.scope) (hNg : Ng[0]? = some a) (hva : Vis d.scope a) (hge : d.scope.names.lookup ex = some .globalImplicit) (hde : (ex == ("__debug__" : Str)) = false) (h0 : ∀ f : Addr, (L2.start Ng [V.ref f])[0]? = some (some (V.ref f)))
    (hbind : ∀ (kV doc pm : Value) (an : Option Addr) (cdv ct : Value) (us : List Value), us.length = [a].length → bindArgs (PySem.W.fnOf d.name d.qual d.params d.body d.scope .none kV doc pm an cdv ct) ⟨us, []⟩ = pure ([a].zip us))
    (hcat : ∀ n, okc n = true → PySem.W.exmOne K (.ref (C.exc n)) (.ref (He.ga K ex)) = some true) (hd1 : (a == ("__debug__" : Str)) = false) (hcd1 : (a == ("__classdict__" : Str)) = false) : ToldOk C K mg x ret okc := by
  obtain ⟨fd, F⟩ := c.defs hd
  unfold He.DefD.dvs He.DefD.kws at F
  rw [hdf, hkw] at F
  have B := F.bindsN hbind
  have kp := F.kp
  have gx := He.glo_ok kin G (c.facts hx)
  have ge := He.glo_ok kin G (c.facts hex)
  obtain ⟨oc, od, dV, kV, doc, pm, an, cdv, ct, osl, rfl, lk, hcd, _, _⟩ := F.ex
  rw [hn, hq, hbd] at lk B
  rw [hq] at hcd
  have e : He.fAd K d.at_ = He.ga K x := by rw [ha]; rfl
  rw [e] at lk kp
  exact ⟨He.ga K x, He.ga K ex, a, ex, j, d.params, d.scope, dV, kV, doc, pm, cdv, ct, oc, an, od, osl, Ng, p1, p2, p3, p4, p5, p6, p7, p8, ⟨gx, kp, lk, hcd, B, Sg, hNg, hva, hge, ge, hde, h0, hcat, hd1, hcd1⟩⟩
/-- a def's table of code objects -/
structure TabsOk (C : Cfg) (base : Heap) (mg : Str → Option Value) (c P : Addr) (q : Str) : Prop where
  tb : LamX.TabB base mg c P
  mem : (P, q) ∈ C.tabs
  uni : ∀ p ∈ C.tabs, p.1 = P → p.2 = q
section
variable {C : Cfg} {X : Cx} {W : WX} {pos p : Pos} {c P : Addr} {k : Nat}
theorem dp_tp {x ret : Str} {okc : Nat → Bool} {f : FE} {params : Arguments} {body : Expr} {scope : Scope} {lpos : Pos} (T : ToldOk C X.K X.mg x ret okc) (hg : Gl X x) (tb : TabsOk C X.base X.mg c P (X.env.qual ++ "<lambda>")) (hcode : X.env.code = .ref c) {k2 : Nat} (hr : Room k2 X.A) (hle : k + 2 ≤ k2) (L : lamSB X.env.scope scope = true)
    (hbody : ∀ (A : Around) (outer : List Env) (s : Shared) (H : Hp) (E : XK) (fl c' : Addr), Room k (A.deeper (lamEnv X scope s.heap.objs.size fl c')) → Takes (lamCx X A outer s H E scope fl c') (fun cls d _ H => E cls d H) →
      DP C (lamCx X A outer s H E scope fl c') (fun cls d _ H => E cls d H) body f)
    (hdef : defaultsOf params X.env = ([], []) := by rfl)
    (hbind : ∀ (q : Str) (cl : List (Str × Addr)) (pm cv ctv : Value), bindArgs (PySem.W.kla_fn "<lambda>" q params body scope cl pm cv ctv) ⟨[], []⟩ = pure [] := by intros; rfl)
    (hdb : (x == ("__debug__" : Str)) = false := by rfl) : DP C X W (.Call (.Name x p) [.Lambda params body scope lpos] [] pos) (fTold okc ret f) := by
  obtain ⟨gA, CS, a, ex, j, pg, sg, dV, kV, doc, pm, cdv, ct, oc, an, od, osl, Ng, p1, p2, p3, p4, p5, p6, p7, p8, t⟩ := T
  exact dp_told hg t.hm t.hk t.lk t.hcg t.hb t.Sg t.hNg t.hva t.hge t.hme t.hde t.h0 t.hcat tb.tb hcode tb.mem tb.uni (hr.mono hle) (lamS_by L) hdef hbind hbody hdb t.hd t.hcd
/-- a lambda of the bad list -/
theorem lk_ {l : LamI} {es : List Expr} {ls : List LamI} {lpos : Pos} (tb : TabsOk C X.base X.mg c P (lq X)) (hcode : X.env.code = .ref c) (L : lamSB X.env.scope l.scope = true) (h2 : PA X es (tLams C X ls)) (hdef : defaultsOf l.params X.env = ([], []) := by rfl)
    (hs : starEach (.Lambda l.params l.body l.scope lpos :: es) X.env = (false, eval (.Lambda l.params l.body l.scope lpos) X.env) :: starEach es X.env := by rfl) : PA X (.Lambda l.params l.body l.scope lpos :: es) (tLams C X (l :: ls)) :=
  pa_lams_cons (pe_lamK tb.tb hcode tb.mem tb.uni hdef fun ok => LamS.has (lamS_by L) ok) h2 hs
theorem lo_ {l : LamI} {fb : FE} (L : lamSB X.env.scope l.scope = true)
    (body : ∀ (A : Around) (outer : List Env) (s : Shared) (H : Hp) (E : XK) (fl c' : Addr), Room k (A.deeper (lamEnv X l.scope s.heap.objs.size fl c')) → Takes (lamCx X A outer s H E l.scope fl c') (fun cls d _ H => E cls d H) →
      DP C (lamCx X A outer s H E l.scope fl c') (fun cls d _ H => E cls d H) l.body fb)
    (bind : ∀ (q : Str) (cl : List (Str × Addr)) (pm cv ctv : Value), bindArgs (PySem.W.kla_fn "<lambda>" q l.params l.body l.scope cl pm cv ctv) ⟨[], []⟩ = pure [] := by intros; rfl) : LamOk C X k l fb := ⟨lamS_by L, bind, body⟩
theorem pe_bp {x ret fv kv bv : Str} {j2 jf jk ib kk : Nat} {scope : Scope} {own : List (Str × Nat)} {okc : Nat → Bool} {pf pk pf2 tpos ep pb epos cpos wpos kp lpos : Pos} {ls : List LamI} {fs : List FE} (T : ToldOk C X.K X.mg x ret okc) (hc : X.calm = true) (hN : X.N.Nodup) (ok : blkC X.N X.env.scope scope own = true)
    (hgE : Gl X "enumerate") (hmE : X.mg "enumerate" = none) (hNb : X.N[ib]? = some bv) (hvb : visB X.env.scope bv = true) (hNk : X.N[jk]? = some kv) (hNf : X.N[jf]? = some fv) (hkf : jk ≠ jf) (hlk : (relS scope X.env.scope).names.lookup kv = some .local) (hlf : (relS scope X.env.scope).names.lookup fv = some .local)
    (hjk : jk ∈ own.map (·.2)) (hjf : jf ∈ own.map (·.2)) (hls : LamsOk C X k ls fs) (hgt : ∀ (s : Shared) (H : Hp) (A : Addr) (cl : List (Str × Addr)) (fp : List Addr), Gl (X.blk s H scope (compEnvC scope cl A X.env) fp) x) {k2 : Nat} (hr : Room k2 X.A) (hle : k + 2 ≤ k2) (hu : X.A.units + 64 < cLine)
    (hdb : (x == ("__debug__" : Str)) = false := by rfl) (hdf : (fv == ("__debug__" : Str)) = false := by rfl) (hcf : (fv == ("__classdict__" : Str)) = false := by rfl) (hdB : (bv == ("__debug__" : Str)) = false := by rfl) (hcB : (bv == ("__classdict__" : Str)) = false := by rfl)
    (hs : starEach [.Name bv pb] X.env = [(false, eval (.Name bv pb) X.env)] := by rfl) (hsame : ∀ g : G, oNe (.str ret) (.str ret) g = .ok (.bl false) g := by intro _; rfl) (hmk : behindInMarks .NotEq (.Constant (.str ret) j2 wpos) = false := by rfl)
    (hfd : ∀ v, foldedSetIterable (.Call (.Name "enumerate" ep) [.Name bv pb] [] epos) X.env v = pure v := by intro _; rfl) :
    PE X (.ListComp (.Name kv kp) [⟨.Tuple [.Name kv pk, .Name fv pf2] kk tpos, .Call (.Name "enumerate" ep) [.Name bv pb] [] epos, [.Compare (.Call (.Name x p) [.Name fv pf] [] pos) [.NotEq] [.Constant (.str ret) j2 wpos] cpos], 0⟩] scope lpos) (tBad C X ib ls fs okc) := by
  obtain ⟨gA, CS, a, ex, j, pg, sg, dV, kV, doc, pm, cdv, ct, oc, an, od, osl, Ng, p1, p2, p3, p4, p5, p6, p7, p8, t⟩ := T
  exact pe_bad hc hN (blkOk_by ok) hgE hmE hNb (vis_by hvb) hNk hNf hkf hlk hlf hjk hjf hls hgt t.hm t.hk t.lk t.hcg t.hb t.Sg t.hNg t.hva t.hge t.hme t.hde t.h0 t.hcat (hr.mono hle) hu hdb t.hd t.hcd hdf hcf hdB hcB hs hsame hmk hfd
end
end Dl
end
section
set_option Elab.async false
set_option linter.all false
set_option maxRecDepth 100000
set_option maxHeartbeats 1000000
namespace Dl
open PySem PySem.Spec PyProof.Rows L2
section
variable {C : Cfg} {X : Cx} {W : WX} {a b c : Expr} {fes : FA} {pos : Pos}
theorem ds_par3 {i j l : Nat} {x y z : Str} {px py pz pt : Pos} {kt k2 pt2} (hc : X.calm = true) (hN : X.N.Nodup) (hi : X.N[i]? = some x) (hj : X.N[j]? = some y) (hl : X.N[l]? = some z) (hij : i ≠ j) (hil : i ≠ l) (hjl : j ≠ l)
    (hx : X.env.scope.names.lookup x = some .local) (hy : X.env.scope.names.lookup y = some .local) (hz : X.env.scope.names.lookup z = some .local) (ha : DA C X W [a, b, c] fes)
    (hw : swappedStores [.Tuple [.Name x px, .Name y py, .Name z pz] kt pt] (.Tuple [a, b, c] k2 pt2) X.env = pure (some [x, y, z]))
    (hs : swapsWithSole [.Tuple [.Name x px, .Name y py, .Name z pz] kt pt] (.Tuple [a, b, c] k2 pt2) pos.line X.env = pure false := by rfl) :
    DS C X W (.Assign [.Tuple [.Name x px, .Name y py, .Name z pz] kt pt] (.Tuple [a, b, c] k2 pt2) pos) (sPar3 i j l fes) := PS.imp (ps_par3 hc hN hi hj hl hij hil hjl hx hy hz ha hw hs) fun E σ H h => by
  refine bindSA (k := fun ds ρ g1 => match ds with
  | [a, b, c] => .nx (((ρ.set i (some a)).set j (some b)).set l (some c)) g1
  | _ => .stuck) h fun ρ ν μ g ds vs H1 hE hR r hP => ?_
  split at hP
  · unfold RepL RepL RepL RepL at r
    obtain ⟨u, _, rfl, r1, v, _, rfl, r2, w, _, rfl, r3, rfl⟩ := r
    exact ⟨u, v, w, rfl, hP _ H1 μ .refl hR (((hE.set r1 i).set r2 j).set r3 l)⟩
  · exact hP.elim
/-- x in y -/
def inPy (g : G) (x y : D) : Option Bool := match x, y with
  | .str a, .str b => some (!(Builtin.Str.occurrences b a 0 b.length 1).isEmpty)
  | _, _ => match toPy g 12 x, toPy g 12 y with
    | some d, some (.list es) => if SeqAt.shaped d && SeqAt.shaped (.list es) then some (es.any fun z => PyData.eqv z d) else none
    | some d, some (.tuple es) => if SeqAt.shaped d && SeqAt.shaped (.tuple es) then some (es.any fun z => PyData.eqv z d) else none
    | _, _ => none
def oIn : F2 := fun x y g => match inPy g x y with
  | some b => .ok (.bl b) g
  | none => .stuck
def oNIn : F2 := fun x y g => match inPy g x y with
  | some b => .ok (.bl (!b)) g
  | none => .stuck
theorem oIn_n : NoErr oIn := fun x y g c g' e => by unfold oIn at e; split at e <;> cases e
theorem oNIn_n : NoErr oNIn := fun x y g c g' e => by unfold oNIn at e; split at e <;> cases e
theorem inPy_rd {K : PySem.W.Frag} {H : Hp} {ν μ : List Addr} {g : G} {dx dy : D} {x y : V} {r : Bool} (R : RS C K H ν μ g) (r1 : RepD K H ν μ dx x) (r2 : RepD K H ν μ dy y) (e : inPy g dx dy = some r) :
    (∃ s t, x = .str s ∧ y = .str t ∧ r = (!(Builtin.Str.occurrences t s 0 t.length 1).isEmpty)) ∨ ∃ d es, Dp K H x d ∧ ((Dp K H y (.list es) ∧ SeqAt.shaped (.list es) = true) ∨ (Dp K H y (.tuple es) ∧ SeqAt.shaped (.tuple es) = true)) ∧ SeqAt.shaped d = true ∧ (es.any fun z => PyData.eqv z d) = r := by
  unfold inPy at e
  split at e
  · rename_i s t
    obtain rfl : x = .str s := r1
    obtain rfl : y = .str t := r2
    cases e
    exact .inl ⟨s, t, rfl, rfl, rfl⟩
  · split at e
    · rename_i d es e1 e2
      split at e
      · rename_i h
        rw [Bool.and_eq_true] at h
        cases e
        exact .inr ⟨d, es, toPy_rd R 12 _ _ _ r1 e1, .inl ⟨toPy_rd R 12 _ _ _ r2 e2, h.2⟩, h.1, rfl⟩
      · cases e
    · rename_i d es e1 e2
      split at e
      · rename_i h
        rw [Bool.and_eq_true] at h
        cases e
        exact .inr ⟨d, es, toPy_rd R 12 _ _ _ r1 e1, .inr ⟨toPy_rd R 12 _ _ _ r2 e2, h.2⟩, h.1, rfl⟩
      · cases e
    · cases e
theorem oIn_ok (hu : X.A.units + 65 < cLine) : OpR X (compareOp .In) (rD C X.K oIn) := by
  intro pins s σ H x y v u Q I rx ry h
  obtain ⟨dx, dy, ν, μ, g, R, r1, r2, hP⟩ := h
  have hP := hP (fun _ _ _ _ => False) σ
  unfold oIn at hP
  split at hP
  · rename_i b e
    rcases inPy_rd R r1 r2 e with ⟨s, t, rfl, rfl, rfl⟩ | ⟨d, es, h1, h2, h3, h5⟩
    · exact op_in_str pins _ σ H _ _ v u Q I rx ry ⟨s, t, rfl, rfl, hP.here R (rBl _)⟩
    · rcases h2 with ⟨h2, h4⟩ | ⟨h2, h4⟩
      · exact op_inD hu pins _ σ H _ _ v u Q I rx ry ⟨d, es, h1, h2, h3, h4, by rw [h5]; exact hP.here R (rBl _)⟩
      · obtain ⟨as, q1⟩ := Dp.reads I d x v h1 rx
        obtain ⟨bs, q2⟩ := Dp.reads I (.tuple es) y u h2 ry
        exact SeqAt.in_tuple_reads q2 q1 (SeqAt.canLay_of_shaped h4) (SeqAt.canLay_of_shaped h3) (room_in_shaped h3 hu) ⟨.bl _, H, I, rfl, by rw [h5]; exact hP.here R (rBl _)⟩
  · exact hP.elim
theorem oNIn_ok (hu : X.A.units + 65 < cLine) : OpR X (compareOp .NotIn) (rD C X.K oNIn) := by
  intro pins s σ H x y v u Q I rx ry h
  obtain ⟨dx, dy, ν, μ, g, R, r1, r2, hP⟩ := h
  have hP := hP (fun _ _ _ _ => False) σ
  unfold oNIn at hP
  split at hP
  · rename_i b e
    rcases inPy_rd R r1 r2 e with ⟨s, t, rfl, rfl, rfl⟩ | ⟨d, es, h1, h2, h3, h5⟩
    · exact op_notin_str pins _ σ H _ _ v u Q I rx ry ⟨s, t, rfl, rfl, hP.here R (rBl _)⟩
    · rcases h2 with ⟨h2, h4⟩ | ⟨h2, h4⟩
      · exact op_notInD hu pins _ σ H _ _ v u Q I rx ry ⟨d, es, h1, h2, h3, h4, by rw [h5]; exact hP.here R (rBl _)⟩
      · obtain ⟨as, q1⟩ := Dp.reads I d x v h1 rx
        obtain ⟨bs, q2⟩ := Dp.reads I (.tuple es) y u h2 ry
        exact SeqAt.notIn_tuple_reads q2 q1 (SeqAt.canLay_of_shaped h4) (SeqAt.canLay_of_shaped h3) (room_in_shaped h3 hu) ⟨.bl _, H, I, rfl, by rw [h5]; exact hP.here R (rBl _)⟩
  · exact hP.elim
end
section
variable {C : Cfg} {P : Program} {w : World} {K : PySem.W.Frag} {mg : Str → Option Value} {base : Heap}
theorem db_stuck {X : Cx} {W : WX} {sts : List Stmt} : DB C X W sts (fun _ _ => .stuck) := ⟨fun pins s σ H E I ⟨ρ, ν, μ, g, hE, hR, hP⟩ => (show False from hP).elim⟩
end
end Dl
end
section
set_option Elab.async false
set_option linter.all false
set_option maxRecDepth 100000
set_option maxHeartbeats 1000000
namespace Dl
open PySem PySem.Spec PyProof.Rows L2
theorem hu65_of {k : Nat} {A : Around} (h : Room k A) : A.units + 65 < cLine := by have := h.un; omega
/-- the tables of code objects of these defs -/
def tabsOf (tq : List ((Str × Option Str) × Str)) (K : PySem.W.Frag) : List (Addr × Str) := tq.map fun p => (He.tabOf K (He.codeOf K p.1), p.2)
theorem nodup_inj {α β : Type} {f : α → β} : ∀ {l : List α}, (l.map f).Nodup → ∀ {x y : α}, x ∈ l → y ∈ l → f x = f y → x = y
  | [], _, x, y, h, _, _ => by cases h
  | z :: l, n, x, y, hx, hy, e => by
    rw [List.map_cons, List.nodup_cons] at n
    rcases List.mem_cons.mp hx with a | a <;> rcases List.mem_cons.mp hy with b | b
    · rw [a, b]
    · exact (n.1 (by rw [← a, e]; exact List.mem_map_of_mem b)).elim
    · exact (n.1 (by rw [← b, ← e]; exact List.mem_map_of_mem a)).elim
    · exact nodup_inj n.2 a b e
theorem tabs_ok {C : Cfg} {K : PySem.W.Frag} {base : Heap} {mg : Str → Option Value} {tq : List ((Str × Option Str) × Str)} {d : (Str × Option Str) × Str} (hd : d ∈ tq) (tb : ∀ p ∈ tq, LamX.TabB base mg (He.codeOf K p.1) (He.tabOf K (He.codeOf K p.1)))
    (nt : (tq.map fun p => He.tabOf K (He.codeOf K p.1)).Nodup) (hC : C.tabs = tabsOf tq K) : TabsOk C base mg (He.codeOf K d.1) (He.tabOf K (He.codeOf K d.1)) d.2 where
  tb := tb d hd
  mem := by rw [hC]; exact List.mem_map.mpr ⟨d, hd, rfl⟩
  uni := fun p hp e => by
    rw [hC] at hp
    obtain ⟨x, hx, rfl⟩ := List.mem_map.mp hp
    rw [nodup_inj nt hx hd e]
/-- the lambdas that a statement lists -/
def lamsIn : List Expr → List LamI
  | .Lambda p b s _ :: r => ⟨p, b, s⟩ :: lamsIn r
  | _ => []
def lamsOf (st : Stmt) (j : Nat) (more : Bool) : List LamI := match (defBody st)[j]? with
  | some (.Assign _ (.List es _) _) => lamsIn es
  | some (.Assign _ (.BinOp _ _ (.List es _) _) _) => lamsIn es
  | _ => []
end Dl
end
section
set_option Elab.async false
set_option linter.all false
set_option maxRecDepth 100000
set_option maxHeartbeats 1000000
namespace Dl
open PySem PySem.Spec PyProof.Rows L2 LamX
section
variable {C : Cfg} {X : Cx} {W : WX} {tg elt iter : Expr} {ifs : List Expr} {fe : FE} {ft : FT} {pos p gpos : Pos} {fi : FI} {fg : FG} {k : Nat} {scope : Scope} {own : List (Str × Nat)} {ts sl : List Nat} {stp : List D → Go} {kk : List D → G → Res D}
theorem lc_ (hsl : own.map (·.2) = sl) (hc : X.calm = true) (hN : X.N.Nodup) (hi : DI C X W tg iter fi) (ok : blkC X.N X.env.scope scope own = true) (hts : ∀ i ∈ ts, i ∈ sl)
    (hg : ∀ (s : Shared) (H : Hp) (A : Addr) (cl : List (Str × Addr)) (fp : List Addr), DG C (X.blk s H scope (compEnvC scope cl A X.env) fp) W0 tg ts fg)
    (ht : ∀ (s : Shared) (H : Hp) (A : Addr) (cl : List (Str × Addr)) (fp : List Addr), DTs C (X.blk s H scope (compEnvC scope cl A X.env) fp) W0 ifs ft)
    (he : ∀ (s : Shared) (H : Hp) (A : Addr) (cl : List (Str × Addr)) (fp : List Addr), DP C (X.blk s H scope (compEnvC scope cl A X.env) fp) W0 elt fe)
    (hs : ∀ x, foldedSetIterable iter X.env x = pure x := by intro _; rfl) : DP C X W (.ListComp elt [⟨tg, iter, ifs, 0⟩] scope pos) (fLc sl fi fg ft fe) := by
  subst hsl
  exact dp_lcK lcEnd hc hN hi (blkOk_by ok) hts hg ht he hs
theorem lcM_ (hsl : own.map (·.2) = sl) (hc : X.calm = true) (hN : X.N.Nodup) (hi : DI C X W tg iter fi) (ok : blkC X.N X.env.scope scope own = true) (hts : ∀ i ∈ ts, i ∈ sl)
    (hg : ∀ (s : Shared) (H : Hp) (A : Addr) (cl : List (Str × Addr)) (fp : List Addr), DG C (X.blk s H scope (compEnvC scope cl A X.env) fp) W0 tg ts fg)
    (ht : ∀ (s : Shared) (H : Hp) (A : Addr) (cl : List (Str × Addr)) (fp : List Addr), DTs C (X.blk s H scope (compEnvC scope cl A X.env) fp) W0 ifs ft)
    (he : ∀ (s : Shared) (H : Hp) (A : Addr) (cl : List (Str × Addr)) (fp : List Addr), DP C (X.blk s H scope (compEnvC scope cl A X.env) fp) W0 elt fe)
    (hs : ∀ x, foldedSetIterable iter X.env x = pure x := by intro _; rfl) : DP C X W (.ListComp elt [⟨tg, iter, ifs, 0⟩] scope pos) (fLcM sl fi fg ft fe) := by
  subst hsl
  exact dp_lcK lcEndM hc hN hi (blkOk_by ok) hts hg ht he hs
theorem slc_ {i : Nat} {y : Str} {py spos : Pos} (hsl : own.map (·.2) = sl) (hc : X.calm = true) (hN : X.N.Nodup) (hy : X.N[i]? = some y) (hyl : X.env.scope.names.lookup y = some .local)
    (hsw : swapsWith (.ListComp elt [⟨tg, iter, ifs, 0⟩] scope pos) (some (.Name y py)) spos.line X.env = pure true) (hi : DI C X W tg iter fi) (ok : blkC X.N X.env.scope scope own = true) (hts : ∀ i ∈ ts, i ∈ sl)
    (hg : ∀ (s : Shared) (H : Hp) (A : Addr) (cl : List (Str × Addr)) (fp : List Addr), DG C (X.blk s H scope (compEnvC scope cl A X.env) fp) W0 tg ts fg)
    (ht : ∀ (s : Shared) (H : Hp) (A : Addr) (cl : List (Str × Addr)) (fp : List Addr), DTs C (X.blk s H scope (compEnvC scope cl A X.env) fp) W0 ifs ft)
    (he : ∀ (s : Shared) (H : Hp) (A : Addr) (cl : List (Str × Addr)) (fp : List Addr), DP C (X.blk s H scope (compEnvC scope cl A X.env) fp) W0 elt fe)
    (hs : ∀ x, foldedSetIterable iter X.env x = pure x := by intro _; rfl) : DS C X W (.Assign [.Name y py] (.ListComp elt [⟨tg, iter, ifs, 0⟩] scope pos) spos) (sAsg (fLc sl fi fg ft fe) (gNm i)) := by
  subst hsl
  exact ds_lcK lcEnd hc hN hy hyl hsw hi (blkOk_by ok) hts hg ht he hs
theorem slcM_ {i : Nat} {y : Str} {py spos : Pos} (hsl : own.map (·.2) = sl) (hc : X.calm = true) (hN : X.N.Nodup) (hy : X.N[i]? = some y) (hyl : X.env.scope.names.lookup y = some .local)
    (hsw : swapsWith (.ListComp elt [⟨tg, iter, ifs, 0⟩] scope pos) (some (.Name y py)) spos.line X.env = pure true) (hi : DI C X W tg iter fi) (ok : blkC X.N X.env.scope scope own = true) (hts : ∀ i ∈ ts, i ∈ sl)
    (hg : ∀ (s : Shared) (H : Hp) (A : Addr) (cl : List (Str × Addr)) (fp : List Addr), DG C (X.blk s H scope (compEnvC scope cl A X.env) fp) W0 tg ts fg)
    (ht : ∀ (s : Shared) (H : Hp) (A : Addr) (cl : List (Str × Addr)) (fp : List Addr), DTs C (X.blk s H scope (compEnvC scope cl A X.env) fp) W0 ifs ft)
    (he : ∀ (s : Shared) (H : Hp) (A : Addr) (cl : List (Str × Addr)) (fp : List Addr), DP C (X.blk s H scope (compEnvC scope cl A X.env) fp) W0 elt fe)
    (hs : ∀ x, foldedSetIterable iter X.env x = pure x := by intro _; rfl) : DS C X W (.Assign [.Name y py] (.ListComp elt [⟨tg, iter, ifs, 0⟩] scope pos) spos) (sAsg (fLcM sl fi fg ft fe) (gNm i)) := by
  subst hsl
  exact ds_lcK lcEndM hc hN hy hyl hsw hi (blkOk_by ok) hts hg ht he hs
theorem genB_ {nm : Str} {id : String} (hsl : own.map (·.2) = sl) (hg : Gl X nm) (hm : X.mg nm = none) (hv : bootBuiltins nm = some (.builtin id)) (hc : Cons C X W k (.builtin id) stp kk) (O : GenOk C X W k tg iter elt ifs scope own ts fi fg ft fe)
    (hnm : nm ≠ "__name__" := by decide) (hdb : (nm == ("__debug__" : Str)) = false := by rfl)
    (he : starEach [.GeneratorExp elt [⟨tg, iter, ifs, 0⟩] scope gpos] X.env = (false, eval (.GeneratorExp elt [⟨tg, iter, ifs, 0⟩] scope gpos) X.env) :: starEach [] X.env := by rfl) :
    DP C X W (.Call (.Name nm p) [.GeneratorExp elt [⟨tg, iter, ifs, 0⟩] scope gpos] [] pos) (fGn stp kk sl fi fg ft fe) := by
  subst hsl
  exact dp_genB hg hm hv hc O hnm hdb he
theorem genT_ {nm : Str} {id : String} (hsl : own.map (·.2) = sl) (hg : Gl X nm) (hm : X.mg nm = none) (hv : bootBuiltins nm = some (.type id)) (hc : Cons C X W k (.type id) stp kk) (O : GenOk C X W k tg iter elt ifs scope own ts fi fg ft fe)
    (hnm : nm ≠ "__name__" := by decide) (hdb : (nm == ("__debug__" : Str)) = false := by rfl)
    (he : starEach [.GeneratorExp elt [⟨tg, iter, ifs, 0⟩] scope gpos] X.env = (false, eval (.GeneratorExp elt [⟨tg, iter, ifs, 0⟩] scope gpos) X.env) :: starEach [] X.env := by rfl) :
    DP C X W (.Call (.Name nm p) [.GeneratorExp elt [⟨tg, iter, ifs, 0⟩] scope gpos] [] pos) (fGn stp kk sl fi fg ft fe) := by
  subst hsl
  exact dp_genT hg hm hv hc O hnm hdb he
theorem gok_ {c P : Addr} {k2 : Nat} (tb : TabsOk C X.base X.mg c P (X.env.qual ++ "<genexpr>")) (hcode : X.env.code = .ref c) (hr : Room k2 X.A) (hle : k + 3 ≤ k2) (hN : X.N.Nodup) (blk : blkC X.N X.env.scope scope own = true) (tss : ∀ i ∈ ts, i ∈ own.map (·.2)) (cell : ∀ y ∈ scope.names, y.2 ≠ .cell)
    (dot : scope.names.lookup (".0" : Str) = some NameKind.local) (co : scope.isCoroutine = false) (fold : ∀ v, genFold iter X.env v = pure v) (it : DI C X W tg iter fi)
    (tgt : ∀ (B : Around) (s : Shared) (H : Hp) (A : Addr) (code : Value) (fp : List Addr) (pn : List (Addr × Obj)), Room k (B.deeper (gEnvOf X scope A code)) → DG C (gCx X B s H (gEnvOf X scope A code) fp pn) W0 tg ts fg)
    (tst : ∀ (B : Around) (s : Shared) (H : Hp) (A : Addr) (code : Value) (fp : List Addr) (pn : List (Addr × Obj)), Room k (B.deeper (gEnvOf X scope A code)) → DTs C (gCx X B s H (gEnvOf X scope A code) fp pn) W0 ifs ft)
    (el : ∀ (B : Around) (s : Shared) (H : Hp) (A : Addr) (code : Value) (fp : List Addr) (pn : List (Addr × Obj)), Room k (B.deeper (gEnvOf X scope A code)) → DP C (gCx X B s H (gEnvOf X scope A code) fp pn) W0 elt fe) :
    GenOk C X W k tg iter elt ifs scope own ts fi fg ft fe :=
  ⟨hr.mono hle, ⟨c, P, tb.tb, hcode, tb.mem, tb.uni⟩, hN, blkOk_by blk, tss, cell, dot, co, fold, it, tgt, tst, el⟩
end
/-- the slot ib holds nothing that one knows -/
def sUn (ib : Nat) (f : FS) : FS := fun ρ g => f (ρ.set ib none) g
section
variable {C : Cfg} {X : Cx} {W : WX} {ib : Nat} {ls ms : List LamI} {f : FS} {rest : List Stmt} {es : List Expr} {pos p pb lp bp : Pos} {bv : Str}
theorem bad_ (hN : X.N.Nodup) (hib : X.N[ib]? = some bv) (hx : X.env.scope.names.lookup bv = some .local) (hl : PA X es (tLams C X ls)) (hz : ls.length ≤ sizeLine) (hrest : DBd C X W ib ls rest f)
    (hs : swapsWith (.List es lp) (some (.Name bv p)) pos.line X.env = pure false := by rfl) : DB C X W (.Assign [.Name bv p] (.List es lp) pos :: rest) (sUn ib f) := db_bad hN hib (.inl hx) hl hz hrest hs (.inr hx)
theorem badm_ (hN : X.N.Nodup) (hib : X.N[ib]? = some bv) (hx : X.env.scope.names.lookup bv = some .local) (hl : PA X es (tLams C X ms)) (hz : (ls ++ ms).length ≤ sizeLine) (hrest : DBd C X W ib (ls ++ ms) rest f)
    (hs : swapsWith (.BinOp (.Name bv pb) .Add (.List es lp) bp) (some (.Name bv p)) pos.line X.env = pure false := by rfl) (hd : (bv == ("__debug__" : Str)) = false := by rfl) (hcd : (bv == ("__classdict__" : Str)) = false := by rfl) :
    DBd C X W ib ls (.Assign [.Name bv p] (.BinOp (.Name bv pb) .Add (.List es lp) bp) pos :: rest) (sUn ib f) := dbd_more hN hib (.inl hx) hl hz hrest hs (.inr hx) hd hcd
end
end Dl
namespace Dl
open PySem PySem.Spec PyProof.Rows L2 LamX
theorem oNe_same (w : Str) (hw : (PyData.str w).canLay0 = true) (g : G) : oNe (.str w) (.str w) g = .ok (.bl false) g := by
  have h : eqPy g (.str w) (.str w) = some true := by
    have hs : SeqAt.shaped (.str w) = true := by
      unfold SeqAt.shaped
      rw [hw]
      rfl
    show (if SeqAt.shaped (.str w) && SeqAt.shaped (.str w) then some (PyData.eqv (.str w) (.str w)) else none) = some true
    rw [hs]
    simp [PyData.eqv]
  unfold oNe
  rw [h]
  rfl
section
variable {C : Cfg} {X : Cx} {W : WX} {pos p : Pos} {c P : Addr} {k : Nat} {params : Arguments} {body : Expr} {scope : Scope}
theorem lk2_ {es : List Expr} {ls : List LamI} {lpos : Pos} (tb : TabsOk C X.base X.mg c P (X.env.qual ++ "<lambda>")) (hcode : X.env.code = .ref c) (L : lamSB X.env.scope scope = true) (h2 : PA X es (tLams C X ls)) (hdef : defaultsOf params X.env = ([], []) := by rfl)
    (hs : starEach (.Lambda params body scope lpos :: es) X.env = (false, eval (.Lambda params body scope lpos) X.env) :: starEach es X.env := by rfl) : PA X (.Lambda params body scope lpos :: es) (tLams C X (⟨params, body, scope⟩ :: ls)) :=
  lk_ (l := ⟨params, body, scope⟩) tb hcode L h2 hdef hs
theorem lo2_ {fb : FE} (L : lamSB X.env.scope scope = true)
    (h : ∀ (A : Around) (outer : List Env) (s : Shared) (H : Hp) (E : XK) (fl c' : Addr), Room k (A.deeper (lamEnv X scope s.heap.objs.size fl c')) → Takes (lamCx X A outer s H E scope fl c') (fun cls d _ H => E cls d H) →
      DP C (lamCx X A outer s H E scope fl c') (fun cls d _ H => E cls d H) body fb)
    (bind : ∀ (q : Str) (cl : List (Str × Addr)) (pm cv ctv : Value), bindArgs (PySem.W.kla_fn "<lambda>" q params body scope cl pm cv ctv) ⟨[], []⟩ = pure [] := by intros; rfl) : LamOk C X k ⟨params, body, scope⟩ fb := ⟨lamS_by L, bind, h⟩
end
end Dl
end
section
set_option Elab.async false
set_option linter.all false
set_option maxRecDepth 100000
set_option maxHeartbeats 1000000
namespace Dl
open PySem PySem.Spec PyProof.Rows L2
/-- the script as data: one of two readings -/
def scrD (d : D) (ns : List Int) : Prop := d = .scr ns ∨ d = .lst (ns.map D.int)
theorem repL_ints2 {K : PySem.W.Frag} {H : Hp} {ν μ : List Addr} (ns : List Int) : RepL K H ν μ (ns.map D.int) (ns.map V.int) := repL_ints ns
/-- the law's promise at the script -/
theorem spD_script {C : Cfg} {K : PySem.W.Frag} {f : FN} {H : Hp} {a : Addr} {ns : List Int} (hT : ∀ p ∈ C.tabs, H p.1 = some (.tbl #[])) (hS : SqL K H a (ns.map V.int)) (hf : ∀ d, scrD d ns → ∃ g, f [d] [] = .ok (.bl true) g) : spD C K 1 f [.ref a] H (fun v _ => v = .bl true) (fun _ _ _ => False) := by
  have R : RS C K H [] [] [] := ⟨rfl, .nil, (fun a h => by cases h), (fun a h => by cases h), (fun n u a e _ => by cases e), fun p hp => LamX.TabS.nil (hT p hp)⟩
  have fin : ∀ d, scrD d ns → RepD K H [] [] d (.ref a) → spD C K 1 f [.ref a] H (fun v _ => v = .bl true) (fun _ _ _ => False) := fun d hd r => by
    obtain ⟨g, e⟩ := hf d hd
    refine ⟨[d], [], [], [], rfl, ⟨_, [], rfl, r, rfl⟩, R, ?_⟩
    rw [e]
    intro v H' μ' _ _ rv
    exact rv
  rcases hS with h | h
  · rcases h with h | ⟨o, h⟩
    · exact fin (.lst (ns.map D.int)) (.inr rfl) ⟨a, _, rfl, h, by simp, by simp, repL_ints ns⟩
    · exact fin (.scr ns) (.inl rfl) ⟨a, rfl, .inl ⟨o, h⟩⟩
  · exact fin (.scr ns) (.inl rfl) ⟨a, rfl, .inr (.inr h)⟩
/-! ### a call without arguments begins with no mutable thing in sight -/
section
variable {K : PySem.W.Frag} {H : Hp} {ν μ μ' : List Addr}
mutual
theorem repD_pure : ∀ (d : D) {v : V}, pureD d = true → RepD K H ν μ d v → RepD K H ν μ' d v
  | .non, v, _, h => h
  | .bl b, v, _, h => h
  | .int i, v, _, h => h
  | .str s, v, _, h => h
  | .tup ds, v, p, h => by
    unfold RepD at h ⊢
    obtain ⟨a, xs, e, h1, h2⟩ := h
    unfold pureD at p
    exact ⟨a, xs, e, h1, repL_pure ds p h2⟩
  | .lst ds, v, p, h => by unfold pureD at p; cases p
  | .scr ns, v, p, h => by unfold pureD at p; cases p
  | .loc n, v, p, h => by unfold pureD at p; cases p
theorem repL_pure : ∀ (ds : List D) {vs : List V}, pureL ds = true → RepL K H ν μ ds vs → RepL K H ν μ' ds vs
  | [], vs, _, h => h
  | d :: ds, vs, p, h => by
    unfold RepL at h ⊢
    obtain ⟨v, r, e, h1, h2⟩ := h
    unfold pureL at p
    rw [Bool.and_eq_true] at p
    exact ⟨v, r, e, repD_pure d p.1 h1, repL_pure ds p.2 h2⟩
end
/-- what stood stays as it was -/
theorem RS.frame {C : Cfg} {H' : Hp} {μ1 : List Addr} {g g1 : G} (R : RS C K H ν μ g) (e : Ext H [] H' μ1) (R1 : RS C K H' ν μ1 g1) : Ext H μ H' μ ∧ RS C K H' ν μ g := by
  have k : ∀ b o, H b = some o → NTb o → H' b = some o := fun b o h n => e.kp b o h (.inl (by simp)) n
  have ex : Ext H μ H' μ := ⟨⟨[], by simp, by simp⟩, fun b o h _ n => k b o h n, e.dm⟩
  refine ⟨ex, R.len, R.nd, R.dj, fun a ha => ?_, fun n u a e1 e2 => ?_, R1.tb⟩
  · obtain ⟨xs, h⟩ := R.nv a ha
    exact ⟨xs, k _ _ h ntb_lst⟩
  · have q := R.ob n u a e1 e2
    obtain ⟨w, hw, cw⟩ := q.ch
    exact q.mono ex.kp' (by rw [k _ _ hw cw.ntb, hw])
end
def fCall0F (fn : FN) : FE := fun _ g => match fn [] [] with
  | .ok d _ => if pureD d = true then .ok d g else .stuck
  | .err c _ => .err c g
  | .stuck => .stuck
theorem dp_cp0F {C : Cfg} {X : Cx} {W : WX} {pos p : Pos} {k k2 : Nat} {x : Str} {fn : FN} (F : Pm C X.prog X.w X.K X.mg X.base k x 0 fn) (hr : Room k2 X.A) (hle : k ≤ k2) (hg : Gl X x) (tk : Takes X W) (hdb : (x == ("__debug__" : Str)) = false := by rfl) : DP C X W (.Call (.Name x p) [] [] pos) (fCall0F fn) := by
  obtain ⟨f, fd, ps, h1, h2, h3, h4⟩ := F
  refine ⟨fun pins s σ H Q I ⟨ρ, ν, μ, g, hE, hR, hP⟩ => ?_⟩
  refine wpAny_Call_Name_kw (ld_glob I hg h2 ?_ hdb)
  have R0 : RS C X.K H ν [] [] := ⟨rfl, .nil, (fun a h => by simp), hR.nv, (fun n u a e _ => by cases e), hR.tb⟩
  refine PySem.W.callWith_K0 I.kIn h3 <| run_fnS (E := WE W) h1 (hr.mono hle) h4 (passAt tk σ) I .nil ⟨[], ν, [], [], rfl, rfl, R0, ?_⟩
  unfold fCall0F at hP
  cases hf : fn [] [] with
  | stuck => simp only [hf] at hP; exact hP.elim
  | err c g1 =>
    simp only [hf] at hP
    intro H' μ' e R1
    obtain ⟨e2, R2⟩ := hR.frame e R1
    exact hP H' μ e2 R2
  | ok d g1 =>
    simp only [hf] at hP
    split at hP
    · rename_i hp
      intro v H' μ' e R1 r1
      obtain ⟨e2, R2⟩ := hR.frame e R1
      exact hP v H' μ e2 R2 (repD_pure d hp r1)
    · exact hP.elim
end Dl
end
section
set_option Elab.async false
set_option linter.all false
set_option maxRecDepth 100000
set_option maxHeartbeats 2000000
namespace K01
open PySem PySem.Spec PyProof.Rows L2 Dl
def top (i : Nat) : Stmt := PySem.Challenge.pw_dialstack_k01_exact_numbers_for_phones.main.body.getD i (.Pass ⟨0, 0, 0, 0⟩)
abbrev dd (x : Str) (i : Nat) : He.DefD := ⟨(x, none), x, x, defArgs (top i), defBody (top i), defScope (top i), [], []⟩
def fns : List He.DefD := [dd "share" 4, dd "whole" 5, dd "plus" 6, dd "minus" 7, dd "times" 8, dd "parted" 9, dd "is_less" 10, dd "below" 11, dd "above" 12, dd "nearest" 13, dd "sum_of" 14, dd "told_share" 15, dd "split" 16, dd "_law_dice" 18, dd "_law_roll" 19, dd "_law_rounds" 20, dd "_law_told" 21, dd "_law_gcd" 22, dd "_law_share" 23, dd "_law_add" 24, dd "_law_mul" 25, dd "_law_less" 26, dd "_law_one" 27, dd "_law_plain" 28, dd "law" 29]
def fas : List He.Fa := [.glo "share", .glo "whole", .glo "plus", .glo "minus", .glo "times", .glo "parted", .glo "is_less", .glo "below", .glo "above", .glo "nearest", .glo "sum_of", .glo "told_share", .glo "split", .glo "_law_dice", .glo "_law_roll", .glo "_law_rounds", .glo "_law_told", .glo "_law_gcd", .glo "_law_share", .glo "_law_add", .glo "_law_mul", .glo "_law_less", .glo "_law_one", .glo "_law_plain", .glo "law", .glo "ShareError", .exc "ShareError", .free "abs", .free "len", .free "min", .free "sum", .free "enumerate", .free "sorted", .free "tuple", .free "int", .free "range", .free "str", .free "list", .glo "DialFault", .exm "DialFault" "ShareError" false, .exm "ShareError" "ShareError" true]
def excN : List Str := ["DialFault", "ShareError"]
def tq : List ((Str × Option Str) × Str) := [(("split", none), "split.<locals>.<genexpr>"), (("_law_plain", none), "_law_plain.<locals>.<lambda>"), (("law", none), "law.<locals>.<lambda>")]
def cfg (K : PySem.W.Frag) : Cfg := ⟨fun n => He.ga K (excN.getD n ""), fun _ => 0, tabsOf tq K⟩
structure Ctx (P : Program) (w : World) (K : PySem.W.Frag) (mg : Str → Option Value) (base : Heap) : Prop where
  kin : K.In base
  G : base.Ns mainGlobals mg
  c : He.SaysD fas fns K
  tb : ∀ p ∈ tq, LamX.TabB base mg (He.codeOf K p.1) (He.tabOf K (He.codeOf K p.1))
  nt : (tq.map fun p => He.tabOf K (He.codeOf K p.1)).Nodup
section
variable {P : Program} {w : World} {K : PySem.W.Frag} {mg : Str → Option Value} {base : Heap}
theorem tab_split_genexpr (S : Ctx P w K mg base) : TabsOk (cfg K) base mg (He.codeOf K ("split", none)) (He.tabOf K (He.codeOf K ("split", none))) "split.<locals>.<genexpr>" := tabs_ok (tq := tq) (d := (("split", none), "split.<locals>.<genexpr>")) (List.mem_of_getElem? (i := 0) rfl) S.tb S.nt rfl
theorem tab__law_plain_lambda (S : Ctx P w K mg base) : TabsOk (cfg K) base mg (He.codeOf K ("_law_plain", none)) (He.tabOf K (He.codeOf K ("_law_plain", none))) "_law_plain.<locals>.<lambda>" := tabs_ok (tq := tq) (d := (("_law_plain", none), "_law_plain.<locals>.<lambda>")) (List.mem_of_getElem? (i := 1) rfl) S.tb S.nt rfl
theorem tab_law_lambda (S : Ctx P w K mg base) : TabsOk (cfg K) base mg (He.codeOf K ("law", none)) (He.tabOf K (He.codeOf K ("law", none))) "law.<locals>.<lambda>" := tabs_ok (tq := tq) (d := (("law", none), "law.<locals>.<lambda>")) (List.mem_of_getElem? (i := 2) rfl) S.tb S.nt rfl
def okc__law_told (n : Nat) : Bool := [1].contains n
theorem TS__law_told : FnScope ["what"] ["what"] (defScope (top 21)) := ⟨rfl, rfl, rfl, by decide +kernel, rfl, by decide +kernel, by decide +kernel⟩
theorem T__law_told (S : Ctx P w K mg base) : ToldOk (cfg K) K mg "_law_told" "ShareError" okc__law_told :=
  told_of S.kin S.G S.c (d := dd "_law_told" 21) (List.mem_of_getElem? (i := 16) rfl) (a := "what") (ex := "ShareError") (List.mem_of_getElem? (i := 16) rfl) rfl rfl rfl rfl rfl rfl (List.mem_of_getElem? (i := 25) rfl) ["what"] TS__law_told rfl (vis_by rfl) rfl rfl (fun _ => rfl) (fun _ _ _ _ _ _ us hl => match us, hl with | [_], _ => rfl) (fun n h => by
    unfold okc__law_told at h
    simp only [List.contains_cons, List.contains_nil, Bool.or_false, Bool.or_eq_true, beq_iff_eq] at h
    subst h
    · exact He.exm_ok (x := "ShareError") (y := "ShareError") (S.c.facts (f := .exm "ShareError" "ShareError" true) (List.mem_of_getElem? (i := 40) rfl))) rfl rfl
def N_share : List Str := ["one", "under", "left", "right", "sign"]
theorem S_share : FnScope N_share ["one", "under"] (defScope (top 4)) := ⟨rfl, rfl, rfl, by decide +kernel, rfl, by decide +kernel, by decide +kernel⟩
def B_share : FS :=
  sSeq (sIf (fB (fBin oEq (fVar 1) (fC (.int 0)))) (sSeq (sErr 1)
  sNil) sNil)
  (sSeq (sPar 2 3 (fCons (fBi bAbs (fCons (fVar 0) fNil)) (fCons (fBi bAbs (fCons (fVar 1) fNil)) fNil)))
  (sSeq (sWh (fB (fBin oNe (fVar 3) (fC (.int 0)))) (sSeq (sPar 2 3 (fCons (fVar 3) (fCons (fBin oMod (fVar 2) (fVar 3)) fNil)))
  sNil) (turnsOf 3))
  (sSeq (sAsg (fIf (fB (fBin oGt (fVar 1) (fC (.int 0)))) (fC (.int 1)) (fBin oSub (fC (.int 0)) (fC (.int 1)))) (gNm 4))
  (sSeq (sRt (fTup (fCons (fBin oDiv (fBin oMul (fVar 4) (fVar 0)) (fVar 2)) (fCons (fBin oDiv (fBin oMul (fVar 4) (fVar 1)) (fVar 2)) fNil))))
  sNil))))
def F_share : FN := runB 5 B_share
theorem P_share (S : Ctx P w K mg base) : Pm (cfg K) P w K mg base 2 "share" 2 F_share := by
  have g_ShareError := He.glo_ok S.kin S.G (S.c.facts (f := .glo "ShareError") (List.mem_of_getElem? (i := 25) rfl))
  have x_ShareError := He.exc_ok (S.c.facts (f := .exc "ShareError") (List.mem_of_getElem? (i := 26) rfl))
  have f_abs := He.free_ok S.kin S.G (S.c.facts (f := .free "abs") (List.mem_of_getElem? (i := 27) rfl))
  have nd := S_share.nd
  refine pm_of (d := dd "share" 4) (N := N_share) (ps := ["one", "under"]) S.kin S.G S.c (List.mem_of_getElem? (i := 0) rfl) (List.mem_of_getElem? (i := 0) rfl) rfl rfl rfl S_share (fun _ _ _ _ _ _ us hl => match us, hl with | [_, _], _ => rfl) fun A outer s H E hr tk po => ?_
  exact db_cons (ds_if (dt_cmp oEq_n (oEq_ok hr.units) (v_ 1) dp_int rfl) (db_cons (ds_raise (n := 1) rfl tk (pmk_own PySem.F.excBase_ValueError x_ShareError.1 g_ShareError x_ShareError.2.1 (raises_own x_ShareError.2.2.1 x_ShareError.2.2.2) rfl)) db_nil) db_nil) (db_cons (ds_par rfl nd rfl rfl (by decide) rfl rfl (da_cons (dp_bi bAbs_n bAbs_ok rfl f_abs boot_abs (da_cons (v_ 0) da_nil)) (da_cons (dp_bi bAbs_n bAbs_ok rfl f_abs boot_abs (da_cons (v_ 1) da_nil)) da_nil)) rfl) (db_cons (ds_wh (turnsOf 3) po (dt_cmp oNe_n (oNe_ok hr.units) (v_ 3) dp_int rfl) (db_cons (ds_par rfl nd rfl rfl (by decide) rfl rfl (da_cons (v_ 3) (da_cons (dp_bin oMod_n oMod_ok (v_ 2) (v_ 3)) da_nil)) rfl) db_nil)) (db_cons (ds_set nd rfl (loc_by rfl) (dp_if (dt_cmp oGt_n oGt_ok (v_ 1) dp_int rfl) dp_int (dp_bin oSub_n oSub_ok dp_int dp_int))) (db_cons (ds_ret (dp_tup (da_cons (dp_bin oDiv_n oDiv_ok (dp_bin oMul_n oMul_ok (v_ 4) (v_ 0)) (v_ 2)) (da_cons (dp_bin oDiv_n oDiv_ok (dp_bin oMul_n oMul_ok (v_ 4) (v_ 1)) (v_ 2)) da_nil)))) db_nil))))
def N_whole : List Str := ["number"]
theorem S_whole : FnScope N_whole ["number"] (defScope (top 5)) := ⟨rfl, rfl, rfl, by decide +kernel, rfl, by decide +kernel, by decide +kernel⟩
def B_whole : FS :=
  sSeq (sRt (fTup (fCons (fVar 0) (fCons (fC (.int 1)) fNil))))
  sNil
def F_whole : FN := runB 1 B_whole
theorem P_whole (S : Ctx P w K mg base) : Pm (cfg K) P w K mg base 2 "whole" 1 F_whole := by
  have nd := S_whole.nd
  refine pm_of (d := dd "whole" 5) (N := N_whole) (ps := ["number"]) S.kin S.G S.c (List.mem_of_getElem? (i := 1) rfl) (List.mem_of_getElem? (i := 1) rfl) rfl rfl rfl S_whole (fun _ _ _ _ _ _ us hl => match us, hl with | [_], _ => rfl) fun A outer s H E hr tk po => ?_
  exact db_cons (ds_ret (dp_tup (da_cons (v_ 0) (da_cons dp_int da_nil)))) db_nil
def N_plus : List Str := ["one", "other"]
theorem S_plus : FnScope N_plus ["one", "other"] (defScope (top 6)) := ⟨rfl, rfl, rfl, by decide +kernel, rfl, by decide +kernel, by decide +kernel⟩
def B_plus : FS :=
  sSeq (sRt (fCall F_share (fCons (fBin oAdd (fBin oMul (fBin oIx (fVar 0) (fC (.int 0))) (fBin oIx (fVar 1) (fC (.int 1)))) (fBin oMul (fBin oIx (fVar 1) (fC (.int 0))) (fBin oIx (fVar 0) (fC (.int 1))))) (fCons (fBin oMul (fBin oIx (fVar 0) (fC (.int 1))) (fBin oIx (fVar 1) (fC (.int 1)))) fNil))))
  sNil
def F_plus : FN := runB 2 B_plus
theorem P_plus (S : Ctx P w K mg base) : Pm (cfg K) P w K mg base 3 "plus" 2 F_plus := by
  have nd := S_plus.nd
  refine pm_of (d := dd "plus" 6) (N := N_plus) (ps := ["one", "other"]) S.kin S.G S.c (List.mem_of_getElem? (i := 2) rfl) (List.mem_of_getElem? (i := 2) rfl) rfl rfl rfl S_plus (fun _ _ _ _ _ _ us hl => match us, hl with | [_, _], _ => rfl) fun A outer s H E hr tk po => ?_
  exact db_cons (ds_ret (dp_cp (P_share S) hr (by omega) rfl tk rfl (fes_len_cons (fes_len_cons fes_len_nil)) (da_cons (dp_bin oAdd_n oAdd_ok (dp_bin oMul_n oMul_ok (dp_ix (v_ 0) dp_int (fun _ _ => rfl)) (dp_ix (v_ 1) dp_int (fun _ _ => rfl))) (dp_bin oMul_n oMul_ok (dp_ix (v_ 1) dp_int (fun _ _ => rfl)) (dp_ix (v_ 0) dp_int (fun _ _ => rfl)))) (da_cons (dp_bin oMul_n oMul_ok (dp_ix (v_ 0) dp_int (fun _ _ => rfl)) (dp_ix (v_ 1) dp_int (fun _ _ => rfl))) da_nil)))) db_nil
def N_minus : List Str := ["one", "other"]
theorem S_minus : FnScope N_minus ["one", "other"] (defScope (top 7)) := ⟨rfl, rfl, rfl, by decide +kernel, rfl, by decide +kernel, by decide +kernel⟩
def B_minus : FS :=
  sSeq (sRt (fCall F_share (fCons (fBin oSub (fBin oMul (fBin oIx (fVar 0) (fC (.int 0))) (fBin oIx (fVar 1) (fC (.int 1)))) (fBin oMul (fBin oIx (fVar 1) (fC (.int 0))) (fBin oIx (fVar 0) (fC (.int 1))))) (fCons (fBin oMul (fBin oIx (fVar 0) (fC (.int 1))) (fBin oIx (fVar 1) (fC (.int 1)))) fNil))))
  sNil
def F_minus : FN := runB 2 B_minus
theorem P_minus (S : Ctx P w K mg base) : Pm (cfg K) P w K mg base 3 "minus" 2 F_minus := by
  have nd := S_minus.nd
  refine pm_of (d := dd "minus" 7) (N := N_minus) (ps := ["one", "other"]) S.kin S.G S.c (List.mem_of_getElem? (i := 3) rfl) (List.mem_of_getElem? (i := 3) rfl) rfl rfl rfl S_minus (fun _ _ _ _ _ _ us hl => match us, hl with | [_, _], _ => rfl) fun A outer s H E hr tk po => ?_
  exact db_cons (ds_ret (dp_cp (P_share S) hr (by omega) rfl tk rfl (fes_len_cons (fes_len_cons fes_len_nil)) (da_cons (dp_bin oSub_n oSub_ok (dp_bin oMul_n oMul_ok (dp_ix (v_ 0) dp_int (fun _ _ => rfl)) (dp_ix (v_ 1) dp_int (fun _ _ => rfl))) (dp_bin oMul_n oMul_ok (dp_ix (v_ 1) dp_int (fun _ _ => rfl)) (dp_ix (v_ 0) dp_int (fun _ _ => rfl)))) (da_cons (dp_bin oMul_n oMul_ok (dp_ix (v_ 0) dp_int (fun _ _ => rfl)) (dp_ix (v_ 1) dp_int (fun _ _ => rfl))) da_nil)))) db_nil
def N_times : List Str := ["one", "other"]
theorem S_times : FnScope N_times ["one", "other"] (defScope (top 8)) := ⟨rfl, rfl, rfl, by decide +kernel, rfl, by decide +kernel, by decide +kernel⟩
def B_times : FS :=
  sSeq (sRt (fCall F_share (fCons (fBin oMul (fBin oIx (fVar 0) (fC (.int 0))) (fBin oIx (fVar 1) (fC (.int 0)))) (fCons (fBin oMul (fBin oIx (fVar 0) (fC (.int 1))) (fBin oIx (fVar 1) (fC (.int 1)))) fNil))))
  sNil
def F_times : FN := runB 2 B_times
theorem P_times (S : Ctx P w K mg base) : Pm (cfg K) P w K mg base 3 "times" 2 F_times := by
  have nd := S_times.nd
  refine pm_of (d := dd "times" 8) (N := N_times) (ps := ["one", "other"]) S.kin S.G S.c (List.mem_of_getElem? (i := 4) rfl) (List.mem_of_getElem? (i := 4) rfl) rfl rfl rfl S_times (fun _ _ _ _ _ _ us hl => match us, hl with | [_, _], _ => rfl) fun A outer s H E hr tk po => ?_
  exact db_cons (ds_ret (dp_cp (P_share S) hr (by omega) rfl tk rfl (fes_len_cons (fes_len_cons fes_len_nil)) (da_cons (dp_bin oMul_n oMul_ok (dp_ix (v_ 0) dp_int (fun _ _ => rfl)) (dp_ix (v_ 1) dp_int (fun _ _ => rfl))) (da_cons (dp_bin oMul_n oMul_ok (dp_ix (v_ 0) dp_int (fun _ _ => rfl)) (dp_ix (v_ 1) dp_int (fun _ _ => rfl))) da_nil)))) db_nil
def N_parted : List Str := ["one", "other"]
theorem S_parted : FnScope N_parted ["one", "other"] (defScope (top 9)) := ⟨rfl, rfl, rfl, by decide +kernel, rfl, by decide +kernel, by decide +kernel⟩
def B_parted : FS :=
  sSeq (sIf (fB (fBin oEq (fBin oIx (fVar 1) (fC (.int 0))) (fC (.int 0)))) (sSeq (sErr 1)
  sNil) sNil)
  (sSeq (sRt (fCall F_share (fCons (fBin oMul (fBin oIx (fVar 0) (fC (.int 0))) (fBin oIx (fVar 1) (fC (.int 1)))) (fCons (fBin oMul (fBin oIx (fVar 0) (fC (.int 1))) (fBin oIx (fVar 1) (fC (.int 0)))) fNil))))
  sNil)
def F_parted : FN := runB 2 B_parted
theorem P_parted (S : Ctx P w K mg base) : Pm (cfg K) P w K mg base 3 "parted" 2 F_parted := by
  have g_ShareError := He.glo_ok S.kin S.G (S.c.facts (f := .glo "ShareError") (List.mem_of_getElem? (i := 25) rfl))
  have x_ShareError := He.exc_ok (S.c.facts (f := .exc "ShareError") (List.mem_of_getElem? (i := 26) rfl))
  have nd := S_parted.nd
  refine pm_of (d := dd "parted" 9) (N := N_parted) (ps := ["one", "other"]) S.kin S.G S.c (List.mem_of_getElem? (i := 5) rfl) (List.mem_of_getElem? (i := 5) rfl) rfl rfl rfl S_parted (fun _ _ _ _ _ _ us hl => match us, hl with | [_, _], _ => rfl) fun A outer s H E hr tk po => ?_
  exact db_cons (ds_if (dt_cmp oEq_n (oEq_ok hr.units) (dp_ix (v_ 1) dp_int (fun _ _ => rfl)) dp_int rfl) (db_cons (ds_raise (n := 1) rfl tk (pmk_own PySem.F.excBase_ValueError x_ShareError.1 g_ShareError x_ShareError.2.1 (raises_own x_ShareError.2.2.1 x_ShareError.2.2.2) rfl)) db_nil) db_nil) (db_cons (ds_ret (dp_cp (P_share S) hr (by omega) rfl tk rfl (fes_len_cons (fes_len_cons fes_len_nil)) (da_cons (dp_bin oMul_n oMul_ok (dp_ix (v_ 0) dp_int (fun _ _ => rfl)) (dp_ix (v_ 1) dp_int (fun _ _ => rfl))) (da_cons (dp_bin oMul_n oMul_ok (dp_ix (v_ 0) dp_int (fun _ _ => rfl)) (dp_ix (v_ 1) dp_int (fun _ _ => rfl))) da_nil)))) db_nil)
def N_is_less : List Str := ["one", "other"]
theorem S_is_less : FnScope N_is_less ["one", "other"] (defScope (top 10)) := ⟨rfl, rfl, rfl, by decide +kernel, rfl, by decide +kernel, by decide +kernel⟩
def B_is_less : FS :=
  sSeq (sRt (fBin oLt (fBin oMul (fBin oIx (fVar 0) (fC (.int 0))) (fBin oIx (fVar 1) (fC (.int 1)))) (fBin oMul (fBin oIx (fVar 1) (fC (.int 0))) (fBin oIx (fVar 0) (fC (.int 1))))))
  sNil
def F_is_less : FN := runB 2 B_is_less
theorem P_is_less (S : Ctx P w K mg base) : Pm (cfg K) P w K mg base 2 "is_less" 2 F_is_less := by
  have nd := S_is_less.nd
  refine pm_of (d := dd "is_less" 10) (N := N_is_less) (ps := ["one", "other"]) S.kin S.G S.c (List.mem_of_getElem? (i := 6) rfl) (List.mem_of_getElem? (i := 6) rfl) rfl rfl rfl S_is_less (fun _ _ _ _ _ _ us hl => match us, hl with | [_, _], _ => rfl) fun A outer s H E hr tk po => ?_
  exact db_cons (ds_ret (dp_cmp oLt_n oLt_ok (dp_bin oMul_n oMul_ok (dp_ix (v_ 0) dp_int (fun _ _ => rfl)) (dp_ix (v_ 1) dp_int (fun _ _ => rfl))) (dp_bin oMul_n oMul_ok (dp_ix (v_ 1) dp_int (fun _ _ => rfl)) (dp_ix (v_ 0) dp_int (fun _ _ => rfl))) rfl)) db_nil
def N_below : List Str := ["one"]
theorem S_below : FnScope N_below ["one"] (defScope (top 11)) := ⟨rfl, rfl, rfl, by decide +kernel, rfl, by decide +kernel, by decide +kernel⟩
def B_below : FS :=
  sSeq (sRt (fBin oDiv (fBin oIx (fVar 0) (fC (.int 0))) (fBin oIx (fVar 0) (fC (.int 1)))))
  sNil
def F_below : FN := runB 1 B_below
theorem P_below (S : Ctx P w K mg base) : Pm (cfg K) P w K mg base 2 "below" 1 F_below := by
  have nd := S_below.nd
  refine pm_of (d := dd "below" 11) (N := N_below) (ps := ["one"]) S.kin S.G S.c (List.mem_of_getElem? (i := 7) rfl) (List.mem_of_getElem? (i := 7) rfl) rfl rfl rfl S_below (fun _ _ _ _ _ _ us hl => match us, hl with | [_], _ => rfl) fun A outer s H E hr tk po => ?_
  exact db_cons (ds_ret (dp_bin oDiv_n oDiv_ok (dp_ix (v_ 0) dp_int (fun _ _ => rfl)) (dp_ix (v_ 0) dp_int (fun _ _ => rfl)))) db_nil
def N_above : List Str := ["one"]
theorem S_above : FnScope N_above ["one"] (defScope (top 12)) := ⟨rfl, rfl, rfl, by decide +kernel, rfl, by decide +kernel, by decide +kernel⟩
def B_above : FS :=
  sSeq (sRt (fBin oSub (fC (.int 0)) (fBin oDiv (fBin oSub (fC (.int 0)) (fBin oIx (fVar 0) (fC (.int 0)))) (fBin oIx (fVar 0) (fC (.int 1))))))
  sNil
def F_above : FN := runB 1 B_above
theorem P_above (S : Ctx P w K mg base) : Pm (cfg K) P w K mg base 2 "above" 1 F_above := by
  have nd := S_above.nd
  refine pm_of (d := dd "above" 12) (N := N_above) (ps := ["one"]) S.kin S.G S.c (List.mem_of_getElem? (i := 8) rfl) (List.mem_of_getElem? (i := 8) rfl) rfl rfl rfl S_above (fun _ _ _ _ _ _ us hl => match us, hl with | [_], _ => rfl) fun A outer s H E hr tk po => ?_
  exact db_cons (ds_ret (dp_bin oSub_n oSub_ok dp_int (dp_bin oDiv_n oDiv_ok (dp_bin oSub_n oSub_ok dp_int (dp_ix (v_ 0) dp_int (fun _ _ => rfl))) (dp_ix (v_ 0) dp_int (fun _ _ => rfl))))) db_nil
def N_nearest : List Str := ["one"]
theorem S_nearest : FnScope N_nearest ["one"] (defScope (top 13)) := ⟨rfl, rfl, rfl, by decide +kernel, rfl, by decide +kernel, by decide +kernel⟩
def B_nearest : FS :=
  sSeq (sRt (fBin oDiv (fBin oAdd (fBin oMul (fC (.int 2)) (fBin oIx (fVar 0) (fC (.int 0)))) (fBin oIx (fVar 0) (fC (.int 1)))) (fBin oMul (fC (.int 2)) (fBin oIx (fVar 0) (fC (.int 1))))))
  sNil
def F_nearest : FN := runB 1 B_nearest
theorem P_nearest (S : Ctx P w K mg base) : Pm (cfg K) P w K mg base 2 "nearest" 1 F_nearest := by
  have nd := S_nearest.nd
  refine pm_of (d := dd "nearest" 13) (N := N_nearest) (ps := ["one"]) S.kin S.G S.c (List.mem_of_getElem? (i := 9) rfl) (List.mem_of_getElem? (i := 9) rfl) rfl rfl rfl S_nearest (fun _ _ _ _ _ _ us hl => match us, hl with | [_], _ => rfl) fun A outer s H E hr tk po => ?_
  exact db_cons (ds_ret (dp_bin oDiv_n oDiv_ok (dp_bin oAdd_n oAdd_ok (dp_bin oMul_n oMul_ok dp_int (dp_ix (v_ 0) dp_int (fun _ _ => rfl))) (dp_ix (v_ 0) dp_int (fun _ _ => rfl))) (dp_bin oMul_n oMul_ok dp_int (dp_ix (v_ 0) dp_int (fun _ _ => rfl))))) db_nil
def N_sum_of : List Str := ["rows", "found", "one"]
theorem S_sum_of : FnScope N_sum_of ["rows"] (defScope (top 14)) := ⟨rfl, rfl, rfl, by decide +kernel, rfl, by decide +kernel, by decide +kernel⟩
def B_sum_of : FS :=
  sSeq (sAsg (fTup (fCons (fC (.int 0)) (fCons (fC (.int 1)) fNil))) (gNm 1))
  (sSeq (sFor (iSeq (fVar 0)) (gNm 2) (sSeq (sAsg (fCall F_plus (fCons (fVar 1) (fCons (fVar 2) fNil))) (gNm 1))
  sNil))
  (sSeq (sRt (fVar 1))
  sNil))
def F_sum_of : FN := runB 3 B_sum_of
theorem P_sum_of (S : Ctx P w K mg base) : Pm (cfg K) P w K mg base 4 "sum_of" 1 F_sum_of := by
  have nd := S_sum_of.nd
  refine pm_of (d := dd "sum_of" 14) (N := N_sum_of) (ps := ["rows"]) S.kin S.G S.c (List.mem_of_getElem? (i := 10) rfl) (List.mem_of_getElem? (i := 10) rfl) rfl rfl rfl S_sum_of (fun _ _ _ _ _ _ us hl => match us, hl with | [_], _ => rfl) fun A outer s H E hr tk po => ?_
  exact db_cons (ds_set nd rfl (loc_by rfl) (dp_tup (da_cons dp_int (da_cons dp_int da_nil)))) (db_cons (ds_for po rfl (di_seq (v_ 0)) (g_ 2 nd) (db_cons (ds_set nd rfl (loc_by rfl) (dp_cp (P_plus S) hr (by omega) rfl tk rfl (fes_len_cons (fes_len_cons fes_len_nil)) (da_cons (v_ 1) (da_cons (v_ 2) da_nil)))) db_nil)) (db_cons (ds_ret (v_ 1)) db_nil))
def N_told_share : List Str := ["one"]
theorem S_told_share : FnScope N_told_share ["one"] (defScope (top 15)) := ⟨rfl, rfl, rfl, by decide +kernel, rfl, by decide +kernel, by decide +kernel⟩
def B_told_share : FS :=
  sSeq (sRt (fBin oAdd (fFmt (fBin oIx (fVar 0) (fC (.int 0)))) (fIf (fB (fBin oNe (fBin oIx (fVar 0) (fC (.int 1))) (fC (.int 1)))) (fJs [fC (.str ":"), fFmt (fBin oIx (fVar 0) (fC (.int 1)))] Str.empty) (fC (.str "")))))
  sNil
def F_told_share : FN := runB 1 B_told_share
theorem P_told_share (S : Ctx P w K mg base) : Pm (cfg K) P w K mg base 2 "told_share" 1 F_told_share := by
  have nd := S_told_share.nd
  refine pm_of (d := dd "told_share" 15) (N := N_told_share) (ps := ["one"]) S.kin S.G S.c (List.mem_of_getElem? (i := 11) rfl) (List.mem_of_getElem? (i := 11) rfl) rfl rfl rfl S_told_share (fun _ _ _ _ _ _ us hl => match us, hl with | [_], _ => rfl) fun A outer s H E hr tk po => ?_
  exact db_cons (ds_ret (dp_bin oAdd_n oAdd_ok (dp_joined1 (dp_fmt (dp_ix (v_ 0) dp_int (fun _ _ => rfl)))) (dp_if (dt_cmp oNe_n (oNe_ok hr.units) (dp_ix (v_ 0) dp_int (fun _ _ => rfl)) dp_int rfl) (dp_joined (DJ.cons dp_str (DJ.cons (dp_fmt (dp_ix (v_ 0) dp_int (fun _ _ => rfl))) (DJ.nil)))) dp_str))) db_nil
def N_split : List Str := ["number", "parts", "all_parts", "found", "part", "rests", "place", "rest"]
theorem S_split : FnScope N_split ["number", "parts"] (defScope (top 16)) := ⟨rfl, rfl, rfl, by decide +kernel, rfl, by decide +kernel, by decide +kernel⟩
def B_split : FS :=
  sSeq (sIf (fOr (fB (fBin oEq (fBi bLen (fCons (fVar 1) fNil)) (fC (.int 0)))) (fOr (fB (fBin oLt (fBi bMinS (fCons (fVar 1) fNil)) (fC (.int 0)))) (fOr (fB (fBin oEq (fBi bSumS (fCons (fVar 1) fNil)) (fC (.int 0)))) (fB (fBin oLt (fVar 0) (fC (.int 0))))))) (sSeq (sErr 1)
  sNil) sNil)
  (sSeq (sAsg (fBi bSumS (fCons (fVar 1) fNil)) (gNm 2))
  (sSeq (sAsg (fLcM [4] (iSeq (fVar 1)) (gNm 4) fYes (fBin oDiv (fBin oMul (fVar 0) (fVar 4)) (fVar 2))) (gNm 3))
  (sSeq (sAsg (fGn stpAll kSrt [6, 4] (iRng enmA (fCons (fVar 1) fNil)) (gTp 2 (gsCons (gNm 6) (gsCons (gNm 4) gsNil))) fYes (fTup (fCons (fBin oSub (fC (.int 0)) (fBin oMod (fBin oMul (fVar 0) (fVar 4)) (fVar 2))) (fCons (fVar 6) fNil)))) (gNm 5))
  (sSeq (sFor (iSeq (fSl (fVar 5) fNo (fSo (fBin oSub (fVar 0) (fBi bSumS (fCons (fVar 3) fNil)))))) (gTp 2 (gsCons (gNm 7) (gsCons (gNm 6) gsNil))) (sSeq (sAugS (fVar 3) (fVar 6) oAddI (fC (.int 1)))
  sNil))
  (sSeq (sRt (fBi bTuple (fCons (fVar 3) fNil)))
  sNil)))))
def F_split : FN := runB 8 B_split
theorem P_split (S : Ctx P w K mg base) : Pm (cfg K) P w K mg base 4 "split" 2 F_split := by
  have f_len := He.free_ok S.kin S.G (S.c.facts (f := .free "len") (List.mem_of_getElem? (i := 28) rfl))
  have f_min := He.free_ok S.kin S.G (S.c.facts (f := .free "min") (List.mem_of_getElem? (i := 29) rfl))
  have f_sum := He.free_ok S.kin S.G (S.c.facts (f := .free "sum") (List.mem_of_getElem? (i := 30) rfl))
  have g_ShareError := He.glo_ok S.kin S.G (S.c.facts (f := .glo "ShareError") (List.mem_of_getElem? (i := 25) rfl))
  have x_ShareError := He.exc_ok (S.c.facts (f := .exc "ShareError") (List.mem_of_getElem? (i := 26) rfl))
  have f_enumerate := He.free_ok S.kin S.G (S.c.facts (f := .free "enumerate") (List.mem_of_getElem? (i := 31) rfl))
  have f_sorted := He.free_ok S.kin S.G (S.c.facts (f := .free "sorted") (List.mem_of_getElem? (i := 32) rfl))
  have f_tuple := He.free_ok S.kin S.G (S.c.facts (f := .free "tuple") (List.mem_of_getElem? (i := 33) rfl))
  have tabG := fun S : Ctx P w K mg base => tab_split_genexpr S
  have nd := S_split.nd
  refine pm_of (d := dd "split" 16) (N := N_split) (ps := ["number", "parts"]) S.kin S.G S.c (List.mem_of_getElem? (i := 12) rfl) (List.mem_of_getElem? (i := 12) rfl) rfl rfl rfl S_split (fun _ _ _ _ _ _ us hl => match us, hl with | [_, _], _ => rfl) fun A outer s H E hr tk po => ?_
  exact db_cons (ds_if (dt_w (dw_or (dt_cmp oEq_n (oEq_ok hr.units) (dp_bi bLen_n bLen_ok rfl f_len boot_len (da_cons (v_ 1) da_nil)) dp_int rfl) (dw_or (dt_cmp oLt_n oLt_ok (dp_bi bMinS_n (bMinS_ok rfl) rfl f_min boot_min (da_cons (v_ 1) da_nil)) dp_int rfl) (dw_or (dt_cmp oEq_n (oEq_ok hr.units) (dp_bi bSumS_n (bSumS_ok rfl) rfl f_sum boot_sum (da_cons (v_ 1) da_nil)) dp_int rfl) (dw_or1 (dt_cmp oLt_n oLt_ok (v_ 0) dp_int rfl)))))) (db_cons (ds_raise (n := 1) rfl tk (pmk_own PySem.F.excBase_ValueError x_ShareError.1 g_ShareError x_ShareError.2.1 (raises_own x_ShareError.2.2.1 x_ShareError.2.2.2) rfl)) db_nil) db_nil) (db_cons (ds_set nd rfl (loc_by rfl) (dp_bi bSumS_n (bSumS_ok rfl) rfl f_sum boot_sum (da_cons (v_ 1) da_nil))) (db_cons (slcM_ (own := [("part", 4)]) rfl rfl nd rfl rfl rfl (di_seq (v_ 1)) rfl (by decide) (fun _ _ _ _ _ => g_ 4 nd) (fun _ _ _ _ _ => dts_nil) (fun _ _ _ _ _ => dp_bin oDiv_n oDiv_ok (dp_bin oMul_n oMul_ok (v_ 0) (v_ 4)) (v_ 2))) (db_cons (ds_set nd rfl (loc_by rfl) (genB_ (k := 0) (own := [("place", 6), ("part", 4)]) rfl rfl f_sorted boot_sorted sorted_cons (gok_ (tabG S) rfl hr (by omega) nd rfl (by decide) (by decide +kernel) rfl rfl (fun _ => rfl) (di_enumA rfl f_enumerate (da_cons (v_ 1) da_nil)) (fun _ _ _ _ _ _ _ hr' => dg_tup rfl (dgs_cons (g_ 6 nd) (dgs_cons (g_ 4 nd) dgs_nil))) (fun _ _ _ _ _ _ _ hr' => dts_nil) (fun _ _ _ _ _ _ _ hr' => dp_tup (da_cons (dp_bin oSub_n oSub_ok dp_int (dp_bin oMod_n oMod_ok (dp_bin oMul_n oMul_ok (v_ 0) (v_ 4)) (v_ 2))) (da_cons (v_ 6) da_nil)))))) (db_cons (ds_for po rfl (di_seq (dp_sl (v_ 5) do_no (do_so (dp_bin oSub_n oSub_ok (v_ 0) (dp_bi bSumS_n (bSumS_ok rfl) rfl f_sum boot_sum (da_cons (v_ 3) da_nil)))))) (dg_tup rfl (dgs_cons (g_ 7 nd) (dgs_cons (g_ 6 nd) dgs_nil))) (db_cons (ds_augS (v_ 3) (v_ 6) dp_int oAddI_n oAddI_ok) db_nil)) (db_cons (ds_ret (dp_bt bTuple_n bTuple_ok rfl f_tuple boot_tuple (da_cons (v_ 3) da_nil))) db_nil)))))
def N__law_dice : List Str := ["cell"]
theorem S__law_dice : FnScope N__law_dice ["cell"] (defScope (top 18)) := ⟨rfl, rfl, rfl, by decide +kernel, rfl, by decide +kernel, by decide +kernel⟩
def B__law_dice : FS :=
  sSeq (sIf (fB (fCh oLt oLt (fBin oSub (fC (.int 0)) (fC (.int 10))) (fVar 0) (fC (.int 10)))) (sSeq (sRt (fMut (fCons (fBi bAbs (fCons (fVar 0) fNil)) (fCons (fC (.int 0)) (fCons (fC (.int 2)) fNil)))))
  sNil) sNil)
  (sSeq (sRt (fMut (fCons (fVar 0) (fCons (fBin oAdd (fC (.int 1)) (fBin oMod (fBi bInt (fCons (fVar 0) fNil)) (fC (.int 1009)))) (fCons (fBi bInt (fCons (fBin oGe (fVar 0) (fBin oPow (fC (.int 10)) (fC (.int 18)))) fNil)) fNil)))))
  sNil)
def F__law_dice : FN := runB 1 B__law_dice
theorem P__law_dice (S : Ctx P w K mg base) : Pm (cfg K) P w K mg base 2 "_law_dice" 1 F__law_dice := by
  have f_abs := He.free_ok S.kin S.G (S.c.facts (f := .free "abs") (List.mem_of_getElem? (i := 27) rfl))
  have f_int := He.free_ok S.kin S.G (S.c.facts (f := .free "int") (List.mem_of_getElem? (i := 34) rfl))
  have nd := S__law_dice.nd
  refine pm_of (d := dd "_law_dice" 18) (N := N__law_dice) (ps := ["cell"]) S.kin S.G S.c (List.mem_of_getElem? (i := 13) rfl) (List.mem_of_getElem? (i := 13) rfl) rfl rfl rfl S__law_dice (fun _ _ _ _ _ _ us hl => match us, hl with | [_], _ => rfl) fun A outer s H E hr tk po => ?_
  exact db_cons (ds_if (dt_ch oLt_n oLt_n oLt_ok oLt_ok (dp_bin oSub_n oSub_ok dp_int dp_int) (v_ 0) dp_int) (db_cons (ds_ret (dp_mut (da_cons (dp_bi bAbs_n bAbs_ok rfl f_abs boot_abs (da_cons (v_ 0) da_nil)) (da_cons dp_int (da_cons dp_int da_nil))))) db_nil) db_nil) (db_cons (ds_ret (dp_mut (da_cons (v_ 0) (da_cons (dp_bin oAdd_n oAdd_ok dp_int (dp_bin oMod_n oMod_ok (dp_bt bInt_n bInt_ok rfl f_int boot_int (da_cons (v_ 0) da_nil)) dp_int)) (da_cons (dp_bt bInt_n bInt_ok rfl f_int boot_int (da_cons (dp_cmp oGe_n oGe_ok (v_ 0) (dp_bin oPow_n oPow_ok dp_int dp_int) rfl) da_nil)) da_nil))))) db_nil)
def N__law_roll : List Str := ["dice", "many", "found"]
theorem S__law_roll : FnScope N__law_roll ["dice", "many"] (defScope (top 19)) := ⟨rfl, rfl, rfl, by decide +kernel, rfl, by decide +kernel, by decide +kernel⟩
def B__law_roll (self : FN) : FS :=
  sSeq (sIf (fOr (fB (fBin oEq (fBin oIx (fVar 0) (fC (.int 2))) (fC (.int 2)))) (fAnd (fB (fBin oEq (fBin oIx (fVar 0) (fC (.int 2))) (fC (.int 1)))) (fB (fBin oGt (fBin oIx (fVar 0) (fC (.int 0))) (fC (.int 0)))))) (sSeq (sAsg (fBin oMod (fBi bInt (fCons (fBin oIx (fVar 0) (fC (.int 0))) fNil)) (fVar 1)) (gNm 2))
  (sSeq (sAsg (fBin oDiv (fBin oIx (fVar 0) (fC (.int 0))) (fVar 1)) (gSb (fVar 0) (fC (.int 0))))
  (sSeq (sRt (fVar 2))
  sNil))) sNil)
  (sSeq (sAsg (fC (.int 0)) (gSb (fVar 0) (fC (.int 2))))
  (sSeq (sIf (fB (fBin oGt (fVar 1) (fC (.int 100000000)))) (sSeq (sRt (fBin oMod (fBi bInt (fCons (fBin oAdd (fBin oMul (fCall self (fCons (fVar 0) (fCons (fBin oAdd (fBin oDiv (fVar 1) (fC (.int 100000000))) (fC (.int 1))) fNil))) (fC (.int 100000000))) (fCall self (fCons (fVar 0) (fCons (fC (.int 100000000)) fNil)))) fNil)) (fVar 1)))
  sNil) sNil)
  (sSeq (sAsg (fBin oMod (fBi bInt (fCons (fBin oAdd (fBin oAdd (fBin oMul (fBin oIx (fVar 0) (fC (.int 0))) (fC (.int 48271))) (fBin oMul (fBin oIx (fVar 0) (fC (.int 1))) (fC (.int 69621)))) (fC (.int 11))) fNil)) (fC (.int 2147483647))) (gSb (fVar 0) (fC (.int 0))))
  (sSeq (sAsg (fBin oAdd (fBin oIx (fVar 0) (fC (.int 1))) (fC (.int 1))) (gSb (fVar 0) (fC (.int 1))))
  (sSeq (sRt (fBin oMod (fBi bInt (fCons (fBin oDiv (fBin oIx (fVar 0) (fC (.int 0))) (fC (.int 7))) fNil)) (fVar 1)))
  sNil)))))
def F__law_roll : Nat → FN
  | 0 => runB 3 fun _ _ => .stuck
  | n + 1 => runB 3 (B__law_roll (F__law_roll n))
theorem P__law_roll (S : Ctx P w K mg base) : ∀ n, Pm (cfg K) P w K mg base (2 + n) "_law_roll" 2 (F__law_roll n) := by
  intro n
  have f_int := He.free_ok S.kin S.G (S.c.facts (f := .free "int") (List.mem_of_getElem? (i := 34) rfl))
  have nd := S__law_roll.nd
  induction n with
  | zero =>
    refine pm_of (d := dd "_law_roll" 19) (N := N__law_roll) (ps := ["dice", "many"]) S.kin S.G S.c (List.mem_of_getElem? (i := 14) rfl) (List.mem_of_getElem? (i := 14) rfl) rfl rfl rfl S__law_roll (fun _ _ _ _ _ _ us hl => match us, hl with | [_, _], _ => rfl) fun A outer s H E hr tk po => ?_
    exact db_stuck
  | succ n ih =>
    refine pm_of (d := dd "_law_roll" 19) (N := N__law_roll) (ps := ["dice", "many"]) S.kin S.G S.c (List.mem_of_getElem? (i := 14) rfl) (List.mem_of_getElem? (i := 14) rfl) rfl rfl rfl S__law_roll (fun _ _ _ _ _ _ us hl => match us, hl with | [_, _], _ => rfl) fun A outer s H E hr tk po => ?_
    have hr : Room (2 + n) (A.deeper (envOfC "_law_roll" (defScope (top 19)) s.heap.objs.size (He.fAd K ("_law_roll", none)) (.ref (He.codeOf K ("_law_roll", none))))) := hr
    exact db_cons (ds_if (dt_w (dw_or (dt_cmp oEq_n (oEq_ok hr.units) (dp_ix (v_ 0) dp_int (fun _ _ => rfl)) dp_int rfl) (dw_or1 (dt_w (dw_and (dt_cmp oEq_n (oEq_ok hr.units) (dp_ix (v_ 0) dp_int (fun _ _ => rfl)) dp_int rfl) (dw_and1 (dt_cmp oGt_n oGt_ok (dp_ix (v_ 0) dp_int (fun _ _ => rfl)) dp_int rfl))))))) (db_cons (ds_set nd rfl (loc_by rfl) (dp_bin oMod_n oMod_ok (dp_bt bInt_n bInt_ok rfl f_int boot_int (da_cons (dp_ix (v_ 0) dp_int (fun _ _ => rfl)) da_nil)) (v_ 1))) (db_cons (ds_asg (dp_bin oDiv_n oDiv_ok (dp_ix (v_ 0) dp_int (fun _ _ => rfl)) (v_ 1)) (dg_sub (v_ 0) dp_int (fun _ => rfl))) (db_cons (ds_ret (v_ 2)) db_nil))) db_nil) (db_cons (ds_asg dp_int (dg_sub (v_ 0) dp_int (fun _ => rfl))) (db_cons (ds_if (dt_cmp oGt_n oGt_ok (v_ 1) dp_int rfl) (db_cons (ds_ret (dp_bin oMod_n oMod_ok (dp_bt bInt_n bInt_ok rfl f_int boot_int (da_cons (dp_bin oAdd_n oAdd_ok (dp_bin oMul_n oMul_ok (dp_cp ih hr (by omega) rfl tk rfl (fes_len_cons (fes_len_cons fes_len_nil)) (da_cons (v_ 0) (da_cons (dp_bin oAdd_n oAdd_ok (dp_bin oDiv_n oDiv_ok (v_ 1) dp_int) dp_int) da_nil))) dp_int) (dp_cp ih hr (by omega) rfl tk rfl (fes_len_cons (fes_len_cons fes_len_nil)) (da_cons (v_ 0) (da_cons dp_int da_nil)))) da_nil)) (v_ 1))) db_nil) db_nil) (db_cons (ds_asg (dp_bin oMod_n oMod_ok (dp_bt bInt_n bInt_ok rfl f_int boot_int (da_cons (dp_bin oAdd_n oAdd_ok (dp_bin oAdd_n oAdd_ok (dp_bin oMul_n oMul_ok (dp_ix (v_ 0) dp_int (fun _ _ => rfl)) dp_int) (dp_bin oMul_n oMul_ok (dp_ix (v_ 0) dp_int (fun _ _ => rfl)) dp_int)) dp_int) da_nil)) dp_int) (dg_sub (v_ 0) dp_int (fun _ => rfl))) (db_cons (ds_asg (dp_bin oAdd_n oAdd_ok (dp_ix (v_ 0) dp_int (fun _ _ => rfl)) dp_int) (dg_sub (v_ 0) dp_int (fun _ => rfl))) (db_cons (ds_ret (dp_bin oMod_n oMod_ok (dp_bt bInt_n bInt_ok rfl f_int boot_int (da_cons (dp_bin oDiv_n oDiv_ok (dp_ix (v_ 0) dp_int (fun _ _ => rfl)) dp_int) da_nil)) (v_ 1))) db_nil)))))
def N__law_rounds : List Str := ["script", "most", "cells", "cell"]
theorem S__law_rounds : FnScope N__law_rounds ["script", "most"] (defScope (top 20)) := ⟨rfl, rfl, rfl, by decide +kernel, rfl, by decide +kernel, by decide +kernel⟩
def B__law_rounds : FS :=
  sSeq (sAsg (fSl (fVar 0) fNo (fSo (fVar 1))) (gNm 2))
  (sSeq (sIf (fB (fBin oEq (fVar 2) (fLst fNil))) (sSeq (sAsg (fLst (fCons (fC (.int 0)) fNil)) (gNm 2))
  sNil) sNil)
  (sSeq (sRt (fLc [3] (iSeq (fVar 2)) (gNm 3) fYes (fCall F__law_dice (fCons (fVar 3) fNil))))
  sNil))
def F__law_rounds : FN := runB 4 B__law_rounds
theorem P__law_rounds (S : Ctx P w K mg base) : Pm (cfg K) P w K mg base 3 "_law_rounds" 2 F__law_rounds := by
  have nd := S__law_rounds.nd
  refine pm_of (d := dd "_law_rounds" 20) (N := N__law_rounds) (ps := ["script", "most"]) S.kin S.G S.c (List.mem_of_getElem? (i := 15) rfl) (List.mem_of_getElem? (i := 15) rfl) rfl rfl rfl S__law_rounds (fun _ _ _ _ _ _ us hl => match us, hl with | [_, _], _ => rfl) fun A outer s H E hr tk po => ?_
  exact db_cons (ds_set nd rfl (loc_by rfl) (dp_sl (v_ 0) do_no (do_so (v_ 1)))) (db_cons (ds_if (dt_cmp oEq_n (oEq_ok hr.units) (v_ 2) (dp_lst da_nil) rfl) (db_cons (ds_set nd rfl (loc_by rfl) (dp_lst (da_cons dp_int da_nil))) db_nil) db_nil) (db_cons (ds_ret (lc_ (own := [("cell", 3)]) rfl rfl nd (di_seq (v_ 2)) rfl (by decide) (fun _ _ _ _ _ => g_ 3 nd) (fun _ _ _ _ _ => dts_nil) (fun _ _ _ _ _ => dp_cp (P__law_dice S) hr (by omega) rfl takes0 rfl (fes_len_cons fes_len_nil) (da_cons (v_ 3) da_nil)))) db_nil))
def N__law_gcd : List Str := ["one", "other"]
theorem S__law_gcd : FnScope N__law_gcd ["one", "other"] (defScope (top 22)) := ⟨rfl, rfl, rfl, by decide +kernel, rfl, by decide +kernel, by decide +kernel⟩
def B__law_gcd (self : FN) : FS :=
  sSeq (sRt (fIf (fB (fBin oEq (fVar 1) (fC (.int 0)))) (fVar 0) (fCall self (fCons (fVar 1) (fCons (fBin oMod (fVar 0) (fVar 1)) fNil)))))
  sNil
def F__law_gcd : Nat → FN
  | 0 => runB 2 fun _ _ => .stuck
  | n + 1 => runB 2 (B__law_gcd (F__law_gcd n))
theorem P__law_gcd (S : Ctx P w K mg base) : ∀ n, Pm (cfg K) P w K mg base (2 + n) "_law_gcd" 2 (F__law_gcd n) := by
  intro n
  have nd := S__law_gcd.nd
  induction n with
  | zero =>
    refine pm_of (d := dd "_law_gcd" 22) (N := N__law_gcd) (ps := ["one", "other"]) S.kin S.G S.c (List.mem_of_getElem? (i := 17) rfl) (List.mem_of_getElem? (i := 17) rfl) rfl rfl rfl S__law_gcd (fun _ _ _ _ _ _ us hl => match us, hl with | [_, _], _ => rfl) fun A outer s H E hr tk po => ?_
    exact db_stuck
  | succ n ih =>
    refine pm_of (d := dd "_law_gcd" 22) (N := N__law_gcd) (ps := ["one", "other"]) S.kin S.G S.c (List.mem_of_getElem? (i := 17) rfl) (List.mem_of_getElem? (i := 17) rfl) rfl rfl rfl S__law_gcd (fun _ _ _ _ _ _ us hl => match us, hl with | [_, _], _ => rfl) fun A outer s H E hr tk po => ?_
    have hr : Room (2 + n) (A.deeper (envOfC "_law_gcd" (defScope (top 22)) s.heap.objs.size (He.fAd K ("_law_gcd", none)) (.ref (He.codeOf K ("_law_gcd", none))))) := hr
    exact db_cons (ds_ret (dp_if (dt_cmp oEq_n (oEq_ok hr.units) (v_ 1) dp_int rfl) (v_ 0) (dp_cp ih hr (by omega) rfl tk rfl (fes_len_cons (fes_len_cons fes_len_nil)) (da_cons (v_ 1) (da_cons (dp_bin oMod_n oMod_ok (v_ 0) (v_ 1)) da_nil))))) db_nil
def N__law_share : List Str := ["one", "under", "sign", "both"]
theorem S__law_share : FnScope N__law_share ["one", "under"] (defScope (top 23)) := ⟨rfl, rfl, rfl, by decide +kernel, rfl, by decide +kernel, by decide +kernel⟩
def B__law_share : FS :=
  sSeq (sAsg (fIf (fB (fBin oLt (fVar 1) (fC (.int 0)))) (fNeg (fC (.int 1))) (fC (.int 1))) (gNm 2))
  (sSeq (sAsg (fCall (F__law_gcd 60) (fCons (fBi bAbs (fCons (fVar 0) fNil)) (fCons (fBi bAbs (fCons (fVar 1) fNil)) fNil))) (gNm 3))
  (sSeq (sRt (fTup (fCons (fBin oDiv (fBin oMul (fVar 2) (fVar 0)) (fVar 3)) (fCons (fBin oDiv (fBin oMul (fVar 2) (fVar 1)) (fVar 3)) fNil))))
  sNil))
def F__law_share : FN := runB 4 B__law_share
theorem P__law_share (S : Ctx P w K mg base) : Pm (cfg K) P w K mg base 63 "_law_share" 2 F__law_share := by
  have f_abs := He.free_ok S.kin S.G (S.c.facts (f := .free "abs") (List.mem_of_getElem? (i := 27) rfl))
  have nd := S__law_share.nd
  refine pm_of (d := dd "_law_share" 23) (N := N__law_share) (ps := ["one", "under"]) S.kin S.G S.c (List.mem_of_getElem? (i := 18) rfl) (List.mem_of_getElem? (i := 18) rfl) rfl rfl rfl S__law_share (fun _ _ _ _ _ _ us hl => match us, hl with | [_, _], _ => rfl) fun A outer s H E hr tk po => ?_
  exact db_cons (ds_set nd rfl (loc_by rfl) (dp_if (dt_cmp oLt_n oLt_ok (v_ 1) dp_int rfl) (dp_neg dp_int) dp_int)) (db_cons (ds_set nd rfl (loc_by rfl) (dp_cp (P__law_gcd S 60) hr (by omega) rfl tk rfl (fes_len_cons (fes_len_cons fes_len_nil)) (da_cons (dp_bi bAbs_n bAbs_ok rfl f_abs boot_abs (da_cons (v_ 0) da_nil)) (da_cons (dp_bi bAbs_n bAbs_ok rfl f_abs boot_abs (da_cons (v_ 1) da_nil)) da_nil)))) (db_cons (ds_ret (dp_tup (da_cons (dp_bin oDiv_n oDiv_ok (dp_bin oMul_n oMul_ok (v_ 2) (v_ 0)) (v_ 3)) (da_cons (dp_bin oDiv_n oDiv_ok (dp_bin oMul_n oMul_ok (v_ 2) (v_ 1)) (v_ 3)) da_nil)))) db_nil))
def N__law_add : List Str := ["one", "other"]
theorem S__law_add : FnScope N__law_add ["one", "other"] (defScope (top 24)) := ⟨rfl, rfl, rfl, by decide +kernel, rfl, by decide +kernel, by decide +kernel⟩
def B__law_add : FS :=
  sSeq (sRt (fCall F__law_share (fCons (fBin oAdd (fBin oMul (fBin oIx (fVar 0) (fC (.int 0))) (fBin oIx (fVar 1) (fC (.int 1)))) (fBin oMul (fBin oIx (fVar 1) (fC (.int 0))) (fBin oIx (fVar 0) (fC (.int 1))))) (fCons (fBin oMul (fBin oIx (fVar 0) (fC (.int 1))) (fBin oIx (fVar 1) (fC (.int 1)))) fNil))))
  sNil
def F__law_add : FN := runB 2 B__law_add
theorem P__law_add (S : Ctx P w K mg base) : Pm (cfg K) P w K mg base 64 "_law_add" 2 F__law_add := by
  have nd := S__law_add.nd
  refine pm_of (d := dd "_law_add" 24) (N := N__law_add) (ps := ["one", "other"]) S.kin S.G S.c (List.mem_of_getElem? (i := 19) rfl) (List.mem_of_getElem? (i := 19) rfl) rfl rfl rfl S__law_add (fun _ _ _ _ _ _ us hl => match us, hl with | [_, _], _ => rfl) fun A outer s H E hr tk po => ?_
  exact db_cons (ds_ret (dp_cp (P__law_share S) hr (by omega) rfl tk rfl (fes_len_cons (fes_len_cons fes_len_nil)) (da_cons (dp_bin oAdd_n oAdd_ok (dp_bin oMul_n oMul_ok (dp_ix (v_ 0) dp_int (fun _ _ => rfl)) (dp_ix (v_ 1) dp_int (fun _ _ => rfl))) (dp_bin oMul_n oMul_ok (dp_ix (v_ 1) dp_int (fun _ _ => rfl)) (dp_ix (v_ 0) dp_int (fun _ _ => rfl)))) (da_cons (dp_bin oMul_n oMul_ok (dp_ix (v_ 0) dp_int (fun _ _ => rfl)) (dp_ix (v_ 1) dp_int (fun _ _ => rfl))) da_nil)))) db_nil
def N__law_mul : List Str := ["one", "other"]
theorem S__law_mul : FnScope N__law_mul ["one", "other"] (defScope (top 25)) := ⟨rfl, rfl, rfl, by decide +kernel, rfl, by decide +kernel, by decide +kernel⟩
def B__law_mul : FS :=
  sSeq (sRt (fCall F__law_share (fCons (fBin oMul (fBin oIx (fVar 0) (fC (.int 0))) (fBin oIx (fVar 1) (fC (.int 0)))) (fCons (fBin oMul (fBin oIx (fVar 0) (fC (.int 1))) (fBin oIx (fVar 1) (fC (.int 1)))) fNil))))
  sNil
def F__law_mul : FN := runB 2 B__law_mul
theorem P__law_mul (S : Ctx P w K mg base) : Pm (cfg K) P w K mg base 64 "_law_mul" 2 F__law_mul := by
  have nd := S__law_mul.nd
  refine pm_of (d := dd "_law_mul" 25) (N := N__law_mul) (ps := ["one", "other"]) S.kin S.G S.c (List.mem_of_getElem? (i := 20) rfl) (List.mem_of_getElem? (i := 20) rfl) rfl rfl rfl S__law_mul (fun _ _ _ _ _ _ us hl => match us, hl with | [_, _], _ => rfl) fun A outer s H E hr tk po => ?_
  exact db_cons (ds_ret (dp_cp (P__law_share S) hr (by omega) rfl tk rfl (fes_len_cons (fes_len_cons fes_len_nil)) (da_cons (dp_bin oMul_n oMul_ok (dp_ix (v_ 0) dp_int (fun _ _ => rfl)) (dp_ix (v_ 1) dp_int (fun _ _ => rfl))) (da_cons (dp_bin oMul_n oMul_ok (dp_ix (v_ 0) dp_int (fun _ _ => rfl)) (dp_ix (v_ 1) dp_int (fun _ _ => rfl))) da_nil)))) db_nil
def N__law_less : List Str := ["one", "other"]
theorem S__law_less : FnScope N__law_less ["one", "other"] (defScope (top 26)) := ⟨rfl, rfl, rfl, by decide +kernel, rfl, by decide +kernel, by decide +kernel⟩
def B__law_less : FS :=
  sSeq (sRt (fBin oLt (fBin oMul (fBin oIx (fVar 0) (fC (.int 0))) (fBin oIx (fVar 1) (fC (.int 1)))) (fBin oMul (fBin oIx (fVar 1) (fC (.int 0))) (fBin oIx (fVar 0) (fC (.int 1))))))
  sNil
def F__law_less : FN := runB 2 B__law_less
theorem P__law_less (S : Ctx P w K mg base) : Pm (cfg K) P w K mg base 2 "_law_less" 2 F__law_less := by
  have nd := S__law_less.nd
  refine pm_of (d := dd "_law_less" 26) (N := N__law_less) (ps := ["one", "other"]) S.kin S.G S.c (List.mem_of_getElem? (i := 21) rfl) (List.mem_of_getElem? (i := 21) rfl) rfl rfl rfl S__law_less (fun _ _ _ _ _ _ us hl => match us, hl with | [_, _], _ => rfl) fun A outer s H E hr tk po => ?_
  exact db_cons (ds_ret (dp_cmp oLt_n oLt_ok (dp_bin oMul_n oMul_ok (dp_ix (v_ 0) dp_int (fun _ _ => rfl)) (dp_ix (v_ 1) dp_int (fun _ _ => rfl))) (dp_bin oMul_n oMul_ok (dp_ix (v_ 1) dp_int (fun _ _ => rfl)) (dp_ix (v_ 0) dp_int (fun _ _ => rfl))) rfl)) db_nil
def N__law_one : List Str := ["dice"]
theorem S__law_one : FnScope N__law_one ["dice"] (defScope (top 27)) := ⟨rfl, rfl, rfl, by decide +kernel, rfl, by decide +kernel, by decide +kernel⟩
def B__law_one : FS :=
  sSeq (sRt (fCall F__law_share (fCons (fBin oSub (fCall (F__law_roll 3) (fCons (fVar 0) (fCons (fC (.int 41)) fNil))) (fC (.int 20))) (fCons (fBin oAdd (fC (.int 1)) (fCall (F__law_roll 3) (fCons (fVar 0) (fCons (fC (.int 12)) fNil)))) fNil))))
  sNil
def F__law_one : FN := runB 1 B__law_one
theorem P__law_one (S : Ctx P w K mg base) : Pm (cfg K) P w K mg base 64 "_law_one" 1 F__law_one := by
  have nd := S__law_one.nd
  refine pm_of (d := dd "_law_one" 27) (N := N__law_one) (ps := ["dice"]) S.kin S.G S.c (List.mem_of_getElem? (i := 22) rfl) (List.mem_of_getElem? (i := 22) rfl) rfl rfl rfl S__law_one (fun _ _ _ _ _ _ us hl => match us, hl with | [_], _ => rfl) fun A outer s H E hr tk po => ?_
  exact db_cons (ds_ret (dp_cp (P__law_share S) hr (by omega) rfl tk rfl (fes_len_cons (fes_len_cons fes_len_nil)) (da_cons (dp_bin oSub_n oSub_ok (dp_cp (P__law_roll S 3) hr (by omega) rfl tk rfl (fes_len_cons (fes_len_cons fes_len_nil)) (da_cons (v_ 0) (da_cons dp_int da_nil))) dp_int) (da_cons (dp_bin oAdd_n oAdd_ok dp_int (dp_cp (P__law_roll S 3) hr (by omega) rfl tk rfl (fes_len_cons (fes_len_cons fes_len_nil)) (da_cons (v_ 0) (da_cons dp_int da_nil)))) da_nil)))) db_nil
def N__law_plain : List Str := ["told", "bad", "k", "f"]
theorem S__law_plain : FnScope N__law_plain [] (defScope (top 28)) := ⟨rfl, rfl, rfl, by decide +kernel, rfl, by decide +kernel, by decide +kernel⟩
def L__law_plain_0 : List LamI := lamsOf (top 28) 3 false
def L__law_plain_1 : List LamI := lamsOf (top 28) 4 true
def FL__law_plain : List FE := [fCall F_share (fCons (fC (.int 1)) (fCons (fC (.int 0)) fNil)),
  fCall F_parted (fCons (fTup (fCons (fC (.int 1)) (fCons (fC (.int 2)) fNil))) (fCons (fTup (fCons (fC (.int 0)) (fCons (fC (.int 1)) fNil))) fNil)),
  fCall F_split (fCons (fC (.int 1)) (fCons (fTup fNil) fNil)),
  fCall F_split (fCons (fC (.int 1)) (fCons (fTup (fCons (fC (.int 0)) (fCons (fC (.int 0)) fNil))) fNil)),
  fCall F_split (fCons (fNeg (fC (.int 1))) (fCons (fTup (fCons (fC (.int 1)) fNil)) fNil)),
  fCall F_split (fCons (fC (.int 1)) (fCons (fTup (fCons (fC (.int 2)) (fCons (fNeg (fC (.int 1))) fNil))) fNil))]
def B__law_plain : FS :=
  sSeq (sAsg (fLst (fCons (fCall F_share (fCons (fC (.int 4)) (fCons (fNeg (fC (.int 6))) fNil))) (fCons (fCall F_share (fCons (fC (.int 0)) (fCons (fC (.int 5)) fNil))) (fCons (fCall F_whole (fCons (fC (.int 3)) fNil)) (fCons (fCall F_plus (fCons (fTup (fCons (fC (.int 1)) (fCons (fC (.int 2)) fNil))) (fCons (fTup (fCons (fC (.int 1)) (fCons (fC (.int 3)) fNil))) fNil))) (fCons (fCall F_minus (fCons (fTup (fCons (fC (.int 1)) (fCons (fC (.int 2)) fNil))) (fCons (fTup (fCons (fC (.int 1)) (fCons (fC (.int 3)) fNil))) fNil))) (fCons (fCall F_times (fCons (fTup (fCons (fC (.int 2)) (fCons (fC (.int 3)) fNil))) (fCons (fTup (fCons (fC (.int 3)) (fCons (fC (.int 4)) fNil))) fNil))) (fCons (fCall F_parted (fCons (fTup (fCons (fC (.int 1)) (fCons (fC (.int 2)) fNil))) (fCons (fTup (fCons (fNeg (fC (.int 1))) (fCons (fC (.int 4)) fNil))) fNil))) fNil)))))))) (gNm 0))
  (sSeq (sAsg (fBin oAdd (fVar 0) (fLst (fCons (fCall F_is_less (fCons (fTup (fCons (fC (.int 1)) (fCons (fC (.int 3)) fNil))) (fCons (fTup (fCons (fC (.int 1)) (fCons (fC (.int 2)) fNil))) fNil))) (fCons (fCall F_is_less (fCons (fTup (fCons (fC (.int 1)) (fCons (fC (.int 2)) fNil))) (fCons (fTup (fCons (fC (.int 1)) (fCons (fC (.int 2)) fNil))) fNil))) (fCons (fCall F_below (fCons (fTup (fCons (fNeg (fC (.int 7))) (fCons (fC (.int 2)) fNil))) fNil)) (fCons (fCall F_above (fCons (fTup (fCons (fNeg (fC (.int 7))) (fCons (fC (.int 2)) fNil))) fNil)) (fCons (fCall F_above (fCons (fTup (fCons (fC (.int 6)) (fCons (fC (.int 1)) fNil))) fNil)) (fCons (fCall F_nearest (fCons (fTup (fCons (fC (.int 1)) (fCons (fC (.int 2)) fNil))) fNil)) (fCons (fCall F_nearest (fCons (fTup (fCons (fNeg (fC (.int 1))) (fCons (fC (.int 2)) fNil))) fNil)) (fCons (fCall F_sum_of (fCons (fTup fNil) fNil)) fNil)))))))))) (gNm 0))
  (sSeq (sAsg (fBin oAdd (fVar 0) (fLst (fCons (fCall F_sum_of (fCons (fTup (fCons (fTup (fCons (fC (.int 1)) (fCons (fC (.int 2)) fNil))) (fCons (fTup (fCons (fC (.int 1)) (fCons (fC (.int 3)) fNil))) fNil))) fNil)) (fCons (fCall F_told_share (fCons (fTup (fCons (fC (.int 1)) (fCons (fC (.int 2)) fNil))) fNil)) (fCons (fCall F_told_share (fCons (fTup (fCons (fC (.int 3)) (fCons (fC (.int 1)) fNil))) fNil)) (fCons (fCall F_split (fCons (fC (.int 10)) (fCons (fTup (fCons (fC (.int 1)) (fCons (fC (.int 1)) (fCons (fC (.int 1)) fNil)))) fNil))) (fCons (fCall F_split (fCons (fC (.int 7)) (fCons (fTup (fCons (fC (.int 0)) (fCons (fC (.int 3)) (fCons (fC (.int 2)) fNil)))) fNil))) (fCons (fCall F_split (fCons (fC (.int 0)) (fCons (fTup (fCons (fC (.int 1)) fNil)) fNil))) fNil)))))))) (gNm 0))
  (sUn 1 (sUn 1 (sBad okc__law_told FL__law_plain (sSeq (sRt (fBin oEq (fVar 0) (fLst (fCons (fTup (fCons (fNeg (fC (.int 2))) (fCons (fC (.int 3)) fNil))) (fCons (fTup (fCons (fC (.int 0)) (fCons (fC (.int 1)) fNil))) (fCons (fTup (fCons (fC (.int 3)) (fCons (fC (.int 1)) fNil))) (fCons (fTup (fCons (fC (.int 5)) (fCons (fC (.int 6)) fNil))) (fCons (fTup (fCons (fC (.int 1)) (fCons (fC (.int 6)) fNil))) (fCons (fTup (fCons (fC (.int 1)) (fCons (fC (.int 2)) fNil))) (fCons (fTup (fCons (fNeg (fC (.int 2))) (fCons (fC (.int 1)) fNil))) (fCons (fC (.bl true)) (fCons (fC (.bl false)) (fCons (fNeg (fC (.int 4))) (fCons (fNeg (fC (.int 3))) (fCons (fC (.int 6)) (fCons (fC (.int 1)) (fCons (fC (.int 0)) (fCons (fTup (fCons (fC (.int 0)) (fCons (fC (.int 1)) fNil))) (fCons (fTup (fCons (fC (.int 5)) (fCons (fC (.int 6)) fNil))) (fCons (fC (.str "1:2")) (fCons (fC (.str "3")) (fCons (fTup (fCons (fC (.int 4)) (fCons (fC (.int 3)) (fCons (fC (.int 3)) fNil)))) (fCons (fTup (fCons (fC (.int 0)) (fCons (fC (.int 4)) (fCons (fC (.int 3)) fNil)))) (fCons (fTup (fCons (fC (.int 0)) fNil)) fNil))))))))))))))))))))))))
  sNil))))))
def F__law_plain : FN := runB 4 B__law_plain
theorem P__law_plain (S : Ctx P w K mg base) : Pm (cfg K) P w K mg base 7 "_law_plain" 0 F__law_plain := by
  have f_enumerate := He.free_ok S.kin S.G (S.c.facts (f := .free "enumerate") (List.mem_of_getElem? (i := 31) rfl))
  have tabL := fun S : Ctx P w K mg base => tab__law_plain_lambda S
  have nd := S__law_plain.nd
  refine pm_of (d := dd "_law_plain" 28) (N := N__law_plain) (ps := []) S.kin S.G S.c (List.mem_of_getElem? (i := 23) rfl) (List.mem_of_getElem? (i := 23) rfl) rfl rfl rfl S__law_plain (fun _ _ _ _ _ _ us hl => match us, hl with | [], _ => rfl) fun A outer s H E hr tk po => ?_
  have hls : LamsOk (cfg K) (cxOf (L2.CX P w) P w K mg base N__law_plain "_law_plain" (defScope (top 28)) (He.fAd K ("_law_plain", none)) (.ref (He.codeOf K ("_law_plain", none))) A outer s H E) 4 (L__law_plain_0 ++ L__law_plain_1) FL__law_plain := ⟨_, _, rfl, lo2_ rfl (fun _ _ _ _ _ _ _ hr' tk' => dp_cp (P_share S) hr' (by omega) rfl tk' rfl (fes_len_cons (fes_len_cons fes_len_nil)) (da_cons dp_int (da_cons dp_int da_nil))), ⟨_, _, rfl, lo2_ rfl (fun _ _ _ _ _ _ _ hr' tk' => dp_cp (P_parted S) hr' (by omega) rfl tk' rfl (fes_len_cons (fes_len_cons fes_len_nil)) (da_cons (dp_tup (da_cons dp_int (da_cons dp_int da_nil))) (da_cons (dp_tup (da_cons dp_int (da_cons dp_int da_nil))) da_nil))), ⟨_, _, rfl, lo2_ rfl (fun _ _ _ _ _ _ _ hr' tk' => dp_cp (P_split S) hr' (by omega) rfl tk' rfl (fes_len_cons (fes_len_cons fes_len_nil)) (da_cons dp_int (da_cons (dp_tup da_nil) da_nil))), ⟨_, _, rfl, lo2_ rfl (fun _ _ _ _ _ _ _ hr' tk' => dp_cp (P_split S) hr' (by omega) rfl tk' rfl (fes_len_cons (fes_len_cons fes_len_nil)) (da_cons dp_int (da_cons (dp_tup (da_cons dp_int (da_cons dp_int da_nil))) da_nil))), ⟨_, _, rfl, lo2_ rfl (fun _ _ _ _ _ _ _ hr' tk' => dp_cp (P_split S) hr' (by omega) rfl tk' rfl (fes_len_cons (fes_len_cons fes_len_nil)) (da_cons (dp_neg dp_int) (da_cons (dp_tup (da_cons dp_int da_nil)) da_nil))), ⟨_, _, rfl, lo2_ rfl (fun _ _ _ _ _ _ _ hr' tk' => dp_cp (P_split S) hr' (by omega) rfl tk' rfl (fes_len_cons (fes_len_cons fes_len_nil)) (da_cons dp_int (da_cons (dp_tup (da_cons dp_int (da_cons (dp_neg dp_int) da_nil))) da_nil))), rfl⟩⟩⟩⟩⟩⟩
  exact db_cons (ds_set nd rfl (loc_by rfl) (dp_lst (da_cons (dp_cp (P_share S) hr (by omega) rfl tk rfl (fes_len_cons (fes_len_cons fes_len_nil)) (da_cons dp_int (da_cons (dp_neg dp_int) da_nil))) (da_cons (dp_cp (P_share S) hr (by omega) rfl tk rfl (fes_len_cons (fes_len_cons fes_len_nil)) (da_cons dp_int (da_cons dp_int da_nil))) (da_cons (dp_cp (P_whole S) hr (by omega) rfl tk rfl (fes_len_cons fes_len_nil) (da_cons dp_int da_nil)) (da_cons (dp_cp (P_plus S) hr (by omega) rfl tk rfl (fes_len_cons (fes_len_cons fes_len_nil)) (da_cons (dp_tup (da_cons dp_int (da_cons dp_int da_nil))) (da_cons (dp_tup (da_cons dp_int (da_cons dp_int da_nil))) da_nil))) (da_cons (dp_cp (P_minus S) hr (by omega) rfl tk rfl (fes_len_cons (fes_len_cons fes_len_nil)) (da_cons (dp_tup (da_cons dp_int (da_cons dp_int da_nil))) (da_cons (dp_tup (da_cons dp_int (da_cons dp_int da_nil))) da_nil))) (da_cons (dp_cp (P_times S) hr (by omega) rfl tk rfl (fes_len_cons (fes_len_cons fes_len_nil)) (da_cons (dp_tup (da_cons dp_int (da_cons dp_int da_nil))) (da_cons (dp_tup (da_cons dp_int (da_cons dp_int da_nil))) da_nil))) (da_cons (dp_cp (P_parted S) hr (by omega) rfl tk rfl (fes_len_cons (fes_len_cons fes_len_nil)) (da_cons (dp_tup (da_cons dp_int (da_cons dp_int da_nil))) (da_cons (dp_tup (da_cons (dp_neg dp_int) (da_cons dp_int da_nil))) da_nil))) da_nil))))))))) (db_cons (ds_set nd rfl (loc_by rfl) (dp_bin oAdd_n oAdd_ok (v_ 0) (dp_lst (da_cons (dp_cp (P_is_less S) hr (by omega) rfl tk rfl (fes_len_cons (fes_len_cons fes_len_nil)) (da_cons (dp_tup (da_cons dp_int (da_cons dp_int da_nil))) (da_cons (dp_tup (da_cons dp_int (da_cons dp_int da_nil))) da_nil))) (da_cons (dp_cp (P_is_less S) hr (by omega) rfl tk rfl (fes_len_cons (fes_len_cons fes_len_nil)) (da_cons (dp_tup (da_cons dp_int (da_cons dp_int da_nil))) (da_cons (dp_tup (da_cons dp_int (da_cons dp_int da_nil))) da_nil))) (da_cons (dp_cp (P_below S) hr (by omega) rfl tk rfl (fes_len_cons fes_len_nil) (da_cons (dp_tup (da_cons (dp_neg dp_int) (da_cons dp_int da_nil))) da_nil)) (da_cons (dp_cp (P_above S) hr (by omega) rfl tk rfl (fes_len_cons fes_len_nil) (da_cons (dp_tup (da_cons (dp_neg dp_int) (da_cons dp_int da_nil))) da_nil)) (da_cons (dp_cp (P_above S) hr (by omega) rfl tk rfl (fes_len_cons fes_len_nil) (da_cons (dp_tup (da_cons dp_int (da_cons dp_int da_nil))) da_nil)) (da_cons (dp_cp (P_nearest S) hr (by omega) rfl tk rfl (fes_len_cons fes_len_nil) (da_cons (dp_tup (da_cons dp_int (da_cons dp_int da_nil))) da_nil)) (da_cons (dp_cp (P_nearest S) hr (by omega) rfl tk rfl (fes_len_cons fes_len_nil) (da_cons (dp_tup (da_cons (dp_neg dp_int) (da_cons dp_int da_nil))) da_nil)) (da_cons (dp_cp (P_sum_of S) hr (by omega) rfl tk rfl (fes_len_cons fes_len_nil) (da_cons (dp_tup da_nil) da_nil)) da_nil))))))))))) (db_cons (ds_set nd rfl (loc_by rfl) (dp_bin oAdd_n oAdd_ok (v_ 0) (dp_lst (da_cons (dp_cp (P_sum_of S) hr (by omega) rfl tk rfl (fes_len_cons fes_len_nil) (da_cons (dp_tup (da_cons (dp_tup (da_cons dp_int (da_cons dp_int da_nil))) (da_cons (dp_tup (da_cons dp_int (da_cons dp_int da_nil))) da_nil))) da_nil)) (da_cons (dp_cp (P_told_share S) hr (by omega) rfl tk rfl (fes_len_cons fes_len_nil) (da_cons (dp_tup (da_cons dp_int (da_cons dp_int da_nil))) da_nil)) (da_cons (dp_cp (P_told_share S) hr (by omega) rfl tk rfl (fes_len_cons fes_len_nil) (da_cons (dp_tup (da_cons dp_int (da_cons dp_int da_nil))) da_nil)) (da_cons (dp_cp (P_split S) hr (by omega) rfl tk rfl (fes_len_cons (fes_len_cons fes_len_nil)) (da_cons dp_int (da_cons (dp_tup (da_cons dp_int (da_cons dp_int (da_cons dp_int da_nil)))) da_nil))) (da_cons (dp_cp (P_split S) hr (by omega) rfl tk rfl (fes_len_cons (fes_len_cons fes_len_nil)) (da_cons dp_int (da_cons (dp_tup (da_cons dp_int (da_cons dp_int (da_cons dp_int da_nil)))) da_nil))) (da_cons (dp_cp (P_split S) hr (by omega) rfl tk rfl (fes_len_cons (fes_len_cons fes_len_nil)) (da_cons dp_int (da_cons (dp_tup (da_cons dp_int da_nil)) da_nil))) da_nil))))))))) (bad_ (ls := L__law_plain_0) (ib := 1) nd rfl rfl (lk2_ (tabL S) rfl rfl (lk2_ (tabL S) rfl rfl (lk2_ (tabL S) rfl rfl (lk2_ (tabL S) rfl rfl (lk2_ (tabL S) rfl rfl pa_lams_nil))))) (by decide) (badm_ (ls := L__law_plain_0) (ms := L__law_plain_1) (ib := 1) nd rfl rfl (lk2_ (tabL S) rfl rfl pa_lams_nil) (by decide) (dbd_if (pe_bp (k := 4) (ib := 1) (jk := 2) (jf := 3) (own := [("k", 2), ("f", 3)]) (T__law_told S) rfl nd rfl rfl f_enumerate rfl rfl rfl rfl (by decide) rfl rfl (by decide) (by decide) hls (fun _ _ _ _ _ => rfl) hr (by omega) hr.units (hsame := oNe_same _ (by decide +kernel))) hr.units (db_cons (ds_ret dp_bl) db_nil) (db_cons (ds_ret (dp_cmp oEq_n (oEq_ok hr.units) (v_ 0) (dp_lst (da_cons (dp_tup (da_cons (dp_neg dp_int) (da_cons dp_int da_nil))) (da_cons (dp_tup (da_cons dp_int (da_cons dp_int da_nil))) (da_cons (dp_tup (da_cons dp_int (da_cons dp_int da_nil))) (da_cons (dp_tup (da_cons dp_int (da_cons dp_int da_nil))) (da_cons (dp_tup (da_cons dp_int (da_cons dp_int da_nil))) (da_cons (dp_tup (da_cons dp_int (da_cons dp_int da_nil))) (da_cons (dp_tup (da_cons (dp_neg dp_int) (da_cons dp_int da_nil))) (da_cons dp_bl (da_cons dp_bl (da_cons (dp_neg dp_int) (da_cons (dp_neg dp_int) (da_cons dp_int (da_cons dp_int (da_cons dp_int (da_cons (dp_tup (da_cons dp_int (da_cons dp_int da_nil))) (da_cons (dp_tup (da_cons dp_int (da_cons dp_int da_nil))) (da_cons dp_str (da_cons dp_str (da_cons (dp_tup (da_cons dp_int (da_cons dp_int (da_cons dp_int da_nil)))) (da_cons (dp_tup (da_cons dp_int (da_cons dp_int (da_cons dp_int da_nil)))) (da_cons (dp_tup (da_cons dp_int da_nil)) da_nil)))))))))))))))))))))) rfl)) db_nil))))))
def N_law : List Str := ["script", "dice", "top", "under", "one", "other", "third", "low", "high", "near", "rows", "total", "k", "row", "parts", "number", "found", "floors", "part", "order", "rest", "more"]
theorem S_law : FnScope N_law ["script"] (defScope (top 29)) := ⟨rfl, rfl, rfl, by decide +kernel, rfl, by decide +kernel, by decide +kernel⟩
def B_law : FS :=
  sSeq (sFor (iSeq (fCall F__law_rounds (fCons (fVar 0) (fCons (fC (.int 1)) fNil)))) (gNm 1) (sSeq (sAsg (fTup (fCons (fBin oSub (fCall (F__law_roll 3) (fCons (fVar 1) (fCons (fC (.int 400)) fNil))) (fC (.int 200))) (fCons (fBin oSub (fCall (F__law_roll 3) (fCons (fVar 1) (fCons (fC (.int 60)) fNil))) (fC (.int 30))) fNil))) (gTp 2 (gsCons (gNm 2) (gsCons (gNm 3) gsNil))))
  (sSeq (sIf (fB (fBin oNe (fTold okc__law_told "ShareError" (fCall F_share (fCons (fVar 2) (fCons (fVar 3) fNil)))) (fIf (fB (fBin oNe (fVar 3) (fC (.int 0)))) (fCall F__law_share (fCons (fVar 2) (fCons (fVar 3) fNil))) (fC (.str "ShareError"))))) (sSeq (sRt (fC (.bl false)))
  sNil) sNil)
  (sSeq (sAsg (fTup (fCons (fCall F__law_one (fCons (fVar 1) fNil)) (fCons (fCall F__law_one (fCons (fVar 1) fNil)) (fCons (fCall F__law_one (fCons (fVar 1) fNil)) fNil)))) (gTp 3 (gsCons (gNm 4) (gsCons (gNm 5) (gsCons (gNm 6) gsNil)))))
  (sSeq (sIf (fOr (fB (fBin oNe (fCall F_plus (fCons (fVar 4) (fCons (fVar 5) fNil))) (fCall F__law_add (fCons (fVar 4) (fCons (fVar 5) fNil))))) (fOr (fB (fBin oNe (fCall F_minus (fCons (fCall F_plus (fCons (fVar 4) (fCons (fVar 5) fNil))) (fCons (fVar 5) fNil))) (fVar 4))) (fOr (fB (fBin oNe (fCall F_times (fCons (fVar 4) (fCons (fVar 5) fNil))) (fCall F__law_mul (fCons (fVar 4) (fCons (fVar 5) fNil))))) (fB (fBin oNe (fCall F_times (fCons (fVar 4) (fCons (fCall F_plus (fCons (fVar 5) (fCons (fVar 6) fNil))) fNil))) (fCall F_plus (fCons (fCall F_times (fCons (fVar 4) (fCons (fVar 5) fNil))) (fCons (fCall F_times (fCons (fVar 4) (fCons (fVar 6) fNil))) fNil)))))))) (sSeq (sRt (fC (.bl false)))
  sNil) sNil)
  (sSeq (sIf (fB (fBin oNe (fTold okc__law_told "ShareError" (fCall F_parted (fCons (fVar 4) (fCons (fVar 5) fNil)))) (fIf (fB (fBin oNe (fBin oIx (fVar 5) (fC (.int 0))) (fC (.int 0)))) (fCall F__law_share (fCons (fBin oMul (fBin oIx (fVar 4) (fC (.int 0))) (fBin oIx (fVar 5) (fC (.int 1)))) (fCons (fBin oMul (fBin oIx (fVar 4) (fC (.int 1))) (fBin oIx (fVar 5) (fC (.int 0)))) fNil))) (fC (.str "ShareError"))))) (sSeq (sRt (fC (.bl false)))
  sNil) sNil)
  (sSeq (sPar3 7 8 9 (fCons (fCall F_below (fCons (fVar 4) fNil)) (fCons (fCall F_above (fCons (fVar 4) fNil)) (fCons (fCall F_nearest (fCons (fVar 4) fNil)) fNil))))
  (sSeq (sIf (fOr (fNot (fB (fCh oLe oLt (fBin oMul (fVar 7) (fBin oIx (fVar 4) (fC (.int 1)))) (fBin oIx (fVar 4) (fC (.int 0))) (fBin oMul (fBin oAdd (fVar 7) (fC (.int 1))) (fBin oIx (fVar 4) (fC (.int 1))))))) (fOr (fNot (fB (fCh oLt oLe (fBin oMul (fBin oSub (fVar 8) (fC (.int 1))) (fBin oIx (fVar 4) (fC (.int 1)))) (fBin oIx (fVar 4) (fC (.int 0))) (fBin oMul (fVar 8) (fBin oIx (fVar 4) (fC (.int 1))))))) (fNot (fB (fCh oLe oLt (fBin oMul (fBin oSub (fBin oMul (fC (.int 2)) (fVar 9)) (fC (.int 1))) (fBin oIx (fVar 4) (fC (.int 1)))) (fBin oMul (fC (.int 2)) (fBin oIx (fVar 4) (fC (.int 0)))) (fBin oMul (fBin oAdd (fBin oMul (fC (.int 2)) (fVar 9)) (fC (.int 1))) (fBin oIx (fVar 4) (fC (.int 1))))))))) (sSeq (sRt (fC (.bl false)))
  sNil) sNil)
  (sSeq (sPar 10 11 (fCons (fLc [12] (iRng rng1 (fCons (fCall (F__law_roll 3) (fCons (fVar 1) (fCons (fC (.int 6)) fNil))) fNil)) (gNm 12) fYes (fCall F__law_one (fCons (fVar 1) fNil))) (fCons (fTup (fCons (fC (.int 0)) (fCons (fC (.int 1)) fNil))) fNil)))
  (sSeq (sFor (iSeq (fVar 10)) (gNm 13) (sSeq (sAsg (fCall F__law_add (fCons (fVar 11) (fCons (fVar 13) fNil))) (gNm 11))
  sNil))
  (sSeq (sIf (fOr (fB (fBin oNe (fCall F_is_less (fCons (fVar 4) (fCons (fVar 5) fNil))) (fCall F__law_less (fCons (fVar 4) (fCons (fVar 5) fNil))))) (fOr (fB (fBin oNe (fCall F_sum_of (fCons (fVar 10) fNil)) (fVar 11))) (fOr (fB (fBin oNe (fCall F_whole (fCons (fVar 2) fNil)) (fTup (fCons (fVar 2) (fCons (fC (.int 1)) fNil))))) (fB (fBin oNe (fCall F_told_share (fCons (fVar 4) fNil)) (fIf (fB (fBin oEq (fBin oIx (fVar 4) (fC (.int 1))) (fC (.int 1)))) (fBi bStr (fCons (fBin oIx (fVar 4) (fC (.int 0))) fNil)) (fBin oAdd (fBin oAdd (fBi bStr (fCons (fBin oIx (fVar 4) (fC (.int 0))) fNil)) (fC (.str ":"))) (fBi bStr (fCons (fBin oIx (fVar 4) (fC (.int 1))) fNil))))))))) (sSeq (sRt (fC (.bl false)))
  sNil) sNil)
  (sSeq (sAsg (fTup (fCons (fLc [12] (iRng rng1 (fCons (fCall (F__law_roll 3) (fCons (fVar 1) (fCons (fC (.int 6)) fNil))) fNil)) (gNm 12) fYes (fCall (F__law_roll 3) (fCons (fVar 1) (fCons (fC (.int 6)) fNil)))) (fCons (fCall (F__law_roll 3) (fCons (fVar 1) (fCons (fC (.int 50)) fNil))) fNil))) (gTp 2 (gsCons (gNm 14) (gsCons (gNm 15) gsNil))))
  (sSeq (sAsg (fTold okc__law_told "ShareError" (fCall F_split (fCons (fVar 15) (fCons (fVar 14) fNil)))) (gNm 16))
  (sSeq (sIf (fB (fBin oNe (fBin oEq (fVar 16) (fC (.str "ShareError"))) (fBin oEq (fBi bSumS (fCons (fVar 14) fNil)) (fC (.int 0))))) (sSeq (sRt (fC (.bl false)))
  sNil) sNil)
  (sSeq (sIf (fB (fBin oNe (fVar 16) (fC (.str "ShareError")))) (sSeq (sAsg (fLc [18] (iSeq (fVar 14)) (gNm 18) fYes (fBin oDiv (fBin oMul (fVar 15) (fVar 18)) (fBi bSumS (fCons (fVar 14) fNil)))) (gNm 17))
  (sSeq (sAsg (fLc [20, 12] (iSeq (fBi bSorted (fCons (fLc [12, 18] (iRng enmA (fCons (fVar 14) fNil)) (gTp 2 (gsCons (gNm 12) (gsCons (gNm 18) gsNil))) fYes (fTup (fCons (fBin oSub (fBin oMul (fBin oIx (fVar 17) (fVar 12)) (fBi bSumS (fCons (fVar 14) fNil))) (fBin oMul (fVar 15) (fVar 18))) (fCons (fVar 12) fNil)))) fNil))) (gTp 2 (gsCons (gNm 20) (gsCons (gNm 12) gsNil))) fYes (fVar 12)) (gNm 19))
  (sSeq (sAsg (fSl (fVar 19) fNo (fSo (fBin oSub (fVar 15) (fBi bSumS (fCons (fVar 17) fNil))))) (gNm 21))
  (sSeq (sIf (fOr (fB (fBin oNe (fBi bList (fCons (fVar 16) fNil)) (fLc [12] (iRng rng1 (fCons (fBi bLen (fCons (fVar 14) fNil)) fNil)) (gNm 12) fYes (fBin oAdd (fBin oIx (fVar 17) (fVar 12)) (fBi bInt (fCons (fBin oIn (fVar 12) (fVar 21)) fNil)))))) (fB (fBin oNe (fBi bSumS (fCons (fVar 16) fNil)) (fVar 15)))) (sSeq (sRt (fC (.bl false)))
  sNil) sNil)
  sNil)))) sNil)
  sNil)))))))))))))))
  (sSeq (sRt (fCall0F F__law_plain))
  sNil)
def F_law : FN := runB 22 B_law
theorem Q_law (S : Ctx P w K mg base) {fd : FuncData} (F : FunD K "law" "law" (defArgs (top 29)) (defBody (top 29)) (defScope (top 29)) [] [] (He.fAd K ("law", none)) fd) : FnOk P w K mg base (L2.CX P w) 65 (He.fAd K ("law", none)) fd ["script"] (spD (cfg K) K 1 F_law) := by
  have f_range := He.free_ok S.kin S.G (S.c.facts (f := .free "range") (List.mem_of_getElem? (i := 35) rfl))
  have f_str := He.free_ok S.kin S.G (S.c.facts (f := .free "str") (List.mem_of_getElem? (i := 36) rfl))
  have f_sum := He.free_ok S.kin S.G (S.c.facts (f := .free "sum") (List.mem_of_getElem? (i := 30) rfl))
  have f_enumerate := He.free_ok S.kin S.G (S.c.facts (f := .free "enumerate") (List.mem_of_getElem? (i := 31) rfl))
  have f_sorted := He.free_ok S.kin S.G (S.c.facts (f := .free "sorted") (List.mem_of_getElem? (i := 32) rfl))
  have f_list := He.free_ok S.kin S.G (S.c.facts (f := .free "list") (List.mem_of_getElem? (i := 37) rfl))
  have f_len := He.free_ok S.kin S.G (S.c.facts (f := .free "len") (List.mem_of_getElem? (i := 28) rfl))
  have f_int := He.free_ok S.kin S.G (S.c.facts (f := .free "int") (List.mem_of_getElem? (i := 34) rfl))
  have tabL := fun S : Ctx P w K mg base => tab_law_lambda S
  have nd := S_law.nd
  refine fn_bodyD (q := ("law", none)) (N := N_law) F S_law fun A outer s H E hr tk po => ?_
  exact db_cons (ds_for po rfl (di_seq (dp_cp (P__law_rounds S) hr (by omega) rfl tk rfl (fes_len_cons (fes_len_cons fes_len_nil)) (da_cons (v_ 0) (da_cons dp_int da_nil)))) (g_ 1 nd) (db_cons (ds_asg (dp_tup (da_cons (dp_bin oSub_n oSub_ok (dp_cp (P__law_roll S 3) hr (by omega) rfl tk rfl (fes_len_cons (fes_len_cons fes_len_nil)) (da_cons (v_ 1) (da_cons dp_int da_nil))) dp_int) (da_cons (dp_bin oSub_n oSub_ok (dp_cp (P__law_roll S 3) hr (by omega) rfl tk rfl (fes_len_cons (fes_len_cons fes_len_nil)) (da_cons (v_ 1) (da_cons dp_int da_nil))) dp_int) da_nil))) (dg_tup rfl (dgs_cons (g_ 2 nd) (dgs_cons (g_ 3 nd) dgs_nil)))) (db_cons (ds_if (dt_cmp oNe_n (oNe_ok hr.units) (dp_tp (k := 62) (T__law_told S) rfl (tabL S) rfl hr (by omega) rfl (fun _ _ _ _ _ _ _ hr' tk' => dp_cp (P_share S) hr' (by omega) rfl tk' rfl (fes_len_cons (fes_len_cons fes_len_nil)) (da_cons (v_ 2) (da_cons (v_ 3) da_nil)))) (dp_if (dt_cmp oNe_n (oNe_ok hr.units) (v_ 3) dp_int rfl) (dp_cp (P__law_share S) hr (by omega) rfl tk rfl (fes_len_cons (fes_len_cons fes_len_nil)) (da_cons (v_ 2) (da_cons (v_ 3) da_nil))) dp_str) rfl) (db_cons (ds_ret dp_bl) db_nil) db_nil) (db_cons (ds_asg (dp_tup (da_cons (dp_cp (P__law_one S) hr (by omega) rfl tk rfl (fes_len_cons fes_len_nil) (da_cons (v_ 1) da_nil)) (da_cons (dp_cp (P__law_one S) hr (by omega) rfl tk rfl (fes_len_cons fes_len_nil) (da_cons (v_ 1) da_nil)) (da_cons (dp_cp (P__law_one S) hr (by omega) rfl tk rfl (fes_len_cons fes_len_nil) (da_cons (v_ 1) da_nil)) da_nil)))) (dg_tup rfl (dgs_cons (g_ 4 nd) (dgs_cons (g_ 5 nd) (dgs_cons (g_ 6 nd) dgs_nil))))) (db_cons (ds_if (dt_w (dw_or (dt_cmp oNe_n (oNe_ok hr.units) (dp_cp (P_plus S) hr (by omega) rfl tk rfl (fes_len_cons (fes_len_cons fes_len_nil)) (da_cons (v_ 4) (da_cons (v_ 5) da_nil))) (dp_cp (P__law_add S) hr (by omega) rfl tk rfl (fes_len_cons (fes_len_cons fes_len_nil)) (da_cons (v_ 4) (da_cons (v_ 5) da_nil))) rfl) (dw_or (dt_cmp oNe_n (oNe_ok hr.units) (dp_cp (P_minus S) hr (by omega) rfl tk rfl (fes_len_cons (fes_len_cons fes_len_nil)) (da_cons (dp_cp (P_plus S) hr (by omega) rfl tk rfl (fes_len_cons (fes_len_cons fes_len_nil)) (da_cons (v_ 4) (da_cons (v_ 5) da_nil))) (da_cons (v_ 5) da_nil))) (v_ 4) rfl) (dw_or (dt_cmp oNe_n (oNe_ok hr.units) (dp_cp (P_times S) hr (by omega) rfl tk rfl (fes_len_cons (fes_len_cons fes_len_nil)) (da_cons (v_ 4) (da_cons (v_ 5) da_nil))) (dp_cp (P__law_mul S) hr (by omega) rfl tk rfl (fes_len_cons (fes_len_cons fes_len_nil)) (da_cons (v_ 4) (da_cons (v_ 5) da_nil))) rfl) (dw_or1 (dt_cmp oNe_n (oNe_ok hr.units) (dp_cp (P_times S) hr (by omega) rfl tk rfl (fes_len_cons (fes_len_cons fes_len_nil)) (da_cons (v_ 4) (da_cons (dp_cp (P_plus S) hr (by omega) rfl tk rfl (fes_len_cons (fes_len_cons fes_len_nil)) (da_cons (v_ 5) (da_cons (v_ 6) da_nil))) da_nil))) (dp_cp (P_plus S) hr (by omega) rfl tk rfl (fes_len_cons (fes_len_cons fes_len_nil)) (da_cons (dp_cp (P_times S) hr (by omega) rfl tk rfl (fes_len_cons (fes_len_cons fes_len_nil)) (da_cons (v_ 4) (da_cons (v_ 5) da_nil))) (da_cons (dp_cp (P_times S) hr (by omega) rfl tk rfl (fes_len_cons (fes_len_cons fes_len_nil)) (da_cons (v_ 4) (da_cons (v_ 6) da_nil))) da_nil))) rfl)))))) (db_cons (ds_ret dp_bl) db_nil) db_nil) (db_cons (ds_if (dt_cmp oNe_n (oNe_ok hr.units) (dp_tp (k := 62) (T__law_told S) rfl (tabL S) rfl hr (by omega) rfl (fun _ _ _ _ _ _ _ hr' tk' => dp_cp (P_parted S) hr' (by omega) rfl tk' rfl (fes_len_cons (fes_len_cons fes_len_nil)) (da_cons (v_ 4) (da_cons (v_ 5) da_nil)))) (dp_if (dt_cmp oNe_n (oNe_ok hr.units) (dp_ix (v_ 5) dp_int (fun _ _ => rfl)) dp_int rfl) (dp_cp (P__law_share S) hr (by omega) rfl tk rfl (fes_len_cons (fes_len_cons fes_len_nil)) (da_cons (dp_bin oMul_n oMul_ok (dp_ix (v_ 4) dp_int (fun _ _ => rfl)) (dp_ix (v_ 5) dp_int (fun _ _ => rfl))) (da_cons (dp_bin oMul_n oMul_ok (dp_ix (v_ 4) dp_int (fun _ _ => rfl)) (dp_ix (v_ 5) dp_int (fun _ _ => rfl))) da_nil))) dp_str) rfl) (db_cons (ds_ret dp_bl) db_nil) db_nil) (db_cons (ds_par3 rfl nd rfl rfl rfl (by decide) (by decide) (by decide) rfl rfl rfl (da_cons (dp_cp (P_below S) hr (by omega) rfl tk rfl (fes_len_cons fes_len_nil) (da_cons (v_ 4) da_nil)) (da_cons (dp_cp (P_above S) hr (by omega) rfl tk rfl (fes_len_cons fes_len_nil) (da_cons (v_ 4) da_nil)) (da_cons (dp_cp (P_nearest S) hr (by omega) rfl tk rfl (fes_len_cons fes_len_nil) (da_cons (v_ 4) da_nil)) da_nil))) rfl) (db_cons (ds_if (dt_w (dw_or (dt_not (dt_ch oLe_n oLt_n oLe_ok oLt_ok (dp_bin oMul_n oMul_ok (v_ 7) (dp_ix (v_ 4) dp_int (fun _ _ => rfl))) (dp_ix (v_ 4) dp_int (fun _ _ => rfl)) (dp_bin oMul_n oMul_ok (dp_bin oAdd_n oAdd_ok (v_ 7) dp_int) (dp_ix (v_ 4) dp_int (fun _ _ => rfl))))) (dw_or (dt_not (dt_ch oLt_n oLe_n oLt_ok oLe_ok (dp_bin oMul_n oMul_ok (dp_bin oSub_n oSub_ok (v_ 8) dp_int) (dp_ix (v_ 4) dp_int (fun _ _ => rfl))) (dp_ix (v_ 4) dp_int (fun _ _ => rfl)) (dp_bin oMul_n oMul_ok (v_ 8) (dp_ix (v_ 4) dp_int (fun _ _ => rfl))))) (dw_or1 (dt_not (dt_ch oLe_n oLt_n oLe_ok oLt_ok (dp_bin oMul_n oMul_ok (dp_bin oSub_n oSub_ok (dp_bin oMul_n oMul_ok dp_int (v_ 9)) dp_int) (dp_ix (v_ 4) dp_int (fun _ _ => rfl))) (dp_bin oMul_n oMul_ok dp_int (dp_ix (v_ 4) dp_int (fun _ _ => rfl))) (dp_bin oMul_n oMul_ok (dp_bin oAdd_n oAdd_ok (dp_bin oMul_n oMul_ok dp_int (v_ 9)) dp_int) (dp_ix (v_ 4) dp_int (fun _ _ => rfl))))))))) (db_cons (ds_ret dp_bl) db_nil) db_nil) (db_cons (ds_par rfl nd rfl rfl (by decide) rfl rfl (da_cons (lc_ (own := [("k", 12)]) rfl rfl nd (di_rng1 rfl f_range (da_cons (dp_cp (P__law_roll S 3) hr (by omega) rfl tk rfl (fes_len_cons (fes_len_cons fes_len_nil)) (da_cons (v_ 1) (da_cons dp_int da_nil))) da_nil)) rfl (by decide) (fun _ _ _ _ _ => g_ 12 nd) (fun _ _ _ _ _ => dts_nil) (fun _ _ _ _ _ => dp_cp (P__law_one S) hr (by omega) rfl takes0 rfl (fes_len_cons fes_len_nil) (da_cons (v_ 1) da_nil))) (da_cons (dp_tup (da_cons dp_int (da_cons dp_int da_nil))) da_nil)) rfl) (db_cons (ds_for po rfl (di_seq (v_ 10)) (g_ 13 nd) (db_cons (ds_set nd rfl (loc_by rfl) (dp_cp (P__law_add S) hr (by omega) rfl tk rfl (fes_len_cons (fes_len_cons fes_len_nil)) (da_cons (v_ 11) (da_cons (v_ 13) da_nil)))) db_nil)) (db_cons (ds_if (dt_w (dw_or (dt_cmp oNe_n (oNe_ok hr.units) (dp_cp (P_is_less S) hr (by omega) rfl tk rfl (fes_len_cons (fes_len_cons fes_len_nil)) (da_cons (v_ 4) (da_cons (v_ 5) da_nil))) (dp_cp (P__law_less S) hr (by omega) rfl tk rfl (fes_len_cons (fes_len_cons fes_len_nil)) (da_cons (v_ 4) (da_cons (v_ 5) da_nil))) rfl) (dw_or (dt_cmp oNe_n (oNe_ok hr.units) (dp_cp (P_sum_of S) hr (by omega) rfl tk rfl (fes_len_cons fes_len_nil) (da_cons (v_ 10) da_nil)) (v_ 11) rfl) (dw_or (dt_cmp oNe_n (oNe_ok hr.units) (dp_cp (P_whole S) hr (by omega) rfl tk rfl (fes_len_cons fes_len_nil) (da_cons (v_ 2) da_nil)) (dp_tup (da_cons (v_ 2) (da_cons dp_int da_nil))) rfl) (dw_or1 (dt_cmp oNe_n (oNe_ok hr.units) (dp_cp (P_told_share S) hr (by omega) rfl tk rfl (fes_len_cons fes_len_nil) (da_cons (v_ 4) da_nil)) (dp_if (dt_cmp oEq_n (oEq_ok hr.units) (dp_ix (v_ 4) dp_int (fun _ _ => rfl)) dp_int rfl) (dp_bt bStr_n bStr_ok rfl f_str boot_str (da_cons (dp_ix (v_ 4) dp_int (fun _ _ => rfl)) da_nil)) (dp_bin oAdd_n oAdd_ok (dp_bin oAdd_n oAdd_ok (dp_bt bStr_n bStr_ok rfl f_str boot_str (da_cons (dp_ix (v_ 4) dp_int (fun _ _ => rfl)) da_nil)) dp_str) (dp_bt bStr_n bStr_ok rfl f_str boot_str (da_cons (dp_ix (v_ 4) dp_int (fun _ _ => rfl)) da_nil)))) rfl)))))) (db_cons (ds_ret dp_bl) db_nil) db_nil) (db_cons (ds_asg (dp_tup (da_cons (lc_ (own := [("k", 12)]) rfl rfl nd (di_rng1 rfl f_range (da_cons (dp_cp (P__law_roll S 3) hr (by omega) rfl tk rfl (fes_len_cons (fes_len_cons fes_len_nil)) (da_cons (v_ 1) (da_cons dp_int da_nil))) da_nil)) rfl (by decide) (fun _ _ _ _ _ => g_ 12 nd) (fun _ _ _ _ _ => dts_nil) (fun _ _ _ _ _ => dp_cp (P__law_roll S 3) hr (by omega) rfl takes0 rfl (fes_len_cons (fes_len_cons fes_len_nil)) (da_cons (v_ 1) (da_cons dp_int da_nil)))) (da_cons (dp_cp (P__law_roll S 3) hr (by omega) rfl tk rfl (fes_len_cons (fes_len_cons fes_len_nil)) (da_cons (v_ 1) (da_cons dp_int da_nil))) da_nil))) (dg_tup rfl (dgs_cons (g_ 14 nd) (dgs_cons (g_ 15 nd) dgs_nil)))) (db_cons (ds_set nd rfl (loc_by rfl) (dp_tp (k := 62) (T__law_told S) rfl (tabL S) rfl hr (by omega) rfl (fun _ _ _ _ _ _ _ hr' tk' => dp_cp (P_split S) hr' (by omega) rfl tk' rfl (fes_len_cons (fes_len_cons fes_len_nil)) (da_cons (v_ 15) (da_cons (v_ 14) da_nil))))) (db_cons (ds_if (dt_cmp oNe_n (oNe_ok hr.units) (dp_cmp oEq_n (oEq_ok hr.units) (v_ 16) dp_str rfl) (dp_cmp oEq_n (oEq_ok hr.units) (dp_bi bSumS_n (bSumS_ok rfl) rfl f_sum boot_sum (da_cons (v_ 14) da_nil)) dp_int rfl) rfl) (db_cons (ds_ret dp_bl) db_nil) db_nil) (db_cons (ds_if (dt_cmp oNe_n (oNe_ok hr.units) (v_ 16) dp_str rfl) (db_cons (ds_set nd rfl (loc_by rfl) (lc_ (own := [("part", 18)]) rfl rfl nd (di_seq (v_ 14)) rfl (by decide) (fun _ _ _ _ _ => g_ 18 nd) (fun _ _ _ _ _ => dts_nil) (fun _ _ _ _ _ => dp_bin oDiv_n oDiv_ok (dp_bin oMul_n oMul_ok (v_ 15) (v_ 18)) (dp_bi bSumS_n (bSumS_ok rfl) rfl f_sum boot_sum (da_cons (v_ 14) da_nil))))) (db_cons (slc_ (own := [("rest", 20), ("k", 12)]) rfl rfl nd rfl rfl rfl (di_seq (dp_bi bSorted_n (bSorted_ok (hr.mono (by omega))) rfl f_sorted boot_sorted (da_cons (lc_ (own := [("k", 12), ("part", 18)]) rfl rfl nd (di_enumA rfl f_enumerate (da_cons (v_ 14) da_nil)) rfl (by decide) (fun _ _ _ _ _ => dg_tup rfl (dgs_cons (g_ 12 nd) (dgs_cons (g_ 18 nd) dgs_nil))) (fun _ _ _ _ _ => dts_nil) (fun _ _ _ _ _ => dp_tup (da_cons (dp_bin oSub_n oSub_ok (dp_bin oMul_n oMul_ok (dp_ix (v_ 17) (v_ 12) (fun _ _ => rfl)) (dp_bi bSumS_n (bSumS_ok rfl) rfl f_sum boot_sum (da_cons (v_ 14) da_nil))) (dp_bin oMul_n oMul_ok (v_ 15) (v_ 18))) (da_cons (v_ 12) da_nil)))) da_nil))) rfl (by decide) (fun _ _ _ _ _ => dg_tup rfl (dgs_cons (g_ 20 nd) (dgs_cons (g_ 12 nd) dgs_nil))) (fun _ _ _ _ _ => dts_nil) (fun _ _ _ _ _ => v_ 12)) (db_cons (ds_set nd rfl (loc_by rfl) (dp_sl (v_ 19) do_no (do_so (dp_bin oSub_n oSub_ok (v_ 15) (dp_bi bSumS_n (bSumS_ok rfl) rfl f_sum boot_sum (da_cons (v_ 17) da_nil)))))) (db_cons (ds_if (dt_w (dw_or (dt_cmp oNe_n (oNe_ok hr.units) (dp_bt bList_n bList_ok rfl f_list boot_list (da_cons (v_ 16) da_nil)) (lc_ (own := [("k", 12)]) rfl rfl nd (di_rng1 rfl f_range (da_cons (dp_bi bLen_n bLen_ok rfl f_len boot_len (da_cons (v_ 14) da_nil)) da_nil)) rfl (by decide) (fun _ _ _ _ _ => g_ 12 nd) (fun _ _ _ _ _ => dts_nil) (fun _ _ _ _ _ => dp_bin oAdd_n oAdd_ok (dp_ix (v_ 17) (v_ 12) (fun _ _ => rfl)) (dp_bt bInt_n bInt_ok rfl f_int boot_int (da_cons (dp_cmp oIn_n (oIn_ok (hu65_of hr)) (v_ 12) (v_ 21) rfl) da_nil)))) rfl) (dw_or1 (dt_cmp oNe_n (oNe_ok hr.units) (dp_bi bSumS_n (bSumS_ok rfl) rfl f_sum boot_sum (da_cons (v_ 16) da_nil)) (v_ 15) rfl)))) (db_cons (ds_ret dp_bl) db_nil) db_nil) db_nil)))) db_nil) db_nil))))))))))))))) (db_cons (ds_ret (dp_cp0F (P__law_plain S) hr (by omega) rfl tk)) db_nil)
end
end K01
end
section
set_option Elab.async false
set_option linter.all false
set_option maxRecDepth 100000
set_option maxHeartbeats 4000000
namespace K01
open PySem Dl
/-- a fraction brought to its least form, the lower part above 0 -/
def sg (b : Int) : Int := if 0 < b then 1 else -1
def nrm (a b : Int) : Int × Int := (sg b * a / (Int.gcd a b : Int), sg b * b / (Int.gcd a b : Int))
theorem fdiv_pos (a : Int) {b : Int} (h : 0 ≤ b) : a.fdiv b = a / b := Int.fdiv_eq_ediv_of_nonneg a h
theorem fmod_pos (a : Int) {b : Int} (h : 0 ≤ b) : a.fmod b = a % b := Int.fmod_eq_emod_of_nonneg a h
theorem oMod_pos {a b : Int} (h : 0 < b) (g : G) : oMod (.int a) (.int b) g = .ok (.int (a % b)) g := by
  show (if b ≠ 0 then Res.ok (D.int (a.fmod b)) g else .stuck) = _
  rw [if_pos (by omega), fmod_pos a (by omega)]
theorem oDiv_pos {a b : Int} (h : 0 < b) (h2 : b < 1073741824) (g : G) : oDiv (.int a) (.int b) g = .ok (.int (a / b)) g := by
  show (if b ≠ 0 ∧ b.natAbs < 1073741824 then Res.ok (D.int (a.fdiv b)) g else _) = _
  rw [if_pos ⟨by omega, by omega⟩, fdiv_pos a (by omega)]
theorem oMul_ok' {a b : Int} (h : -(2 ^ 64) < b ∧ b < 2 ^ 64) (g : G) : oMul (.int a) (.int b) g = .ok (.int (a * b)) g := by
  have e : mulOk a b = true := by
    unfold mulOk
    rw [decide_eq_true (p := -(2 ^ 64) < b ∧ b < 2 ^ 64) h]
    simp
  show (if mulOk a b = true then Res.ok (D.int (a * b)) g else .stuck) = _
  rw [if_pos e]
theorem oMul_okl {a b : Int} (h : -(2 ^ 64) < a ∧ a < 2 ^ 64) (g : G) : oMul (.int a) (.int b) g = .ok (.int (a * b)) g := by
  have e : mulOk a b = true := by
    unfold mulOk
    rw [decide_eq_true (p := -(2 ^ 64) < a ∧ a < 2 ^ 64) h]
    simp
  show (if mulOk a b = true then Res.ok (D.int (a * b)) g else .stuck) = _
  rw [if_pos e]
theorem gcd_step (l r : Int) (hl : 0 ≤ l) (hr : 0 < r) : Int.gcd r (l % r) = Int.gcd l r := by
  have e : (l % r).natAbs = l.natAbs % r.natAbs := by
    rw [Int.natAbs_emod l (by omega), if_pos (.inl hl)]
  show Nat.gcd r.natAbs (l % r).natAbs = Nat.gcd l.natAbs r.natAbs
  rw [e, Nat.gcd_comm l.natAbs, Nat.gcd_rec r.natAbs l.natAbs, Nat.gcd_comm]
theorem eq_int (g : G) (a b : Int) : eqPy g (.int a) (.int b) = some (a == b) := rfl
theorem loop_share (g : G) (x y z : Option D) : ∀ (n : Nat) (l r : Int), 0 ≤ l → 0 ≤ r → r.natAbs + 2 ≤ n →
    whileD (fB (fBin oNe (fVar 3) (fC (.int 0)))) (sSeq (sPar 2 3 (fCons (fVar 3) (fCons (fBin oMod (fVar 2) (fVar 3)) fNil))) sNil) n [x, y, some (.int l), some (.int r), z] g = .nx [x, y, some (.int (Int.gcd l r : Int)), some (.int 0), z] g := by
  intro n
  induction n with
  | zero => intro l r _ _ h; omega
  | succ n ih =>
    intro l r hl hr hn
    have ht : fB (fBin oNe (fVar 3) (fC (.int 0))) [x, y, some (.int l), some (.int r), z] g = .ok (!(r == 0)) g := rfl
    unfold whileD
    rw [ht]
    by_cases e : r = 0
    · subst e
      show RSt.nx _ g = _
      simp [Int.natAbs_of_nonneg hl]
    · have e2 : (!(r == 0)) = true := by simpa using e
      rw [e2]
      show (match sSeq (sPar 2 3 (fCons (fVar 3) (fCons (fBin oMod (fVar 2) (fVar 3)) fNil))) sNil [x, y, some (.int l), some (.int r), z] g with
        | .nx ρ2 g2 => whileD _ _ n ρ2 g2
        | .ct ρ2 g2 => whileD _ _ n ρ2 g2
        | .bk ρ2 g2 => .nx ρ2 g2
        | r => r) = _
      have hb : sSeq (sPar 2 3 (fCons (fVar 3) (fCons (fBin oMod (fVar 2) (fVar 3)) fNil))) sNil [x, y, some (.int l), some (.int r), z] g = .nx [x, y, some (.int r), some (.int (l % r)), z] g := by
        have hm : fBin oMod (fVar 2) (fVar 3) [x, y, some (.int l), some (.int r), z] g = .ok (.int (l % r)) g := oMod_pos (by omega) g
        have h3 : fVar 3 [x, y, some (D.int l), some (.int r), z] g = .ok (.int r) g := rfl
        simp only [sSeq, sPar, fCons, h3, hm, fNil, Res.bind, Res.toS]
        rfl
      rw [hb]
      have hp : 0 < r := by omega
      have h1 := Int.emod_nonneg l (show r ≠ 0 by omega)
      have h2 := Int.emod_lt_of_pos l hp
      show whileD _ _ n _ g = _
      rw [ih r (l % r) hr h1 (by omega), gcd_step l r hl hp]
theorem sg_cases (b : Int) : sg b = 1 ∨ sg b = -1 := by unfold sg; split <;> simp
theorem gcd_pos {a b : Int} (h : b ≠ 0) : 0 < (Int.gcd a b : Int) := by
  have : Int.gcd a b ≠ 0 := fun e => h ((Int.gcd_eq_zero_iff.mp e).2)
  omega
theorem gcd_le {a b : Int} (h : b ≠ 0) : (Int.gcd a b : Int) ≤ b.natAbs := by
  have := Nat.le_of_dvd (by omega : 0 < b.natAbs) (Nat.gcd_dvd_right a.natAbs b.natAbs)
  exact_mod_cast this
theorem gcd_abs (a b : Int) : Int.gcd (a.natAbs : Int) (b.natAbs : Int) = Int.gcd a b := by simp [Int.gcd]
theorem abs_if (a : Int) : (if a < 0 then -a else a) = (a.natAbs : Int) := by split <;> omega
theorem share_zero (a : Int) (g : G) : F_share [.int a, .int 0] g = .err 1 g := rfl
theorem share_spec (a b : Int) (g : G) (h : b ≠ 0) (hb : b.natAbs < 1073741824) : F_share [.int a, .int b] g = .ok (.tup [.int (nrm a b).1, .int (nrm a b).2]) g := by
  have ht : fB (fBin oEq (fVar 1) (fC (.int 0))) [some (.int a), some (.int b), none, none, none] g = .ok (b == 0) g := rfl
  have e0 : (b == 0) = false := by simpa using h
  have hd := gcd_pos (a := a) h
  have hle := gcd_le (a := a) h
  unfold F_share runB B_share
  show (match sSeq _ _ [some (.int a), some (.int b), none, none, none] g with
    | .nx _ g' => Res.ok D.non g'
    | .rt d g' => .ok d g'
    | .err c _ g' => .err c g'
    | _ => .stuck) = _
  have s1 : sIf (fB (fBin oEq (fVar 1) (fC (.int 0)))) (sSeq (sErr 1) sNil) sNil [some (.int a), some (.int b), none, none, none] g = .nx [some (.int a), some (.int b), none, none, none] g := by
    unfold sIf; rw [ht, e0]; rfl
  have s2 : sPar 2 3 (fCons (fBi bAbs (fCons (fVar 0) fNil)) (fCons (fBi bAbs (fCons (fVar 1) fNil)) fNil)) [some (.int a), some (.int b), none, none, none] g = .nx [some (.int a), some (.int b), some (.int a.natAbs), some (.int b.natAbs), none] g := by
    have a0 : fBi bAbs (fCons (fVar 0) fNil) [some (.int a), some (.int b), none, none, none] g = .ok (.int a.natAbs) g := by
      show Res.ok (D.int (if a < 0 then -a else a)) g = _
      rw [abs_if]
    have a1 : fBi bAbs (fCons (fVar 1) fNil) [some (.int a), some (.int b), none, none, none] g = .ok (.int b.natAbs) g := by
      show Res.ok (D.int (if b < 0 then -b else b)) g = _
      rw [abs_if]
    simp only [sPar, fCons, a0, a1, fNil, Res.bind, Res.toS]
    rfl
  have s3 : sWh (fB (fBin oNe (fVar 3) (fC (.int 0)))) (sSeq (sPar 2 3 (fCons (fVar 3) (fCons (fBin oMod (fVar 2) (fVar 3)) fNil))) sNil) (turnsOf 3) [some (.int a), some (.int b), some (.int a.natAbs), some (.int b.natAbs), none] g
      = .nx [some (.int a), some (.int b), some (.int (Int.gcd a b : Int)), some (.int 0), none] g := by
    unfold sWh
    rw [loop_share g _ _ _ _ _ _ (by omega) (by omega) (by show _ ≤ (b.natAbs : Int).natAbs + 2; omega), gcd_abs]
  have s4 : sAsg (fIf (fB (fBin oGt (fVar 1) (fC (.int 0)))) (fC (.int 1)) (fBin oSub (fC (.int 0)) (fC (.int 1)))) (gNm 4) [some (.int a), some (.int b), some (.int (Int.gcd a b : Int)), some (.int 0), none] g
      = .nx [some (.int a), some (.int b), some (.int (Int.gcd a b : Int)), some (.int 0), some (.int (sg b))] g := by
    have hc : fB (fBin oGt (fVar 1) (fC (.int 0))) [some (.int a), some (.int b), some (.int (Int.gcd a b : Int)), some (.int 0), none] g = .ok (decide (0 < b)) g := rfl
    unfold sAsg fIf sg
    rw [hc]
    by_cases hp : 0 < b
    · simp only [hp, decide_true, if_true]; rfl
    · simp only [hp, decide_false, if_false]; rfl
  have s5 : sRt (fTup (fCons (fBin oDiv (fBin oMul (fVar 4) (fVar 0)) (fVar 2)) (fCons (fBin oDiv (fBin oMul (fVar 4) (fVar 1)) (fVar 2)) fNil))) [some (.int a), some (.int b), some (.int (Int.gcd a b : Int)), some (.int 0), some (.int (sg b))] g
      = .rt (.tup [.int (nrm a b).1, .int (nrm a b).2]) g := by
    have hsg : -(2 ^ 64) < sg b ∧ sg b < 2 ^ 64 := by rcases sg_cases b with e | e <;> rw [e] <;> decide
    have m1 : fBin oMul (fVar 4) (fVar 0) [some (.int a), some (.int b), some (.int (Int.gcd a b : Int)), some (.int 0), some (.int (sg b))] g = .ok (.int (sg b * a)) g := oMul_okl hsg g
    have m2 : fBin oMul (fVar 4) (fVar 1) [some (.int a), some (.int b), some (.int (Int.gcd a b : Int)), some (.int 0), some (.int (sg b))] g = .ok (.int (sg b * b)) g := oMul_okl hsg g
    have d1 : fBin oDiv (fBin oMul (fVar 4) (fVar 0)) (fVar 2) [some (.int a), some (.int b), some (.int (Int.gcd a b : Int)), some (.int 0), some (.int (sg b))] g = .ok (.int (nrm a b).1) g := by
      unfold fBin at m1 ⊢
      rw [m1]
      exact oDiv_pos hd (by omega) g
    have d2 : fBin oDiv (fBin oMul (fVar 4) (fVar 1)) (fVar 2) [some (.int a), some (.int b), some (.int (Int.gcd a b : Int)), some (.int 0), some (.int (sg b))] g = .ok (.int (nrm a b).2) g := by
      unfold fBin at m2 ⊢
      rw [m2]
      exact oDiv_pos hd (by omega) g
    simp only [sRt, fTup, fCons, d1, d2, fNil, Res.bind, Res.toS]
    rfl
  simp only [sSeq, s1, s2, s3, s4, s5]
end K01
end
section
set_option Elab.async false
set_option linter.all false
set_option maxRecDepth 100000
set_option maxHeartbeats 4000000
namespace K01
open PySem Dl
theorem gcd_turn (n : Nat) (a b : Int) (g : G) (hb : 0 ≤ b) : F__law_gcd (n + 1) [.int a, .int b] g = if b = 0 then .ok (.int a) g else F__law_gcd n [.int b, .int (a % b)] g := by
  have ht : fB (fBin oEq (fVar 1) (fC (.int 0))) [some (.int a), some (.int b)] g = .ok (b == 0) g := rfl
  show (match sSeq (sRt (fIf (fB (fBin oEq (fVar 1) (fC (.int 0)))) (fVar 0) (fCall (F__law_gcd n) (fCons (fVar 1) (fCons (fBin oMod (fVar 0) (fVar 1)) fNil))))) sNil [some (.int a), some (.int b)] g with
    | .nx _ g' => Res.ok D.non g'
    | .rt d g' => .ok d g'
    | .err c _ g' => .err c g'
    | _ => .stuck) = _
  by_cases e : b = 0
  · subst e; rfl
  · have e0 : (b == 0) = false := by simpa using e
    have hm : fBin oMod (fVar 0) (fVar 1) [some (.int a), some (.int b)] g = .ok (.int (a % b)) g := oMod_pos (by omega) g
    have hc : fCall (F__law_gcd n) (fCons (fVar 1) (fCons (fBin oMod (fVar 0) (fVar 1)) fNil)) [some (.int a), some (.int b)] g = F__law_gcd n [.int b, .int (a % b)] g := by
      have h1 : fVar 1 [some (D.int a), some (.int b)] g = .ok (.int b) g := rfl
      simp only [fCall, fCons, h1, hm, fNil, Res.bind]
    rw [if_neg e]
    simp only [sSeq, sRt, fIf, ht, e0, Res.bind, hc]
    cases F__law_gcd n [.int b, .int (a % b)] g <;> rfl
theorem law_gcd_spec : ∀ (m n : Nat) (a b : Int) (g : G), 2 * m + 1 ≤ n → 0 ≤ a → 0 ≤ b → b < 2 ^ m → F__law_gcd n [.int a, .int b] g = .ok (.int (Int.gcd a b : Int)) g := by
  intro m
  induction m with
  | zero =>
    intro n a b g hn ha hb hlt
    obtain ⟨n, rfl⟩ : ∃ k, n = k + 1 := ⟨n - 1, by omega⟩
    have e : b = 0 := by simp at hlt; omega
    subst e
    rw [gcd_turn n a 0 g (by omega), if_pos rfl]
    simp [Int.natAbs_of_nonneg ha]
  | succ m ih =>
    intro n a b g hn ha hb hlt
    obtain ⟨n, rfl⟩ : ∃ k, n = k + 2 := ⟨n - 2, by omega⟩
    rw [gcd_turn (n + 1) a b g hb]
    by_cases e : b = 0
    · subst e; rw [if_pos rfl]; simp [Int.natAbs_of_nonneg ha]
    · rw [if_neg e]
      have h1 := Int.emod_nonneg a (show b ≠ 0 from e)
      have h2 := Int.emod_lt_of_pos a (show 0 < b by omega)
      have hg := gcd_step a b ha (by omega)
      rw [gcd_turn n b (a % b) g h1]
      by_cases e2 : a % b = 0
      · rw [if_pos e2, ← hg, e2]
        simp [Int.natAbs_of_nonneg hb]
      · rw [if_neg e2]
        have h3 := Int.emod_nonneg b (show a % b ≠ 0 from e2)
        have h4 := Int.emod_lt_of_pos b (show 0 < a % b by omega)
        have h5 : b % (a % b) ≤ b - a % b := by
          have q := Int.mul_ediv_add_emod b (a % b)
          have q2 : 1 ≤ b / (a % b) := Int.le_ediv_of_mul_le (by omega) (by omega)
          have q3 : (a % b) * 1 ≤ (a % b) * (b / (a % b)) := Int.mul_le_mul_of_nonneg_left q2 h1
          omega
        have h6 : b % (a % b) < 2 ^ m := by
          have : (2 : Int) ^ (m + 1) = 2 ^ m * 2 := Int.pow_succ ..
          omega
        rw [ih n (a % b) (b % (a % b)) g (by omega) h1 h3 h6, gcd_step b (a % b) hb (by omega), hg]
theorem law_share_spec (a b : Int) (g : G) (h : b ≠ 0) (hb : b.natAbs < 536870912) : F__law_share [.int a, .int b] g = .ok (.tup [.int (nrm a b).1, .int (nrm a b).2]) g := by
  have hd := gcd_pos (a := a) h
  have hle := gcd_le (a := a) h
  have s1 : sAsg (fIf (fB (fBin oLt (fVar 1) (fC (.int 0)))) (fNeg (fC (.int 1))) (fC (.int 1))) (gNm 2) [some (.int a), some (.int b), none, none] g = .nx [some (.int a), some (.int b), some (.int (sg b)), none] g := by
    have hc : fB (fBin oLt (fVar 1) (fC (.int 0))) [some (.int a), some (.int b), none, none] g = .ok (decide (b < 0)) g := rfl
    unfold sAsg fIf sg
    rw [hc]
    by_cases hp : b < 0
    · have : ¬ 0 < b := by omega
      simp only [hp, this, decide_true, if_true, if_false]; rfl
    · have : 0 < b := by omega
      simp only [hp, this, decide_false, if_true, if_false]; rfl
  have s2 : sAsg (fCall (F__law_gcd 60) (fCons (fBi bAbs (fCons (fVar 0) fNil)) (fCons (fBi bAbs (fCons (fVar 1) fNil)) fNil))) (gNm 3) [some (.int a), some (.int b), some (.int (sg b)), none] g = .nx [some (.int a), some (.int b), some (.int (sg b)), some (.int (Int.gcd a b : Int))] g := by
    have a0 : fBi bAbs (fCons (fVar 0) fNil) [some (.int a), some (.int b), some (.int (sg b)), none] g = .ok (.int a.natAbs) g := by
      show Res.ok (D.int (if a < 0 then -a else a)) g = _
      rw [abs_if]
    have a1 : fBi bAbs (fCons (fVar 1) fNil) [some (.int a), some (.int b), some (.int (sg b)), none] g = .ok (.int b.natAbs) g := by
      show Res.ok (D.int (if b < 0 then -b else b)) g = _
      rw [abs_if]
    have hc : fCall (F__law_gcd 60) (fCons (fBi bAbs (fCons (fVar 0) fNil)) (fCons (fBi bAbs (fCons (fVar 1) fNil)) fNil)) [some (.int a), some (.int b), some (.int (sg b)), none] g = .ok (.int (Int.gcd a b : Int)) g := by
      simp only [fCall, fCons, a0, a1, fNil, Res.bind]
      rw [law_gcd_spec 29 60 _ _ g (by omega) (by omega) (by omega) (by omega), gcd_abs]
    simp only [sAsg, hc, Res.toS]
    rfl
  have s5 : sRt (fTup (fCons (fBin oDiv (fBin oMul (fVar 2) (fVar 0)) (fVar 3)) (fCons (fBin oDiv (fBin oMul (fVar 2) (fVar 1)) (fVar 3)) fNil))) [some (.int a), some (.int b), some (.int (sg b)), some (.int (Int.gcd a b : Int))] g
      = .rt (.tup [.int (nrm a b).1, .int (nrm a b).2]) g := by
    have hsg : -(2 ^ 64) < sg b ∧ sg b < 2 ^ 64 := by rcases sg_cases b with e | e <;> rw [e] <;> decide
    have m1 : fBin oMul (fVar 2) (fVar 0) [some (.int a), some (.int b), some (.int (sg b)), some (.int (Int.gcd a b : Int))] g = .ok (.int (sg b * a)) g := oMul_okl hsg g
    have m2 : fBin oMul (fVar 2) (fVar 1) [some (.int a), some (.int b), some (.int (sg b)), some (.int (Int.gcd a b : Int))] g = .ok (.int (sg b * b)) g := oMul_okl hsg g
    have d1 : fBin oDiv (fBin oMul (fVar 2) (fVar 0)) (fVar 3) [some (.int a), some (.int b), some (.int (sg b)), some (.int (Int.gcd a b : Int))] g = .ok (.int (nrm a b).1) g := by
      unfold fBin at m1 ⊢
      rw [m1]
      exact oDiv_pos hd (by omega) g
    have d2 : fBin oDiv (fBin oMul (fVar 2) (fVar 1)) (fVar 3) [some (.int a), some (.int b), some (.int (sg b)), some (.int (Int.gcd a b : Int))] g = .ok (.int (nrm a b).2) g := by
      unfold fBin at m2 ⊢
      rw [m2]
      exact oDiv_pos hd (by omega) g
    simp only [sRt, fTup, fCons, d1, d2, fNil, Res.bind, Res.toS]
    rfl
  show (match B__law_share [some (.int a), some (.int b), none, none] g with
    | .nx _ g' => Res.ok D.non g'
    | .rt d g' => .ok d g'
    | .err c _ g' => .err c g'
    | _ => .stuck) = _
  unfold B__law_share
  simp only [sSeq, s1, s2, s5]
end K01
end
section
set_option Elab.async false
set_option linter.all false
set_option maxRecDepth 100000
set_option maxHeartbeats 4000000
namespace K01
open PySem Dl
/-- in least form, the lower part above 0 -/
def Red (a b : Int) : Prop := 0 < b ∧ Int.gcd a b = 1
theorem nrm_facts (a b : Int) (h : b ≠ 0) : Red (nrm a b).1 (nrm a b).2 ∧ (nrm a b).1 * b = a * (nrm a b).2 ∧ (nrm a b).2 ≤ b.natAbs ∧ (nrm a b).1.natAbs ≤ a.natAbs := by
  have hd := gcd_pos (a := a) h
  obtain ⟨a', ha⟩ := Int.gcd_dvd_left (a := a) (b := b)
  obtain ⟨b', hb⟩ := Int.gcd_dvd_right (a := a) (b := b)
  have hg : Int.gcd a b = Int.gcd a b * Int.gcd a' b' := by
    have q := Int.gcd_mul_left (Int.gcd a b : Int) a' b'
    rw [← ha, ← hb] at q
    simpa using q
  have p0 : (nrm a b).1 = sg b * a / (Int.gcd a b : Int) := rfl
  have q0 : (nrm a b).2 = sg b * b / (Int.gcd a b : Int) := rfl
  generalize (nrm a b).1 = p at *
  generalize (nrm a b).2 = q at *
  generalize Int.gcd a b = d at *
  have h1 : Int.gcd a' b' = 1 := by
    have : d * Int.gcd a' b' = d * 1 := by omega
    exact Nat.eq_of_mul_eq_mul_left (by omega) this
  have e1 : sg b * a / (d : Int) = sg b * a' := by
    rw [ha, show sg b * ((d : Int) * a') = (d : Int) * (sg b * a') by rw [Int.mul_left_comm]]
    exact Int.mul_ediv_cancel_left _ (by omega)
  have e2 : sg b * b / (d : Int) = sg b * b' := by
    conv => lhs; rw [hb]
    rw [show sg ((d : Int) * b') * ((d : Int) * b') = (d : Int) * (sg ((d : Int) * b') * b') by rw [Int.mul_left_comm], ← hb]
    exact Int.mul_ediv_cancel_left _ (by omega)
  have hb' : b' ≠ 0 := fun z => by rw [z] at hb; omega
  have hs : (0 < b ∧ 0 < b' ∧ sg b = 1) ∨ (b < 0 ∧ b' < 0 ∧ sg b = -1) := by
    rcases Int.lt_or_gt_of_ne h with q | q
    · right
      refine ⟨q, ?_, by unfold sg; rw [if_neg (by omega)]⟩
      rcases Int.lt_or_gt_of_ne hb' with r | r
      · exact r
      · have := Int.mul_pos hd r
        omega
    · left
      refine ⟨q, ?_, by unfold sg; rw [if_pos q]⟩
      rcases Int.lt_or_gt_of_ne hb' with r | r
      · have := Int.mul_neg_of_pos_of_neg hd r
        omega
      · exact r
  have na : a.natAbs = d * a'.natAbs := by
    have := congrArg Int.natAbs ha
    rw [Int.natAbs_mul] at this
    simpa using this
  have nb : b.natAbs = d * b'.natAbs := by
    have := congrArg Int.natAbs hb
    rw [Int.natAbs_mul] at this
    simpa using this
  have d1 : 1 ≤ d := by omega
  have la : a'.natAbs ≤ a.natAbs := by rw [na]; exact Nat.le_mul_of_pos_left _ d1
  have lb : b'.natAbs ≤ b.natAbs := by rw [nb]; exact Nat.le_mul_of_pos_left _ d1
  have hcross : a' * b = a * b' := by
    conv => lhs; rw [hb]
    conv => rhs; rw [ha]
    rw [Int.mul_left_comm, Int.mul_assoc]
  rw [e1] at p0
  rw [e2] at q0
  rcases hs with ⟨s1, s2, s3⟩ | ⟨s1, s2, s3⟩
  · rw [s3, Int.one_mul] at p0 q0
    subst p0 q0
    exact ⟨⟨s2, h1⟩, hcross, by omega, la⟩
  · rw [s3, Int.neg_one_mul] at p0 q0
    subst p0 q0
    refine ⟨⟨by omega, by rw [Int.gcd_neg, Int.neg_gcd]; exact h1⟩, ?_, by omega, by rw [Int.natAbs_neg]; exact la⟩
    rw [Int.neg_mul, Int.mul_neg, hcross]
theorem red_unique {a b c d : Int} (h1 : Red a b) (h2 : Red c d) (e : a * d = c * b) : a = c ∧ b = d := by
  have n := congrArg Int.natAbs e
  rw [Int.natAbs_mul, Int.natAbs_mul] at n
  have g1 : Nat.Coprime b.natAbs a.natAbs := by
    have := h1.2
    unfold Int.gcd at this
    rw [Nat.gcd_comm] at this
    exact this
  have g2 : Nat.Coprime d.natAbs c.natAbs := by
    have := h2.2
    unfold Int.gcd at this
    rw [Nat.gcd_comm] at this
    exact this
  have d1 : b.natAbs ∣ d.natAbs := g1.dvd_of_dvd_mul_left (by rw [n]; exact Nat.dvd_mul_left _ _)
  have d2 : d.natAbs ∣ b.natAbs := g2.dvd_of_dvd_mul_left (by rw [← n]; exact Nat.dvd_mul_left _ _)
  have eb : b.natAbs = d.natAbs := Nat.dvd_antisymm d1 d2
  have b0 := h1.1
  have d0 := h2.1
  have eb2 : b = d := by omega
  refine ⟨?_, eb2⟩
  rw [eb2] at e
  exact Int.eq_of_mul_eq_mul_right (by omega) e
/-- the least form is one and the same -/
theorem nrm_eq {a b c d : Int} (hb : b ≠ 0) (h : Red c d) (e : a * d = c * b) : nrm a b = (c, d) := by
  obtain ⟨r, x, _⟩ := nrm_facts a b hb
  have : (nrm a b).1 * d = c * (nrm a b).2 := by
    have h1 : (nrm a b).1 * b * d = a * (nrm a b).2 * d := by rw [x]
    have h2 : (nrm a b).1 * d * b = c * (nrm a b).2 * b := by
      calc (nrm a b).1 * d * b = (nrm a b).1 * b * d := by rw [Int.mul_right_comm]
        _ = a * (nrm a b).2 * d := h1
        _ = a * d * (nrm a b).2 := by rw [Int.mul_right_comm]
        _ = c * b * (nrm a b).2 := by rw [e]
        _ = c * (nrm a b).2 * b := by rw [Int.mul_right_comm]
    exact Int.eq_of_mul_eq_mul_right hb h2
  obtain ⟨q1, q2⟩ := red_unique r h this
  exact Prod.ext q1 q2
end K01
end
section
set_option Elab.async false
set_option linter.all false
set_option maxRecDepth 100000
set_option maxHeartbeats 4000000
namespace K01
open PySem Dl
abbrev fr (a b : Int) : D := .tup [.int a, .int b]
abbrev frn (p : Int × Int) : D := .tup [.int p.1, .int p.2]
theorem run_ret (m : Nat) (fe : FE) (ds : List D) (g : G) : runB m (sSeq (sRt fe) sNil) ds g = fe (ds.map some ++ List.replicate (m - ds.length) none) g := by
  unfold runB sSeq sRt
  cases fe (ds.map some ++ List.replicate (m - ds.length) none) g <;> rfl
theorem ix0 (a b : Int) (g : G) : oIx (fr a b) (.int 0) g = .ok (.int a) g := rfl
theorem ix1 (a b : Int) (g : G) : oIx (fr a b) (.int 1) g = .ok (.int b) g := rfl
theorem v0 (a b : Option D) (r : Env') (g : G) (x : D) : fVar 0 (some x :: r) g = .ok x g := rfl
theorem lt64 {b : Int} (h : b.natAbs < 1073741824) : -(2 ^ 64) < b ∧ b < 2 ^ 64 := by omega
theorem plus_spec (a b c d : Int) (g : G) (hb : b.natAbs < 1073741824) (hd : d.natAbs < 1073741824) (h0 : b * d ≠ 0) (h1 : (b * d).natAbs < 1073741824) : F_plus [fr a b, fr c d] g = .ok (frn (nrm (a * d + c * b) (b * d))) g := by
  have m1 := oMul_ok' (a := a) (lt64 hd) g
  have m2 := oMul_ok' (a := c) (lt64 hb) g
  have m3 := oMul_ok' (a := b) (lt64 hd) g
  have e1 : fVar 0 [some (fr a b), some (fr c d)] g = .ok (fr a b) g := rfl
  have e2 : fVar 1 [some (fr a b), some (fr c d)] g = .ok (fr c d) g := rfl
  have e3 : oAdd (.int (a * d)) (.int (c * b)) g = .ok (.int (a * d + c * b)) g := rfl
  unfold F_plus B_plus
  rw [run_ret]
  show fCall F_share _ [some (fr a b), some (fr c d)] g = _
  simp only [fCall, fCons, fNil, fBin, fC, Res.bind, e1, e2, ix0, ix1, m1, m2, m3, e3]
  exact share_spec _ _ g h0 h1
theorem law_add_spec (a b c d : Int) (g : G) (hb : b.natAbs < 1073741824) (hd : d.natAbs < 1073741824) (h0 : b * d ≠ 0) (h1 : (b * d).natAbs < 536870912) : F__law_add [fr a b, fr c d] g = .ok (frn (nrm (a * d + c * b) (b * d))) g := by
  have m1 := oMul_ok' (a := a) (lt64 hd) g
  have m2 := oMul_ok' (a := c) (lt64 hb) g
  have m3 := oMul_ok' (a := b) (lt64 hd) g
  have e1 : fVar 0 [some (fr a b), some (fr c d)] g = .ok (fr a b) g := rfl
  have e2 : fVar 1 [some (fr a b), some (fr c d)] g = .ok (fr c d) g := rfl
  have e3 : oAdd (.int (a * d)) (.int (c * b)) g = .ok (.int (a * d + c * b)) g := rfl
  unfold F__law_add B__law_add
  rw [run_ret]
  show fCall F__law_share _ [some (fr a b), some (fr c d)] g = _
  simp only [fCall, fCons, fNil, fBin, fC, Res.bind, e1, e2, ix0, ix1, m1, m2, m3, e3]
  exact law_share_spec _ _ g h0 h1
theorem minus_spec (a b c d : Int) (g : G) (hb : b.natAbs < 1073741824) (hd : d.natAbs < 1073741824) (h0 : b * d ≠ 0) (h1 : (b * d).natAbs < 1073741824) : F_minus [fr a b, fr c d] g = .ok (frn (nrm (a * d - c * b) (b * d))) g := by
  have m1 := oMul_ok' (a := a) (lt64 hd) g
  have m2 := oMul_ok' (a := c) (lt64 hb) g
  have m3 := oMul_ok' (a := b) (lt64 hd) g
  have e1 : fVar 0 [some (fr a b), some (fr c d)] g = .ok (fr a b) g := rfl
  have e2 : fVar 1 [some (fr a b), some (fr c d)] g = .ok (fr c d) g := rfl
  have e3 : oSub (.int (a * d)) (.int (c * b)) g = .ok (.int (a * d - c * b)) g := rfl
  unfold F_minus B_minus
  rw [run_ret]
  show fCall F_share _ [some (fr a b), some (fr c d)] g = _
  simp only [fCall, fCons, fNil, fBin, fC, Res.bind, e1, e2, ix0, ix1, m1, m2, m3, e3]
  exact share_spec _ _ g h0 h1
theorem times_spec (a b c d : Int) (g : G) (hc : c.natAbs < 1073741824) (hd : d.natAbs < 1073741824) (h0 : b * d ≠ 0) (h1 : (b * d).natAbs < 1073741824) : F_times [fr a b, fr c d] g = .ok (frn (nrm (a * c) (b * d))) g := by
  have m1 := oMul_ok' (a := a) (lt64 hc) g
  have m3 := oMul_ok' (a := b) (lt64 hd) g
  have e1 : fVar 0 [some (fr a b), some (fr c d)] g = .ok (fr a b) g := rfl
  have e2 : fVar 1 [some (fr a b), some (fr c d)] g = .ok (fr c d) g := rfl
  unfold F_times B_times
  rw [run_ret]
  show fCall F_share _ [some (fr a b), some (fr c d)] g = _
  simp only [fCall, fCons, fNil, fBin, fC, Res.bind, e1, e2, ix0, ix1, m1, m3]
  exact share_spec _ _ g h0 h1
theorem law_mul_spec (a b c d : Int) (g : G) (hc : c.natAbs < 1073741824) (hd : d.natAbs < 1073741824) (h0 : b * d ≠ 0) (h1 : (b * d).natAbs < 536870912) : F__law_mul [fr a b, fr c d] g = .ok (frn (nrm (a * c) (b * d))) g := by
  have m1 := oMul_ok' (a := a) (lt64 hc) g
  have m3 := oMul_ok' (a := b) (lt64 hd) g
  have e1 : fVar 0 [some (fr a b), some (fr c d)] g = .ok (fr a b) g := rfl
  have e2 : fVar 1 [some (fr a b), some (fr c d)] g = .ok (fr c d) g := rfl
  unfold F__law_mul B__law_mul
  rw [run_ret]
  show fCall F__law_share _ [some (fr a b), some (fr c d)] g = _
  simp only [fCall, fCons, fNil, fBin, fC, Res.bind, e1, e2, ix0, ix1, m1, m3]
  exact law_share_spec _ _ g h0 h1
theorem less_spec (a b c d : Int) (g : G) (hb : b.natAbs < 1073741824) (hd : d.natAbs < 1073741824) : F_is_less [fr a b, fr c d] g = .ok (.bl (decide (a * d < c * b))) g := by
  have m1 := oMul_ok' (a := a) (lt64 hd) g
  have m2 := oMul_ok' (a := c) (lt64 hb) g
  have e1 : fVar 0 [some (fr a b), some (fr c d)] g = .ok (fr a b) g := rfl
  have e2 : fVar 1 [some (fr a b), some (fr c d)] g = .ok (fr c d) g := rfl
  unfold F_is_less B_is_less
  rw [run_ret]
  show fBin oLt _ _ [some (fr a b), some (fr c d)] g = _
  simp only [fBin, fC, Res.bind, e1, e2, ix0, ix1, m1, m2]
  rfl
theorem law_less_spec (a b c d : Int) (g : G) (hb : b.natAbs < 1073741824) (hd : d.natAbs < 1073741824) : F__law_less [fr a b, fr c d] g = .ok (.bl (decide (a * d < c * b))) g := less_spec a b c d g hb hd
theorem below_spec (a b : Int) (g : G) (h : 0 < b) (h2 : b < 1073741824) : F_below [fr a b] g = .ok (.int (a / b)) g := by
  have e1 : fVar 0 [some (fr a b)] g = .ok (fr a b) g := rfl
  unfold F_below B_below
  rw [run_ret]
  show fBin oDiv _ _ [some (fr a b)] g = _
  simp only [fBin, fC, Res.bind, e1, ix0, ix1, oDiv_pos h h2]
theorem above_spec (a b : Int) (g : G) (h : 0 < b) (h2 : b < 1073741824) : F_above [fr a b] g = .ok (.int (0 - (0 - a) / b)) g := by
  have e1 : fVar 0 [some (fr a b)] g = .ok (fr a b) g := rfl
  have e2 : oSub (.int 0) (.int a) g = .ok (.int (0 - a)) g := rfl
  unfold F_above B_above
  rw [run_ret]
  show fBin oSub _ _ [some (fr a b)] g = _
  simp only [fBin, fC, Res.bind, e1, ix0, ix1, e2, oDiv_pos h h2]
  rfl
theorem nearest_spec (a b : Int) (g : G) (h : 0 < b) (h2 : b < 536870912) : F_nearest [fr a b] g = .ok (.int ((2 * a + b) / (2 * b))) g := by
  have e1 : fVar 0 [some (fr a b)] g = .ok (fr a b) g := rfl
  have m1 := oMul_okl (a := 2) (b := a) (by decide) g
  have m2 := oMul_okl (a := 2) (b := b) (by decide) g
  have e2 : oAdd (.int (2 * a)) (.int b) g = .ok (.int (2 * a + b)) g := rfl
  unfold F_nearest B_nearest
  rw [run_ret]
  show fBin oDiv _ _ [some (fr a b)] g = _
  simp only [fBin, fC, Res.bind, e1, ix0, ix1, m1, m2, e2, oDiv_pos (show 0 < 2 * b by omega) (show 2 * b < 1073741824 by omega)]
theorem whole_spec (a : Int) (g : G) : F_whole [.int a] g = .ok (fr a 1) g := rfl
theorem parted_zero (a b d : Int) (g : G) : F_parted [fr a b, fr 0 d] g = .err 1 g := rfl
theorem parted_spec (a b c d : Int) (g : G) (hc : c ≠ 0) (hc2 : c.natAbs < 1073741824) (hd : d.natAbs < 1073741824) (h0 : b * c ≠ 0) (h1 : (b * c).natAbs < 1073741824) : F_parted [fr a b, fr c d] g = .ok (frn (nrm (a * d) (b * c))) g := by
  have m1 := oMul_ok' (a := a) (lt64 hd) g
  have m3 := oMul_ok' (a := b) (lt64 hc2) g
  have e1 : fVar 0 [some (fr a b), some (fr c d)] g = .ok (fr a b) g := rfl
  have e2 : fVar 1 [some (fr a b), some (fr c d)] g = .ok (fr c d) g := rfl
  have e0 : (c == 0) = false := by simpa using hc
  have ht : fB (fBin oEq (fBin oIx (fVar 1) (fC (.int 0))) (fC (.int 0))) [some (fr a b), some (fr c d)] g = .ok (c == 0) g := rfl
  have s1 : sIf (fB (fBin oEq (fBin oIx (fVar 1) (fC (.int 0))) (fC (.int 0)))) (sSeq (sErr 1) sNil) sNil [some (fr a b), some (fr c d)] g = .nx [some (fr a b), some (fr c d)] g := by
    unfold sIf; rw [ht, e0]; rfl
  have hc : fCall F_share (fCons (fBin oMul (fBin oIx (fVar 0) (fC (.int 0))) (fBin oIx (fVar 1) (fC (.int 1)))) (fCons (fBin oMul (fBin oIx (fVar 0) (fC (.int 1))) (fBin oIx (fVar 1) (fC (.int 0)))) fNil)) [some (fr a b), some (fr c d)] g = .ok (frn (nrm (a * d) (b * c))) g := by
    simp only [fCall, fCons, fNil, fBin, fC, Res.bind, e1, e2, ix0, ix1, m1, m3]
    exact share_spec _ _ g h0 h1
  show (match B_parted [some (fr a b), some (fr c d)] g with
    | .nx _ g' => Res.ok D.non g'
    | .rt d g' => .ok d g'
    | .err c _ g' => .err c g'
    | _ => .stuck) = _
  unfold B_parted
  simp only [sSeq, s1, sRt, hc, Res.toS]
end K01
end
section
set_option Elab.async false
set_option linter.all false
set_option maxRecDepth 100000
set_option maxHeartbeats 4000000
namespace K01
open PySem Dl
/-! ### steps -/
theorem seq_nx {a b : FS} {ρ ρ1 : Env'} {g g1 : G} (h : a ρ g = .nx ρ1 g1) : sSeq a b ρ g = b ρ1 g1 := by unfold sSeq; rw [h]
theorem seq_rt {a b : FS} {ρ : Env'} {g g1 : G} {d : D} (h : a ρ g = .rt d g1) : sSeq a b ρ g = .rt d g1 := by unfold sSeq; rw [h]
theorem if_skip {t : FT} {a b : FS} {ρ : Env'} {g g1 : G} (h : t ρ g = .ok false g1) : sIf t a b ρ g = b ρ g1 := by unfold sIf; rw [h]; rfl
theorem if_nil {t : FT} {a : FS} {ρ : Env'} {g g1 : G} (h : t ρ g = .ok false g1) : sIf t a sNil ρ g = .nx ρ g1 := by unfold sIf; rw [h]; rfl
theorem if_take {t : FT} {a b : FS} {ρ : Env'} {g g1 : G} (h : t ρ g = .ok true g1) : sIf t a b ρ g = a ρ g1 := by unfold sIf; rw [h]; rfl
theorem fB_ok {f : FE} {ρ : Env'} {g g1 : G} {b : Bool} (h : f ρ g = .ok (.bl b) g1) : fB f ρ g = .ok b g1 := by unfold fB; rw [h]; rfl
theorem bin_ok {o : F2} {f1 f2 : FE} {ρ : Env'} {g g1 g2 : G} {d e : D} (h1 : f1 ρ g = .ok d g1) (h2 : f2 ρ g1 = .ok e g2) : fBin o f1 f2 ρ g = o d e g2 := by unfold fBin; rw [h1]; show (f2 ρ g1).bind _ = _; rw [h2]; rfl
theorem cons_ok {f : FE} {r : FA} {ρ : Env'} {g g1 g2 : G} {d : D} {ds : List D} (h1 : f ρ g = .ok d g1) (h2 : r ρ g1 = .ok ds g2) : fCons f r ρ g = .ok (d :: ds) g2 := by unfold fCons; rw [h1]; show (r ρ g1).bind _ = _; rw [h2]; rfl
theorem call_ok {fn : FN} {r : FA} {ρ : Env'} {g g2 : G} {ds : List D} (h : r ρ g = .ok ds g2) : fCall fn r ρ g = fn ds g2 := by unfold fCall; rw [h]; rfl
theorem bi_ok {fn : FB} {r : FA} {ρ : Env'} {g g2 : G} {ds : List D} (h : r ρ g = .ok ds g2) : fBi fn r ρ g = fn ds g2 := by unfold fBi; rw [h]; rfl
theorem tup_ok {r : FA} {ρ : Env'} {g g2 : G} {ds : List D} (h : r ρ g = .ok ds g2) (hl : ds.length ≤ sizeLine) : fTup r ρ g = .ok (.tup ds) g2 := by unfold fTup; rw [h]; show (if ds.length ≤ sizeLine then _ else _) = _; rw [if_pos hl]
theorem or_ff {a b : FT} {ρ : Env'} {g g1 : G} (h : a ρ g = .ok false g1) : fOr a b ρ g = b ρ g1 := by unfold fOr; rw [h]; rfl
theorem or_tt {a b : FT} {ρ : Env'} {g g1 : G} (h : a ρ g = .ok true g1) : fOr a b ρ g = .ok true g1 := by unfold fOr; rw [h]; rfl
theorem and_tt {a b : FT} {ρ : Env'} {g g1 : G} (h : a ρ g = .ok true g1) : fAnd a b ρ g = b ρ g1 := by unfold fAnd; rw [h]; rfl
theorem and_ff {a b : FT} {ρ : Env'} {g g1 : G} (h : a ρ g = .ok false g1) : fAnd a b ρ g = .ok false g1 := by unfold fAnd; rw [h]; rfl
theorem not_ok {a : FT} {ρ : Env'} {g g1 : G} {b : Bool} (h : a ρ g = .ok b g1) : fNot a ρ g = .ok (!b) g1 := by unfold fNot; rw [h]; rfl
theorem fif_tt {t : FT} {a b : FE} {ρ : Env'} {g g1 : G} (h : t ρ g = .ok true g1) : fIf t a b ρ g = a ρ g1 := by unfold fIf; rw [h]; rfl
theorem fif_ff {t : FT} {a b : FE} {ρ : Env'} {g g1 : G} (h : t ρ g = .ok false g1) : fIf t a b ρ g = b ρ g1 := by unfold fIf; rw [h]; rfl
theorem asg_ok {f : FE} {fg : FG} {ρ ρ2 : Env'} {g g1 g2 : G} {d : D} (h : f ρ g = .ok d g1) (h2 : fg d ρ g1 = .ok ρ2 g2) : sAsg f fg ρ g = .nx ρ2 g2 := by unfold sAsg; rw [h]; show (fg d ρ g1).toS ρ _ = _; rw [h2]; rfl
theorem rt_ok {f : FE} {ρ : Env'} {g g1 : G} {d : D} (h : f ρ g = .ok d g1) : sRt f ρ g = .rt d g1 := by unfold sRt; rw [h]; rfl
theorem ch_tt {o o' : F2} {fa fb fc : FE} {ρ : Env'} {g g1 g2 g3 g4 : G} {x y w : D} (h1 : fa ρ g = .ok x g1) (h2 : fb ρ g1 = .ok y g2) (h3 : o x y g2 = .ok (.bl true) g3) (h4 : fc ρ g3 = .ok w g4) : fCh o o' fa fb fc ρ g = o' y w g4 := by
  unfold fCh Res.bind; simp only [h1, h2, h3, h4]
theorem ch_ff {o o' : F2} {fa fb fc : FE} {ρ : Env'} {g g1 g2 g3 : G} {x y : D} (h1 : fa ρ g = .ok x g1) (h2 : fb ρ g1 = .ok y g2) (h3 : o x y g2 = .ok (.bl false) g3) : fCh o o' fa fb fc ρ g = .ok (.bl false) g3 := by
  unfold fCh Res.bind; simp only [h1, h2, h3]
theorem run_rt {m : Nat} {b : FS} {ds : List D} {g g1 : G} {d : D} (h : b (ds.map some ++ List.replicate (m - ds.length) none) g = .rt d g1) : runB m b ds g = .ok d g1 := by unfold runB; rw [h]
/-! ### the dice -/
abbrev gg (a b c : Int) : G := [O.lst [.int a, .int b, .int c]]
def IsG (g : G) : Prop := ∃ a b c, g = gg a b c
theorem roll_spec {g : G} (hg : IsG g) {many : Int} (h : 0 < many) (h2 : many ≤ 100000000) : ∃ r g', IsG g' ∧ 0 ≤ r ∧ r < many ∧ F__law_roll 3 [.loc 0, .int many] g = .ok (.int r) g' := by
  obtain ⟨a, b, c, rfl⟩ := hg
  have hc : (fOr (fB (fBin oEq (fBin oIx (fVar 0) (fC (.int 2))) (fC (.int 2)))) (fAnd (fB (fBin oEq (fBin oIx (fVar 0) (fC (.int 2))) (fC (.int 1)))) (fB (fBin oGt (fBin oIx (fVar 0) (fC (.int 0))) (fC (.int 0)))))) [some (.loc 0), some (.int many), none] (gg a b c) = .ok (c == 2 || (c == 1 && decide (0 < a))) (gg a b c) := by
    have t1 : (fB (fBin oEq (fBin oIx (fVar 0) (fC (.int 2))) (fC (.int 2)))) [some (.loc 0), some (.int many), none] (gg a b c) = .ok (c == 2) (gg a b c) := rfl
    have t2 : (fB (fBin oEq (fBin oIx (fVar 0) (fC (.int 2))) (fC (.int 1)))) [some (.loc 0), some (.int many), none] (gg a b c) = .ok (c == 1) (gg a b c) := rfl
    have t3 : (fB (fBin oGt (fBin oIx (fVar 0) (fC (.int 0))) (fC (.int 0)))) [some (.loc 0), some (.int many), none] (gg a b c) = .ok (decide (0 < a)) (gg a b c) := rfl
    cases e1 : (c == 2) with
    | true => rw [or_tt (by rw [t1, e1])]; rfl
    | false =>
      rw [or_ff (by rw [t1, e1])]
      cases e2 : (c == 1) with
      | true => rw [and_tt (by rw [t2, e2]), t3]; rfl
      | false => rw [and_ff (by rw [t2, e2])]; rfl
  show ∃ r g', IsG g' ∧ 0 ≤ r ∧ r < many ∧ runB 3 (B__law_roll (F__law_roll 2)) [.loc 0, .int many] (gg a b c) = .ok (.int r) g'
  cases e : (c == 2 || (c == 1 && decide (0 < a))) with
  | true =>
    refine ⟨a % many, gg (a / many) b c, ⟨_, _, _, rfl⟩, Int.emod_nonneg _ (by omega), Int.emod_lt_of_pos _ h, run_rt ?_⟩
    unfold B__law_roll
    refine seq_rt ?_
    rw [if_take (by rw [← e]; exact hc)]
    have s1 : fBin oMod (fBi bInt (fCons (fBin oIx (fVar 0) (fC (.int 0))) fNil)) (fVar 1) [some (.loc 0), some (.int many), none] (gg a b c) = .ok (.int (a % many)) (gg a b c) := oMod_pos h _
    have s2 : fBin oDiv (fBin oIx (fVar 0) (fC (.int 0))) (fVar 1) [some (.loc 0), some (.int many), some (.int (a % many))] (gg a b c) = .ok (.int (a / many)) (gg a b c) := oDiv_pos h (by omega) _
    refine (seq_nx (asg_ok (ρ2 := [some (.loc 0), some (.int many), some (.int (a % many))]) s1 rfl)).trans ?_
    refine (seq_nx (asg_ok (ρ2 := [some (.loc 0), some (.int many), some (.int (a % many))]) (g2 := gg (a / many) b c) s2 rfl)).trans ?_
    rfl
  | false =>
    refine ⟨(((a * 48271 + b * 69621 + 11) % 2147483647) / 7) % many, gg ((a * 48271 + b * 69621 + 11) % 2147483647) (b + 1) 0, ⟨_, _, _, rfl⟩, Int.emod_nonneg _ (by omega), Int.emod_lt_of_pos _ h, run_rt ?_⟩
    unfold B__law_roll
    refine (seq_nx (if_nil (by rw [← e]; exact hc))).trans ?_
    show sSeq _ _ [some (.loc 0), some (.int many), none] (gg a b c) = _
    refine (seq_nx (asg_ok (ρ2 := [some (.loc 0), some (.int many), none]) (g2 := gg a b 0) rfl rfl)).trans ?_
    have hb : (fB (fBin oGt (fVar 1) (fC (.int 100000000)))) [some (.loc 0), some (.int many), none] (gg a b 0) = .ok (decide (100000000 < many)) (gg a b 0) := rfl
    refine (seq_nx (if_nil (by rw [hb, decide_eq_false (by omega)]))).trans ?_
    show sSeq _ _ [some (.loc 0), some (.int many), none] (gg a b 0) = _
    have m1 : fBin oMul (fBin oIx (fVar 0) (fC (.int 0))) (fC (.int 48271)) [some (.loc 0), some (.int many), none] (gg a b 0) = .ok (.int (a * 48271)) (gg a b 0) := oMul_ok' (by decide) _
    have m2 : fBin oMul (fBin oIx (fVar 0) (fC (.int 1))) (fC (.int 69621)) [some (.loc 0), some (.int many), none] (gg a b 0) = .ok (.int (b * 69621)) (gg a b 0) := oMul_ok' (by decide) _
    have a1 : fBin oAdd (fBin oMul (fBin oIx (fVar 0) (fC (.int 0))) (fC (.int 48271))) (fBin oMul (fBin oIx (fVar 0) (fC (.int 1))) (fC (.int 69621))) [some (.loc 0), some (.int many), none] (gg a b 0) = .ok (.int (a * 48271 + b * 69621)) (gg a b 0) := (bin_ok m1 m2).trans rfl
    have a2 : fBin oAdd (fBin oAdd (fBin oMul (fBin oIx (fVar 0) (fC (.int 0))) (fC (.int 48271))) (fBin oMul (fBin oIx (fVar 0) (fC (.int 1))) (fC (.int 69621)))) (fC (.int 11)) [some (.loc 0), some (.int many), none] (gg a b 0) = .ok (.int (a * 48271 + b * 69621 + 11)) (gg a b 0) := (bin_ok a1 rfl).trans rfl
    have a3 : fBin oMod (fBi bInt (fCons (fBin oAdd (fBin oAdd (fBin oMul (fBin oIx (fVar 0) (fC (.int 0))) (fC (.int 48271))) (fBin oMul (fBin oIx (fVar 0) (fC (.int 1))) (fC (.int 69621)))) (fC (.int 11))) fNil)) (fC (.int 2147483647)) [some (.loc 0), some (.int many), none] (gg a b 0) = .ok (.int ((a * 48271 + b * 69621 + 11) % 2147483647)) (gg a b 0) := by
      rw [bin_ok (d := .int (a * 48271 + b * 69621 + 11)) (e := .int 2147483647) (g2 := gg a b 0) ((bi_ok (cons_ok a2 rfl)).trans rfl) rfl]
      exact oMod_pos (by decide) _
    refine (seq_nx (asg_ok (ρ2 := [some (.loc 0), some (.int many), none]) (g2 := gg ((a * 48271 + b * 69621 + 11) % 2147483647) b 0) a3 rfl)).trans ?_
    refine (seq_nx (asg_ok (ρ2 := [some (.loc 0), some (.int many), none]) (g2 := gg ((a * 48271 + b * 69621 + 11) % 2147483647) (b + 1) 0) rfl rfl)).trans ?_
    refine seq_rt (rt_ok ?_)
    have d1 : fBin oDiv (fBin oIx (fVar 0) (fC (.int 0))) (fC (.int 7)) [some (.loc 0), some (.int many), none] (gg ((a * 48271 + b * 69621 + 11) % 2147483647) (b + 1) 0) = .ok (.int (((a * 48271 + b * 69621 + 11) % 2147483647) / 7)) (gg ((a * 48271 + b * 69621 + 11) % 2147483647) (b + 1) 0) := oDiv_pos (a := (a * 48271 + b * 69621 + 11) % 2147483647) (b := 7) (by decide) (by decide) _
    exact (bin_ok (d := .int ((a * 48271 + b * 69621 + 11) % 2147483647 / 7)) (e := .int many) ((bi_ok (cons_ok d1 rfl)).trans rfl) rfl).trans (oMod_pos h _)
/-- a drawn share -/
structure Sh (p : Int × Int) : Prop where
  red : Red p.1 p.2
  num : p.1.natAbs ≤ 20
  den : p.2 ≤ 12
theorem cut_take (xs : List D) (k : Nat) : cutD xs none (some (k : Int)) = xs.take k := by
  unfold cutD
  rw [HT.sIx_nat, HT.sIx_none]
  simp only [List.drop_zero, Nat.sub_zero]
  by_cases h : k ≤ xs.length
  · rw [Nat.min_eq_left h]
  · rw [Nat.min_eq_right (by omega), List.take_of_length_le (Nat.le_refl _), List.take_of_length_le (by omega)]
theorem one_spec {g : G} (hg : IsG g) : ∃ p g', IsG g' ∧ Sh p ∧ F__law_one [.loc 0] g = .ok (frn p) g' := by
  obtain ⟨r1, g1, hg1, l1, u1, e1⟩ := roll_spec hg (many := 41) (by decide) (by decide)
  obtain ⟨r2, g2, hg2, l2, u2, e2⟩ := roll_spec hg1 (many := 12) (by decide) (by decide)
  have f := nrm_facts (r1 - 20) (1 + r2) (by omega)
  refine ⟨nrm (r1 - 20) (1 + r2), g2, hg2, ⟨f.1, by have := f.2.2.2; omega, by have := f.2.2.1; omega⟩, ?_⟩
  unfold F__law_one B__law_one
  rw [run_ret]
  have c1 : fBin oSub (fCall (F__law_roll 3) (fCons (fVar 0) (fCons (fC (.int 41)) fNil))) (fC (.int 20)) [some (.loc 0)] g = .ok (.int (r1 - 20)) g1 := (bin_ok (d := .int r1) e1 rfl).trans rfl
  have c2 : fBin oAdd (fC (.int 1)) (fCall (F__law_roll 3) (fCons (fVar 0) (fCons (fC (.int 12)) fNil))) [some (.loc 0)] g1 = .ok (.int (1 + r2)) g2 := (bin_ok (d := .int 1) (e := .int r2) rfl e2).trans rfl
  exact (call_ok (cons_ok c1 (cons_ok c2 rfl))).trans (law_share_spec _ _ g2 (by omega) (by omega))
/-- the first round's dice -/
theorem rounds_spec {d : D} {ns : List Int} (h : scrD d ns) : ∃ g, IsG g ∧ F__law_rounds [d, .int 1] [] = .ok (.lst [.loc 0]) g := by
  have dice : ∀ n : Int, ∃ g, IsG g ∧ F__law_dice [.int n] [] = .ok (.loc 0) g := by
    intro n
    have t : fB (fCh oLt oLt (fBin oSub (fC (.int 0)) (fC (.int 10))) (fVar 0) (fC (.int 10))) [some (.int n)] [] = .ok (decide (-10 < n) && decide (n < 10)) [] := by
      have q : oLt (.int (0 - 10)) (.int n) [] = .ok (.bl (decide (-10 < n))) [] := rfl
      cases e : decide (-10 < n) with
      | true =>
        exact fB_ok ((ch_tt (x := .int (0 - 10)) (y := .int n) (w := .int 10) rfl rfl (by rw [q, e]) rfl).trans rfl)
      | false =>
        exact fB_ok (ch_ff (x := .int (0 - 10)) (y := .int n) rfl rfl (by rw [q, e]))
    cases e : (decide (-10 < n) && decide (n < 10)) with
    | true =>
      refine ⟨gg (if n < 0 then -n else n) 0 2, ⟨_, _, _, rfl⟩, run_rt ?_⟩
      unfold B__law_dice
      refine seq_rt ?_
      show sIf _ _ _ [some (.int n)] [] = _
      rw [if_take (by rw [← e]; exact t)]
      rfl
    | false =>
      refine ⟨gg n (1 + n % 1009) (if decide (10 ^ 18 ≤ n) = true then 1 else 0), ⟨_, _, _, rfl⟩, run_rt ?_⟩
      unfold B__law_dice
      show sSeq _ _ [some (.int n)] [] = _
      refine (seq_nx (if_nil (by rw [← e]; exact t))).trans ?_
      refine seq_rt (rt_ok ?_)
      have m : fBin oAdd (fC (.int 1)) (fBin oMod (fBi bInt (fCons (fVar 0) fNil)) (fC (.int 1009))) [some (.int n)] [] = .ok (.int (1 + n % 1009)) [] := by
        have m0 : fBin oMod (fBi bInt (fCons (fVar 0) fNil)) (fC (.int 1009)) [some (.int n)] [] = .ok (.int (n % 1009)) [] := oMod_pos (a := n) (b := 1009) (by decide) []
        rw [bin_ok (d := .int 1) rfl m0]; rfl
      have m2 : (fBi bInt (fCons (fBin oGe (fVar 0) (fBin oPow (fC (.int 10)) (fC (.int 18)))) fNil)) [some (.int n)] [] = .ok (.int (if decide (10 ^ 18 ≤ n) = true then 1 else 0)) [] := rfl
      unfold fMut
      rw [cons_ok (d := .int n) rfl (cons_ok m (cons_ok m2 rfl))]
      rfl
  have fin : ∀ (x : Int), ∃ g, IsG g ∧ (fLc [3] (iSeq (fVar 2)) (gNm 3) fYes (fCall F__law_dice (fCons (fVar 3) fNil))) [some d, some (.int 1), some (.lst [.int x]), none] [] = .ok (.lst [.loc 0]) g := by
    intro x
    obtain ⟨g, hg, e⟩ := dice x
    refine ⟨g, hg, ?_⟩
    have e2 : fCall F__law_dice (fCons (fVar 3) fNil) [some d, some (.int 1), some (.lst [.int x]), some (.int x)] [] = .ok (.loc 0) g := e
    show (if 1 ≤ sizeLine then (lcD [3] (gNm 3) fYes (fCall F__law_dice (fCons (fVar 3) fNil)) [some d, some (.int 1), some (.lst [.int x]), none] [.int x] []).bind (fun ys g => Res.ok (D.lst ys) g) else Res.stuck) = _
    rw [if_pos (by decide)]
    unfold lcD
    show Res.bind (match fCall F__law_dice (fCons (fVar 3) fNil) [some d, some (.int 1), some (.lst [.int x]), some (.int x)] [] with
        | .ok y g3 => (lcD [3] (gNm 3) fYes (fCall F__law_dice (fCons (fVar 3) fNil)) [some d, some (.int 1), some (.lst [.int x]), none] [] g3).bind fun ys g4 => .ok (y :: ys) g4
        | _ => .stuck) _ = _
    rw [e2]
    rfl
  have cut : fSl (fVar 0) fNo (fSo (fVar 1)) [some d, some (.int 1), none, none] [] = .ok (.lst ((ns.map D.int).take 1)) [] := by
    have q := cut_take (ns.map D.int) 1
    rcases h with rfl | rfl
    · show Res.ok (D.lst (cutD (ns.map D.int) none (some 1))) [] = _
      rw [← q]; rfl
    · show Res.ok (D.lst (cutD (ns.map D.int) none (some 1))) [] = _
      rw [← q]; rfl
  have fst : ∃ x, ∀ k : FS, sSeq (sAsg (fSl (fVar 0) fNo (fSo (fVar 1))) (gNm 2)) (sSeq (sIf (fB (fBin oEq (fVar 2) (fLst fNil))) (sSeq (sAsg (fLst (fCons (fC (.int 0)) fNil)) (gNm 2)) sNil) sNil) k) [some d, some (.int 1), none, none] [] = k [some d, some (.int 1), some (.lst [.int x]), none] [] := by
    match ns, cut with
    | [], cut =>
      refine ⟨0, fun k => (seq_nx (asg_ok (ρ2 := [some d, some (.int 1), some (.lst []), none]) cut rfl)).trans ?_⟩
      rfl
    | x :: r, cut =>
      refine ⟨x, fun k => (seq_nx (asg_ok (ρ2 := [some d, some (.int 1), some (.lst [.int x]), none]) cut rfl)).trans ?_⟩
      rfl
  obtain ⟨x, hx⟩ := fst
  obtain ⟨g, hg, e⟩ := fin x
  exact ⟨g, hg, run_rt ((hx _).trans (seq_rt (rt_ok e)))⟩
end K01
end
section
set_option Elab.async false
set_option linter.all false
set_option maxRecDepth 100000
set_option maxHeartbeats 4000000
namespace K01
open PySem Dl
theorem eq_fr (g : G) (p : Int × Int) : eqPy g (frn p) (frn p) = some true := by
  show some (p.1 == p.1 && (p.2 == p.2 && true)) = _
  simp
theorem eq_str {g : G} {a b : Str} (ha : PyData.strOk a = true) (hb : PyData.strOk b = true) : eqPy g (.str a) (.str b) = some (a == b) := by
  have sa : SeqAt.shaped (.str a) = true := by
    show (PyData.strOk a && true) = true
    rw [ha]; rfl
  have sb : SeqAt.shaped (.str b) = true := by
    show (PyData.strOk b && true) = true
    rw [hb]; rfl
  show (if (SeqAt.shaped (.str a) && SeqAt.shaped (.str b)) = true then some (PyData.eqv (.str a) (.str b)) else none) = _
  rw [sa, sb]; rfl
theorem pys : ∀ (g : G) (n : Nat) (ns : List Int), optAll ((ns.map D.int).map (toPy g (n + 1))) = some (ns.map PyData.int)
  | g, n, [] => rfl
  | g, n, x :: r => by
    show (optAll ((r.map D.int).map (toPy g (n + 1)))).map (PyData.int x :: ·) = _
    rw [pys g n r]; rfl
theorem lay_ints : ∀ ns : List Int, PyData.canLayAll0 (ns.map PyData.int) = true
  | [] => rfl
  | x :: r => by
    show (true && PyData.canLayAll0 (r.map PyData.int)) = true
    rw [lay_ints r]; rfl
theorem dep_ints : ∀ ns : List Int, PyData.depthAll (ns.map PyData.int) = 0
  | [] => rfl
  | x :: r => by
    show max 0 (PyData.depthAll (r.map PyData.int)) = 0
    rw [dep_ints r]; rfl
theorem shaped_l (ns : List Int) : SeqAt.shaped (.list (ns.map .int)) = true := by
  show (PyData.canLayAll0 (ns.map PyData.int) && decide (PyData.depthAll (ns.map PyData.int) + 1 ≤ 64)) = true
  rw [lay_ints, dep_ints]; rfl
theorem shaped_t (ns : List Int) : SeqAt.shaped (.tuple (ns.map .int)) = true := by
  show (PyData.canLayAll0 (ns.map PyData.int) && decide (PyData.depthAll (ns.map PyData.int) + 1 ≤ 64)) = true
  rw [lay_ints, dep_ints]; rfl
theorem eqv_ints : ∀ ns : List Int, PyData.eqvAll (ns.map PyData.int) (ns.map PyData.int) = true
  | [] => rfl
  | x :: r => by
    show ((x == x) && PyData.eqvAll (r.map PyData.int) (r.map PyData.int)) = true
    rw [eqv_ints r]; simp
theorem py_l (g : G) (ns : List Int) : toPy g 12 (.lst (ns.map .int)) = some (.list (ns.map .int)) := by
  show (optAll ((ns.map D.int).map (toPy g 11))).map PyData.list = _
  rw [pys g 10 ns]; rfl
theorem py_t (g : G) (ns : List Int) : toPy g 12 (.tup (ns.map .int)) = some (.tuple (ns.map .int)) := by
  show (optAll ((ns.map D.int).map (toPy g 11))).map PyData.tuple = _
  rw [pys g 10 ns]; rfl
theorem eq_ints (g : G) (ns : List Int) : eqPy g (.lst (ns.map .int)) (.lst (ns.map .int)) = some true := by
  unfold eqPy
  rw [py_l]
  show (if (SeqAt.shaped (.list (ns.map .int)) && SeqAt.shaped (.list (ns.map .int))) = true then some (PyData.eqvAll (ns.map .int) (ns.map .int)) else none) = _
  rw [shaped_l, eqv_ints]; rfl
theorem word_ok : PyData.strOk ("ShareError" : Str) = true := by decide +kernel
theorem eq_word (g : G) : eqPy g (.str "ShareError") (.str "ShareError") = some true := by
  rw [eq_str word_ok word_ok]; decide +kernel
theorem shaped_s : SeqAt.shaped (.str "ShareError") = true := by
  show (PyData.strOk "ShareError" && true) = true
  rw [word_ok]; rfl
theorem eq_tw (g : G) (ns : List Int) : eqPy g (.tup (ns.map .int)) (.str "ShareError") = some false := by
  unfold eqPy
  rw [py_t]
  show (if (SeqAt.shaped (.tuple (ns.map .int)) && SeqAt.shaped (.str "ShareError")) = true then some false else none) = _
  rw [shaped_t, shaped_s]; rfl
theorem any_int (k : Int) : ∀ ns : List Int, ((ns.map PyData.int).any fun z => PyData.eqv z (.int k)) = ns.any (· == k)
  | [] => rfl
  | x :: r => by
    show ((x == k) || ((r.map PyData.int).any fun z => PyData.eqv z (.int k))) = _
    rw [any_int k r]; rfl
theorem in_ints (g : G) (k : Int) (ns : List Int) : inPy g (.int k) (.lst (ns.map .int)) = some (ns.any (· == k)) := by
  have q := py_l g ns
  unfold inPy
  rw [q]
  show (if (SeqAt.shaped (.int k) && SeqAt.shaped (.list (ns.map .int))) = true then some ((ns.map PyData.int).any fun z => PyData.eqv z (.int k)) else none) = _
  rw [shaped_l, any_int]; rfl
/-! ### sums -/
def addp (t p : Int × Int) : Int × Int := nrm (t.1 * p.2 + p.1 * t.2) (t.2 * p.2)
theorem add_den {t p : Int × Int} (ht : 0 < t.2) (hp : Sh p) : 0 < (addp t p).2 ∧ (addp t p).2 ≤ t.2 * 12 ∧ Red (addp t p).1 (addp t p).2 := by
  have h1 := hp.red.1
  have h2 := hp.den
  have h0 : 0 < t.2 * p.2 := Int.mul_pos ht h1
  have f := nrm_facts (t.1 * p.2 + p.1 * t.2) (t.2 * p.2) (by omega)
  have h3 : t.2 * p.2 ≤ t.2 * 12 := Int.mul_le_mul_of_nonneg_left h2 (by omega)
  refine ⟨f.1.1, ?_, f.1⟩
  have := f.2.2.1
  show (nrm _ _).2 ≤ _
  omega
theorem add_ok {t p : Int × Int} (ht : 0 < t.2) (hp : Sh p) (hb : t.2 * 12 < 536870912) (g : G) : F_plus [frn t, frn p] g = .ok (frn (addp t p)) g ∧ F__law_add [frn t, frn p] g = .ok (frn (addp t p)) g := by
  have h1 := hp.red.1
  have h2 := hp.den
  have h0 : 0 < t.2 * p.2 := Int.mul_pos ht h1
  have h3 : t.2 * p.2 ≤ t.2 * 12 := Int.mul_le_mul_of_nonneg_left h2 (by omega)
  exact ⟨plus_spec _ _ _ _ g (by omega) (by omega) (by omega) (by omega), law_add_spec _ _ _ _ g (by omega) (by omega) (by omega) (by omega)⟩
theorem sum_loop (g : G) (rows : Option D) : ∀ (ps : List (Int × Int)) (t : Int × Int) (x : Option D), (∀ p ∈ ps, Sh p) → 0 < t.2 → t.2 * 12 ^ ps.length < 536870912 →
    ∃ y, forD (gNm 2) (sSeq (sAsg (fCall F_plus (fCons (fVar 1) (fCons (fVar 2) fNil))) (gNm 1)) sNil) (ps.map frn) [rows, some (frn t), x] g = .nx [rows, some (frn (ps.foldl addp t)), y] g
  | [], t, x, _, _, _ => ⟨x, rfl⟩
  | p :: ps, t, x, hs, ht, hb => by
    have hp := hs p List.mem_cons_self
    have hb2 : t.2 * 12 * 12 ^ ps.length < 536870912 := by rw [Int.mul_assoc, ← Int.pow_succ']; exact hb
    have one : (1 : Int) ≤ 12 ^ ps.length := Int.pow_pos (n := 12) (m := ps.length) (by decide)
    have hb3 : t.2 * 12 * 1 ≤ t.2 * 12 * 12 ^ ps.length := Int.mul_le_mul_of_nonneg_left one (by omega)
    have d := add_den ht hp
    have hb4 : (addp t p).2 * 12 ^ ps.length ≤ t.2 * 12 * 12 ^ ps.length := Int.mul_le_mul_of_nonneg_right d.2.1 (by omega)
    obtain ⟨y, e⟩ := sum_loop g rows ps (addp t p) (some (frn p)) (fun q hq => hs q (List.mem_cons_of_mem _ hq)) d.1 (by omega)
    refine ⟨y, ?_⟩
    have a := (add_ok ht hp (by omega) g).1
    have s1 : sSeq (sAsg (fCall F_plus (fCons (fVar 1) (fCons (fVar 2) fNil))) (gNm 1)) sNil [rows, some (frn t), some (frn p)] g = .nx [rows, some (frn (addp t p)), some (frn p)] g :=
      (seq_nx (asg_ok (ρ2 := [rows, some (frn (addp t p)), some (frn p)]) a rfl)).trans rfl
    unfold forD
    show (match sSeq (sAsg (fCall F_plus (fCons (fVar 1) (fCons (fVar 2) fNil))) (gNm 1)) sNil [rows, some (frn t), some (frn p)] g with
      | .nx ρ2 g2 => forD _ _ _ ρ2 g2
      | .ct ρ2 g2 => forD _ _ _ ρ2 g2
      | .bk ρ2 g2 => .nx ρ2 g2
      | q => q) = _
    rw [s1]
    exact e
theorem sum_spec (g : G) (ps : List (Int × Int)) (hs : ∀ p ∈ ps, Sh p) (hl : ps.length ≤ 5) : F_sum_of [.lst (ps.map frn)] g = .ok (frn (ps.foldl addp (0, 1))) g := by
  have hb : (1 : Int) * 12 ^ ps.length < 536870912 := by
    have : ∀ n : Nat, n ≤ 5 → (1 : Int) * 12 ^ n < 536870912 := by decide
    exact this _ hl
  obtain ⟨y, e⟩ := sum_loop g (some (.lst (ps.map frn))) ps (0, 1) none hs (by decide) hb
  refine run_rt ?_
  unfold B_sum_of
  refine (seq_nx (asg_ok (ρ2 := [some (.lst (ps.map frn)), some (frn (0, 1)), none]) (g2 := g) (g1 := g) (d := frn (0, 1)) rfl rfl)).trans ?_
  refine (seq_nx (ρ1 := [some (.lst (ps.map frn)), some (frn (ps.foldl addp (0, 1))), y]) (g1 := g) e).trans ?_
  rfl
theorem total_loop (g : G) (a0 a1 a2 a3 a4 a5 a6 a7 a8 a9 a10 a12 a14 a15 a16 a17 a18 a19 a20 a21 : Option D) : ∀ (ps : List (Int × Int)) (t : Int × Int) (x : Option D), (∀ p ∈ ps, Sh p) → 0 < t.2 → t.2 * 12 ^ ps.length < 536870912 →
    ∃ y, forD (gNm 13) (sSeq (sAsg (fCall F__law_add (fCons (fVar 11) (fCons (fVar 13) fNil))) (gNm 11)) sNil) (ps.map frn) [a0, a1, a2, a3, a4, a5, a6, a7, a8, a9, a10, some (frn t), a12, x, a14, a15, a16, a17, a18, a19, a20, a21] g = .nx [a0, a1, a2, a3, a4, a5, a6, a7, a8, a9, a10, some (frn (ps.foldl addp t)), a12, y, a14, a15, a16, a17, a18, a19, a20, a21] g
  | [], t, x, _, _, _ => ⟨x, rfl⟩
  | p :: ps, t, x, hs, ht, hb => by
    have hp := hs p List.mem_cons_self
    have hb2 : t.2 * 12 * 12 ^ ps.length < 536870912 := by rw [Int.mul_assoc, ← Int.pow_succ']; exact hb
    have one : (1 : Int) ≤ 12 ^ ps.length := Int.pow_pos (n := 12) (m := ps.length) (by decide)
    have hb3 : t.2 * 12 * 1 ≤ t.2 * 12 * 12 ^ ps.length := Int.mul_le_mul_of_nonneg_left one (by omega)
    have d := add_den ht hp
    have hb4 : (addp t p).2 * 12 ^ ps.length ≤ t.2 * 12 * 12 ^ ps.length := Int.mul_le_mul_of_nonneg_right d.2.1 (by omega)
    obtain ⟨y, e⟩ := total_loop g a0 a1 a2 a3 a4 a5 a6 a7 a8 a9 a10 a12 a14 a15 a16 a17 a18 a19 a20 a21 ps (addp t p) (some (frn p)) (fun q hq => hs q (List.mem_cons_of_mem _ hq)) d.1 (by omega)
    refine ⟨y, ?_⟩
    have a := (add_ok ht hp (by omega) g).2
    have s1 : (sSeq (sAsg (fCall F__law_add (fCons (fVar 11) (fCons (fVar 13) fNil))) (gNm 11)) sNil) [a0, a1, a2, a3, a4, a5, a6, a7, a8, a9, a10, some (frn t), a12, some (frn p), a14, a15, a16, a17, a18, a19, a20, a21] g = .nx [a0, a1, a2, a3, a4, a5, a6, a7, a8, a9, a10, some (frn (addp t p)), a12, some (frn p), a14, a15, a16, a17, a18, a19, a20, a21] g :=
      (seq_nx (asg_ok (ρ2 := [a0, a1, a2, a3, a4, a5, a6, a7, a8, a9, a10, some (frn (addp t p)), a12, some (frn p), a14, a15, a16, a17, a18, a19, a20, a21]) a rfl)).trans rfl
    unfold forD
    show (match (sSeq (sAsg (fCall F__law_add (fCons (fVar 11) (fCons (fVar 13) fNil))) (gNm 11)) sNil) [a0, a1, a2, a3, a4, a5, a6, a7, a8, a9, a10, some (frn t), a12, some (frn p), a14, a15, a16, a17, a18, a19, a20, a21] g with
      | .nx ρ2 g2 => forD _ _ _ ρ2 g2
      | .ct ρ2 g2 => forD _ _ _ ρ2 g2
      | .bk ρ2 g2 => .nx ρ2 g2
      | q => q) = _
    rw [s1]
    exact e
theorem pow5 {n : Nat} (h : n ≤ 5) : (1 : Int) * 12 ^ n < 536870912 := by
  have : ∀ n : Nat, n ≤ 5 → (1 : Int) * 12 ^ n < 536870912 := by decide
  exact this _ h
end K01
end
section
set_option Elab.async false
set_option linter.all false
set_option maxRecDepth 100000
set_option maxHeartbeats 4000000
namespace K01
open PySem Dl
theorem abs_mul_le {a b : Int} {m n : Nat} (h1 : a.natAbs ≤ m) (h2 : b.natAbs ≤ n) : (a * b).natAbs ≤ m * n := by
  rw [Int.natAbs_mul]; exact Nat.mul_le_mul h1 h2
theorem Sh.d {p : Int × Int} (h : Sh p) : p.2.natAbs ≤ 12 := by have := h.red.1; have := h.den; omega
theorem mul_ne {a b : Int} (h1 : 0 < a) (h2 : 0 < b) : a * b ≠ 0 := by have := Int.mul_pos h1 h2; omega
theorem mul_le144 {a b : Int} {m n : Nat} (h1 : a.natAbs ≤ m) (h2 : b.natAbs ≤ n) (k : Nat) (h : m * n < k) : (a * b).natAbs < k := by
  have := abs_mul_le h1 h2; omega
theorem addp_facts {p q : Int × Int} (hp : Sh p) (hq : Sh q) : Red (addp p q).1 (addp p q).2 ∧ (addp p q).1 * (p.2 * q.2) = (p.1 * q.2 + q.1 * p.2) * (addp p q).2 ∧ (addp p q).2.natAbs ≤ 144 ∧ (addp p q).1.natAbs ≤ 480 := by
  have f := nrm_facts (p.1 * q.2 + q.1 * p.2) (p.2 * q.2) (mul_ne hp.red.1 hq.red.1)
  have b1 := abs_mul_le hp.num hq.d
  have b2 := abs_mul_le hq.num hp.d
  have b3 := abs_mul_le hp.d hq.d
  refine ⟨f.1, f.2.1, ?_, ?_⟩
  · have := f.2.2.1; have := f.1.1; show (nrm _ _).2.natAbs ≤ 144; omega
  · have := f.2.2.2; show (nrm _ _).1.natAbs ≤ 480; omega
theorem plus_sh {p q : Int × Int} (hp : Sh p) (hq : Sh q) (g : G) : F_plus [frn p, frn q] g = .ok (frn (addp p q)) g ∧ F__law_add [frn p, frn q] g = .ok (frn (addp p q)) g :=
  add_ok hp.red.1 hq (by have := hp.den; omega) g
theorem minus_back {p q : Int × Int} (hp : Sh p) (hq : Sh q) (g : G) : F_minus [frn (addp p q), frn q] g = .ok (frn p) g := by
  obtain ⟨r, e, b1, b2⟩ := addp_facts hp hq
  have hd := hq.d
  have n := minus_spec (addp p q).1 (addp p q).2 q.1 q.2 g (by omega) (by omega) (mul_ne r.1 hq.red.1) (mul_le144 b1 hd _ (by decide))
  rw [n]
  have : nrm ((addp p q).1 * q.2 - q.1 * (addp p q).2) ((addp p q).2 * q.2) = (p.1, p.2) := by
    refine nrm_eq (mul_ne r.1 hq.red.1) hp.red ?_
    generalize (addp p q).1 = s at e ⊢
    generalize (addp p q).2 = t at e ⊢
    grind
  rw [this]
def mulp (p q : Int × Int) : Int × Int := nrm (p.1 * q.1) (p.2 * q.2)
theorem times_sh {p q : Int × Int} (hp : Sh p) (hq : Sh q) (g : G) : F_times [frn p, frn q] g = .ok (frn (mulp p q)) g ∧ F__law_mul [frn p, frn q] g = .ok (frn (mulp p q)) g := by
  have h1 := hq.num
  have h2 := hq.d
  have h3 := mul_ne hp.red.1 hq.red.1
  exact ⟨times_spec _ _ _ _ g (by omega) (by omega) h3 (mul_le144 hp.d hq.d _ (by decide)), law_mul_spec _ _ _ _ g (by omega) (by omega) h3 (mul_le144 hp.d hq.d _ (by decide))⟩
theorem dist {p q r : Int × Int} (hp : Sh p) (hq : Sh q) (hr : Sh r) (g : G) : ∃ z : Int × Int, F_times [frn p, frn (addp q r)] g = .ok (frn z) g ∧ F_plus [frn (mulp p q), frn (mulp p r)] g = .ok (frn z) g := by
  obtain ⟨ru, eu, bu1, bu2⟩ := addp_facts hq hr
  have fx := nrm_facts (p.1 * q.1) (p.2 * q.2) (mul_ne hp.red.1 hq.red.1)
  have fy := nrm_facts (p.1 * r.1) (p.2 * r.2) (mul_ne hp.red.1 hr.red.1)
  have fl := nrm_facts (p.1 * (addp q r).1) (p.2 * (addp q r).2) (mul_ne hp.red.1 ru.1)
  have bx : (mulp p q).2.natAbs ≤ 144 := by have := fx.2.2.1; have := fx.1.1; have := abs_mul_le hp.d hq.d; show (nrm _ _).2.natAbs ≤ 144; omega
  have bY : (mulp p r).2.natAbs ≤ 144 := by have := fy.2.2.1; have := fy.1.1; have := abs_mul_le hp.d hr.d; show (nrm _ _).2.natAbs ≤ 144; omega
  refine ⟨nrm (p.1 * (addp q r).1) (p.2 * (addp q r).2), times_spec _ _ _ _ g (by omega) (by omega) (mul_ne hp.red.1 ru.1) (mul_le144 hp.d bu1 _ (by decide)), ?_⟩
  have hx0 : 0 < (mulp p q).2 := fx.1.1
  have hy0 : 0 < (mulp p r).2 := fy.1.1
  rw [plus_spec (mulp p q).1 (mulp p q).2 (mulp p r).1 (mulp p r).2 g (by omega) (by omega) (mul_ne hx0 hy0) (mul_le144 bx bY _ (by decide))]
  have e : nrm ((mulp p q).1 * (mulp p r).2 + (mulp p r).1 * (mulp p q).2) ((mulp p q).2 * (mulp p r).2) = ((nrm (p.1 * (addp q r).1) (p.2 * (addp q r).2)).1, (nrm (p.1 * (addp q r).1) (p.2 * (addp q r).2)).2) := by
    refine nrm_eq (mul_ne hx0 hy0) fl.1 ?_
    have ex : (mulp p q).1 * (p.2 * q.2) = p.1 * q.1 * (mulp p q).2 := fx.2.1
    have ey : (mulp p r).1 * (p.2 * r.2) = p.1 * r.1 * (mulp p r).2 := fy.2.1
    have el := fl.2.1
    have hb := hp.red.1
    have hd := hq.red.1
    have hf := hr.red.1
    have hu := ru.1
    generalize (mulp p q).1 = x1 at ex ⊢
    generalize (mulp p q).2 = x2 at ex ⊢
    generalize (mulp p r).1 = y1 at ey ⊢
    generalize (mulp p r).2 = y2 at ey ⊢
    generalize (nrm (p.1 * (addp q r).1) (p.2 * (addp q r).2)).1 = l1 at el ⊢
    generalize (nrm (p.1 * (addp q r).1) (p.2 * (addp q r).2)).2 = l2 at el ⊢
    generalize (addp q r).1 = u1 at eu el ⊢
    generalize (addp q r).2 = u2 at eu el hu ⊢
    obtain ⟨a, b⟩ := p
    obtain ⟨c, d⟩ := q
    obtain ⟨k, f⟩ := r
    simp only at *
    refine Int.eq_of_mul_eq_mul_right (mul_ne (Int.mul_pos hb hd) (Int.mul_pos hf hu)) ?_
    have t1 : (x1 * y2 + y1 * x2) * l2 * (b * d * (f * u2)) = (x1 * (b * d)) * (y2 * l2 * f * u2) + (y1 * (b * f)) * (x2 * l2 * d * u2) := by grind
    have t2 : l1 * (x2 * y2) * (b * d * (f * u2)) = (l1 * (b * u2)) * (x2 * y2 * d * f) := by grind
    rw [t1, t2, ex, ey, el]
    have t3 : a * c * x2 * (y2 * l2 * f * u2) + a * k * y2 * (x2 * l2 * d * u2) = ((c * f + k * d) * u2) * (a * x2 * y2 * l2) := by grind
    rw [t3, ← eu]
    grind
  rw [e]
theorem low_ok (a : Int) {b : Int} (h : 0 < b) : a / b * b ≤ a ∧ a < (a / b + 1) * b := by
  have h1 := Int.emod_add_mul_ediv a b
  have h2 := Int.emod_nonneg a (show b ≠ 0 by omega)
  have h3 := Int.emod_lt_of_pos a h
  generalize a / b = q at *
  generalize a % b = r at *
  constructor
  · have : q * b = b * q := Int.mul_comm _ _
    omega
  · have : (q + 1) * b = b * q + b := by grind
    omega
theorem high_ok (a : Int) {b : Int} (h : 0 < b) : (0 - (0 - a) / b - 1) * b < a ∧ a ≤ (0 - (0 - a) / b) * b := by
  obtain ⟨h1, h2⟩ := low_ok (0 - a) h
  generalize (0 - a) / b = q at *
  constructor
  · have : (0 - q - 1) * b = - ((q + 1) * b) := by grind
    omega
  · have : (0 - q) * b = - (q * b) := by grind
    omega
theorem near_ok (a : Int) {b : Int} (h : 0 < b) : (2 * ((2 * a + b) / (2 * b)) - 1) * b ≤ 2 * a ∧ 2 * a < (2 * ((2 * a + b) / (2 * b)) + 1) * b := by
  obtain ⟨h1, h2⟩ := low_ok (2 * a + b) (show 0 < 2 * b by omega)
  generalize (2 * a + b) / (2 * b) = q at *
  constructor
  · have : (2 * q - 1) * b = q * (2 * b) - b := by grind
    omega
  · have : (2 * q + 1) * b = (q + 1) * (2 * b) - b := by grind
    omega
/-! ### told -/
def S0 : Str := Str.empty ++ (":" : Str)
def tchk (a b : Int) : Bool :=
  decide (a.natAbs.log2 < 1920) && decide (b.natAbs.log2 < 1920) && decide (S0.length ≤ sizeLine) && decide ((S0 ++ (toString b : Str)).length ≤ sizeLine) && decide ((toString a : Str).length + (S0 ++ (toString b : Str)).length ≤ sizeLine) &&
  decide ((toString a : Str).length + (":" : Str).length ≤ sizeLine) && decide (((toString a : Str) ++ (":" : Str)).length + (toString b : Str).length ≤ sizeLine) && decide ((toString a : Str).length + ("" : Str).length ≤ sizeLine) &&
  ((toString a : Str) ++ (S0 ++ (toString b : Str)) == ((toString a : Str) ++ (":" : Str)) ++ (toString b : Str)) && PyData.strOk ((toString a : Str) ++ (S0 ++ (toString b : Str))) && PyData.strOk (((toString a : Str) ++ (":" : Str)) ++ (toString b : Str)) &&
  ((toString a : Str) ++ ("" : Str) == (toString a : Str)) && PyData.strOk ((toString a : Str) ++ ("" : Str)) && PyData.strOk (toString a : Str)
theorem tchk_all : ∀ i : Fin 41, ∀ j : Fin 12, tchk ((i.val : Int) - 20) ((j.val : Int) + 1) = true := by decide +kernel
end K01
end
section
set_option Elab.async false
set_option linter.all false
set_option maxRecDepth 100000
set_option maxHeartbeats 4000000
namespace K01
open PySem Dl
theorem tchk_of {p : Int × Int} (h : Sh p) : tchk p.1 p.2 = true := by
  have h1 := h.num
  have h2 := h.red.1
  have h3 := h.den
  have q := tchk_all ⟨(p.1 + 20).toNat, by omega⟩ ⟨(p.2 - 1).toNat, by omega⟩
  have e1 : (((p.1 + 20).toNat : Nat) : Int) - 20 = p.1 := by omega
  have e2 : (((p.2 - 1).toNat : Nat) : Int) + 1 = p.2 := by omega
  simp only [e1, e2] at q
  exact q
theorem bstr_ok {f : FE} {ρ : Env'} {g g1 : G} {a : Int} (h : f ρ g = .ok (.int a) g1) (h1 : a.natAbs.log2 < 1920) : fBi bStr (fCons f fNil) ρ g = .ok (.str (toString a)) g1 := by
  refine (bi_ok (cons_ok h rfl)).trans ?_
  show (if a.natAbs.log2 < 1920 then Res.ok (D.str (toString a)) g1 else .stuck) = _
  rw [if_pos h1]
theorem fmt_ok {f : FE} {ρ : Env'} {g g1 : G} {a : Int} (h : f ρ g = .ok (.int a) g1) (h1 : a.natAbs.log2 < 1920) : fFmt f ρ g = .ok (.str (toString a)) g1 := by
  unfold fFmt
  rw [h]
  show (if a.natAbs.log2 < 1920 then Res.ok (D.str (toString a)) g1 else .stuck) = _
  rw [if_pos h1]
theorem add_s {f1 f2 : FE} {ρ : Env'} {g g1 g2 : G} {a b : Str} (h : f1 ρ g = .ok (.str a) g1) (h2 : f2 ρ g1 = .ok (.str b) g2) (hl : a.length + b.length ≤ sizeLine) : fBin oAdd f1 f2 ρ g = .ok (.str (a ++ b)) g2 := by
  refine (bin_ok h h2).trans ?_
  show (if a.length + b.length ≤ sizeLine then Res.ok (D.str (a ++ b)) g2 else .stuck) = _
  rw [if_pos hl]
theorem told_ok {p : Int × Int} (h : Sh p) (g : G) (ρ : Env') (hρ : fVar 4 ρ g = .ok (frn p) g) :
    fB (fBin oNe (fCall F_told_share (fCons (fVar 4) fNil)) (fIf (fB (fBin oEq (fBin oIx (fVar 4) (fC (.int 1))) (fC (.int 1)))) (fBi bStr (fCons (fBin oIx (fVar 4) (fC (.int 0))) fNil)) (fBin oAdd (fBin oAdd (fBi bStr (fCons (fBin oIx (fVar 4) (fC (.int 0))) fNil)) (fC (.str ":"))) (fBi bStr (fCons (fBin oIx (fVar 4) (fC (.int 1))) fNil))))) ρ g = .ok false g := by
  have c := tchk_of h
  unfold tchk at c
  simp only [Bool.and_eq_true, decide_eq_true_eq] at c
  obtain ⟨⟨⟨⟨⟨⟨⟨⟨⟨⟨⟨⟨⟨c1, c2⟩, c3⟩, c4⟩, c5⟩, c6⟩, c7⟩, c8⟩, c9⟩, c10⟩, c11⟩, c12⟩, c13⟩, c14⟩ := c
  have v0 : fBin oIx (fVar 4) (fC (.int 0)) ρ g = .ok (.int p.1) g := (bin_ok hρ rfl).trans rfl
  have v1 : fBin oIx (fVar 4) (fC (.int 1)) ρ g = .ok (.int p.2) g := (bin_ok hρ rfl).trans rfl
  have w0 : fBin oIx (fVar 0) (fC (.int 0)) [some (frn p)] g = .ok (.int p.1) g := rfl
  have w1 : fBin oIx (fVar 0) (fC (.int 1)) [some (frn p)] g = .ok (.int p.2) g := rfl
  have t1 : fB (fBin oNe (fBin oIx (fVar 0) (fC (.int 1))) (fC (.int 1))) [some (frn p)] g = .ok (!(p.2 == 1)) g := rfl
  have t2 : fB (fBin oEq (fBin oIx (fVar 4) (fC (.int 1))) (fC (.int 1))) ρ g = .ok (p.2 == 1) g := fB_ok ((bin_ok v1 rfl).trans rfl)
  have main : ∃ x y, F_told_share [frn p] g = .ok (.str x) g ∧ (fIf (fB (fBin oEq (fBin oIx (fVar 4) (fC (.int 1))) (fC (.int 1)))) (fBi bStr (fCons (fBin oIx (fVar 4) (fC (.int 0))) fNil)) (fBin oAdd (fBin oAdd (fBi bStr (fCons (fBin oIx (fVar 4) (fC (.int 0))) fNil)) (fC (.str ":"))) (fBi bStr (fCons (fBin oIx (fVar 4) (fC (.int 1))) fNil)))) ρ g = .ok (.str y) g ∧ (x == y) = true ∧ PyData.strOk x = true ∧ PyData.strOk y = true := by
    cases e : (p.2 == 1) with
    | true =>
      refine ⟨(toString p.1 : Str) ++ ("" : Str), (toString p.1 : Str), ?_, ?_, c12, c13, c14⟩
      · unfold F_told_share B_told_share
        rw [run_ret]
        refine add_s (fmt_ok w0 c1) ?_ c8
        exact fif_ff (t1.trans (by rw [e]; rfl))
      · refine (fif_tt (by rw [t2, e])).trans ?_
        exact bstr_ok v0 c1
    | false =>
      refine ⟨(toString p.1 : Str) ++ (S0 ++ (toString p.2 : Str)), ((toString p.1 : Str) ++ (":" : Str)) ++ (toString p.2 : Str), ?_, ?_, c9, c10, c11⟩
      · unfold F_told_share B_told_share
        rw [run_ret]
        refine add_s (fmt_ok w0 c1) ?_ c5
        refine (fif_tt (t1.trans (by rw [e]; rfl))).trans ?_
        show (if S0.length ≤ sizeLine then fJs [fFmt (fBin oIx (fVar 0) (fC (.int 1)))] S0 [some (frn p)] g else .stuck) = _
        rw [if_pos c3]
        unfold fJs
        show (fFmt (fBin oIx (fVar 0) (fC (.int 1))) [some (frn p)] g).bind _ = _
        rw [fmt_ok w1 c2]
        show (if (S0 ++ (toString p.2 : Str)).length ≤ sizeLine then fJs [] (S0 ++ (toString p.2 : Str)) [some (frn p)] g else .stuck) = _
        rw [if_pos c4]
        rfl
      · refine (fif_ff (by rw [t2, e])).trans ?_
        exact add_s (add_s (bstr_ok v0 c1) rfl c6) (bstr_ok v1 c2) c7
  obtain ⟨x, y, e1, e2, e3, e4, e5⟩ := main
  refine fB_ok ((bin_ok (d := .str x) (g1 := g) ((call_ok (cons_ok hρ rfl)).trans e1) e2).trans ?_)
  show (match eqPy g (.str x) (.str y) with
    | some b => Res.ok (D.bl (!b)) g
    | none => .stuck) = _
  rw [eq_str e4 e5, e3]
  rfl
end K01
end
section
set_option Elab.async false
set_option linter.all false
set_option maxRecDepth 100000
set_option maxHeartbeats 4000000
namespace K01
open PySem Dl
/-! ### sharing out: plain lists -/
abbrev enc (p : Int × Nat) : D := .tup [.int p.1, .int (p.2 : Int)]
def insP (p : Int × Nat) : List (Int × Nat) → List (Int × Nat)
  | [] => [p]
  | q :: r => if dLe (enc p) (enc q) = true then p :: q :: r else q :: insP p r
def srtP : List (Int × Nat) → List (Int × Nat)
  | [] => []
  | p :: r => insP p (srtP r)
theorem ins_map (p : Int × Nat) : ∀ l, insD (enc p) (l.map enc) = (insP p l).map enc
  | [] => rfl
  | q :: r => by
    show (if dLe (enc p) (enc q) = true then enc p :: enc q :: r.map enc else enc q :: insD (enc p) (r.map enc)) = (if dLe (enc p) (enc q) = true then p :: q :: r else q :: insP p r).map enc
    split
    · rfl
    · rw [ins_map p r]; rfl
theorem srt_map : ∀ l, srt (l.map enc) = (srtP l).map enc
  | [] => rfl
  | p :: r => by
    show insD (enc p) (srt (r.map enc)) = _
    rw [srt_map r, ins_map]; rfl
theorem ins_perm (p : Int × Nat) : ∀ l, (insP p l).Perm (p :: l)
  | [] => .refl _
  | q :: r => by
    unfold insP
    split
    · exact .refl _
    · exact ((ins_perm p r).cons q).trans (.swap p q r)
theorem srt_perm : ∀ l, (srtP l).Perm l
  | [] => .refl _
  | p :: r => (ins_perm p _).trans ((srt_perm r).cons p)
theorem pure_map : ∀ l : List (Int × Nat), pureL (l.map enc) = true
  | [] => rfl
  | p :: r => by
    show (pureD (enc p) && pureL (r.map enc)) = true
    rw [pure_map r]; rfl
theorem srtOk_map (l : List (Int × Nat)) (h : l.length ≤ sizeLine) : srtOk (l.map enc) = true := by
  unfold srtOk
  simp only [Bool.and_eq_true, decide_eq_true_eq, List.length_map]
  refine ⟨⟨⟨⟨pure_map l, ?_⟩, ?_⟩, ?_⟩, h⟩
  · rw [List.all_map, List.all_eq_true]
    intro p _
    show ((l.map enc).all _) = true
    rw [List.all_map, List.all_eq_true]
    intro q _
    rfl
  · rw [Bool.or_eq_true, List.all_map]
    refine .inl ?_
    rw [List.all_eq_true]
    intro p _
    rfl
  · rw [List.all_map, List.all_eq_true]
    intro p _
    rfl
def inc (xs : List Int) (k : Nat) : List Int := xs.set k (xs.getD k 0 + 1)
theorem inc_len (xs : List Int) (k : Nat) : (inc xs k).length = xs.length := by unfold inc; simp
theorem incs_len : ∀ (ks : List Nat) (xs : List Int), (ks.foldl inc xs).length = xs.length
  | [], xs => rfl
  | k :: r, xs => by
    show (r.foldl inc (inc xs k)).length = _
    rw [incs_len r, inc_len]
theorem inc_sum : ∀ (xs : List Int) (k : Nat), k < xs.length → (inc xs k).sum = xs.sum + 1
  | [], k, h => by simp at h
  | x :: r, 0, _ => by
    show (x + 1) + r.sum = (x + r.sum) + 1
    omega
  | x :: r, k + 1, h => by
    have q := inc_sum r k (by simpa using h)
    show x + (inc r k).sum = (x + r.sum) + 1
    rw [q]; omega
theorem incs_sum : ∀ (ks : List Nat) (xs : List Int), (∀ k ∈ ks, k < xs.length) → (ks.foldl inc xs).sum = xs.sum + ks.length
  | [], xs, _ => by simp
  | k :: r, xs, h => by
    show (r.foldl inc (inc xs k)).sum = _
    rw [incs_sum r (inc xs k) (fun j hj => by rw [inc_len]; exact h j (List.mem_cons_of_mem _ hj)), inc_sum xs k (h k List.mem_cons_self)]
    simp only [List.length_cons]
    omega
theorem inc_get (xs : List Int) (k j : Nat) : (inc xs k).getD j 0 = if j = k ∧ k < xs.length then xs.getD j 0 + 1 else xs.getD j 0 := by
  unfold inc
  simp only [List.getD_eq_getElem?_getD, List.getElem?_set]
  by_cases e : k = j
  · subst e
    by_cases h : k < xs.length
    · simp [h]
    · simp [h]
  · have e2 : ¬ j = k := fun z => e z.symm
    simp [e, e2]
theorem incs_get : ∀ (ks : List Nat) (xs : List Int) (j : Nat), ks.Nodup → (∀ k ∈ ks, k < xs.length) → (ks.foldl inc xs).getD j 0 = xs.getD j 0 + if j ∈ ks then 1 else 0
  | [], xs, j, _, _ => by simp
  | k :: r, xs, j, hn, h => by
    rw [List.nodup_cons] at hn
    show (r.foldl inc (inc xs k)).getD j 0 = _
    rw [incs_get r (inc xs k) j hn.2 (fun i hi => by rw [inc_len]; exact h i (List.mem_cons_of_mem _ hi)), inc_get]
    have hk := h k List.mem_cons_self
    by_cases e : j = k
    · subst e
      simp [hk, hn.1]
    · simp [e]
theorem list_of_get (xs : List Int) : (List.range xs.length).map (fun j => xs.getD j 0) = xs := by
  apply List.ext_getElem
  · simp
  · intro i h1 h2
    simp [List.getD_eq_getElem?_getD, List.getElem?_eq_getElem h2]
theorem incs_list (ks : List Nat) (xs : List Int) (hn : ks.Nodup) (h : ∀ k ∈ ks, k < xs.length) : ks.foldl inc xs = (List.range xs.length).map fun j => xs.getD j 0 + if j ∈ ks then 1 else 0 := by
  have q := list_of_get (ks.foldl inc xs)
  rw [incs_len] at q
  rw [← q]
  apply List.map_congr_left
  intro j _
  exact incs_get ks xs j hn h
/-- how many are left -/
theorem left_range (n S : Int) (hS : 0 < S) : ∀ ns : List Int, 0 ≤ n * ns.sum - S * (ns.map fun p => n * p / S).sum ∧ n * ns.sum - S * (ns.map fun p => n * p / S).sum ≤ S * ns.length
  | [] => by simp
  | p :: r => by
    obtain ⟨h1, h2⟩ := left_range n S hS r
    have a := Int.emod_add_mul_ediv (n * p) S
    have b := Int.emod_nonneg (n * p) (show S ≠ 0 by omega)
    have c := Int.emod_lt_of_pos (n * p) hS
    simp only [List.sum_cons, List.map_cons, List.length_cons, Int.mul_add, Int.natCast_add, Int.natCast_one, Int.mul_one]
    omega
theorem left_ok {n S : Int} {ns : List Int} (hS : 0 < S) (e : ns.sum = S) : 0 ≤ n - (ns.map fun p => n * p / S).sum ∧ n - (ns.map fun p => n * p / S).sum ≤ ns.length := by
  obtain ⟨h1, h2⟩ := left_range n S hS ns
  rw [e] at h1 h2
  generalize (ns.map fun p => n * p / S).sum = t at *
  have e1 : n * S - S * t = S * (n - t) := by grind
  rw [e1] at h1 h2
  constructor
  · rcases Int.lt_or_le (n - t) 0 with z | z
    · have := Int.mul_neg_of_pos_of_neg hS z
      omega
    · exact z
  · exact Int.le_of_mul_le_mul_left h2 hS
end K01
end
section
set_option Elab.async false
set_option linter.all false
set_option maxRecDepth 100000
set_option maxHeartbeats 4000000
namespace K01
open PySem Dl
theorem ints_of : ∀ ns : List Int, intsOf (ns.map D.int) = some ns
  | [] => rfl
  | x :: r => by
    show (intsOf (r.map D.int)).map (x :: ·) = _
    rw [ints_of r]; rfl
theorem sum_l (ns : List Int) (g : G) : bSumS [.lst (ns.map .int)] g = .ok (.int ns.sum) g := by
  show (match (some (ns.map D.int)).bind intsOf with
    | some ns => Res.ok (D.int ns.sum) g
    | none => .stuck) = _
  show (match intsOf (ns.map D.int) with
    | some ns => Res.ok (D.int ns.sum) g
    | none => .stuck) = _
  rw [ints_of]
theorem sum_t (ns : List Int) (g : G) : bSumS [.tup (ns.map .int)] g = .ok (.int ns.sum) g := by
  show (match intsOf (ns.map D.int) with
    | some ns => Res.ok (D.int ns.sum) g
    | none => .stuck) = _
  rw [ints_of]
theorem sum_loc (ns : List Int) (g : G) : bSumS [.loc g.length] (g ++ [O.lst (ns.map .int)]) = .ok (.int ns.sum) (g ++ [O.lst (ns.map .int)]) := by
  have e : seqOf (g ++ [O.lst (ns.map D.int)]) (.loc g.length) = some (ns.map .int) := by
    show (match (g ++ [O.lst (ns.map D.int)])[g.length]? with
      | some (.lst xs) => some xs
      | _ => none) = _
    rw [List.getElem?_append_right (Nat.le_refl _)]
    simp
  unfold bSumS
  simp only [e, Option.bind_some, ints_of]
theorem minL_nonneg : ∀ (x : Int) (r : List Int), (∀ y ∈ x :: r, 0 ≤ y) → 0 ≤ minL (x :: r)
  | x, [], h => h x List.mem_cons_self
  | x, y :: r, h => by
    have q := minL_nonneg y r fun z hz => h z (List.mem_cons_of_mem _ hz)
    have := h x List.mem_cons_self
    show 0 ≤ min x (minL (y :: r))
    omega
/-- a comprehension whose steps change nothing -/
theorem lc_fn {vs : List Nat} {fg : FG} {ft : FT} {fe : FE} {ρ : Env'} {g : G} {f : D → D} : ∀ (items : List D), (∀ d ∈ items, ∃ ρ1, fg d (wipeD ρ vs) g = .ok ρ1 g ∧ ft ρ1 g = .ok true g ∧ fe ρ1 g = .ok (f d) g) → lcD vs fg ft fe ρ items g = .ok (items.map f) g
  | [], _ => rfl
  | d :: r, h => by
    obtain ⟨ρ1, e1, e2, e3⟩ := h d List.mem_cons_self
    unfold lcD
    simp only [e1, e2, e3, lc_fn r fun x hx => h x (List.mem_cons_of_mem _ hx)]
    rfl
/-- a generator whose steps change nothing, all of it taken -/
theorem gn_fn {k : List D → G → Res D} {vs : List Nat} {fg : FG} {ft : FT} {fe : FE} {ρ : Env'} {g : G} {f : D → D} : ∀ (items acc : List D), (∀ d ∈ items, ∃ ρ1, fg d (wipeD ρ vs) g = .ok ρ1 g ∧ ft ρ1 g = .ok true g ∧ fe ρ1 g = .ok (f d) g) → gnD stpAll k vs fg ft fe ρ acc items g = k (acc ++ items.map f) g
  | [], acc, _ => by simp [gnD]
  | d :: r, acc, h => by
    obtain ⟨ρ1, e1, e2, e3⟩ := h d List.mem_cons_self
    unfold gnD
    simp only [e1, e2, e3, stpAll]
    rw [gn_fn r (acc ++ [f d]) fun x hx => h x (List.mem_cons_of_mem _ hx)]
    simp
/-- pairs with their places -/
def plc (f : Int → Int) : Nat → List Int → List (Int × Nat)
  | _, [] => []
  | k, p :: r => (f p, k) :: plc f (k + 1) r
theorem plc_len (f : Int → Int) : ∀ (k : Nat) (ns : List Int), (plc f k ns).length = ns.length
  | _, [] => rfl
  | k, p :: r => by
    show (plc f (k + 1) r).length + 1 = r.length + 1
    rw [plc_len f (k + 1) r]
theorem plc_snd (f : Int → Int) : ∀ (k : Nat) (ns : List Int), (plc f k ns).map (·.2) = (List.range ns.length).map (k + ·)
  | k, [] => rfl
  | k, p :: r => by
    show k :: (plc f (k + 1) r).map (·.2) = _
    rw [plc_snd f (k + 1) r, List.length_cons, List.range_succ_eq_map, List.map_cons, List.map_map]
    simp only [Nat.add_zero]
    congr 1
    apply List.map_congr_left
    intro j _
    show k + 1 + j = k + (j + 1)
    omega
theorem enum_mem : ∀ (ns : List Int) (k : Nat) (d : D), d ∈ enumD k (ns.map .int) → ∃ (j : Nat) (p : Int), d = .tup [.int (j : Int), .int p] ∧ k ≤ j ∧ ns[j - k]? = some p
  | [], k, d, h => by cases h
  | p :: r, k, d, h => by
    rcases List.mem_cons.mp h with z | z
    · exact ⟨k, p, z, Nat.le_refl _, by simp⟩
    · obtain ⟨j, q, e, l, m⟩ := enum_mem r (k + 1) d z
      refine ⟨j, q, e, by omega, ?_⟩
      have : j - k = (j - (k + 1)) + 1 := by omega
      rw [this, List.getElem?_cons_succ]
      exact m
/-- what a pair of place and part is turned to -/
def turn (f : Int → Int) : D → D
  | .tup [.int j, .int p] => .tup [.int (f p), .int j]
  | d => d
theorem enum_turn (f : Int → Int) : ∀ (ns : List Int) (k : Nat), (enumD k (ns.map .int)).map (turn f) = (plc f k ns).map enc
  | [], k => rfl
  | p :: r, k => by
    show D.tup [.int (f p), .int (k : Int)] :: (enumD (k + 1) (r.map .int)).map (turn f) = D.tup [.int (f p), .int (k : Int)] :: (plc f (k + 1) r).map enc
    rw [enum_turn f r (k + 1)]
theorem enum_len : ∀ (ns : List Int) (k : Nat), (enumD k (ns.map .int)).length = ns.length
  | [], k => rfl
  | p :: r, k => by
    show (enumD (k + 1) (r.map D.int)).length + 1 = r.length + 1
    rw [enum_len r (k + 1)]
/-- found[place] += 1 for each of them -/
theorem inc_loop (g : G) (a b c d e : Option D) : ∀ (T : List (Int × Nat)) (xs : List Int) (x y : Option D), (∀ t ∈ T, t.2 < xs.length) →
    ∃ x' y', forD (gTp 2 (gsCons (gNm 7) (gsCons (gNm 6) gsNil))) (sSeq (sAugS (fVar 3) (fVar 6) oAddI (fC (.int 1))) sNil) (T.map enc) [a, b, c, some (.loc g.length), d, e, x, y] (g ++ [O.lst (xs.map .int)])
      = .nx [a, b, c, some (.loc g.length), d, e, x', y'] (g ++ [O.lst (((T.map (·.2)).foldl inc xs).map .int)])
  | [], xs, x, y, _ => ⟨x, y, rfl⟩
  | t :: r, xs, x, y, h => by
    have ht := h t List.mem_cons_self
    obtain ⟨x', y', q⟩ := inc_loop g a b c d e r (inc xs t.2) (some (.int (t.2 : Int))) (some (.int t.1)) (fun u hu => by rw [inc_len]; exact h u (List.mem_cons_of_mem _ hu))
    refine ⟨x', y', ?_⟩
    have gt : (g ++ [O.lst (xs.map D.int)])[g.length]? = some (O.lst (xs.map .int)) := by
      rw [List.getElem?_append_right (Nat.le_refl _)]; simp
    have ix : L2.ixN (xs.map D.int).length (t.2 : Int) = some t.2 := by
      unfold L2.ixN
      rw [if_pos (by omega), if_pos (by rw [List.length_map]; omega), Int.toNat_natCast]
    have hg : getD' (g ++ [O.lst (xs.map D.int)]) (.loc g.length) (.int (t.2 : Int)) = some (.int (xs.getD t.2 0)) := by
      show (match (g ++ [O.lst (xs.map D.int)])[g.length]? with
        | some (.lst xs) => L2.atI xs (t.2 : Int)
        | _ => none) = _
      rw [gt]
      show (L2.ixN (xs.map D.int).length (t.2 : Int)).bind _ = _
      rw [ix]
      show (xs.map D.int)[t.2]? = _
      rw [List.getElem?_map, List.getElem?_eq_getElem ht]
      simp [List.getD_eq_getElem?_getD, List.getElem?_eq_getElem ht]
    have hs : setD (g ++ [O.lst (xs.map D.int)]) (.loc g.length) (.int (t.2 : Int)) (.int (xs.getD t.2 0 + 1)) = some (g ++ [O.lst ((inc xs t.2).map .int)]) := by
      show (match (g ++ [O.lst (xs.map D.int)])[g.length]? with
        | some (.lst ys) => match L2.ixN ys.length (t.2 : Int) with
          | some j => some ((g ++ [O.lst (xs.map D.int)]).set g.length (.lst (ys.set j (.int (xs.getD t.2 0 + 1)))))
          | none => none
        | _ => none) = _
      rw [gt]
      show (match L2.ixN (xs.map D.int).length (t.2 : Int) with
          | some j => some ((g ++ [O.lst (xs.map D.int)]).set g.length (.lst ((xs.map D.int).set j (.int (xs.getD t.2 0 + 1)))))
          | none => none) = _
      rw [ix]
      show some ((g ++ [O.lst (xs.map D.int)]).set g.length (.lst ((xs.map D.int).set t.2 (.int (xs.getD t.2 0 + 1))))) = _
      rw [List.set_append_right _ _ (Nat.le_refl _)]
      simp [inc, List.map_set]
    have s1 : sSeq (sAugS (fVar 3) (fVar 6) oAddI (fC (.int 1))) sNil [a, b, c, some (.loc g.length), d, e, some (.int (t.2 : Int)), some (.int t.1)] (g ++ [O.lst (xs.map .int)]) = .nx [a, b, c, some (.loc g.length), d, e, some (.int (t.2 : Int)), some (.int t.1)] (g ++ [O.lst ((inc xs t.2).map .int)]) := by
      refine (seq_nx (g1 := g ++ [O.lst ((inc xs t.2).map .int)]) (ρ1 := [a, b, c, some (.loc g.length), d, e, some (.int (t.2 : Int)), some (.int t.1)]) ?_).trans rfl
      show (match getD' (g ++ [O.lst (xs.map D.int)]) (.loc g.length) (.int (t.2 : Int)) with
        | some z => (oAddI z (.int 1) (g ++ [O.lst (xs.map D.int)])).toS [a, b, c, some (.loc g.length), d, e, some (.int (t.2 : Int)), some (.int t.1)] fun z g4 => match setD g4 (.loc g.length) (.int (t.2 : Int)) z with
          | some g5 => .nx [a, b, c, some (.loc g.length), d, e, some (.int (t.2 : Int)), some (.int t.1)] g5
          | none => .stuck
        | none => .stuck) = _
      rw [hg]
      show (match setD (g ++ [O.lst (xs.map D.int)]) (.loc g.length) (.int (t.2 : Int)) (.int (xs.getD t.2 0 + 1)) with
          | some g5 => RSt.nx [a, b, c, some (.loc g.length), d, e, some (.int (t.2 : Int)), some (.int t.1)] g5
          | none => .stuck) = _
      rw [hs]
    show (match sSeq (sAugS (fVar 3) (fVar 6) oAddI (fC (.int 1))) sNil [a, b, c, some (.loc g.length), d, e, some (.int (t.2 : Int)), some (.int t.1)] (g ++ [O.lst (xs.map .int)]) with
      | .nx ρ2 g2 => forD _ _ _ ρ2 g2
      | .ct ρ2 g2 => forD _ _ _ ρ2 g2
      | .bk ρ2 g2 => .nx ρ2 g2
      | q => q) = _
    rw [s1]
    exact q
end K01
end
section
set_option Elab.async false
set_option linter.all false
set_option maxRecDepth 100000
set_option maxHeartbeats 4000000
namespace K01
open PySem Dl
def flo (n : Int) (ns : List Int) : List Int := ns.map fun p => n * p / ns.sum
def rst (n : Int) (ns : List Int) : List (Int × Nat) := plc (fun p => 0 - n * p % ns.sum) 0 ns
def lft (n : Int) (ns : List Int) : Nat := (n - (flo n ns).sum).toNat
def mor (n : Int) (ns : List Int) : List Nat := ((srtP (rst n ns)).take (lft n ns)).map (·.2)
def fnd (n : Int) (ns : List Int) : List Int := (mor n ns).foldl inc (flo n ns)
theorem rst_len (n : Int) (ns : List Int) : (rst n ns).length = ns.length := plc_len _ _ _
theorem flo_len (n : Int) (ns : List Int) : (flo n ns).length = ns.length := List.length_map ..
theorem srt_snd (n : Int) (ns : List Int) : ((srtP (rst n ns)).map (·.2)).Perm (List.range ns.length) := by
  have q := (srt_perm (rst n ns)).map (·.2)
  have e : (rst n ns).map (·.2) = List.range ns.length := by
    unfold rst
    rw [plc_snd]
    simp
  rw [e] at q
  exact q
theorem mor_sub (n : Int) (ns : List Int) : (mor n ns).Sublist ((srtP (rst n ns)).map (·.2)) := (List.take_sublist _ _).map _
theorem mor_nodup (n : Int) (ns : List Int) : (mor n ns).Nodup := (mor_sub n ns).nodup ((srt_snd n ns).nodup_iff.mpr List.nodup_range)
theorem mor_lt (n : Int) (ns : List Int) : ∀ k ∈ mor n ns, k < (flo n ns).length := fun k h => by
  have := (srt_snd n ns).subset ((mor_sub n ns).subset h)
  rw [flo_len]
  exact List.mem_range.mp this
theorem mor_len {n : Int} {ns : List Int} (hS : 0 < ns.sum) : ((mor n ns).length : Int) = n - (flo n ns).sum := by
  obtain ⟨h1, h2⟩ := left_ok (n := n) hS rfl
  unfold mor
  rw [List.length_map, List.length_take, (srt_perm _).length_eq, rst_len]
  unfold lft flo
  omega
theorem fnd_sum {n : Int} {ns : List Int} (hS : 0 < ns.sum) : (fnd n ns).sum = n := by
  unfold fnd
  rw [incs_sum _ _ (mor_lt n ns), mor_len hS]
  omega
/-! ### the walk -/
theorem seq_err {a b : FS} {ρ ρ1 : Env'} {g g1 : G} {c : Nat} (h : a ρ g = .err c ρ1 g1) : sSeq a b ρ g = .err c ρ1 g1 := by unfold sSeq; rw [h]
theorem if_err {t : FT} {b : FS} {ρ : Env'} {g g1 : G} {c : Nat} (h : t ρ g = .ok true g1) : sIf t (sSeq (sErr c) sNil) b ρ g = .err c ρ g1 := by unfold sIf; rw [h]; rfl
theorem run_err {m : Nat} {b : FS} {ds : List D} {g g1 : G} {c : Nat} {ρ1 : Env'} (h : b (ds.map some ++ List.replicate (m - ds.length) none) g = .err c ρ1 g1) : runB m b ds g = .err c g1 := by unfold runB; rw [h]
theorem split_nil (n : Int) (g : G) : F_split [.int n, .lst []] g = .err 1 g := rfl
theorem split_test (n : Int) (hn : 0 ≤ n) (x : Int) (r : List Int) (h : ∀ y ∈ x :: r, 0 ≤ y) (g : G) :
    (fOr (fB (fBin oEq (fBi bLen (fCons (fVar 1) fNil)) (fC (.int 0)))) (fOr (fB (fBin oLt (fBi bMinS (fCons (fVar 1) fNil)) (fC (.int 0)))) (fOr (fB (fBin oEq (fBi bSumS (fCons (fVar 1) fNil)) (fC (.int 0)))) (fB (fBin oLt (fVar 0) (fC (.int 0)))))))
      [some (.int n), some (.lst ((x :: r).map .int)), none, none, none, none, none, none] g = .ok ((x :: r).sum == 0) g := by
  have t1 : fB (fBin oEq (fBi bLen (fCons (fVar 1) fNil)) (fC (.int 0))) [some (.int n), some (.lst ((x :: r).map .int)), none, none, none, none, none, none] g = .ok false g := by
    have q : fBi bLen (fCons (fVar 1) fNil) [some (.int n), some (.lst ((x :: r).map D.int)), none, none, none, none, none, none] g = .ok (.int ((x :: r).map D.int).length) g := rfl
    refine fB_ok ((bin_ok q rfl).trans ?_)
    show Res.ok (D.bl (((((x :: r).map D.int).length : Nat) : Int) == 0)) g = _
    have : (((((x :: r).map D.int).length : Nat) : Int) == 0) = false := by
      rw [List.length_map, List.length_cons]
      simp
      omega
    rw [this]
  have t2 : fB (fBin oLt (fBi bMinS (fCons (fVar 1) fNil)) (fC (.int 0))) [some (.int n), some (.lst ((x :: r).map .int)), none, none, none, none, none, none] g = .ok false g := by
    have q : fBi bMinS (fCons (fVar 1) fNil) [some (.int n), some (.lst ((x :: r).map D.int)), none, none, none, none, none, none] g = .ok (.int (minL (x :: r))) g := by
      show bMinS [.lst ((x :: r).map D.int)] g = _
      have e : (seqOf g (.lst ((x :: r).map D.int))).bind intsOf = some (x :: r) := ints_of (x :: r)
      unfold bMinS
      simp only [e]
    refine fB_ok ((bin_ok q rfl).trans ?_)
    show Res.ok (D.bl (decide (minL (x :: r) < 0))) g = _
    rw [decide_eq_false (by have := minL_nonneg x r h; omega)]
  have t3 : fB (fBin oEq (fBi bSumS (fCons (fVar 1) fNil)) (fC (.int 0))) [some (.int n), some (.lst ((x :: r).map .int)), none, none, none, none, none, none] g = .ok ((x :: r).sum == 0) g :=
    fB_ok ((bin_ok (d := .int (x :: r).sum) (sum_l (x :: r) g) rfl).trans rfl)
  have t4 : fB (fBin oLt (fVar 0) (fC (.int 0))) [some (.int n), some (.lst ((x :: r).map .int)), none, none, none, none, none, none] g = .ok false g := by
    refine fB_ok ((bin_ok (d := .int n) rfl rfl).trans ?_)
    show Res.ok (D.bl (decide (n < 0))) g = _
    rw [decide_eq_false (by omega)]
  rw [or_ff t1, or_ff t2]
  cases e : ((x :: r).sum == 0) with
  | true => exact or_tt (by rw [t3, e])
  | false => rw [or_ff (by rw [t3, e]), t4]
theorem split_zero {n : Int} (hn : 0 ≤ n) {ns : List Int} (h : ∀ y ∈ ns, 0 ≤ y) (e : ns.sum = 0) (g : G) : F_split [.int n, .lst (ns.map .int)] g = .err 1 g := by
  match ns, h, e with
  | [], _, _ => rfl
  | x :: r, h, e =>
    have t := split_test n hn x r h g
    rw [e] at t
    refine run_err (ρ1 := [some (.int n), some (.lst ((x :: r).map D.int)), none, none, none, none, none, none]) ?_
    unfold B_split
    exact seq_err (if_err t)
theorem split_ok {n : Int} (hn : 0 ≤ n) (hn2 : n < 1073741824) {ns : List Int} (h : ∀ y ∈ ns, 0 ≤ y) (hS : 0 < ns.sum) (hS2 : ns.sum < 1073741824) (hl : ns.length ≤ sizeLine) (g : G) :
    F_split [.int n, .lst (ns.map .int)] g = .ok (.tup ((fnd n ns).map .int)) (g ++ [O.lst ((fnd n ns).map .int)]) := by
  refine run_rt ?_
  show B_split [some (.int n), some (.lst (ns.map D.int)), none, none, none, none, none, none] g = _
  have t : (fOr (fB (fBin oEq (fBi bLen (fCons (fVar 1) fNil)) (fC (.int 0)))) (fOr (fB (fBin oLt (fBi bMinS (fCons (fVar 1) fNil)) (fC (.int 0)))) (fOr (fB (fBin oEq (fBi bSumS (fCons (fVar 1) fNil)) (fC (.int 0)))) (fB (fBin oLt (fVar 0) (fC (.int 0)))))))
      [some (.int n), some (.lst (ns.map .int)), none, none, none, none, none, none] g = .ok false g := by
    match ns, h, hS with
    | [], _, z => simp at z
    | x :: r, h, z =>
      rw [split_test n hn x r h g]
      have : ((x :: r).sum == 0) = false := by simp only [beq_eq_false_iff_ne]; omega
      rw [this]
  unfold B_split
  refine (seq_nx (if_nil t)).trans ?_
  refine (seq_nx (asg_ok (ρ2 := [some (.int n), some (.lst (ns.map D.int)), some (.int ns.sum), none, none, none, none, none]) (sum_l ns g) rfl)).trans ?_
  have c1 : fLcM [4] (iSeq (fVar 1)) (gNm 4) fYes (fBin oDiv (fBin oMul (fVar 0) (fVar 4)) (fVar 2)) [some (.int n), some (.lst (ns.map D.int)), some (.int ns.sum), none, none, none, none, none] g = .ok (.loc g.length) (g ++ [O.lst ((flo n ns).map .int)]) := by
    show (if (ns.map D.int).length ≤ sizeLine then (lcD [4] (gNm 4) fYes (fBin oDiv (fBin oMul (fVar 0) (fVar 4)) (fVar 2)) [some (.int n), some (.lst (ns.map D.int)), some (.int ns.sum), none, none, none, none, none] (ns.map D.int) g).bind (fun ys g => Res.ok (D.loc g.length) (g ++ [O.lst ys])) else Res.stuck) = _
    rw [if_pos (by rw [List.length_map]; exact hl)]
    rw [lc_fn (f := fun d => match d with
      | .int p => .int (n * p / ns.sum)
      | d => d) (ns.map D.int) fun d hd => ?_]
    · show Res.ok (D.loc g.length) (g ++ [O.lst ((ns.map D.int).map _)]) = _
      rw [List.map_map]
      unfold flo
      rw [List.map_map]
      rfl
    · obtain ⟨p, _, rfl⟩ := List.mem_map.mp hd
      refine ⟨[some (.int n), some (.lst (ns.map D.int)), some (.int ns.sum), none, some (.int p), none, none, none], rfl, rfl, ?_⟩
      have m : fBin oMul (fVar 0) (fVar 4) [some (.int n), some (.lst (ns.map D.int)), some (.int ns.sum), none, some (.int p), none, none, none] g = .ok (.int (n * p)) g := oMul_okl (by omega) g
      exact (bin_ok m rfl).trans (oDiv_pos hS hS2 g)
  refine (seq_nx (asg_ok (ρ2 := [some (.int n), some (.lst (ns.map D.int)), some (.int ns.sum), some (.loc g.length), none, none, none, none]) c1 rfl)).trans ?_
  generalize hgf : g ++ [O.lst ((flo n ns).map .int)] = g2
  have c2 : (fGn stpAll kSrt [6, 4] (iRng enmA (fCons (fVar 1) fNil)) (gTp 2 (gsCons (gNm 6) (gsCons (gNm 4) gsNil))) fYes (fTup (fCons (fBin oSub (fC (.int 0)) (fBin oMod (fBin oMul (fVar 0) (fVar 4)) (fVar 2))) (fCons (fVar 6) fNil)))) [some (.int n), some (.lst (ns.map D.int)), some (.int ns.sum), some (.loc g.length), none, none, none, none] g2 = .ok (.lst ((srtP (rst n ns)).map enc)) g2 := by
    show (if (enumD 0 (ns.map D.int)).length ≤ sizeLine then gnD stpAll kSrt [6, 4] (gTp 2 (gsCons (gNm 6) (gsCons (gNm 4) gsNil))) fYes (fTup (fCons (fBin oSub (fC (.int 0)) (fBin oMod (fBin oMul (fVar 0) (fVar 4)) (fVar 2))) (fCons (fVar 6) fNil))) [some (.int n), some (.lst (ns.map D.int)), some (.int ns.sum), some (.loc g.length), none, none, none, none] [] (enumD 0 (ns.map D.int)) g2 else Res.stuck) = _
    rw [if_pos (by rw [enum_len]; exact hl)]
    rw [gn_fn (f := turn fun p => 0 - n * p % ns.sum) (enumD 0 (ns.map D.int)) [] fun d hd => ?_]
    · rw [enum_turn, List.nil_append]
      show (if srtOk ((rst n ns).map enc) = true then Res.ok (D.lst (srt ((rst n ns).map enc))) g2 else .stuck) = _
      rw [if_pos (srtOk_map _ (by rw [rst_len]; exact hl)), srt_map]
    · obtain ⟨j, p, rfl, _, _⟩ := enum_mem ns 0 d hd
      refine ⟨[some (.int n), some (.lst (ns.map D.int)), some (.int ns.sum), some (.loc g.length), some (.int p), none, some (.int (j : Int)), none], rfl, rfl, ?_⟩
      have m : fBin oMul (fVar 0) (fVar 4) [some (.int n), some (.lst (ns.map D.int)), some (.int ns.sum), some (.loc g.length), some (.int p), none, some (.int (j : Int)), none] g2 = .ok (.int (n * p)) g2 := oMul_okl (by omega) g2
      have m2 : fBin oMod (fBin oMul (fVar 0) (fVar 4)) (fVar 2) [some (.int n), some (.lst (ns.map D.int)), some (.int ns.sum), some (.loc g.length), some (.int p), none, some (.int (j : Int)), none] g2 = .ok (.int (n * p % ns.sum)) g2 := (bin_ok m rfl).trans (oMod_pos hS g2)
      have m3 : fBin oSub (fC (.int 0)) (fBin oMod (fBin oMul (fVar 0) (fVar 4)) (fVar 2)) [some (.int n), some (.lst (ns.map D.int)), some (.int ns.sum), some (.loc g.length), some (.int p), none, some (.int (j : Int)), none] g2 = .ok (.int (0 - n * p % ns.sum)) g2 := (bin_ok (d := .int 0) rfl m2).trans rfl
      exact tup_ok (cons_ok m3 (cons_ok (d := .int (j : Int)) (ds := []) (g1 := g2) (g2 := g2) rfl rfl)) (show 2 ≤ sizeLine by decide)
  refine (seq_nx (asg_ok (ρ2 := [some (.int n), some (.lst (ns.map D.int)), some (.int ns.sum), some (.loc g.length), none, some (.lst ((srtP (rst n ns)).map enc)), none, none]) c2 rfl)).trans ?_
  subst hgf
  obtain ⟨x', y', q⟩ := inc_loop g (some (.int n)) (some (.lst (ns.map D.int))) (some (.int ns.sum)) none (some (.lst ((srtP (rst n ns)).map enc))) ((srtP (rst n ns)).take (lft n ns)) (flo n ns) none none fun t ht => mor_lt n ns t.2 (List.mem_map.mpr ⟨t, ht, rfl⟩)
  have c3 : sFor (iSeq (fSl (fVar 5) fNo (fSo (fBin oSub (fVar 0) (fBi bSumS (fCons (fVar 3) fNil)))))) (gTp 2 (gsCons (gNm 7) (gsCons (gNm 6) gsNil))) (sSeq (sAugS (fVar 3) (fVar 6) oAddI (fC (.int 1))) sNil) [some (.int n), some (.lst (ns.map D.int)), some (.int ns.sum), some (.loc g.length), none, some (.lst ((srtP (rst n ns)).map enc)), none, none] (g ++ [O.lst ((flo n ns).map .int)])
      = .nx [some (.int n), some (.lst (ns.map D.int)), some (.int ns.sum), some (.loc g.length), none, some (.lst ((srtP (rst n ns)).map enc)), x', y'] (g ++ [O.lst ((fnd n ns).map .int)]) := by
    have z1 : fBin oSub (fVar 0) (fBi bSumS (fCons (fVar 3) fNil)) [some (.int n), some (.lst (ns.map D.int)), some (.int ns.sum), some (.loc g.length), none, some (.lst ((srtP (rst n ns)).map enc)), none, none] (g ++ [O.lst ((flo n ns).map .int)]) = .ok (.int (lft n ns : Int)) (g ++ [O.lst ((flo n ns).map .int)]) := by
      have e : n - (flo n ns).sum = (lft n ns : Int) := by
        have := (left_ok (n := n) hS rfl).1
        unfold lft
        unfold flo at *
        omega
      rw [← e]
      exact (bin_ok (d := .int n) rfl (sum_loc (flo n ns) g)).trans rfl
    have z2 : fSl (fVar 5) fNo (fSo (fBin oSub (fVar 0) (fBi bSumS (fCons (fVar 3) fNil)))) [some (.int n), some (.lst (ns.map D.int)), some (.int ns.sum), some (.loc g.length), none, some (.lst ((srtP (rst n ns)).map enc)), none, none] (g ++ [O.lst ((flo n ns).map .int)]) = .ok (.lst (((srtP (rst n ns)).take (lft n ns)).map enc)) (g ++ [O.lst ((flo n ns).map .int)]) := by
      rw [List.map_take, ← cut_take]
      show ((fBin oSub (fVar 0) (fBi bSumS (fCons (fVar 3) fNil)) [some (.int n), some (.lst (ns.map D.int)), some (.int ns.sum), some (.loc g.length), none, some (.lst ((srtP (rst n ns)).map enc)), none, none] (g ++ [O.lst ((flo n ns).map .int)])).bind _).bind _ = _
      rw [z1]
      rfl
    show ((fSl (fVar 5) fNo (fSo (fBin oSub (fVar 0) (fBi bSumS (fCons (fVar 3) fNil)))) [some (.int n), some (.lst (ns.map D.int)), some (.int ns.sum), some (.loc g.length), none, some (.lst ((srtP (rst n ns)).map enc)), none, none] (g ++ [O.lst ((flo n ns).map .int)])).bind _).toS _ _ = _
    rw [z2]
    exact q
  refine (seq_nx c3).trans ?_
  refine seq_rt (rt_ok ?_)
  show bTuple [.loc g.length] (g ++ [O.lst ((fnd n ns).map .int)]) = _
  have e : lstOf (g ++ [O.lst ((fnd n ns).map D.int)]) (.loc g.length) = some ((fnd n ns).map .int) := by
    show (match (g ++ [O.lst ((fnd n ns).map D.int)])[g.length]? with
      | some (.lst xs) => some xs
      | _ => none) = _
    rw [List.getElem?_append_right (Nat.le_refl _)]
    simp
  unfold bTuple
  simp only [e]
end K01
end
section
set_option Elab.async false
set_option linter.all false
set_option maxRecDepth 100000
set_option maxHeartbeats 4000000
namespace K01
open PySem Dl
theorem ne_f {f1 f2 : FE} {ρ : Env'} {g g1 g2 : G} {d : D} (h1 : f1 ρ g = .ok d g1) (h2 : f2 ρ g1 = .ok d g2) (e : eqPy g2 d d = some true) : fB (fBin oNe f1 f2) ρ g = .ok false g2 := by
  refine fB_ok ((bin_ok h1 h2).trans ?_)
  unfold oNe
  rw [e]
  rfl
theorem ne_i {f1 f2 : FE} {ρ : Env'} {g g1 g2 : G} {i j : Int} (h1 : f1 ρ g = .ok (.int i) g1) (h2 : f2 ρ g1 = .ok (.int j) g2) (e : i = j) : fB (fBin oNe f1 f2) ρ g = .ok false g2 := by
  subst e
  refine ne_f h1 h2 ?_
  show some (i == i) = _
  simp
theorem lc_st {α : Type} {vs : List Nat} {fg : FG} {ft : FT} {fe : FE} {ρ : Env'} {P : G → Prop} {R : α → Prop} {en : α → D} (h : ∀ d g, P g → ∃ ρ1 a g', fg d (wipeD ρ vs) g = .ok ρ1 g ∧ ft ρ1 g = .ok true g ∧ fe ρ1 g = .ok (en a) g' ∧ P g' ∧ R a) :
    ∀ (items : List D) (g : G), P g → ∃ (as : List α) (g' : G), P g' ∧ (∀ a ∈ as, R a) ∧ as.length = items.length ∧ lcD vs fg ft fe ρ items g = .ok (as.map en) g'
  | [], g, hg => ⟨[], g, hg, fun _ h => (by cases h), rfl, rfl⟩
  | d :: r, g, hg => by
    obtain ⟨ρ1, a, g1, e1, e2, e3, hg1, ra⟩ := h d g hg
    obtain ⟨as, g2, hg2, ras, hl, e4⟩ := lc_st h r g1 hg1
    refine ⟨a :: as, g2, hg2, fun x hx => ?_, by simp [hl], ?_⟩
    · rcases List.mem_cons.mp hx with z | z
      · rw [z]; exact ra
      · exact ras x z
    · unfold lcD
      simp only [e1, e2, e3, e4]
      rfl
theorem comp_ok {α : Type} {R : α → Prop} {en : α → D} {fe : FE} {ρ : Env'} (h1 : ∀ g, fVar 1 ρ g = .ok (.loc 0) g) (hf : ∀ (d : D) g, IsG g → ∃ a g', fe ((wipeD ρ [12]).set 12 (some d)) g = .ok (en a) g' ∧ IsG g' ∧ R a) {g : G} (hg : IsG g) :
    ∃ (as : List α) (g' : G), IsG g' ∧ (∀ a ∈ as, R a) ∧ as.length ≤ 5 ∧ fLc [12] (iRng rng1 (fCons (fCall (F__law_roll 3) (fCons (fVar 1) (fCons (fC (.int 6)) fNil))) fNil)) (gNm 12) fYes fe ρ g = .ok (.lst (as.map en)) g' := by
  obtain ⟨r, g1, hg1, l, u, e⟩ := roll_spec hg (many := 6) (by decide) (by decide)
  have c : fCons (fCall (F__law_roll 3) (fCons (fVar 1) (fCons (fC (.int 6)) fNil))) fNil ρ g = .ok [.int r] g1 := cons_ok ((call_ok (cons_ok (h1 g) rfl)).trans e) rfl
  have s : small62 r = true := by
    unfold small62
    rw [decide_eq_true (by omega), decide_eq_true (by omega)]; rfl
  have i : iRng rng1 (fCons (fCall (F__law_roll 3) (fCons (fVar 1) (fCons (fC (.int 6)) fNil))) fNil) ρ g = .ok (rangeD 0 r.toNat) g1 := by
    unfold iRng
    rw [c]
    show (match (if small62 r = true then some (rangeD 0 r.toNat) else none) with
      | some items => Res.ok items g1
      | none => .stuck) = _
    rw [if_pos s]
  have ln : (rangeD 0 r.toNat).length = r.toNat := by unfold rangeD; simp
  obtain ⟨as, g2, hg2, ra, hl, e2⟩ := lc_st (vs := [12]) (fg := gNm 12) (ft := fYes) (fe := fe) (ρ := ρ) (P := IsG) (R := R) (en := en) (fun d g hg => by
    obtain ⟨a, g', q1, q2, q3⟩ := hf d g hg
    exact ⟨_, a, g', rfl, rfl, q1, q2, q3⟩) (rangeD 0 r.toNat) g1 hg1
  refine ⟨as, g2, hg2, ra, by omega, ?_⟩
  unfold fLc fLcK
  rw [i]
  show (if (rangeD 0 r.toNat).length ≤ sizeLine then (lcD [12] (gNm 12) fYes fe ρ (rangeD 0 r.toNat) g1).bind (fun ys g => Res.ok (D.lst ys) g) else Res.stuck) = _
  rw [if_pos (by rw [ln]; exact Nat.le_trans (show r.toNat ≤ 5 by omega) (by decide)), e2]
  rfl
theorem ix_int (xs : List Int) (j : Nat) (h : j < xs.length) (g : G) : oIx (.lst (xs.map .int)) (.int (j : Int)) g = .ok (.int (xs.getD j 0)) g := by
  have e : L2.atI (xs.map D.int) (j : Int) = some (.int (xs.getD j 0)) := by
    have ix : L2.ixN (xs.map D.int).length (j : Int) = some j := by
      unfold L2.ixN
      rw [if_pos (by omega), if_pos (by rw [List.length_map]; omega), Int.toNat_natCast]
    show (L2.ixN (xs.map D.int).length (j : Int)).bind _ = _
    rw [ix]
    show (xs.map D.int)[j]? = _
    rw [List.getElem?_map, List.getElem?_eq_getElem h]
    simp [List.getD_eq_getElem?_getD, List.getElem?_eq_getElem h]
  show (match L2.atI (xs.map D.int) (j : Int) with
    | some y => Res.ok y g
    | none => .stuck) = _
  rw [e]
theorem rng1_int {r : Int} (h0 : 0 ≤ r) (h : r ≤ 5) : rng1 [.int r] = some (rangeD 0 r.toNat) := by
  have s : small62 r = true := by
    unfold small62
    rw [decide_eq_true (by omega), decide_eq_true (by omega)]; rfl
  show (if small62 r = true then some (rangeD 0 r.toNat) else none) = _
  rw [if_pos s]
theorem rng1_k {r : Int} {k : Nat} (e : r.toNat = k) (h0 : 0 ≤ r) (h : r ≤ 5) : rng1 [.int r] = some (rangeD 0 k) := by
  subst e
  exact rng1_int h0 h
theorem block_ok {n : Int} (hn : 0 ≤ n) (hn2 : n < 1073741824) {ns : List Int} (hS : 0 < ns.sum) (hS2 : ns.sum < 1073741824) (hl5 : ns.length ≤ 5) (g : G) (a0 a1 a2 a3 a4 a5 a6 a7 a8 a9 a10 a11 a12 a13 a17 a18 a19 a20 a21 : Option D) :
    ∃ ρ', (sSeq (sAsg (fLc [18] (iSeq (fVar 14)) (gNm 18) fYes (fBin oDiv (fBin oMul (fVar 15) (fVar 18)) (fBi bSumS (fCons (fVar 14) fNil)))) (gNm 17))
  (sSeq (sAsg (fLc [20, 12] (iSeq (fBi bSorted (fCons (fLc [12, 18] (iRng enmA (fCons (fVar 14) fNil)) (gTp 2 (gsCons (gNm 12) (gsCons (gNm 18) gsNil))) fYes (fTup (fCons (fBin oSub (fBin oMul (fBin oIx (fVar 17) (fVar 12)) (fBi bSumS (fCons (fVar 14) fNil))) (fBin oMul (fVar 15) (fVar 18))) (fCons (fVar 12) fNil)))) fNil))) (gTp 2 (gsCons (gNm 20) (gsCons (gNm 12) gsNil))) fYes (fVar 12)) (gNm 19))
  (sSeq (sAsg (fSl (fVar 19) fNo (fSo (fBin oSub (fVar 15) (fBi bSumS (fCons (fVar 17) fNil))))) (gNm 21))
  (sSeq (sIf (fOr (fB (fBin oNe (fBi bList (fCons (fVar 16) fNil)) (fLc [12] (iRng rng1 (fCons (fBi bLen (fCons (fVar 14) fNil)) fNil)) (gNm 12) fYes (fBin oAdd (fBin oIx (fVar 17) (fVar 12)) (fBi bInt (fCons (fBin oIn (fVar 12) (fVar 21)) fNil)))))) (fB (fBin oNe (fBi bSumS (fCons (fVar 16) fNil)) (fVar 15)))) (sSeq (sRt (fC (.bl false)))
  sNil) sNil)
  sNil)))) [a0, a1, a2, a3, a4, a5, a6, a7, a8, a9, a10, a11, a12, a13, some (.lst (ns.map .int)), some (.int n), some (.tup ((fnd n ns).map .int)), a17, a18, a19, a20, a21] g = .nx ρ' g := by
  have hl : ns.length ≤ sizeLine := Nat.le_trans hl5 (by decide)
  have c1 : fLc [18] (iSeq (fVar 14)) (gNm 18) fYes (fBin oDiv (fBin oMul (fVar 15) (fVar 18)) (fBi bSumS (fCons (fVar 14) fNil))) [a0, a1, a2, a3, a4, a5, a6, a7, a8, a9, a10, a11, a12, a13, some (.lst (ns.map .int)), some (.int n), some (.tup ((fnd n ns).map .int)), a17, a18, a19, a20, a21] g = .ok (.lst ((flo n ns).map .int)) g := by
    show (if (ns.map D.int).length ≤ sizeLine then (lcD [18] (gNm 18) fYes (fBin oDiv (fBin oMul (fVar 15) (fVar 18)) (fBi bSumS (fCons (fVar 14) fNil))) [a0, a1, a2, a3, a4, a5, a6, a7, a8, a9, a10, a11, a12, a13, some (.lst (ns.map .int)), some (.int n), some (.tup ((fnd n ns).map .int)), a17, a18, a19, a20, a21] (ns.map D.int) g).bind (fun ys g => Res.ok (D.lst ys) g) else Res.stuck) = _
    rw [if_pos (by rw [List.length_map]; exact hl)]
    rw [lc_fn (f := fun d => match d with
      | .int p => .int (n * p / ns.sum)
      | d => d) (ns.map D.int) fun d hd => ?_]
    · show Res.ok (D.lst ((ns.map D.int).map _)) g = _
      rw [List.map_map]
      unfold flo
      rw [List.map_map]
      rfl
    · obtain ⟨p, _, rfl⟩ := List.mem_map.mp hd
      refine ⟨[a0, a1, a2, a3, a4, a5, a6, a7, a8, a9, a10, a11, a12, a13, some (.lst (ns.map .int)), some (.int n), some (.tup ((fnd n ns).map .int)), a17, some (.int p), a19, a20, a21], rfl, rfl, ?_⟩
      have m : fBin oMul (fVar 15) (fVar 18) [a0, a1, a2, a3, a4, a5, a6, a7, a8, a9, a10, a11, a12, a13, some (.lst (ns.map .int)), some (.int n), some (.tup ((fnd n ns).map .int)), a17, some (.int p), a19, a20, a21] g = .ok (.int (n * p)) g := oMul_okl (by omega) g
      exact (bin_ok m (sum_l ns g)).trans (oDiv_pos hS hS2 g)
  have c2 : fLc [12, 18] (iRng enmA (fCons (fVar 14) fNil)) (gTp 2 (gsCons (gNm 12) (gsCons (gNm 18) gsNil))) fYes (fTup (fCons (fBin oSub (fBin oMul (fBin oIx (fVar 17) (fVar 12)) (fBi bSumS (fCons (fVar 14) fNil))) (fBin oMul (fVar 15) (fVar 18))) (fCons (fVar 12) fNil))) [a0, a1, a2, a3, a4, a5, a6, a7, a8, a9, a10, a11, a12, a13, some (.lst (ns.map .int)), some (.int n), some (.tup ((fnd n ns).map .int)), some (.lst ((flo n ns).map .int)), a18, a19, a20, a21] g = .ok (.lst ((rst n ns).map enc)) g := by
    show (if (enumD 0 (ns.map D.int)).length ≤ sizeLine then (lcD [12, 18] (gTp 2 (gsCons (gNm 12) (gsCons (gNm 18) gsNil))) fYes (fTup (fCons (fBin oSub (fBin oMul (fBin oIx (fVar 17) (fVar 12)) (fBi bSumS (fCons (fVar 14) fNil))) (fBin oMul (fVar 15) (fVar 18))) (fCons (fVar 12) fNil))) [a0, a1, a2, a3, a4, a5, a6, a7, a8, a9, a10, a11, a12, a13, some (.lst (ns.map .int)), some (.int n), some (.tup ((fnd n ns).map .int)), some (.lst ((flo n ns).map .int)), a18, a19, a20, a21] (enumD 0 (ns.map D.int)) g).bind (fun ys g => Res.ok (D.lst ys) g) else Res.stuck) = _
    rw [if_pos (by rw [enum_len]; exact hl)]
    rw [lc_fn (f := turn fun p => 0 - n * p % ns.sum) (enumD 0 (ns.map D.int)) fun d hd => ?_]
    · rw [enum_turn]
      rfl
    · obtain ⟨j, p, rfl, _, hj⟩ := enum_mem ns 0 d hd
      rw [Nat.sub_zero] at hj
      have hlt : j < ns.length := (List.getElem?_eq_some_iff.mp hj).1
      refine ⟨[a0, a1, a2, a3, a4, a5, a6, a7, a8, a9, a10, a11, some (.int (j : Int)), a13, some (.lst (ns.map .int)), some (.int n), some (.tup ((fnd n ns).map .int)), some (.lst ((flo n ns).map .int)), some (.int p), a19, a20, a21], rfl, rfl, ?_⟩
      have fj : (flo n ns).getD j 0 = n * p / ns.sum := by
        unfold flo
        rw [List.getD_eq_getElem?_getD, List.getElem?_map, hj]
        rfl
      have i1 : fBin oIx (fVar 17) (fVar 12) [a0, a1, a2, a3, a4, a5, a6, a7, a8, a9, a10, a11, some (.int (j : Int)), a13, some (.lst (ns.map .int)), some (.int n), some (.tup ((fnd n ns).map .int)), some (.lst ((flo n ns).map .int)), some (.int p), a19, a20, a21] g = .ok (.int (n * p / ns.sum)) g := by
        rw [← fj]
        exact ix_int (flo n ns) j (by rw [flo_len]; exact hlt) g
      have m1 : fBin oMul (fBin oIx (fVar 17) (fVar 12)) (fBi bSumS (fCons (fVar 14) fNil)) [a0, a1, a2, a3, a4, a5, a6, a7, a8, a9, a10, a11, some (.int (j : Int)), a13, some (.lst (ns.map .int)), some (.int n), some (.tup ((fnd n ns).map .int)), some (.lst ((flo n ns).map .int)), some (.int p), a19, a20, a21] g = .ok (.int (n * p / ns.sum * ns.sum)) g := (bin_ok i1 (sum_l ns g)).trans (oMul_ok' (by omega) g)
      have m2 : fBin oMul (fVar 15) (fVar 18) [a0, a1, a2, a3, a4, a5, a6, a7, a8, a9, a10, a11, some (.int (j : Int)), a13, some (.lst (ns.map .int)), some (.int n), some (.tup ((fnd n ns).map .int)), some (.lst ((flo n ns).map .int)), some (.int p), a19, a20, a21] g = .ok (.int (n * p)) g := oMul_okl (by omega) g
      have m3 : fBin oSub (fBin oMul (fBin oIx (fVar 17) (fVar 12)) (fBi bSumS (fCons (fVar 14) fNil))) (fBin oMul (fVar 15) (fVar 18)) [a0, a1, a2, a3, a4, a5, a6, a7, a8, a9, a10, a11, some (.int (j : Int)), a13, some (.lst (ns.map .int)), some (.int n), some (.tup ((fnd n ns).map .int)), some (.lst ((flo n ns).map .int)), some (.int p), a19, a20, a21] g = .ok (.int (0 - n * p % ns.sum)) g := by
        have z : n * p / ns.sum * ns.sum - n * p = 0 - n * p % ns.sum := by
          have := Int.emod_add_mul_ediv (n * p) ns.sum
          rw [Int.mul_comm (n * p / ns.sum) ns.sum]
          omega
        rw [← z]
        exact (bin_ok m1 m2).trans rfl
      exact tup_ok (cons_ok m3 (cons_ok (d := .int (j : Int)) (ds := []) (g1 := g) (g2 := g) rfl rfl)) (show 2 ≤ sizeLine by decide)
  have c3 : fBi bSorted (fCons (fLc [12, 18] (iRng enmA (fCons (fVar 14) fNil)) (gTp 2 (gsCons (gNm 12) (gsCons (gNm 18) gsNil))) fYes (fTup (fCons (fBin oSub (fBin oMul (fBin oIx (fVar 17) (fVar 12)) (fBi bSumS (fCons (fVar 14) fNil))) (fBin oMul (fVar 15) (fVar 18))) (fCons (fVar 12) fNil)))) fNil) [a0, a1, a2, a3, a4, a5, a6, a7, a8, a9, a10, a11, a12, a13, some (.lst (ns.map .int)), some (.int n), some (.tup ((fnd n ns).map .int)), some (.lst ((flo n ns).map .int)), a18, a19, a20, a21] g = .ok (.lst ((srtP (rst n ns)).map enc)) g := by
    refine (bi_ok (cons_ok c2 rfl)).trans ?_
    show (if srtOk ((rst n ns).map enc) = true then Res.ok (D.lst (srt ((rst n ns).map enc))) g else .stuck) = _
    rw [if_pos (srtOk_map _ (by rw [rst_len]; exact hl)), srt_map]
  have c4 : fLc [20, 12] (iSeq (fBi bSorted (fCons (fLc [12, 18] (iRng enmA (fCons (fVar 14) fNil)) (gTp 2 (gsCons (gNm 12) (gsCons (gNm 18) gsNil))) fYes (fTup (fCons (fBin oSub (fBin oMul (fBin oIx (fVar 17) (fVar 12)) (fBi bSumS (fCons (fVar 14) fNil))) (fBin oMul (fVar 15) (fVar 18))) (fCons (fVar 12) fNil)))) fNil))) (gTp 2 (gsCons (gNm 20) (gsCons (gNm 12) gsNil))) fYes (fVar 12) [a0, a1, a2, a3, a4, a5, a6, a7, a8, a9, a10, a11, a12, a13, some (.lst (ns.map .int)), some (.int n), some (.tup ((fnd n ns).map .int)), some (.lst ((flo n ns).map .int)), a18, a19, a20, a21] g = .ok (.lst (((srtP (rst n ns)).map fun t => (t.2 : Int)).map .int)) g := by
    generalize (fBi bSorted (fCons (fLc [12, 18] (iRng enmA (fCons (fVar 14) fNil)) (gTp 2 (gsCons (gNm 12) (gsCons (gNm 18) gsNil))) fYes (fTup (fCons (fBin oSub (fBin oMul (fBin oIx (fVar 17) (fVar 12)) (fBi bSumS (fCons (fVar 14) fNil))) (fBin oMul (fVar 15) (fVar 18))) (fCons (fVar 12) fNil)))) fNil)) = big at c3 ⊢
    have i : iSeq big [a0, a1, a2, a3, a4, a5, a6, a7, a8, a9, a10, a11, a12, a13, some (.lst (ns.map .int)), some (.int n), some (.tup ((fnd n ns).map .int)), some (.lst ((flo n ns).map .int)), a18, a19, a20, a21] g = .ok ((srtP (rst n ns)).map enc) g := by
      unfold iSeq
      rw [c3]
      rfl
    unfold fLc fLcK
    rw [i]
    show (if ((srtP (rst n ns)).map enc).length ≤ sizeLine then (lcD [20, 12] (gTp 2 (gsCons (gNm 20) (gsCons (gNm 12) gsNil))) fYes (fVar 12) [a0, a1, a2, a3, a4, a5, a6, a7, a8, a9, a10, a11, a12, a13, some (.lst (ns.map .int)), some (.int n), some (.tup ((fnd n ns).map .int)), some (.lst ((flo n ns).map .int)), a18, a19, a20, a21] ((srtP (rst n ns)).map enc) g).bind (fun ys g => Res.ok (D.lst ys) g) else Res.stuck) = _
    rw [if_pos (by rw [List.length_map, (srt_perm _).length_eq, rst_len]; exact hl)]
    rw [lc_fn (f := fun d => match d with
      | .tup [.int r, .int k] => .int k
      | d => d) ((srtP (rst n ns)).map enc) fun d hd => ?_]
    · show Res.ok (D.lst (((srtP (rst n ns)).map enc).map _)) g = _
      rw [List.map_map, List.map_map]
      rfl
    · obtain ⟨t, _, rfl⟩ := List.mem_map.mp hd
      exact ⟨[a0, a1, a2, a3, a4, a5, a6, a7, a8, a9, a10, a11, some (.int (t.2 : Int)), a13, some (.lst (ns.map .int)), some (.int n), some (.tup ((fnd n ns).map .int)), some (.lst ((flo n ns).map .int)), a18, a19, some (.int t.1), a21], rfl, rfl, rfl⟩
  have c5 : fSl (fVar 19) fNo (fSo (fBin oSub (fVar 15) (fBi bSumS (fCons (fVar 17) fNil)))) [a0, a1, a2, a3, a4, a5, a6, a7, a8, a9, a10, a11, a12, a13, some (.lst (ns.map .int)), some (.int n), some (.tup ((fnd n ns).map .int)), some (.lst ((flo n ns).map .int)), a18, some (.lst (((srtP (rst n ns)).map fun t => (t.2 : Int)).map .int)), a20, a21] g = .ok (.lst (((mor n ns).map fun (k : Nat) => (k : Int)).map .int)) g := by
    have z1 : fBin oSub (fVar 15) (fBi bSumS (fCons (fVar 17) fNil)) [a0, a1, a2, a3, a4, a5, a6, a7, a8, a9, a10, a11, a12, a13, some (.lst (ns.map .int)), some (.int n), some (.tup ((fnd n ns).map .int)), some (.lst ((flo n ns).map .int)), a18, some (.lst (((srtP (rst n ns)).map fun t => (t.2 : Int)).map .int)), a20, a21] g = .ok (.int (lft n ns : Int)) g := by
      have e : n - (flo n ns).sum = (lft n ns : Int) := by
        have := (left_ok (n := n) hS rfl).1
        unfold lft
        unfold flo at *
        omega
      rw [← e]
      exact (bin_ok (d := .int n) rfl (sum_l (flo n ns) g)).trans rfl
    have z3 : ((mor n ns).map fun (k : Nat) => (k : Int)).map D.int = (((srtP (rst n ns)).map fun t => (t.2 : Int)).map D.int).take (lft n ns) := by
      unfold mor
      rw [List.map_map, List.map_map, List.map_map, ← List.map_take]
      rfl
    rw [z3, ← cut_take]
    show ((fBin oSub (fVar 15) (fBi bSumS (fCons (fVar 17) fNil)) [a0, a1, a2, a3, a4, a5, a6, a7, a8, a9, a10, a11, a12, a13, some (.lst (ns.map .int)), some (.int n), some (.tup ((fnd n ns).map .int)), some (.lst ((flo n ns).map .int)), a18, some (.lst (((srtP (rst n ns)).map fun t => (t.2 : Int)).map .int)), a20, a21] g).bind _).bind _ = _
    rw [z1]
    rfl
  have c6 : fLc [12] (iRng rng1 (fCons (fBi bLen (fCons (fVar 14) fNil)) fNil)) (gNm 12) fYes (fBin oAdd (fBin oIx (fVar 17) (fVar 12)) (fBi bInt (fCons (fBin oIn (fVar 12) (fVar 21)) fNil))) [a0, a1, a2, a3, a4, a5, a6, a7, a8, a9, a10, a11, a12, a13, some (.lst (ns.map .int)), some (.int n), some (.tup ((fnd n ns).map .int)), some (.lst ((flo n ns).map .int)), a18, some (.lst (((srtP (rst n ns)).map fun t => (t.2 : Int)).map .int)), a20, some (.lst (((mor n ns).map fun (k : Nat) => (k : Int)).map .int))] g = .ok (.lst ((fnd n ns).map .int)) g := by
    obtain ⟨r, er⟩ : ∃ r : Int, r = (ns.length : Int) := ⟨_, rfl⟩
    have c : fCons (fBi bLen (fCons (fVar 14) fNil)) fNil [a0, a1, a2, a3, a4, a5, a6, a7, a8, a9, a10, a11, a12, a13, some (.lst (ns.map .int)), some (.int n), some (.tup ((fnd n ns).map .int)), some (.lst ((flo n ns).map .int)), a18, some (.lst (((srtP (rst n ns)).map fun t => (t.2 : Int)).map .int)), a20, some (.lst (((mor n ns).map fun (k : Nat) => (k : Int)).map .int))] g = .ok [.int r] g := by
      refine cons_ok ?_ rfl
      rw [er]
      have q : fBi bLen (fCons (fVar 14) fNil) [a0, a1, a2, a3, a4, a5, a6, a7, a8, a9, a10, a11, a12, a13, some (.lst (ns.map .int)), some (.int n), some (.tup ((fnd n ns).map .int)), some (.lst ((flo n ns).map .int)), a18, some (.lst (((srtP (rst n ns)).map fun t => (t.2 : Int)).map .int)), a20, some (.lst (((mor n ns).map fun (k : Nat) => (k : Int)).map .int))] g = .ok (.int ((ns.map D.int).length : Nat)) g := rfl
      rw [q, List.length_map]
    have i : iRng rng1 (fCons (fBi bLen (fCons (fVar 14) fNil)) fNil) [a0, a1, a2, a3, a4, a5, a6, a7, a8, a9, a10, a11, a12, a13, some (.lst (ns.map .int)), some (.int n), some (.tup ((fnd n ns).map .int)), some (.lst ((flo n ns).map .int)), a18, some (.lst (((srtP (rst n ns)).map fun t => (t.2 : Int)).map .int)), a20, some (.lst (((mor n ns).map fun (k : Nat) => (k : Int)).map .int))] g = .ok (rangeD 0 ns.length) g := by
      unfold iRng
      rw [c]
      unfold Res.bind
      simp only [rng1_k (k := ns.length) (show r.toNat = ns.length by omega) (by omega) (by omega)]
    unfold fLc fLcK
    rw [i]
    show (if (rangeD 0 ns.length).length ≤ sizeLine then (lcD [12] (gNm 12) fYes (fBin oAdd (fBin oIx (fVar 17) (fVar 12)) (fBi bInt (fCons (fBin oIn (fVar 12) (fVar 21)) fNil))) [a0, a1, a2, a3, a4, a5, a6, a7, a8, a9, a10, a11, a12, a13, some (.lst (ns.map .int)), some (.int n), some (.tup ((fnd n ns).map .int)), some (.lst ((flo n ns).map .int)), a18, some (.lst (((srtP (rst n ns)).map fun t => (t.2 : Int)).map .int)), a20, some (.lst (((mor n ns).map fun (k : Nat) => (k : Int)).map .int))] (rangeD 0 ns.length) g).bind (fun ys g => Res.ok (D.lst ys) g) else Res.stuck) = _
    rw [if_pos (by unfold rangeD; rw [List.length_map, List.length_range]; exact hl)]
    rw [lc_fn (f := fun d => match d with
      | .int k => .int ((flo n ns).getD k.toNat 0 + if k.toNat ∈ mor n ns then 1 else 0)
      | d => d) (rangeD 0 ns.length) fun d hd => ?_]
    · show Res.ok (D.lst ((rangeD 0 ns.length).map _)) g = _
      unfold fnd
      rw [incs_list _ _ (mor_nodup n ns) (mor_lt n ns), flo_len]
      unfold rangeD
      rw [List.map_map, List.map_map]
      refine congrArg (fun l => Res.ok (D.lst l) g) (List.map_congr_left fun k _ => ?_)
      show D.int ((flo n ns).getD (0 + (k : Int)).toNat 0 + if (0 + (k : Int)).toNat ∈ mor n ns then 1 else 0) = D.int _
      rw [Int.zero_add, Int.toNat_natCast]
    · unfold rangeD at hd
      obtain ⟨j, hj, rfl⟩ := List.mem_map.mp hd
      have hlt := List.mem_range.mp hj
      rw [Int.zero_add]
      refine ⟨[a0, a1, a2, a3, a4, a5, a6, a7, a8, a9, a10, a11, some (.int (j : Int)), a13, some (.lst (ns.map .int)), some (.int n), some (.tup ((fnd n ns).map .int)), some (.lst ((flo n ns).map .int)), a18, some (.lst (((srtP (rst n ns)).map fun t => (t.2 : Int)).map .int)), a20, some (.lst (((mor n ns).map fun (k : Nat) => (k : Int)).map .int))], rfl, rfl, ?_⟩
      have i1 : fBin oIx (fVar 17) (fVar 12) [a0, a1, a2, a3, a4, a5, a6, a7, a8, a9, a10, a11, some (.int (j : Int)), a13, some (.lst (ns.map .int)), some (.int n), some (.tup ((fnd n ns).map .int)), some (.lst ((flo n ns).map .int)), a18, some (.lst (((srtP (rst n ns)).map fun t => (t.2 : Int)).map .int)), a20, some (.lst (((mor n ns).map fun (k : Nat) => (k : Int)).map .int))] g = .ok (.int ((flo n ns).getD j 0)) g := ix_int (flo n ns) j (by rw [flo_len]; exact hlt) g
      have i2 : fBin oIn (fVar 12) (fVar 21) [a0, a1, a2, a3, a4, a5, a6, a7, a8, a9, a10, a11, some (.int (j : Int)), a13, some (.lst (ns.map .int)), some (.int n), some (.tup ((fnd n ns).map .int)), some (.lst ((flo n ns).map .int)), a18, some (.lst (((srtP (rst n ns)).map fun t => (t.2 : Int)).map .int)), a20, some (.lst (((mor n ns).map fun (k : Nat) => (k : Int)).map .int))] g = .ok (.bl (decide (j ∈ mor n ns))) g := by
        show oIn (.int (j : Int)) (.lst (((mor n ns).map fun (k : Nat) => (k : Int)).map .int)) g = _
        unfold oIn
        rw [in_ints]
        have z : (((mor n ns).map fun (k : Nat) => (k : Int)).any fun x => x == (j : Int)) = decide (j ∈ mor n ns) := by
          rw [Bool.eq_iff_iff, List.any_eq_true]
          simp only [List.mem_map, beq_iff_eq, decide_eq_true_eq]
          constructor
          · rintro ⟨x, ⟨k, hk, rfl⟩, e⟩
            have : k = j := by omega
            rw [← this]; exact hk
          · intro h
            exact ⟨_, ⟨j, h, rfl⟩, rfl⟩
        rw [z]
      have i3 : fBi bInt (fCons (fBin oIn (fVar 12) (fVar 21)) fNil) [a0, a1, a2, a3, a4, a5, a6, a7, a8, a9, a10, a11, some (.int (j : Int)), a13, some (.lst (ns.map .int)), some (.int n), some (.tup ((fnd n ns).map .int)), some (.lst ((flo n ns).map .int)), a18, some (.lst (((srtP (rst n ns)).map fun t => (t.2 : Int)).map .int)), a20, some (.lst (((mor n ns).map fun (k : Nat) => (k : Int)).map .int))] g = .ok (.int (if decide (j ∈ mor n ns) = true then 1 else 0)) g := (bi_ok (cons_ok i2 rfl)).trans rfl
      refine (bin_ok i1 i3).trans ?_
      show Res.ok (D.int _) g = Res.ok (D.int _) g
      simp only [Int.toNat_natCast, decide_eq_true_eq]
  refine ⟨[a0, a1, a2, a3, a4, a5, a6, a7, a8, a9, a10, a11, a12, a13, some (.lst (ns.map .int)), some (.int n), some (.tup ((fnd n ns).map .int)), some (.lst ((flo n ns).map .int)), a18, some (.lst (((srtP (rst n ns)).map fun t => (t.2 : Int)).map .int)), a20, some (.lst (((mor n ns).map fun (k : Nat) => (k : Int)).map .int))], ?_⟩
  refine (seq_nx (asg_ok (ρ2 := [a0, a1, a2, a3, a4, a5, a6, a7, a8, a9, a10, a11, a12, a13, some (.lst (ns.map .int)), some (.int n), some (.tup ((fnd n ns).map .int)), some (.lst ((flo n ns).map .int)), a18, a19, a20, a21]) c1 rfl)).trans ?_
  refine (seq_nx (asg_ok (ρ2 := [a0, a1, a2, a3, a4, a5, a6, a7, a8, a9, a10, a11, a12, a13, some (.lst (ns.map .int)), some (.int n), some (.tup ((fnd n ns).map .int)), some (.lst ((flo n ns).map .int)), a18, some (.lst (((srtP (rst n ns)).map fun t => (t.2 : Int)).map .int)), a20, a21]) c4 rfl)).trans ?_
  refine (seq_nx (asg_ok (ρ2 := [a0, a1, a2, a3, a4, a5, a6, a7, a8, a9, a10, a11, a12, a13, some (.lst (ns.map .int)), some (.int n), some (.tup ((fnd n ns).map .int)), some (.lst ((flo n ns).map .int)), a18, some (.lst (((srtP (rst n ns)).map fun t => (t.2 : Int)).map .int)), a20, some (.lst (((mor n ns).map fun (k : Nat) => (k : Int)).map .int))]) c5 rfl)).trans ?_
  refine (seq_nx (if_nil ?_)).trans rfl
  rw [or_ff (ne_f (d := .lst ((fnd n ns).map .int)) (g1 := g) rfl c6 (eq_ints g _))]
  exact ne_i (sum_t (fnd n ns) g) rfl (fnd_sum hS)
end K01
end
section
set_option Elab.async false
set_option linter.all false
set_option maxRecDepth 100000
set_option maxHeartbeats 4000000
namespace K01
open PySem Dl
theorem for_one {fi : FI} {fg : FG} {fb : FS} {ρ ρ1 ρ2 : Env'} {g g1 g2 : G} {d : D} (h1 : fi ρ g = .ok [d] g1) (h2 : fg d ρ g1 = .ok ρ1 g1) (h3 : fb ρ1 g1 = .nx ρ2 g2) : sFor fi fg fb ρ g = .nx ρ2 g2 := by
  unfold sFor
  rw [h1]
  show forD fg fb [d] ρ g1 = _
  unfold forD
  simp only [h2, h3]
  rfl
theorem for_all {fi : FI} {fg : FG} {fb : FS} {ρ ρ2 : Env'} {g g1 g2 : G} {ds : List D} (h1 : fi ρ g = .ok ds g1) (h3 : forD fg fb ds ρ g1 = .nx ρ2 g2) : sFor fi fg fb ρ g = .nx ρ2 g2 := by
  unfold sFor
  rw [h1]
  exact h3
theorem told_v {okc : Nat → Bool} {w : Str} {f : FE} {ρ : Env'} {g g1 : G} {d : D} (h : f ρ g = .ok d g1) : fTold okc w f ρ g = .ok d g1 := by unfold fTold; rw [h]
theorem told_e {w : Str} {f : FE} {ρ : Env'} {g g1 : G} (h : f ρ g = .err 1 g1) : fTold okc__law_told w f ρ g = .ok (.str w) g1 := by unfold fTold; rw [h]; rfl
theorem nch {o o' : F2} {fa fb fc : FE} {ρ : Env'} {g : G} {x y w : D} (h1 : fa ρ g = .ok x g) (h2 : fb ρ g = .ok y g) (h3 : o x y g = .ok (.bl true) g) (h4 : fc ρ g = .ok w g) (h5 : o' y w g = .ok (.bl true) g) : fNot (fB (fCh o o' fa fb fc)) ρ g = .ok false g :=
  (not_ok (fB_ok ((ch_tt h1 h2 h3 h4).trans h5))).trans rfl
theorem lt_t {a b : Int} (h : a < b) (g : G) : oLt (.int a) (.int b) g = .ok (.bl true) g := by
  show Res.ok (D.bl (decide (a < b))) g = _
  rw [decide_eq_true h]
theorem le_t {a b : Int} (h : a ≤ b) (g : G) : oLe (.int a) (.int b) g = .ok (.bl true) g := by
  show Res.ok (D.bl (decide (a ≤ b))) g = _
  rw [decide_eq_true h]
def isT : Res D → Bool
  | .ok (.bl true) _ => true
  | _ => false
theorem isT_ok {r : Res D} (h : isT r = true) : ∃ g, r = .ok (.bl true) g := by
  unfold isT at h
  split at h
  · exact ⟨_, rfl⟩
  · cases h
theorem plain_true : isT (F__law_plain [] []) = true := by decide +kernel
theorem ne_frac {f1 f2 : FE} {ρ : Env'} {g g1 g2 : G} {p q : Int × Int} (h1 : f1 ρ g = .ok (frn p) g1) (h2 : f2 ρ g1 = .ok (frn q) g2) (e : p = q) : fB (fBin oNe f1 f2) ρ g = .ok false g2 := by
  subst e
  exact ne_f h1 h2 (eq_fr _ _)
theorem sum_le : ∀ ns : List Int, (∀ y ∈ ns, 0 ≤ y ∧ y < 6) → 0 ≤ ns.sum ∧ ns.sum ≤ 5 * ns.length
  | [], _ => by simp
  | x :: r, h => by
    have q := sum_le r fun y hy => h y (List.mem_cons_of_mem _ hy)
    have := h x List.mem_cons_self
    simp only [List.sum_cons, List.length_cons]
    omega
theorem share_test {a b : Int} (hb : b.natAbs < 536870912) (g : G) {ρ : Env'} (h2 : fVar 2 ρ g = .ok (.int a) g) (h3 : fVar 3 ρ g = .ok (.int b) g) :
    fB (fBin oNe (fTold okc__law_told "ShareError" (fCall F_share (fCons (fVar 2) (fCons (fVar 3) fNil)))) (fIf (fB (fBin oNe (fVar 3) (fC (.int 0)))) (fCall F__law_share (fCons (fVar 2) (fCons (fVar 3) fNil))) (fC (.str "ShareError")))) ρ g = .ok false g := by
  have t : fB (fBin oNe (fVar 3) (fC (.int 0))) ρ g = .ok (!(b == 0)) g := fB_ok ((bin_ok (e := .int 0) h3 rfl).trans rfl)
  by_cases h : b = 0
  · subst h
    exact ne_f (d := .str "ShareError") (told_e ((call_ok (cons_ok h2 (cons_ok h3 rfl))).trans (share_zero a g))) ((fif_ff t).trans rfl) (eq_word g)
  · have z : (!(b == 0)) = true := by simpa using h
    rw [z] at t
    exact ne_frac (told_v ((call_ok (cons_ok h2 (cons_ok h3 rfl))).trans (share_spec a b g h (by omega)))) ((fif_tt t).trans ((call_ok (cons_ok h2 (cons_ok h3 rfl))).trans (law_share_spec a b g h hb))) rfl
theorem parted_test {p q : Int × Int} (hp : Sh p) (hq : Sh q) (g : G) {ρ : Env'} (h4 : fVar 4 ρ g = .ok (frn p) g) (h5 : fVar 5 ρ g = .ok (frn q) g) :
    fB (fBin oNe (fTold okc__law_told "ShareError" (fCall F_parted (fCons (fVar 4) (fCons (fVar 5) fNil)))) (fIf (fB (fBin oNe (fBin oIx (fVar 5) (fC (.int 0))) (fC (.int 0)))) (fCall F__law_share (fCons (fBin oMul (fBin oIx (fVar 4) (fC (.int 0))) (fBin oIx (fVar 5) (fC (.int 1)))) (fCons (fBin oMul (fBin oIx (fVar 4) (fC (.int 1))) (fBin oIx (fVar 5) (fC (.int 0)))) fNil))) (fC (.str "ShareError")))) ρ g = .ok false g := by
  have i40 : fBin oIx (fVar 4) (fC (.int 0)) ρ g = .ok (.int p.1) g := (bin_ok (e := .int 0) h4 rfl).trans rfl
  have i41 : fBin oIx (fVar 4) (fC (.int 1)) ρ g = .ok (.int p.2) g := (bin_ok (e := .int 1) h4 rfl).trans rfl
  have i50 : fBin oIx (fVar 5) (fC (.int 0)) ρ g = .ok (.int q.1) g := (bin_ok (e := .int 0) h5 rfl).trans rfl
  have i51 : fBin oIx (fVar 5) (fC (.int 1)) ρ g = .ok (.int q.2) g := (bin_ok (e := .int 1) h5 rfl).trans rfl
  have t : fB (fBin oNe (fBin oIx (fVar 5) (fC (.int 0))) (fC (.int 0))) ρ g = .ok (!(q.1 == 0)) g := fB_ok ((bin_ok (e := .int 0) i50 rfl).trans rfl)
  have hd := hq.d
  have hn := hq.num
  have hpd := hp.d
  have m1 : fBin oMul (fBin oIx (fVar 4) (fC (.int 0))) (fBin oIx (fVar 5) (fC (.int 1))) ρ g = .ok (.int (p.1 * q.2)) g := (bin_ok i40 i51).trans (oMul_ok' (lt64 (by omega)) g)
  have m2 : fBin oMul (fBin oIx (fVar 4) (fC (.int 1))) (fBin oIx (fVar 5) (fC (.int 0))) ρ g = .ok (.int (p.2 * q.1)) g := (bin_ok i41 i50).trans (oMul_ok' (lt64 (by omega)) g)
  by_cases h : q.1 = 0
  · have z : (!(q.1 == 0)) = false := by simp [h]
    rw [z] at t
    refine ne_f (d := .str "ShareError") (told_e ((call_ok (cons_ok h4 (cons_ok h5 rfl))).trans ?_)) ((fif_ff t).trans rfl) (eq_word g)
    show F_parted [fr p.1 p.2, fr q.1 q.2] g = _
    rw [h]
    exact parted_zero p.1 p.2 q.2 g
  · have z : (!(q.1 == 0)) = true := by simpa using h
    rw [z] at t
    have h0 : p.2 * q.1 ≠ 0 := fun x => by
      rcases Int.mul_eq_zero.mp x with y | y
      · have := hp.red.1; omega
      · exact h y
    exact ne_frac (told_v ((call_ok (cons_ok h4 (cons_ok h5 rfl))).trans (parted_spec p.1 p.2 q.1 q.2 g h (by omega) (by omega) h0 (mul_le144 hpd hn _ (by decide))))) ((fif_tt t).trans ((call_ok (cons_ok m1 (cons_ok m2 rfl))).trans (law_share_spec _ _ g h0 (mul_le144 hpd hn _ (by decide))))) rfl
def LB : FS := (sSeq (sAsg (fTup (fCons (fBin oSub (fCall (F__law_roll 3) (fCons (fVar 1) (fCons (fC (.int 400)) fNil))) (fC (.int 200))) (fCons (fBin oSub (fCall (F__law_roll 3) (fCons (fVar 1) (fCons (fC (.int 60)) fNil))) (fC (.int 30))) fNil))) (gTp 2 (gsCons (gNm 2) (gsCons (gNm 3) gsNil))))
  (sSeq (sIf (fB (fBin oNe (fTold okc__law_told "ShareError" (fCall F_share (fCons (fVar 2) (fCons (fVar 3) fNil)))) (fIf (fB (fBin oNe (fVar 3) (fC (.int 0)))) (fCall F__law_share (fCons (fVar 2) (fCons (fVar 3) fNil))) (fC (.str "ShareError"))))) (sSeq (sRt (fC (.bl false)))
  sNil) sNil)
  (sSeq (sAsg (fTup (fCons (fCall F__law_one (fCons (fVar 1) fNil)) (fCons (fCall F__law_one (fCons (fVar 1) fNil)) (fCons (fCall F__law_one (fCons (fVar 1) fNil)) fNil)))) (gTp 3 (gsCons (gNm 4) (gsCons (gNm 5) (gsCons (gNm 6) gsNil)))))
  (sSeq (sIf (fOr (fB (fBin oNe (fCall F_plus (fCons (fVar 4) (fCons (fVar 5) fNil))) (fCall F__law_add (fCons (fVar 4) (fCons (fVar 5) fNil))))) (fOr (fB (fBin oNe (fCall F_minus (fCons (fCall F_plus (fCons (fVar 4) (fCons (fVar 5) fNil))) (fCons (fVar 5) fNil))) (fVar 4))) (fOr (fB (fBin oNe (fCall F_times (fCons (fVar 4) (fCons (fVar 5) fNil))) (fCall F__law_mul (fCons (fVar 4) (fCons (fVar 5) fNil))))) (fB (fBin oNe (fCall F_times (fCons (fVar 4) (fCons (fCall F_plus (fCons (fVar 5) (fCons (fVar 6) fNil))) fNil))) (fCall F_plus (fCons (fCall F_times (fCons (fVar 4) (fCons (fVar 5) fNil))) (fCons (fCall F_times (fCons (fVar 4) (fCons (fVar 6) fNil))) fNil)))))))) (sSeq (sRt (fC (.bl false)))
  sNil) sNil)
  (sSeq (sIf (fB (fBin oNe (fTold okc__law_told "ShareError" (fCall F_parted (fCons (fVar 4) (fCons (fVar 5) fNil)))) (fIf (fB (fBin oNe (fBin oIx (fVar 5) (fC (.int 0))) (fC (.int 0)))) (fCall F__law_share (fCons (fBin oMul (fBin oIx (fVar 4) (fC (.int 0))) (fBin oIx (fVar 5) (fC (.int 1)))) (fCons (fBin oMul (fBin oIx (fVar 4) (fC (.int 1))) (fBin oIx (fVar 5) (fC (.int 0)))) fNil))) (fC (.str "ShareError"))))) (sSeq (sRt (fC (.bl false)))
  sNil) sNil)
  (sSeq (sPar3 7 8 9 (fCons (fCall F_below (fCons (fVar 4) fNil)) (fCons (fCall F_above (fCons (fVar 4) fNil)) (fCons (fCall F_nearest (fCons (fVar 4) fNil)) fNil))))
  (sSeq (sIf (fOr (fNot (fB (fCh oLe oLt (fBin oMul (fVar 7) (fBin oIx (fVar 4) (fC (.int 1)))) (fBin oIx (fVar 4) (fC (.int 0))) (fBin oMul (fBin oAdd (fVar 7) (fC (.int 1))) (fBin oIx (fVar 4) (fC (.int 1))))))) (fOr (fNot (fB (fCh oLt oLe (fBin oMul (fBin oSub (fVar 8) (fC (.int 1))) (fBin oIx (fVar 4) (fC (.int 1)))) (fBin oIx (fVar 4) (fC (.int 0))) (fBin oMul (fVar 8) (fBin oIx (fVar 4) (fC (.int 1))))))) (fNot (fB (fCh oLe oLt (fBin oMul (fBin oSub (fBin oMul (fC (.int 2)) (fVar 9)) (fC (.int 1))) (fBin oIx (fVar 4) (fC (.int 1)))) (fBin oMul (fC (.int 2)) (fBin oIx (fVar 4) (fC (.int 0)))) (fBin oMul (fBin oAdd (fBin oMul (fC (.int 2)) (fVar 9)) (fC (.int 1))) (fBin oIx (fVar 4) (fC (.int 1))))))))) (sSeq (sRt (fC (.bl false)))
  sNil) sNil)
  (sSeq (sPar 10 11 (fCons (fLc [12] (iRng rng1 (fCons (fCall (F__law_roll 3) (fCons (fVar 1) (fCons (fC (.int 6)) fNil))) fNil)) (gNm 12) fYes (fCall F__law_one (fCons (fVar 1) fNil))) (fCons (fTup (fCons (fC (.int 0)) (fCons (fC (.int 1)) fNil))) fNil)))
  (sSeq (sFor (iSeq (fVar 10)) (gNm 13) (sSeq (sAsg (fCall F__law_add (fCons (fVar 11) (fCons (fVar 13) fNil))) (gNm 11))
  sNil))
  (sSeq (sIf (fOr (fB (fBin oNe (fCall F_is_less (fCons (fVar 4) (fCons (fVar 5) fNil))) (fCall F__law_less (fCons (fVar 4) (fCons (fVar 5) fNil))))) (fOr (fB (fBin oNe (fCall F_sum_of (fCons (fVar 10) fNil)) (fVar 11))) (fOr (fB (fBin oNe (fCall F_whole (fCons (fVar 2) fNil)) (fTup (fCons (fVar 2) (fCons (fC (.int 1)) fNil))))) (fB (fBin oNe (fCall F_told_share (fCons (fVar 4) fNil)) (fIf (fB (fBin oEq (fBin oIx (fVar 4) (fC (.int 1))) (fC (.int 1)))) (fBi bStr (fCons (fBin oIx (fVar 4) (fC (.int 0))) fNil)) (fBin oAdd (fBin oAdd (fBi bStr (fCons (fBin oIx (fVar 4) (fC (.int 0))) fNil)) (fC (.str ":"))) (fBi bStr (fCons (fBin oIx (fVar 4) (fC (.int 1))) fNil))))))))) (sSeq (sRt (fC (.bl false)))
  sNil) sNil)
  (sSeq (sAsg (fTup (fCons (fLc [12] (iRng rng1 (fCons (fCall (F__law_roll 3) (fCons (fVar 1) (fCons (fC (.int 6)) fNil))) fNil)) (gNm 12) fYes (fCall (F__law_roll 3) (fCons (fVar 1) (fCons (fC (.int 6)) fNil)))) (fCons (fCall (F__law_roll 3) (fCons (fVar 1) (fCons (fC (.int 50)) fNil))) fNil))) (gTp 2 (gsCons (gNm 14) (gsCons (gNm 15) gsNil))))
  (sSeq (sAsg (fTold okc__law_told "ShareError" (fCall F_split (fCons (fVar 15) (fCons (fVar 14) fNil)))) (gNm 16))
  (sSeq (sIf (fB (fBin oNe (fBin oEq (fVar 16) (fC (.str "ShareError"))) (fBin oEq (fBi bSumS (fCons (fVar 14) fNil)) (fC (.int 0))))) (sSeq (sRt (fC (.bl false)))
  sNil) sNil)
  (sSeq (sIf (fB (fBin oNe (fVar 16) (fC (.str "ShareError")))) (sSeq (sAsg (fLc [18] (iSeq (fVar 14)) (gNm 18) fYes (fBin oDiv (fBin oMul (fVar 15) (fVar 18)) (fBi bSumS (fCons (fVar 14) fNil)))) (gNm 17))
  (sSeq (sAsg (fLc [20, 12] (iSeq (fBi bSorted (fCons (fLc [12, 18] (iRng enmA (fCons (fVar 14) fNil)) (gTp 2 (gsCons (gNm 12) (gsCons (gNm 18) gsNil))) fYes (fTup (fCons (fBin oSub (fBin oMul (fBin oIx (fVar 17) (fVar 12)) (fBi bSumS (fCons (fVar 14) fNil))) (fBin oMul (fVar 15) (fVar 18))) (fCons (fVar 12) fNil)))) fNil))) (gTp 2 (gsCons (gNm 20) (gsCons (gNm 12) gsNil))) fYes (fVar 12)) (gNm 19))
  (sSeq (sAsg (fSl (fVar 19) fNo (fSo (fBin oSub (fVar 15) (fBi bSumS (fCons (fVar 17) fNil))))) (gNm 21))
  (sSeq (sIf (fOr (fB (fBin oNe (fBi bList (fCons (fVar 16) fNil)) (fLc [12] (iRng rng1 (fCons (fBi bLen (fCons (fVar 14) fNil)) fNil)) (gNm 12) fYes (fBin oAdd (fBin oIx (fVar 17) (fVar 12)) (fBi bInt (fCons (fBin oIn (fVar 12) (fVar 21)) fNil)))))) (fB (fBin oNe (fBi bSumS (fCons (fVar 16) fNil)) (fVar 15)))) (sSeq (sRt (fC (.bl false)))
  sNil) sNil)
  sNil)))) sNil)
  sNil))))))))))))))
theorem law_true (d : D) (ns0 : List Int) (h : scrD d ns0) : ∃ g, F_law [d] [] = .ok (.bl true) g := by
  obtain ⟨g0, hg0, e0⟩ := rounds_spec h
  obtain ⟨r1, g1, hg1, l1, u1, e1⟩ := roll_spec hg0 (many := 400) (by decide) (by decide)
  obtain ⟨r2, g2, hg2, l2, u2, e2⟩ := roll_spec hg1 (many := 60) (by decide) (by decide)
  obtain ⟨p, g3, hg3, sp, e3⟩ := one_spec hg2
  obtain ⟨q, g4, hg4, sq, e4⟩ := one_spec hg3
  obtain ⟨r, g5, hg5, sr, e5⟩ := one_spec hg4
  obtain ⟨ps, g6, hg6, sps, lps, e6⟩ := comp_ok (R := Sh) (en := frn) (fe := fCall F__law_one (fCons (fVar 1) fNil)) (ρ := [some d, some (.loc 0), some (.int (r1 - 200)), some (.int (r2 - 30)), some (frn p), some (frn q), some (frn r), some (.int (p.1 / p.2)), some (.int (0 - (0 - p.1) / p.2)), some (.int ((2 * p.1 + p.2) / (2 * p.2))), none, none, none, none, none, none, none, none, none, none, none, none]) (fun g => rfl) (fun d' g hg => by
    obtain ⟨p, g', h1, h2, h3⟩ := one_spec hg
    exact ⟨p, g', h3, h1, h2⟩) hg5
  obtain ⟨y, e7⟩ := total_loop g6 (some d) (some (.loc 0)) (some (.int (r1 - 200))) (some (.int (r2 - 30))) (some (frn p)) (some (frn q)) (some (frn r)) (some (.int (p.1 / p.2))) (some (.int (0 - (0 - p.1) / p.2))) (some (.int ((2 * p.1 + p.2) / (2 * p.2)))) (some (.lst (ps.map frn))) (none) (none) (none) (none) (none) (none) (none) (none) (none) ps (0, 1) none sps (by decide) (pow5 lps)
  obtain ⟨ns, g7, hg7, sns, lns, e8⟩ := comp_ok (R := fun y : Int => 0 ≤ y ∧ y < 6) (en := D.int) (fe := fCall (F__law_roll 3) (fCons (fVar 1) (fCons (fC (.int 6)) fNil))) (ρ := [some d, some (.loc 0), some (.int (r1 - 200)), some (.int (r2 - 30)), some (frn p), some (frn q), some (frn r), some (.int (p.1 / p.2)), some (.int (0 - (0 - p.1) / p.2)), some (.int ((2 * p.1 + p.2) / (2 * p.2))), some (.lst (ps.map frn)), some (frn (ps.foldl addp (0, 1))), none, y, none, none, none, none, none, none, none, none]) (fun g => rfl) (fun d' g hg => by
    obtain ⟨r, g', h1, h2, h3, h4⟩ := roll_spec hg (many := 6) (by decide) (by decide)
    exact ⟨r, g', h4, h1, h2, h3⟩) hg6
  obtain ⟨n, g8, hg8, l9, u9, e9⟩ := roll_spec hg7 (many := 50) (by decide) (by decide)
  have hsum := sum_le ns sns
  have pd := sp.red.1
  have pl := sp.d
  obtain ⟨gp, ep⟩ := isT_ok plain_true
  suffices ∃ ρ' g', (sFor (iSeq (fCall F__law_rounds (fCons (fVar 0) (fCons (fC (.int 1)) fNil)))) (gNm 1) LB) [some d, none, none, none, none, none, none, none, none, none, none, none, none, none, none, none, none, none, none, none, none, none] [] = .nx ρ' g' by
    obtain ⟨ρ', g', z⟩ := this
    refine ⟨g', run_rt ?_⟩
    unfold B_law
    refine (seq_nx z).trans (seq_rt (rt_ok ?_))
    unfold fCall0F
    rw [ep]
    rfl
  have it : iSeq (fCall F__law_rounds (fCons (fVar 0) (fCons (fC (.int 1)) fNil))) [some d, none, none, none, none, none, none, none, none, none, none, none, none, none, none, none, none, none, none, none, none, none] [] = .ok [.loc 0] g0 := by
    unfold iSeq
    rw [call_ok (cons_ok (d := d) (ds := [.int 1]) (g1 := []) (g2 := []) rfl rfl), e0]
    rfl
  suffices ∃ ρ' g', LB [some d, some (.loc 0), none, none, none, none, none, none, none, none, none, none, none, none, none, none, none, none, none, none, none, none] g0 = RSt.nx ρ' g' by
    obtain ⟨ρ', g', z⟩ := this
    exact ⟨ρ', g', for_one it rfl z⟩
  -- the draws
  have b1 : fTup (fCons (fBin oSub (fCall (F__law_roll 3) (fCons (fVar 1) (fCons (fC (.int 400)) fNil))) (fC (.int 200))) (fCons (fBin oSub (fCall (F__law_roll 3) (fCons (fVar 1) (fCons (fC (.int 60)) fNil))) (fC (.int 30))) fNil)) [some d, some (.loc 0), none, none, none, none, none, none, none, none, none, none, none, none, none, none, none, none, none, none, none, none] g0 = .ok (.tup [.int (r1 - 200), .int (r2 - 30)]) g2 :=
    tup_ok (cons_ok ((bin_ok (d := .int r1) e1 rfl).trans rfl) (cons_ok ((bin_ok (d := .int r2) e2 rfl).trans rfl) rfl)) (show 2 ≤ sizeLine by decide)
  have b2 := share_test (a := r1 - 200) (b := r2 - 30) (by omega) g2 (ρ := [some d, some (.loc 0), some (.int (r1 - 200)), some (.int (r2 - 30)), none, none, none, none, none, none, none, none, none, none, none, none, none, none, none, none, none, none]) rfl rfl
  have b3 : fTup (fCons (fCall F__law_one (fCons (fVar 1) fNil)) (fCons (fCall F__law_one (fCons (fVar 1) fNil)) (fCons (fCall F__law_one (fCons (fVar 1) fNil)) fNil))) [some d, some (.loc 0), some (.int (r1 - 200)), some (.int (r2 - 30)), none, none, none, none, none, none, none, none, none, none, none, none, none, none, none, none, none, none] g2 = .ok (.tup [frn p, frn q, frn r]) g5 :=
    tup_ok (cons_ok (d := frn p) e3 (cons_ok (d := frn q) e4 (cons_ok (d := frn r) e5 rfl))) (show 3 ≤ sizeLine by decide)
  obtain ⟨z, z1, z2⟩ := dist sp sq sr g5
  have pa := plus_sh sp sq g5
  have pm := times_sh sp sq g5
  have b4 : fOr (fB (fBin oNe (fCall F_plus (fCons (fVar 4) (fCons (fVar 5) fNil))) (fCall F__law_add (fCons (fVar 4) (fCons (fVar 5) fNil))))) (fOr (fB (fBin oNe (fCall F_minus (fCons (fCall F_plus (fCons (fVar 4) (fCons (fVar 5) fNil))) (fCons (fVar 5) fNil))) (fVar 4))) (fOr (fB (fBin oNe (fCall F_times (fCons (fVar 4) (fCons (fVar 5) fNil))) (fCall F__law_mul (fCons (fVar 4) (fCons (fVar 5) fNil))))) (fB (fBin oNe (fCall F_times (fCons (fVar 4) (fCons (fCall F_plus (fCons (fVar 5) (fCons (fVar 6) fNil))) fNil))) (fCall F_plus (fCons (fCall F_times (fCons (fVar 4) (fCons (fVar 5) fNil))) (fCons (fCall F_times (fCons (fVar 4) (fCons (fVar 6) fNil))) fNil))))))) [some d, some (.loc 0), some (.int (r1 - 200)), some (.int (r2 - 30)), some (frn p), some (frn q), some (frn r), none, none, none, none, none, none, none, none, none, none, none, none, none, none, none] g5 = .ok false g5 := by
    have t1 : fB (fBin oNe (fCall F_plus (fCons (fVar 4) (fCons (fVar 5) fNil))) (fCall F__law_add (fCons (fVar 4) (fCons (fVar 5) fNil)))) [some d, some (.loc 0), some (.int (r1 - 200)), some (.int (r2 - 30)), some (frn p), some (frn q), some (frn r), none, none, none, none, none, none, none, none, none, none, none, none, none, none, none] g5 = .ok false g5 := ne_frac (p := addp p q) (q := addp p q) pa.1 pa.2 rfl
    have t2 : fB (fBin oNe (fCall F_minus (fCons (fCall F_plus (fCons (fVar 4) (fCons (fVar 5) fNil))) (fCons (fVar 5) fNil))) (fVar 4)) [some d, some (.loc 0), some (.int (r1 - 200)), some (.int (r2 - 30)), some (frn p), some (frn q), some (frn r), none, none, none, none, none, none, none, none, none, none, none, none, none, none, none] g5 = .ok false g5 :=
      ne_frac (p := p) (q := p) ((call_ok (cons_ok (d := frn (addp p q)) pa.1 (cons_ok (d := frn q) (g1 := g5) (ds := []) (g2 := g5) rfl rfl))).trans (minus_back sp sq g5)) rfl rfl
    have t3 : fB (fBin oNe (fCall F_times (fCons (fVar 4) (fCons (fVar 5) fNil))) (fCall F__law_mul (fCons (fVar 4) (fCons (fVar 5) fNil)))) [some d, some (.loc 0), some (.int (r1 - 200)), some (.int (r2 - 30)), some (frn p), some (frn q), some (frn r), none, none, none, none, none, none, none, none, none, none, none, none, none, none, none] g5 = .ok false g5 := ne_frac (p := mulp p q) (q := mulp p q) pm.1 pm.2 rfl
    have t4 : fB (fBin oNe (fCall F_times (fCons (fVar 4) (fCons (fCall F_plus (fCons (fVar 5) (fCons (fVar 6) fNil))) fNil))) (fCall F_plus (fCons (fCall F_times (fCons (fVar 4) (fCons (fVar 5) fNil))) (fCons (fCall F_times (fCons (fVar 4) (fCons (fVar 6) fNil))) fNil)))) [some d, some (.loc 0), some (.int (r1 - 200)), some (.int (r2 - 30)), some (frn p), some (frn q), some (frn r), none, none, none, none, none, none, none, none, none, none, none, none, none, none, none] g5 = .ok false g5 :=
      ne_frac (p := z) (q := z) ((call_ok (cons_ok (d := frn p) (g1 := g5) rfl (cons_ok (d := frn (addp q r)) (plus_sh sq sr g5).1 rfl))).trans z1) ((call_ok (cons_ok (d := frn (mulp p q)) pm.1 (cons_ok (d := frn (mulp p r)) (times_sh sp sr g5).1 rfl))).trans z2) rfl
    rw [or_ff t1, or_ff t2, or_ff t3, t4]
  have b5 := parted_test sp sq g5 (ρ := [some d, some (.loc 0), some (.int (r1 - 200)), some (.int (r2 - 30)), some (frn p), some (frn q), some (frn r), none, none, none, none, none, none, none, none, none, none, none, none, none, none, none]) rfl rfl
  have b6 : sPar3 7 8 9 (fCons (fCall F_below (fCons (fVar 4) fNil)) (fCons (fCall F_above (fCons (fVar 4) fNil)) (fCons (fCall F_nearest (fCons (fVar 4) fNil)) fNil))) [some d, some (.loc 0), some (.int (r1 - 200)), some (.int (r2 - 30)), some (frn p), some (frn q), some (frn r), none, none, none, none, none, none, none, none, none, none, none, none, none, none, none] g5 = .nx [some d, some (.loc 0), some (.int (r1 - 200)), some (.int (r2 - 30)), some (frn p), some (frn q), some (frn r), some (.int (p.1 / p.2)), some (.int (0 - (0 - p.1) / p.2)), some (.int ((2 * p.1 + p.2) / (2 * p.2))), none, none, none, none, none, none, none, none, none, none, none, none] g5 := by
    have c : fCons (fCall F_below (fCons (fVar 4) fNil)) (fCons (fCall F_above (fCons (fVar 4) fNil)) (fCons (fCall F_nearest (fCons (fVar 4) fNil)) fNil)) [some d, some (.loc 0), some (.int (r1 - 200)), some (.int (r2 - 30)), some (frn p), some (frn q), some (frn r), none, none, none, none, none, none, none, none, none, none, none, none, none, none, none] g5 = .ok [.int (p.1 / p.2), .int (0 - (0 - p.1) / p.2), .int ((2 * p.1 + p.2) / (2 * p.2))] g5 :=
      cons_ok (below_spec p.1 p.2 g5 pd (by omega)) (cons_ok (above_spec p.1 p.2 g5 pd (by omega)) (cons_ok (nearest_spec p.1 p.2 g5 pd (by omega)) rfl))
    unfold sPar3
    rw [c]
    rfl
  have i0 : fBin oIx (fVar 4) (fC (.int 0)) [some d, some (.loc 0), some (.int (r1 - 200)), some (.int (r2 - 30)), some (frn p), some (frn q), some (frn r), some (.int (p.1 / p.2)), some (.int (0 - (0 - p.1) / p.2)), some (.int ((2 * p.1 + p.2) / (2 * p.2))), none, none, none, none, none, none, none, none, none, none, none, none] g5 = .ok (.int p.1) g5 := rfl
  have i1 : fBin oIx (fVar 4) (fC (.int 1)) [some d, some (.loc 0), some (.int (r1 - 200)), some (.int (r2 - 30)), some (frn p), some (frn q), some (frn r), some (.int (p.1 / p.2)), some (.int (0 - (0 - p.1) / p.2)), some (.int ((2 * p.1 + p.2) / (2 * p.2))), none, none, none, none, none, none, none, none, none, none, none, none] g5 = .ok (.int p.2) g5 := rfl
  have md : ∀ {f : FE} {x : Int}, f [some d, some (.loc 0), some (.int (r1 - 200)), some (.int (r2 - 30)), some (frn p), some (frn q), some (frn r), some (.int (p.1 / p.2)), some (.int (0 - (0 - p.1) / p.2)), some (.int ((2 * p.1 + p.2) / (2 * p.2))), none, none, none, none, none, none, none, none, none, none, none, none] g5 = .ok (.int x) g5 → fBin oMul f (fBin oIx (fVar 4) (fC (.int 1))) [some d, some (.loc 0), some (.int (r1 - 200)), some (.int (r2 - 30)), some (frn p), some (frn q), some (frn r), some (.int (p.1 / p.2)), some (.int (0 - (0 - p.1) / p.2)), some (.int ((2 * p.1 + p.2) / (2 * p.2))), none, none, none, none, none, none, none, none, none, none, none, none] g5 = .ok (.int (x * p.2)) g5 := fun h => (bin_ok h i1).trans (oMul_ok' (lt64 (by omega)) g5)
  have b7 : fOr (fNot (fB (fCh oLe oLt (fBin oMul (fVar 7) (fBin oIx (fVar 4) (fC (.int 1)))) (fBin oIx (fVar 4) (fC (.int 0))) (fBin oMul (fBin oAdd (fVar 7) (fC (.int 1))) (fBin oIx (fVar 4) (fC (.int 1))))))) (fOr (fNot (fB (fCh oLt oLe (fBin oMul (fBin oSub (fVar 8) (fC (.int 1))) (fBin oIx (fVar 4) (fC (.int 1)))) (fBin oIx (fVar 4) (fC (.int 0))) (fBin oMul (fVar 8) (fBin oIx (fVar 4) (fC (.int 1))))))) (fNot (fB (fCh oLe oLt (fBin oMul (fBin oSub (fBin oMul (fC (.int 2)) (fVar 9)) (fC (.int 1))) (fBin oIx (fVar 4) (fC (.int 1)))) (fBin oMul (fC (.int 2)) (fBin oIx (fVar 4) (fC (.int 0)))) (fBin oMul (fBin oAdd (fBin oMul (fC (.int 2)) (fVar 9)) (fC (.int 1))) (fBin oIx (fVar 4) (fC (.int 1)))))))) [some d, some (.loc 0), some (.int (r1 - 200)), some (.int (r2 - 30)), some (frn p), some (frn q), some (frn r), some (.int (p.1 / p.2)), some (.int (0 - (0 - p.1) / p.2)), some (.int ((2 * p.1 + p.2) / (2 * p.2))), none, none, none, none, none, none, none, none, none, none, none, none] g5 = .ok false g5 := by
    have lo := low_ok p.1 pd
    have hi := high_ok p.1 pd
    have ne := near_ok p.1 pd
    have n2 : fBin oMul (fC (.int 2)) (fVar 9) [some d, some (.loc 0), some (.int (r1 - 200)), some (.int (r2 - 30)), some (frn p), some (frn q), some (frn r), some (.int (p.1 / p.2)), some (.int (0 - (0 - p.1) / p.2)), some (.int ((2 * p.1 + p.2) / (2 * p.2))), none, none, none, none, none, none, none, none, none, none, none, none] g5 = .ok (.int (2 * ((2 * p.1 + p.2) / (2 * p.2)))) g5 := oMul_okl (a := 2) (b := (2 * p.1 + p.2) / (2 * p.2)) (by decide) g5
    have t1 := nch (o := oLe) (o' := oLt) (md (f := fVar 7) (x := p.1 / p.2) rfl) i0 (le_t lo.1 g5) (md (f := fBin oAdd (fVar 7) (fC (.int 1))) (x := p.1 / p.2 + 1) rfl) (lt_t lo.2 g5)
    have t2 := nch (o := oLt) (o' := oLe) (md (f := fBin oSub (fVar 8) (fC (.int 1))) (x := 0 - (0 - p.1) / p.2 - 1) rfl) i0 (lt_t hi.1 g5) (md (f := fVar 8) (x := 0 - (0 - p.1) / p.2) rfl) (le_t hi.2 g5)
    have t3 := nch (o := oLe) (o' := oLt) (md (f := fBin oSub (fBin oMul (fC (.int 2)) (fVar 9)) (fC (.int 1))) (x := 2 * ((2 * p.1 + p.2) / (2 * p.2)) - 1) ((bin_ok (e := .int 1) n2 rfl).trans rfl)) (show fBin oMul (fC (.int 2)) (fBin oIx (fVar 4) (fC (.int 0))) [some d, some (.loc 0), some (.int (r1 - 200)), some (.int (r2 - 30)), some (frn p), some (frn q), some (frn r), some (.int (p.1 / p.2)), some (.int (0 - (0 - p.1) / p.2)), some (.int ((2 * p.1 + p.2) / (2 * p.2))), none, none, none, none, none, none, none, none, none, none, none, none] g5 = .ok (.int (2 * p.1)) g5 from oMul_okl (a := 2) (b := p.1) (by decide) g5) (le_t ne.1 g5) (md (f := fBin oAdd (fBin oMul (fC (.int 2)) (fVar 9)) (fC (.int 1))) (x := 2 * ((2 * p.1 + p.2) / (2 * p.2)) + 1) ((bin_ok (e := .int 1) n2 rfl).trans rfl)) (lt_t ne.2 g5)
    rw [or_ff t1, or_ff t2, t3]
  have b8 : sPar 10 11 (fCons (fLc [12] (iRng rng1 (fCons (fCall (F__law_roll 3) (fCons (fVar 1) (fCons (fC (.int 6)) fNil))) fNil)) (gNm 12) fYes (fCall F__law_one (fCons (fVar 1) fNil))) (fCons (fTup (fCons (fC (.int 0)) (fCons (fC (.int 1)) fNil))) fNil)) [some d, some (.loc 0), some (.int (r1 - 200)), some (.int (r2 - 30)), some (frn p), some (frn q), some (frn r), some (.int (p.1 / p.2)), some (.int (0 - (0 - p.1) / p.2)), some (.int ((2 * p.1 + p.2) / (2 * p.2))), none, none, none, none, none, none, none, none, none, none, none, none] g5 = .nx [some d, some (.loc 0), some (.int (r1 - 200)), some (.int (r2 - 30)), some (frn p), some (frn q), some (frn r), some (.int (p.1 / p.2)), some (.int (0 - (0 - p.1) / p.2)), some (.int ((2 * p.1 + p.2) / (2 * p.2))), some (.lst (ps.map frn)), some (frn (0, 1)), none, none, none, none, none, none, none, none, none, none] g6 := by
    unfold sPar
    rw [cons_ok e6 (cons_ok (d := frn (0, 1)) (ds := []) (g1 := g6) (g2 := g6) rfl rfl)]
    rfl
  have b9 : sFor (iSeq (fVar 10)) (gNm 13) (sSeq (sAsg (fCall F__law_add (fCons (fVar 11) (fCons (fVar 13) fNil))) (gNm 11)) sNil) [some d, some (.loc 0), some (.int (r1 - 200)), some (.int (r2 - 30)), some (frn p), some (frn q), some (frn r), some (.int (p.1 / p.2)), some (.int (0 - (0 - p.1) / p.2)), some (.int ((2 * p.1 + p.2) / (2 * p.2))), some (.lst (ps.map frn)), some (frn (0, 1)), none, none, none, none, none, none, none, none, none, none] g6 = .nx [some d, some (.loc 0), some (.int (r1 - 200)), some (.int (r2 - 30)), some (frn p), some (frn q), some (frn r), some (.int (p.1 / p.2)), some (.int (0 - (0 - p.1) / p.2)), some (.int ((2 * p.1 + p.2) / (2 * p.2))), some (.lst (ps.map frn)), some (frn (ps.foldl addp (0, 1))), none, y, none, none, none, none, none, none, none, none] g6 := for_all (ds := ps.map frn) (g1 := g6) rfl e7
  have b10 : fOr (fB (fBin oNe (fCall F_is_less (fCons (fVar 4) (fCons (fVar 5) fNil))) (fCall F__law_less (fCons (fVar 4) (fCons (fVar 5) fNil))))) (fOr (fB (fBin oNe (fCall F_sum_of (fCons (fVar 10) fNil)) (fVar 11))) (fOr (fB (fBin oNe (fCall F_whole (fCons (fVar 2) fNil)) (fTup (fCons (fVar 2) (fCons (fC (.int 1)) fNil))))) (fB (fBin oNe (fCall F_told_share (fCons (fVar 4) fNil)) (fIf (fB (fBin oEq (fBin oIx (fVar 4) (fC (.int 1))) (fC (.int 1)))) (fBi bStr (fCons (fBin oIx (fVar 4) (fC (.int 0))) fNil)) (fBin oAdd (fBin oAdd (fBi bStr (fCons (fBin oIx (fVar 4) (fC (.int 0))) fNil)) (fC (.str ":"))) (fBi bStr (fCons (fBin oIx (fVar 4) (fC (.int 1))) fNil)))))))) [some d, some (.loc 0), some (.int (r1 - 200)), some (.int (r2 - 30)), some (frn p), some (frn q), some (frn r), some (.int (p.1 / p.2)), some (.int (0 - (0 - p.1) / p.2)), some (.int ((2 * p.1 + p.2) / (2 * p.2))), some (.lst (ps.map frn)), some (frn (ps.foldl addp (0, 1))), none, y, none, none, none, none, none, none, none, none] g6 = .ok false g6 := by
    have qd := sq.d
    have t1 : fB (fBin oNe (fCall F_is_less (fCons (fVar 4) (fCons (fVar 5) fNil))) (fCall F__law_less (fCons (fVar 4) (fCons (fVar 5) fNil)))) [some d, some (.loc 0), some (.int (r1 - 200)), some (.int (r2 - 30)), some (frn p), some (frn q), some (frn r), some (.int (p.1 / p.2)), some (.int (0 - (0 - p.1) / p.2)), some (.int ((2 * p.1 + p.2) / (2 * p.2))), some (.lst (ps.map frn)), some (frn (ps.foldl addp (0, 1))), none, y, none, none, none, none, none, none, none, none] g6 = .ok false g6 :=
      ne_f (less_spec p.1 p.2 q.1 q.2 g6 (by omega) (by omega)) (law_less_spec p.1 p.2 q.1 q.2 g6 (by omega) (by omega)) (by
        show some (_ == _) = _
        simp)
    have t2 : fB (fBin oNe (fCall F_sum_of (fCons (fVar 10) fNil)) (fVar 11)) [some d, some (.loc 0), some (.int (r1 - 200)), some (.int (r2 - 30)), some (frn p), some (frn q), some (frn r), some (.int (p.1 / p.2)), some (.int (0 - (0 - p.1) / p.2)), some (.int ((2 * p.1 + p.2) / (2 * p.2))), some (.lst (ps.map frn)), some (frn (ps.foldl addp (0, 1))), none, y, none, none, none, none, none, none, none, none] g6 = .ok false g6 := ne_frac (p := ps.foldl addp (0, 1)) (q := ps.foldl addp (0, 1)) (sum_spec g6 ps sps lps) rfl rfl
    have t3 : fB (fBin oNe (fCall F_whole (fCons (fVar 2) fNil)) (fTup (fCons (fVar 2) (fCons (fC (.int 1)) fNil)))) [some d, some (.loc 0), some (.int (r1 - 200)), some (.int (r2 - 30)), some (frn p), some (frn q), some (frn r), some (.int (p.1 / p.2)), some (.int (0 - (0 - p.1) / p.2)), some (.int ((2 * p.1 + p.2) / (2 * p.2))), some (.lst (ps.map frn)), some (frn (ps.foldl addp (0, 1))), none, y, none, none, none, none, none, none, none, none] g6 = .ok false g6 := ne_frac (p := (r1 - 200, 1)) (q := (r1 - 200, 1)) (g1 := g6) rfl rfl rfl
    rw [or_ff t1, or_ff t2, or_ff t3, told_ok sp g6 _ rfl]
  have b11 : fTup (fCons (fLc [12] (iRng rng1 (fCons (fCall (F__law_roll 3) (fCons (fVar 1) (fCons (fC (.int 6)) fNil))) fNil)) (gNm 12) fYes (fCall (F__law_roll 3) (fCons (fVar 1) (fCons (fC (.int 6)) fNil)))) (fCons (fCall (F__law_roll 3) (fCons (fVar 1) (fCons (fC (.int 50)) fNil))) fNil)) [some d, some (.loc 0), some (.int (r1 - 200)), some (.int (r2 - 30)), some (frn p), some (frn q), some (frn r), some (.int (p.1 / p.2)), some (.int (0 - (0 - p.1) / p.2)), some (.int ((2 * p.1 + p.2) / (2 * p.2))), some (.lst (ps.map frn)), some (frn (ps.foldl addp (0, 1))), none, y, none, none, none, none, none, none, none, none] g6 = .ok (.tup [.lst (ns.map .int), .int n]) g8 :=
    tup_ok (cons_ok e8 (cons_ok (d := .int n) e9 rfl)) (show 2 ≤ sizeLine by decide)
  have nn : ∀ y ∈ ns, 0 ≤ y := fun y hy => (sns y hy).1
  by_cases hz : ns.sum = 0
  · have b12 : fTold okc__law_told "ShareError" (fCall F_split (fCons (fVar 15) (fCons (fVar 14) fNil))) [some d, some (.loc 0), some (.int (r1 - 200)), some (.int (r2 - 30)), some (frn p), some (frn q), some (frn r), some (.int (p.1 / p.2)), some (.int (0 - (0 - p.1) / p.2)), some (.int ((2 * p.1 + p.2) / (2 * p.2))), some (.lst (ps.map frn)), some (frn (ps.foldl addp (0, 1))), none, y, some (.lst (ns.map .int)), some (.int n), none, none, none, none, none, none] g8 = .ok (.str "ShareError") g8 := told_e (split_zero l9 nn hz g8)
    have eqw : oEq (.str "ShareError") (.str "ShareError") g8 = .ok (.bl true) g8 := by
      unfold oEq
      rw [eq_word]
    have b13 : fB (fBin oNe (fBin oEq (fVar 16) (fC (.str "ShareError"))) (fBin oEq (fBi bSumS (fCons (fVar 14) fNil)) (fC (.int 0)))) [some d, some (.loc 0), some (.int (r1 - 200)), some (.int (r2 - 30)), some (frn p), some (frn q), some (frn r), some (.int (p.1 / p.2)), some (.int (0 - (0 - p.1) / p.2)), some (.int ((2 * p.1 + p.2) / (2 * p.2))), some (.lst (ps.map frn)), some (frn (ps.foldl addp (0, 1))), none, y, some (.lst (ns.map .int)), some (.int n), some (.str "ShareError"), none, none, none, none, none] g8 = .ok false g8 := by
      have s0 : fBin oEq (fBi bSumS (fCons (fVar 14) fNil)) (fC (.int 0)) [some d, some (.loc 0), some (.int (r1 - 200)), some (.int (r2 - 30)), some (frn p), some (frn q), some (frn r), some (.int (p.1 / p.2)), some (.int (0 - (0 - p.1) / p.2)), some (.int ((2 * p.1 + p.2) / (2 * p.2))), some (.lst (ps.map frn)), some (frn (ps.foldl addp (0, 1))), none, y, some (.lst (ns.map .int)), some (.int n), some (.str "ShareError"), none, none, none, none, none] g8 = .ok (.bl true) g8 := by
        refine (bin_ok (d := .int ns.sum) (e := .int 0) (sum_l ns g8) rfl).trans ?_
        rw [hz]
        rfl
      exact ne_f (d := .bl true) eqw s0 rfl
    have b14 : fB (fBin oNe (fVar 16) (fC (.str "ShareError"))) [some d, some (.loc 0), some (.int (r1 - 200)), some (.int (r2 - 30)), some (frn p), some (frn q), some (frn r), some (.int (p.1 / p.2)), some (.int (0 - (0 - p.1) / p.2)), some (.int ((2 * p.1 + p.2) / (2 * p.2))), some (.lst (ps.map frn)), some (frn (ps.foldl addp (0, 1))), none, y, some (.lst (ns.map .int)), some (.int n), some (.str "ShareError"), none, none, none, none, none] g8 = .ok false g8 := ne_f (d := .str "ShareError") rfl rfl (eq_word g8)
    refine ⟨[some d, some (.loc 0), some (.int (r1 - 200)), some (.int (r2 - 30)), some (frn p), some (frn q), some (frn r), some (.int (p.1 / p.2)), some (.int (0 - (0 - p.1) / p.2)), some (.int ((2 * p.1 + p.2) / (2 * p.2))), some (.lst (ps.map frn)), some (frn (ps.foldl addp (0, 1))), none, y, some (.lst (ns.map .int)), some (.int n), some (.str "ShareError"), none, none, none, none, none], g8, ?_⟩
    unfold LB
    refine (seq_nx (asg_ok (ρ2 := [some d, some (.loc 0), some (.int (r1 - 200)), some (.int (r2 - 30)), none, none, none, none, none, none, none, none, none, none, none, none, none, none, none, none, none, none]) b1 rfl)).trans ?_
    refine (seq_nx (if_nil b2)).trans ?_
    refine (seq_nx (asg_ok (ρ2 := [some d, some (.loc 0), some (.int (r1 - 200)), some (.int (r2 - 30)), some (frn p), some (frn q), some (frn r), none, none, none, none, none, none, none, none, none, none, none, none, none, none, none]) b3 rfl)).trans ?_
    refine (seq_nx (if_nil b4)).trans ?_
    refine (seq_nx (if_nil b5)).trans ?_
    refine (seq_nx b6).trans ?_
    refine (seq_nx (if_nil b7)).trans ?_
    refine (seq_nx b8).trans ?_
    refine (seq_nx b9).trans ?_
    refine (seq_nx (if_nil b10)).trans ?_
    refine (seq_nx (asg_ok (ρ2 := [some d, some (.loc 0), some (.int (r1 - 200)), some (.int (r2 - 30)), some (frn p), some (frn q), some (frn r), some (.int (p.1 / p.2)), some (.int (0 - (0 - p.1) / p.2)), some (.int ((2 * p.1 + p.2) / (2 * p.2))), some (.lst (ps.map frn)), some (frn (ps.foldl addp (0, 1))), none, y, some (.lst (ns.map .int)), some (.int n), none, none, none, none, none, none]) b11 rfl)).trans ?_
    refine (seq_nx (asg_ok (ρ2 := [some d, some (.loc 0), some (.int (r1 - 200)), some (.int (r2 - 30)), some (frn p), some (frn q), some (frn r), some (.int (p.1 / p.2)), some (.int (0 - (0 - p.1) / p.2)), some (.int ((2 * p.1 + p.2) / (2 * p.2))), some (.lst (ps.map frn)), some (frn (ps.foldl addp (0, 1))), none, y, some (.lst (ns.map .int)), some (.int n), some (.str "ShareError"), none, none, none, none, none]) b12 rfl)).trans ?_
    refine (seq_nx (if_nil b13)).trans ?_
    exact (seq_nx (if_nil b14)).trans rfl
  · have hS : 0 < ns.sum := by omega
    have b12 : fTold okc__law_told "ShareError" (fCall F_split (fCons (fVar 15) (fCons (fVar 14) fNil))) [some d, some (.loc 0), some (.int (r1 - 200)), some (.int (r2 - 30)), some (frn p), some (frn q), some (frn r), some (.int (p.1 / p.2)), some (.int (0 - (0 - p.1) / p.2)), some (.int ((2 * p.1 + p.2) / (2 * p.2))), some (.lst (ps.map frn)), some (frn (ps.foldl addp (0, 1))), none, y, some (.lst (ns.map .int)), some (.int n), none, none, none, none, none, none] g8 = .ok (.tup ((fnd n ns).map .int)) (g8 ++ [O.lst ((fnd n ns).map .int)]) := told_v (split_ok l9 (by omega) nn hS (by omega) (Nat.le_trans lns (by decide)) g8)
    generalize g8 ++ [O.lst ((fnd n ns).map .int)] = g9 at b12
    have b13 : fB (fBin oNe (fBin oEq (fVar 16) (fC (.str "ShareError"))) (fBin oEq (fBi bSumS (fCons (fVar 14) fNil)) (fC (.int 0)))) [some d, some (.loc 0), some (.int (r1 - 200)), some (.int (r2 - 30)), some (frn p), some (frn q), some (frn r), some (.int (p.1 / p.2)), some (.int (0 - (0 - p.1) / p.2)), some (.int ((2 * p.1 + p.2) / (2 * p.2))), some (.lst (ps.map frn)), some (frn (ps.foldl addp (0, 1))), none, y, some (.lst (ns.map .int)), some (.int n), some (.tup ((fnd n ns).map .int)), none, none, none, none, none] g9 = .ok false g9 := by
      have s1 : fBin oEq (fVar 16) (fC (.str "ShareError")) [some d, some (.loc 0), some (.int (r1 - 200)), some (.int (r2 - 30)), some (frn p), some (frn q), some (frn r), some (.int (p.1 / p.2)), some (.int (0 - (0 - p.1) / p.2)), some (.int ((2 * p.1 + p.2) / (2 * p.2))), some (.lst (ps.map frn)), some (frn (ps.foldl addp (0, 1))), none, y, some (.lst (ns.map .int)), some (.int n), some (.tup ((fnd n ns).map .int)), none, none, none, none, none] g9 = .ok (.bl false) g9 := by
        show oEq (.tup ((fnd n ns).map .int)) (.str "ShareError") g9 = _
        unfold oEq
        rw [eq_tw]
      have s0 : fBin oEq (fBi bSumS (fCons (fVar 14) fNil)) (fC (.int 0)) [some d, some (.loc 0), some (.int (r1 - 200)), some (.int (r2 - 30)), some (frn p), some (frn q), some (frn r), some (.int (p.1 / p.2)), some (.int (0 - (0 - p.1) / p.2)), some (.int ((2 * p.1 + p.2) / (2 * p.2))), some (.lst (ps.map frn)), some (frn (ps.foldl addp (0, 1))), none, y, some (.lst (ns.map .int)), some (.int n), some (.tup ((fnd n ns).map .int)), none, none, none, none, none] g9 = .ok (.bl false) g9 := by
        refine (bin_ok (d := .int ns.sum) (e := .int 0) (sum_l ns g9) rfl).trans ?_
        show Res.ok (D.bl (ns.sum == 0)) g9 = _
        have : (ns.sum == 0) = false := by simpa using hz
        rw [this]
      exact ne_f (d := .bl false) s1 s0 rfl
    have b14 : fB (fBin oNe (fVar 16) (fC (.str "ShareError"))) [some d, some (.loc 0), some (.int (r1 - 200)), some (.int (r2 - 30)), some (frn p), some (frn q), some (frn r), some (.int (p.1 / p.2)), some (.int (0 - (0 - p.1) / p.2)), some (.int ((2 * p.1 + p.2) / (2 * p.2))), some (.lst (ps.map frn)), some (frn (ps.foldl addp (0, 1))), none, y, some (.lst (ns.map .int)), some (.int n), some (.tup ((fnd n ns).map .int)), none, none, none, none, none] g9 = .ok true g9 := by
      refine fB_ok ?_
      show oNe (.tup ((fnd n ns).map .int)) (.str "ShareError") g9 = _
      unfold oNe
      rw [eq_tw]
      rfl
    obtain ⟨ρ', hb⟩ := block_ok l9 (by omega) hS (by omega) lns g9 (some d) (some (.loc 0)) (some (.int (r1 - 200))) (some (.int (r2 - 30))) (some (frn p)) (some (frn q)) (some (frn r)) (some (.int (p.1 / p.2))) (some (.int (0 - (0 - p.1) / p.2))) (some (.int ((2 * p.1 + p.2) / (2 * p.2)))) (some (.lst (ps.map frn))) (some (frn (ps.foldl addp (0, 1)))) (none) (y) (none) (none) (none) (none) (none)
    refine ⟨ρ', g9, ?_⟩
    unfold LB
    refine (seq_nx (asg_ok (ρ2 := [some d, some (.loc 0), some (.int (r1 - 200)), some (.int (r2 - 30)), none, none, none, none, none, none, none, none, none, none, none, none, none, none, none, none, none, none]) b1 rfl)).trans ?_
    refine (seq_nx (if_nil b2)).trans ?_
    refine (seq_nx (asg_ok (ρ2 := [some d, some (.loc 0), some (.int (r1 - 200)), some (.int (r2 - 30)), some (frn p), some (frn q), some (frn r), none, none, none, none, none, none, none, none, none, none, none, none, none, none, none]) b3 rfl)).trans ?_
    refine (seq_nx (if_nil b4)).trans ?_
    refine (seq_nx (if_nil b5)).trans ?_
    refine (seq_nx b6).trans ?_
    refine (seq_nx (if_nil b7)).trans ?_
    refine (seq_nx b8).trans ?_
    refine (seq_nx b9).trans ?_
    refine (seq_nx (if_nil b10)).trans ?_
    refine (seq_nx (asg_ok (ρ2 := [some d, some (.loc 0), some (.int (r1 - 200)), some (.int (r2 - 30)), some (frn p), some (frn q), some (frn r), some (.int (p.1 / p.2)), some (.int (0 - (0 - p.1) / p.2)), some (.int ((2 * p.1 + p.2) / (2 * p.2))), some (.lst (ps.map frn)), some (frn (ps.foldl addp (0, 1))), none, y, some (.lst (ns.map .int)), some (.int n), none, none, none, none, none, none]) b11 rfl)).trans ?_
    refine (seq_nx (asg_ok (ρ2 := [some d, some (.loc 0), some (.int (r1 - 200)), some (.int (r2 - 30)), some (frn p), some (frn q), some (frn r), some (.int (p.1 / p.2)), some (.int (0 - (0 - p.1) / p.2)), some (.int ((2 * p.1 + p.2) / (2 * p.2))), some (.lst (ps.map frn)), some (frn (ps.foldl addp (0, 1))), none, y, some (.lst (ns.map .int)), some (.int n), some (.tup ((fnd n ns).map .int)), none, none, none, none, none]) b12 rfl)).trans ?_
    refine (seq_nx (if_nil b13)).trans ?_
    exact (seq_nx ((if_take b14).trans hb)).trans rfl
end K01
end
section
set_option Elab.async false
set_option linter.all false
set_option maxRecDepth 100000
set_option maxHeartbeats 0
namespace K01
open PySem PySem.Spec PyProof.Rows L2 Dl
def tfs : List He.Defn := tq.map (·.1)
def exB (K : PySem.W.Frag) : Bool := decide ((tq.map fun p => He.tabOf K (He.codeOf K p.1)).Nodup)
abbrev R : PySem.W.OpenRow := PySem.W.OpenLaw.row PySem.Challenge.rw_dialstack_k01_exact_numbers_for_phones
abbrev hk : PySem.W.Hook := He.hookX 4 fas fns [] tfs exB
def ob (s : PySem.W.SharedT) : He.AlX := He.obsX 4 fas fns [] tfs exB (HandSHeadRun.getT s)
theorem ob_eq (s : PySem.W.SharedT) : ob s = hk.obs s.abs := He.obsX_eq (HandSHeadRun.getT_eq s)
def lo : List Str := ["DialFault", "ShareError", "share", "whole", "plus", "minus", "times", "parted", "is_less", "below", "above", "nearest", "sum_of", "told_share", "split", "_law_dice", "_law_roll", "_law_rounds", "_law_told", "_law_gcd", "_law_share", "_law_add", "_law_mul", "_law_less", "_law_one", "_law_plain"]
theorem run (w : World) : HandSHeadRun.RunEq R (PySem.W.view R.prog [29]) hk ob 3000 lo w := by
  intro os
  kernel_rfl
end K01
end
section
set_option Elab.async false
set_option linter.all false
set_option maxRecDepth 100000
set_option maxHeartbeats 0
open PySem PySem.W PySem.Calls PyProof.Rows
theorem PySem.Challenge.cw_dialstack_k01_exact_numbers_for_phones_holds : PySem.Challenge.rw_dialstack_k01_exact_numbers_for_phones.Holds := by
  w_on; o_law
  refine HandSHeadRun.head_any (r := OpenLaw.row PySem.Challenge.rw_dialstack_k01_exact_numbers_for_phones) (q := view (OpenLaw.row PySem.Challenge.rw_dialstack_k01_exact_numbers_for_phones).prog [29]) (H := K01.hk) (ob := K01.ob) (M := 3000) (loose := K01.lo) (d := HandSHeadRun.topDef (OpenLaw.row PySem.Challenge.rw_dialstack_k01_exact_numbers_for_phones).prog 29) (kwd := []) K01.ob_eq
    (by kernel_rfl) (fun s => by kernel_rfl) K01.run (by kernel_rfl) (by kernel_rfl) (by kernel_rfl) (by rfl) (by first | assumption | decide +kernel) (by decide +kernel) ⟨rfl, rfl, rfl, rfl, rfl, by decide +kernel⟩ ?hw ?hc
  case hw => w_witness2
  case hc =>
    refine LamX.walk_ofTsE (l := PySem.Challenge.rw_dialstack_k01_exact_numbers_for_phones) (n := 63) (k := 65) (x := "script") (CX := fun w => L2.CX (PySem.Challenge.rw_dialstack_k01_exact_numbers_for_phones).prog w) rfl (by decide) (by kernel_rfl) ⟨rfl, by decide, by decide⟩ ?F ?x
    case x =>
      intro w H s e s' h
      obtain ⟨_, _, _, _, _, _, _, _, _, _, _, _, z⟩ := h
      exact z
    intro w mg fa h Y G hmg0
    obtain ⟨K, KX, c⟩ := Y
    have hmg : mg ("law" : PySem.Str) = some (.ref fa) := by
      have e : (HandSHeadRun.topDef (OpenLaw.row PySem.Challenge.rw_dialstack_k01_exact_numbers_for_phones).prog 29).name = ("law" : PySem.Str) := by kernel_rfl
      rw [← e]
      exact hmg0
    have cd : He.SaysD K01.fas K01.fns K := c.t.d
    obtain ⟨fd, F⟩ := cd.defs (d := K01.dd "law" 29) (List.mem_of_getElem? (i := 24) rfl)
    have e := hmg.symm.trans (He.glo_ok KX G (cd.facts (f := .glo "law") (List.mem_of_getElem? (i := 24) rfl)))
    cases e
    have b := L2.FunD.bindsA (ps := ["script"]) F fun _ _ _ _ _ _ us hl => match us, hl with | [_], _ => rfl
    refine ⟨K, KX, fd, K01.tfs.map (He.cT K), Dl.spD (K01.cfg K) K 1 K01.F_law, fun p hp => ?_, fun p hp => ?_, fun p hp => ?_, fun s v => b s [v] rfl, fun H a ns hl _ hT hS => ?_, fun base kin hns htb => ?_⟩
    · obtain ⟨q, hq, rfl⟩ := List.mem_map.mp hp
      exact c.empty q hq
    · obtain ⟨q, hq, rfl⟩ := List.mem_map.mp hp
      exact c.out q hq
    · obtain ⟨q, hq, rfl⟩ := List.mem_map.mp hp
      exact codeHd_of_K KX (c.hd q hq)
    · refine Dl.spD_script (fun p hp => ?_) hS fun d hd => K01.law_true d ns hd
      obtain ⟨q, hq, rfl⟩ := List.mem_map.mp (show p ∈ Dl.tabsOf K01.tq K from hp)
      exact hT (He.cT K q.1) (List.mem_map.mpr ⟨q.1, List.mem_map.mpr ⟨q, hq, rfl⟩, rfl⟩)
    · refine K01.Q_law ⟨kin, hns, cd, fun p hp => htb (He.cT K p.1) (List.mem_map.mpr ⟨p.1, List.mem_map.mpr ⟨p, hp, rfl⟩, rfl⟩), of_decide_eq_true c.more⟩ F
end
