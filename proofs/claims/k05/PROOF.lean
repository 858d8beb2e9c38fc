import PyProof.Rows.All
import Wide.All
import OpenK.AllK
import Wide.FinOn
import HandS.ForMost
import HandS.Exc
import HandS.ExcOwn
import HandS.WordsExc
import HandS.CallSlots
import HandS.Lambda
import HandS.Wide
import HandS.TupAny
import HandS.TupLe
import HandS.FStr
import HandS.Flow
import HandS.Style
import HandS.SortRule
import HandS.SortInts
import HandS.GenList
import PyProof.TupleOfGen
import KE.SortData
import PyProof.TupleOfSeq
import KE.GoesMore
import HandS.Zip
import HandS.Defaults
import HandS.Head0
import HandS.Head1
import HandS.Head2
import HandS.HeadEnd
import HandS.HeadHook1
import HandS.HeadHook2
import HandS.HeadHook3
import HandS.HeadHook4
import HandS.HeadWalk
import HandS.Deep
import HandS.StrMore
import HandS.DictComp
import KE.DataMinMax
import HandS.TupMul
import KE.DatumOrd
import PySem.Challenge.RW_dialstack_k05_sounds_as_numbers
import HandS.Codes
section
set_option Elab.async false
set_option linter.all false
set_option maxRecDepth 100000
namespace Dl
open PySem L2

/-- plain data: lists that are never changed any more stand by value; `loc` is a thing that may change -/
inductive D where
  | non | bl (b : Bool) | int (i : Int) | str (s : Str)
  | tup (xs : List D) | lst (xs : List D)
  | scr (ns : List Int)
  | loc (n : Nat)
  deriving Inhabited

/-- things that may change -/
inductive O where
  | lst (xs : List D)
  | dic (kvs : List (Key × D))
  | dit (kvs : List (List Key × D))
  | ins (c : Nat) (fs : List (Str × D))
  | frz (o : O)

abbrev G := List O
abbrev Env' := List (Option D)

inductive Res (α : Type) where
  | ok (a : α) (g : G) | err (c : Nat) (g : G) | stuck

structure Cfg where
  exc : Nat → Addr
  cls : Nat → Addr
  tabs : List (Addr × Str)

section
variable (K : PySem.W.Frag) (H : Hp) (ν μ : List Addr)
mutual
def RepD : D → V → Prop
  | .non, v => v = .non
  | .bl b, v => v = .bl b
  | .int i, v => v = .int i
  | .str s, v => v = .str s
  | .tup ds, v => ∃ a xs, v = .ref a ∧ SqT K H a xs ∧ RepL ds xs
  | .lst ds, v => ∃ a xs, v = .ref a ∧ H a = some (.lst xs) ∧ a ∉ μ ∧ a ∉ ν ∧ RepL ds xs
  | .scr ns, v => ∃ a, v = .ref a ∧ ((∃ o, H a = some (.frz o (.lst (ns.map V.int))) ∧ a ∉ μ ∧ a ∉ ν) ∨ SqL K (fun _ => none) a (ns.map V.int))
  | .loc n, v => ∃ a, v = .ref a ∧ μ[n]? = some a
def RepL : List D → List V → Prop
  | [], vs => vs = []
  | d :: ds, vs => ∃ v r, vs = v :: r ∧ RepD d v ∧ RepL ds r
end
end

def Fix (o : HO) : Prop := (∃ xs, o = .tup xs) ∨ ∃ ob u, o = .frz ob u
def NTb (o : HO) : Prop := ∀ ps, o ≠ .tbl ps

/-- nothing, or a table -/
def Free (H : Hp) (a : Addr) : Prop := ∀ o, H a = some o → NTb o → False
theorem free_none {H : Hp} {a : Addr} (h : H a = none) : Free H a := fun o e _ => by rw [h] at e; cases e
structure Ext (H : Hp) (μ : List Addr) (H' : Hp) (μ' : List Addr) : Prop where
  mu : ∃ more, μ' = μ ++ more ∧ ∀ a ∈ more, Free H a
  kp : ∀ b o, H b = some o → (b ∉ μ ∨ Fix o) → NTb o → H' b = some o
  dm : ∀ b o, H b = some o → NTb o → ∃ o', H' b = some o' ∧ NTb o'

section
variable {K : PySem.W.Frag} {H H' H'' : Hp} {ν ν' μ μ' μ'' : List Addr}
theorem Ext.refl : Ext H μ H μ := ⟨⟨[], by simp, by simp⟩, fun _ _ h _ _ => h, fun _ o h n => ⟨o, h, n⟩⟩
theorem Ext.out (e : Ext H μ H' μ') {b : Addr} {o : HO} (h : H b = some o) (n : b ∉ μ) (nt : NTb o) : b ∉ μ' := by
  obtain ⟨more, rfl, hm⟩ := e.mu
  intro z
  rcases List.mem_append.mp z with z | z
  · exact n z
  · exact hm b z o h nt
theorem Ext.trans (e : Ext H μ H' μ') (f : Ext H' μ' H'' μ'') : Ext H μ H'' μ'' where
  mu := by
    obtain ⟨m1, rfl, h1⟩ := e.mu
    obtain ⟨m2, rfl, h2⟩ := f.mu
    refine ⟨m1 ++ m2, by rw [List.append_assoc], fun a ha => ?_⟩
    rcases List.mem_append.mp ha with z | z
    · exact h1 a z
    · intro o ho hn
      obtain ⟨o', e1, e2⟩ := e.dm a o ho hn
      exact h2 a z o' e1 e2
  kp := fun b o h c n => by
    have h1 := e.kp b o h c n
    refine f.kp b o h1 ?_ n
    rcases c with c | c
    · exact .inl (e.out h c n)
    · exact .inr c
  dm := fun b o h n => by
    obtain ⟨o', e1, e2⟩ := e.dm b o h n
    exact f.dm b o' e1 e2

theorem fix_tup {xs : List V} : Fix (.tup xs) := .inl ⟨xs, rfl⟩
theorem fix_frz {ob : Obj} {u : HO} : Fix (.frz ob u) := .inr ⟨ob, u, rfl⟩
theorem ntb_tup {xs : List V} : NTb (.tup xs) := fun _ z => by cases z
theorem ntb_lst {xs : List V} : NTb (.lst xs) := fun _ z => by cases z
theorem ntb_frz {ob : Obj} {u : HO} : NTb (.frz ob u) := fun _ z => by cases z

/-- what a value's standing leans on -/
structure Kp (ν : List Addr) (H : Hp) (μ : List Addr) (H' : Hp) (μ' : List Addr) : Prop where
  mu : ∃ more, μ' = μ ++ more ∧ ∀ a ∈ more, Free H a
  kp : ∀ b o, H b = some o → ((b ∉ μ ∧ b ∉ ν) ∨ Fix o) → NTb o → H' b = some o
theorem Ext.kp' (e : Ext H μ H' μ') : Kp ν H μ H' μ' := ⟨e.mu, fun b o h c n => e.kp b o h (c.imp (·.1) id) n⟩
theorem Rd.kp {a : Addr} {u : HO} (k : Kp ν H μ H' μ') (h : Rd H a u) (n : NTb u) (c : (a ∉ μ ∧ a ∉ ν) ∨ Fix u) : Rd H' a u := by
  rcases h with h | ⟨o, h⟩
  · exact .inl (k.kp _ _ h c n)
  · exact .inr ⟨o, k.kp _ _ h (.inr fix_frz) ntb_frz⟩
theorem Kp.out (e : Kp ν H μ H' μ') {b : Addr} {o : HO} (h : H b = some o) (n : b ∉ μ) (nt : NTb o) : b ∉ μ' := by
  obtain ⟨more, rfl, hm⟩ := e.mu
  intro z
  rcases List.mem_append.mp z with z | z
  · exact n z
  · exact hm b z o h nt
theorem Rd.some {a : Addr} {u : HO} (h : Rd H a u) : ∃ o, H a = some o := by
  rcases h with h | ⟨o, h⟩
  · exact ⟨_, h⟩
  · exact ⟨_, h⟩
mutual
theorem RepD.mono (k : Kp ν H μ H' μ') : ∀ (d : D) {v : V}, RepD K H ν μ d v → RepD K H' ν μ' d v
  | .non, v, h => h
  | .bl b, v, h => h
  | .int i, v, h => h
  | .str s, v, h => h
  | .tup ds, v, h => by
    unfold RepD at h ⊢
    obtain ⟨a, xs, e, h1, h2⟩ := h
    refine ⟨a, xs, e, ?_, RepL.mono k ds h2⟩
    rcases h1 with h1 | h1
    · exact .inl (Rd.kp k h1 ntb_tup (.inr fix_tup))
    · exact .inr h1
  | .lst ds, v, h => by
    unfold RepD at h ⊢
    obtain ⟨a, xs, e, h1, h2, h3, h4⟩ := h
    exact ⟨a, xs, e, k.kp _ _ h1 (.inl ⟨h2, h3⟩) ntb_lst, k.out h1 h2 ntb_lst, h3, RepL.mono k ds h4⟩
  | .scr ns, v, h => by
    unfold RepD at h ⊢
    obtain ⟨a, e, h⟩ := h
    refine ⟨a, e, ?_⟩
    rcases h with ⟨o, h, h2, h3⟩ | h
    · exact .inl ⟨o, k.kp _ _ h (.inr fix_frz) ntb_frz, k.out h h2 ntb_frz, h3⟩
    · exact .inr h
  | .loc n, v, h => by
    unfold RepD at h ⊢
    obtain ⟨a, e, h⟩ := h
    obtain ⟨more, rfl, _⟩ := k.mu
    refine ⟨a, e, ?_⟩
    rw [List.getElem?_append_left (List.getElem?_eq_some_iff.mp h).1]
    exact h
theorem RepL.mono (k : Kp ν H μ H' μ') : ∀ (ds : List D) {vs : List V}, RepL K H ν μ ds vs → RepL K H' ν μ' ds vs
  | [], vs, h => h
  | d :: ds, vs, h => by
    unfold RepL at h ⊢
    obtain ⟨v, r, e, h1, h2⟩ := h
    exact ⟨v, r, e, RepD.mono k d h1, RepL.mono k ds h2⟩
end
mutual
/-- fewer lists in the making -/
theorem RepD.less {D₀ : Addr} : ∀ (d : D) {v : V}, RepD K H (D₀ :: ν) μ d v → RepD K H ν μ d v
  | .non, v, h => h
  | .bl b, v, h => h
  | .int i, v, h => h
  | .str s, v, h => h
  | .tup ds, v, h => by
    unfold RepD at h ⊢
    obtain ⟨a, xs, e, h1, h2⟩ := h
    exact ⟨a, xs, e, h1, RepL.less ds h2⟩
  | .lst ds, v, h => by
    unfold RepD at h ⊢
    obtain ⟨a, xs, e, h1, h2, h3, h4⟩ := h
    exact ⟨a, xs, e, h1, h2, fun z => h3 (List.mem_cons_of_mem _ z), RepL.less ds h4⟩
  | .scr ns, v, h => by
    unfold RepD at h ⊢
    obtain ⟨a, e, h⟩ := h
    exact ⟨a, e, h.imp (fun ⟨o, h1, h2, h3⟩ => ⟨o, h1, h2, fun z => h3 (List.mem_cons_of_mem _ z)⟩) id⟩
  | .loc n, v, h => h
theorem RepL.less {D₀ : Addr} : ∀ (ds : List D) {vs : List V}, RepL K H (D₀ :: ν) μ ds vs → RepL K H ν μ ds vs
  | [], vs, h => h
  | d :: ds, vs, h => by
    unfold RepL at h ⊢
    obtain ⟨v, r, e, h1, h2⟩ := h
    exact ⟨v, r, e, RepD.less d h1, RepL.less ds h2⟩
end
mutual
/-- one more list in the making, at an address that nothing held -/
theorem RepD.more {D₀ : Addr} (hn : H D₀ = none) : ∀ (d : D) {v : V}, RepD K H ν μ d v → RepD K H (D₀ :: ν) μ d v
  | .non, v, h => h
  | .bl b, v, h => h
  | .int i, v, h => h
  | .str s, v, h => h
  | .tup ds, v, h => by
    unfold RepD at h ⊢
    obtain ⟨a, xs, e, h1, h2⟩ := h
    exact ⟨a, xs, e, h1, RepL.more hn ds h2⟩
  | .lst ds, v, h => by
    unfold RepD at h ⊢
    obtain ⟨a, xs, e, h1, h2, h3, h4⟩ := h
    refine ⟨a, xs, e, h1, h2, fun z => ?_, RepL.more hn ds h4⟩
    rcases List.mem_cons.mp z with z | z
    · rw [z, hn] at h1; cases h1
    · exact h3 z
  | .scr ns, v, h => by
    unfold RepD at h ⊢
    obtain ⟨a, e, h⟩ := h
    refine ⟨a, e, h.imp (fun ⟨o, h1, h2, h3⟩ => ⟨o, h1, h2, fun z => ?_⟩) id⟩
    rcases List.mem_cons.mp z with z | z
    · rw [z, hn] at h1; cases h1
    · exact h3 z
  | .loc n, v, h => h
theorem RepL.more {D₀ : Addr} (hn : H D₀ = none) : ∀ (ds : List D) {vs : List V}, RepL K H ν μ ds vs → RepL K H (D₀ :: ν) μ ds vs
  | [], vs, h => h
  | d :: ds, vs, h => by
    unfold RepL at h ⊢
    obtain ⟨v, r, e, h1, h2⟩ := h
    exact ⟨v, r, e, RepD.more hn d h1, RepL.more hn ds h2⟩
end
theorem RepL.length : ∀ {ds : List D} {vs : List V}, RepL K H ν μ ds vs → ds.length = vs.length
  | [], vs, h => by unfold RepL at h; subst h; rfl
  | d :: ds, vs, h => by
    unfold RepL at h
    obtain ⟨v, r, rfl, h1, h2⟩ := h
    simp [RepL.length h2]
theorem RepL.get : ∀ {ds : List D} {vs : List V} {i : Nat} {d : D}, RepL K H ν μ ds vs → ds[i]? = some d → ∃ v, vs[i]? = some v ∧ RepD K H ν μ d v
  | [], vs, i, d, h, e => by simp at e
  | d₀ :: ds, vs, i, d, h, e => by
    unfold RepL at h
    obtain ⟨v, r, rfl, h1, h2⟩ := h
    cases i with
    | zero => simp at e; subst e; exact ⟨v, rfl, h1⟩
    | succ i => exact RepL.get (i := i) h2 (by simpa using e)
theorem RepL.snoc {d : D} {v : V} (hd : RepD K H ν μ d v) : ∀ {ds : List D} {vs : List V}, RepL K H ν μ ds vs → RepL K H ν μ (ds ++ [d]) (vs ++ [v])
  | [], vs, h => by
    unfold RepL at h; subst h
    exact ⟨v, [], rfl, hd, rfl⟩
  | d₀ :: ds, vs, h => by
    unfold RepL at h
    obtain ⟨v₀, r, rfl, h1, h2⟩ := h
    exact ⟨v₀, r ++ [v], rfl, h1, RepL.snoc hd h2⟩
theorem RepL.app : ∀ {ds es : List D} {vs ws : List V}, RepL K H ν μ ds vs → RepL K H ν μ es ws → RepL K H ν μ (ds ++ es) (vs ++ ws)
  | [], es, vs, ws, h, g => by
    unfold RepL at h; subst h; exact g
  | d₀ :: ds, es, vs, ws, h, g => by
    unfold RepL at h
    obtain ⟨v₀, r, rfl, h1, h2⟩ := h
    exact ⟨v₀, r ++ ws, rfl, h1, RepL.app h2 g⟩
theorem RepL.take : ∀ {ds : List D} {vs : List V} (n : Nat), RepL K H ν μ ds vs → RepL K H ν μ (ds.take n) (vs.take n)
  | _, _, 0, _ => rfl
  | [], vs, n + 1, h => by unfold RepL at h; subst h; rfl
  | d :: ds, vs, n + 1, h => by
    unfold RepL at h
    obtain ⟨v, r, rfl, h1, h2⟩ := h
    exact ⟨v, r.take n, rfl, h1, RepL.take n h2⟩
theorem RepL.drop : ∀ {ds : List D} {vs : List V} (n : Nat), RepL K H ν μ ds vs → RepL K H ν μ (ds.drop n) (vs.drop n)
  | ds, vs, 0, h => by simpa using h
  | [], vs, n + 1, h => by unfold RepL at h; subst h; rfl
  | d :: ds, vs, n + 1, h => by
    unfold RepL at h
    obtain ⟨v, r, rfl, h1, h2⟩ := h
    exact RepL.drop n h2
theorem RepL.set {d : D} {v : V} (hd : RepD K H ν μ d v) : ∀ {ds : List D} {vs : List V} (i : Nat), RepL K H ν μ ds vs → RepL K H ν μ (ds.set i d) (vs.set i v)
  | [], vs, i, h => by unfold RepL at h; subst h; rfl
  | d₀ :: ds, vs, i, h => by
    unfold RepL at h
    obtain ⟨v₀, r, rfl, h1, h2⟩ := h
    cases i with
    | zero => exact ⟨v, r, rfl, hd, h2⟩
    | succ i => exact ⟨v₀, r.set i v, rfl, h1, RepL.set hd i h2⟩
theorem repL_ints : ∀ (ns : List Int), RepL K H ν μ (ns.map D.int) (ns.map V.int)
  | [] => rfl
  | n :: ns => ⟨_, _, rfl, rfl, repL_ints ns⟩
end
end Dl
end
section
set_option Elab.async false
set_option linter.all false
set_option maxRecDepth 100000
namespace Dl
open PySem L2

def RepKV {κ : Type} (K : PySem.W.Frag) (H : Hp) (ν μ : List Addr) : List (κ × D) → List (κ × V) → Prop
  | [], xs => xs = []
  | (k, d) :: r, xs => ∃ v q, xs = (k, v) :: q ∧ RepD K H ν μ d v ∧ RepKV K H ν μ r q

/-- what a thing is, wherever it stands -/
def RepH (C : Cfg) (K : PySem.W.Frag) (H : Hp) (ν μ : List Addr) : O → HO → Prop
  | .lst ds, u => ∃ xs, u = .lst xs ∧ RepL K H ν μ ds xs
  | .dic kvs, u => ∃ xs, u = .dK xs ∧ RepKV K H ν μ kvs xs
  | .dit kvs, u => ∃ xs, u = .dT xs ∧ RepKV K H ν μ kvs xs
  | .ins c fs, u => ∃ dx xs, u = .ins (C.cls c) dx xs ∧ RepKV K H ν μ fs xs
  | .frz _, _ => False
def RepO (C : Cfg) (K : PySem.W.Frag) (H : Hp) (ν μ : List Addr) : O → Addr → Prop
  | .lst ds, a => ∃ xs, H a = some (.lst xs) ∧ RepL K H ν μ ds xs
  | .dic kvs, a => ∃ xs, H a = some (.dK xs) ∧ RepKV K H ν μ kvs xs
  | .dit kvs, a => ∃ xs, H a = some (.dT xs) ∧ RepKV K H ν μ kvs xs
  | .ins c fs, a => ∃ dx xs, H a = some (.ins (C.cls c) dx xs) ∧ RepKV K H ν μ fs xs
  | .frz o, a => ∃ ob u, H a = some (.frz ob u) ∧ RepH C K H ν μ o u

/-- what may be changed in place -/
def Ch : HO → Prop
  | .lst _ => True
  | .dK _ => True
  | .dT _ => True
  | .ins _ _ _ => True
  | _ => False
/-- or locked while it is walked -/
def Chf (o : HO) : Prop := Ch o ∨ ∃ ob u, o = .frz ob u
theorem Chf.ntb {o : HO} (h : Chf o) : NTb o := fun ps z => by
  subst z
  rcases h with h | ⟨_, _, h⟩
  · exact h
  · cases h
theorem Ch.ntb {o : HO} (h : Ch o) : NTb o := fun ps z => by subst z; exact h
theorem Ch.nfix {o : HO} (h : Ch o) : ¬ Fix o := fun z => by
  rcases z with ⟨xs, rfl⟩ | ⟨ob, u, rfl⟩ <;> exact h

section
variable {C : Cfg} {K : PySem.W.Frag} {H H' H'' : Hp} {ν ν' μ μ' μ'' : List Addr} {g g' : G}
theorem RepKV.mono {κ : Type} (k : Kp ν H μ H' μ') : ∀ {kvs : List (κ × D)} {xs : List (κ × V)}, RepKV K H ν μ kvs xs → RepKV K H' ν μ' kvs xs
  | [], xs, h => h
  | (q, d) :: r, xs, h => by
    unfold RepKV at h ⊢
    obtain ⟨v, r', e, h1, h2⟩ := h
    exact ⟨v, r', e, RepD.mono k d h1, RepKV.mono k h2⟩
theorem RepKV.less {κ : Type} {D₀ : Addr} : ∀ {kvs : List (κ × D)} {xs : List (κ × V)}, RepKV K H (D₀ :: ν) μ kvs xs → RepKV K H ν μ kvs xs
  | [], xs, h => h
  | (q, d) :: r, xs, h => by
    unfold RepKV at h ⊢
    obtain ⟨v, r', e, h1, h2⟩ := h
    exact ⟨v, r', e, RepD.less d h1, RepKV.less h2⟩
theorem RepKV.more {κ : Type} {D₀ : Addr} (hn : H D₀ = none) : ∀ {kvs : List (κ × D)} {xs : List (κ × V)}, RepKV K H ν μ kvs xs → RepKV K H (D₀ :: ν) μ kvs xs
  | [], xs, h => h
  | (q, d) :: r, xs, h => by
    unfold RepKV at h ⊢
    obtain ⟨v, r', e, h1, h2⟩ := h
    exact ⟨v, r', e, RepD.more hn d h1, RepKV.more hn h2⟩
theorem RepH.ch {o : O} {u : HO} (h : RepH C K H ν μ o u) : Ch u := by
  cases o with
  | lst ds => obtain ⟨xs, rfl, _⟩ := h; trivial
  | dic ds => obtain ⟨xs, rfl, _⟩ := h; trivial
  | dit ds => obtain ⟨xs, rfl, _⟩ := h; trivial
  | ins c ds => obtain ⟨dx, xs, rfl, _⟩ := h; trivial
  | frz o => exact h.elim
theorem RepH.mono {o : O} {u : HO} (k : Kp ν H μ H' μ') (h : RepH C K H ν μ o u) : RepH C K H' ν μ' o u := by
  cases o with
  | lst ds => obtain ⟨xs, q, r⟩ := h; exact ⟨xs, q, RepL.mono k _ r⟩
  | dic ds => obtain ⟨xs, q, r⟩ := h; exact ⟨xs, q, RepKV.mono k r⟩
  | dit ds => obtain ⟨xs, q, r⟩ := h; exact ⟨xs, q, RepKV.mono k r⟩
  | ins c ds => obtain ⟨dx, xs, q, r⟩ := h; exact ⟨dx, xs, q, RepKV.mono k r⟩
  | frz o => exact h.elim
theorem RepH.less {o : O} {u : HO} {D₀ : Addr} (h : RepH C K H (D₀ :: ν) μ o u) : RepH C K H ν μ o u := by
  cases o with
  | lst ds => obtain ⟨xs, q, r⟩ := h; exact ⟨xs, q, RepL.less _ r⟩
  | dic ds => obtain ⟨xs, q, r⟩ := h; exact ⟨xs, q, RepKV.less r⟩
  | dit ds => obtain ⟨xs, q, r⟩ := h; exact ⟨xs, q, RepKV.less r⟩
  | ins c ds => obtain ⟨dx, xs, q, r⟩ := h; exact ⟨dx, xs, q, RepKV.less r⟩
  | frz o => exact h.elim
theorem RepH.more {o : O} {u : HO} {D₀ : Addr} (hn : H D₀ = none) (h : RepH C K H ν μ o u) : RepH C K H (D₀ :: ν) μ o u := by
  cases o with
  | lst ds => obtain ⟨xs, q, r⟩ := h; exact ⟨xs, q, RepL.more hn _ r⟩
  | dic ds => obtain ⟨xs, q, r⟩ := h; exact ⟨xs, q, RepKV.more hn r⟩
  | dit ds => obtain ⟨xs, q, r⟩ := h; exact ⟨xs, q, RepKV.more hn r⟩
  | ins c ds => obtain ⟨dx, xs, q, r⟩ := h; exact ⟨dx, xs, q, RepKV.more hn r⟩
  | frz o => exact h.elim
theorem RepO.ch {o : O} {a : Addr} (h : RepO C K H ν μ o a) : ∃ u, H a = some u ∧ Chf u := by
  cases o with
  | lst ds => obtain ⟨xs, e, _⟩ := h; exact ⟨_, e, .inl trivial⟩
  | dic ds => obtain ⟨xs, e, _⟩ := h; exact ⟨_, e, .inl trivial⟩
  | dit ds => obtain ⟨xs, e, _⟩ := h; exact ⟨_, e, .inl trivial⟩
  | ins c ds => obtain ⟨dx, xs, e, _⟩ := h; exact ⟨_, e, .inl trivial⟩
  | frz o => obtain ⟨ob, u, e, _⟩ := h; exact ⟨_, e, .inr ⟨_, _, rfl⟩⟩
theorem RepO.mono {o : O} {a : Addr} (k : Kp ν H μ H' μ') (e : H' a = H a) (h : RepO C K H ν μ o a) : RepO C K H' ν μ' o a := by
  cases o with
  | lst ds => obtain ⟨xs, q, r⟩ := h; exact ⟨xs, e.trans q, RepL.mono k _ r⟩
  | dic ds => obtain ⟨xs, q, r⟩ := h; exact ⟨xs, e.trans q, RepKV.mono k r⟩
  | dit ds => obtain ⟨xs, q, r⟩ := h; exact ⟨xs, e.trans q, RepKV.mono k r⟩
  | ins c ds => obtain ⟨dx, xs, q, r⟩ := h; exact ⟨dx, xs, e.trans q, RepKV.mono k r⟩
  | frz o => obtain ⟨ob, u, q, r⟩ := h; exact ⟨ob, u, e.trans q, r.mono k⟩
theorem RepO.less {o : O} {a D₀ : Addr} (h : RepO C K H (D₀ :: ν) μ o a) : RepO C K H ν μ o a := by
  cases o with
  | lst ds => obtain ⟨xs, q, r⟩ := h; exact ⟨xs, q, RepL.less _ r⟩
  | dic ds => obtain ⟨xs, q, r⟩ := h; exact ⟨xs, q, RepKV.less r⟩
  | dit ds => obtain ⟨xs, q, r⟩ := h; exact ⟨xs, q, RepKV.less r⟩
  | ins c ds => obtain ⟨dx, xs, q, r⟩ := h; exact ⟨dx, xs, q, RepKV.less r⟩
  | frz o => obtain ⟨ob, u, q, r⟩ := h; exact ⟨ob, u, q, r.less⟩
theorem RepO.more {o : O} {a D₀ : Addr} (hn : H D₀ = none) (h : RepO C K H ν μ o a) : RepO C K H (D₀ :: ν) μ o a := by
  cases o with
  | lst ds => obtain ⟨xs, q, r⟩ := h; exact ⟨xs, q, RepL.more hn _ r⟩
  | dic ds => obtain ⟨xs, q, r⟩ := h; exact ⟨xs, q, RepKV.more hn r⟩
  | dit ds => obtain ⟨xs, q, r⟩ := h; exact ⟨xs, q, RepKV.more hn r⟩
  | ins c ds => obtain ⟨dx, xs, q, r⟩ := h; exact ⟨dx, xs, q, RepKV.more hn r⟩
  | frz o => obtain ⟨ob, u, q, r⟩ := h; exact ⟨ob, u, q, r.more hn⟩

/-- the abstract heap holds the things that may change -/
structure RS (C : Cfg) (K : PySem.W.Frag) (H : Hp) (ν μ : List Addr) (g : G) : Prop where
  len : μ.length = g.length
  nd : μ.Nodup
  dj : ∀ a ∈ ν, a ∉ μ
  nv : ∀ a ∈ ν, ∃ u, H a = some u ∧ Ch u
  ob : ∀ (n : Nat) (o : O) (a : Addr), g[n]? = some o → μ[n]? = some a → RepO C K H ν μ o a
  tb : LamX.Tabs C.tabs H

theorem RS.inμ (R : RS C K H ν μ g) {a : Addr} (h : a ∈ μ) : ∃ u, H a = some u ∧ Chf u := by
  obtain ⟨n, hn, e⟩ := List.getElem_of_mem h
  have e' : μ[n]? = some a := by rw [List.getElem?_eq_getElem hn, e]
  have hg : n < g.length := by rw [← R.len]; exact hn
  exact (R.ob n _ a (List.getElem?_eq_getElem hg) e').ch
theorem tabs_of {T : List (Addr × Str)} (t : LamX.Tabs T H) (k : ∀ b o, H b = some o → ¬ Ch o → H' b = some o) : LamX.Tabs T H' := fun p hp => by
  obtain ⟨ps, h1, h2, h3⟩ := t p hp
  refine ⟨ps, k _ _ h1 (fun z => z), h2, fun pos cv hc => ?_⟩
  obtain ⟨c, e1, e2⟩ := h3 pos cv hc
  exact ⟨c, e1, k _ _ e2 (fun z => z)⟩
/-- a new thing that never changes -/
theorem RS.new (R : RS C K H ν μ g) {p : Addr} {o : HO} (hp : H p = none) : RS C K (upd H p o) ν μ g ∧ Ext H μ (upd H p o) μ := by
  have k : ∀ b u, H b = some u → upd H p o b = some u := fun b u e => by rw [upd_ne (ne_of_none e hp)]; exact e
  have ex : Ext H μ (upd H p o) μ := ⟨⟨[], by simp, by simp⟩, fun b u e _ _ => k b u e, fun b u e n => ⟨u, k b u e, n⟩⟩
  refine ⟨⟨R.len, R.nd, R.dj, fun a ha => ?_, fun n u a e1 e2 => ?_, tabs_of R.tb fun b u e _ => k b u e⟩, ex⟩
  · obtain ⟨xs, e, c⟩ := R.nv a ha
    exact ⟨xs, k _ _ e, c⟩
  · have q := R.ob n u a e1 e2
    obtain ⟨w, hw, _⟩ := q.ch
    exact q.mono ex.kp' (by rw [k _ _ hw, hw])
/-- a new thing that may change -/
theorem RS.alloc (R : RS C K H ν μ g) {p : Addr} {o : HO} {ob : O} (hp : H p = none) (ro : Ext H μ (upd H p o) (μ ++ [p]) → RepO C K (upd H p o) ν (μ ++ [p]) ob p) :
    RS C K (upd H p o) ν (μ ++ [p]) (g ++ [ob]) ∧ Ext H μ (upd H p o) (μ ++ [p]) := by
  have k : ∀ b u, H b = some u → upd H p o b = some u := fun b u e => by rw [upd_ne (ne_of_none e hp)]; exact e
  have ex : Ext H μ (upd H p o) (μ ++ [p]) := ⟨⟨[p], rfl, fun a ha => free_none ((congrArg H (List.mem_singleton.mp ha)).trans hp)⟩, fun b u e _ _ => k b u e, fun b u e n => ⟨u, k b u e, n⟩⟩
  have np : p ∉ μ := fun z => by
    obtain ⟨u, e, _⟩ := R.inμ z
    rw [hp] at e; cases e
  refine ⟨⟨by simp [R.len], ?_, fun a ha => ?_, fun a ha => ?_, fun n u a e1 e2 => ?_, tabs_of R.tb fun b u e _ => k b u e⟩, ex⟩
  · exact List.nodup_append.mpr ⟨R.nd, by simp, fun a ha b hb z => by
      have : b = p := by simpa using hb
      subst this; subst z; exact np ha⟩
  · intro z
    rcases List.mem_append.mp z with z | z
    · exact R.dj a ha z
    · have : a = p := by simpa using z
      obtain ⟨xs, e, _⟩ := R.nv a ha
      rw [this, hp] at e; cases e
  · obtain ⟨xs, e, c⟩ := R.nv a ha
    exact ⟨xs, k _ _ e, c⟩
  · by_cases hn : n < g.length
    · rw [List.getElem?_append_left hn] at e1
      rw [List.getElem?_append_left (by rw [R.len]; exact hn)] at e2
      have q := R.ob n u a e1 e2
      obtain ⟨w, hw, _⟩ := q.ch
      exact q.mono ex.kp' (by rw [k _ _ hw, hw])
    · rw [List.getElem?_append_right (by omega)] at e1
      rw [List.getElem?_append_right (by rw [R.len]; omega)] at e2
      rw [R.len] at e2
      cases hj : n - g.length with
      | zero =>
        rw [hj] at e1 e2
        simp at e1 e2
        subst e1; subst e2
        exact ro ex
      | succ j => rw [hj] at e1; simp at e1
/-- a thing is changed -/
theorem RS.write (R : RS C K H ν μ g) {n : Nat} {a : Addr} {o : HO} {ob : O} (hn : μ[n]? = some a) (hl : ∀ o', g[n]? ≠ some (.frz o')) (no : NTb o) (ro : Ext H μ (upd H a o) μ → RepO C K (upd H a o) ν μ ob a) :
    RS C K (upd H a o) ν μ (g.set n ob) ∧ Ext H μ (upd H a o) μ := by
  have ha : a ∈ μ := List.mem_of_getElem? hn
  obtain ⟨w, hw, cw⟩ : ∃ u, H a = some u ∧ Ch u := by
    have hlt : n < g.length := by rw [← R.len]; exact (List.getElem?_eq_some_iff.mp hn).1
    have q := R.ob n _ a (List.getElem?_eq_getElem hlt) hn
    have hl := hl
    rw [List.getElem?_eq_getElem hlt] at hl
    cases ho : g[n] with
    | lst ds => rw [ho] at q; obtain ⟨xs, e, _⟩ := q; exact ⟨_, e, trivial⟩
    | dic ds => rw [ho] at q; obtain ⟨xs, e, _⟩ := q; exact ⟨_, e, trivial⟩
    | dit ds => rw [ho] at q; obtain ⟨xs, e, _⟩ := q; exact ⟨_, e, trivial⟩
    | ins c ds => rw [ho] at q; obtain ⟨dx, xs, e, _⟩ := q; exact ⟨_, e, trivial⟩
    | frz o => exact absurd (congrArg some ho) (hl o)
  have ex : Ext H μ (upd H a o) μ := ⟨⟨[], by simp, by simp⟩, fun b u e c _ => by
    have ne : b ≠ a := fun z => by
      subst z
      rcases c with c | c
      · exact c ha
      · rw [hw] at e; cases e; exact cw.nfix c
    rw [upd_ne ne]; exact e, fun b u e n => by
    by_cases z : b = a
    · exact ⟨o, by rw [z]; exact upd_same, no⟩
    · exact ⟨u, by rw [upd_ne z]; exact e, n⟩⟩
  refine ⟨⟨by simp [R.len], R.nd, R.dj, fun b hb => ?_, fun m u b e1 e2 => ?_, tabs_of R.tb fun b u e nc => ?_⟩, ex⟩
  · obtain ⟨xs, e, c⟩ := R.nv b hb
    refine ⟨xs, ?_, c⟩
    rw [upd_ne (fun z => R.dj b hb (by rw [z]; exact ha))]; exact e
  · by_cases hm : m = n
    · subst hm
      rw [hn] at e2; cases e2
      have hl : m < g.length := by rw [← R.len]; exact (List.getElem?_eq_some_iff.mp hn).1
      rw [List.getElem?_set_self hl] at e1
      cases e1
      exact ro ex
    · rw [List.getElem?_set_ne (Ne.symm hm)] at e1
      have q := R.ob m u b e1 e2
      refine q.mono ex.kp' (upd_ne fun z => hm ?_)
      subst z
      obtain ⟨l1, q1⟩ := List.getElem?_eq_some_iff.mp e2
      obtain ⟨l2, q2⟩ := List.getElem?_eq_some_iff.mp hn
      exact (List.getElem_inj R.nd).mp (q1.trans q2.symm)
  · rw [upd_ne (fun z => by subst z; rw [hw] at e; cases e; exact nc cw)]; exact e

/-- the frame's names -/
structure RepE (K : PySem.W.Frag) (H : Hp) (ν μ : List Addr) (ρ : Env') (σ : St) : Prop where
  len : ρ.length = σ.length
  at' : ∀ (i : Nat) (d : D), ρ[i]? = some (some d) → ∃ v, σ[i]? = some (some v) ∧ RepD K H ν μ d v
theorem RepE.mono {ρ : Env'} {σ : St} (k : Kp ν H μ H' μ') (h : RepE K H ν μ ρ σ) : RepE K H' ν μ' ρ σ :=
  ⟨h.len, fun i d e => by obtain ⟨v, e1, r⟩ := h.at' i d e; exact ⟨v, e1, RepD.mono k d r⟩⟩
theorem RepE.set {ρ : Env'} {σ : St} {d : D} {v : V} (h : RepE K H ν μ ρ σ) (r : RepD K H ν μ d v) (i : Nat) : RepE K H ν μ (ρ.set i (some d)) (σ.set i (some v)) := by
  refine ⟨by simp [h.len], fun j e he => ?_⟩
  by_cases hj : j = i
  · subst hj
    have hl : j < ρ.length := by
      have := (List.getElem?_eq_some_iff.mp he).1
      simpa using this
    rw [List.getElem?_set_self hl] at he
    cases he
    exact ⟨v, by rw [List.getElem?_set_self (by rw [← h.len]; exact hl)], r⟩
  · rw [List.getElem?_set_ne (Ne.symm hj)] at he ⊢
    exact h.at' j e he

def Res.bind {α β : Type} (r : Res α) (k : α → G → Res β) : Res β := match r with
  | .ok a g => k a g
  | .err c g => .err c g
  | .stuck => .stuck

/-- what must hold of the value and the heap behind -/
def Post (C : Cfg) (K : PySem.W.Frag) (W : WX) (σ : St) (H : Hp) (ν μ : List Addr) (r : Res D) (Q : VK) : Prop := match r with
  | .ok d g' => ∀ v H' μ', Ext H μ H' μ' → RS C K H' ν μ' g' → RepD K H' ν μ' d v → Q v H'
  | .err c g' => ∀ H' μ', Ext H μ H' μ' → RS C K H' ν μ' g' → W (.ref (C.exc c)) none σ H'
  | .stuck => False
def PostL (C : Cfg) (K : PySem.W.Frag) (W : WX) (σ : St) (H : Hp) (ν μ : List Addr) (r : Res (List D)) (Q : List V → Hp → Prop) : Prop := match r with
  | .ok d g' => ∀ v H' μ', Ext H μ H' μ' → RS C K H' ν μ' g' → RepL K H' ν μ' d v → Q v H'
  | .err c g' => ∀ H' μ', Ext H μ H' μ' → RS C K H' ν μ' g' → W (.ref (C.exc c)) none σ H'
  | .stuck => False
def PostB (C : Cfg) (K : PySem.W.Frag) (W : WX) (σ : St) (H : Hp) (ν μ : List Addr) (r : Res Bool) (Q : Bool → Hp → Prop) : Prop := match r with
  | .ok b g' => ∀ H' μ', Ext H μ H' μ' → RS C K H' ν μ' g' → Q b H'
  | .err c g' => ∀ H' μ', Ext H μ H' μ' → RS C K H' ν μ' g' → W (.ref (C.exc c)) none σ H'
  | .stuck => False
theorem Post.ext {W : WX} {σ : St} {r : Res D} {Q : VK} (e : Ext H μ H' μ') (h : Post C K W σ H ν μ r Q) : Post C K W σ H' ν μ' r Q := by
  cases r with
  | ok d g' => exact fun v H2 μ2 e2 => h v H2 μ2 (e.trans e2)
  | err c g' => exact fun H2 μ2 e2 => h H2 μ2 (e.trans e2)
  | stuck => exact h
theorem PostL.ext {W : WX} {σ : St} {r : Res (List D)} {Q : List V → Hp → Prop} (e : Ext H μ H' μ') (h : PostL C K W σ H ν μ r Q) : PostL C K W σ H' ν μ' r Q := by
  cases r with
  | ok d g' => exact fun v H2 μ2 e2 => h v H2 μ2 (e.trans e2)
  | err c g' => exact fun H2 μ2 e2 => h H2 μ2 (e.trans e2)
  | stuck => exact h
theorem PostB.ext {W : WX} {σ : St} {r : Res Bool} {Q : Bool → Hp → Prop} (e : Ext H μ H' μ') (h : PostB C K W σ H ν μ r Q) : PostB C K W σ H' ν μ' r Q := by
  cases r with
  | ok d g' => exact fun H2 μ2 e2 => h H2 μ2 (e.trans e2)
  | err c g' => exact fun H2 μ2 e2 => h H2 μ2 (e.trans e2)
  | stuck => exact h

abbrev FE := Env' → G → Res D
abbrev FT := Env' → G → Res Bool
abbrev FA := Env' → G → Res (List D)
def tD (C : Cfg) (K : PySem.W.Frag) (W : WX) (f : FE) : TE := fun σ H Q => ∃ ρ ν μ g, RepE K H ν μ ρ σ ∧ RS C K H ν μ g ∧ Post C K W σ H ν μ (f ρ g) Q
def tT (C : Cfg) (K : PySem.W.Frag) (W : WX) (f : FT) : TT := fun σ H Q => ∃ ρ ν μ g, RepE K H ν μ ρ σ ∧ RS C K H ν μ g ∧ PostB C K W σ H ν μ (f ρ g) Q
def tA (C : Cfg) (K : PySem.W.Frag) (W : WX) (f : FA) : TA := fun σ H Q => ∃ ρ ν μ g, RepE K H ν μ ρ σ ∧ RS C K H ν μ g ∧ PostL C K W σ H ν μ (f ρ g) Q
end

def DP (C : Cfg) (X : Cx) (W : WX) (e : Expr) (f : FE) : Prop := PE X e (tD C X.K W f)
def DT (C : Cfg) (X : Cx) (W : WX) (e : Expr) (f : FT) : Prop := PT X e (tT C X.K W f)
def DA (C : Cfg) (X : Cx) (W : WX) (es : List Expr) (f : FA) : Prop := PA X es (tA C X.K W f)

theorem PE.imp {X : Cx} {e : Expr} {t t' : TE} (h : PE X e t) (i : ∀ σ H Q, t' σ H Q → t σ H Q) : PE X e t' := ⟨fun pins s σ H Q I q => h.run pins s σ H Q I (i σ H Q q)⟩
theorem PT.imp {X : Cx} {e : Expr} {t t' : TT} (h : PT X e t) (i : ∀ σ H Q, t' σ H Q → t σ H Q) : PT X e t' := ⟨fun pins s σ H Q I q => h.run pins s σ H Q I (i σ H Q q)⟩
theorem PA.imp {X : Cx} {e : List Expr} {t t' : TA} (h : PA X e t) (i : ∀ σ H Q, t' σ H Q → t σ H Q) : PA X e t' := ⟨fun pos pins s σ H Q I q => h.run pos pins s σ H Q I (i σ H Q q)⟩

section
variable {C : Cfg} {X : Cx} {W : WX} {e a b c : Expr} {es : List Expr} {f fa fb fc : FE} {fes : FA} {pos : Pos}

/-- one after another: the first's value, then k of it -/
theorem bindD {K : PySem.W.Frag} {σ : St} {H : Hp} {Q : VK} {k : D → Env' → G → Res D} {R : V → Hp → Prop}
    (h : tD C K W (fun ρ g => (f ρ g).bind fun x g1 => k x ρ g1) σ H Q)
    (hk : ∀ ρ ν μ g d v H', RepE K H' ν μ ρ σ → RS C K H' ν μ g → RepD K H' ν μ d v → Post C K W σ H' ν μ (k d ρ g) Q → R v H') : tD C K W f σ H R := by
  obtain ⟨ρ, ν, μ, g, hE, hR, hP⟩ := h
  refine ⟨ρ, ν, μ, g, hE, hR, ?_⟩
  cases hf : f ρ g with
  | ok d g1 =>
    simp only [hf, Res.bind] at hP
    exact fun v H' μ' ex R' r => hk ρ ν μ' g1 d v H' (hE.mono ex.kp') R' r (hP.ext ex)
  | err c g1 =>
    simp only [hf, Res.bind] at hP
    exact hP
  | stuck =>
    simp only [hf, Res.bind] at hP
    exact hP
theorem tD_of {K : PySem.W.Frag} {σ : St} {H : Hp} {Q : VK} {ρ : Env'} {ν μ : List Addr} {g : G} (hE : RepE K H ν μ ρ σ) (hR : RS C K H ν μ g) (hP : Post C K W σ H ν μ (f ρ g) Q) : tD C K W f σ H Q := ⟨ρ, ν, μ, g, hE, hR, hP⟩
/-- a value that is there -/
theorem Post.here {K : PySem.W.Frag} {σ : St} {H : Hp} {Q : VK} {ν μ : List Addr} {g : G} {d : D} {v : V} (hR : RS C K H ν μ g) (r : RepD K H ν μ d v) (h : Post C K W σ H ν μ (.ok d g) Q) : Q v H := h v H μ .refl hR r

/-! ### names, constants -/
def fVar (i : Nat) : FE := fun ρ g => match ρ[i]? with
  | some (some d) => .ok d g
  | _ => .stuck
theorem dp_var {i : Nat} {x : Str} (hN : X.N[i]? = some x) (hv : Vis X.env.scope x) (hd : (x == ("__debug__" : Str)) = false := by decide) (hcd : (x == ("__classdict__" : Str)) = false := by decide) : DP C X W (.Name x pos) (fVar i) := by
  refine PE.imp (pe_var hN hv hd hcd) fun σ H Q h => ?_
  obtain ⟨ρ, ν, μ, g, hE, hR, hP⟩ := h
  unfold fVar at hP
  split at hP
  · rename_i d e
    obtain ⟨v, ev, r⟩ := hE.at' i d e
    exact ⟨v, ev, hP.here hR r⟩
  · exact hP.elim
def fC (d : D) : FE := fun _ g => .ok d g
theorem dp_int {i : Int} {j : Nat} : DP C X W (.Constant (.int i) j pos) (fC (.int i)) := PE.imp pe_int fun σ H Q ⟨ρ, ν, μ, g, hE, hR, hP⟩ => hP.here hR (show RepD _ _ _ _ (.int i) (.int i) from rfl)
theorem dp_str {i : Str} {j : Nat} : DP C X W (.Constant (.str i) j pos) (fC (.str i)) := PE.imp pe_str fun σ H Q ⟨ρ, ν, μ, g, hE, hR, hP⟩ => hP.here hR (show RepD _ _ _ _ (.str i) (.str i) from rfl)
theorem dp_bl {i : Bool} {j : Nat} : DP C X W (.Constant (.bool i) j pos) (fC (.bl i)) := PE.imp pe_bl fun σ H Q ⟨ρ, ν, μ, g, hE, hR, hP⟩ => hP.here hR (show RepD _ _ _ _ (.bl i) (.bl i) from rfl)
theorem dp_non {j : Nat} : DP C X W (.Constant .none j pos) (fC .non) := PE.imp pe_non fun σ H Q ⟨ρ, ν, μ, g, hE, hR, hP⟩ => hP.here hR (show RepD _ _ _ _ .non .non from rfl)

/-! ### operators -/
abbrev F2 := D → D → G → Res D
/-- an operator by values -/
def rD (C : Cfg) (K : PySem.W.Frag) (o : F2) : R2 := fun x y H Q => ∃ dx dy ν μ g, RS C K H ν μ g ∧ RepD K H ν μ dx x ∧ RepD K H ν μ dy y ∧ ∀ W σ, Post C K W σ H ν μ (o dx dy g) Q
/-- an operator that raises nothing of its own -/
def NoErr (o : F2) : Prop := ∀ x y g c g', o x y g ≠ .err c g'
theorem post_any {K : PySem.W.Frag} {σ : St} {H : Hp} {Q : VK} {ν μ : List Addr} {r : Res D} (n : ∀ c g', r ≠ .err c g') (h : Post C K W σ H ν μ r Q) (W' : WX) (σ' : St) : Post C K W' σ' H ν μ r Q := by
  cases r with
  | ok d g => exact h
  | err c g => exact absurd rfl (n c g)
  | stuck => exact h
def fBin (o : F2) (fa fb : FE) : FE := fun ρ g => (fa ρ g).bind fun x g1 => (fb ρ g1).bind fun y g2 => o x y g2
theorem tBin {K : PySem.W.Frag} {o : F2} {r : R2} {σ : St} {H : Hp} {Q : VK} (no : NoErr o) (ro : ∀ x y H Q, rD C K o x y H Q → r x y H Q) (h : tD C K W (fBin o fa fb) σ H Q) : tOp r (tD C K W fa) (tD C K W fb) σ H Q := by
  refine bindD (k := fun x ρ g1 => (fb ρ g1).bind fun y g2 => o x y g2) h fun ρ ν μ g dx x H1 hE hR rx hP => ?_
  refine ⟨ρ, ν, μ, g, hE, hR, ?_⟩
  cases hf : fb ρ g with
  | ok dy g2 =>
    simp only [hf, Res.bind] at hP
    exact fun y H2 μ2 ex R2 ry => ro _ _ _ _ ⟨dx, dy, ν, μ2, g2, R2, RepD.mono ex.kp' _ rx, ry, fun W' σ' => post_any (fun _ _ => no _ _ _ _ _) (hP.ext ex) W' σ'⟩
  | err c g2 =>
    simp only [hf, Res.bind] at hP
    exact hP
  | stuck =>
    simp only [hf, Res.bind] at hP
    exact hP
theorem dp_bin {op : Operator} {o : F2} (no : NoErr o) (ho : OpR X (binaryOp op) (rD C X.K o)) (ha : DP C X W a fa) (hb : DP C X W b fb) : DP C X W (.BinOp a op b pos) (fBin o fa fb) :=
  PE.imp (pe_op ho ha hb) fun σ H Q h => tBin no (fun _ _ _ _ z => z) h
theorem dp_cmp {op : CmpOp} {o : F2} (no : NoErr o) (ho : OpR X (compareOp op) (rD C X.K o)) (ha : DP C X W a fa) (hb : DP C X W b fb) (hm : behindInMarks op b = false) : DP C X W (.Compare a [op] [b] pos) (fBin o fa fb) :=
  PE.imp (pe_cmpR ho ha hb hm) fun σ H Q h => tBin no (fun _ _ _ _ z => z) h
end
end Dl
end
section
set_option Elab.async false
set_option linter.all false
set_option maxRecDepth 100000
namespace Dl
open PySem L2
/-! ### reading sequences -/
def lstOf (g : G) : D → Option (List D)
  | .lst xs => some xs
  | .loc n => match g[n]? with
    | some (.lst xs) => some xs
    | _ => none
  | _ => none
def seqOf (g : G) : D → Option (List D)
  | .tup xs => some xs
  | .scr ns => some (ns.map .int)
  | d => lstOf g d
section
variable {C : Cfg} {K : PySem.W.Frag} {H H' : Hp} {ν μ μ' : List Addr} {g : G} {d : D} {ds : List D} {v : V}
theorem lst_rd (R : RS C K H ν μ g) (r : RepD K H ν μ d v) (e : lstOf g d = some ds) : ∃ a xs, v = .ref a ∧ H a = some (.lst xs) ∧ RepL K H ν μ ds xs := by
  unfold lstOf at e
  split at e
  · cases e
    unfold RepD at r
    obtain ⟨a, xs, e, h1, _, _, h4⟩ := r
    exact ⟨a, xs, e, h1, h4⟩
  · split at e
    · rename_i n _ xs hg
      cases e
      unfold RepD at r
      obtain ⟨a, e, h⟩ := r
      obtain ⟨xs', h1, h2⟩ := R.ob n _ a hg h
      exact ⟨a, xs', e, h1, h2⟩
    · cases e
  · cases e
theorem seq_rd (R : RS C K H ν μ g) (r : RepD K H ν μ d v) (e : seqOf g d = some ds) : ∃ a xs, v = .ref a ∧ (SqL K H a xs ∨ SqT K H a xs) ∧ RepL K H ν μ ds xs := by
  unfold seqOf at e
  split at e
  · cases e
    unfold RepD at r
    obtain ⟨a, xs, e, h1, h2⟩ := r
    exact ⟨a, xs, e, .inr h1, h2⟩
  · cases e
    unfold RepD at r
    obtain ⟨a, e, h⟩ := r
    refine ⟨a, _, e, .inl ?_, repL_ints _⟩
    rcases h with ⟨o, h, _⟩ | h
    · exact .inl (.inr ⟨o, h⟩)
    · rcases h with h | h
      · rcases h with h | ⟨o, h⟩ <;> cases h
      · exact .inr h
  · obtain ⟨a, xs, e1, h1, h2⟩ := lst_rd R r e
    exact ⟨a, xs, e1, .inl (SqL.of h1), h2⟩
theorem RS.sz {a : Addr} {X : Cx} {pins : List (Addr × Obj)} {σ : St} {s : Shared} {xs : List V} (I : Inv X pins σ H s) (h : H a = some (.lst xs)) : xs.length ≤ sizeLine := (I.hok a _ h).1
/-- a new list, a new tuple -/
theorem new_lst (R : RS C K H ν μ g) {p : Addr} {xs : List V} (hp : H p = none) (r : RepL K H ν μ ds xs) : Ext H μ (upd H p (.lst xs)) μ ∧ RS C K (upd H p (.lst xs)) ν μ g ∧ RepD K (upd H p (.lst xs)) ν μ (.lst ds) (.ref p) := by
  obtain ⟨R', ex⟩ := R.new (o := .lst xs) hp
  refine ⟨ex, R', ?_⟩
  refine ⟨p, xs, rfl, upd_same, fun z => ?_, fun z => ?_, RepL.mono ex.kp' ds r⟩
  · obtain ⟨u, e, _⟩ := R.inμ z
    rw [hp] at e; cases e
  · obtain ⟨u, e, _⟩ := R.nv p z
    rw [hp] at e; cases e
theorem new_tup (R : RS C K H ν μ g) {p : Addr} {xs : List V} (hp : H p = none) (r : RepL K H ν μ ds xs) : Ext H μ (upd H p (.tup xs)) μ ∧ RS C K (upd H p (.tup xs)) ν μ g ∧ RepD K (upd H p (.tup xs)) ν μ (.tup ds) (.ref p) := by
  obtain ⟨R', ex⟩ := R.new (o := .tup xs) hp
  exact ⟨ex, R', p, xs, rfl, SqT.of upd_same, RepL.mono ex.kp' ds r⟩
/-- a new list that may change -/
theorem new_mut (R : RS C K H ν μ g) {p : Addr} {xs : List V} (hp : H p = none) (r : RepL K H ν μ ds xs) :
    Ext H μ (upd H p (.lst xs)) (μ ++ [p]) ∧ RS C K (upd H p (.lst xs)) ν (μ ++ [p]) (g ++ [.lst ds]) ∧ RepD K (upd H p (.lst xs)) ν (μ ++ [p]) (.loc g.length) (.ref p) := by
  obtain ⟨R', ex⟩ := R.alloc (o := .lst xs) (ob := .lst ds) hp fun ex => ⟨xs, upd_same, RepL.mono ex.kp' ds r⟩
  refine ⟨ex, R', p, rfl, ?_⟩
  rw [← R.len, List.getElem?_append_right (Nat.le_refl _)]
  simp
end
/-! ### arithmetic, concatenation -/
def oAdd : F2
  | .int i, .int j, g => .ok (.int (i + j)) g
  | .str a, .str b, g => if a.length + b.length ≤ sizeLine then .ok (.str (a ++ b)) g else .stuck
  | .tup a, .tup b, g => if a.length + b.length ≤ sizeLine then .ok (.tup (a ++ b)) g else .stuck
  | x, y, g => match lstOf g x, lstOf g y with
    | some a, some b => if a.length + b.length ≤ sizeLine then .ok (.lst (a ++ b)) g else .stuck
    | _, _ => .stuck
def oSub : F2
  | .int i, .int j, g => .ok (.int (i - j)) g
  | _, _, _ => .stuck
def mulOk (i j : Int) : Bool := decide (-(2 ^ 64) < i ∧ i < 2 ^ 64) || decide (-(2 ^ 64) < j ∧ j < 2 ^ 64) || decide (i.natAbs.log2 + j.natAbs.log2 < 1000000)
def oMul : F2
  | .int i, .int j, g => if mulOk i j then .ok (.int (i * j)) g else .stuck
  | .lst a, .int k, g => if -(2 ^ 63) ≤ k ∧ k < 2 ^ 63 ∧ a.length * k.toNat ≤ sizeLine then .ok (.lst (List.replicate k.toNat a).flatten) g else .stuck
  | _, _, _ => .stuck
def oDiv : F2
  | .int i, .int j, g => if j ≠ 0 ∧ j.natAbs < 1073741824 then .ok (.int (i.fdiv j)) g else if 0 < j ∧ j.natAbs.log2 < 9000 then .ok (.int (i.fdiv j)) g else .stuck
  | _, _, _ => .stuck
def oMod : F2
  | .int i, .int j, g => if j ≠ 0 then .ok (.int (i.fmod j)) g else .stuck
  | _, _, _ => .stuck
def oPow : F2
  | .int i, .int j, g => if 0 ≤ j ∧ j ≤ 1000000 ∧ i.natAbs < 2 ^ 64 then .ok (.int (i ^ j.toNat)) g else .stuck
  | _, _, _ => .stuck
/-! ### comparisons -/
def optAll {α : Type} : List (Option α) → Option (List α)
  | [] => some []
  | some a :: r => (optAll r).map (a :: ·)
  | none :: _ => none
def toPy (g : G) : Nat → D → Option PyData
  | 0, _ => none
  | n + 1, d => match d with
    | .non => some .none
    | .bl b => some (.bool b)
    | .int i => some (.int i)
    | .str s => some (.str s)
    | .tup ds => (optAll (ds.map (toPy g n))).map .tuple
    | .lst ds => (optAll (ds.map (toPy g n))).map .list
    | .loc l => match g[l]? with
      | some (.lst ds) => (optAll (ds.map (toPy g n))).map .list
      | _ => none
    | .scr _ => none
def eqPy (g : G) (x y : D) : Option Bool := match toPy g 12 x, toPy g 12 y with
  | some d, some e => if SeqAt.shaped d && SeqAt.shaped e then some (PyData.eqv d e) else none
  | _, _ => none
def oEq : F2 := fun x y g => match eqPy g x y with
  | some b => .ok (.bl b) g
  | none => .stuck
def oNe : F2 := fun x y g => match eqPy g x y with
  | some b => .ok (.bl (!b)) g
  | none => .stuck
def oLt : F2
  | .int i, .int j, g => .ok (.bl (decide (i < j))) g
  | .str a, .str b, g => .ok (.bl (decide (a.cps.toList < b.cps.toList))) g
  | _, _, _ => .stuck
def oLe : F2
  | .int i, .int j, g => .ok (.bl (decide (i ≤ j))) g
  | _, _, _ => .stuck
def oGt : F2
  | .int i, .int j, g => .ok (.bl (decide (j < i))) g
  | _, _, _ => .stuck
def oGe : F2
  | .int i, .int j, g => .ok (.bl (decide (j ≤ i))) g
  | _, _, _ => .stuck
def isNon : D → Bool
  | .non => true
  | _ => false
def oIs : F2
  | x, .non, g => .ok (.bl (isNon x)) g
  | _, _, _ => .stuck
def oIsNot : F2
  | x, .non, g => .ok (.bl (!isNon x)) g
  | _, _, _ => .stuck

section
variable {C : Cfg} {K : PySem.W.Frag} {H H' : Hp} {ν μ μ' : List Addr} {g : G} {d : D} {ds : List D} {v : V}
theorem toPy_rd (R : RS C K H ν μ g) : ∀ (n : Nat) (d : D) (v : V) (p : PyData), RepD K H ν μ d v → toPy g n d = some p → Dp K H v p
  | 0, _, _, _, _, e => by cases e
  | n + 1, d, v, p, r, e => by
    have all : ∀ (ds : List D) (vs : List V) (ps : List PyData), RepL K H ν μ ds vs → optAll (ds.map (toPy g n)) = some ps → DpAll K H vs ps := by
      intro ds
      induction ds with
      | nil => intro vs ps r e; unfold RepL at r; subst r; simp [optAll] at e; subst e; exact .nil
      | cons d ds ih =>
        intro vs ps r e
        unfold RepL at r
        obtain ⟨v, q, rfl, r1, r2⟩ := r
        rw [List.map_cons] at e
        cases hd : toPy g n d with
        | none => rw [hd] at e; cases e
        | some p =>
          rw [hd] at e
          simp only [optAll] at e
          cases hq : optAll (ds.map (toPy g n)) with
          | none => rw [hq] at e; cases e
          | some ps' =>
            rw [hq] at e
            cases e
            exact .cons (toPy_rd R n d v p r1 hd) (ih q ps' r2 hq)
    unfold toPy at e
    split at e
    · cases e; obtain rfl : v = .non := r; exact .non
    · cases e; obtain rfl : v = .bl _ := r; exact .bl _
    · cases e; obtain rfl : v = .int _ := r; exact .int _
    · cases e; obtain rfl : v = .str _ := r; exact .str _
    · rename_i ds
      unfold RepD at r
      obtain ⟨a, xs, rfl, h1, h2⟩ := r
      cases hq : optAll (ds.map (toPy g n)) with
      | none => rw [hq] at e; cases e
      | some ps => rw [hq] at e; cases e; exact .tup h1 (all ds xs ps h2 hq)
    · rename_i ds
      unfold RepD at r
      obtain ⟨a, xs, rfl, h1, _, _, h2⟩ := r
      cases hq : optAll (ds.map (toPy g n)) with
      | none => rw [hq] at e; cases e
      | some ps => rw [hq] at e; cases e; exact .lst (SqL.of h1) (all ds xs ps h2 hq)
    · rename_i l
      unfold RepD at r
      obtain ⟨a, rfl, h⟩ := r
      split at e
      · rename_i ds hg
        obtain ⟨xs, h1, h2⟩ := R.ob l _ a hg h
        cases hq : optAll (ds.map (toPy g n)) with
        | none => rw [hq] at e; cases e
        | some ps => rw [hq] at e; cases e; exact .lst (SqL.of h1) (all ds xs ps h2 hq)
      · cases e
    · cases e
theorem eqPy_rd (R : RS C K H ν μ g) {x y : D} {v w : V} {b : Bool} (rx : RepD K H ν μ x v) (ry : RepD K H ν μ y w) (e : eqPy g x y = some b) : ∃ d q, Dp K H v d ∧ Dp K H w q ∧ SeqAt.shaped d = true ∧ SeqAt.shaped q = true ∧ PyData.eqv d q = b := by
  unfold eqPy at e
  split at e
  · rename_i d q e1 e2
    split at e
    · rename_i hs
      rw [Bool.and_eq_true] at hs
      cases e
      exact ⟨d, q, toPy_rd R _ _ _ _ rx e1, toPy_rd R _ _ _ _ ry e2, hs.1, hs.2, rfl⟩
    · cases e
  · cases e
end
section
variable {C : Cfg} {X : Cx}
theorem noerr {o : F2} (h : ∀ x y g c g', o x y g = .err c g' → False) : NoErr o := fun x y g c g' e => h x y g c g' e
theorem oAdd_n : NoErr oAdd := noerr fun x y g c g' e => by unfold oAdd at e; split at e <;> (repeat' (split at e)) <;> cases e
theorem oSub_n : NoErr oSub := noerr fun x y g c g' e => by unfold oSub at e; split at e <;> cases e
theorem oMul_n : NoErr oMul := noerr fun x y g c g' e => by unfold oMul at e; split at e <;> (repeat' (split at e)) <;> cases e
theorem oDiv_n : NoErr oDiv := noerr fun x y g c g' e => by unfold oDiv at e; split at e <;> (repeat' (split at e)) <;> cases e
theorem oMod_n : NoErr oMod := noerr fun x y g c g' e => by unfold oMod at e; split at e <;> (repeat' (split at e)) <;> cases e
theorem oPow_n : NoErr oPow := noerr fun x y g c g' e => by unfold oPow at e; split at e <;> (repeat' (split at e)) <;> cases e
theorem oEq_n : NoErr oEq := noerr fun x y g c g' e => by unfold oEq at e; split at e <;> cases e
theorem oNe_n : NoErr oNe := noerr fun x y g c g' e => by unfold oNe at e; split at e <;> cases e
theorem oLt_n : NoErr oLt := noerr fun x y g c g' e => by unfold oLt at e; split at e <;> cases e
theorem oLe_n : NoErr oLe := noerr fun x y g c g' e => by unfold oLe at e; split at e <;> cases e
theorem oGt_n : NoErr oGt := noerr fun x y g c g' e => by unfold oGt at e; split at e <;> cases e
theorem oGe_n : NoErr oGe := noerr fun x y g c g' e => by unfold oGe at e; split at e <;> cases e
theorem oIs_n : NoErr oIs := noerr fun x y g c g' e => by unfold oIs at e; split at e <;> cases e
theorem oIsNot_n : NoErr oIsNot := noerr fun x y g c g' e => by unfold oIsNot at e; split at e <;> cases e

theorem rD_lst {K : PySem.W.Frag} {H : Hp} {ν μ : List Addr} {g : G} {ds : List D} {xs : List V} {W : WX} {σ : St} {Q : VK} (R : RS C K H ν μ g) (r : RepL K H ν μ ds xs) (h : Post C K W σ H ν μ (.ok (.lst ds) g) Q) : ∀ p, H p = none → Q (.ref p) (upd H p (.lst xs)) := fun p hp => by
  obtain ⟨e, R', r'⟩ := new_lst R hp r
  exact h _ _ _ e R' r'
theorem rD_tup {K : PySem.W.Frag} {H : Hp} {ν μ : List Addr} {g : G} {ds : List D} {xs : List V} {W : WX} {σ : St} {Q : VK} (R : RS C K H ν μ g) (r : RepL K H ν μ ds xs) (h : Post C K W σ H ν μ (.ok (.tup ds) g) Q) : ∀ p, H p = none → Q (.ref p) (upd H p (.tup xs)) := fun p hp => by
  obtain ⟨e, R', r'⟩ := new_tup R hp r
  exact h _ _ _ e R' r'

theorem rInt {K : PySem.W.Frag} {H : Hp} {ν μ : List Addr} (i : Int) : RepD K H ν μ (.int i) (.int i) := rfl
theorem rBl {K : PySem.W.Frag} {H : Hp} {ν μ : List Addr} (i : Bool) : RepD K H ν μ (.bl i) (.bl i) := rfl
theorem rStr {K : PySem.W.Frag} {H : Hp} {ν μ : List Addr} (i : Str) : RepD K H ν μ (.str i) (.str i) := rfl
theorem rNon {K : PySem.W.Frag} {H : Hp} {ν μ : List Addr} : RepD K H ν μ .non .non := rfl
theorem rTup {K : PySem.W.Frag} {H : Hp} {ν μ : List Addr} {a : Addr} {ds : List D} {xs : List V} (h : SqT K H a xs) (r : RepL K H ν μ ds xs) : RepD K H ν μ (.tup ds) (.ref a) := ⟨a, xs, rfl, h, r⟩

theorem oAdd_ok : OpR X (binaryOp .Add) (rD C X.K oAdd) := by
  intro pins s σ H x y v u Q I rx ry h
  obtain ⟨dx, dy, ν, μ, g, R, r1, r2, hP⟩ := h
  have hP := hP (fun _ _ _ _ => False) σ
  unfold oAdd at hP
  split at hP
  · obtain rfl : x = .int _ := r1
    obtain rfl : y = .int _ := r2
    exact op_add pins s σ H _ _ v u Q I rx ry ⟨_, _, rfl, rfl, hP.here R (rInt _)⟩
  · obtain rfl : x = .str _ := r1
    obtain rfl : y = .str _ := r2
    split at hP
    · rename_i hl
      exact op_add_str pins s σ H _ _ v u Q I rx ry ⟨_, _, rfl, rfl, hl, hP.here R (rStr _)⟩
    · exact hP.elim
  · unfold RepD at r1 r2
    obtain ⟨a, xs, rfl, h1, h2⟩ := r1
    obtain ⟨b, ys, rfl, h3, h4⟩ := r2
    split at hP
    · rename_i hl
      have e1 := RepL.length h2
      have e2 := RepL.length h4
      have h5 := RepL.app h2 h4
      refine op_catA pins s σ H _ _ v u Q I rx ry ⟨a, b, xs, ys, rfl, rfl, h1, h3, by omega, fun z => ?_, fun _ z => ?_, fun _ _ => rD_tup R h5 hP⟩
      · subst z
        exact hP.here R (rTup h3 h5)
      · subst z
        rw [List.append_nil] at h5
        exact hP.here R (rTup h1 h5)
    · exact hP.elim
  · split at hP
    · rename_i a b e1 e2
      obtain ⟨a, xs, rfl, h1, h2⟩ := lst_rd R r1 e1
      obtain ⟨b, ys, rfl, h3, h4⟩ := lst_rd R r2 e2
      split at hP
      · rename_i hl
        have q1 := RepL.length h2
        have q2 := RepL.length h4
        exact op_cat pins s σ H _ _ v u Q I rx ry ⟨a, b, xs, ys, rfl, rfl, h1, h3, by omega, rD_lst R (RepL.app h2 h4) hP⟩
      · exact hP.elim
    · exact hP.elim
theorem oSub_ok : OpR X (binaryOp .Sub) (rD C X.K oSub) := by
  intro pins s σ H x y v u Q I rx ry h
  obtain ⟨dx, dy, ν, μ, g, R, r1, r2, hP⟩ := h
  have hP := hP (fun _ _ _ _ => False) σ
  unfold oSub at hP
  split at hP
  · obtain rfl : x = .int _ := r1
    obtain rfl : y = .int _ := r2
    exact op_sub pins s σ H _ _ v u Q I rx ry ⟨_, _, rfl, rfl, hP.here R (rInt _)⟩
  · exact hP.elim
theorem RepL.rep {K : PySem.W.Frag} {H : Hp} {ν μ : List Addr} {ds : List D} {xs : List V} (r : RepL K H ν μ ds xs) : ∀ k : Nat, RepL K H ν μ (List.replicate k ds).flatten (List.replicate k xs).flatten
  | 0 => rfl
  | k + 1 => by
    rw [List.replicate_succ, List.replicate_succ, List.flatten_cons, List.flatten_cons]
    exact RepL.app r (RepL.rep r k)
theorem oMul_ok : OpR X (binaryOp .Mult) (rD C X.K oMul) := by
  intro pins s σ H x y v u Q I rx ry h
  obtain ⟨dx, dy, ν, μ, g, R, r1, r2, hP⟩ := h
  have hP := hP (fun _ _ _ _ => False) σ
  unfold oMul at hP
  split at hP
  · obtain rfl : x = .int _ := r1
    obtain rfl : y = .int _ := r2
    split at hP
    · rename_i i j hm
      unfold mulOk at hm
      simp only [Bool.or_eq_true, decide_eq_true_eq] at hm
      have q := hP.here R (rInt _)
      rcases hm with hm | hm
      · exact op_mul pins s σ H _ _ v u Q I rx ry ⟨_, _, rfl, rfl, hm, q⟩
      · exact op_mulW pins s σ H _ _ v u Q I rx ry ⟨_, _, rfl, rfl, hm, q⟩
    · exact hP.elim
  · unfold RepD at r1
    obtain ⟨a, xs, rfl, h1, _, _, h2⟩ := r1
    obtain rfl : y = .int _ := r2
    split at hP
    · rename_i hk
      have q1 := RepL.length h2
      exact op_rep pins s σ H _ _ v u Q I rx ry ⟨a, _, xs, rfl, rfl, h1, hk.1, hk.2.1, by rw [← q1]; exact hk.2.2, rD_lst R (RepL.rep h2 _) hP⟩
    · exact hP.elim
  · exact hP.elim
theorem oDiv_ok : OpR X (binaryOp .FloorDiv) (rD C X.K oDiv) := by
  intro pins s σ H x y v u Q I rx ry h
  obtain ⟨dx, dy, ν, μ, g, R, r1, r2, hP⟩ := h
  have hP := hP (fun _ _ _ _ => False) σ
  unfold oDiv at hP
  split at hP
  · obtain rfl : x = .int _ := r1
    obtain rfl : y = .int _ := r2
    split at hP
    · rename_i hm
      exact op_fdivN pins s σ H _ _ v u Q I rx ry ⟨_, _, rfl, rfl, hm, hP.here R (rInt _)⟩
    · split at hP
      · rename_i i j _ hm
        have q := hP.here R (rInt _)
        rw [Int.fdiv_eq_ediv_of_nonneg _ (Int.le_of_lt hm.1)] at q
        exact op_fdivW pins s σ H _ _ v u Q I rx ry ⟨_, _, rfl, rfl, hm, q⟩
      · exact hP.elim
  · exact hP.elim
theorem oMod_ok : OpR X (binaryOp .Mod) (rD C X.K oMod) := by
  intro pins s σ H x y v u Q I rx ry h
  obtain ⟨dx, dy, ν, μ, g, R, r1, r2, hP⟩ := h
  have hP := hP (fun _ _ _ _ => False) σ
  unfold oMod at hP
  split at hP
  · obtain rfl : x = .int _ := r1
    obtain rfl : y = .int _ := r2
    split at hP
    · rename_i hm
      exact op_modN pins s σ H _ _ v u Q I rx ry ⟨_, _, rfl, rfl, hm, hP.here R (rInt _)⟩
    · exact hP.elim
  · exact hP.elim
theorem oPow_ok : OpR X (binaryOp .Pow) (rD C X.K oPow) := by
  intro pins s σ H x y v u Q I rx ry h
  obtain ⟨dx, dy, ν, μ, g, R, r1, r2, hP⟩ := h
  have hP := hP (fun _ _ _ _ => False) σ
  unfold oPow at hP
  split at hP
  · obtain rfl : x = .int _ := r1
    obtain rfl : y = .int _ := r2
    split at hP
    · rename_i hm
      exact op_pow pins s σ H _ _ v u Q I rx ry ⟨_, _, rfl, rfl, hm, hP.here R (rInt _)⟩
    · exact hP.elim
  · exact hP.elim
theorem oEq_ok (hu : X.A.units + 64 < cLine) : OpR X (compareOp .Eq) (rD C X.K oEq) := by
  intro pins s σ H x y v u Q I rx ry h
  obtain ⟨dx, dy, ν, μ, g, R, r1, r2, hP⟩ := h
  have hP := hP (fun _ _ _ _ => False) σ
  unfold oEq at hP
  split at hP
  · rename_i b e
    obtain ⟨d, q, h1, h2, h3, h4, h5⟩ := eqPy_rd R r1 r2 e
    exact op_eqD hu pins s σ H _ _ v u Q I rx ry ⟨d, q, h1, h2, h3, h4, by rw [h5]; exact hP.here R (rBl _)⟩
  · exact hP.elim
theorem oNe_ok (hu : X.A.units + 64 < cLine) : OpR X (compareOp .NotEq) (rD C X.K oNe) := by
  intro pins s σ H x y v u Q I rx ry h
  obtain ⟨dx, dy, ν, μ, g, R, r1, r2, hP⟩ := h
  have hP := hP (fun _ _ _ _ => False) σ
  unfold oNe at hP
  split at hP
  · rename_i b e
    obtain ⟨d, q, h1, h2, h3, h4, h5⟩ := eqPy_rd R r1 r2 e
    exact op_neD hu pins s σ H _ _ v u Q I rx ry ⟨d, q, h1, h2, h3, h4, by rw [h5]; exact hP.here R (rBl _)⟩
  · exact hP.elim
theorem oLt_ok : OpR X (compareOp .Lt) (rD C X.K oLt) := by
  intro pins s σ H x y v u Q I rx ry h
  obtain ⟨dx, dy, ν, μ, g, R, r1, r2, hP⟩ := h
  have hP := hP (fun _ _ _ _ => False) σ
  unfold oLt at hP
  split at hP
  · obtain rfl : x = .int _ := r1
    obtain rfl : y = .int _ := r2
    exact op_lt pins s σ H _ _ v u Q I rx ry ⟨_, _, rfl, rfl, hP.here R (rBl _)⟩
  · obtain rfl : x = .str _ := r1
    obtain rfl : y = .str _ := r2
    exact op_lt_str pins s σ H _ _ v u Q I rx ry ⟨_, _, rfl, rfl, hP.here R (rBl _)⟩
  · exact hP.elim
theorem oLe_ok : OpR X (compareOp .LtE) (rD C X.K oLe) := by
  intro pins s σ H x y v u Q I rx ry h
  obtain ⟨dx, dy, ν, μ, g, R, r1, r2, hP⟩ := h
  have hP := hP (fun _ _ _ _ => False) σ
  unfold oLe at hP
  split at hP
  · obtain rfl : x = .int _ := r1
    obtain rfl : y = .int _ := r2
    exact op_le pins s σ H _ _ v u Q I rx ry ⟨_, _, rfl, rfl, hP.here R (rBl _)⟩
  · exact hP.elim
theorem oGt_ok : OpR X (compareOp .Gt) (rD C X.K oGt) := by
  intro pins s σ H x y v u Q I rx ry h
  obtain ⟨dx, dy, ν, μ, g, R, r1, r2, hP⟩ := h
  have hP := hP (fun _ _ _ _ => False) σ
  unfold oGt at hP
  split at hP
  · obtain rfl : x = .int _ := r1
    obtain rfl : y = .int _ := r2
    exact op_gt pins s σ H _ _ v u Q I rx ry ⟨_, _, rfl, rfl, hP.here R (rBl _)⟩
  · exact hP.elim
theorem oGe_ok : OpR X (compareOp .GtE) (rD C X.K oGe) := by
  intro pins s σ H x y v u Q I rx ry h
  obtain ⟨dx, dy, ν, μ, g, R, r1, r2, hP⟩ := h
  have hP := hP (fun _ _ _ _ => False) σ
  unfold oGe at hP
  split at hP
  · obtain rfl : x = .int _ := r1
    obtain rfl : y = .int _ := r2
    exact op_ge pins s σ H _ _ v u Q I rx ry ⟨_, _, rfl, rfl, hP.here R (rBl _)⟩
  · exact hP.elim
theorem isNon_rd {K : PySem.W.Frag} {H : Hp} {ν μ : List Addr} : ∀ {d : D} {v : V}, RepD K H ν μ d v → decide (v = .non) = isNon d
  | .non, v, r => by obtain rfl : v = .non := r; rfl
  | .bl _, v, r => by obtain rfl : v = .bl _ := r; rfl
  | .int _, v, r => by obtain rfl : v = .int _ := r; rfl
  | .str _, v, r => by obtain rfl : v = .str _ := r; rfl
  | .tup _, v, r => by obtain ⟨a, xs, rfl, _⟩ := r; rfl
  | .lst _, v, r => by obtain ⟨a, xs, rfl, _⟩ := r; rfl
  | .scr _, v, r => by obtain ⟨a, rfl, _⟩ := r; rfl
  | .loc _, v, r => by obtain ⟨a, rfl, _⟩ := r; rfl
theorem oIs_ok : OpR X (compareOp .Is) (rD C X.K oIs) := by
  intro pins s σ H x y v u Q I rx ry h
  obtain ⟨dx, dy, ν, μ, g, R, r1, r2, hP⟩ := h
  have hP := hP (fun _ _ _ _ => False) σ
  unfold oIs at hP
  split at hP
  · obtain rfl : y = .non := r2
    refine op_isN pins s σ H _ _ v u Q I rx ry ⟨rfl, ?_⟩
    rw [isNon_rd r1]
    exact hP.here R (rBl _)
  · exact hP.elim
theorem oIsNot_ok : OpR X (compareOp .IsNot) (rD C X.K oIsNot) := by
  intro pins s σ H x y v u Q I rx ry h
  obtain ⟨dx, dy, ν, μ, g, R, r1, r2, hP⟩ := h
  have hP := hP (fun _ _ _ _ => False) σ
  unfold oIsNot at hP
  split at hP
  · obtain rfl : y = .non := r2
    refine op_notN pins s σ H _ _ v u Q I rx ry ⟨rfl, ?_⟩
    rw [isNon_rd r1]
    exact hP.here R (rBl _)
  · exact hP.elim
end
end Dl
end
section
set_option Elab.async false
set_option linter.all false
set_option maxRecDepth 100000
namespace Dl
open PySem L2
section
variable {C : Cfg} {X : Cx} {W : WX} {e a b c o : Expr} {es rest : List Expr} {f fa fb fc : FE} {fes : FA} {ft : FT} {pos : Pos}
/-! ### argument lists, displays -/
def fNil : FA := fun _ g => .ok [] g
def fCons (fa : FE) (fr : FA) : FA := fun ρ g => (fa ρ g).bind fun x g1 => (fr ρ g1).bind fun r g2 => .ok (x :: r) g2
theorem da_nil : DA C X W [] fNil := PA.imp pa_nil fun σ H Q ⟨ρ, ν, μ, g, hE, hR, hP⟩ => hP [] H μ .refl hR rfl
theorem bindA {K : PySem.W.Frag} {σ : St} {H : Hp} {Q : List V → Hp → Prop} {k : D → Env' → G → Res (List D)} {R : V → Hp → Prop}
    (h : tA C K W (fun ρ g => (f ρ g).bind fun x g1 => k x ρ g1) σ H Q)
    (hk : ∀ ρ ν μ g d v H', RepE K H' ν μ ρ σ → RS C K H' ν μ g → RepD K H' ν μ d v → PostL C K W σ H' ν μ (k d ρ g) Q → R v H') : tD C K W f σ H R := by
  obtain ⟨ρ, ν, μ, g, hE, hR, hP⟩ := h
  refine ⟨ρ, ν, μ, g, hE, hR, ?_⟩
  cases hf : f ρ g with
  | ok d g1 =>
    simp only [hf, Res.bind] at hP
    exact fun v H' μ' ex R' r => hk ρ ν μ' g1 d v H' (hE.mono ex.kp') R' r (hP.ext ex)
  | err c g1 =>
    simp only [hf, Res.bind] at hP
    exact hP
  | stuck =>
    simp only [hf, Res.bind] at hP
    exact hP
theorem da_cons (ha : DP C X W a fa) (hr : DA C X W es fes) (hs : starEach (a :: es) X.env = (false, eval a X.env) :: starEach es X.env := by rfl) : DA C X W (a :: es) (fCons fa fes) :=
  PA.imp (pa_cons ha hr hs) fun σ H Q h => by
    refine bindA (k := fun x ρ g1 => (fes ρ g1).bind fun r g2 => .ok (x :: r) g2) h fun ρ ν μ g d v H1 hE hR r hP => ?_
    refine ⟨ρ, ν, μ, g, hE, hR, ?_⟩
    cases hf : fes ρ g with
    | ok ds g2 =>
      simp only [hf, Res.bind] at hP
      exact fun vs H2 μ2 ex R2 r2 => hP (v :: vs) H2 μ2 ex R2 ⟨v, vs, rfl, RepD.mono ex.kp' _ r, r2⟩
    | err c g2 => simp only [hf, Res.bind] at hP; exact hP
    | stuck => simp only [hf, Res.bind] at hP; exact hP
/-- the arguments, then k of them -/
theorem bindDA {K : PySem.W.Frag} {σ : St} {H : Hp} {Q : VK} {k : List D → Env' → G → Res D} {R : List V → Hp → Prop}
    (h : tD C K W (fun ρ g => (fes ρ g).bind fun x g1 => k x ρ g1) σ H Q)
    (hk : ∀ ρ ν μ g ds vs H', RepE K H' ν μ ρ σ → RS C K H' ν μ g → RepL K H' ν μ ds vs → Post C K W σ H' ν μ (k ds ρ g) Q → R vs H') : tA C K W fes σ H R := by
  obtain ⟨ρ, ν, μ, g, hE, hR, hP⟩ := h
  refine ⟨ρ, ν, μ, g, hE, hR, ?_⟩
  cases hf : fes ρ g with
  | ok d g1 =>
    simp only [hf, Res.bind] at hP
    exact fun v H' μ' ex R' r => hk ρ ν μ' g1 d v H' (hE.mono ex.kp') R' r (hP.ext ex)
  | err c g1 => simp only [hf, Res.bind] at hP; exact hP
  | stuck => simp only [hf, Res.bind] at hP; exact hP
def fTup (fes : FA) : FE := fun ρ g => (fes ρ g).bind fun ds g1 => if ds.length ≤ sizeLine then .ok (.tup ds) g1 else .stuck
def fLst (fes : FA) : FE := fun ρ g => (fes ρ g).bind fun ds g1 => if ds.length ≤ sizeLine then .ok (.lst ds) g1 else .stuck
def fMut (fes : FA) : FE := fun ρ g => (fes ρ g).bind fun ds g1 => if ds.length ≤ sizeLine then .ok (.loc g1.length) (g1 ++ [O.lst ds]) else .stuck
theorem dp_tup {x1} (h : DA C X W es fes) : DP C X W (.Tuple es x1 pos) (fTup fes) := PE.imp (pe_tup h) fun σ H Q hq => by
  refine bindDA (k := fun ds _ g1 => if ds.length ≤ sizeLine then .ok (.tup ds) g1 else .stuck) hq fun ρ ν μ g ds vs H1 hE hR r hP => ?_
  split at hP
  · rename_i hl
    exact ⟨by rw [← RepL.length r]; exact hl, rD_tup hR r hP⟩
  · exact hP.elim
theorem dp_lst (h : DA C X W es fes) : DP C X W (.List es pos) (fLst fes) := PE.imp (pe_lst h) fun σ H Q hq => by
  refine bindDA (k := fun ds _ g1 => if ds.length ≤ sizeLine then .ok (.lst ds) g1 else .stuck) hq fun ρ ν μ g ds vs H1 hE hR r hP => ?_
  split at hP
  · rename_i hl
    exact ⟨by rw [← RepL.length r]; exact hl, rD_lst hR r hP⟩
  · exact hP.elim
theorem dp_mut (h : DA C X W es fes) : DP C X W (.List es pos) (fMut fes) := PE.imp (pe_lst h) fun σ H Q hq => by
  refine bindDA (k := fun ds _ g1 => if ds.length ≤ sizeLine then .ok (.loc g1.length) (g1 ++ [O.lst ds]) else .stuck) hq fun ρ ν μ g ds vs H1 hE hR r hP => ?_
  split at hP
  · rename_i hl
    refine ⟨by rw [← RepL.length r]; exact hl, fun p hp => ?_⟩
    obtain ⟨e, R', r'⟩ := new_mut hR hp r
    exact hP _ _ _ e R' r'
  · exact hP.elim
/-! ### items, slices -/
def oIx : F2 := fun x i g => match i with
  | .int k => match x with
    | .str z => if z.length ≤ sizeLine then (match atI z.cps.toList k with
      | some c => .ok (.str ⟨#[c]⟩) g
      | none => .stuck) else .stuck
    | d => match seqOf g d with
      | some ds => match atI ds k with
        | some y => .ok y g
        | none => .stuck
      | none => .stuck
  | _ => .stuck
theorem oIx_n : NoErr oIx := noerr fun x y g c g' e => by unfold oIx at e; (repeat' (split at e)) <;> cases e
theorem atI_rep {K : PySem.W.Frag} {H : Hp} {ν μ : List Addr} {ds : List D} {vs : List V} {k : Int} {d : D} (r : RepL K H ν μ ds vs) (e : atI ds k = some d) : ∃ v, atI vs k = some v ∧ RepD K H ν μ d v := by
  unfold atI at e ⊢
  rw [← RepL.length r]
  cases hj : ixN ds.length k with
  | none => rw [hj] at e; cases e
  | some j =>
    rw [hj] at e
    exact RepL.get r e
theorem oIx_ok : IxR X (rD C X.K oIx) := by
  intro val sli pins s σ H x y v u Q I rx ry h hsb
  obtain ⟨dx, dy, ν, μ, g, R, r1, r2, hP⟩ := h
  have hP := hP (fun _ _ _ _ => False) σ
  unfold oIx at hP
  split at hP
  · obtain rfl : y = .int _ := r2
    split at hP
    · obtain rfl : x = .str _ := r1
      split at hP
      · rename_i hl
        split at hP
        · rename_i c hc
          exact ix_str val sli pins s σ H _ _ v u Q I rx ry ⟨_, _, c, rfl, rfl, hl, hc, hP.here R (rStr _)⟩ hsb
        · exact hP.elim
      · exact hP.elim
    · split at hP
      · rename_i ds e1
        split at hP
        · rename_i d e2
          obtain ⟨a, xs, rfl, h1, h2⟩ := seq_rd R r1 e1
          obtain ⟨w, e3, r3⟩ := atI_rep h2 e2
          rcases h1 with h1 | h1
          · exact ix_list val sli pins s σ H _ _ v u Q I rx ry ⟨a, xs, _, w, rfl, rfl, h1, e3, hP.here R r3⟩ hsb
          · exact ix_tup val sli pins s σ H _ _ v u Q I rx ry ⟨a, xs, _, w, rfl, rfl, h1, e3, hP.here R r3⟩ hsb
        · exact hP.elim
      · exact hP.elim
  · exact hP.elim
theorem dp_ix (ha : DP C X W a fa) (hb : DP C X W b fb) (hs : PlainIx b) : DP C X W (.Subscript a b pos) (fBin oIx fa fb) :=
  PE.imp (pe_ix oIx_ok ha hb hs) fun σ H Q h => tBin oIx_n (fun _ _ _ _ z => z) h

abbrev FO := Env' → G → Res (Option Int)
def fNo : FO := fun _ g => .ok none g
def fSo (f : FE) : FO := fun ρ g => (f ρ g).bind fun x g1 => match x with
  | .int i => .ok (some i) g1
  | _ => .stuck
def PostO (C : Cfg) (K : PySem.W.Frag) (W : WX) (σ : St) (H : Hp) (ν μ : List Addr) (r : Res (Option Int)) (Q : Option Int → Hp → Prop) : Prop := match r with
  | .ok b g' => ∀ H' μ', Ext H μ H' μ' → RS C K H' ν μ' g' → Q b H'
  | .err c g' => ∀ H' μ', Ext H μ H' μ' → RS C K H' ν μ' g' → W (.ref (C.exc c)) none σ H'
  | .stuck => False
def tO (C : Cfg) (K : PySem.W.Frag) (W : WX) (f : FO) : TO := fun σ H Q => ∃ ρ ν μ g, RepE K H ν μ ρ σ ∧ RS C K H ν μ g ∧ PostO C K W σ H ν μ (f ρ g) Q
def DO (C : Cfg) (X : Cx) (W : WX) (e : Option Expr) (f : FO) : Prop := PO X e (tO C X.K W f)
theorem PO.imp {X : Cx} {e : Option Expr} {t t' : TO} (h : PO X e t) (i : ∀ σ H Q, t' σ H Q → t σ H Q) : PO X e t' := ⟨fun pins s σ H Q I q => h.run pins s σ H Q I (i σ H Q q)⟩
theorem do_no : DO C X W none fNo := PO.imp po_none fun σ H Q ⟨ρ, ν, μ, g, hE, hR, hP⟩ => hP H μ .refl hR
theorem do_so (h : DP C X W e f) : DO C X W (some e) (fSo f) := PO.imp (po_some h) fun σ H Q ⟨ρ, ν, μ, g, hE, hR, hP⟩ => by
  refine ⟨ρ, ν, μ, g, hE, hR, ?_⟩
  unfold fSo at hP
  cases hf : f ρ g with
  | ok d g1 =>
    simp only [hf, Res.bind] at hP
    split at hP
    · exact fun v H' μ' ex R' r => ⟨_, r, hP H' μ' ex R'⟩
    · exact hP.elim
  | err c g1 => simp only [hf, Res.bind] at hP; exact hP
  | stuck => simp only [hf, Res.bind] at hP; exact hP
def cutD (xs : List D) (lo hi : Option Int) : List D := (xs.drop (HT.sIx xs.length 0 lo)).take (HT.sIx xs.length xs.length hi - HT.sIx xs.length 0 lo)
def oSl (x : D) (lo hi : Option Int) (g : G) : Res D := match x with
  | .str z => if z.length ≤ sizeLine then .ok (.str (cutS z lo hi)) g else .stuck
  | .tup ds => .ok (.tup (cutD ds lo hi)) g
  | .scr ns => .ok (.lst (cutD (ns.map .int) lo hi)) g
  | d => match lstOf g d with
    | some ds => .ok (.lst (cutD ds lo hi)) g
    | none => .stuck
def fSl (f : FE) (fl fh : FO) : FE := fun ρ g => (f ρ g).bind fun x g1 => (fl ρ g1).bind fun l g2 => (fh ρ g2).bind fun h g3 => oSl x l h g3
theorem cut_rep {K : PySem.W.Frag} {H : Hp} {ν μ : List Addr} {ds : List D} {vs : List V} (lo hi : Option Int) (r : RepL K H ν μ ds vs) : RepL K H ν μ (cutD ds lo hi) (cutV vs lo hi) := by
  unfold cutD cutV
  rw [← RepL.length r]
  exact RepL.take _ (RepL.drop _ r)
def rSl (C : Cfg) (K : PySem.W.Frag) : V → Option Int → Option Int → Hp → VK → Prop := fun x lo hi H Q => ∃ dx ν μ g, RS C K H ν μ g ∧ RepD K H ν μ dx x ∧ ∀ W σ, Post C K W σ H ν μ (oSl dx lo hi g) Q
theorem rSl_ok : SlR X (rSl C X.K) := by
  intro pins s σ H x v vl vu lo hi sl Q I rx hs pl pu h
  obtain ⟨dx, ν, μ, g, R, r1, hP⟩ := h
  have hP := hP (fun _ _ _ _ => False) σ
  unfold oSl at hP
  split at hP
  · obtain rfl : x = .str _ := r1
    split at hP
    · rename_i hl
      exact sl_str pins s σ H _ v vl vu lo hi sl Q I rx hs pl pu ⟨_, rfl, hl, hP.here R (rStr _)⟩
    · exact hP.elim
  · unfold RepD at r1
    obtain ⟨a, xs, rfl, h1, h2⟩ := r1
    refine sl_tupA pins s σ H _ v vl vu lo hi sl Q I rx hs pl pu ⟨a, xs, rfl, h1, fun z => ?_, fun _ => rD_tup R (cut_rep lo hi h2) hP⟩
    have e : cutV xs lo hi = xs := by
      unfold cutV
      rw [z.1, z.2, List.drop_zero, Nat.sub_zero, List.take_length]
    have h3 := cut_rep lo hi h2
    rw [e] at h3
    exact hP.here R (rTup h1 h3)
  · unfold RepD at r1
    obtain ⟨a, rfl, h⟩ := r1
    refine sl_list pins s σ H _ v vl vu lo hi sl Q I rx hs pl pu ⟨a, _, rfl, ?_, rD_lst R (cut_rep lo hi (repL_ints _)) hP⟩
    rcases h with ⟨o, h, _⟩ | h
    · exact .inl (.inr ⟨o, h⟩)
    · rcases h with h | h
      · rcases h with h | ⟨o, h⟩ <;> cases h
      · exact .inr h
  · split at hP
    · rename_i ds e
      obtain ⟨a, xs, rfl, h1, h2⟩ := lst_rd R r1 e
      exact sl_list pins s σ H _ v vl vu lo hi sl Q I rx hs pl pu ⟨a, xs, rfl, SqL.of h1, rD_lst R (cut_rep lo hi h2) hP⟩
    · exact hP.elim
theorem dp_sl {lo hi : Option Expr} {fl fh : FO} {p2 : Pos} (ha : DP C X W a fa) (hl : DO C X W lo fl) (hh : DO C X W hi fh) : DP C X W (.Subscript a (.Slice lo hi none p2) pos) (fSl fa fl fh) :=
  PE.imp (pe_slice rSl_ok ha hl hh) fun σ H Q h => by
    refine bindD (k := fun x ρ g1 => (fl ρ g1).bind fun l g2 => (fh ρ g2).bind fun h g3 => oSl x l h g3) h fun ρ ν μ g dx x H1 hE hR rx hP => ?_
    refine ⟨ρ, ν, μ, g, hE, hR, ?_⟩
    cases hf : fl ρ g with
    | ok l g2 =>
      simp only [hf, Res.bind] at hP
      intro H2 μ2 ex R2
      refine ⟨ρ, ν, μ2, g2, hE.mono ex.kp', R2, ?_⟩
      have hP := hP.ext ex
      have rx := RepD.mono ex.kp' _ rx
      cases hf : fh ρ g2 with
      | ok h g3 =>
        simp only [hf] at hP
        intro H3 μ3 ex3 R3
        refine ⟨dx, ν, μ3, g3, R3, RepD.mono ex3.kp' _ rx, fun W' σ' => ?_⟩
        refine post_any (fun c g' e => ?_) (hP.ext ex3) W' σ'
        unfold oSl at e
        (repeat' (split at e)) <;> cases e
      | err c g2 => simp only [hf] at hP; exact hP
      | stuck => simp only [hf] at hP; exact hP
    | err c g2 => simp only [hf, Res.bind] at hP; exact hP
    | stuck => simp only [hf, Res.bind] at hP; exact hP

/-! ### tests -/
theorem bindT {K : PySem.W.Frag} {σ : St} {H : Hp} {Q : Bool → Hp → Prop} {k : D → Env' → G → Res Bool} {R : V → Hp → Prop}
    (h : tT C K W (fun ρ g => (f ρ g).bind fun x g1 => k x ρ g1) σ H Q)
    (hk : ∀ ρ ν μ g d v H', RepE K H' ν μ ρ σ → RS C K H' ν μ g → RepD K H' ν μ d v → PostB C K W σ H' ν μ (k d ρ g) Q → R v H') : tD C K W f σ H R := by
  obtain ⟨ρ, ν, μ, g, hE, hR, hP⟩ := h
  refine ⟨ρ, ν, μ, g, hE, hR, ?_⟩
  cases hf : f ρ g with
  | ok d g1 =>
    simp only [hf, Res.bind] at hP
    exact fun v H' μ' ex R' r => hk ρ ν μ' g1 d v H' (hE.mono ex.kp') R' r (hP.ext ex)
  | err c g1 => simp only [hf, Res.bind] at hP; exact hP
  | stuck => simp only [hf, Res.bind] at hP; exact hP
theorem bindTB {K : PySem.W.Frag} {σ : St} {H : Hp} {Q : VK} {k : Bool → Env' → G → Res D} {R : Bool → Hp → Prop}
    (h : tD C K W (fun ρ g => (ft ρ g).bind fun x g1 => k x ρ g1) σ H Q)
    (hk : ∀ ρ ν μ g b H', RepE K H' ν μ ρ σ → RS C K H' ν μ g → Post C K W σ H' ν μ (k b ρ g) Q → R b H') : tT C K W ft σ H R := by
  obtain ⟨ρ, ν, μ, g, hE, hR, hP⟩ := h
  refine ⟨ρ, ν, μ, g, hE, hR, ?_⟩
  cases hf : ft ρ g with
  | ok d g1 =>
    simp only [hf, Res.bind] at hP
    exact fun H' μ' ex R' => hk ρ ν μ' g1 d H' (hE.mono ex.kp') R' (hP.ext ex)
  | err c g1 => simp only [hf, Res.bind] at hP; exact hP
  | stuck => simp only [hf, Res.bind] at hP; exact hP
theorem bindTT {K : PySem.W.Frag} {σ : St} {H : Hp} {Q : Bool → Hp → Prop} {k : Bool → Env' → G → Res Bool} {R : Bool → Hp → Prop}
    (h : tT C K W (fun ρ g => (ft ρ g).bind fun x g1 => k x ρ g1) σ H Q)
    (hk : ∀ ρ ν μ g b H', RepE K H' ν μ ρ σ → RS C K H' ν μ g → PostB C K W σ H' ν μ (k b ρ g) Q → R b H') : tT C K W ft σ H R := by
  obtain ⟨ρ, ν, μ, g, hE, hR, hP⟩ := h
  refine ⟨ρ, ν, μ, g, hE, hR, ?_⟩
  cases hf : ft ρ g with
  | ok d g1 =>
    simp only [hf, Res.bind] at hP
    exact fun H' μ' ex R' => hk ρ ν μ' g1 d H' (hE.mono ex.kp') R' (hP.ext ex)
  | err c g1 => simp only [hf, Res.bind] at hP; exact hP
  | stuck => simp only [hf, Res.bind] at hP; exact hP
/-- a value's truth -/
def tru (g : G) : D → Option Bool
  | .non => some false
  | .bl b => some b
  | .int i => some (i != 0)
  | .str z => if z.length ≤ sizeLine then some ((z.length : Int) != 0) else none
  | .tup ds => some (!ds.isEmpty)
  | .loc n => match g[n]? with
    | some (.lst ds) => some (!ds.isEmpty)
    | some (.dic kvs) => some (!kvs.isEmpty)
    | _ => none
  | .lst ds => some (!ds.isEmpty)
  | .scr ns => some (!ns.isEmpty)
theorem RepL.empty {K : PySem.W.Frag} {H : Hp} {ν μ : List Addr} {ds : List D} {vs : List V} (r : RepL K H ν μ ds vs) : ds.isEmpty = vs.isEmpty := by
  have := RepL.length r
  cases ds <;> cases vs <;> simp_all
theorem RepKV.empty {κ : Type} {K : PySem.W.Frag} {H : Hp} {ν μ : List Addr} {ds : List (κ × D)} {vs : List (κ × V)} (r : RepKV K H ν μ ds vs) : ds.isEmpty = vs.isEmpty := by
  cases ds with
  | nil => unfold RepKV at r; subst r; rfl
  | cons p q =>
    obtain ⟨k, d⟩ := p
    unfold RepKV at r
    obtain ⟨v, r', rfl, _⟩ := r
    rfl
theorem tru_rd {K : PySem.W.Frag} {H : Hp} {ν μ : List Addr} {g : G} {d : D} {v : V} {b : Bool} (R : RS C K H ν μ g) (r : RepD K H ν μ d v) (e : tru g d = some b) : TruV K v H b := by
  unfold tru at e
  split at e
  · cases e; obtain rfl : v = .non := r; rfl
  · cases e; obtain rfl : v = .bl _ := r; rfl
  · cases e; obtain rfl : v = .int _ := r; rfl
  · split at e
    · rename_i hl
      cases e; obtain rfl : v = .str _ := r; exact ⟨hl, rfl⟩
    · cases e
  · cases e
    unfold RepD at r
    obtain ⟨a, xs, rfl, h1, h2⟩ := r
    exact .inr (.inl ⟨xs, h1, by rw [RepL.empty h2]⟩)
  · unfold RepD at r
    obtain ⟨a, rfl, h⟩ := r
    split at e
    · rename_i ds hg
      cases e
      obtain ⟨xs, h1, h2⟩ := R.ob _ _ a hg h
      exact .inl ⟨xs, SqL.of h1, by rw [RepL.empty h2]⟩
    · rename_i ds hg
      cases e
      obtain ⟨xs, h1, h2⟩ := R.ob _ _ a hg h
      exact .inr (.inr ⟨xs, h1, by rw [RepKV.empty h2]⟩)
    · cases e
  · cases e
    unfold RepD at r
    obtain ⟨a, xs, rfl, h1, _, _, h2⟩ := r
    exact .inl ⟨xs, SqL.of h1, by rw [RepL.empty h2]⟩
  · rename_i ns
    cases e
    unfold RepD at r
    obtain ⟨a, rfl, h⟩ := r
    refine .inl ⟨ns.map V.int, ?_, by simp⟩
    rcases h with ⟨o, h, _⟩ | h
    · exact .inl (.inr ⟨o, h⟩)
    · rcases h with h | h
      · rcases h with h | ⟨o, h⟩ <;> cases h
      · exact .inr h
def fTru (f : FE) : FT := fun ρ g => (f ρ g).bind fun x g1 => match tru g1 x with
  | some b => .ok b g1
  | none => .stuck
theorem dt_tru (h : DP C X W e f) (he : ∀ whole, isTrue e X.env whole = (do let v ← whole; standAt e.pos; holding [v] (truthy v)) := by intro _; rfl) : DT C X W e (fTru f) :=
  PT.imp (pt_truth h he) fun σ H Q hq => by
    refine bindT (k := fun x _ g1 => match tru g1 x with
      | some b => .ok b g1
      | none => .stuck) hq fun ρ ν μ g d v H1 hE hR r hP => ?_
    split at hP
    · rename_i b hb
      exact ⟨b, tru_rd hR r hb, hP H1 μ .refl hR⟩
    · exact hP.elim
/-- a comparison as a test -/
def fB (f : FE) : FT := fun ρ g => (f ρ g).bind fun x g1 => match x with
  | .bl b => .ok b g1
  | _ => .stuck
theorem dt_of {t : TE} (h : PT X e (tTest t)) (ht : ∀ σ H Q, tD C X.K W f σ H Q → t σ H Q) : DT C X W e (fB f) :=
  PT.imp h fun σ H Q hq => by
    refine ht σ H _ (bindT (k := fun x _ g1 => match x with
      | .bl b => .ok b g1
      | _ => .stuck) hq fun ρ ν μ g d v H1 hE hR r hP => ?_)
    split at hP
    · exact ⟨_, r, hP H1 μ .refl hR⟩
    · exact hP.elim
theorem dt_cmp {op : CmpOp} {o : F2} (no : NoErr o) (ho : OpR X (compareOp op) (rD C X.K o)) (ha : DP C X W a fa) (hb : DP C X W b fb) (hm : behindInMarks op b = false) : DT C X W (.Compare a [op] [b] pos) (fB (fBin o fa fb)) :=
  dt_of (pt_cmpR ho ha hb hm) fun σ H Q h => tBin no (fun _ _ _ _ z => z) h
def fNot (ft : FT) : FT := fun ρ g => (ft ρ g).bind fun b g1 => .ok (!b) g1
theorem dt_not (h : DT C X W a ft) : DT C X W (.UnaryOp .Not a pos) (fNot ft) := PT.imp (pt_not h) fun σ H Q hq =>
  bindTT (k := fun b _ g1 => .ok (!b) g1) hq fun ρ ν μ g b H1 hE hR hP => hP H1 μ .refl hR
def DW (C : Cfg) (X : Cx) (W : WX) (e : Expr) (f : FT) : Prop := PW X e (tT C X.K W f)
theorem PW.imp {X : Cx} {e : Expr} {t t' : TT} (h : PW X e t) (i : ∀ σ H Q, t' σ H Q → t σ H Q) : PW X e t' := ⟨fun wh pins s σ H Q I q => h.run wh pins s σ H Q I (i σ H Q q)⟩
def fAnd (fa fb : FT) : FT := fun ρ g => (fa ρ g).bind fun b g1 => if b then fb ρ g1 else .ok false g1
def fOr (fa fb : FT) : FT := fun ρ g => (fa ρ g).bind fun b g1 => if b then .ok true g1 else fb ρ g1
theorem dw_and1 (h : DT C X W a ft) : DW C X W (.BoolOp .And [a] pos) ft := pw_and1 h
theorem dw_or1 (h : DT C X W a ft) : DW C X W (.BoolOp .Or [a] pos) ft := pw_or1 h
theorem dw_and {fta ftb : FT} (ha : DT C X W a fta) (hb : DW C X W (.BoolOp .And (b :: rest) pos) ftb) : DW C X W (.BoolOp .And (a :: b :: rest) pos) (fAnd fta ftb) :=
  PW.imp (pw_and ha hb) fun σ H Q hq => bindTT (k := fun b ρ g1 => if b then ftb ρ g1 else .ok false g1) hq fun ρ ν μ g b H1 hE hR hP => by
    cases b with
    | true => exact ⟨ρ, ν, μ, g, hE, hR, hP⟩
    | false => exact hP H1 μ .refl hR
theorem dw_or {fta ftb : FT} (ha : DT C X W a fta) (hb : DW C X W (.BoolOp .Or (b :: rest) pos) ftb) : DW C X W (.BoolOp .Or (a :: b :: rest) pos) (fOr fta ftb) :=
  PW.imp (pw_or ha hb) fun σ H Q hq => bindTT (k := fun b ρ g1 => if b then .ok true g1 else ftb ρ g1) hq fun ρ ν μ g b H1 hE hR hP => by
    cases b with
    | true => exact hP H1 μ .refl hR
    | false => exact ⟨ρ, ν, μ, g, hE, hR, hP⟩
theorem dt_w (h : DW C X W e ft) : DT C X W e ft := PW.pt h
/-- a if t else b -/
def fIf (ft : FT) (fa fb : FE) : FE := fun ρ g => (ft ρ g).bind fun c g1 => if c then fa ρ g1 else fb ρ g1
theorem dp_if (hc : DT C X W c ft) (ha : DP C X W a fa) (hb : DP C X W b fb) : DP C X W (.IfExp c a b pos) (fIf ft fa fb) :=
  PE.imp (pe_ifExp hc ha hb) fun σ H Q hq => bindTB (k := fun c ρ g1 => if c then fa ρ g1 else fb ρ g1) hq fun ρ ν μ g b H1 hE hR hP => by
    cases b with
    | true => exact ⟨ρ, ν, μ, g, hE, hR, hP⟩
    | false => exact ⟨ρ, ν, μ, g, hE, hR, hP⟩
/-- and, or, not as values -/
def fAndV (fa fb : FE) : FE := fun ρ g => (fa ρ g).bind fun x g1 => match tru g1 x with
  | some true => fb ρ g1
  | some false => .ok x g1
  | none => .stuck
def fOrV (fa fb : FE) : FE := fun ρ g => (fa ρ g).bind fun x g1 => match tru g1 x with
  | some true => .ok x g1
  | some false => fb ρ g1
  | none => .stuck
def fNotV (fa : FE) : FE := fun ρ g => (fa ρ g).bind fun x g1 => match tru g1 x with
  | some b => .ok (.bl (!b)) g1
  | none => .stuck
theorem dp_one {op} (h : DP C X W a fa) : DP C X W (.BoolOp op [a] pos) fa := pe_one h
theorem dp_and (ha : DP C X W a fa) (hb : DP C X W (.BoolOp .And (b :: rest) pos) fb) : DP C X W (.BoolOp .And (a :: b :: rest) pos) (fAndV fa fb) :=
  PE.imp (pe_andT ha hb) fun σ H Q hq => bindD (k := fun x ρ g1 => match tru g1 x with
  | some true => fb ρ g1
  | some false => .ok x g1
  | none => .stuck) hq fun ρ ν μ g d v H1 hE hR r hP => by
    split at hP
    · rename_i ht
      exact ⟨true, tru_rd hR r ht, by rw [if_pos rfl]; exact ⟨ρ, ν, μ, g, hE, hR, hP⟩⟩
    · rename_i ht
      exact ⟨false, tru_rd hR r ht, by rw [if_neg (by decide)]; exact hP.here hR r⟩
    · exact hP.elim
theorem dp_or (ha : DP C X W a fa) (hb : DP C X W (.BoolOp .Or (b :: rest) pos) fb) : DP C X W (.BoolOp .Or (a :: b :: rest) pos) (fOrV fa fb) :=
  PE.imp (pe_orT ha hb) fun σ H Q hq => bindD (k := fun x ρ g1 => match tru g1 x with
  | some true => .ok x g1
  | some false => fb ρ g1
  | none => .stuck) hq fun ρ ν μ g d v H1 hE hR r hP => by
    split at hP
    · rename_i ht
      exact ⟨true, tru_rd hR r ht, by rw [if_pos rfl]; exact hP.here hR r⟩
    · rename_i ht
      exact ⟨false, tru_rd hR r ht, by rw [if_neg (by decide)]; exact ⟨ρ, ν, μ, g, hE, hR, hP⟩⟩
    · exact hP.elim
theorem dp_not (ha : DP C X W a fa) : DP C X W (.UnaryOp .Not a pos) (fNotV fa) :=
  PE.imp (pe_notT ha) fun σ H Q hq => bindD (k := fun x _ g1 => match tru g1 x with
  | some b => .ok (.bl (!b)) g1
  | none => .stuck) hq fun ρ ν μ g d v H1 hE hR r hP => by
    split at hP
    · rename_i b ht
      exact ⟨b, tru_rd hR r ht, hP.here hR (rBl _)⟩
    · exact hP.elim
/-- a < b < c -/
def fCh (o o' : F2) (fa fb fc : FE) : FE := fun ρ g => (fa ρ g).bind fun x g1 => (fb ρ g1).bind fun y g2 => (o x y g2).bind fun z g3 => match z with
  | .bl true => (fc ρ g3).bind fun w g4 => o' y w g4
  | .bl false => .ok (.bl false) g3
  | _ => .stuck
theorem tCh {K : PySem.W.Frag} {o o' : F2} (no : NoErr o) (no' : NoErr o') {σ : St} {H : Hp} {Q : VK} (h : tD C K W (fCh o o' fa fb fc) σ H Q) : tChain (rD C K o) (rD C K o') (tD C K W fa) (tD C K W fb) (tD C K W fc) σ H Q := by
  refine bindD (k := fun x ρ g1 => (fb ρ g1).bind fun y g2 => (o x y g2).bind fun z g3 => match z with
  | .bl true => (fc ρ g3).bind fun w g4 => o' y w g4
  | .bl false => .ok (.bl false) g3
  | _ => .stuck) h fun ρ ν μ g dx x H1 hE hR rx hP => ?_
  refine ⟨ρ, ν, μ, g, hE, hR, ?_⟩
  cases hf : fb ρ g with
  | err c g2 => simp only [hf, Res.bind] at hP; exact hP
  | stuck => simp only [hf, Res.bind] at hP; exact hP
  | ok dy g2 =>
    simp only [hf, Res.bind] at hP
    intro y H2 μ2 ex R2 ry
    refine ⟨dx, dy, ν, μ2, g2, R2, RepD.mono ex.kp' _ rx, ry, fun W' σ' => ?_⟩
    have hP := hP.ext ex
    cases ho : o dx dy g2 with
    | err c g3 => exact absurd ho (no _ _ _ _ _)
    | stuck => simp only [ho] at hP; exact hP
    | ok z g3 =>
      simp only [ho] at hP
      intro zv H3 μ3 ex3 R3 rz
      have hP := hP.ext ex3
      split at hP
      · refine ⟨true, rz, ?_⟩
        rw [if_pos rfl]
        have hE3 := hE.mono (ex.trans ex3).kp'
        refine ⟨ρ, ν, μ3, g3, hE3, R3, ?_⟩
        cases hc : fc ρ g3 with
        | err c g4 => simp only [hc] at hP; exact hP
        | stuck => simp only [hc] at hP; exact hP
        | ok w g4 =>
          simp only [hc] at hP
          intro wv H4 μ4 ex4 R4 rw4
          exact ⟨dy, w, ν, μ4, g4, R4, RepD.mono (ex3.trans ex4).kp' _ ry, rw4, fun W2 σ2 => post_any (fun _ _ => no' _ _ _ _ _) (hP.ext ex4) W2 σ2⟩
      · refine ⟨false, rz, ?_⟩
        rw [if_neg (by decide)]
        exact hP.here R3 (rBl _)
      · exact hP.elim
theorem dp_ch {op op' : CmpOp} {o o' : F2} (no : NoErr o) (no' : NoErr o') (ho : OpR X (compareOp op) (rD C X.K o)) (ho' : OpR X (compareOp op') (rD C X.K o')) (ha : DP C X W a fa) (hb : DP C X W b fb) (hc : DP C X W c fc)
    (hm : lastMarks [op, op'] [b, c] = false := by with_unfolding_all rfl) : DP C X W (.Compare a [op, op'] [b, c] pos) (fCh o o' fa fb fc) :=
  PE.imp (pe_chain ho ho' ha hb hc hm) fun σ H Q h => tCh no no' h
theorem dt_ch {op op' : CmpOp} {o o' : F2} (no : NoErr o) (no' : NoErr o') (ho : OpR X (compareOp op) (rD C X.K o)) (ho' : OpR X (compareOp op') (rD C X.K o')) (ha : DP C X W a fa) (hb : DP C X W b fb) (hc : DP C X W c fc)
    (hm : lastMarks [op, op'] [b, c] = false := by with_unfolding_all rfl) : DT C X W (.Compare a [op, op'] [b, c] pos) (fB (fCh o o' fa fb fc)) :=
  dt_of (pt_chain ho ho' ha hb hc hm) fun σ H Q h => tCh no no' h
/-- -a -/
def fNeg (fa : FE) : FE := fun ρ g => (fa ρ g).bind fun x g1 => match x with
  | .int i => .ok (.int (-i)) g1
  | _ => .stuck
theorem dp_neg (ha : DP C X W a fa) : DP C X W (.UnaryOp .USub a pos) (fNeg fa) :=
  PE.imp (pe_un un_neg ha) fun σ H Q hq => bindD (k := fun x _ g1 => match x with
  | .int i => .ok (.int (-i)) g1
  | _ => .stuck) hq fun ρ ν μ g d v H1 hE hR r hP => by
    split at hP
    · obtain rfl : v = .int _ := r
      exact ⟨_, rfl, hP.here hR (rInt _)⟩
    · exact hP.elim
end
end Dl
end
section
set_option Elab.async false
set_option linter.all false
set_option maxRecDepth 100000
namespace Dl
open PySem L2
inductive RSt where
  | nx (ρ : Env') (g : G) | rt (d : D) (g : G) | bk (ρ : Env') (g : G) | ct (ρ : Env') (g : G) | err (c : Nat) (ρ : Env') (g : G) | stuck
abbrev FS := Env' → G → RSt
def Res.toS {α : Type} (r : Res α) (ρ : Env') (k : α → G → RSt) : RSt := match r with
  | .ok a g => k a g
  | .err c g => .err c ρ g
  | .stuck => .stuck
section
variable {C : Cfg} {K : PySem.W.Frag} {H H' H'' : Hp} {ν ν' μ μ' μ'' : List Addr} {g g' : G}
def PostS (C : Cfg) (K : PySem.W.Frag) (W : WX) (H : Hp) (ν μ : List Addr) (r : RSt) (E : Ends) : Prop := match r with
  | .nx ρ g' => ∀ σ' H' μ', Ext H μ H' μ' → RS C K H' ν μ' g' → RepE K H' ν μ' ρ σ' → E.nx σ' H'
  | .rt d g' => ∀ v H' μ', Ext H μ H' μ' → RS C K H' ν μ' g' → RepD K H' ν μ' d v → E.rt v H'
  | .bk ρ g' => ∀ σ' H' μ', Ext H μ H' μ' → RS C K H' ν μ' g' → RepE K H' ν μ' ρ σ' → E.bk σ' H'
  | .ct ρ g' => ∀ σ' H' μ', Ext H μ H' μ' → RS C K H' ν μ' g' → RepE K H' ν μ' ρ σ' → E.ct σ' H'
  | .err c ρ g' => ∀ σ' H' μ', Ext H μ H' μ' → RS C K H' ν μ' g' → RepE K H' ν μ' ρ σ' → W (.ref (C.exc c)) none σ' H'
  | .stuck => False
theorem PostS.ext {W : WX} {r : RSt} {E : Ends} (e : Ext H μ H' μ') (h : PostS C K W H ν μ r E) : PostS C K W H' ν μ' r E := by
  cases r with
  | nx ρ g' => exact fun σ2 H2 μ2 e2 => h σ2 H2 μ2 (e.trans e2)
  | rt d g' => exact fun v H2 μ2 e2 => h v H2 μ2 (e.trans e2)
  | bk ρ g' => exact fun σ2 H2 μ2 e2 => h σ2 H2 μ2 (e.trans e2)
  | ct ρ g' => exact fun σ2 H2 μ2 e2 => h σ2 H2 μ2 (e.trans e2)
  | err c ρ g' => exact fun σ2 H2 μ2 e2 => h σ2 H2 μ2 (e.trans e2)
  | stuck => exact h
def tS (C : Cfg) (K : PySem.W.Frag) (W : WX) (f : FS) : TS := fun E σ H => ∃ ρ ν μ g, RepE K H ν μ ρ σ ∧ RS C K H ν μ g ∧ PostS C K W H ν μ (f ρ g) E
end
def DS (C : Cfg) (X : Cx) (W : WX) (s : Stmt) (f : FS) : Prop := PS X s (tS C X.K W f)
def DB (C : Cfg) (X : Cx) (W : WX) (s : List Stmt) (f : FS) : Prop := PSs X s (tS C X.K W f)
theorem PS.imp {X : Cx} {e : Stmt} {t t' : TS} (h : PS X e t) (i : ∀ E σ H, t' E σ H → t E σ H) : PS X e t' := ⟨fun pins s σ H E I q => h.run pins s σ H E I (i E σ H q)⟩
theorem PSs.imp {X : Cx} {e : List Stmt} {t t' : TS} (h : PSs X e t) (i : ∀ E σ H, t' E σ H → t E σ H) : PSs X e t' := ⟨fun pins s σ H E I q => h.run pins s σ H E I (i E σ H q)⟩
section
variable {C : Cfg} {X : Cx} {W : WX} {e a b c o : Expr} {es rest : List Expr} {f fa fb fc : FE} {fes : FA} {ft : FT} {pos : Pos} {st : Stmt} {sts : List Stmt} {fs fs' : FS}
/-- an expression's value, then k of it -/
theorem bindS {K : PySem.W.Frag} {σ : St} {H : Hp} {E : Ends} {k : D → Env' → G → RSt} {R : V → Hp → Prop}
    (h : tS C K W (fun ρ g => (f ρ g).toS ρ fun x g1 => k x ρ g1) E σ H)
    (hk : ∀ ρ ν μ g d v H', RepE K H' ν μ ρ σ → RS C K H' ν μ g → RepD K H' ν μ d v → PostS C K W H' ν μ (k d ρ g) E → R v H') : tD C K W f σ H R := by
  obtain ⟨ρ, ν, μ, g, hE, hR, hP⟩ := h
  refine ⟨ρ, ν, μ, g, hE, hR, ?_⟩
  cases hf : f ρ g with
  | ok d g1 =>
    simp only [hf, Res.toS] at hP
    exact fun v H' μ' ex R' r => hk ρ ν μ' g1 d v H' (hE.mono ex.kp') R' r (hP.ext ex)
  | err c g1 =>
    simp only [hf, Res.toS] at hP
    exact fun H' μ' ex R' => hP σ H' μ' ex R' (hE.mono ex.kp')
  | stuck => simp only [hf, Res.toS] at hP; exact hP
theorem bindSA {K : PySem.W.Frag} {σ : St} {H : Hp} {E : Ends} {k : List D → Env' → G → RSt} {R : List V → Hp → Prop}
    (h : tS C K W (fun ρ g => (fes ρ g).toS ρ fun x g1 => k x ρ g1) E σ H)
    (hk : ∀ ρ ν μ g d v H', RepE K H' ν μ ρ σ → RS C K H' ν μ g → RepL K H' ν μ d v → PostS C K W H' ν μ (k d ρ g) E → R v H') : tA C K W fes σ H R := by
  obtain ⟨ρ, ν, μ, g, hE, hR, hP⟩ := h
  refine ⟨ρ, ν, μ, g, hE, hR, ?_⟩
  cases hf : fes ρ g with
  | ok d g1 =>
    simp only [hf, Res.toS] at hP
    exact fun v H' μ' ex R' r => hk ρ ν μ' g1 d v H' (hE.mono ex.kp') R' r (hP.ext ex)
  | err c g1 =>
    simp only [hf, Res.toS] at hP
    exact fun H' μ' ex R' => hP σ H' μ' ex R' (hE.mono ex.kp')
  | stuck => simp only [hf, Res.toS] at hP; exact hP
theorem bindST {K : PySem.W.Frag} {σ : St} {H : Hp} {E : Ends} {k : Bool → Env' → G → RSt} {R : Bool → Hp → Prop}
    (h : tS C K W (fun ρ g => (ft ρ g).toS ρ fun x g1 => k x ρ g1) E σ H)
    (hk : ∀ ρ ν μ g d H', RepE K H' ν μ ρ σ → RS C K H' ν μ g → PostS C K W H' ν μ (k d ρ g) E → R d H') : tT C K W ft σ H R := by
  obtain ⟨ρ, ν, μ, g, hE, hR, hP⟩ := h
  refine ⟨ρ, ν, μ, g, hE, hR, ?_⟩
  cases hf : ft ρ g with
  | ok d g1 =>
    simp only [hf, Res.toS] at hP
    exact fun H' μ' ex R' => hk ρ ν μ' g1 d H' (hE.mono ex.kp') R' (hP.ext ex)
  | err c g1 =>
    simp only [hf, Res.toS] at hP
    exact fun H' μ' ex R' => hP σ H' μ' ex R' (hE.mono ex.kp')
  | stuck => simp only [hf, Res.toS] at hP; exact hP
/-! ### blocks, small statements -/
def sNil : FS := fun ρ g => .nx ρ g
def sSeq (f1 f2 : FS) : FS := fun ρ g => match f1 ρ g with
  | .nx ρ1 g1 => f2 ρ1 g1
  | r => r
theorem db_nil : DB C X W [] sNil := PSs.imp pss_nil fun E σ H ⟨ρ, ν, μ, g, hE, hR, hP⟩ => hP σ H μ .refl hR hE
theorem db_cons (h1 : DS C X W st fs) (h2 : DB C X W sts fs') : DB C X W (st :: sts) (sSeq fs fs') := PSs.imp (pss_cons h1 h2) fun E σ H ⟨ρ, ν, μ, g, hE, hR, hP⟩ => by
  refine ⟨ρ, ν, μ, g, hE, hR, ?_⟩
  unfold sSeq at hP
  cases hf : fs ρ g with
  | nx ρ1 g1 =>
    simp only [hf] at hP
    exact fun σ' H' μ' ex R' hE' => ⟨ρ1, ν, μ', g1, hE', R', hP.ext ex⟩
  | rt d g1 => simp only [hf] at hP; exact hP
  | bk ρ1 g1 => simp only [hf] at hP; exact hP
  | ct ρ1 g1 => simp only [hf] at hP; exact hP
  | err c ρ1 g1 => simp only [hf] at hP; exact hP
  | stuck => simp only [hf] at hP; exact hP
theorem db_one (h1 : DS C X W st fs) : DB C X W [st] fs := pss_one h1
theorem ds_pass : DS C X W (.Pass pos) sNil := PS.imp ps_pass fun E σ H ⟨ρ, ν, μ, g, hE, hR, hP⟩ => hP σ H μ .refl hR hE
def sBk : FS := fun ρ g => .bk ρ g
def sCt : FS := fun ρ g => .ct ρ g
theorem ds_break : DS C X W (.Break pos) sBk := PS.imp ps_break fun E σ H ⟨ρ, ν, μ, g, hE, hR, hP⟩ => hP σ H μ .refl hR hE
theorem ds_continue : DS C X W (.Continue pos) sCt := PS.imp ps_continue fun E σ H ⟨ρ, ν, μ, g, hE, hR, hP⟩ => hP σ H μ .refl hR hE
def sEx (f : FE) : FS := fun ρ g => (f ρ g).toS ρ fun _ g1 => .nx ρ g1
theorem ds_expr (h : DP C X W e f) (hs : swapsWith e none pos.line X.env = pure false := by rfl) : DS C X W (.Expr e pos) (sEx f) := PS.imp (ps_expr h hs) fun E σ H hq =>
  bindS (k := fun _ ρ g1 => .nx ρ g1) hq fun ρ ν μ g d v H1 hE hR r hP => hP σ H1 μ .refl hR hE
def sRt (f : FE) : FS := fun ρ g => (f ρ g).toS ρ fun d g1 => .rt d g1
theorem ds_ret (h : DP C X W e f) : DS C X W (.Return (some e) pos) (sRt f) := PS.imp (ps_ret h) fun E σ H hq =>
  bindS (k := fun d _ g1 => .rt d g1) hq fun ρ ν μ g d v H1 hE hR r hP => hP v H1 μ .refl hR r
def sRtN : FS := fun _ g => .rt .non g
theorem ds_retN : DS C X W (.Return none pos) sRtN := PS.imp ps_retN fun E σ H ⟨ρ, ν, μ, g, hE, hR, hP⟩ => hP .non H μ .refl hR rNon
def sIf (ft : FT) (f1 f2 : FS) : FS := fun ρ g => (ft ρ g).toS ρ fun b g1 => if b then f1 ρ g1 else f2 ρ g1
theorem ds_if {sa sb : List Stmt} (hc : DT C X W c ft) (ha : DB C X W sa fs) (hb : DB C X W sb fs') : DS C X W (.If c sa sb pos) (sIf ft fs fs') := PS.imp (ps_if hc ha hb) fun E σ H hq =>
  bindST (k := fun b ρ g1 => if b then fs ρ g1 else fs' ρ g1) hq fun ρ ν μ g b H1 hE hR hP => by
    cases b with
    | true => exact ⟨ρ, ν, μ, g, hE, hR, hP⟩
    | false => exact ⟨ρ, ν, μ, g, hE, hR, hP⟩
def sErr (c : Nat) : FS := fun ρ g => .err c ρ g
/-- raise X('m') -/
theorem ds_raise {n : Nat} (hc : X.calm = true) (tk : Takes X W) (he : PMk X e (fun _ H Q => Q (.ref (C.exc n)) none H)) : DS C X W (.Raise (some e) none pos) (sErr n) := PS.imp (ps_raise hc tk he) fun E σ H ⟨ρ, ν, μ, g, hE, hR, hP⟩ => hP σ H μ .refl hR hE

/-! ### targets -/
abbrev FG := D → Env' → G → Res Env'
def tGt (C : Cfg) (K : PySem.W.Frag) (W : WX) (ts : List Nat) (f : FG) : TG := fun v σ H Q => ∃ d ρ ν μ g, RepE K H ν μ ρ σ ∧ RS C K H ν μ g ∧ RepD K H ν μ d v ∧ (match f d ρ g with
  | .ok ρ' g' => ∀ σ' H' μ', Ext H μ H' μ' → RS C K H' ν μ' g' → RepE K H' ν μ' ρ' σ' → (∀ vs : List Nat, (∀ i ∈ ts, i ∈ vs) → wipe σ' vs = wipe σ vs) → Q σ' H'
  | .err c g' => ∀ H' μ', Ext H μ H' μ' → RS C K H' ν μ' g' → W (.ref (C.exc c)) none σ H'
  | .stuck => False)
def DG (C : Cfg) (X : Cx) (W : WX) (tg : Expr) (ts : List Nat) (f : FG) : Prop := PG X tg (tGt C X.K W ts f)
theorem PG.imp {X : Cx} {e : Expr} {t t' : TG} (h : PG X e t) (i : ∀ v σ H Q, t' v σ H Q → t v σ H Q) : PG X e t' := ⟨fun pins s σ H v u Q I r q => h.run pins s σ H v u Q I r (i v σ H Q q)⟩
theorem wipe_set {σ : St} {x : Option V} {i : Nat} : ∀ {vs : List Nat}, i ∈ vs → wipe (σ.set i x) vs = wipe σ vs
  | [], h => by cases h
  | v :: vs, h => by
    show (wipe (σ.set i x) vs).set v none = (wipe σ vs).set v none
    by_cases hm : i ∈ vs
    · rw [wipe_set hm]
    · have hv : i = v := by
        rcases List.mem_cons.mp h with z | z
        · exact z
        · exact absurd z hm
      subst hv
      have comm : ∀ (vs : List Nat) (σ : St), i ∉ vs → wipe (σ.set i x) vs = (wipe σ vs).set i x := by
        intro vs
        induction vs with
        | nil => intro σ _; rfl
        | cons w ws ih =>
          intro σ hn
          show (wipe (σ.set i x) ws).set w none = ((wipe σ ws).set w none).set i x
          rw [ih σ (fun z => hn (List.mem_cons_of_mem _ z)), List.set_comm]
          intro z
          exact hn (by rw [z]; exact List.mem_cons_self)
      rw [comm vs σ hm, List.set_set]
def gNm (i : Nat) : FG := fun d ρ g => .ok (ρ.set i (some d)) g
theorem dg_name {i : Nat} {x : Str} (hN : X.N.Nodup) (hi : X.N[i]? = some x) (hx : Loc X.env.scope x) (hf : X.fn x = true ∨ X.env.scope.names.lookup x = some .local := by first | exact .inl rfl | exact .inr rfl | assumption) : DG C X W (.Name x pos) [i] (gNm i) :=
  PG.imp (pg_name hN hi hx hf) fun v σ H Q ⟨d, ρ, ν, μ, g, hE, hR, r, hP⟩ => hP _ H μ .refl hR (hE.set r i) fun vs h => wipe_set (h i (by simp))
abbrev FGs := List D → Env' → G → Res Env'
def tGts (C : Cfg) (K : PySem.W.Frag) (W : WX) (ts : List Nat) (f : FGs) : TGs := fun xs σ H Q => ∃ ds ρ ν μ g, RepE K H ν μ ρ σ ∧ RS C K H ν μ g ∧ RepL K H ν μ ds xs ∧ (match f ds ρ g with
  | .ok ρ' g' => ∀ σ' H' μ', Ext H μ H' μ' → RS C K H' ν μ' g' → RepE K H' ν μ' ρ' σ' → (∀ vs : List Nat, (∀ i ∈ ts, i ∈ vs) → wipe σ' vs = wipe σ vs) → Q σ' H'
  | .err c g' => ∀ H' μ', Ext H μ H' μ' → RS C K H' ν μ' g' → W (.ref (C.exc c)) none σ H'
  | .stuck => False)
def DGs (C : Cfg) (X : Cx) (W : WX) (tg : List Expr) (ts : List Nat) (f : FGs) : Prop := PGs X tg (tGts C X.K W ts f)
theorem PGs.imp {X : Cx} {e : List Expr} {t t' : TGs} (h : PGs X e t) (i : ∀ v σ H Q, t' v σ H Q → t v σ H Q) : PGs X e t' := ⟨fun pins s σ H v u Q I r q => h.run pins s σ H v u Q I r (i v σ H Q q)⟩
def gsNil : FGs := fun ds ρ g => match ds with
  | [] => .ok ρ g
  | _ => .stuck
/-- targets that raise nothing -/
def gsCons (f1 : FG) (f2 : FGs) : FGs := fun ds ρ g => match ds with
  | d :: r => match f1 d ρ g with
    | .ok ρ1 g1 => match f2 r ρ1 g1 with
      | .ok ρ2 g2 => .ok ρ2 g2
      | _ => .stuck
    | _ => .stuck
  | _ => .stuck
theorem dgs_nil : DGs C X W [] [] gsNil := PGs.imp pgs_nil fun xs σ H Q ⟨ds, ρ, ν, μ, g, hE, hR, r, hP⟩ => by
  unfold gsNil at hP
  split at hP
  · rename_i e
    split at e
    · cases e
      unfold RepL at r
      exact ⟨r, hP σ H μ .refl hR hE fun _ _ => rfl⟩
    · cases e
  · rename_i e
    split at e <;> cases e
  · exact hP.elim
theorem dgs_cons {ts1 ts2 : List Nat} {f1 : FG} {f2 : FGs} (h1 : DG C X W e ts1 f1) (h2 : DGs C X W es ts2 f2) (hs : (assignEach (e :: es) X.env).map (·.2) = assign e X.env :: (assignEach es X.env).map (·.2) := by rfl) : DGs C X W (e :: es) (ts1 ++ ts2) (gsCons f1 f2) :=
  PGs.imp (pgs_cons h1 h2 hs) fun xs σ H Q ⟨ds, ρ, ν, μ, g, hE, hR, r, hP⟩ => by
    unfold gsCons at hP
    cases ds with
    | nil => exact hP.elim
    | cons d ds =>
      unfold RepL at r
      obtain ⟨v, xs', rfl, r1, r2⟩ := r
      simp only at hP
      refine ⟨v, xs', rfl, d, ρ, ν, μ, g, hE, hR, r1, ?_⟩
      cases hf : f1 d ρ g with
      | err c g1 => simp only [hf] at hP
      | stuck => simp only [hf] at hP
      | ok ρ1 g1 =>
        simp only [hf] at hP ⊢
        intro σ1 H1 μ1 ex R1 hE1 w1
        refine ⟨ds, ρ1, ν, μ1, g1, hE1, R1, RepL.mono ex.kp' ds r2, ?_⟩
        cases hf2 : f2 ds ρ1 g1 with
        | err c g1 => simp only [hf2] at hP
        | stuck => simp only [hf2] at hP
        | ok ρ2 g2 =>
          simp only [hf2] at hP ⊢
          exact fun σ2 H2 μ2 ex2 R2 hE2 w2 => hP σ2 H2 μ2 (ex.trans ex2) R2 hE2 fun vs hv => (w2 vs fun i hi => hv i (List.mem_append_right _ hi)).trans (w1 vs fun i hi => hv i (List.mem_append_left _ hi))
def gTp (n : Nat) (f : FGs) : FG := fun d ρ g => match seqOf g d with
  | some ds => if ds.length = n then f ds ρ g else .stuck
  | none => .stuck
theorem dg_tup {k : Nat} {ts : List Nat} {f : FGs} {n : Nat} (hc : X.calm = true) (h : DGs C X W es ts f) (hn : (assignEach es X.env).length = n := by rfl) (hst : (assignEach es X.env).findIdx? (·.1) = none := by rfl) : DG C X W (.Tuple es k pos) ts (gTp n f) := by
  refine ⟨fun pins s σ H v u Q I rv hq => ?_⟩
  obtain ⟨d, ρ, ν, μ, g, hE, hR, r, hP⟩ := hq
  unfold gTp at hP
  cases hs : seqOf g d with
  | none => simp only [hs] at hP
  | some ds =>
    simp only [hs] at hP
    by_cases hl : ds.length = n
    · simp only [hl, if_true] at hP
      obtain ⟨a, xs, rfl, h1, h2⟩ := seq_rd hR r hs
      have q : tGts C X.K W ts f xs σ H Q := ⟨ds, ρ, ν, μ, g, hE, hR, h2, hP⟩
      have hx : xs.length = n := by rw [← RepL.length h2]; exact hl
      rcases h1 with h1 | h1
      · exact (pg_lst (k := k) (pos := pos) hc h hn hst).run pins s σ H _ u Q I rv ⟨a, xs, rfl, h1, hx, q⟩
      · exact (pg_tup (k := k) (pos := pos) hc h hn hst).run pins s σ H _ u Q I rv ⟨a, xs, rfl, h1, hx, q⟩
    · simp only [hl, if_false] at hP
/-- target = value -/
def sAsg (f : FE) (fg : FG) : FS := fun ρ g => (f ρ g).toS ρ fun d g1 => (fg d ρ g1).toS ρ fun ρ' g2 => .nx ρ' g2
theorem tAsg_of {K : PySem.W.Frag} {ts : List Nat} {fg : FG} {E : Ends} {σ : St} {H : Hp} (h : tS C K W (sAsg f fg) E σ H) : tAsg (tD C K W f) (tGt C K W ts fg) E σ H := by
  refine bindS (k := fun d ρ g1 => (fg d ρ g1).toS ρ fun ρ' g2 => .nx ρ' g2) h fun ρ ν μ g d v H1 hE hR r hP => ?_
  refine ⟨d, ρ, ν, μ, g, hE, hR, r, ?_⟩
  cases hf : fg d ρ g with
  | ok ρ' g' =>
    simp only [hf, Res.toS] at hP
    exact fun σ' H' μ' ex R' hE' _ => hP σ' H' μ' ex R' hE'
  | err c g' =>
    simp only [hf, Res.toS] at hP
    exact fun H' μ' ex R' => hP σ H' μ' ex R' (hE.mono ex.kp')
  | stuck => simp only [hf, Res.toS] at hP; exact hP
theorem ds_asg {tg : Expr} {ts : List Nat} {fg : FG} (he : DP C X W e f) (hg : DG C X W tg ts fg) (hs : swapsWithSole [tg] e pos.line X.env = pure false := by rfl) (hw : swappedStores [tg] e X.env = pure none := by rfl)
    (h1 : (assignEach [tg] X.env).map (·.2) = [assign tg X.env] := by rfl) : DS C X W (.Assign [tg] e pos) (sAsg f fg) := PS.imp (ps_asg he hg hs hw h1) fun E σ H h => tAsg_of h
theorem ds_set {i : Nat} {x : Str} {p : Pos} (hN : X.N.Nodup) (hi : X.N[i]? = some x) (hx : Loc X.env.scope x) (he : DP C X W e f) (hs : swapsWith e (some (.Name x p)) pos.line X.env = pure false := by rfl) (hf : X.fn x = true ∨ X.env.scope.names.lookup x = some .local := by first | exact .inl rfl | exact .inr rfl | assumption) :
    DS C X W (.Assign [.Name x p] e pos) (sAsg f (gNm i)) := PS.imp (ps_set hN hi hx he hs hf) fun E σ H h => by
  refine bindS (k := fun d ρ g1 => ((gNm i) d ρ g1).toS ρ fun ρ' g2 => .nx ρ' g2) h fun ρ ν μ g d v H1 hE hR r hP => ?_
  exact hP _ H1 μ .refl hR (hE.set r i)
/-- x, y = a, b by plain local names -/
def sPar (i j : Nat) (fes : FA) : FS := fun ρ g => (fes ρ g).toS ρ fun ds g1 => match ds with
  | [a, b] => .nx ((ρ.set i (some a)).set j (some b)) g1
  | _ => .stuck
theorem ds_par {i j : Nat} {x y : Str} {px py pt : Pos} {kt k2 pt2} (hc : X.calm = true) (hN : X.N.Nodup) (hi : X.N[i]? = some x) (hj : X.N[j]? = some y) (hij : i ≠ j)
    (hx : X.env.scope.names.lookup x = some .local) (hy : X.env.scope.names.lookup y = some .local) (ha : DA C X W [a, b] fes)
    (hw : swappedStores [.Tuple [.Name x px, .Name y py] kt pt] (.Tuple [a, b] k2 pt2) X.env = pure (some [x, y]))
    (hs : swapsWithSole [.Tuple [.Name x px, .Name y py] kt pt] (.Tuple [a, b] k2 pt2) pos.line X.env = pure false := by rfl) :
    DS C X W (.Assign [.Tuple [.Name x px, .Name y py] kt pt] (.Tuple [a, b] k2 pt2) pos) (sPar i j fes) := PS.imp (ps_par hc hN hi hj hij hx hy ha hw hs) fun E σ H h => by
  refine bindSA (k := fun ds ρ g1 => match ds with
  | [a, b] => .nx ((ρ.set i (some a)).set j (some b)) g1
  | _ => .stuck) h fun ρ ν μ g ds vs H1 hE hR r hP => ?_
  split at hP
  · unfold RepL RepL RepL at r
    obtain ⟨v, _, rfl, r1, w, _, rfl, r2, rfl⟩ := r
    exact ⟨v, w, rfl, hP _ H1 μ .refl hR ((hE.set r1 i).set r2 j)⟩
  · exact hP.elim
def sPar3 (i j l : Nat) (fes : FA) : FS := fun ρ g => (fes ρ g).toS ρ fun ds g1 => match ds with
  | [a, b, c] => .nx (((ρ.set i (some a)).set j (some b)).set l (some c)) g1
  | _ => .stuck
/-- name op= e -/
def sAug (i : Nat) (o : F2) (f : FE) : FS := fun ρ g => match ρ[i]? with
  | some (some x) => (f ρ g).toS ρ fun y g1 => (o x y g1).toS ρ fun z g2 => .nx (ρ.set i (some z)) g2
  | _ => .stuck
theorem ds_aug {i : Nat} {x : Str} {op : Operator} {o : F2} {p : Pos} (hN : X.N.Nodup) (hi : X.N[i]? = some x) (hx : Loc X.env.scope x) (he : DP C X W e f) (no : NoErr o) (ho : OpR X (inplaceOp op) (rD C X.K o)) (hf : X.fn x = true ∨ X.env.scope.names.lookup x = some .local := by first | exact .inl rfl | exact .inr rfl | assumption) :
    DS C X W (.AugAssign (.Name x p) op e pos) (sAug i o f) := PS.imp (ps_aug hN hi hx he ho hf) fun E σ H ⟨ρ, ν, μ, g, hE, hR, hP⟩ => by
  unfold sAug at hP
  split at hP
  · rename_i d hd
    obtain ⟨xv, e1, r1⟩ := hE.at' i d hd
    refine ⟨xv, e1, ρ, ν, μ, g, hE, hR, ?_⟩
    cases hf : f ρ g with
    | err c g1 =>
      simp only [hf, Res.toS] at hP
      exact fun H' μ' ex R' => hP σ H' μ' ex R' (hE.mono ex.kp')
    | stuck => simp only [hf, Res.toS] at hP; exact hP
    | ok y g1 =>
      simp only [hf, Res.toS] at hP
      intro yv H1 μ1 ex R1 r2
      refine ⟨d, y, ν, μ1, g1, R1, RepD.mono ex.kp' _ r1, r2, fun W' σ' => ?_⟩
      cases hz : o d y g1 with
      | err c g2 => exact absurd hz (no _ _ _ _ _)
      | stuck => simp only [hz] at hP; exact hP
      | ok z g2 =>
        simp only [hz] at hP
        exact fun zv H2 μ2 ex2 R2 r3 => hP _ H2 μ2 (ex.trans ex2) R2 ((hE.mono (ex.trans ex2).kp').set r3 i)
  · exact hP.elim
/-! ### while -/
def whileD (ft : FT) (fb : FS) : Nat → FS
  | 0 => fun _ _ => .stuck
  | n + 1 => fun ρ g => (ft ρ g).toS ρ fun c g1 => if c then (match fb ρ g1 with
    | .nx ρ2 g2 => whileD ft fb n ρ2 g2
    | .ct ρ2 g2 => whileD ft fb n ρ2 g2
    | .bk ρ2 g2 => .nx ρ2 g2
    | r => r) else .nx ρ g1
theorem ds_while (n : Nat) {body : List Stmt} (hp : PassesOwn (model X.prog X.w) X.A X.env X.xe) (hc : DT C X W c ft) (hb : DB C X W body fs) : DS C X W (.While c body [] pos) (whileD ft fs n) := PS.imp (ps_while hp hc hb) fun E σ H h => by
  refine ⟨fun m σ H => tS C X.K W (whileD ft fs m) E σ H, ⟨n, h⟩, fun m σ H h => ?_⟩
  cases m with
  | zero =>
    obtain ⟨ρ, ν, μ, g, hE, hR, hP⟩ := h
    exact False.elim hP
  | succ m =>
    refine bindST (k := fun c ρ g1 => if c then (match fs ρ g1 with
    | .nx ρ2 g2 => whileD ft fs m ρ2 g2
    | .ct ρ2 g2 => whileD ft fs m ρ2 g2
    | .bk ρ2 g2 => .nx ρ2 g2
    | r => r) else .nx ρ g1) h fun ρ ν μ g b H1 hE hR hP => ?_
    cases b with
    | false => exact hP σ H1 μ .refl hR hE
    | true =>
      rw [if_pos rfl] at hP ⊢
      refine ⟨fun σ' H' => tS C X.K W (whileD ft fs m) E σ' H', fun σ' H' q => ⟨m, Nat.lt_succ_self m, q⟩, ρ, ν, μ, g, hE, hR, ?_⟩
      cases hf : fs ρ g with
      | nx ρ2 g2 =>
        simp only [hf] at hP
        exact fun σ' H' μ' ex R' hE' => ⟨ρ2, ν, μ', g2, hE', R', hP.ext ex⟩
      | ct ρ2 g2 =>
        simp only [hf] at hP
        exact fun σ' H' μ' ex R' hE' => ⟨ρ2, ν, μ', g2, hE', R', hP.ext ex⟩
      | bk ρ2 g2 => simp only [hf] at hP; exact hP
      | rt d g2 => simp only [hf] at hP; exact hP
      | err c ρ2 g2 => simp only [hf] at hP; exact hP
      | stuck => simp only [hf] at hP; exact hP
end
end Dl
end
section
set_option Elab.async false
set_option linter.all false
set_option maxRecDepth 100000
namespace Dl
open PySem L2
abbrev FI := Env' → G → Res (List D)
def Keeps0 (H0 : Hp) (μ0 : List Addr) (H : Hp) : Prop := ∀ b o, H0 b = some o → (b ∉ μ0 ∨ Fix o) → NTb o → H b = some o
/-- at turn i the i-th item comes, as it was when the walk began; or in a new pair -/
def Yields (K : PySem.W.Frag) (H0 : Hp) (ν μ0 : List Addr) (items : List D) (J : It) : Prop := ∀ (i : Nat) (H : Hp), Keeps0 H0 μ0 H →
  (∀ d, items[i]? = some d → J.go i H ∧ ∀ x H', J.yld i H x H' → (H' = H ∧ RepD K H0 ν μ0 d x) ∨ (∃ T ps dps, x = .ref T ∧ H T = none ∧ H' = upd H T (.tup ps) ∧ d = .tup dps ∧ RepL K H0 ν μ0 dps ps)) ∧
  (items.length ≤ i → J.stop i H)
def tI (C : Cfg) (K : PySem.W.Frag) (W : WX) (f : FI) : TI := fun σ H R => ∃ ρ ν μ g, RepE K H ν μ ρ σ ∧ RS C K H ν μ g ∧ (match f ρ g with
  | .ok items g' => ∀ J H' μ', Ext H μ H' μ' → RS C K H' ν μ' g' → Yields K H' ν μ' items J → R J H'
  | .err c g' => ∀ H' μ', Ext H μ H' μ' → RS C K H' ν μ' g' → W (.ref (C.exc c)) none σ H'
  | .stuck => False)
def DI (C : Cfg) (X : Cx) (W : WX) (tg e : Expr) (f : FI) : Prop := PI X tg e (tI C X.K W f)
theorem PI.imp {X : Cx} {tg e : Expr} {t t' : TI} (h : PI X tg e t) (i : ∀ σ H R, t' σ H R → t σ H R) : PI X tg e t' := ⟨fun pins s σ H R I q => h.run pins s σ H R I (i σ H R q)⟩
section
variable {C : Cfg} {K : PySem.W.Frag} {H H' H0 : Hp} {ν μ μ' μ0 : List Addr} {g : G} {ds : List D} {xs : List V} {a : Addr}
theorem Ext.keeps0 (e : Ext H μ H' μ') : Keeps0 H μ H' := e.kp
theorem sqT_keep (h : SqT K H0 a xs) (k : Keeps0 H0 μ0 H) : SqT K H a xs := by
  rcases h with h | h
  · rcases h with h | ⟨o, h⟩
    · exact .inl (.inl (k _ _ h (.inr fix_tup) ntb_tup))
    · exact .inl (.inr ⟨o, k _ _ h (.inr fix_frz) ntb_frz⟩)
  · exact .inr h
theorem sq_inj {K : PySem.W.Frag} {H : Hp} {a : Addr} {xs ys : List V} (X : Cx) : True := trivial
theorem yields_tup (h : SqT K H0 a xs) (r : RepL K H0 ν μ0 ds xs) : Yields K H0 ν μ0 ds (Itt K a) := fun i H k => by
  have q := sqT_keep h k
  refine ⟨fun d hd => ?_, fun hi => ⟨xs, q, by rw [← RepL.length r]; exact hi⟩⟩
  obtain ⟨v, hv, rv⟩ := RepL.get r hd
  exact ⟨⟨xs, v, q, hv⟩, fun x H' ⟨e, y⟩ => .inl ⟨e, by
    have := y xs q
    rw [hv] at this; cases this; exact rv⟩⟩
theorem yields_lst (h : H0 a = some (.lst xs)) (n : a ∉ μ0) (r : RepL K H0 ν μ0 ds xs) : Yields K H0 ν μ0 ds (Itl K a) := fun i H k => by
  have q : SqL K H a xs := SqL.of (k _ _ h (.inl n) ntb_lst)
  refine ⟨fun d hd => ?_, fun hi => ⟨xs, q, by rw [← RepL.length r]; exact hi⟩⟩
  obtain ⟨v, hv, rv⟩ := RepL.get r hd
  exact ⟨⟨xs, v, q, hv⟩, fun x H' ⟨e, y⟩ => .inl ⟨e, by
    have := y xs q
    rw [hv] at this; cases this; exact rv⟩⟩
theorem yields_scr {ns : List Int} (h : (∃ o, H0 a = some (.frz o (.lst (ns.map V.int)))) ∨ SqL K (fun _ => none) a (ns.map V.int)) : Yields K H0 ν μ0 (ns.map D.int) (Itl K a) := fun i H k => by
  have q : SqL K H a (ns.map V.int) := by
    rcases h with ⟨o, h⟩ | h
    · exact .inl (.inr ⟨o, k _ _ h (.inr fix_frz) ntb_frz⟩)
    · rcases h with h | h
      · rcases h with h | ⟨o, h⟩ <;> cases h
      · exact .inr h
  refine ⟨fun d hd => ?_, fun hi => ⟨_, q, by simpa using hi⟩⟩
  obtain ⟨v, hv, rv⟩ := RepL.get (repL_ints (K := K) (H := H0) (ν := ν) (μ := μ0) ns) hd
  exact ⟨⟨_, v, q, hv⟩, fun x H' ⟨e, y⟩ => .inl ⟨e, by
    have := y _ q
    rw [hv] at this; cases this; exact rv⟩⟩
def signsD (z : Str) : List D := z.cps.toList.map fun c => .str ⟨#[c]⟩
theorem yields_str {z : Str} : Yields K H0 ν μ0 (signsD z) (Its z) := fun i H k => by
  refine ⟨fun d hd => ?_, fun hi => by show z.cps.size ≤ i; simpa [signsD] using hi⟩
  unfold signsD at hd
  rw [List.getElem?_map] at hd
  cases hc : z.cps.toList[i]? with
  | none => rw [hc] at hd; cases hd
  | some c =>
    rw [hc] at hd; cases hd
    have hc' : z.cps[i]? = some c := by rw [← Array.getElem?_toList]; exact hc
    refine ⟨(Array.getElem?_eq_some_iff.mp hc').1, fun x H' ⟨e, c', h1, h2⟩ => .inl ⟨e, ?_⟩⟩
    rw [hc'] at h1; cases h1
    subst h2; exact rfl
def rangeD (lo : Int) (n : Nat) : List D := (List.range n).map fun (k : Nat) => D.int (lo + (k : Int))
theorem yields_range {lo : Int} {n : Nat} : Yields K H0 ν μ0 (rangeD lo n) (Itr lo n) := fun i H k => by
  refine ⟨fun d hd => ?_, fun hi => by show n ≤ i; simpa [rangeD] using hi⟩
  unfold rangeD at hd
  rw [List.getElem?_map] at hd
  by_cases hi : i < n
  · rw [List.getElem?_range hi] at hd
    cases hd
    exact ⟨hi, fun x H' ⟨e, y⟩ => .inl ⟨e, y⟩⟩
  · rw [List.getElem?_eq_none (by simpa using hi)] at hd
    cases hd
def rangeDC (lo c : Int) (n : Nat) : List D := (List.range n).map fun (k : Nat) => D.int (lo + (k : Int) * c)
theorem yields_rangeC {lo c : Int} {n : Nat} : Yields K H0 ν μ0 (rangeDC lo c n) (Itc lo c n) := fun i H k => by
  refine ⟨fun d hd => ?_, fun hi => by show n ≤ i; simpa [rangeDC] using hi⟩
  unfold rangeDC at hd
  rw [List.getElem?_map] at hd
  by_cases hi : i < n
  · rw [List.getElem?_range hi] at hd
    cases hd
    exact ⟨hi, fun x H' ⟨e, y⟩ => .inl ⟨e, y⟩⟩
  · rw [List.getElem?_eq_none (by simpa using hi)] at hd
    cases hd
def enumD : Nat → List D → List D
  | _, [] => []
  | n, d :: r => .tup [.int (n : Int), d] :: enumD (n + 1) r
theorem enumD_get : ∀ (ds : List D) (n i : Nat), (enumD n ds)[i]? = (ds[i]?).map fun d => .tup [.int ((n + i : Nat) : Int), d]
  | [], n, i => by simp [enumD]
  | d :: r, n, 0 => by simp [enumD]
  | d :: r, n, i + 1 => by
    simp only [enumD, List.getElem?_cons_succ]
    rw [enumD_get r (n + 1) i]
    congr 1
    funext d
    rw [show n + 1 + i = n + (i + 1) by omega]
theorem enumD_length : ∀ (ds : List D) (n : Nat), (enumD n ds).length = ds.length
  | [], _ => rfl
  | d :: r, n => by simp [enumD, enumD_length r (n + 1)]
theorem yields_enum (h : H0 a = some (.lst xs)) (n : a ∉ μ0) (r : RepL K H0 ν μ0 ds xs) : Yields K H0 ν μ0 (enumD 0 ds) (Ite K a) := fun i H k => by
  have q : SqL K H a xs := SqL.of (k _ _ h (.inl n) ntb_lst)
  refine ⟨fun d hd => ?_, fun hi => ⟨xs, q, by rw [← RepL.length r, ← enumD_length ds 0]; exact hi⟩⟩
  rw [enumD_get] at hd
  cases hc : ds[i]? with
  | none => rw [hc] at hd; cases hd
  | some c =>
    rw [hc] at hd; cases hd
    obtain ⟨v, hv, rv⟩ := RepL.get r hc
    refine ⟨⟨xs, v, q, hv⟩, fun x H' ⟨T, y, e1, e2, e3, e4⟩ => .inr ⟨T, _, _, e1, e2, e3, rfl, ?_⟩⟩
    have := e4 xs q
    rw [hv] at this; cases this
    exact ⟨.int _, [v], rfl, by rw [Nat.zero_add]; exact rInt _, v, [], rfl, rv, rfl⟩
def zipD : List D → List D → List D
  | a :: r, b :: q => .tup [a, b] :: zipD r q
  | _, _ => []
theorem zipD_get : ∀ (xs ys : List D) (i : Nat) (d : D), (zipD xs ys)[i]? = some d → ∃ a b, xs[i]? = some a ∧ ys[i]? = some b ∧ d = .tup [a, b]
  | [], ys, i, d, h => by simp [zipD] at h
  | a :: r, [], i, d, h => by simp [zipD] at h
  | a :: r, b :: q, 0, d, h => by simp [zipD] at h; exact ⟨a, b, rfl, rfl, h.symm⟩
  | a :: r, b :: q, i + 1, d, h => by
    simp only [zipD, List.getElem?_cons_succ] at h
    exact zipD_get r q i d h
theorem zipD_length : ∀ (xs ys : List D), (zipD xs ys).length = min xs.length ys.length
  | [], ys => by simp [zipD]
  | a :: r, [] => by simp [zipD]
  | a :: r, b :: q => by simp [zipD, zipD_length r q]
theorem yields_zip {es : List D} {ys : List V} {b : Addr} (h : H0 a = some (.lst xs)) (n : a ∉ μ0) (r : RepL K H0 ν μ0 ds xs) (h' : H0 b = some (.lst ys)) (n' : b ∉ μ0) (r' : RepL K H0 ν μ0 es ys) : Yields K H0 ν μ0 (zipD ds es) (Itz K a b) := fun i H k => by
  have q : SqL K H a xs := SqL.of (k _ _ h (.inl n) ntb_lst)
  have q' : SqL K H b ys := SqL.of (k _ _ h' (.inl n') ntb_lst)
  refine ⟨fun d hd => ?_, fun hi => ⟨xs, ys, q, q', ?_⟩⟩
  · obtain ⟨c1, c2, e1, e2, rfl⟩ := zipD_get _ _ _ _ hd
    obtain ⟨v, hv, rv⟩ := RepL.get r e1
    obtain ⟨w, hw, rw'⟩ := RepL.get r' e2
    refine ⟨⟨xs, ys, v, w, q, q', hv, hw⟩, fun x H' ⟨T, y1, y2, e1, e2, e3, e4, e5⟩ => .inr ⟨T, _, _, e1, e2, e3, rfl, ?_⟩⟩
    have t1 := e4 xs q
    have t2 := e5 ys q'
    rw [hv] at t1; cases t1
    rw [hw] at t2; cases t2
    exact ⟨v, [w], rfl, rv, w, [], rfl, rw', rfl⟩
  · rw [zipD_length] at hi
    have l1 := RepL.length r
    have l2 := RepL.length r'
    omega
end
section
variable {C : Cfg} {X : Cx} {W : WX} {e a b c o tg : Expr} {es rest : List Expr} {f fa fb fc : FE} {fes : FA} {ft : FT} {pos p : Pos} {st : Stmt} {sts : List Stmt} {fs fs' : FS} {fi : FI} {fg : FG}
/-- what stands still while it is walked -/
def still : D → Option (List D)
  | .tup ds => some ds
  | .lst ds => some ds
  | .scr ns => some (ns.map .int)
  | .str z => some (signsD z)
  | _ => none
def iSeq (f : FE) : FI := fun ρ g => (f ρ g).bind fun d g1 => match still d with
  | some ds => .ok ds g1
  | none => .stuck
theorem di_seq (he : DP C X W e f) : DI C X W tg e (iSeq f) := by
  refine ⟨fun pins s σ H R I h => ?_⟩
  obtain ⟨ρ, ν, μ, g, hE, hR, hP⟩ := h
  unfold iSeq at hP
  have base : ∀ (wi : TE → TI) (hpi : PI X tg e (wi (tD C X.K W f))) (k : wi (tD C X.K W f) σ H R), wpAny (model X.prog X.w) X.A (eval e X.env) (fun v s1 => wpAny (model X.prog X.w) X.A (pyIter v) (PIE X pins σ tg R) X.xe s1) X.xe s := fun wi hpi k => hpi.run pins s σ H R I k
  cases hf : f ρ g with
  | err c g1 =>
    simp only [hf, Res.bind] at hP
    exact base (iList X.K) (pi_list he) ⟨ρ, ν, μ, g, hE, hR, by rw [hf]; exact hP⟩
  | stuck => simp only [hf, Res.bind] at hP
  | ok d g1 =>
    simp only [hf, Res.bind] at hP
    cases d with
    | tup ds =>
      simp only [still] at hP
      refine base (iTup X.K) (pi_tup he) ⟨ρ, ν, μ, g, hE, hR, by
        rw [hf]
        intro v H' μ' ex R' r
        unfold RepD at r
        obtain ⟨a, xs, rfl, h1, h2⟩ := r
        exact ⟨a, rfl, ⟨xs, h1⟩, hP _ _ _ ex R' (yields_tup h1 h2)⟩⟩
    | lst ds =>
      simp only [still] at hP
      refine base (iList X.K) (pi_list he) ⟨ρ, ν, μ, g, hE, hR, by
        rw [hf]
        intro v H' μ' ex R' r
        unfold RepD at r
        obtain ⟨a, xs, rfl, h1, h3, h4, h2⟩ := r
        exact ⟨a, rfl, ⟨xs, SqL.of h1⟩, hP _ _ _ ex R' (yields_lst h1 h3 h2)⟩⟩
    | scr ns =>
      simp only [still] at hP
      refine base (iList X.K) (pi_list he) ⟨ρ, ν, μ, g, hE, hR, by
        rw [hf]
        intro v H' μ' ex R' r
        unfold RepD at r
        obtain ⟨a, rfl, h1⟩ := r
        refine ⟨a, rfl, ⟨ns.map V.int, ?_⟩, hP _ _ _ ex R' (yields_scr (h1.imp (fun ⟨o, h, _⟩ => ⟨o, h⟩) id))⟩
        rcases h1 with ⟨o, h, _⟩ | h
        · exact .inl (.inr ⟨o, h⟩)
        · rcases h with h | h
          · rcases h with h | ⟨o, h⟩ <;> cases h
          · exact .inr h⟩
    | str z =>
      simp only [still] at hP
      refine base iStr (pi_str he) ⟨ρ, ν, μ, g, hE, hR, by
        rw [hf]
        intro v H' μ' ex R' r
        obtain rfl : v = .str _ := r
        exact ⟨z, rfl, hP _ _ _ ex R' yields_str⟩⟩
    | non => simp only [still] at hP
    | bl _ => simp only [still] at hP
    | int _ => simp only [still] at hP
    | loc _ => simp only [still] at hP
theorem bindI {K : PySem.W.Frag} {σ : St} {H : Hp} {R : It → Hp → Prop} {k : List D → G → Res (List D)} {Q : List V → Hp → Prop}
    (h : tI C K W (fun ρ g => (fes ρ g).bind fun x g1 => k x g1) σ H R)
    (hk : ∀ ν μ g ds vs H', RS C K H' ν μ g → RepL K H' ν μ ds vs → (match k ds g with
      | .ok items g' => ∀ J H2 μ', Ext H' μ H2 μ' → RS C K H2 ν μ' g' → Yields K H2 ν μ' items J → R J H2
      | .err c g' => ∀ H2 μ', Ext H' μ H2 μ' → RS C K H2 ν μ' g' → W (.ref (C.exc c)) none σ H2
      | .stuck => False) → Q vs H') : tA C K W fes σ H Q := by
  obtain ⟨ρ, ν, μ, g, hE, hR, hP⟩ := h
  refine ⟨ρ, ν, μ, g, hE, hR, ?_⟩
  cases hf : fes ρ g with
  | ok ds g1 =>
    simp only [hf, Res.bind] at hP
    refine fun v H' μ' ex R' r => hk ν μ' g1 ds v H' R' r ?_
    cases hz : k ds g1 with
    | ok items g' => simp only [hz] at hP; exact fun J H2 μ2 e2 => hP J H2 μ2 (ex.trans e2)
    | err c g' => simp only [hz] at hP; exact fun H2 μ2 e2 => hP H2 μ2 (ex.trans e2)
    | stuck => simp only [hz] at hP
  | err c g1 => simp only [hf, Res.bind] at hP; exact hP
  | stuck => simp only [hf, Res.bind] at hP
def small62 (i : Int) : Bool := decide (-(2 ^ 62) ≤ i) && decide (i < 2 ^ 62)
def rng1 : List D → Option (List D)
  | [.int j] => if small62 j then some (rangeD 0 j.toNat) else none
  | _ => none
def rng2 : List D → Option (List D)
  | [.int i, .int j] => if small62 i && small62 j then some (rangeD i (j - i).toNat) else none
  | _ => none
def rng3 : List D → Option (List D)
  | [.int i, .int j, .int c] => if decide (c ≠ 0) && decide (c.natAbs < 1073741824) && Builtin.Range.small i j c && decide (0 ≤ Builtin.Range.rangeSize i j c) then some (rangeDC i c (Builtin.Range.rangeSize i j c).toNat) else none
  | _ => none
def iRng (r : List D → Option (List D)) (fes : FA) : FI := fun ρ g => (fes ρ g).bind fun ds g1 => match r ds with
  | some items => .ok items g1
  | none => .stuck
theorem iRng_of {K : PySem.W.Frag} {σ : St} {H : Hp} {R : It → Hp → Prop} {rr : List D → Option (List D)} {Q : List V → Hp → Prop} (h : tI C K W (iRng rr fes) σ H R)
    (hk : ∀ ν μ g ds vs H' items, RS C K H' ν μ g → RepL K H' ν μ ds vs → rr ds = some items → (∀ J H2 μ', Ext H' μ H2 μ' → RS C K H2 ν μ' g → Yields K H2 ν μ' items J → R J H2) → Q vs H') : tA C K W fes σ H Q :=
  bindI (k := fun ds g1 => match rr ds with
    | some items => .ok items g1
    | none => .stuck) h fun ν μ g ds vs H1 hR r hP => by
    cases hz : rr ds with
    | none => simp only [hz] at hP
    | some items =>
      simp only [hz] at hP
      exact hk ν μ g ds vs H1 items hR r hz hP
theorem di_rng1 (hg : Gl X "range") (hm : X.mg "range" = none) (ha : DA C X W [a] fes) (hs : starEach [a] X.env = [(false, eval a X.env)] := by rfl) : DI C X W tg (.Call (.Name "range" p) [a] [] pos) (iRng rng1 fes) :=
  PI.imp (pi_range1 hg hm ha hs) fun σ H R h => iRng_of h fun ν μ g ds vs H1 items hR r hz hP => by
    unfold rng1 at hz
    split at hz
    · split at hz
      · rename_i j hj
        cases hz
        unfold small62 at hj
        simp only [Bool.and_eq_true, decide_eq_true_eq] at hj
        unfold RepL RepL at r
        obtain ⟨v, _, rfl, r1, rfl⟩ := r
        obtain rfl : v = .int _ := r1
        exact ⟨j, rfl, hj.1, hj.2, hP _ _ _ .refl hR yields_range⟩
      · cases hz
    · cases hz
theorem di_rng2 (hg : Gl X "range") (hm : X.mg "range" = none) (ha : DA C X W [a, b] fes) (hs : starEach [a, b] X.env = [(false, eval a X.env), (false, eval b X.env)] := by rfl) (hs2 : starEach [b] X.env = [(false, eval b X.env)] := by rfl) :
    DI C X W tg (.Call (.Name "range" p) [a, b] [] pos) (iRng rng2 fes) :=
  PI.imp (pi_range2 hg hm ha hs hs2) fun σ H R h => iRng_of h fun ν μ g ds vs H1 items hR r hz hP => by
    unfold rng2 at hz
    split at hz
    · split at hz
      · rename_i i j hj
        cases hz
        unfold small62 at hj
        simp only [Bool.and_eq_true, decide_eq_true_eq] at hj
        unfold RepL RepL RepL at r
        obtain ⟨v, _, rfl, r1, w, _, rfl, r2, rfl⟩ := r
        obtain rfl : v = .int _ := r1
        obtain rfl : w = .int _ := r2
        exact ⟨i, j, rfl, ⟨hj.1.1, hj.1.2, hj.2.1, hj.2.2⟩, hP _ _ _ .refl hR yields_range⟩
      · cases hz
    · cases hz
theorem di_rng3 (hg : Gl X "range") (hm : X.mg "range" = none) (ha : DA C X W [a, b, c] fes)
    (hs : starEach [a, b, c] X.env = (false, eval a X.env) :: starEach [b, c] X.env := by rfl) (hpl : (backTo pos (starEach [b, c] X.env)).any (·.1) = false := by rfl) :
    DI C X W tg (.Call (.Name "range" p) [a, b, c] [] pos) (iRng rng3 fes) :=
  PI.imp (pi_range3 hg hm ha hs hpl) fun σ H R h => iRng_of h fun ν μ g ds vs H1 items hR r hz hP => by
    unfold rng3 at hz
    split at hz
    · split at hz
      · rename_i i j k hj
        cases hz
        simp only [Bool.and_eq_true, decide_eq_true_eq] at hj
        unfold RepL RepL RepL RepL at r
        obtain ⟨v, _, rfl, r1, w, _, rfl, r2, z, _, rfl, r3, rfl⟩ := r
        obtain rfl : v = .int _ := r1
        obtain rfl : w = .int _ := r2
        obtain rfl : z = .int _ := r3
        exact ⟨i, j, k, _, rfl, ⟨hj.1.1.1, hj.1.1.2, hj.1.2, (Int.toNat_of_nonneg hj.2).symm⟩, hP _ _ _ .refl hR yields_rangeC⟩
      · cases hz
    · cases hz
/-- enumerate, zip of lists that stand still -/
def enm : List D → Option (List D)
  | [.lst ds] => some (enumD 0 ds)
  | _ => none
theorem di_enum {elts : List Expr} {kk : Nat} {tpos : Pos} (hg : Gl X "enumerate") (hm : X.mg "enumerate" = none) (ha : DA C X W [a] fes) (hs : starEach [a] X.env = [(false, eval a X.env)] := by rfl) :
    DI C X W (.Tuple elts kk tpos) (.Call (.Name "enumerate" p) [a] [] pos) (iRng enm fes) :=
  PI.imp (pi_enum hg hm ha hs) fun σ H R h => iRng_of h fun ν μ g ds vs H1 items hR r hz hP => by
    unfold enm at hz
    split at hz
    · cases hz
      unfold RepL RepL at r
      obtain ⟨v, _, rfl, r1, rfl⟩ := r
      unfold RepD at r1
      obtain ⟨a, xs, rfl, h1, h3, h4, h2⟩ := r1
      exact ⟨a, xs, rfl, SqL.of h1, hP _ _ _ .refl hR (yields_enum h1 h3 h2)⟩
    · cases hz
def zpp : List D → Option (List D)
  | [.lst ds, .lst es] => some (zipD ds es)
  | _ => none
theorem di_zip {elts : List Expr} {kk : Nat} {tpos : Pos} (hg : Gl X "zip") (hm : X.mg "zip" = none) (ha : DA C X W [a, b] fes)
    (hs : starEach [a, b] X.env = (false, eval a X.env) :: starEach [b] X.env := by rfl) (hpl : (backTo pos (starEach [b] X.env)).any (·.1) = false := by rfl) :
    DI C X W (.Tuple elts kk tpos) (.Call (.Name "zip" p) [a, b] [] pos) (iRng zpp fes) :=
  PI.imp (pi_zip hg hm ha hs hpl) fun σ H R h => iRng_of h fun ν μ g ds vs H1 items hR r hz hP => by
    unfold zpp at hz
    split at hz
    · cases hz
      unfold RepL RepL RepL at r
      obtain ⟨v, _, rfl, r1, w, _, rfl, r2, rfl⟩ := r
      unfold RepD at r1 r2
      obtain ⟨a, xs, rfl, h1, h3, h4, h2⟩ := r1
      obtain ⟨b, ys, rfl, h1', h3', h4', h2'⟩ := r2
      exact ⟨a, b, xs, ys, rfl, SqL.of h1, SqL.of h1', hP _ _ _ .refl hR (yields_zip h1 h3 h2 h1' h3' h2')⟩
    · cases hz

/-! ### for -/
def forD (fg : FG) (fb : FS) : List D → FS
  | [] => fun ρ g => .nx ρ g
  | d :: r => fun ρ g => match fg d ρ g with
    | .ok ρ1 g1 => match fb ρ1 g1 with
      | .nx ρ2 g2 => forD fg fb r ρ2 g2
      | .ct ρ2 g2 => forD fg fb r ρ2 g2
      | .bk ρ2 g2 => .nx ρ2 g2
      | q => q
    | .err c g1 => .err c ρ g1
    | .stuck => .stuck
def sFor (fi : FI) (fg : FG) (fb : FS) : FS := fun ρ g => (fi ρ g).toS ρ fun items g1 => forD fg fb items ρ g1
/-- behind an item's coming -/
theorem came {K : PySem.W.Frag} {H0 H H' : Hp} {ν μ0 μ : List Addr} {g : G} {d : D} {x : V} (e : Ext H0 μ0 H μ) (R : RS C K H ν μ g)
    (h : (H' = H ∧ RepD K H0 ν μ0 d x) ∨ (∃ T ps dps, x = .ref T ∧ H T = none ∧ H' = upd H T (.tup ps) ∧ d = .tup dps ∧ RepL K H0 ν μ0 dps ps)) : Ext H μ H' μ ∧ RS C K H' ν μ g ∧ RepD K H' ν μ d x := by
  rcases h with ⟨rfl, r⟩ | ⟨T, ps, dps, rfl, hT, rfl, rfl, r⟩
  · exact ⟨.refl, R, RepD.mono e.kp' _ r⟩
  · exact new_tup R hT (RepL.mono e.kp' _ r)
theorem ds_for {body : List Stmt} {ts : List Nat} (hp : PassesOwn (model X.prog X.w) X.A X.env X.xe) (hc : X.calm = true) (hi : DI C X W tg e fi) (hg : DG C X W tg ts fg) (hb : DB C X W body fs)
    (hs : ∀ x, foldedSetIterable e X.env x = pure x := by intro _; rfl) : DS C X W (.For tg e body [] pos) (sFor fi fg fs) := PS.imp (ps_for hp hc hi hg hb hs) fun E σ H ⟨ρ, ν, μ, g, hE, hR, hP⟩ => by
  refine ⟨ρ, ν, μ, g, hE, hR, ?_⟩
  unfold sFor at hP
  cases hf : fi ρ g with
  | err c g1 =>
    simp only [hf, Res.toS] at hP
    exact fun H' μ' ex R' => hP σ H' μ' ex R' (hE.mono ex.kp')
  | stuck => simp only [hf, Res.toS] at hP; exact hP
  | ok items g1 =>
    simp only [hf, Res.toS] at hP
    intro J H1 μ1 ex1 R1 hY
    have hE1 := hE.mono ex1.kp'
    have hP1 := hP.ext ex1
    refine ⟨fun i m σ H => i ≤ items.length ∧ m = items.length - i ∧ ∃ ρ μ g, RepE X.K H ν μ ρ σ ∧ RS C X.K H ν μ g ∧ Ext H1 μ1 H μ ∧ PostS C X.K W H ν μ (forD fg fs (items.drop i) ρ g) E,
      ⟨items.length, Nat.zero_le _, rfl, ρ, μ1, g1, hE1, R1, .refl, by simpa using hP1⟩, ?_⟩
    rintro i m σ2 H2 ⟨hi1, rfl, ρ2, μ2, g2, hE2, R2, ex2, hP2⟩
    obtain ⟨y1, y2⟩ := hY i H2 ex2.kp
    by_cases hlt : i < items.length
    · right
      obtain ⟨hgo, hyl⟩ := y1 items[i] (by simp [hlt])
      rw [List.drop_eq_getElem_cons hlt] at hP2
      refine ⟨hgo, fun σ' H' => ∃ ρ μ g, RepE X.K H' ν μ ρ σ' ∧ RS C X.K H' ν μ g ∧ Ext H1 μ1 H' μ ∧ PostS C X.K W H' ν μ (forD fg fs (items.drop (i + 1)) ρ g) E,
        fun σ' H' ⟨ρ', μ', g', a1, a2, a3, a4⟩ => ⟨items.length - (i + 1), by omega, hlt, rfl, ρ', μ', g', a1, a2, a3, a4⟩, fun x H' hy => ?_⟩
      obtain ⟨e1, R3, r3⟩ := came ex2 R2 (hyl x H' hy)
      have hE3 := hE2.mono e1.kp'
      have hP3 := hP2.ext e1
      have ex3 := ex2.trans e1
      refine ⟨items[i], ρ2, ν, μ2, g2, hE3, R3, r3, ?_⟩
      unfold forD at hP3
      cases hfg : fg items[i] ρ2 g2 with
      | err c g4 =>
        simp only [hfg] at hP3
        exact fun H4 μ4 ex4 R4 => hP3 _ H4 μ4 ex4 R4 (hE3.mono ex4.kp')
      | stuck => simp only [hfg] at hP3; exact hP3
      | ok ρ4 g4 =>
        simp only [hfg] at hP3 ⊢
        intro σ4 H4 μ4 ex4 R4 hE4 _
        have hP4 := hP3.ext ex4
        refine ⟨ρ4, ν, μ4, g4, hE4, R4, ?_⟩
        cases hfb : fs ρ4 g4 with
        | nx ρ5 g5 =>
          simp only [hfb] at hP4
          exact fun σ5 H5 μ5 ex5 R5 hE5 => ⟨ρ5, μ5, g5, hE5, R5, (ex3.trans ex4).trans ex5, hP4.ext ex5⟩
        | ct ρ5 g5 =>
          simp only [hfb] at hP4
          exact fun σ5 H5 μ5 ex5 R5 hE5 => ⟨ρ5, μ5, g5, hE5, R5, (ex3.trans ex4).trans ex5, hP4.ext ex5⟩
        | bk ρ5 g5 => simp only [hfb] at hP4; exact hP4
        | rt d g5 => simp only [hfb] at hP4; exact hP4
        | err c ρ5 g5 => simp only [hfb] at hP4; exact hP4
        | stuck => simp only [hfb] at hP4; exact hP4
    · left
      refine ⟨y2 (by omega), ?_⟩
      rw [List.drop_eq_nil_of_le (by omega)] at hP2
      exact hP2 σ2 H2 μ2 .refl R2 hE2
end
end Dl
end
section
set_option Elab.async false
set_option linter.all false
set_option maxRecDepth 100000
namespace Dl
open PySem L2
def wipeD (ρ : Env') : List Nat → Env'
  | [] => ρ
  | v :: vs => (wipeD ρ vs).set v none
def W0 : WX := fun _ _ _ _ => False
section
variable {C : Cfg} {K : PySem.W.Frag} {H H' H0 : Hp} {ν μ μ' μ0 : List Addr} {g : G} {ds : List D} {xs ys : List V} {a D₀ : Addr} {ρ : Env'} {σ : St}
theorem RepE.wipe (h : RepE K H ν μ ρ σ) : ∀ vs : List Nat, RepE K H ν μ (wipeD ρ vs) (wipe σ vs)
  | [] => h
  | v :: vs => by
    have ih := RepE.wipe h vs
    refine ⟨by show ((wipeD ρ vs).set v none).length = ((L2.wipe σ vs).set v none).length; simp [ih.len], fun i d e => ?_⟩
    have e : ((wipeD ρ vs).set v none)[i]? = some (some d) := e
    show ∃ w, ((L2.wipe σ vs).set v none)[i]? = some (some w) ∧ _
    by_cases hv : v = i
    · subst hv
      rw [List.getElem?_set] at e
      simp at e
    · rw [List.getElem?_set_ne hv] at e ⊢
      exact ih.at' i d e
theorem wipe_idem {σ : St} : ∀ vs : List Nat, L2.wipe (L2.wipe σ vs) vs = L2.wipe σ vs := by
  have h : ∀ (vs : List Nat) (σ τ : St), (∀ i, i ∉ vs → σ[i]? = τ[i]?) → σ.length = τ.length → L2.wipe σ vs = L2.wipe τ vs := by
    intro vs
    induction vs with
    | nil => intro σ τ h hl; exact List.ext_getElem? fun i => h i (by simp)
    | cons v vs ih =>
      intro σ τ h hl
      show (L2.wipe σ vs).set v none = (L2.wipe τ vs).set v none
      by_cases hv : v ∈ vs
      · rw [ih σ τ (fun i hi => h i (by simp only [List.mem_cons, not_or]; exact ⟨fun z => hi (z ▸ hv), hi⟩)) hl]
      · have e : L2.wipe (σ.set v none) vs = L2.wipe (τ.set v none) vs := ih _ _ (fun i hi => by
          by_cases z : v = i
          · subst z
            rw [List.getElem?_set, List.getElem?_set]
            simp [hl]
          · rw [List.getElem?_set_ne z, List.getElem?_set_ne z]
            exact h i (by simp only [List.mem_cons, not_or]; exact ⟨fun q => z q.symm, hi⟩)) (by simp [hl])
        have comm : ∀ (vs : List Nat) (σ : St), v ∉ vs → L2.wipe (σ.set v none) vs = (L2.wipe σ vs).set v none := by
          intro vs
          induction vs with
          | nil => intro σ _; rfl
          | cons w ws ihw =>
            intro σ hn
            show (L2.wipe (σ.set v none) ws).set w none = ((L2.wipe σ ws).set w none).set v none
            rw [ihw σ (fun z => hn (List.mem_cons_of_mem _ z)), List.set_comm]
            intro z
            exact hn (by rw [z]; exact List.mem_cons_self)
        rw [← comm vs σ hv, ← comm vs τ hv, e]
  intro vs
  have hout : ∀ (vs : List Nat) (σ : St) (i : Nat), i ∉ vs → (L2.wipe σ vs)[i]? = σ[i]? := by
    intro vs
    induction vs with
    | nil => intro σ i _; rfl
    | cons v vs ih =>
      intro σ i hi
      show ((L2.wipe σ vs).set v none)[i]? = _
      rw [List.getElem?_set_ne (fun z => hi (by rw [z]; exact List.mem_cons_self)), ih σ i fun z => hi (List.mem_cons_of_mem _ z)]
  exact h vs _ _ (fun i hi => hout vs σ i hi) (wipe_length σ vs)
theorem RepE.more (hn : H D₀ = none) (h : RepE K H ν μ ρ σ) : RepE K H (D₀ :: ν) μ ρ σ := ⟨h.len, fun i d e => by
  obtain ⟨v, e1, r⟩ := h.at' i d e
  exact ⟨v, e1, RepD.more hn d r⟩⟩
/-- a list in the making -/
theorem RS.ban (R : RS C K H ν μ g) (hn : H D₀ = none) : RS C K (upd H D₀ (.lst xs)) (D₀ :: ν) μ g := by
  obtain ⟨R', ex⟩ := R.new (o := .lst xs) hn
  refine ⟨R.len, R.nd, fun a ha => ?_, fun a ha => ?_, fun n u a e1 e2 => ?_, R'.tb⟩
  · rcases List.mem_cons.mp ha with z | z
    · subst z
      intro q
      obtain ⟨u, e, _⟩ := R.inμ q
      rw [hn] at e; cases e
    · exact R.dj a z
  · rcases List.mem_cons.mp ha with z | z
    · subst z; exact ⟨_, upd_same, trivial⟩
    · exact R'.nv a z
  · have q := R.ob n u a e1 e2
    obtain ⟨w, hw, _⟩ := q.ch
    exact (q.more hn).mono ex.kp' (upd_ne fun z => by rw [z, hn] at hw; cases hw)
theorem RS.unban (R : RS C K H (D₀ :: ν) μ g) : RS C K H ν μ g :=
  ⟨R.len, R.nd, fun a ha => R.dj a (List.mem_cons_of_mem _ ha), fun a ha => R.nv a (List.mem_cons_of_mem _ ha), fun n u a e1 e2 => (R.ob n u a e1 e2).less, R.tb⟩
mutual
/-- a list that was in the making may change from now on -/
theorem RepD.shift : ∀ (d : D) {v : V}, RepD K H (D₀ :: ν) μ d v → RepD K H ν (μ ++ [D₀]) d v
  | .non, v, h => h
  | .bl b, v, h => h
  | .int i, v, h => h
  | .str s, v, h => h
  | .tup ds, v, h => by
    unfold RepD at h ⊢
    obtain ⟨a, xs, e, h1, h2⟩ := h
    exact ⟨a, xs, e, h1, RepL.shift ds h2⟩
  | .lst ds, v, h => by
    unfold RepD at h ⊢
    obtain ⟨a, xs, e, h1, h2, h3, h4⟩ := h
    refine ⟨a, xs, e, h1, fun z => ?_, fun z => h3 (List.mem_cons_of_mem _ z), RepL.shift ds h4⟩
    rcases List.mem_append.mp z with z | z
    · exact h2 z
    · have : a = D₀ := by simpa using z
      exact h3 (by rw [this]; exact List.mem_cons_self)
  | .scr ns, v, h => by
    unfold RepD at h ⊢
    obtain ⟨a, e, h⟩ := h
    refine ⟨a, e, h.imp (fun ⟨o, h1, h2, h3⟩ => ⟨o, h1, fun z => ?_, fun z => h3 (List.mem_cons_of_mem _ z)⟩) id⟩
    rcases List.mem_append.mp z with z | z
    · exact h2 z
    · have : a = D₀ := by simpa using z
      exact h3 (by rw [this]; exact List.mem_cons_self)
  | .loc n, v, h => by
    unfold RepD at h ⊢
    obtain ⟨a, e, h⟩ := h
    exact ⟨a, e, by rw [List.getElem?_append_left (List.getElem?_eq_some_iff.mp h).1]; exact h⟩
theorem RepL.shift : ∀ (ds : List D) {vs : List V}, RepL K H (D₀ :: ν) μ ds vs → RepL K H ν (μ ++ [D₀]) ds vs
  | [], vs, h => h
  | d :: ds, vs, h => by
    unfold RepL at h ⊢
    obtain ⟨v, r, e, h1, h2⟩ := h
    exact ⟨v, r, e, RepD.shift d h1, RepL.shift ds h2⟩
end
theorem RepKV.shift {κ : Type} : ∀ {kvs : List (κ × D)} {xs : List (κ × V)}, RepKV K H (D₀ :: ν) μ kvs xs → RepKV K H ν (μ ++ [D₀]) kvs xs
  | [], xs, h => h
  | (q, d) :: r, xs, h => by
    unfold RepKV at h ⊢
    obtain ⟨v, r', e, h1, h2⟩ := h
    exact ⟨v, r', e, RepD.shift d h1, RepKV.shift h2⟩
theorem RepH.shift {o : O} {u : HO} (h : RepH C K H (D₀ :: ν) μ o u) : RepH C K H ν (μ ++ [D₀]) o u := by
  cases o with
  | lst ds => obtain ⟨xs, q, r⟩ := h; exact ⟨xs, q, RepL.shift _ r⟩
  | dic ds => obtain ⟨xs, q, r⟩ := h; exact ⟨xs, q, RepKV.shift r⟩
  | dit ds => obtain ⟨xs, q, r⟩ := h; exact ⟨xs, q, RepKV.shift r⟩
  | ins c ds => obtain ⟨dx, xs, q, r⟩ := h; exact ⟨dx, xs, q, RepKV.shift r⟩
  | frz o => exact h.elim
theorem RepO.shift {o : O} (h : RepO C K H (D₀ :: ν) μ o a) : RepO C K H ν (μ ++ [D₀]) o a := by
  cases o with
  | lst ds => obtain ⟨xs, q, r⟩ := h; exact ⟨xs, q, RepL.shift _ r⟩
  | dic ds => obtain ⟨xs, q, r⟩ := h; exact ⟨xs, q, RepKV.shift r⟩
  | dit ds => obtain ⟨xs, q, r⟩ := h; exact ⟨xs, q, RepKV.shift r⟩
  | ins c ds => obtain ⟨dx, xs, q, r⟩ := h; exact ⟨dx, xs, q, RepKV.shift r⟩
  | frz o => obtain ⟨ob, u, q, r⟩ := h; exact ⟨ob, u, q, r.shift⟩
theorem RS.shift (R : RS C K H (D₀ :: ν) μ g) (nn : D₀ ∉ ν) (hD : H D₀ = some (.lst xs)) (r : RepL K H (D₀ :: ν) μ ds xs) : RS C K H ν (μ ++ [D₀]) (g ++ [O.lst ds]) := by
  have nμ : D₀ ∉ μ := R.dj D₀ List.mem_cons_self
  refine ⟨by simp [R.len], List.nodup_append.mpr ⟨R.nd, by simp, fun a ha b hb z => ?_⟩, fun a ha z => ?_, fun a ha => R.nv a (List.mem_cons_of_mem _ ha), fun n u a e1 e2 => ?_, R.tb⟩
  · have : b = D₀ := by simpa using hb
    subst this; subst z; exact nμ ha
  · rcases List.mem_append.mp z with z | z
    · exact R.dj a (List.mem_cons_of_mem _ ha) z
    · have : a = D₀ := by simpa using z
      subst this; exact nn ha
  · by_cases hn : n < g.length
    · rw [List.getElem?_append_left hn] at e1
      rw [List.getElem?_append_left (by rw [R.len]; exact hn)] at e2
      exact (R.ob n u a e1 e2).shift
    · rw [List.getElem?_append_right (by omega)] at e1
      rw [List.getElem?_append_right (by rw [R.len]; omega), R.len] at e2
      cases hj : n - g.length with
      | zero =>
        rw [hj] at e1 e2
        simp at e1 e2
        subst e1; subst e2
        exact ⟨xs, hD, RepL.shift _ r⟩
      | succ j => rw [hj] at e1; simp at e1
theorem kp_bwrite (h : H D₀ = some (.lst xs)) : Kp (D₀ :: ν) H μ (upd H D₀ (.lst ys)) μ := ⟨⟨[], by simp, by simp⟩, fun b o e c _ => by
  rw [upd_ne fun z => ?_]; exact e
  rcases c with c | c
  · exact c.2 (by rw [z]; exact List.mem_cons_self)
  · rw [z, h] at e; cases e
    rcases c with ⟨_, c⟩ | ⟨_, _, c⟩ <;> cases c⟩
theorem RS.bwrite (R : RS C K H (D₀ :: ν) μ g) (h : H D₀ = some (.lst xs)) : RS C K (upd H D₀ (.lst ys)) (D₀ :: ν) μ g := by
  have k : Kp (D₀ :: ν) H μ (upd H D₀ (.lst ys)) μ := kp_bwrite h
  refine ⟨R.len, R.nd, R.dj, fun a ha => ?_, fun n u a e1 e2 => ?_, tabs_of R.tb fun b u e nc => ?_⟩
  · by_cases z : a = D₀
    · subst z; exact ⟨_, upd_same, trivial⟩
    · rw [upd_ne z]; exact R.nv a ha
  · exact (R.ob n u a e1 e2).mono k (upd_ne fun z => R.dj D₀ List.mem_cons_self (by rw [← z]; exact List.mem_of_getElem? e2))
  · rw [upd_ne fun z => by rw [z, h] at e; cases e; exact nc trivial]; exact e
end
section
variable {C : Cfg} {X : Cx} {W : WX} {e a b c o tg elt iter : Expr} {es rest ifs : List Expr} {f fa fb fc fe : FE} {fes : FA} {ft : FT} {pos p : Pos} {fi : FI} {fg : FG}
def DTs (C : Cfg) (X : Cx) (W : WX) (ifs : List Expr) (f : FT) : Prop := PTs X ifs (tT C X.K W f)
theorem PTs.imp {X : Cx} {e : List Expr} {t t' : TT} (h : PTs X e t) (i : ∀ σ H Q, t' σ H Q → t σ H Q) : PTs X e t' := ⟨fun pins s σ H Q I q => h.run pins s σ H Q I (i σ H Q q)⟩
def fYes : FT := fun _ g => .ok true g
theorem dts_nil : DTs C X W [] fYes := PTs.imp pts_nil fun σ H Q ⟨ρ, ν, μ, g, hE, hR, hP⟩ => hP H μ .refl hR
theorem dts_one (h : DT C X W c ft) : DTs C X W [c] ft := pts_one h
/-- the list of what a comprehension makes of the items -/
def lcD (vs : List Nat) (fg : FG) (ft : FT) (fe : FE) (ρ : Env') : List D → G → Res (List D)
  | [], g => .ok [] g
  | d :: r, g => match fg d (wipeD ρ vs) g with
    | .ok ρ1 g1 => match ft ρ1 g1 with
      | .ok true g2 => match fe ρ1 g2 with
        | .ok y g3 => (lcD vs fg ft fe ρ r g3).bind fun ys g4 => .ok (y :: ys) g4
        | _ => .stuck
      | .ok false g2 => lcD vs fg ft fe ρ r g2
      | _ => .stuck
    | _ => .stuck
def fLcK (k : List D → G → Res D) (vs : List Nat) (fi : FI) (fg : FG) (ft : FT) (fe : FE) : FE := fun ρ g => (fi ρ g).bind fun items g1 => if items.length ≤ sizeLine then (lcD vs fg ft fe ρ items g1).bind k else .stuck
/-- a comprehension: a list that stands still; a list that may change -/
def fLc := fLcK fun ys g => .ok (.lst ys) g
def fLcM := fLcK fun ys g => .ok (.loc g.length) (g ++ [O.lst ys])
def LcEnd (k : List D → G → Res D) : Prop := ∀ (C : Cfg) (K : PySem.W.Frag) (W : WX) (σ : St) (H0 H : Hp) (ν μ0 μ : List Addr) (g : G) (D₀ : Addr) (acc : List D) (xs : List V) (Q : VK),
  H0 D₀ = none → RS C K H (D₀ :: ν) μ g → Ext H0 μ0 H μ → D₀ ∉ ν → H D₀ = some (.lst xs) → RepL K H (D₀ :: ν) μ acc xs → Post C K W σ H0 ν μ0 (k acc g) Q → Q (.ref D₀) H
theorem lcEnd : LcEnd fun ys g => .ok (.lst ys) g := fun C K W σ H0 H ν μ0 μ g D₀ acc xs Q h0 R ex nn hD r hP =>
  hP _ H μ ex R.unban ⟨D₀, xs, rfl, hD, R.dj D₀ List.mem_cons_self, nn, RepL.less _ r⟩
theorem lcEndM : LcEnd fun ys g => .ok (.loc g.length) (g ++ [O.lst ys]) := fun C K W σ H0 H ν μ0 μ g D₀ acc xs Q h0 R ex nn hD r hP => by
  have nμ := R.dj D₀ List.mem_cons_self
  obtain ⟨more, em, hm⟩ := ex.mu
  refine hP _ H (μ ++ [D₀]) ⟨⟨more ++ [D₀], by rw [em, List.append_assoc], fun a ha => ?_⟩, ex.kp, ex.dm⟩ (R.shift nn hD r) ⟨D₀, rfl, ?_⟩
  · rcases List.mem_append.mp ha with z | z
    · exact hm a z
    · have : a = D₀ := by simpa using z
      rw [this]; exact free_none h0
  · rw [← R.len, List.getElem?_append_right (Nat.le_refl _)]
    simp
theorem lc_of {K : PySem.W.Frag} {k : List D → G → Res D} {ts vs : List Nat} {σ : St} {H : Hp} {Q : VK} (hk : LcEnd k) (hts : ∀ i ∈ ts, i ∈ vs) (h : tD C K W (fLcK k vs fi fg ft fe) σ H Q) :
    tLc (tI C K W fi) (tGt C K W0 ts fg) (tT C K W0 ft) (tD C K W0 fe) vs σ H Q := by
  obtain ⟨ρ, ν, μ, g, hE, hR, hP⟩ := h
  refine ⟨ρ, ν, μ, g, hE, hR, ?_⟩
  unfold fLcK at hP
  cases hf : fi ρ g with
  | err c g1 => simp only [hf, Res.bind] at hP; exact hP
  | stuck => simp only [hf, Res.bind] at hP; exact hP
  | ok items g1 =>
    simp only [hf, Res.bind] at hP
    by_cases hsz : items.length ≤ sizeLine
    case neg => rw [if_neg hsz] at hP; exact hP.elim
    rw [if_pos hsz] at hP
    intro J H1 μ1 ex1 R1 hY D₀ hD
    have hP1 := hP.ext ex1
    have hE1 := (hE.mono ex1.kp').more hD
    have nν : D₀ ∉ ν := fun z => by
      obtain ⟨xs, e, _⟩ := R1.nv D₀ z
      rw [hD] at e; cases e
    obtain ⟨_, exD⟩ := R1.new (o := .lst []) hD
    refine ⟨fun i m H => i ≤ items.length ∧ m = items.length - i ∧ ∃ μ g acc xs, RS C K H (D₀ :: ν) μ g ∧ Ext H1 μ1 H μ ∧ H D₀ = some (.lst xs) ∧ RepL K H (D₀ :: ν) μ acc xs ∧ acc.length ≤ i ∧
        Post C K W σ H1 ν μ1 ((lcD vs fg ft fe ρ (items.drop i) g).bind fun ys g' => k (acc ++ ys) g') Q,
      ⟨items.length, Nat.zero_le _, rfl, μ1, g1, [], [], R1.ban hD, exD, upd_same, rfl, Nat.le_refl _, by
        rw [List.drop_zero]
        unfold Res.bind
        cases hq : lcD vs fg ft fe ρ items g1 <;> simp only [hq] at hP1 ⊢ <;> exact hP1⟩, ?_⟩
    rintro i m H2 ⟨hi1, rfl, μ2, g2, acc, xs, R2, ex2, hD2, rA, hA, hP2⟩
    obtain ⟨y1, y2⟩ := hY i H2 ex2.kp
    by_cases hlt : i < items.length
    · right
      obtain ⟨hgo, hyl⟩ := y1 items[i] (by simp [hlt])
      rw [List.drop_eq_getElem_cons hlt] at hP2
      refine ⟨hgo, fun H' => ∃ μ g acc xs, RS C K H' (D₀ :: ν) μ g ∧ Ext H1 μ1 H' μ ∧ H' D₀ = some (.lst xs) ∧ RepL K H' (D₀ :: ν) μ acc xs ∧ acc.length ≤ i + 1 ∧
          Post C K W σ H1 ν μ1 ((lcD vs fg ft fe ρ (items.drop (i + 1)) g).bind fun ys g' => k (acc ++ ys) g') Q,
        fun H' ⟨μ', g', acc', xs', b1, b2, b3, b4, b5, b6⟩ => ⟨items.length - (i + 1), by omega, hlt, rfl, μ', g', acc', xs', b1, b2, b3, b4, b5, b6⟩, fun x H' hy => ?_⟩
      have hz := hyl x H' hy
      obtain ⟨e1, R3, r3⟩ := came ex2 R2 (d := items[i]) (x := x) (hz.imp (fun z => ⟨z.1, RepD.more hD _ z.2⟩) fun ⟨T, ps, dps, z1, z2, z3, z4, z5⟩ => ⟨T, ps, dps, z1, z2, z3, z4, RepL.more hD _ z5⟩)
      have ex3 := ex2.trans e1
      have nμ2 : D₀ ∉ μ2 := R2.dj D₀ List.mem_cons_self
      have hE3 := (hE1.mono ex3.kp').wipe vs
      refine ⟨items[i], wipeD ρ vs, D₀ :: ν, μ2, g2, hE3, R3, r3, ?_⟩
      unfold lcD at hP2
      cases hfg : fg items[i] (wipeD ρ vs) g2 with
      | err c g4 => simp only [hfg, Res.bind] at hP2; exact hP2.elim
      | stuck => simp only [hfg, Res.bind] at hP2; exact hP2
      | ok ρ4 g4 =>
        simp only [hfg] at hP2 ⊢
        intro σ4 H4 μ4 ex4 R4 hE4 w4
        refine ⟨(w4 vs hts).trans (wipe_idem vs), ρ4, D₀ :: ν, μ4, g4, hE4, R4, ?_⟩
        have nμ4 : D₀ ∉ μ4 := R4.dj D₀ List.mem_cons_self
        have hD3 := e1.kp _ _ hD2 (.inl nμ2) ntb_lst
        have hD4 := ex4.kp _ _ hD3 (.inl nμ2) ntb_lst
        cases hft : ft ρ4 g4 with
        | err c g5 => simp only [hft, Res.bind] at hP2; exact hP2.elim
        | stuck => simp only [hft, Res.bind] at hP2; exact hP2
        | ok bb g5 =>
          intro H5 μ5 ex5 R5
          have hD5 := ex5.kp _ _ hD4 (.inl nμ4) ntb_lst
          have ex5' := (ex3.trans ex4).trans ex5
          have rA5 := RepL.mono ((e1.trans ex4).trans ex5).kp' _ rA
          cases bb with
          | false =>
            simp only [hft] at hP2
            rw [if_neg (by decide)]
            exact ⟨μ5, g5, acc, xs, R5, ex5', hD5, rA5, Nat.le_succ_of_le hA, hP2⟩
          | true =>
            simp only [hft] at hP2
            rw [if_pos rfl]
            refine ⟨ρ4, D₀ :: ν, μ5, g5, hE4.mono ex5.kp', R5, ?_⟩
            cases hfe : fe ρ4 g5 with
            | err c g6 => simp only [hfe, Res.bind] at hP2; exact hP2.elim
            | stuck => simp only [hfe, Res.bind] at hP2; exact hP2
            | ok y g6 =>
              simp only [hfe] at hP2
              intro yv H6 μ6 ex6 R6 r6
              have nμ5 : D₀ ∉ μ5 := R5.dj D₀ List.mem_cons_self
              have hD6 := ex6.kp _ _ hD5 (.inl nμ5) ntb_lst
              have rA6 := RepL.mono ex6.kp' _ rA5
              have ex6' := ex5'.trans ex6
              have kp : Kp (D₀ :: ν) H6 μ6 (upd H6 D₀ (.lst (xs ++ [yv]))) μ6 := kp_bwrite hD6
              have lA := RepL.length rA6
              refine ⟨xs, hD6, by omega, μ6, g6, acc ++ [y], xs ++ [yv], R6.bwrite hD6, ?_, upd_same, RepL.mono kp _ (RepL.snoc r6 rA6), by simp; omega, ?_⟩
              · refine ⟨ex6'.mu, fun b o e c n => ?_, fun b o e n => ?_⟩
                · rw [upd_ne fun z => by rw [z, hD] at e; cases e]
                  exact ex6'.kp b o e c n
                · obtain ⟨o', e1, e2⟩ := ex6'.dm b o e n
                  exact ⟨o', by rw [upd_ne fun z => by rw [z, hD] at e; cases e]; exact e1, e2⟩
              · cases hq : lcD vs fg ft fe ρ (items.drop (i + 1)) g6 with
                | ok ys g7 =>
                  simp only [hq, Res.bind] at hP2 ⊢
                  rw [List.append_assoc]; exact hP2
                | err c g7 => simp only [hq, Res.bind] at hP2 ⊢; exact hP2
                | stuck => simp only [hq, Res.bind] at hP2 ⊢; exact hP2
    · left
      refine ⟨y2 (by omega), ?_⟩
      rw [List.drop_eq_nil_of_le (by omega)] at hP2
      unfold lcD at hP2
      simp only [Res.bind, List.append_nil] at hP2
      exact hk C K W σ H1 H2 ν μ1 μ2 g2 D₀ acc xs Q hD R2 ex2 nν hD2 rA hP2
section
variable {scope : Scope} {own : List (Str × Nat)} {ts : List Nat}
theorem dp_lcK {k : List D → G → Res D} (hk : LcEnd k) (hc : X.calm = true) (hN : X.N.Nodup) (hi : DI C X W tg iter fi) (ok : BlkOk X.N X.env.scope scope own) (hts : ∀ i ∈ ts, i ∈ own.map (·.2))
    (hg : ∀ (s : Shared) (H : Hp) (A : Addr) (cl : List (Str × Addr)) (fp : List Addr), DG C (X.blk s H scope (compEnvC scope cl A X.env) fp) W0 tg ts fg)
    (ht : ∀ (s : Shared) (H : Hp) (A : Addr) (cl : List (Str × Addr)) (fp : List Addr), DTs C (X.blk s H scope (compEnvC scope cl A X.env) fp) W0 ifs ft)
    (he : ∀ (s : Shared) (H : Hp) (A : Addr) (cl : List (Str × Addr)) (fp : List Addr), DP C (X.blk s H scope (compEnvC scope cl A X.env) fp) W0 elt fe)
    (hs : ∀ x, foldedSetIterable iter X.env x = pure x := by intro _; rfl) : DP C X W (.ListComp elt [⟨tg, iter, ifs, 0⟩] scope pos) (fLcK k (own.map (·.2)) fi fg ft fe) :=
  PE.imp (pe_lc (g := tGt C X.K W0 ts fg) (tt := tT C X.K W0 ft) (te := tD C X.K W0 fe) hc hN hi ok hg ht he hs) fun σ H Q h => lc_of hk hts h
/-- name = [..] on one line, the name a local -/
theorem ds_lcK {k : List D → G → Res D} {i : Nat} {y : Str} {py spos : Pos} (hk : LcEnd k) (hc : X.calm = true) (hN : X.N.Nodup) (hy : X.N[i]? = some y) (hyl : X.env.scope.names.lookup y = some .local)
    (hsw : swapsWith (.ListComp elt [⟨tg, iter, ifs, 0⟩] scope pos) (some (.Name y py)) spos.line X.env = pure true) (hi : DI C X W tg iter fi) (ok : BlkOk X.N X.env.scope scope own) (hts : ∀ i ∈ ts, i ∈ own.map (·.2))
    (hg : ∀ (s : Shared) (H : Hp) (A : Addr) (cl : List (Str × Addr)) (fp : List Addr), DG C (X.blk s H scope (compEnvC scope cl A X.env) fp) W0 tg ts fg)
    (ht : ∀ (s : Shared) (H : Hp) (A : Addr) (cl : List (Str × Addr)) (fp : List Addr), DTs C (X.blk s H scope (compEnvC scope cl A X.env) fp) W0 ifs ft)
    (he : ∀ (s : Shared) (H : Hp) (A : Addr) (cl : List (Str × Addr)) (fp : List Addr), DP C (X.blk s H scope (compEnvC scope cl A X.env) fp) W0 elt fe)
    (hs : ∀ x, foldedSetIterable iter X.env x = pure x := by intro _; rfl) : DS C X W (.Assign [.Name y py] (.ListComp elt [⟨tg, iter, ifs, 0⟩] scope pos) spos) (sAsg (fLcK k (own.map (·.2)) fi fg ft fe) (gNm i)) :=
  PS.imp (ps_setLc (g := tGt C X.K W0 ts fg) (tt := tT C X.K W0 ft) (te := tD C X.K W0 fe) hc hN hy hyl hsw hi ok hg ht he hs) fun E σ H h => by
    have h2 : tD C X.K W (fLcK k (own.map (·.2)) fi fg ft fe) σ H fun x H1 => gName i x σ H1 E.nx :=
      bindS (k := fun d ρ g1 => ((gNm i) d ρ g1).toS ρ fun ρ' g2 => .nx ρ' g2) h fun ρ ν μ g d v H1 hE hR r hP => hP _ H1 μ .refl hR (hE.set r i)
    exact lc_of hk hts h2
end
end
end Dl
end
section
set_option Elab.async false
set_option linter.all false
set_option maxRecDepth 100000
namespace Dl
open PySem L2
open PyProof.Rows (envOfC)
abbrev FN := List D → G → Res D
/-- a def's promise: it hands back what f says -/
def spD (C : Cfg) (K : PySem.W.Frag) (n : Nat) (f : FN) : Sp := fun vs H Q E => ∃ ds ν μ g, vs.length = n ∧ RepL K H ν μ ds vs ∧ RS C K H ν μ g ∧ Post C K (fun cls d _ H => E cls d H) [] H ν μ (f ds g) Q
/-- a def's body at its arguments -/
def runB (m : Nat) (fb : FS) : FN := fun ds g => match fb (ds.map some ++ List.replicate (m - ds.length) none) g with
  | .nx _ g' => .ok .non g'
  | .rt d g' => .ok d g'
  | .err c _ g' => .err c g'
  | _ => .stuck
section
variable {C : Cfg} {P : Program} {w : World} {K : PySem.W.Frag} {mg : Str → Option Value} {base : Heap}
theorem repE_start {H : Hp} {ν μ : List Addr} {ds : List D} {vs : List V} {N : List Str} (r : RepL K H ν μ ds vs) : RepE K H ν μ (ds.map some ++ List.replicate (N.length - ds.length) none) (L2.start N vs) := by
  have hl := RepL.length r
  refine ⟨by unfold L2.start; simp [hl], fun i d e => ?_⟩
  unfold L2.start
  by_cases hi : i < ds.length
  · rw [List.getElem?_append_left (by simpa using hi), List.getElem?_map] at e
    rw [List.getElem?_append_left (by simpa [← hl] using hi), List.getElem?_map]
    cases hd : ds[i]? with
    | none => rw [hd] at e; cases e
    | some d' =>
      rw [hd] at e; cases e
      obtain ⟨v, hv, rv⟩ := RepL.get r hd
      exact ⟨v, by rw [hv]; rfl, rv⟩
  · rw [List.getElem?_append_right (by simpa using hi)] at e
    rw [List.getElem?_replicate] at e
    split at e <;> cases e
/-- THE RULE for a def by its body -/
theorem fn_body {x qual : Str} {st : Stmt} {f : Addr} {fd : FuncData} {N ps : List Str} {k : Nat} {fb : FS} (F : Fun K x qual st f fd) (S : FnScope N ps (defScope st))
    (hb : ∀ (cdv : Value) (A : Around) (outer : List Env) (s : Shared) (H : Hp) (E : XK), Room k (A.deeper (envOfC qual (defScope st) s.heap.objs.size f cdv)) →
      Takes (cxOf (L2.CX P w) P w K mg base N qual (defScope st) f cdv A outer s H E) (fun cls d _ H => E cls d H) →
      PassesOwn (model P w) (A.deeper (envOfC qual (defScope st) s.heap.objs.size f cdv)) (envOfC qual (defScope st) s.heap.objs.size f cdv) (cxOf (L2.CX P w) P w K mg base N qual (defScope st) f cdv A outer s H E).xe →
      DB C (cxOf (L2.CX P w) P w K mg base N qual (defScope st) f cdv A outer s H E) (fun cls d _ H => E cls d H) (defBody st) fb) :
    FnOk P w K mg base (L2.CX P w) (k + 1) f fd ps (spD C K ps.length (runB N.length fb)) := by
  refine F.okX S (fun vs H Q E ⟨_, _, _, _, h, _⟩ => h) fun cdv A outer s H vs Q E hr h => ?_
  obtain ⟨ds, ν, μ, g, hl, r, R, hP⟩ := h
  refine ⟨_, hb cdv A outer s H E hr (takes_of rfl rfl rfl rfl) (passes_of rfl), _, ν, μ, g, repE_start r, R, ?_⟩
  unfold runB at hP
  cases hf : fb (ds.map some ++ List.replicate (N.length - ds.length) none) g with
  | nx ρ g' => simp only [hf] at hP; exact fun σ' H' μ' ex R' hE' => hP .non H' μ' ex R' rNon
  | rt d g' => simp only [hf] at hP; exact fun v H' μ' ex R' r' => hP v H' μ' ex R' r'
  | bk ρ g' => simp only [hf] at hP; exact hP.elim
  | ct ρ g' => simp only [hf] at hP; exact hP.elim
  | err c ρ g' => simp only [hf] at hP; exact fun σ' H' μ' ex R' hE' => hP H' μ' ex R'
  | stuck => simp only [hf] at hP; exact hP
end
section
variable {C : Cfg} {X : Cx} {W : WX} {e a b c o tg elt iter : Expr} {es rest ifs : List Expr} {f fa fb fc fe : FE} {fes : FA} {ft : FT} {pos p : Pos} {fi : FI} {fg : FG}
def fCall (fn : FN) (fes : FA) : FE := fun ρ g => (fes ρ g).bind fun ds g1 => fn ds g1
theorem post_w {K : PySem.W.Frag} {σ : St} {H : Hp} {Q : VK} {ν μ : List Addr} {r : Res D} (h : Post C K W σ H ν μ r Q) : Post C K (fun cls d _ H => W cls d σ H) [] H ν μ r Q := by
  cases r with
  | ok d g => exact h
  | err c g => exact h
  | stuck => exact h
/-- f(a, ..) of a def -/
theorem dp_call {k : Nat} {fa' : Addr} {fd : FuncData} {ps : List Str} {x : Str} {fn : FN} {n : Nat} (F : FnOk X.prog X.w X.K X.mg X.base (L2.CX X.prog X.w) k fa' fd ps (spD C X.K n fn)) (hn : n = es.length + 1) (hr : Room k X.A) (hg : Gl X x) (hm : X.mg x = some (.ref fa'))
    (hk : PySem.W.keepIn X.K (.ref fa') = true) (hb : Binds X.K fd ps []) (tk : Takes X W) (hl : ∀ ρ g ds g1, fes ρ g = .ok ds g1 → ds.length = n)
    (ha : DA C X W (e :: es) fes) (hdb : (x == ("__debug__" : Str)) = false := by decide) (he : starEach (e :: es) X.env = (false, eval e X.env) :: starEach es X.env := by rfl) (hpl : (backTo pos (starEach es X.env)).any (·.1) = false := by rfl) :
    DP C X W (.Call (.Name x p) (e :: es) [] pos) (fCall fn fes) :=
  PE.imp (pe_callS (E := WE W) F hr hg hm hk hb (passAt tk) ha hdb he hpl) fun σ H Q h => by
    obtain ⟨ρ, ν, μ, g, hE, hR, hP⟩ := h
    refine ⟨ρ, ν, μ, g, hE, hR, ?_⟩
    unfold fCall at hP
    cases hf : fes ρ g with
    | ok ds g1 =>
      simp only [hf, Res.bind] at hP
      exact fun vs H' μ' ex R' r => ⟨ds, ν, μ', g1, by rw [← RepL.length r]; exact hl _ _ _ _ hf, r, R', post_w (hP.ext ex)⟩
    | err c g1 => simp only [hf, Res.bind] at hP; exact hP
    | stuck => simp only [hf, Res.bind] at hP; exact hP
/-- f() -/
def fCall0 (fn : FN) : FE := fun _ g => fn [] g
theorem dp_call0 {k : Nat} {fa' : Addr} {fd : FuncData} {ps : List Str} {x : Str} {fn : FN} (F : FnOk X.prog X.w X.K X.mg X.base (L2.CX X.prog X.w) k fa' fd ps (spD C X.K 0 fn)) (hr : Room k X.A) (hg : Gl X x) (hm : X.mg x = some (.ref fa'))
    (hk : PySem.W.keepIn X.K (.ref fa') = true) (hb : Binds X.K fd ps []) (tk : Takes X W) (hdb : (x == ("__debug__" : Str)) = false := by decide) : DP C X W (.Call (.Name x p) [] [] pos) (fCall0 fn) := by
  refine ⟨fun pins s σ H Q I h => ?_⟩
  obtain ⟨ρ, ν, μ, g, hE, hR, hP⟩ := h
  refine wpAny_Call_Name_kw (ld_glob I hg hm ?_ hdb)
  exact PySem.W.callWith_K0 I.kIn hk <| run_fnS (E := WE W) F hr hb (passAt tk σ) I .nil ⟨[], ν, μ, g, rfl, rfl, hR, post_w hP⟩
theorem fes_len_nil : ∀ ρ g ds g1, fNil ρ g = .ok ds g1 → ds.length = 0 := fun ρ g ds g1 h => by
  unfold fNil at h; cases h; rfl
theorem fes_len_cons {fr : FA} {n : Nat} (h : ∀ ρ g ds g1, fr ρ g = .ok ds g1 → ds.length = n) : ∀ ρ g ds g1, fCons fa fr ρ g = .ok ds g1 → ds.length = n + 1 := fun ρ g ds g1 e => by
  unfold fCons at e
  cases hf : fa ρ g with
  | err c g => simp [hf, Res.bind] at e
  | stuck => simp [hf, Res.bind] at e
  | ok x g2 =>
    cases hr : fr ρ g2 with
    | err c g => simp [hf, hr, Res.bind] at e
    | stuck => simp [hf, hr, Res.bind] at e
    | ok r g3 =>
      simp only [hf, hr, Res.bind] at e
      cases e
      simp [h _ _ _ _ hr]

/-! ### built-ins by values -/
abbrev FB := List D → G → Res D
def NoErrB (o : FB) : Prop := ∀ xs g c g', o xs g ≠ .err c g'
def rB (C : Cfg) (K : PySem.W.Frag) (o : FB) : List V → Hp → VK → Prop := fun vs H Q => ∃ ds ν μ g, RS C K H ν μ g ∧ RepL K H ν μ ds vs ∧ ∀ W σ, Post C K W σ H ν μ (o ds g) Q
def fBi (o : FB) (fes : FA) : FE := fun ρ g => (fes ρ g).bind fun ds g1 => o ds g1
theorem tBi {K : PySem.W.Frag} {o : FB} {σ : St} {H : Hp} {Q : VK} (no : NoErrB o) (h : tD C K W (fBi o fes) σ H Q) : tCB (rB C K o) (tA C K W fes) σ H Q :=
  bindDA (k := fun ds _ g1 => o ds g1) h fun ρ ν μ g ds vs H1 hE hR r hP => ⟨ds, ν, μ, g, hR, r, fun W' σ' => post_any (fun _ _ => no _ _ _ _) hP W' σ'⟩
theorem dp_bi {id : String} {x : Str} {ob : FB} (no : NoErrB ob) (hc : CallR X (.builtin id) (rB C X.K ob)) (hg : Gl X x) (hm : X.mg x = none) (hv : bootBuiltins x = some (.builtin id)) (ha : DA C X W (e :: es) fes) (hn : x ≠ "__name__" := by decide) (hdb : (x == ("__debug__" : Str)) = false := by decide)
    (he : starEach (e :: es) X.env = (false, eval e X.env) :: starEach es X.env := by rfl) (hpl : (backTo pos (starEach es X.env)).any (·.1) = false := by rfl) : DP C X W (.Call (.Name x p) (e :: es) [] pos) (fBi ob fes) :=
  PE.imp (pe_callB hc hg hm hv ha hn hdb he hpl) fun σ H Q h => tBi no h
theorem dp_bt {T : String} {x : Str} {ob : FB} (no : NoErrB ob) (hc : CallR X (.type T) (rB C X.K ob)) (hg : Gl X x) (hm : X.mg x = none) (hv : bootBuiltins x = some (.type T)) (ha : DA C X W (e :: es) fes) (hn : x ≠ "__name__" := by decide) (hdb : (x == ("__debug__" : Str)) = false := by decide)
    (he : starEach (e :: es) X.env = (false, eval e X.env) :: starEach es X.env := by rfl) (hpl : (backTo pos (starEach es X.env)).any (·.1) = false := by rfl) : DP C X W (.Call (.Name x p) (e :: es) [] pos) (fBi ob fes) :=
  PE.imp (pe_callTy hc hg hm hv ha hn hdb he hpl) fun σ H Q h => tBi no h
theorem rL1 {K : PySem.W.Frag} {H : Hp} {ν μ : List Addr} {d : D} {vs : List V} (r : RepL K H ν μ [d] vs) : ∃ v, vs = [v] ∧ RepD K H ν μ d v := by
  unfold RepL RepL at r
  obtain ⟨v, _, rfl, r1, rfl⟩ := r
  exact ⟨v, rfl, r1⟩
theorem rL2 {K : PySem.W.Frag} {H : Hp} {ν μ : List Addr} {d e : D} {vs : List V} (r : RepL K H ν μ [d, e] vs) : ∃ v w, vs = [v, w] ∧ RepD K H ν μ d v ∧ RepD K H ν μ e w := by
  unfold RepL RepL RepL at r
  obtain ⟨v, _, rfl, r1, w, _, rfl, r2, rfl⟩ := r
  exact ⟨v, w, rfl, r1, r2⟩
theorem noerrB {o : FB} (h : ∀ xs g c g', o xs g = .err c g' → False) : NoErrB o := fun xs g c g' e => h xs g c g' e
def bAbs : FB
  | [.int i], g => .ok (.int (if i < 0 then -i else i)) g
  | _, _ => .stuck
theorem bAbs_n : NoErrB bAbs := noerrB fun xs g c g' e => by unfold bAbs at e; split at e <;> cases e
theorem bAbs_ok : CallR X (.builtin "abs") (rB C X.K bAbs) := by
  intro pins s σ H vs us Q I rv h
  obtain ⟨ds, ν, μ, g, R, r, hP⟩ := h
  have hP := hP (fun _ _ _ _ => False) σ
  unfold bAbs at hP
  split at hP
  · obtain ⟨v, rfl, r1⟩ := rL1 r
    obtain rfl : v = .int _ := r1
    exact call_abs pins s σ H _ us Q I rv ⟨_, rfl, hP.here R (rInt _)⟩
  · exact hP.elim
/-- the ints of data -/
def intsOf : List D → Option (List Int)
  | [] => some []
  | .int i :: r => (intsOf r).map (i :: ·)
  | _ :: _ => none
theorem intsOf_rd {K : PySem.W.Frag} {H : Hp} {ν μ : List Addr} : ∀ {ds : List D} {xs : List V} {ns : List Int}, RepL K H ν μ ds xs → intsOf ds = some ns → xs = ns.map V.int
  | [], xs, ns, r, e => by unfold RepL at r; subst r; unfold intsOf at e; cases e; rfl
  | d :: ds, xs, ns, r, e => by
    unfold RepL at r
    obtain ⟨v, q, rfl, r1, r2⟩ := r
    unfold intsOf at e
    split at e
    · rename_i h; cases h
    · rename_i i r' h
      cases h
      cases hq : intsOf ds with
      | none => rw [hq] at e; cases e
      | some ms =>
        rw [hq] at e; cases e
        obtain rfl : v = .int _ := r1
        rw [intsOf_rd r2 hq]; rfl
    · cases e
theorem intsOf_map : ∀ ns : List Int, intsOf (ns.map D.int) = some ns
  | [] => rfl
  | n :: ns => by simp [intsOf, intsOf_map ns]
def maxL : List Int → Int
  | [] => 0
  | [a] => a
  | a :: r => max a (maxL r)
def minL : List Int → Int
  | [] => 0
  | [a] => a
  | a :: r => min a (minL r)
theorem maxL_is : ∀ {ns : List Int} {m : Int}, m ∈ ns → (∀ y, y ∈ ns → y ≤ m) → maxL ns = m
  | [a], m, h, _ => (List.mem_singleton.mp h).symm
  | a :: b :: r, m, h, hm => by
    have h1 := hm a (by simp)
    show max a (maxL (b :: r)) = m
    rcases List.mem_cons.mp h with z | z
    · subst z
      have hx : ∀ {ns : List Int}, ns ≠ [] → maxL ns ∈ ns := by
        intro ns
        induction ns with
        | nil => intro h; exact absurd rfl h
        | cons c cs ih =>
          intro _
          cases cs with
          | nil => simp [maxL]
          | cons d ds =>
            show max c (maxL (d :: ds)) ∈ _
            rcases Int.le_total c (maxL (d :: ds)) with q | q
            · rw [Int.max_eq_right q]; exact List.mem_cons_of_mem _ (ih (by simp))
            · rw [Int.max_eq_left q]; simp
      exact Int.max_eq_left (hm _ (List.mem_cons_of_mem _ (hx (by simp))))
    · rw [maxL_is z fun y hy => hm y (List.mem_cons_of_mem _ hy)]
      exact Int.max_eq_right h1
theorem minL_is : ∀ {ns : List Int} {m : Int}, m ∈ ns → (∀ y, y ∈ ns → m ≤ y) → minL ns = m
  | [a], m, h, _ => (List.mem_singleton.mp h).symm
  | a :: b :: r, m, h, hm => by
    have h1 := hm a (by simp)
    show min a (minL (b :: r)) = m
    rcases List.mem_cons.mp h with z | z
    · subst z
      have hx : ∀ {ns : List Int}, ns ≠ [] → minL ns ∈ ns := by
        intro ns
        induction ns with
        | nil => intro h; exact absurd rfl h
        | cons c cs ih =>
          intro _
          cases cs with
          | nil => simp [minL]
          | cons d ds =>
            show min c (minL (d :: ds)) ∈ _
            rcases Int.le_total c (minL (d :: ds)) with q | q
            · rw [Int.min_eq_left q]; simp
            · rw [Int.min_eq_right q]; exact List.mem_cons_of_mem _ (ih (by simp))
      exact Int.min_eq_left (hm _ (List.mem_cons_of_mem _ (hx (by simp))))
    · rw [minL_is z fun y hy => hm y (List.mem_cons_of_mem _ hy)]
      exact Int.min_eq_right h1
def bSum : FB
  | [d], g => match (lstOf g d).bind intsOf with
    | some ns => .ok (.int ns.sum) g
    | none => .stuck
  | _, _ => .stuck
theorem bSum_n : NoErrB bSum := noerrB fun xs g c g' e => by unfold bSum at e; split at e <;> (try split at e) <;> cases e
theorem lst_ints {K : PySem.W.Frag} {H : Hp} {ν μ : List Addr} {g : G} {d : D} {v : V} {ns : List Int} (R : RS C K H ν μ g) (r : RepD K H ν μ d v) (e : (lstOf g d).bind intsOf = some ns) : ∃ a, v = .ref a ∧ SqL K H a (ns.map V.int) := by
  cases hl : lstOf g d with
  | none => rw [hl] at e; cases e
  | some ds =>
    rw [hl] at e
    obtain ⟨a, xs, rfl, h1, h2⟩ := lst_rd R r hl
    have := intsOf_rd h2 e
    subst this
    exact ⟨a, rfl, SqL.of h1⟩
theorem bSum_ok (hc : X.calm = true) : CallR X (.builtin "sum") (rB C X.K bSum) := by
  intro pins s σ H vs us Q I rv h
  obtain ⟨ds, ν, μ, g, R, r, hP⟩ := h
  have hP := hP (fun _ _ _ _ => False) σ
  unfold bSum at hP
  split at hP
  · obtain ⟨v, rfl, r1⟩ := rL1 r
    split at hP
    · rename_i ns e
      obtain ⟨a, rfl, hs⟩ := lst_ints R r1 e
      exact cr_sum hc pins s σ H _ us Q I rv ⟨a, ns, rfl, hs, hP.here R (rInt _)⟩
    · exact hP.elim
  · exact hP.elim
def bMin : FB
  | [.int i, .int j], g => .ok (.int (if j < i then j else i)) g
  | [d], g => match (lstOf g d).bind intsOf with
    | some (n :: ns) => .ok (.int (minL (n :: ns))) g
    | _ => .stuck
  | _, _ => .stuck
theorem bMin_n : NoErrB bMin := noerrB fun xs g c g' e => by unfold bMin at e; split at e <;> (try split at e) <;> cases e
theorem bMin_ok (hc : X.calm = true) : CallR X (.builtin "min") (rB C X.K bMin) := by
  intro pins s σ H vs us Q I rv h
  obtain ⟨ds, ν, μ, g, R, r, hP⟩ := h
  have hP := hP (fun _ _ _ _ => False) σ
  unfold bMin at hP
  split at hP
  · obtain ⟨v, w, rfl, r1, r2⟩ := rL2 r
    obtain rfl : v = .int _ := r1
    obtain rfl : w = .int _ := r2
    exact call_min2 hc pins s σ H _ us Q I rv ⟨_, _, rfl, hP.here R (rInt _)⟩
  · obtain ⟨v, rfl, r1⟩ := rL1 r
    split at hP
    · rename_i n ns e
      obtain ⟨a, rfl, hs⟩ := lst_ints R r1 e
      exact cr_min hc pins s σ H _ us Q I rv ⟨a, n :: ns, rfl, hs, by simp, fun m h1 h2 => by
        have := minL_is h1 h2
        rw [this] at hP
        exact hP.here R (rInt _)⟩
    · exact hP.elim
  · exact hP.elim
def bMax : FB
  | [.int i, .int j], g => .ok (.int (if j > i then j else i)) g
  | [d], g => match (lstOf g d).bind intsOf with
    | some (n :: ns) => .ok (.int (maxL (n :: ns))) g
    | _ => .stuck
  | _, _ => .stuck
theorem bMax_n : NoErrB bMax := noerrB fun xs g c g' e => by unfold bMax at e; split at e <;> (try split at e) <;> cases e
theorem bMax_ok (hc : X.calm = true) : CallR X (.builtin "max") (rB C X.K bMax) := by
  intro pins s σ H vs us Q I rv h
  obtain ⟨ds, ν, μ, g, R, r, hP⟩ := h
  have hP := hP (fun _ _ _ _ => False) σ
  unfold bMax at hP
  split at hP
  · obtain ⟨v, w, rfl, r1, r2⟩ := rL2 r
    obtain rfl : v = .int _ := r1
    obtain rfl : w = .int _ := r2
    exact call_max2 hc pins s σ H _ us Q I rv ⟨_, _, rfl, hP.here R (rInt _)⟩
  · obtain ⟨v, rfl, r1⟩ := rL1 r
    split at hP
    · rename_i n ns e
      obtain ⟨a, rfl, hs⟩ := lst_ints R r1 e
      exact cr_max hc pins s σ H _ us Q I rv ⟨a, n :: ns, rfl, hs, by simp, fun m h1 h2 => by
        have := maxL_is h1 h2
        rw [this] at hP
        exact hP.here R (rInt _)⟩
    · exact hP.elim
  · exact hP.elim
def bLen : FB
  | [.str z], g => if z.length ≤ sizeLine then .ok (.int z.length) g else .stuck
  | [d], g => match seqOf g d with
    | some ds => .ok (.int ds.length) g
    | none => .stuck
  | _, _ => .stuck
theorem bLen_n : NoErrB bLen := noerrB fun xs g c g' e => by unfold bLen at e; split at e <;> (try split at e) <;> cases e
theorem bLen_ok : CallR X (.builtin "len") (rB C X.K bLen) := by
  intro pins s σ H vs us Q I rv h
  obtain ⟨ds, ν, μ, g, R, r, hP⟩ := h
  have hP := hP (fun _ _ _ _ => False) σ
  unfold bLen at hP
  split at hP
  · obtain ⟨v, rfl, r1⟩ := rL1 r
    obtain rfl : v = .str _ := r1
    split at hP
    · rename_i hl
      exact call_len_str pins s σ H _ us Q I rv ⟨_, rfl, hl, hP.here R (rInt _)⟩
    · exact hP.elim
  · obtain ⟨v, rfl, r1⟩ := rL1 r
    split at hP
    · rename_i es e
      obtain ⟨a, xs, rfl, h1, h2⟩ := seq_rd R r1 e
      rw [RepL.length h2] at hP
      exact call_len_seq pins s σ H _ us Q I rv ⟨a, xs, rfl, h1, hP.here R (rInt _)⟩
    · exact hP.elim
  · exact hP.elim
def bInt : FB
  | [.int i], g => .ok (.int i) g
  | [.bl b], g => .ok (.int (if b then 1 else 0)) g
  | _, _ => .stuck
theorem bInt_n : NoErrB bInt := noerrB fun xs g c g' e => by unfold bInt at e; split at e <;> cases e
theorem bInt_ok : CallR X (.type "int") (rB C X.K bInt) := by
  intro pins s σ H vs us Q I rv h
  obtain ⟨ds, ν, μ, g, R, r, hP⟩ := h
  have hP := hP (fun _ _ _ _ => False) σ
  unfold bInt at hP
  split at hP
  · obtain ⟨v, rfl, r1⟩ := rL1 r
    obtain rfl : v = .int _ := r1
    exact call_int1 pins s σ H _ us Q I rv (.inl ⟨_, rfl, hP.here R (rInt _)⟩)
  · obtain ⟨v, rfl, r1⟩ := rL1 r
    obtain rfl : v = .bl _ := r1
    exact call_int1 pins s σ H _ us Q I rv (.inr ⟨_, rfl, hP.here R (rInt _)⟩)
  · exact hP.elim
def bStr : FB
  | [.int i], g => if i.natAbs.log2 < 1920 then .ok (.str (toString i)) g else .stuck
  | _, _ => .stuck
theorem bStr_n : NoErrB bStr := noerrB fun xs g c g' e => by unfold bStr at e; split at e <;> (try split at e) <;> cases e
theorem bStr_ok : CallR X (.type "str") (rB C X.K bStr) := by
  intro pins s σ H vs us Q I rv h
  obtain ⟨ds, ν, μ, g, R, r, hP⟩ := h
  have hP := hP (fun _ _ _ _ => False) σ
  unfold bStr at hP
  split at hP
  · obtain ⟨v, rfl, r1⟩ := rL1 r
    obtain rfl : v = .int _ := r1
    split at hP
    · rename_i hl
      exact call_str_int pins s σ H _ us Q I rv ⟨_, rfl, hl, hP.here R (rStr _)⟩
    · exact hP.elim
  · exact hP.elim
def bList : FB
  | [d], g => match seqOf g d with
    | some ds => .ok (.lst ds) g
    | none => .stuck
  | _, _ => .stuck
theorem bList_n : NoErrB bList := noerrB fun xs g c g' e => by unfold bList at e; split at e <;> (try split at e) <;> cases e
theorem bList_ok : CallR X (.type "list") (rB C X.K bList) := by
  intro pins s σ H vs us Q I rv h
  obtain ⟨ds, ν, μ, g, R, r, hP⟩ := h
  have hP := hP (fun _ _ _ _ => False) σ
  unfold bList at hP
  split at hP
  · obtain ⟨v, rfl, r1⟩ := rL1 r
    split at hP
    · rename_i es e
      obtain ⟨a, xs, rfl, h1, h2⟩ := seq_rd R r1 e
      exact call_list_of pins s σ H _ us Q I rv ⟨a, xs, rfl, h1, rD_lst R h2 hP⟩
    · exact hP.elim
  · exact hP.elim
def bTuple : FB
  | [.tup ds], g => .ok (.tup ds) g
  | [d], g => match lstOf g d with
    | some ds => .ok (.tup ds) g
    | none => .stuck
  | _, _ => .stuck
theorem bTuple_n : NoErrB bTuple := noerrB fun xs g c g' e => by unfold bTuple at e; split at e <;> (try split at e) <;> cases e
theorem bTuple_ok : CallR X (.type "tuple") (rB C X.K bTuple) := by
  intro pins s σ H vs us Q I rv h
  obtain ⟨ds, ν, μ, g, R, r, hP⟩ := h
  have hP := hP (fun _ _ _ _ => False) σ
  unfold bTuple at hP
  split at hP
  · obtain ⟨v, rfl, r1⟩ := rL1 r
    unfold RepD at r1
    obtain ⟨a, xs, rfl, h1, h2⟩ := r1
    exact call_tuple_of pins s σ H _ us Q I rv ⟨a, xs, rfl, .inr ⟨h1, hP.here R (rTup h1 h2)⟩⟩
  · obtain ⟨v, rfl, r1⟩ := rL1 r
    split at hP
    · rename_i es e
      obtain ⟨a, xs, rfl, h1, h2⟩ := lst_rd R r1 e
      exact call_tuple_of pins s σ H _ us Q I rv ⟨a, xs, rfl, .inl ⟨SqL.of h1, rD_tup R h2 hP⟩⟩
    · exact hP.elim
  · exact hP.elim
end
end Dl
end
section
set_option Elab.async false
set_option linter.all false
set_option maxRecDepth 100000
namespace Dl
open PySem L2
section
variable {C : Cfg} {X : Cx} {W : WX} {e a b c o i tg elt iter : Expr} {es rest ifs : List Expr} {f fa fb fc fe fo fi' : FE} {fes : FA} {ft : FT} {pos p apos cpos : Pos} {fi : FI} {fg : FG}
/-! ### o[i] = v -/
def setD (g : G) : D → D → D → Option G
  | .loc n, .int k, v => match g[n]? with
    | some (.lst xs) => match ixN xs.length k with
      | some j => some (g.set n (.lst (xs.set j v)))
      | none => none
    | _ => none
  | _, _, _ => none
def rSetD' (C : Cfg) (K : PySem.W.Frag) : TSet := fun o i v H Q => ∃ dO dI dV ν μ g g', RS C K H ν μ g ∧ RepD K H ν μ dO o ∧ RepD K H ν μ dI i ∧ RepD K H ν μ dV v ∧ setD g dO dI dV = some g' ∧ ∀ H', Ext H μ H' μ → RS C K H' ν μ g' → Q H'
theorem set_ok : PSet X (rSetD' C X.K) := by
  intro pins s σ H o i v ov iv u Q I ro ri rv h
  obtain ⟨dO, dI, dV, ν, μ, g, g', R, r1, r2, r3, hs, hQ⟩ := h
  unfold setD at hs
  split at hs
  · obtain rfl : i = .int _ := r2
    unfold RepD at r1
    obtain ⟨a, rfl, hn⟩ := r1
    split at hs
    · rename_i xs hg
      split at hs
      · rename_i j hj
        cases hs
        obtain ⟨vs, h1, h2⟩ := R.ob _ _ a hg hn
        obtain ⟨R', ex⟩ := R.write (o := .lst (vs.set j v)) (ob := .lst (xs.set j dV)) hn (by rw [hg]; nofun) ntb_lst fun ex => ⟨_, upd_same, RepL.mono ex.kp' _ (RepL.set r3 j h2)⟩
        exact set_list pins s σ H _ _ v ov iv u Q I ro ri rv ⟨a, vs, _, j, rfl, rfl, h1, by rw [← RepL.length h2]; exact hj, hQ _ ex R'⟩
      · cases hs
    · cases hs
  · cases hs
def gSb (fo fi : FE) : FG := fun d ρ g => (fo ρ g).bind fun o g1 => (fi ρ g1).bind fun i g2 => match setD g2 o i d with
  | some g3 => .ok ρ g3
  | none => .stuck
theorem dg_sub (ho : DP C X W o fo) (hi : DP C X W i fi')
    (ha : ∀ v, assign (.Subscript o i pos) X.env v = (do
      let ov ← holding [v] (eval o X.env)
      let iv ← holding [v, ov] (eval i X.env)
      standAt pos
      holding [v, ov, iv] (setItem ov iv v)
      release [v, ov, iv] []) := by intro _; rfl) : DG C X W (.Subscript o i pos) [] (gSb fo fi') :=
  PG.imp (pg_sub ho hi set_ok ha) fun v σ H Q ⟨d, ρ, ν, μ, g, hE, hR, r, hP⟩ => by
    refine ⟨ρ, ν, μ, g, hE, hR, ?_⟩
    unfold gSb at hP
    cases h1 : fo ρ g with
    | err c g1 => simp only [h1, Res.bind] at hP; exact hP
    | stuck => simp only [h1, Res.bind] at hP
    | ok dO g1 =>
      simp only [h1, Res.bind] at hP
      intro ov H1 μ1 ex1 R1 r1
      refine ⟨ρ, ν, μ1, g1, hE.mono ex1.kp', R1, ?_⟩
      cases h2 : fi' ρ g1 with
      | err c g2 =>
        simp only [h2] at hP
        exact fun H2 μ2 ex2 R2 => hP H2 μ2 (ex1.trans ex2) R2
      | stuck => simp only [h2] at hP
      | ok dI g2 =>
        simp only [h2] at hP
        intro iv H2 μ2 ex2 R2 r2
        cases h3 : setD g2 dO dI d with
        | none => simp only [h3] at hP
        | some g3 =>
          simp only [h3] at hP
          have e12 := ex1.trans ex2
          exact ⟨dO, dI, d, ν, μ2, g2, g3, R2, RepD.mono ex2.kp' _ r1, r2, RepD.mono e12.kp' _ r, h3, fun H3 ex3 R3 => hP σ H3 μ2 (e12.trans ex3) R3 (hE.mono (e12.trans ex3).kp') fun _ _ => rfl⟩
/-! ### o[i] op= v on lists -/
theorem get_list {pins : List (Addr × Obj)} {s : Shared} {σ : St} {H : Hp} {p : Addr} {xs : List V} {k : Int} {z : V} {iv : Value} {Q : VK} (I : Inv X pins σ H s) (ri : RelV (.int k) iv) (hq : SqL X.K H p xs) (he : atI xs k = some z) (q : Q z H) :
    wpAny (model X.prog X.w) X.A (getItem (.ref p) iv) (EP X pins σ Q) X.xe s := by
  obtain ⟨t, rfl⟩ := ri
  obtain ⟨its, r, pl, hz⟩ := I.list hq
  obtain ⟨j, h1, h2, h3, h4, h5⟩ := atI_get he
  obtain ⟨w, ew, rw'⟩ := r.get h2
  have hl := r.length
  have hn := line63
  have fin : EP X pins σ Q w s := ⟨z, H, I, rw', q⟩
  by_cases h0 : 0 ≤ k
  · have hj : k.toNat = j := by
      rw [seqIndex_of h0 h5] at h1
      exact Option.some.inj h1
    exact wpAny_getItem_list (x := w) pl.isList h0 (by omega) (by rw [hj]; simpa using ew) fin
  · have hj : (k + (its.toArray.size : Int)).toNat = j := by
      rw [seqIndex_neg (by omega) h4] at h1
      rw [List.size_toArray, ← hl]
      exact Option.some.inj h1
    exact wpAny_getItem_list_neg (x := w) pl.isList (by omega) (by rw [List.size_toArray] <;> omega) (by omega) (by rw [hj]; simpa using ew) fin
def getD' (g : G) : D → D → Option D
  | .loc n, .int k => match g[n]? with
    | some (.lst xs) => atI xs k
    | _ => none
  | _, _ => none
def rGetD (C : Cfg) (K : PySem.W.Frag) : V → V → Hp → VK → Prop := fun o i H Q => ∃ dO dI ν μ g d, RS C K H ν μ g ∧ RepD K H ν μ dO o ∧ RepD K H ν μ dI i ∧ getD' g dO dI = some d ∧ ∀ v, RepD K H ν μ d v → Q v H
theorem get_ok : PGet X (rGetD C X.K) := by
  intro pins s σ H o i ov iv Q I ro ri h
  obtain ⟨dO, dI, ν, μ, g, d, R, r1, r2, hs, hQ⟩ := h
  unfold getD' at hs
  split at hs
  · obtain rfl : i = .int _ := r2
    unfold RepD at r1
    obtain ⟨a, rfl, hn⟩ := r1
    split at hs
    · rename_i xs hg
      obtain ⟨vs, h1, h2⟩ := R.ob _ _ a hg hn
      obtain ⟨v, hv, rv⟩ := atI_rep h2 hs
      cases ro
      exact get_list I ri (SqL.of h1) hv (hQ v rv)
    · cases hs
  · cases hs
def sAugS (fo fi : FE) (op : F2) (f : FE) : FS := fun ρ g => (fo ρ g).toS ρ fun o g1 => (fi ρ g1).toS ρ fun i g2 => match getD' g2 o i with
  | some x => (f ρ g2).toS ρ fun y g3 => (op x y g3).toS ρ fun z g4 => match setD g4 o i z with
    | some g5 => .nx ρ g5
    | none => .stuck
  | none => .stuck
theorem ds_augS {op : Operator} {ov : F2} {tpos : Pos} (ho : DP C X W o fo) (hi : DP C X W i fi') (he : DP C X W e f) (no : NoErr ov) (hop : OpR X (inplaceOp op) (rD C X.K ov))
    (ha : ∀ ov iv new, augStore i ov iv new = (do holding [new, ov, iv] (setItem ov iv new); release [new, ov, iv] []; pure .next) := by intros; rfl) : DS C X W (.AugAssign (.Subscript o i tpos) op e pos) (sAugS fo fi' ov f) :=
  PS.imp (ps_augS ho hi get_ok he hop set_ok ha) fun E σ H ⟨ρ, ν, μ, g, hE, hR, hP⟩ => by
    refine ⟨ρ, ν, μ, g, hE, hR, ?_⟩
    unfold sAugS at hP
    cases h1 : fo ρ g with
    | err c g1 => simp only [h1, Res.toS] at hP; exact fun H' μ' ex R' => hP σ H' μ' ex R' (hE.mono ex.kp')
    | stuck => simp only [h1, Res.toS] at hP; exact hP
    | ok dO g1 =>
      simp only [h1, Res.toS] at hP
      intro xo H1 μ1 ex1 R1 r1
      have hP := hP.ext ex1
      have hE1 := hE.mono ex1.kp'
      refine ⟨ρ, ν, μ1, g1, hE1, R1, ?_⟩
      cases h2 : fi' ρ g1 with
      | err c g2 => simp only [h2] at hP; exact fun H' μ' ex R' => hP σ H' μ' ex R' (hE1.mono ex.kp')
      | stuck => simp only [h2] at hP; exact hP
      | ok dI g2 =>
        simp only [h2] at hP
        intro xi H2 μ2 ex2 R2 r2
        have hP := hP.ext ex2
        have hE2 := hE1.mono ex2.kp'
        have r1 := RepD.mono ex2.kp' _ r1
        cases h3 : getD' g2 dO dI with
        | none => simp only [h3] at hP; exact hP.elim
        | some x =>
          simp only [h3] at hP
          refine ⟨dO, dI, ν, μ2, g2, x, R2, r1, r2, h3, fun xv rx => ⟨ρ, ν, μ2, g2, hE2, R2, ?_⟩⟩
          cases h4 : f ρ g2 with
          | err c g3 => simp only [h4] at hP; exact fun H' μ' ex R' => hP σ H' μ' ex R' (hE2.mono ex.kp')
          | stuck => simp only [h4] at hP; exact hP
          | ok y g3 =>
            simp only [h4] at hP
            intro yv H3 μ3 ex3 R3 ry
            have hP := hP.ext ex3
            have hE3 := hE2.mono ex3.kp'
            refine ⟨x, y, ν, μ3, g3, R3, RepD.mono ex3.kp' _ rx, ry, fun W' σ' => ?_⟩
            cases h5 : ov x y g3 with
            | err c g4 => exact absurd h5 (no _ _ _ _ _)
            | stuck => simp only [h5] at hP; exact hP
            | ok z g4 =>
              simp only [h5] at hP
              intro zv H4 μ4 ex4 R4 rz
              have hP := hP.ext ex4
              cases h6 : setD g4 dO dI z with
              | none => simp only [h6] at hP; exact hP.elim
              | some g5 =>
                simp only [h6] at hP
                exact ⟨dO, dI, z, ν, μ4, g4, g5, R4, RepD.mono (ex3.trans ex4).kp' _ r1, RepD.mono (ex3.trans ex4).kp' _ r2, rz, h6, fun H5 ex5 R5 => hP σ H5 μ4 ex5 R5 (hE3.mono (ex4.trans ex5).kp')⟩
/-! ### in-place sums -/
def oAddI : F2
  | .int i, .int j, g => .ok (.int (i + j)) g
  | .str a, .str b, g => if a.length + b.length ≤ sizeLine then .ok (.str (a ++ b)) g else .stuck
  | .loc n, y, g => match g[n]? with
    | some (.lst xs) => match lstOf g y with
      | some ys => if xs.length + ys.length ≤ sizeLine then .ok (.loc n) (g.set n (.lst (xs ++ ys))) else .stuck
      | none => .stuck
    | _ => .stuck
  | _, _, _ => .stuck
theorem oAddI_n : NoErr oAddI := noerr fun x y g c g' e => by unfold oAddI at e; split at e <;> (repeat' (split at e)) <;> cases e
theorem oAddI_ok : OpR X (inplaceOp .Add) (rD C X.K oAddI) := by
  intro pins s σ H x y v u Q I rx ry h
  obtain ⟨dx, dy, ν, μ, g, R, r1, r2, hP⟩ := h
  have hP := hP (fun _ _ _ _ => False) σ
  unfold oAddI at hP
  split at hP
  · obtain rfl : x = .int _ := r1
    obtain rfl : y = .int _ := r2
    exact iop_add pins s σ H _ _ v u Q I rx ry ⟨_, _, rfl, rfl, hP.here R (rInt _)⟩
  · obtain rfl : x = .str _ := r1
    obtain rfl : y = .str _ := r2
    split at hP
    · rename_i hl
      exact iop_add_str pins s σ H _ _ v u Q I rx ry ⟨_, _, rfl, rfl, hl, hP.here R (rStr _)⟩
    · exact hP.elim
  · split at hP
    · rename_i xs hg
      split at hP
      · rename_i ys hy
        split at hP
        · rename_i hl
          unfold RepD at r1
          obtain ⟨a, rfl, hn⟩ := r1
          obtain ⟨vs, h1, h2⟩ := R.ob _ _ a hg hn
          obtain ⟨b, ws, rfl, h3, h4⟩ := lst_rd R r2 hy
          obtain ⟨R', ex⟩ := R.write (o := .lst (vs ++ ws)) (ob := .lst (xs ++ ys)) hn (by rw [hg]; nofun) ntb_lst fun ex => ⟨_, upd_same, RepL.mono ex.kp' _ (RepL.app h2 h4)⟩
          have l1 := RepL.length h2
          have l2 := RepL.length h4
          exact iop_ext pins s σ H _ _ v u Q I rx ry ⟨a, b, vs, ws, rfl, rfl, h1, h3, by omega, hP _ _ _ ex R' ⟨a, rfl, hn⟩⟩
        · exact hP.elim
      · exact hP.elim
    · exact hP.elim
  · exact hP.elim
def oSubI : F2
  | .int i, .int j, g => .ok (.int (i - j)) g
  | _, _, _ => .stuck
theorem oSubI_n : NoErr oSubI := noerr fun x y g c g' e => by unfold oSubI at e; split at e <;> cases e
theorem oSubI_ok : OpR X (inplaceOp .Sub) (rD C X.K oSubI) := by
  intro pins s σ H x y v u Q I rx ry h
  obtain ⟨dx, dy, ν, μ, g, R, r1, r2, hP⟩ := h
  have hP := hP (fun _ _ _ _ => False) σ
  unfold oSubI at hP
  split at hP
  · obtain rfl : x = .int _ := r1
    obtain rfl : y = .int _ := r2
    exact iop_sub pins s σ H _ _ v u Q I rx ry ⟨_, _, rfl, rfl, hP.here R (rInt _)⟩
  · exact hP.elim
/-! ### methods of built-in types -/
abbrev FM := D → List D → G → Res D
def NoErrM (o : FM) : Prop := ∀ x xs g c g', o x xs g ≠ .err c g'
def rM (C : Cfg) (K : PySem.W.Frag) (o : FM) : V → List V → Hp → VK → Prop := fun x vs H Q => ∃ dx ds ν μ g, RS C K H ν μ g ∧ RepD K H ν μ dx x ∧ RepL K H ν μ ds vs ∧ ∀ W σ, Post C K W σ H ν μ (o dx ds g) Q
/-- the receiver's kind -/
def isKind (T : String) (g : G) : D → Bool
  | .str _ => decide (T = "str")
  | .lst _ => decide (T = "list")
  | .loc n => match g[n]? with
    | some (.lst _) => decide (T = "list")
    | some (.dic _) => decide (T = "dict")
    | some (.dit _) => decide (T = "dict")
    | _ => false
  | _ => false
theorem isKind_ty {K : PySem.W.Frag} {H : Hp} {ν μ : List Addr} {g : G} {d : D} {v : V} {T : String} (R : RS C K H ν μ g) (r : RepD K H ν μ d v) (h : isKind T g d = true) : tyV K T v H := by
  unfold isKind at h
  split at h
  · obtain rfl : v = .str _ := r
    show T = "str"
    exact of_decide_eq_true h
  · unfold RepD at r
    obtain ⟨a, xs, rfl, h1, _⟩ := r
    exact .inl ⟨of_decide_eq_true h, xs, SqL.of h1⟩
  · unfold RepD at r
    obtain ⟨a, rfl, hn⟩ := r
    split at h
    · rename_i hg
      obtain ⟨vs, h1, _⟩ := R.ob _ _ a hg hn
      exact .inl ⟨of_decide_eq_true h, vs, SqL.of h1⟩
    · rename_i hg
      obtain ⟨vs, h1, _⟩ := R.ob _ _ a hg hn
      exact .inr (.inr (.inl ⟨of_decide_eq_true h, .inl ⟨vs, h1⟩⟩))
    · rename_i hg
      obtain ⟨vs, h1, _⟩ := R.ob _ _ a hg hn
      exact .inr (.inr (.inl ⟨of_decide_eq_true h, .inr ⟨vs, h1⟩⟩))
    · cases h
  · cases h
def fMt (T : String) (om : FM) (fo : FE) (fes : FA) : FE := fun ρ g => (fo ρ g).bind fun x g1 => if isKind T g1 x then (fes ρ g1).bind fun ds g2 => om x ds g2 else .stuck
theorem dp_mt {T id : String} {name : Str} {om : FM} (pa : PlainAttrs T) (slot : Slot T name id) (hty : typeOf (.builtin id) = pure (.type "method_descriptor")) (no : NoErrM om) (hm : MtR X id (rM C X.K om)) (ho : DP C X W o fo) (ha : DA C X W (e :: es) fes)
    (hbase : attributeBase o name X.env (eval o X.env) = eval o X.env := by rfl)
    (hfew : ((backTo cpos (starEach (e :: es) X.env)).all (fun x => !x.1) && (backToKw cpos (keywordEach [] X.env)).all (fun x => x.1.isSome)
      && decide ((e :: es).length + ([] : List Keyword).length + (if ([] : List Keyword).isEmpty then 0 else 1) < 30)) = true := by rfl)
    (hline : (apos.endLine == cpos.line) = true := by rfl) (hs : starEach (e :: es) X.env = (false, eval e X.env) :: starEach es X.env := by rfl) (hplain : (backTo cpos (starEach es X.env)).any (·.1) = false := by rfl) :
    DP C X W (.Call (.Attribute o name apos) (e :: es) [] cpos) (fMt T om fo fes) :=
  PE.imp (pe_bm pa slot hty hm ho ha hbase hfew hline hs hplain) fun σ H Q h => by
    refine bindD (k := fun x ρ g1 => if isKind T g1 x then (fes ρ g1).bind fun ds g2 => om x ds g2 else .stuck) h fun ρ ν μ g dx x H1 hE hR rx hP => ?_
    by_cases hk : isKind T g dx = true
    · rw [if_pos hk] at hP
      refine ⟨isKind_ty hR rx hk, ρ, ν, μ, g, hE, hR, ?_⟩
      cases hf : fes ρ g with
      | err c g2 => simp only [hf, Res.bind] at hP; exact hP
      | stuck => simp only [hf, Res.bind] at hP; exact hP
      | ok ds g2 =>
        simp only [hf, Res.bind] at hP
        exact fun vs H2 μ2 ex R2 r2 => ⟨dx, ds, ν, μ2, g2, R2, RepD.mono ex.kp' _ rx, r2, fun W' σ' => post_any (fun _ _ => no _ _ _ _ _) (hP.ext ex) W' σ'⟩
    · rw [if_neg hk] at hP; exact hP.elim
def fMt0 (T : String) (om : FM) (fo : FE) : FE := fun ρ g => (fo ρ g).bind fun x g1 => if isKind T g1 x then om x [] g1 else .stuck
theorem dp_mt0 {T id : String} {name : Str} {om : FM} (pa : PlainAttrs T) (slot : Slot T name id) (hty : typeOf (.builtin id) = pure (.type "method_descriptor")) (no : NoErrM om) (hm : MtR X id (rM C X.K om)) (ho : DP C X W o fo)
    (hbase : attributeBase o name X.env (eval o X.env) = eval o X.env := by rfl) (hline : (apos.endLine == cpos.line) = true := by rfl) : DP C X W (.Call (.Attribute o name apos) [] [] cpos) (fMt0 T om fo) :=
  PE.imp (pe_bm0 pa slot hty hm ho hbase hline) fun σ H Q h => by
    refine bindD (k := fun x ρ g1 => if isKind T g1 x then om x [] g1 else .stuck) h fun ρ ν μ g dx x H1 hE hR rx hP => ?_
    by_cases hk : isKind T g dx = true
    · rw [if_pos hk] at hP
      exact ⟨isKind_ty hR rx hk, dx, [], ν, μ, g, hR, rx, rfl, fun W' σ' => post_any (fun _ _ => no _ _ _ _ _) hP W' σ'⟩
    · rw [if_neg hk] at hP; exact hP.elim
def mApp : FM
  | .loc n, [d], g => match g[n]? with
    | some (.lst xs) => if xs.length < sizeLine then .ok .non (g.set n (.lst (xs ++ [d]))) else .stuck
    | _ => .stuck
  | _, _, _ => .stuck
theorem mApp_n : NoErrM mApp := fun x xs g c g' e => by unfold mApp at e; split at e <;> (repeat' (split at e)) <;> cases e
theorem mApp_ok : MtR X "list.append" (rM C X.K mApp) := by
  intro pins s σ H x vs v us Q I rx rv h
  obtain ⟨dx, ds, ν, μ, g, R, r1, r2, hP⟩ := h
  have hP := hP (fun _ _ _ _ => False) σ
  unfold mApp at hP
  split at hP
  · split at hP
    · rename_i xs hg
      split at hP
      · rename_i hl
        unfold RepD at r1
        obtain ⟨a, rfl, hn⟩ := r1
        obtain ⟨ws, h1, h2⟩ := R.ob _ _ a hg hn
        obtain ⟨y, rfl, ry⟩ := rL1 r2
        obtain ⟨R', ex⟩ := R.write (o := .lst (ws ++ [y])) (ob := .lst (xs ++ [_])) hn (by rw [hg]; nofun) ntb_lst fun ex => ⟨_, upd_same, RepL.mono ex.kp' _ (RepL.snoc ry h2)⟩
        have l1 := RepL.length h2
        exact mt_append pins s σ H _ _ v us Q I rx rv ⟨a, ws, y, rfl, rfl, h1, by omega, hP _ _ _ ex R' rNon⟩
      · exact hP.elim
    · exact hP.elim
  · exact hP.elim
/-! ### texts -/
def fFmt (f : FE) : FE := fun ρ g => (f ρ g).bind fun x g1 => match x with
  | .str y => if y.length ≤ sizeLine then .ok (.str y) g1 else .stuck
  | .int i => if i.natAbs.log2 < 1920 then .ok (.str (toString i)) g1 else .stuck
  | _ => .stuck
theorem dp_fmt (h : DP C X W e f) : DP C X W (.FormattedValue e (-1) none pos) (fFmt f) := PE.imp (pe_fmt h) fun σ H Q hq =>
  bindD (k := fun x _ g1 => match x with
  | .str y => if y.length ≤ sizeLine then .ok (.str y) g1 else .stuck
  | .int i => if i.natAbs.log2 < 1920 then .ok (.str (toString i)) g1 else .stuck
  | _ => .stuck) hq fun ρ ν μ g d v H1 hE hR r hP => by
    split at hP
    · obtain rfl : v = .str _ := r
      split at hP
      · rename_i hl
        exact .inl ⟨_, rfl, hl, hP.here hR (rStr _)⟩
      · exact hP.elim
    · obtain rfl : v = .int _ := r
      split at hP
      · rename_i hl
        exact .inr ⟨_, rfl, hl, hP.here hR (rStr _)⟩
      · exact hP.elim
    · exact hP.elim
/-- the parts of f'..' one behind the other -/
def fJs : List FE → Str → FE
  | [], acc => fun _ g => .ok (.str acc) g
  | f :: r, acc => fun ρ g => (f ρ g).bind fun x g1 => match x with
    | .str y => if (acc ++ y).length ≤ sizeLine then fJs r (acc ++ y) ρ g1 else .stuck
    | _ => .stuck
inductive DJ (C : Cfg) (X : Cx) (W : WX) : List Expr → List FE → Prop where
  | nil : DJ C X W [] []
  | cons {e : Expr} {f : FE} {es : List Expr} {fs : List FE} (h : DP C X W e f) (r : DJ C X W es fs) : DJ C X W (e :: es) (f :: fs)
theorem DJ.pj {es : List Expr} {fs : List FE} (h : DJ C X W es fs) : PJ X es (fs.map (tD C X.K W)) := by
  induction h with
  | nil => exact .nil
  | cons h r ih => exact .cons h ih
theorem tJs_of {K : PySem.W.Frag} {σ : St} : ∀ {fs : List FE} {acc : Str} {H : Hp} {Q : VK}, tD C K W (fJs fs acc) σ H Q → tJs (fs.map (tD C K W)) acc σ H fun out H1 => Q (.str out) H1
  | [], acc, H, Q, ⟨ρ, ν, μ, g, hE, hR, hP⟩ => hP.here hR (rStr _)
  | f :: r, acc, H, Q, h =>
    bindD (k := fun x ρ g1 => match x with
      | .str y => if (acc ++ y).length ≤ sizeLine then fJs r (acc ++ y) ρ g1 else .stuck
      | _ => .stuck) h fun ρ ν μ g d v H1 hE hR rv hP => by
        split at hP
        · obtain rfl : v = .str _ := rv
          split at hP
          · rename_i hl
            exact ⟨_, rfl, hl, tJs_of ⟨ρ, ν, μ, g, hE, hR, hP⟩⟩
          · exact hP.elim
        · exact hP.elim
theorem dp_joined {v1 v2 : Expr} {fs : List FE} (h : DJ C X W (v1 :: v2 :: rest) fs) : DP C X W (.JoinedStr (v1 :: v2 :: rest) pos) (fJs fs Str.empty) := PE.imp (pe_joined h.pj) fun σ H Q hq => tJs_of hq
theorem dp_joined1 (h : DP C X W e f) : DP C X W (.JoinedStr [e] pos) f := pe_joined1 h
end
end Dl
end
section
set_option Elab.async false
set_option linter.all false
set_option maxRecDepth 100000
namespace Dl
open PySem L2
section
variable {C : Cfg} {K : PySem.W.Frag} {H H' : Hp} {ν μ μ' : List Addr} {g : G}
/-- only the tables have grown, new things may stand -/
theorem ext_of_n (e : LamX.ExtN H H') : Ext H μ H' μ := ⟨⟨[], by simp, by simp⟩, fun b o h _ n => e b o h n, fun b o h n => ⟨o, e b o h n, n⟩⟩
theorem RS.extN (R : RS C K H ν μ g) (e : LamX.ExtN H H') (t : LamX.Tabs C.tabs H') : RS C K H' ν μ g := by
  have ex : Ext H μ H' μ := ext_of_n e
  refine ⟨R.len, R.nd, R.dj, fun a ha => ?_, fun n u a e1 e2 => ?_, t⟩
  · obtain ⟨xs, h, c⟩ := R.nv a ha
    exact ⟨xs, e _ _ h c.ntb, c⟩
  · have q := R.ob n u a e1 e2
    obtain ⟨w, hw, cw⟩ := q.ch
    exact q.mono ex.kp' (by rw [e _ _ hw cw.ntb, hw])
end
section
variable {C : Cfg} {X : Cx} {W : WX} {f : FE} {pos p : Pos}
/-- told: the value, or the word where it was refused -/
def fTold (ok : Nat → Bool) (ret : Str) (fb : FE) : FE := fun ρ g => match fb ρ g with
  | .ok d g1 => .ok d g1
  | .err c g1 => if ok c then .ok (.str ret) g1 else .stuck
  | .stuck => .stuck
open LamX in
/-- x(lambda: body), x's own body: try: return a() / except e: return ret -/
theorem dp_told {x a ex ret : Str} {gA c P CS : Addr} {k j : Nat} {pg : Arguments} {sg : Scope} {dV kV doc pm cdv ct oc : Value} {an od : Option Addr} {osl : Array (Option Value)} {Ng : List Str} {okc : Nat → Bool}
    {params : Arguments} {body : Expr} {scope : Scope} {lpos : Pos} {p1 p2 p3 p4 p5 p6 p7 p8 : Pos} (hg : Gl X x) (hm : X.mg x = some (.ref gA)) (hk : PySem.W.keepIn X.K (.ref gA) = true)
    (lk : X.K.lookup gA = some ⟨oc, od, .func (PySem.W.fnOf x x pg [.Try [.Return (some (.Call (.Name a p1) [] [] p2)) p3] [.ExceptHandler (some (.Name ex p4)) none [.Return (some (.Constant (.str ret) j p5)) p6] p7] [] [] p8] sg dV kV doc pm an cdv ct), osl⟩)
    (hcg : PySem.W.codeIn X.K cdv x = true) (hb : L2.Binds X.K (PySem.W.fnOf x x pg [.Try [.Return (some (.Call (.Name a p1) [] [] p2)) p3] [.ExceptHandler (some (.Name ex p4)) none [.Return (some (.Constant (.str ret) j p5)) p6] p7] [] [] p8] sg dV kV doc pm an cdv ct) [a] [])
    (Sg : FnScope Ng [a] sg) (hNg : Ng[0]? = some a) (hva : Vis sg a) (hge : sg.names.lookup ex = some .globalImplicit) (hme : X.mg ex = some (.ref CS)) (hde : (ex == ("__debug__" : Str)) = false) (h0 : ∀ f : Addr, (L2.start Ng [V.ref f])[0]? = some (some (V.ref f)))
    (hcat : ∀ n, okc n = true → PySem.W.exmOne X.K (.ref (C.exc n)) (.ref CS) = some true)
    (TB : TabB X.base X.mg c P) (hcode : X.env.code = .ref c) (hmT : (P, X.env.qual ++ "<lambda>") ∈ C.tabs) (hu : ∀ p ∈ C.tabs, p.1 = P → p.2 = X.env.qual ++ "<lambda>") (hr : Room (k + 2) X.A) (L : LamS X.env.scope scope) (hdef : defaultsOf params X.env = ([], []))
    (hbind : ∀ (q : Str) (cl : List (Str × Addr)) (pm cv ctv : Value), bindArgs (PySem.W.kla_fn "<lambda>" q params body scope cl pm cv ctv) ⟨[], []⟩ = pure [])
    (hbody : ∀ (A : Around) (outer : List Env) (s : Shared) (H : Hp) (E : XK) (fl c' : Addr), Room k (A.deeper (lamEnv X scope s.heap.objs.size fl c')) → Takes (lamCx X A outer s H E scope fl c') (fun cls d _ H => E cls d H) →
      DP C (lamCx X A outer s H E scope fl c') (fun cls d _ H => E cls d H) body f)
    (hdb : (x == ("__debug__" : Str)) = false := by decide) (hd : (a == ("__debug__" : Str)) = false := by decide) (hcd : (a == ("__classdict__" : Str)) = false := by decide) :
    DP C X W (.Call (.Name x p) [.Lambda params body scope lpos] [] pos) (fTold okc ret f) :=
  PE.imp (pe_lamcall (T := C.tabs) (TT := TTold X.K CS ret) (t := fun E => tD C X.K (fun cls d _ H => E cls d H) f) hg hm hk lk hcg hb Sg hNg hva (told_gives hge hme hde h0) TB hcode hmT hu hr L hdef hbind
    (fun A outer s H E f' c' hr' => hbody A outer s H E f' c' hr' (takes_of rfl rfl rfl rfl)) hdb hd hcd) fun σ H Q ⟨ρ, ν, μ, g, hE, hR, hP⟩ => by
    refine ⟨hR.tb, fun H1 e1 t1 => ?_⟩
    have ex : Ext H μ H1 μ := ext_of_n e1
    refine ⟨ρ, ν, μ, g, hE.mono ex.kp', hR.extN e1 t1, ?_⟩
    unfold fTold at hP
    cases hf : f ρ g with
    | ok d g1 =>
      simp only [hf] at hP
      exact fun v H2 μ2 e2 R2 r2 => hP v H2 μ2 (ex.trans e2) R2 r2
    | stuck => simp only [hf] at hP; exact hP
    | err c g1 =>
      simp only [hf] at hP
      split at hP
      · rename_i hc
        exact fun H2 μ2 e2 R2 => ⟨true, hcat c hc, fun _ => hP _ H2 μ2 (ex.trans e2) R2 (rStr _), fun z => by cases z⟩
      · exact hP.elim
end
end Dl
end
section
set_option Elab.async false
set_option linter.all false
set_option maxRecDepth 100000
set_option maxHeartbeats 1000000
namespace Dl
open PySem PySem.Spec PyProof.Rows L2 GenW
theorem over_gen {A : Around} {elt tg iter : Expr} {ifs : List Expr} {scope : Scope} {pos : Pos} {it acc : Value} {env : Env} :
    A.over (.compLoop (.GeneratorExp elt [⟨tg, iter, ifs, 0⟩] scope pos) 0 it acc env) [] = A.deeper env := by
  obtain ⟨hd, d, fr, gs, u⟩ := A
  simp [Around.over, Around.deeper, marksOver, frameCount, unitsOf, envsOf, guardsOf, pushEnvs, pushGuards, Code.envs, Code.env?, Code.isFrame, Code.guards, Code.isGuard, Code.weight, Code.frames, Code.isCreation, Code.isCaller, Code.cUnits]
theorem over_genS {A : Around} {elt tg iter : Expr} {ifs : List Expr} {scope : Scope} {pos : Pos} {it acc : Value} {env : Env} :
    A.over (.compStart (.GeneratorExp elt [⟨tg, iter, ifs, 0⟩] scope pos) 0 it acc env) [] = A.deeper env := by
  obtain ⟨hd, d, fr, gs, u⟩ := A
  simp [Around.over, Around.deeper, marksOver, frameCount, unitsOf, envsOf, guardsOf, pushEnvs, pushGuards, Code.envs, Code.env?, Code.isFrame, Code.guards, Code.isGuard, Code.weight, Code.frames, Code.isCreation, Code.isCaller, Code.cUnits]

/-- the context of a generator expression's frame -/
abbrev gCx (X : Cx) (B : Around) (s : Shared) (H : Hp) (cenv : Env) (fp : List Addr) (pn : List (Addr × Obj)) : Cx :=
  { X with A := B.deeper cenv, s_0 := s, H_0 := H, env := cenv, outer := X.stack, stack := cenv :: X.stack, ex := fp, fn := fun _ => false, calm := true, pn := pn, xe := fun _ _ => False }
/-- what a consumer keeps in its list of what came so far -/
abbrev OkT := List V → Array Value → Prop
/-- the consumer's list, if it has one -/
def Lk (So : Option Addr) (ok : OkT) (ys : List V) (cp : List (Addr × Obj)) : Prop := match So with
  | none => cp = []
  | some S => ∃ (acc : Array Value) (c : Nat), cp = [(S, lstObj acc c)] ∧ ok ys acc
/-- while the generator sleeps -/
structure Wk (So : Option Addr) (ok : OkT) (ys : List V) (s s' : Shared) : Prop where
  os : s'.os = s.os
  bare : AllBare s'.gens
  keep : ∀ b o, So ≠ some b → s.heap.get? b = some o → s'.heap.get? b = some o
  own : ∀ S, So = some S → ∃ acc c, s'.heap.get? S = some (lstObj acc c) ∧ ok ys acc
def GIx (Xg : Cx) (So : Option Addr) (ok : OkT) (ys : List V) (σ : L2.St) (H : Hp) (s : Shared) : Prop := ∃ cp, Lk So ok ys cp ∧ Inv Xg cp σ H s
def GYx (Xg : Cx) (So : Option Addr) (ok : OkT) (N0 : Nat) (σ : L2.St) (Gv Gn : List V → Hp → Prop) : Protocol := fun n s₀ v s kap =>
  ∃ ys x H, n + 1 + ys.length = N0 ∧ ys.length < sizeLine ∧ RelV x v ∧ (∀ S, So = some S → s.heap.get? S = s₀.heap.get? S) ∧ GIx Xg So ok ys σ H s ∧ (Gv (ys ++ [x]) H ∨ (Gn (ys ++ [x]) H ∧ ∀ s', Wk So ok (ys ++ [x]) s s' → kap (.send .none) s'))
def GRx (Xg : Cx) (So : Option Addr) (ok : OkT) (N0 : Nat) (σ : L2.St) (Fin : List V → Hp → Prop) : GenEnd := fun n s₀ r s =>
  ((r = .ok (.ret .none) ∨ r = .ok .next) ∧ ∃ ys H, n + ys.length = N0 ∧ (∀ S, So = some S → s.heap.get? S = s₀.heap.get? S) ∧ GIx Xg So ok ys σ H s ∧ Fin ys H) ∨ ∃ e, r = .error e ∧ False
/-- a list that is not tracked is written -/
theorem inv_other {Xg : Cx} {cp : List (Addr × Obj)} {σ : L2.St} {H : Hp} {s s' : Shared} {S : Addr} {acc : Array Value} {c : Nat} (I : Inv Xg cp σ H s) (hS : H S = none) (hA : Apart Xg S) (hpn : ∀ p ∈ Xg.pn, p.1 ≠ S) (hex : (s.heap.get? S).isSome)
    (os : s'.os = s.os) (bare : AllBare s'.gens) (keep : ∀ b o, b ≠ S → s.heap.get? b = some o → s'.heap.get? b = some o) (e : s'.heap.get? S = some (lstObj acc c)) : Inv Xg [] σ H s' := by
  have I0 : Inv Xg [] σ H s := I.pins_of fun p hp => I.pin p (List.mem_append_left _ (by simpa using hp))
  have nt : ∀ b u, H b = some u → b ≠ S := fun b u q hb => by rw [hb, hS] at q; cases q
  have nm : ∀ b : Addr, b ∉ [S] → b ≠ S := fun b hb z => hb (by rw [z]; exact List.mem_singleton.mpr rfl)
  refine I0.call' (ch := [S]) os ⟨fun b o q _ _ hb => keep b o (nm b hb) q, fun b o q _ _ hb => ⟨o.slots, keep b o (nm b hb) q⟩, fun b o _ n _ => n, fun b o q hb => ⟨o, keep b o (nm b hb) q⟩, fun _ _ q => q, fun _ _ _ q => q, fun b ps q => ⟨#[], by rw [q]; simp⟩⟩ (fun b u q => ?_) bare fun b hb => ?_
  · refine (I0.hok b u q).stay (fun c v hc y => keep c v ?_ y) (fun _ y => y) fun _ _ y => y
    rcases hc with y | y
    · rw [y]; exact nt b u q
    · exact nt c _ y
  · rw [List.mem_singleton.mp hb]
    exact ⟨.inr hA.1, hA.2.1, hA.2.2, fun p hp => hpn p (by simpa using hp)⟩
theorem GIx.woken {Xg : Cx} {So : Option Addr} {ok : OkT} {ys ys' : List V} {σ : L2.St} {H : Hp} {s s' : Shared} (hpn : ∀ p ∈ Xg.pn, So ≠ some p.1) (hA : ∀ S, So = some S → Apart Xg S) (h : GIx Xg So ok ys σ H s) (z : Wk So ok ys' s s') :
    GIx Xg So ok ys' σ H s' := by
  obtain ⟨cp, lk, I⟩ := h
  cases So with
  | none =>
    have e : cp = [] := lk
    subst e
    exact ⟨[], rfl, I.call' (ch := []) z.os (Un.kept fun b o e => z.keep b o (by simp) e) (I.hok.kept fun b o e => z.keep b o (by simp) e) z.bare fun b hb => absurd hb (by simp)⟩
  | some S =>
    obtain ⟨acc, c, e, r⟩ := lk
    subst e
    obtain ⟨eS, hS, hSL, hSf, _⟩ := I.pin (S, lstObj acc c) (List.mem_append_right _ List.mem_cons_self)
    obtain ⟨acc', c', e', r'⟩ := z.own S rfl
    have J : Inv Xg [] σ H s' := inv_other I hS (hA S rfl) (fun p hp e => hpn p hp (by rw [e])) (by rw [eS]; rfl) z.os z.bare (fun b o hb e => z.keep b o (fun q => hb (Option.some.inj q).symm) e) e'
    refine ⟨_, ⟨acc', c', rfl, r'⟩, J.pins_of fun p hp => ?_⟩
    rw [List.mem_singleton.mp hp]
    exact ⟨e', hS, hSL, hSf, fun v q => by cases q⟩

section
variable {X : Cx} {B : Around} {sc : Shared} {H0 : Hp} {cenv : Env} {fp : List Addr} {pn : List (Addr × Obj)} {it : Addr} {tn : Nat → Heap → Prop} {J : It} {tg iter elt : Expr} {ifs : List Expr} {scope : Scope} {pos : Pos}
  {g : TG} {tt : TT} {te : TE} {σ : L2.St} {vs : List Nat} {So : Option Addr} {ok : OkT} {Gv Gn Fin : List V → Hp → Prop} {W : Nat → Nat → List V → Hp → Prop}
/-- what a turn of the generator's loop is to do -/
def GTurn (J : It) (g : TG) (tt : TT) (te : TE) (σ : L2.St) (vs : List Nat) (Gv Gn Fin : List V → Hp → Prop) (W : Nat → Nat → List V → Hp → Prop) : Prop := ∀ i m ys H, W i m ys H →
  (J.stop i H ∧ Fin ys H) ∨ (J.go i H ∧ ∃ Nx : List V → Hp → Prop, (∀ ys' H', Nx ys' H' → ∃ m', m' < m ∧ W (i + 1) m' ys' H') ∧ ∀ x H', J.yld i H x H' → g x (wipe σ vs) H' fun σ2 H2 => wipe σ2 vs = wipe σ vs ∧ tt σ2 H2 fun b H3 =>
    if b = true then te σ2 H3 fun y H4 => ys.length < sizeLine ∧ (Gv (ys ++ [y]) H4 ∨ (Gn (ys ++ [y]) H4 ∧ Nx (ys ++ [y]) H4)) else Nx ys H3)
theorem g_stat {cp : List (Addr × Obj)} {σ' : L2.St} {H' : Hp} {s' : Shared} (I' : Inv (gCx X B sc H0 cenv fp pn) cp σ' H' s') (hn : ∀ b ∈ fp, H' b = none) (hp : ∀ p ∈ pn ++ cp, ∀ b ∈ fp, p.1 ≠ b) : ∀ b ∈ fp, FpOk (gCx X B sc H0 cenv fp pn) cp H' b := fun b hb =>
  ⟨hn b hb, (I'.ok.exf b hb).1, I'.ok.exfs b hb, .inl hb, fun x c e => (I'.ok.exf b hb).2 x c e, fun p hp' => hp p hp' b hb⟩
theorem g_loop {N0 : Nat} (hT : Turn X.prog X.w X.K tg J fp it tn) (hco : cenv.scope.isCoroutine = false) (hpn : ∀ p ∈ pn, So ≠ some p.1) (hA : ∀ S, So = some S → Apart (gCx X B sc H0 cenv fp pn) S) (hfp : ∀ b ∈ fp, So ≠ some b ∧ ∀ p ∈ pn, p.1 ≠ b)
    (pg : PG (gCx X B sc H0 cenv fp pn) tg g) (pt : PTs (gCx X B sc H0 cenv fp pn) ifs tt) (pe : PE (gCx X B sc H0 cenv fp pn) elt te) (turn : GTurn J g tt te σ vs Gv Gn Fin W) :
    ∀ (m n i : Nat) (ys : List V) (s₀ s : Shared) (H : Hp), W i m ys H → m < n → n + ys.length = N0 → GIx (gCx X B sc H0 cenv fp pn) So ok ys (wipe σ vs) H s → tn i s.heap → (∀ b ∈ fp, H b = none) → (∀ S, So = some S → s.heap.get? S = s₀.heap.get? S) →
      Seg (model X.prog X.w) B (GRx (gCx X B sc H0 cenv fp pn) So ok N0 (wipe σ vs) Fin) (GYx (gCx X B sc H0 cenv fp pn) So ok N0 (wipe σ vs) Gv Gn) n s₀ (.compLoop (.GeneratorExp elt [⟨tg, iter, ifs, 0⟩] scope pos) 0 (.ref it) .none cenv)
        ((model X.prog X.w).den (.compLoop (.GeneratorExp elt [⟨tg, iter, ifs, 0⟩] scope pos) 0 (.ref it) .none cenv)) [] s := by
  intro m
  induction m using Nat.strongRecOn with
  | ind m ih =>
    intro n i ys s₀ s H w hmn hN hI st hn hs0
    obtain ⟨cp, lk, I⟩ := hI
    have same : ∀ {σ' : L2.St} {H' : Hp} {s' : Shared}, Inv (gCx X B sc H0 cenv fp pn) cp σ' H' s' → ∀ S, So = some S → s'.heap.get? S = s₀.heap.get? S := fun {σ' H' s'} I' S e => by
      rw [← hs0 S e]
      subst e
      obtain ⟨acc, c, e, _⟩ := lk
      subst e
      rw [(I.pin (S, lstObj acc c) (List.mem_append_right _ List.mem_cons_self)).1, (I'.pin (S, lstObj acc c) (List.mem_append_right _ List.mem_cons_self)).1]
    have hcp : ∀ p ∈ cp, So = some p.1 := fun p hp => by
      cases So with
      | none => have e : cp = [] := lk; rw [e] at hp; cases hp
      | some S => obtain ⟨acc, c, e, _⟩ := lk; rw [e] at hp; rw [List.mem_singleton.mp hp]
    have hpp : ∀ p ∈ pn ++ cp, ∀ b ∈ fp, p.1 ≠ b := fun p hp b hb z => by
      rcases List.mem_append.mp hp with q | q
      · exact (hfp b hb).2 p q z
      · exact (hfp b hb).1 (by rw [← z]; exact hcp p q)
    show Seg _ B _ _ n s₀ _ ((compTurn (.GeneratorExp elt [⟨tg, iter, ifs, 0⟩] scope pos) 0 (.ref it) .none cenv).onRaise (leaving cenv)) [] s
    rw [compTurn_gen, Sem.onRaise_eq_wrap]
    refine seg_bind_wrap (wpAny_standAt ?_)
    rcases turn i m ys H w with ⟨stop, fin⟩ | ⟨go, Nx, hNx, step⟩
    · have td := hT.done (gCx X B sc H0 cenv fp pn) rfl rfl rfl rfl i cp s _ H (fun _ _ => False) I (g_stat I hn hpp) st stop
      refine seg_bind_wrap ?_
      rw [over_gen]
      refine thnF td fun r s6 ⟨hr, I6⟩ => ?_
      subst hr
      exact seg_end (.ok .next) (.inl ⟨.inr rfl, ys, H, hN, same I6, ⟨cp, lk, I6⟩, fin⟩)
    · have ti := hT.item (gCx X B sc H0 cenv fp pn) rfl rfl rfl rfl i cp s _ H (fun _ _ => False) I (g_stat I hn hpp) st go
      refine seg_bind_wrap ?_
      rw [over_gen]
      refine thnF ti fun r s6 ⟨u, hr, h6⟩ => ?_
      subst hr
      refine seg_bind_wrap ?_
      rw [over_gen]
      refine thnF h6 fun _ s7 ⟨x, H7, I7, r7, y7, st7, n7⟩ => ?_
      have I7' := I7.pinned (g_stat I7 n7 hpp) (hT.obj _ _ st7)
      refine seg_bind_wrap ?_
      rw [over_gen]
      refine thnF (pg.run _ s7 _ H7 x u _ I7' r7 (step x H7 y7)) fun _ s8 ⟨σ8, H8, I8, hw8, q8⟩ => ?_
      refine seg_bind_wrap ?_
      rw [over_gen]
      refine thnF (pt.run _ s8 σ8 H8 _ I8 q8) fun b s9 ⟨H9, I9, q9⟩ => ?_
      have back : ∀ {s' : Shared} {H' : Hp}, Inv (gCx X B sc H0 cenv fp pn) (cp ++ pinsAt fp s7.heap) σ8 H' s' → Inv (gCx X B sc H0 cenv fp pn) cp (wipe σ vs) H' s' ∧ tn (i + 1) s'.heap ∧ ∀ b ∈ fp, H' b = none := fun {s' H'} I' => by
        have pin' : ∀ b ∈ fp, ∀ o, s7.heap.get? b = some o → s'.heap.get? b = some o ∧ H' b = none := fun b hb o e =>
          let z := I'.pin (b, o) (List.mem_append_right _ (List.mem_append_right _ (mem_pinsAt hb e)))
          ⟨z.1, z.2.1⟩
        have hl : (wipe σ vs).length = σ8.length := by rw [← hw8, wipe_length]
        refine ⟨(I'.pins_of fun p hp => I'.pin p ?_).weak hl (fun j v e => ?_), hT.keep _ _ _ st7 fun b hb o e => (pin' b hb o e).1, fun b hb => ?_⟩
        · exact List.mem_append_right _ (List.mem_append_left _ hp)
        · rw [← hw8] at e
          exact (wipe_some e).1
        · obtain ⟨o, e, _⟩ := hT.obj _ _ st7 b hb
          exact (pin' b hb o e).2
      cases b with
      | false =>
        simp only [Bool.false_eq_true, if_false] at q9 ⊢
        obtain ⟨m', hm, w'⟩ := hNx _ _ q9
        obtain ⟨J9, st9, n9⟩ := back I9
        exact seg_again rfl (ih m' hm n (i + 1) ys s₀ s9 H9 w' (by omega) hN ⟨cp, lk, J9⟩ st9 n9 (same J9))
      | true =>
        simp only [if_true] at q9 ⊢
        have hy : ∀ v, yieldOut cenv v = yieldValue v := fun v => by simp only [yieldOut, hco, Bool.false_eq_true, if_false]
        simp only [hy]
        rw [Sem.bind_eq_wrap', Sem.bind_eq_wrap', Sem.wrap_wrap, Sem.wrap_wrap]
        refine seg_wrap ?_
        rw [over_gen]
        refine thnF (pe.run _ s9 σ8 H9 _ I9 q9) fun z s10 ⟨yv, H10, I10, r10, hz10, q10⟩ => ?_
        obtain ⟨J10, st10, n10⟩ := back I10
        obtain ⟨k, rfl⟩ : ∃ k, n = k + 1 := ⟨n - 1, by omega⟩
        refine seg_at (seg_yield rfl rfl rfl ⟨ys, yv, H10, hN, hz10, r10, same J10, ⟨cp, lk, J10⟩, q10.imp id fun h => ⟨h.1, fun s'' z => ?_⟩⟩)
        obtain ⟨m', hm, w'⟩ := hNx _ _ h.2
        exact seg_again rfl (ih m' hm k (i + 1) (ys ++ [yv]) s'' s'' H10 w' (by omega) (by rw [List.length_append, List.length_singleton]; omega) (GIx.woken hpn hA ⟨cp, lk, J10⟩ z)
          (hT.keep _ _ _ st10 fun b hb o e => z.keep b o (hfp b hb).1 e) n10 fun _ _ => rfl)
theorem g_start {N0 m : Nat} {s₀ s : Shared} {H : Hp} (hT : Turn X.prog X.w X.K tg J fp it tn) (hco : cenv.scope.isCoroutine = false) (hpn : ∀ p ∈ pn, So ≠ some p.1) (hA : ∀ S, So = some S → Apart (gCx X B sc H0 cenv fp pn) S) (hfp : ∀ b ∈ fp, So ≠ some b ∧ ∀ p ∈ pn, p.1 ≠ b)
    (pg : PG (gCx X B sc H0 cenv fp pn) tg g) (pt : PTs (gCx X B sc H0 cenv fp pn) ifs tt) (pe : PE (gCx X B sc H0 cenv fp pn) elt te) (turn : GTurn J g tt te σ vs Gv Gn Fin W)
    (w : W 0 m [] H) (hm : m < N0) (hI : GIx (gCx X B sc H0 cenv fp pn) So ok [] (wipe σ vs) H s) (st : tn 0 s.heap) (hn : ∀ b ∈ fp, H b = none) (hs0 : ∀ S, So = some S → s.heap.get? S = s₀.heap.get? S) :
    Seg (model X.prog X.w) B (GRx (gCx X B sc H0 cenv fp pn) So ok N0 (wipe σ vs) Fin) (GYx (gCx X B sc H0 cenv fp pn) So ok N0 (wipe σ vs) Gv Gn) N0 s₀ (.compStart (.GeneratorExp elt [⟨tg, iter, ifs, 0⟩] scope pos) 0 (.ref it) .none cenv)
      ((model X.prog X.w).den (.compStart (.GeneratorExp elt [⟨tg, iter, ifs, 0⟩] scope pos) 0 (.ref it) .none cenv)) [] s := by
  have loop := g_loop (iter := iter) (scope := scope) (pos := pos) (B := B) (N0 := N0) hT hco hpn hA hfp pg pt pe turn m N0 0 [] s₀ s H w hm (Nat.add_zero _) hI st hn hs0
  show Seg _ B _ _ N0 s₀ _ ((compStart (.GeneratorExp elt [⟨tg, iter, ifs, 0⟩] scope pos) 0 (.ref it) .none cenv).onRaise (leaving cenv)) [] s
  unfold compStart
  rw [Sem.onRaise_eq_wrap]
  show Seg _ B _ _ N0 s₀ _ ((ask >>= _).wrap _ _ _ _) [] s
  refine seg_bind_wrap (wpAny_askSetting ?_)
  split
  · exact seg_again rfl loop
  · first
      | exact seg_bind_wrap (wpAny_rule (seg_bind_wrap (wpAny_standAt (seg_bind_wrap (hT.self _ 0 s _ _ st (seg_again rfl loop))))))
      | (refine seg_bind_wrap (wpAny_rule ?_); show Seg _ B _ _ N0 s₀ _ ((standAt iter.pos >>= _).wrap _ _ _ _) [] s; exact seg_bind_wrap (wpAny_standAt (seg_bind_wrap (hT.self _ 0 s _ _ st (seg_again rfl loop)))))
end
end Dl
end
section
set_option Elab.async false
set_option linter.all false
set_option maxRecDepth 100000
set_option maxHeartbeats 1000000
namespace Dl
open PySem PySem.Spec PyProof.Rows L2 GenW
abbrev gEnvOf (X : Cx) (scope : Scope) (C : Addr) (code : Value) : Env := genEnv scope (cloFrom X.env.cells scope.names []) C code builtinsNs X.env
section
variable {X : Cx} {pins : List (Addr × Obj)} {σ : L2.St} {H : Hp} {s : Shared}
theorem gen_start {B : Around} {scope : Scope} {own : List (Str × Nat)} {fp : List Addr} {code : Value} {s5 : Shared} (I : Inv X pins σ H s) (ok : BlkOk X.N X.env.scope scope own) (hN : X.N.Nodup) (hcell : ∀ y ∈ scope.names, y.2 ≠ .cell)
    (hfp : ∀ b ∈ fp, FpOk X pins H b ∧ b < s.heap.objs.size) (hh : B.handled = none) (hBf : B.frames = some X.stack) {m : Str → Option Value} (hns : s5.heap.Ns s.heap.objs.size m) (kp : ∀ b o, s.heap.get? b = some o → s5.heap.get? b = some o) (os : s5.os = s.os) (bare : AllBare s5.gens) :
    Inv (gCx X B s H (gEnvOf X scope s.heap.objs.size code) fp []) [] (wipe σ (own.map (·.2))) H s5 := by
  have hfree : ∀ y ∈ scope.names, y.2 = .free → ∃ c, X.env.cells.lookup y.1 = some c := fun y hy e => by
    rcases ok.free y hy e with k | k
    · exact I.ok.has _ (.inl k)
    · exact I.ok.has _ (.inr k)
  have cm : ∀ {y c}, (cloFrom X.env.cells scope.names []).lookup y = some c → X.env.cells.lookup y = some c := fun {y c} e => by
    rcases cloFrom_mem (PySem.mem_of_lookup e) with hm | ⟨h1, h2⟩
    · cases hm
    · obtain ⟨c1, hc⟩ := hfree _ h1 rfl
      have hc : X.env.cells.lookup y = some c1 := hc
      have e2 : c = c1 := by
        rw [h2, hc] <;> rfl
      rw [e2]
      exact hc
  have look : ∀ {y}, scope.names.lookup y = some .free → ∃ c, (cloFrom X.env.cells scope.names []).lookup y = some c := fun {y} hl => by
    have hy : (y, NameKind.free) ∈ scope.names := PySem.mem_of_lookup hl
    exact mem_lookup (cloFrom_has (cells := X.env.cells) (acc := []) hy)
  have clt : ∀ {y c}, X.env.cells.lookup y = some c → c < s.heap.objs.size := fun {y c} e => (I.cell y c e).elim fun w z => z.lt
  refine ⟨⟨I.ok.mod, ok.kind, I.ok.glob, rfl, Nat.le_refl _, fun y z c e1 e2 => I.ok.inj y z c (cm e1) (cm e2), fun y hy => ?_, fun y c z _ => ?_, fun _ => hh, Around.frames_deeper hBf, .inr ⟨rfl, rfl⟩, fun b hb => ⟨Nat.ne_of_lt (hfp b hb).2, fun y c e => (hfp b hb).1.2.2.2.2.1 y c (cm e)⟩,
      I.bs, Nat.le_trans I.ok.bsz I.sz, fun b o e hb => ?_, fun b hb z => ?_, I.stack, I.stkFree⟩,
    os, bare, Un.kept kp, ⟨m, hns, fun i y av e1 e2 e3 => ?_⟩, fun y c e => ?_, I.hok.fresh (Nat.le_refl _), fun y c e => I.freeC y c (cm e), fun q hq => absurd (show q ∈ ([] : List (Addr × Obj)) ++ [] from hq) (by simp), I.hok.kept kp, by rw [wipe_length]; exact I.len⟩
  · have hy : scope.names.lookup y = some .cell ∨ scope.names.lookup y = some .free := hy
    rcases hy with hy | hy
    · exact absurd rfl (hcell _ (PySem.mem_of_lookup hy))
    · exact look hy
  · have z : false = true := z
    cases z
  · rcases (hfp b hb).1.2.2.2.1 with z | z
    · exact I.ok.noex b o e z
    · exact absurd (Nat.lt_of_lt_of_le (Heap.lt_size e) (Nat.le_trans I.ok.bsz z)) (Nat.lt_irrefl _)
  · rcases List.mem_cons.mp (I.stkSub b z) with z | z
    · exact (hfp b hb).1.2.1 z
    · exact (hfp b hb).1.2.2.1 z
  · obtain ⟨e2, hne⟩ := wipe_some e2
    have e3 : Vis scope y := e3
    have no : ∀ k', scope.names.lookup y = some k' → (k' = .local ∨ k' = .cell) → False := fun k' e hh => by
      rcases ok.own _ (PySem.mem_of_lookup e) hh with e' | e'
      · obtain ⟨p, hp, hpy⟩ := List.mem_map.mp e'
        have e3 := ok.ix p hp
        have : p.1 = y := hpy
        rw [this] at e3
        exact hne (List.mem_map.mpr ⟨p, hp, nodup_ix hN e3 e1⟩)
      · exact e' (List.mem_of_getElem? e1)
    rcases e3 with k | k | k
    · exact (no _ k (.inl rfl)).elim
    · exact (no _ k (.inr rfl)).elim
    · obtain ⟨m, hn, hl⟩ := I.loc
      have hvis : Vis X.env.scope y := (ok.free _ (PySem.mem_of_lookup k) rfl).elim (fun k => .inr (.inl k)) (fun k => .inr (.inr k))
      obtain ⟨w', r, q⟩ := hl i y av e1 e2 hvis
      obtain ⟨c2, h2⟩ := look k
      refine ⟨w', r, .inr ⟨.inr k, c2, h2, ?_⟩⟩
      have c1 := cm h2
      rcases q with ⟨k', _⟩ | ⟨_, c3, e', z⟩
      · have k' : X.env.scope.names.lookup y = some .local := k'
        rcases ok.free _ (PySem.mem_of_lookup k) rfl with k2 | k2 <;> rw [show X.env.scope.names.lookup y = _ from k2] at k' <;> cases k'
      · rw [c1] at e'
        cases e'
        exact z.keeps kp
  · obtain ⟨w', z⟩ := I.cell y c (cm e)
    exact ⟨w', z.keeps kp⟩
/-- how the owner sees a generator that rests -/
def CV (X : Cx) (pins : List (Addr × Obj)) (σ : L2.St) (a : Addr) (g : Nat) (So : Option Addr) (ok : OkT) (ys : List V) (H : Hp) (s : Shared) : Prop :=
  Inv X pins σ H s ∧ s.heap.IsGen a g ∧ ∀ S, So = some S → H S = none ∧ ∃ (acc : Array Value) (c : Nat), s.heap.get? S = some (lstObj acc c) ∧ ok ys acc
def CY (X : Cx) (pins : List (Addr × Obj)) (σ : L2.St) (a : Addr) (g : Nat) (So : Option Addr) (ok : OkT) (N0 : Nat) (Gv Gn : List V → Hp → Prop) : Protocol := fun n s₀ v s kap =>
  ∃ ys x H, n + 1 + ys.length = N0 ∧ ys.length < sizeLine ∧ RelV x v ∧ (∀ S, So = some S → s.heap.get? S = s₀.heap.get? S) ∧ CV X pins σ a g So ok ys H s ∧ (Gv (ys ++ [x]) H ∨ (Gn (ys ++ [x]) H ∧ ∀ s', Wk So ok (ys ++ [x]) s s' → kap (.send .none) s'))
def CRn (X : Cx) (pins : List (Addr × Obj)) (σ : L2.St) (a : Addr) (g : Nat) (So : Option Addr) (ok : OkT) (N0 : Nat) (Fin : List V → Hp → Prop) : GenEnd := fun n s₀ r s =>
  ((r = .ok (.ret .none) ∨ r = .ok .next) ∧ ∃ ys H, n + ys.length = N0 ∧ (∀ S, So = some S → s.heap.get? S = s₀.heap.get? S) ∧ CV X pins σ a g So ok ys H s ∧ Fin ys H) ∨ ∃ e, r = .error e ∧ False
/-- a generator that was made, and has not begun -/
def GMd (X : Cx) (k : Nat) (pins : List (Addr × Obj)) (σ : L2.St) (H : Hp) (N0 : Nat) (Gv Gn Fin : List V → Hp → Prop) (a : Addr) (s : Shared) : Prop :=
  ∃ g code, a < s.heap.objs.size ∧ s.heap.IsGen a g ∧ s.gens[g]? = some (.fresh code) ∧ Inv X pins σ H s ∧
    ∀ (B : Around) (So : Option Addr) (ok : OkT) (s2 : Shared), Room (k + 1) B → B.frames = some X.stack → (∀ S, So = some S → s.heap.objs.size ≤ S) → s2.os = s.os → AllBare s2.gens → (∀ b o, s.heap.get? b = some o → s2.heap.get? b = some o) →
      (∀ S, So = some S → ∃ (acc : Array Value) (c : Nat), s2.heap.get? S = some (lstObj acc c) ∧ ok [] acc) → Seg (model X.prog X.w) B (CRn X pins σ a g So ok N0 Fin) (CY X pins σ a g So ok N0 Gv Gn) N0 s2 code ((model X.prog X.w).den code) [] s2
theorem gcx_pins {B : Around} {cenv : Env} {fp : List Addr} {pn cp : List (Addr × Obj)} {sc s1 : Shared} {H0 H' : Hp} {σ' : L2.St} (I : Inv (gCx X B sc H0 cenv fp []) [] σ' H' s1)
    (h : ∀ p ∈ pn ++ cp, s1.heap.get? p.1 = some p.2 ∧ H' p.1 = none ∧ p.1 ≠ cenv.locals ∧ p.1 ∉ frs X.stack ∧ ∀ v, p.2.data ≠ .cell v) : Inv (gCx X B sc H0 cenv fp pn) cp σ' H' s1 :=
  ⟨⟨I.ok.mod, I.ok.kind, I.ok.glob, I.ok.blt, I.ok.above, I.ok.inj, I.ok.has, I.ok.cab, I.ok.hd, I.ok.frames, I.ok.stk, I.ok.exf, I.ok.bs, I.ok.bsz, I.ok.noex, I.ok.exfs, I.ok.funs, I.ok.frf⟩, I.os, I.bare, I.base, I.loc, I.cell, I.free, I.freeC, h, I.hok, I.len⟩
theorem stk_young (I : Inv X pins σ H s) {b : Addr} (hb : s.heap.objs.size ≤ b) : b ∉ frs X.stack := fun z => by
  rcases List.mem_cons.mp (I.stkSub _ z) with e | e
  · have h1 := I.lt
    rw [← e] at h1
    exact Nat.lt_irrefl _ (Nat.lt_of_lt_of_le h1 hb)
  · exact I.nofs hb e
theorem gen_made {k : Nat} {elt tg iter : Expr} {ifs : List Expr} {scope : Scope} {own : List (Str × Nat)} {pos : Pos} {g : TG} {tt : TT} {te : TE} {fp : List Addr} {it : Addr} {tn : Nat → Heap → Prop} {J : It} {W : Nat → Nat → List V → Hp → Prop} {m N0 : Nat} {Gv Gn Fin : List V → Hp → Prop} {code : Value} {h' : Heap} {tk : Nat} {go : Obj} {mm : Str → Option Value} {nm qn : Value}
    (hN : X.N.Nodup) (ok : BlkOk X.N X.env.scope scope own) (hcell : ∀ y ∈ scope.names, y.2 ≠ .cell) (hco : scope.isCoroutine = false)
    (hg : ∀ (B : Around) (s : Shared) (H : Hp) (C : Addr) (code : Value) (fp : List Addr) (pn : List (Addr × Obj)), Room k (B.deeper (gEnvOf X scope C code)) → PG (gCx X B s H (gEnvOf X scope C code) fp pn) tg g)
    (ht : ∀ (B : Around) (s : Shared) (H : Hp) (C : Addr) (code : Value) (fp : List Addr) (pn : List (Addr × Obj)), Room k (B.deeper (gEnvOf X scope C code)) → PTs (gCx X B s H (gEnvOf X scope C code) fp pn) ifs tt)
    (he : ∀ (B : Around) (s : Shared) (H : Hp) (C : Addr) (code : Value) (fp : List Addr) (pn : List (Addr × Obj)), Room k (B.deeper (gEnvOf X scope C code)) → PE (gCx X B s H (gEnvOf X scope C code) fp pn) elt te)
    (I : Inv X pins σ H s) (hT : Turn X.prog X.w X.K tg J fp it tn) (st : tn 0 s.heap) (hfp : ∀ b ∈ fp, FpOk X pins H b ∧ b < s.heap.objs.size)
    (hn' : h'.Ns s.heap.objs.size mm) (hs' : Heap.SameBut s.heap.objs.size (s.heap.push { cls := .type "frame", data := .dict #[] }) h')
    (hgo : go = { cls := .type "generator", data := .fields #[.int s.gens.size 0, nm, qn] })
    (turn : GTurn J g tt te σ (own.map (·.2)) Gv Gn Fin W) (w : W 0 m [] H) (hm : m < N0) :
    GMd X k pins σ H N0 Gv Gn Fin h'.objs.size { s with gens := s.gens.push (.fresh (.compStart (.GeneratorExp elt [⟨tg, iter, ifs, 0⟩] scope pos) 0 (.ref it) .none (gEnvOf X scope s.heap.objs.size code))), toks := tk, heap := h'.push go } := by
  have hsz : h'.objs.size = s.heap.objs.size + 1 := by rw [hs'.1, Heap.size_push]
  have keep' : ∀ b o, s.heap.get? b = some o → h'.get? b = some o := fun b o e => hs'.extBut b o (Nat.ne_of_lt (Heap.lt_size e)) (Heap.get?_push_of_some _ e)
  have kp : ∀ b o, s.heap.get? b = some o → (h'.push go).get? b = some o := fun b o e => Heap.get?_push_of_some _ (keep' b o e)
  have hpg : (h'.push go).get? h'.objs.size = some go := Heap.get?_push_size _ (by rw [hgo]; rfl)
  have hgc : ∀ v, go.data ≠ .cell v := fun v q => by rw [hgo] at q; cases q
  have hgen : ∀ h : Heap, h.get? h'.objs.size = some go → h.IsGen h'.objs.size s.gens.size := fun h e => ⟨go, nm, qn, e, by rw [hgo], by rw [hgo], by rw [hgo]⟩
  have I5 : Inv X pins σ H { s with gens := s.gens.push (.fresh (.compStart (.GeneratorExp elt [⟨tg, iter, ifs, 0⟩] scope pos) 0 (.ref it) .none (gEnvOf X scope s.heap.objs.size code))), toks := tk, heap := h'.push go } :=
    I.call' (ch := []) rfl (Un.kept kp) (I.hok.kept kp) (AllBare.push I.bare rfl) fun b hb => absurd hb (by simp)
  refine ⟨s.gens.size, _, ?_, hgen _ hpg, Array.getElem?_push_size .., I5, ?_⟩
  · show h'.objs.size < (h'.push go).objs.size
    rw [Heap.size_push]; exact Nat.lt_succ_self _
  intro B So ok' s2 hrB hBf hSo os2 bare2 keep2 own2
  have kp2 : ∀ b o, s.heap.get? b = some o → s2.heap.get? b = some o := fun b o e => keep2 b o (kp b o e)
  have J0 : Inv (gCx X B s H (gEnvOf X scope s.heap.objs.size code) fp []) [] (wipe σ (own.map (·.2))) H s2 :=
    gen_start I ok hN hcell hfp hrB.hd hBf (Heap.Ns.keeps hn' fun b o e => keep2 b o (Heap.get?_push_of_some _ e)) kp2 os2 bare2
  have ea : s2.heap.get? h'.objs.size = some go := keep2 _ _ hpg
  have hSz : ∀ S, So = some S → h'.objs.size < S := fun S e => by
    have := hSo S e
    have this : (h'.push go).objs.size ≤ S := this
    rw [Heap.size_push] at this
    exact this
  have young : ∀ b, h'.objs.size ≤ b → H b = none ∧ b ≠ s.heap.objs.size ∧ b ∉ frs X.stack := fun b hb =>
    have h1 : s.heap.objs.size < b := by rw [hsz] at hb; exact hb
    ⟨I.hok.fresh (Nat.le_of_lt h1), Nat.ne_of_gt h1, stk_young I (Nat.le_of_lt h1)⟩
  have hpin : ∀ cp, Lk So ok' [] cp → (∀ p ∈ cp, s2.heap.get? p.1 = some p.2) → Inv (gCx X B s H (gEnvOf X scope s.heap.objs.size code) fp [(h'.objs.size, go)]) cp (wipe σ (own.map (·.2))) H s2 := fun cp lk hcp => by
    refine gcx_pins J0 fun p hp => ?_
    rcases List.mem_append.mp hp with z | z
    · rw [List.mem_singleton.mp z]
      obtain ⟨y1, y2, y3⟩ := young h'.objs.size (Nat.le_refl _)
      exact ⟨ea, y1, y2, y3, hgc⟩
    · cases So with
      | none => have e : cp = [] := lk; rw [e] at z; cases z
      | some S =>
        have e1 := hcp p z
        obtain ⟨acc, c, e, _⟩ := lk
        rw [e] at z
        have z := List.mem_singleton.mp z
        obtain ⟨y1, y2, y3⟩ := young S (Nat.le_of_lt (hSz S rfl))
        refine ⟨e1, ?_, ?_, ?_, ?_⟩ <;> rw [z]
        · exact y1
        · exact y2
        · exact y3
        · exact fun v q => by cases q
  have hG : GIx (gCx X B s H (gEnvOf X scope s.heap.objs.size code) fp [(h'.objs.size, go)]) So ok' [] (wipe σ (own.map (·.2))) H s2 := by
    cases So with
    | none => exact ⟨[], rfl, hpin [] rfl fun p hp => absurd hp (by simp)⟩
    | some S =>
      obtain ⟨acc, c, e, o⟩ := own2 S rfl
      refine ⟨[(S, lstObj acc c)], ⟨acc, c, rfl, o⟩, hpin _ ⟨acc, c, rfl, o⟩ fun p hp => ?_⟩
      rw [List.mem_singleton.mp hp]
      exact e
  have hpn : ∀ p ∈ [(h'.objs.size, go)], So ≠ some p.1 := fun p hp e => by
    have := hSz _ e
    rw [List.mem_singleton.mp hp] at this
    exact Nat.lt_irrefl _ this
  have hA : ∀ S, So = some S → Apart (gCx X B s H (gEnvOf X scope s.heap.objs.size code) fp [(h'.objs.size, go)]) S := fun S e => by
    have h1 := hSz S e
    obtain ⟨_, y2, _⟩ := young S (Nat.le_of_lt h1)
    refine ⟨Nat.le_of_lt (Nat.lt_of_le_of_lt (by rw [hsz]; exact Nat.le_succ _) h1), y2, fun x c e z => ?_⟩
    obtain ⟨v, q⟩ := J0.cell x c e
    have e2 : c < s.heap.objs.size := by
      have := J0.cell x c e
      have hfree : ∀ y ∈ scope.names, y.2 = .free → ∃ c, X.env.cells.lookup y.1 = some c := fun y hy e => by
        rcases ok.free y hy e with k | k
        · exact I.ok.has _ (.inl k)
        · exact I.ok.has _ (.inr k)
      rcases cloFrom_mem (PySem.mem_of_lookup (show (cloFrom X.env.cells scope.names []).lookup x = some c from e)) with hm | ⟨h1, h2⟩
      · cases hm
      · obtain ⟨c1, hc⟩ := hfree _ h1 rfl
        have hc : X.env.cells.lookup x = some c1 := hc
        rw [hc] at h2
        have h2 : c = c1 := h2
        rw [h2]
        exact (I.cell _ _ hc).elim fun w z => z.lt
    rw [z] at e2
    exact Nat.lt_irrefl _ (Nat.lt_trans (Nat.lt_trans (by rw [hsz]; exact Nat.lt_succ_self _) h1) e2)
  have hfp2 : ∀ b ∈ fp, So ≠ some b ∧ ∀ p ∈ [(h'.objs.size, go)], p.1 ≠ b := fun b hb => by
    have h1 := (hfp b hb).2
    refine ⟨fun e => ?_, fun p hp e => ?_⟩
    · have h2 := hSz b e
      exact Nat.lt_irrefl _ (Nat.lt_trans (Nat.lt_trans (by rw [hsz]; exact Nat.lt_succ_self _) h2) h1)
    · rw [List.mem_singleton.mp hp] at e
      have e : h'.objs.size = b := e
      rw [← e] at h1
      exact Nat.lt_irrefl _ (Nat.lt_trans (by rw [hsz]; exact Nat.lt_succ_self _) h1)
  have conv : ∀ {ys : List V} {H' : Hp} {s' : Shared}, GIx (gCx X B s H (gEnvOf X scope s.heap.objs.size code) fp [(h'.objs.size, go)]) So ok' ys (wipe σ (own.map (·.2))) H' s' → CV X pins σ h'.objs.size s.gens.size So ok' ys H' s' := fun {ys H' s'} ⟨cp, lk, J⟩ => by
    refine ⟨I.call' (ch := fp) J.os J.base J.hok J.bare fun b hb => ⟨(hfp b hb).1.2.2.2.1, (hfp b hb).1.2.1, (hfp b hb).1.2.2.2.2.1, (hfp b hb).1.2.2.2.2.2⟩, hgen _ (J.pin (h'.objs.size, go) (List.mem_append_left _ (List.mem_singleton.mpr rfl))).1, fun S e => ?_⟩
    subst e
    obtain ⟨acc, c, e, o⟩ := lk
    subst e
    have p := J.pin (S, lstObj acc c) (List.mem_append_right _ List.mem_cons_self)
    exact ⟨p.2.1, acc, c, p.1, o⟩
  refine seg_imp (R := GRx (gCx X B s H (gEnvOf X scope s.heap.objs.size code) fp [(h'.objs.size, go)]) So ok' N0 (wipe σ (own.map (·.2))) Fin) (Y := GYx (gCx X B s H (gEnvOf X scope s.heap.objs.size code) fp [(h'.objs.size, go)]) So ok' N0 (wipe σ (own.map (·.2))) Gv Gn)
    (fun n s₀ r s1' hR => ?_) (fun n s₀ v s1' kap kap' hkk hY => ?_) N0 ?_
  · rcases hR with ⟨h1, ys, H', h2, h0, h3, h4⟩ | ⟨e, _, z⟩
    · exact .inl ⟨h1, ys, H', h2, h0, conv h3, h4⟩
    · exact z.elim
  · obtain ⟨ys, x, H', h1, h2, h3, h0, h4, h5⟩ := hY
    exact ⟨ys, x, H', h1, h2, h3, h0, conv h4, h5.imp id fun h => ⟨h.1, fun s' z => hkk _ _ (h.2 s' z)⟩⟩
  · have hrd := hrB.deeper (gEnvOf X scope s.heap.objs.size code)
    exact g_start hT hco hpn hA hfp2 (hg B s H _ _ fp _ hrd) (ht B s H _ _ fp _ hrd) (he B s H _ _ fp _ hrd) turn w hm hG (hT.keep _ _ _ st fun b hb o e => kp2 b o e) (fun b hb => (hfp b hb).1.1) fun _ _ => rfl
theorem gen_make {k : Nat} {c P : Addr} {T : List (Addr × Str)} {elt tg iter : Expr} {ifs : List Expr} {scope : Scope} {own : List (Str × Nat)} {pos : Pos} {wi : TI} {g : TG} {tt : TT} {te : TE} {Q' : Value → Shared → Prop}
    (hr : Room k X.A) (TB : LamX.TabB X.base X.mg c P) (hcode : X.env.code = .ref c) (hmT : (P, X.env.qual ++ "<genexpr>") ∈ T) (hu : ∀ p ∈ T, p.1 = P → p.2 = X.env.qual ++ "<genexpr>")
    (hN : X.N.Nodup) (ok : BlkOk X.N X.env.scope scope own) (hcell : ∀ y ∈ scope.names, y.2 ≠ .cell) (h0 : scope.names.lookup (".0" : Str) = some NameKind.local) (hco : scope.isCoroutine = false) (hs : ∀ v, genFold iter X.env v = pure v) (hi : PI X tg iter wi)
    (hg : ∀ (B : Around) (s : Shared) (H : Hp) (C : Addr) (code : Value) (fp : List Addr) (pn : List (Addr × Obj)), Room k (B.deeper (gEnvOf X scope C code)) → PG (gCx X B s H (gEnvOf X scope C code) fp pn) tg g)
    (ht : ∀ (B : Around) (s : Shared) (H : Hp) (C : Addr) (code : Value) (fp : List Addr) (pn : List (Addr × Obj)), Room k (B.deeper (gEnvOf X scope C code)) → PTs (gCx X B s H (gEnvOf X scope C code) fp pn) ifs tt)
    (he : ∀ (B : Around) (s : Shared) (H : Hp) (C : Addr) (code : Value) (fp : List Addr) (pn : List (Addr × Obj)), Room k (B.deeper (gEnvOf X scope C code)) → PE (gCx X B s H (gEnvOf X scope C code) fp pn) elt te)
    (I : Inv X pins σ H s) (h : wi σ H fun J H1 => LamX.Tabs T H1 ∧ ∀ H2, LamX.ExtN H1 H2 → LamX.Tabs T H2 → ∃ W m N0 Gv Gn Fin, m < N0 ∧ GTurn J g tt te σ (own.map (·.2)) Gv Gn Fin W ∧ W 0 m [] H2 ∧ ∀ a s5, GMd X k pins σ H2 N0 Gv Gn Fin a s5 → Q' (.ref a) s5) :
    wpAny (model X.prog X.w) X.A (eval (.GeneratorExp elt [⟨tg, iter, ifs, 0⟩] scope pos) X.env) Q' X.xe s := by
  have hfree : ∀ y ∈ scope.names, y.2 = .free → ∃ c, X.env.cells.lookup y.1 = some c := fun y hy e => by
    rcases ok.free y hy e with k | k
    · exact I.ok.has _ (.inl k)
    · exact I.ok.has _ (.inr k)
  refine wpAny_GeneratorExp_make hco (closure_ok hfree) hcell h0 ok.kind (by have := hr.dp; omega) (thn (hi.run pins s σ H _ I h) fun xv s1 hx => thn hx fun itv s2 h2 => ?_) hs
  obtain ⟨it, fp, tn, J, H1, e, I2, hT, st2, f2, hT1, q⟩ := h2
  subst e
  refine ⟨I2.nolimit, ?_⟩
  have sz : ∀ b ∈ fp, b < s2.heap.objs.size := fun b hb => by
    obtain ⟨o, e, _⟩ := hT.obj _ _ st2 b hb
    exact Heap.lt_size e
  have cont : ∀ (code : Value) (H3 : Hp) (s4 : Shared), Inv X pins σ H3 s4 → LamX.ExtN H1 H3 → LamX.Tabs T H3 → (∀ b ∈ fp, H3 b = none) → tn 0 s4.heap → s2.heap.objs.size ≤ s4.heap.objs.size →
      wpAny (model X.prog X.w) X.A (builtinsFor X.env.globals X.env.builtins) (fun bi s₄ =>
        ∀ h', h'.Ns s₄.heap.objs.size (fun y => if y = ".0" then some (Value.ref it) else none) → Heap.SameBut s₄.heap.objs.size (s₄.heap.push { cls := .type "frame", data := .dict #[] }) h' →
          Q' (.ref h'.objs.size) { s₄ with
            gens := s₄.gens.push (.fresh (.compStart (.GeneratorExp elt [⟨tg, iter, ifs, 0⟩] scope pos) 0 (.ref it) .none (genEnv scope (cloFrom X.env.cells scope.names []) s₄.heap.objs.size code bi X.env))),
            toks := s₄.toks + 1 + 1 + 1,
            heap := h'.push { cls := .type "generator", data := .fields #[.int s₄.gens.size 0, .str "<genexpr>" (s₄.toks + 1), .str (X.env.qual ++ "<genexpr>") (s₄.toks + 1 + 1)] } }) X.xe s4 := by
    intro code H3 s4 I4 hE hT3 hn3 st4 hsz4
    obtain ⟨bm, ob, e1, e2, e3, e4, e5, e6, e7, e8⟩ := TB.bm
    refine wpAny_builtinsFor (m := X.mg) (by rw [I4.ok.glob]; exact I4.mod.glob.keeps I4.bk) e1 e2 (I4.bk _ _ e5) e6 e7 e8 ?_
    intro h' hn' hs'
    obtain ⟨W, m, N0, Gv, Gn, Fin, hm, turn, w, fin⟩ := q H3 hE hT3
    refine fin _ _ (gen_made hN ok hcell hco hg ht he I4 hT st4 (fun b hb => ⟨⟨hn3 b hb, (f2 b hb).2⟩, Nat.lt_of_lt_of_le (sz b hb) hsz4⟩) hn' hs' rfl turn w hm)
  obtain ⟨ps, hP, ht2, ha⟩ := hT1 _ hmT
  have hP' : s2.heap.get? P = some { cls := .none, data := .fields ps } := I2.hok P _ hP
  have cd := TB.code.keeps I2.bk
  cases hf : codeAmong pos ps.toList with
  | none =>
    refine wpAny_genexprCodeX hcode (cd.code hP' ht2) (cd.tab hP') hf fun c' h3 tk hx hge hlt hco' hrec htab _ => ?_
    obtain ⟨c2, oc, vs, t, e2, hoc, hd, hv⟩ := hrec
    cases e2
    have nC : H1 c' = none := I2.hok.fresh hge
    have eL : (ps ++ #[rawInt pos.line, rawInt pos.col, .ref c']).toList = ps.toList ++ [rawInt pos.line, rawInt pos.col, .ref c'] := by simp
    have I3 := LamX.inv_table (t' := tk) (q := X.env.qual ++ "<genexpr>") (more := #[rawInt pos.line, rawInt pos.col, .ref c']) (h' := h3) I2 hP (fun b o hb e => hx b o hb e) htab.2 hge ⟨oc, vs, t, hoc, hd, hv⟩
    have hE : LamX.ExtN H1 (upd (upd H1 P (.tbl (ps ++ #[rawInt pos.line, rawInt pos.col, .ref c']))) c' (LamX.CodeO c' (X.env.qual ++ "<genexpr>"))) := fun b o e n => by
      rw [upd_ne (ne_of_none e nC), upd_ne (fun z => n ps (Option.some.inj (e.symm.trans (by rw [z]; exact hP))))]
      exact e
    refine cont _ _ _ I3 hE (fun p hp => ?_) (fun b hb => ?_) (hT.keep _ _ _ st2 fun b hb o e => hx b o (fun z => ?_) e) (Nat.le_trans hge (Nat.le_of_lt hlt))
    · by_cases hb : p.1 = P
      · rw [hu p hp hb, hb]
        refine ⟨_, by rw [upd_ne (ne_of_none hP nC), upd_same], by rw [eL]; exact PySem.TriplesOk_snoc _ _ _ _ ht2, fun p' cv hcv => ?_⟩
        rw [eL] at hcv
        rcases LamX.among_app _ ht2 hcv with z | z
        · obtain ⟨c0, e1, e2⟩ := ha p' cv z
          exact ⟨c0, e1, hE _ _ (by rw [e2]) LamX.codeO_ne⟩
        · exact ⟨c', z, upd_same⟩
      · obtain ⟨ps', a1, a2, a3⟩ := hT1 p hp
        refine ⟨ps', by rw [upd_ne (ne_of_none a1 nC), upd_ne hb]; exact a1, a2, fun p' cv hcv => ?_⟩
        obtain ⟨c0, e1, e2⟩ := a3 p' cv hcv
        exact ⟨c0, e1, hE _ _ e2 LamX.codeO_ne⟩
    · have h1 := (f2 b hb).1
      rw [upd_ne (Nat.ne_of_lt (Nat.lt_of_lt_of_le (sz b hb) hge)), upd_ne (fun z => by rw [z, hP] at h1; cases h1)]
      exact h1
    · have h1 := (f2 b hb).1
      rw [z, hP] at h1
      cases h1
  | some cv =>
    refine wpAny_genexprCode_hit hcode (cd.code hP' ht2) hf ?_
    exact cont cv H1 s2 I2 (LamX.ExtN.refl H1) hT1 (fun b hb => (f2 b hb).1) st2 (Nat.le_refl _)
end
end Dl
end
section
set_option Elab.async false
set_option linter.all false
set_option maxRecDepth 100000
set_option maxHeartbeats 1000000
namespace Dl
open PySem PySem.Spec PyProof.Rows L2 GenW
section
variable {X : Cx} {pins : List (Addr × Obj)} {σ : L2.St} {a : Addr} {g : Nat} {So : Option Addr} {ok : OkT} {N0 : Nat} {Gv Gn Fin : List V → Hp → Prop} {B : Around}
theorem CV.set {ys : List V} {H : Hp} {s : Shared} (c : CV X pins σ a g So ok ys H s) {x : GenState} (hx : x.bare = true) : CV X pins σ a g So ok ys H (s.setGen g x) :=
  ⟨c.1.call' (ch := []) rfl (Un.kept fun _ _ e => e) c.1.hok (allBare_setGen c.1.bare hx) fun b hb => absurd hb (by simp), c.2⟩
theorem CV.kept {ys : List V} {H : Hp} {s : Shared} (c : CV X pins σ a g So ok ys H s) {h' : Heap} (k : ∀ b o, s.heap.get? b = some o → h'.get? b = some o) : CV X pins σ a g So ok ys H { s with heap := h' } :=
  ⟨c.1.call' (ch := []) rfl (Un.kept k) (c.1.hok.kept k) c.1.bare fun b hb => absurd hb (by simp), c.2.1.keeps k, fun S e => ⟨(c.2.2 S e).1, (c.2.2 S e).2.imp fun acc z => z.imp fun cc z => ⟨k _ _ z.1, z.2⟩⟩⟩
/-- a generator that can be asked n times -/
def Lv (X : Cx) (pins : List (Addr × Obj)) (σ : L2.St) (a : Addr) (g : Nat) (So : Option Addr) (ok : OkT) (N0 : Nat) (Gv Gn Fin : List V → Hp → Prop) (B : Around) (n : Nat) (s : Shared) : Prop :=
  s.heap.IsGen a g ∧ s.heap.NoLimit ∧ ∃ gs, s.gens[g]? = some gs ∧ gs.Goes (model X.prog X.w) B.in1 (CRn X pins σ a g So ok N0 Fin) (CY X pins σ a g So ok N0 Gv Gn) n (.send .none) (s.setGen g .running)
theorem next_c {n : Nat} {s : Shared} {Q : Option Value → Shared → Prop} {E : Value → Shared → Prop} (hh : B.handled = none) (hd : B.depth < recursionLimit) (ha : So ≠ some a) (hc : So ≠ some cStatics) (h : Lv X pins σ a g So ok N0 Gv Gn Fin B n s)
    (hY : ∀ ys x v H s1, RelV x v → (∀ S, So = some S → s1.heap.get? S = s.heap.get? S) → CV X pins σ a g So ok ys H s1 → ys.length < sizeLine → (Gv (ys ++ [x]) H ∨ (Gn (ys ++ [x]) H ∧ ∀ s', s'.gens = s1.gens → Wk So ok (ys ++ [x]) s1 s' → ∃ m, m < n ∧ Lv X pins σ a g So ok N0 Gv Gn Fin B m s')) → Q (some v) s1)
    (hP : ∀ ys H s1, (∀ S o, So = some S → s.heap.get? S = some o → s1.heap.get? S = some o) → CV X pins σ a g So ok ys H s1 → Fin ys H → Q none s1) : wpAny (model X.prog X.w) B (pyNext (.ref a)) Q E s := by
  obtain ⟨hg, hl, gs, hgs, hgo⟩ := h
  have hgo' : gs.Goes (model X.prog X.w) B.in1 (fun n s₀ r s₁ => ((r = .ok (.ret .none) ∨ r = .ok .next) ∧ ∃ ys H, n + ys.length = N0 ∧ (∀ S, So = some S → s₁.heap.get? S = s₀.heap.get? S) ∧ CV X pins σ a g So ok ys H s₁ ∧ Fin ys H) ∨ ∃ e, r = .error e ∧ False) (CY X pins σ a g So ok N0 Gv Gn) n (.send .none) (s.setGen g .running) := hgo
  have hlt : ∀ (s1 : Shared), s.gens.size ≤ s1.gens.size → g < s1.gens.size := fun s1 h => by
    have : g < s.gens.size := by
      rcases Nat.lt_or_ge g s.gens.size with h' | h'
      · exact h'
      · rw [Array.getElem?_eq_none h'] at hgs; cases hgs
    omega
  refine wpAny_gsz (n := s.gens.size) (Nat.le_refl _) ?_
  refine next_genG hh hl hd hg hgs hgo' (fun v s₁ gs' hb hv => ?_) (fun s₁ hp h' hk => ?_) fun e s₁ z => z.elim
  · obtain ⟨ys, x, H, h1, h2, h3, h0, h4, h5⟩ := hv
    intro hsz
    refine hY ys x v H _ h3 h0 (h4.set hb) h2 (h5.imp id fun h => ⟨h.1, fun s' hgn z => ?_⟩)
    have hk := h.2 (s'.setGen g .running) ⟨z.os, allBare_setGen z.bare rfl, fun b o hb e => z.keep b o hb e, z.own⟩
    cases n with
    | zero => exact False.elim hk
    | succ m =>
      refine ⟨m, Nat.lt_succ_self _, ?_, ?_, gs', ?_, hk⟩
      · obtain ⟨o, nm, qn, ho, r⟩ := h4.2.1
        exact ⟨o, nm, qn, z.keep a o ha ho, r⟩
      · have nl : s₁.heap.NoLimit := h4.1.nolimit
        obtain ⟨mc, hns, hnn⟩ := nl
        exact ⟨mc, hns.at' fun o e => z.keep cStatics o hc e, hnn⟩
      · rw [hgn]
        exact setGen_at (hlt _ (by rw [setGen_size] at hsz; exact hsz))
  · obtain ⟨ys, H, h1, h0, h2, h3⟩ := hp
    intro _
    exact hP ys H _ (fun S o e q => hk _ _ (by rw [h0 S e]; exact q)) ((h2.set (x := .finished) rfl).kept hk) h3
/-- the list is the items -/
abbrev okVals : OkT := fun ys acc => Vals ys acc.toList ∧ ys.length ≤ sizeLine
theorem vals_size {ys : List V} {acc : Array Value} (h : Vals ys acc.toList) : acc.size = ys.length := by
  have e1 := h.length
  have e2 : acc.toList.length = acc.size := by simp
  omega
theorem ext_loop {A : Around} {S : Addr} {res : Value} {R : Result → Shared → Prop} (hh : A.handled = none) (hd : A.depth < recursionLimit) (hSa : S ≠ a) (hSc : S ≠ cStatics) (hGv : ∀ ys H, ¬ Gv ys H)
    (hend : ∀ ys H s', CV X pins σ a g (some S) okVals ys H s' → Fin ys H → R (.ok (.ret res)) s') : ∀ (n : Nat) (s : Shared), Lv X pins σ a g (some S) okVals N0 Gv Gn Fin A.in1 n s →
      codeAny (model X.prog X.w) A (.builtin "list.extend.loop" ⟨[.ref S, .ref a, res], []⟩) R s := by
  intro n
  induction n using Nat.strongRecOn with
  | ind n ih =>
    intro s h
    refine codeAny_builtin F.entry_extend_loop ?_
    rw [Around.under_plainId F.plain_extend_loop _]
    show wpAny _ A.in1 (pyNext (.ref a) >>= _) _ _ s
    refine wpAny_bind (next_c (B := A.in1) hh hd (fun e => hSa (Option.some.inj e)) (fun e => hSc (Option.some.inj e)) h (fun ys x v H s1 rv _ hcv hlt hor => ?_) (fun ys H s1 _ hcv hf => wpAny_pure (hend ys H s1 hcv hf)))
    rcases hor with z | ⟨_, hk⟩
    · exact (hGv _ _ z).elim
    obtain ⟨hS0, acc, c, eS, hv, _⟩ := hcv.2.2 S rfl
    have hsz := vals_size hv
    show wpAny _ A.in1 (updateSeq S (·.push v) >>= _) _ _ _
    refine wpAny_bind (wpAny_updateSeq eS rfl (wpAny_pure ⟨plainId_quiet F.plain_extend_loop _, ?_⟩) (by rw [hsz]; omega) (by show (acc.push v).size ≤ sizeLine + 1; rw [Array.size_push, hsz]; omega))
    have hw : Wk (some S) okVals (ys ++ [x]) s1 { s1 with heap := s1.heap.update S (Obj.mapSeq (·.push v)) } := by
      refine ⟨rfl, hcv.1.bare, fun b o hb e => (Heap.get?_update_other _ _ (fun z => hb (by rw [z]))).trans e, fun S' e => ?_⟩
      cases e
      refine ⟨acc.push v, _, Heap.get?_update_self _ eS rfl, ?_, by rw [List.length_append, List.length_singleton]; omega⟩
      show Vals _ (acc.push v).toList
      rw [Array.toList_push]
      exact hv.append (.cons rv .nil)
    have hk2 := hk { s1 with heap := s1.heap.update S (Obj.mapSeq (·.push v)) } rfl hw
    obtain ⟨m, hm, hl⟩ := hk2
    exact ih m hm _ hl
/-- collect(g) -/
theorem collect_c {k : Nat} {A : Around} {H : Hp} {s : Shared} {Q : List Value → Shared → Prop} {E : Value → Shared → Prop} (hr : Room (k + 2) A) (hfr : A.frames = some X.stack) (hGv : ∀ ys H, ¬ Gv ys H) (G : GMd X k pins σ H N0 Gv Gn Fin a s)
    (hQ : ∀ ys us H' s', Inv X pins σ H' s' → Fin ys H' → Vals ys us → ys.length ≤ sizeLine → Q us s') : wpAny (model X.prog X.w) A (collect (.ref a)) Q E s := by
  obtain ⟨g, code, ha, hg, hgs, I, wake⟩ := G
  have hSa : s.heap.objs.size ≠ a := Nat.ne_of_gt ha
  have hSc : s.heap.objs.size ≠ cStatics := let ⟨_, hn, _⟩ := I.nolimit; Nat.ne_of_gt hn.lt
  unfold collect
  refine wpAny_bind (wpAny_runValue (codeAny_builtin F.entry_proto_collect ?_))
  rw [Around.under_plainId F.plain_proto_collect _]
  show wpAny _ A.in1 (newList [] >>= fun l => again (.builtin "list.__iadd__" ⟨[l, .ref a], []⟩)) _ _ s
  refine wpAny_bind (wpAny_newObj_type ?_)
  refine wpAny_pure ⟨plainId_quiet F.plain_list_iadd _, codeAny_builtin F.entry_list_iadd ?_⟩
  rw [Around.under_plainId F.plain_list_iadd _]
  have k1 : ∀ b o, s.heap.get? b = some o → (s.heap.push { cls := .type "list", data := .seq ([] : List Value).toArray }).get? b = some o := fun b o e => Heap.get?_push_of_some _ e
  show wpAny _ A.in1 (Builtin.List.listExtendWith (.ref s.heap.objs.size) (.ref a) (.ref s.heap.objs.size)) _ _ _
  unfold Builtin.List.listExtendWith
  have gty : ∀ {h : Heap}, (∀ b o, s.heap.get? b = some o → h.get? b = some o) → h.IsGen a g := fun {h} q => hg.keeps q
  refine wpAny_bind (wpAny_typeOf (Heap.IsGen.typeIs (s := { s with heap := _ }) (gty k1)) ?_)
  have h1 : Builtin.List.listSameRef (.ref s.heap.objs.size) (.ref a) = false := by simp [Builtin.List.listSameRef, hSa]
  have h2 : (Value.type "generator" == Value.type "list") = false := by decide
  have h3 : (Value.type "generator" == Value.type "tuple") = false := by decide
  simp only [h1, h2, h3, Bool.or_false, Bool.false_eq_true, if_false]
  refine wpAny_bind (wpAny_pyIter_gen (s := { s with heap := _ }) (gty k1) ?_)
  refine wpAny_bind (wpAny_holding ?_)
  unfold Builtin.List.listLengthHint
  refine wpAny_bind (wpAny_specialOf (Heap.IsGen.typeIs (s := { s with heap := _ }) (gty k1)) F.gen_no_len ?_)
  show wpAny _ A.in1 (specialOf (Value.ref a) (Str.ofString "__length_hint__") >>= _) _ _ _
  refine wpAny_bind (wpAny_specialOf (Heap.IsGen.typeIs (s := { s with heap := _ }) (gty k1)) F.gen_no_hint ?_)
  refine wpAny_pure ?_
  show wpAny _ A.in1 (rule "list.extend.makes-room" >>= fun _ => Builtin.List.listTouch (.ref s.heap.objs.size) >>= fun _ =>
    again (.builtin "list.extend.loop" ⟨[.ref s.heap.objs.size, .ref a, .ref s.heap.objs.size], []⟩)) _ _ _
  refine wpAny_bind (wpAny_rule ?_)
  have hS1 : (s.heap.push { cls := .type "list", data := .seq ([] : List Value).toArray }).get? s.heap.objs.size = some { cls := .type "list", data := .seq ([] : List Value).toArray } := Heap.get?_push_size _ rfl
  refine wpAny_bind ?_
  show wpAny _ A.in1 (updateSeq s.heap.objs.size (·.push .none) >>= fun _ => updateSeq s.heap.objs.size (·.pop)) _ _ _
  refine wpAny_bind (wpAny_updateSeq hS1 rfl ?_)
  have hS2 := Heap.get?_update_self (Obj.mapSeq (·.push Value.none)) hS1 rfl
  refine wpAny_updateSeq hS2 rfl ?_
  have hS3 := Heap.get?_update_self (Obj.mapSeq (·.pop)) hS2 rfl
  have k3 : ∀ b o, s.heap.get? b = some o → (((s.heap.push { cls := .type "list", data := .seq ([] : List Value).toArray }).update s.heap.objs.size (Obj.mapSeq (·.push Value.none))).update s.heap.objs.size (Obj.mapSeq (·.pop))).get? b = some o :=
    fun b o e => (Heap.get?_update_other _ _ (Ne.symm (Nat.ne_of_lt (Heap.lt_size e)))).trans ((Heap.get?_update_other _ _ (Ne.symm (Nat.ne_of_lt (Heap.lt_size e)))).trans (k1 b o e))
  have nl : s.heap.NoLimit := I.nolimit
  refine wpAny_pure ⟨plainId_quiet F.plain_extend_loop _, ext_loop (A := A) (X := X) (pins := pins) (σ := σ) (g := g) (N0 := N0) (Gv := Gv) (Gn := Gn) (Fin := Fin) hr.hd (by have := hr.dp; show A.depth < _; omega) hSa hSc hGv (fun ys H' s' hcv hf => ?_) N0 _ ⟨gty k3, nl.keeps k3, _, hgs, rfl, ?_⟩⟩
  · obtain ⟨hS0, acc, c, eS, hv, hz⟩ := hcv.2.2 _ rfl
    show wpAny _ A (load s.heap.objs.size >>= _) _ _ s'
    exact wpAny_bind (wpAny_load eS (wpAny_pure (hQ ys acc.toList H' s' hcv.1 hf hv hz)))
  · refine wake _ (some s.heap.objs.size) okVals _ ?_ hfr (fun S e => by rw [← Option.some.inj e]; exact Nat.le_refl _) rfl (allBare_setGen (s := { s with heap := _ }) I.bare rfl) k3 fun S e => ?_
    · exact ⟨hr.hd, by have := hr.dp; show A.depth + 3 * (k + 1) + 5 < _; omega, by have := hr.un; show A.units + 1 + 1 + 16 * (k + 1) + 200 < _; omega⟩
    · cases e
      exact ⟨#[], _, hS3, .nil, Nat.zero_le _⟩
end
end Dl
end
section
set_option Elab.async false
set_option linter.all false
set_option maxRecDepth 100000
set_option maxHeartbeats 1000000
namespace Dl
open PySem PySem.Spec PyProof.Rows L2 GenW
section
variable {X : Cx} {pins : List (Addr × Obj)} {σ : L2.St} {a : Addr} {g : Nat} {So : Option Addr} {ok : OkT} {N0 : Nat} {Gv Gn Fin : List V → Hp → Prop} {B : Around}
/-- any, all: stops at the first b -/
def GvB (b : Bool) (Q : Hp → Prop) : List V → Hp → Prop := fun ys H => ys.getLast? = some (.bl b) ∧ Q H
def GnB (b : Bool) : List V → Hp → Prop := fun ys _ => ys.getLast? = some (.bl (!b))
theorem last_snoc (ys : List V) (x : V) : (ys ++ [x]).getLast? = some x := by simp
theorem any_loop {A : Around} {R : Result → Shared → Prop} {Qt Qf : Hp → Prop} (hh : A.handled = none) (hd : A.depth < recursionLimit)
    (ht : ∀ H s', Inv X pins σ H s' → Qt H → R (.ok (.ret (.bool true))) s') (hf : ∀ H s', Inv X pins σ H s' → Qf H → R (.ok (.ret (.bool false))) s') :
    ∀ (n : Nat) (s : Shared), Lv X pins σ a g none ok N0 (GvB true Qt) (GnB true) (fun _ H => Qf H) A.in1 n s → codeAny (model X.prog X.w) A (.builtin "any.loop" ⟨[.ref a], []⟩) R s := by
  intro n
  induction n using Nat.strongRecOn with
  | ind n ih =>
    intro s h
    refine codeAny_builtin F.entry_any_loop ?_
    rw [Around.under_plainId F.plain_any_loop _]
    show wpAny _ A.in1 (pyNext (.ref a) >>= _) _ _ s
    refine wpAny_bind (next_c (B := A.in1) hh hd (by simp) (by simp) h (fun ys x v H s1 rv _ hcv hlt hor => ?_) (fun ys H s1 _ hcv hq => wpAny_bind (wpAny_rule (wpAny_pure (hf H s1 hcv.1 hq)))))
    rcases hor with ⟨z, hq⟩ | ⟨z, hk⟩
    · rw [last_snoc] at z
      cases z
      obtain rfl : v = .bool true := rv
      refine wpAny_bind (wpAny_holding (wpAny_truthy_bool ?_))
      refine wpAny_bind (wpAny_letGo ?_)
      simp only [if_true]
      exact wpAny_bind (wpAny_rule (wpAny_pure (ht H s1 hcv.1 hq)))
    · have z : (ys ++ [x]).getLast? = some (.bl false) := z
      rw [last_snoc] at z
      cases z
      obtain rfl : v = .bool false := rv
      refine wpAny_bind (wpAny_holding (wpAny_truthy_bool ?_))
      refine wpAny_bind (wpAny_letGo ?_)
      simp only [Bool.false_eq_true, if_false]
      have hk2 := hk s1 rfl ⟨rfl, hcv.1.bare, fun b o hb e => e, fun S e => by cases e⟩
      obtain ⟨m, hm, hl⟩ := hk2
      exact wpAny_pure ⟨plainId_quiet F.plain_any_loop _, ih m hm _ hl⟩
theorem all_loop {A : Around} {R : Result → Shared → Prop} {Qt Qf : Hp → Prop} (hh : A.handled = none) (hd : A.depth < recursionLimit)
    (ht : ∀ H s', Inv X pins σ H s' → Qt H → R (.ok (.ret (.bool true))) s') (hf : ∀ H s', Inv X pins σ H s' → Qf H → R (.ok (.ret (.bool false))) s') :
    ∀ (n : Nat) (s : Shared), Lv X pins σ a g none ok N0 (GvB false Qf) (GnB false) (fun _ H => Qt H) A.in1 n s → codeAny (model X.prog X.w) A (.builtin "all.loop" ⟨[.ref a], []⟩) R s := by
  intro n
  induction n using Nat.strongRecOn with
  | ind n ih =>
    intro s h
    refine codeAny_builtin F.entry_all_loop ?_
    rw [Around.under_plainId F.plain_all_loop _]
    show wpAny _ A.in1 (pyNext (.ref a) >>= _) _ _ s
    refine wpAny_bind (next_c (B := A.in1) hh hd (by simp) (by simp) h (fun ys x v H s1 rv _ hcv hlt hor => ?_) (fun ys H s1 _ hcv hq => wpAny_bind (wpAny_rule (wpAny_pure (ht H s1 hcv.1 hq)))))
    rcases hor with ⟨z, hq⟩ | ⟨z, hk⟩
    · rw [last_snoc] at z
      cases z
      obtain rfl : v = .bool false := rv
      refine wpAny_bind (wpAny_holding (wpAny_truthy_bool ?_))
      refine wpAny_bind (wpAny_letGo ?_)
      simp only [Bool.false_eq_true, if_false]
      exact wpAny_bind (wpAny_rule (wpAny_pure (hf H s1 hcv.1 hq)))
    · have z : (ys ++ [x]).getLast? = some (.bl true) := z
      rw [last_snoc] at z
      cases z
      obtain rfl : v = .bool true := rv
      refine wpAny_bind (wpAny_holding (wpAny_truthy_bool ?_))
      refine wpAny_bind (wpAny_letGo ?_)
      simp only [if_true]
      have hk2 := hk s1 rfl ⟨rfl, hcv.1.bare, fun b o hb e => e, fun S e => by cases e⟩
      obtain ⟨m, hm, hl⟩ := hk2
      exact wpAny_pure ⟨plainId_quiet F.plain_all_loop _, ih m hm _ hl⟩
theorem any_c {k : Nat} {A : Around} {H : Hp} {s : Shared} {Q : Value → Shared → Prop} {E : Value → Shared → Prop} {Qt Qf : Hp → Prop} (hr : Room (k + 2) A) (hfr : A.frames = some X.stack) (G : GMd X k pins σ H N0 (GvB true Qt) (GnB true) (fun _ H => Qf H) a s)
    (ht : ∀ H s', Inv X pins σ H s' → Qt H → Q (.bool true) s') (hf : ∀ H s', Inv X pins σ H s' → Qf H → Q (.bool false) s') : wpAny (model X.prog X.w) A (call (.builtin "any") [.ref a]) Q E s := by
  obtain ⟨g, code, ha, hg, hgs, I, wake⟩ := G
  refine call_function_tree F.kind_any F.plain_any F.entry_any (F.args_any1 _) ?_
  unfold Builtin.«any»
  refine wpAny_bind (m := oneArg "any" _) (wpAny_pure ?_)
  refine wpAny_bind (wpAny_pyIter_gen hg ?_)
  refine wpAny_pure ⟨plainId_quiet F.plain_any_loop _, any_loop (A := A) (X := X) (pins := pins) (σ := σ) (g := g) (ok := fun _ _ => True) (N0 := N0) (Qt := Qt) (Qf := Qf) hr.hd (by have := hr.dp; show A.depth < _; omega) (fun H s' I' q => ht H s' I' q) (fun H s' I' q => hf H s' I' q) N0 _ ⟨hg, I.nolimit, _, hgs, rfl, ?_⟩⟩
  exact wake _ none (fun _ _ => True) _ ⟨hr.hd, by have := hr.dp; show A.depth + 3 * (k + 1) + 5 < _; omega, by have := hr.un; show A.units + 1 + 1 + 16 * (k + 1) + 200 < _; omega⟩ hfr (fun S e => by cases e) rfl (allBare_setGen I.bare rfl) (fun b o e => e) fun S e => by cases e
theorem all_c {k : Nat} {A : Around} {H : Hp} {s : Shared} {Q : Value → Shared → Prop} {E : Value → Shared → Prop} {Qt Qf : Hp → Prop} (hr : Room (k + 2) A) (hfr : A.frames = some X.stack) (G : GMd X k pins σ H N0 (GvB false Qf) (GnB false) (fun _ H => Qt H) a s)
    (ht : ∀ H s', Inv X pins σ H s' → Qt H → Q (.bool true) s') (hf : ∀ H s', Inv X pins σ H s' → Qf H → Q (.bool false) s') : wpAny (model X.prog X.w) A (call (.builtin "all") [.ref a]) Q E s := by
  obtain ⟨g, code, ha, hg, hgs, I, wake⟩ := G
  refine call_function_tree F.kind_all F.plain_all F.entry_all (F.args_all1 _) ?_
  unfold Builtin.«all»
  refine wpAny_bind (m := oneArg "all" _) (wpAny_pure ?_)
  refine wpAny_bind (wpAny_pyIter_gen hg ?_)
  refine wpAny_pure ⟨plainId_quiet F.plain_all_loop _, all_loop (A := A) (X := X) (pins := pins) (σ := σ) (g := g) (ok := fun _ _ => True) (N0 := N0) (Qt := Qt) (Qf := Qf) hr.hd (by have := hr.dp; show A.depth < _; omega) (fun H s' I' q => ht H s' I' q) (fun H s' I' q => hf H s' I' q) N0 _ ⟨hg, I.nolimit, _, hgs, rfl, ?_⟩⟩
  exact wake _ none (fun _ _ => True) _ ⟨hr.hd, by have := hr.dp; show A.depth + 3 * (k + 1) + 5 < _; omega, by have := hr.un; show A.units + 1 + 1 + 16 * (k + 1) + 200 < _; omega⟩ hfr (fun S e => by cases e) rfl (allBare_setGen I.bare rfl) (fun b o e => e) fun S e => by cases e
end
end Dl
end
section
set_option Elab.async false
set_option linter.all false
set_option maxRecDepth 100000
set_option maxHeartbeats 1000000
namespace Dl
open PySem PySem.Spec PyProof.Rows L2 GenW
section
variable {X : Cx} {pins : List (Addr × Obj)} {σ : L2.St} {a : Addr} {g : Nat} {So : Option Addr} {ok : OkT} {N0 : Nat} {Gv Gn Fin : List V → Hp → Prop} {B : Around}
def okSum : OkT := fun ys acc => ∃ (is : List Int) (t : Tok), ys = is.map V.int ∧ acc = #[.int is.sum t]
def GnS : List V → Hp → Prop := fun ys _ => ∃ zs : List Int, ys = zs.map V.int
theorem map_int_inj {xs ys : List Int} (h : xs.map V.int = ys.map V.int) : xs = ys := by
  induction xs generalizing ys with
  | nil => cases ys with
    | nil => rfl
    | cons y ys => simp at h
  | cons x xs ih => cases ys with
    | nil => simp at h
    | cons y ys =>
      simp only [List.map_cons, List.cons.injEq, V.int.injEq] at h
      rw [h.1, ih h.2]
theorem sum_loop {A : Around} {S : Addr} {R : Result → Shared → Prop} (hh : A.handled = none) (hd : A.depth < recursionLimit) (hSa : S ≠ a) (hSc : S ≠ cStatics) (hGv : ∀ ys H, ¬ Gv ys H) (hGn : ∀ ys H, Gn ys H → GnS ys H)
    (hend : ∀ (zs : List Int) t H s', Inv X pins σ H s' → Fin (zs.map V.int) H → R (.ok (.ret (.int zs.sum t))) s') : ∀ (n : Nat) (s : Shared) (stage : Int), (stage = 0 ∨ stage = 2) → (∃ ys acc c, s.heap.get? S = some (lstObj acc c) ∧ okSum ys acc) → Lv X pins σ a g (some S) okSum N0 Gv Gn Fin A.in1 n s →
      codeAny (model X.prog X.w) A (.builtin "sum.loop" ⟨[.ref a, .ref S, rawInt stage, rawInt 0], []⟩) R s := by
  intro n
  induction n using Nat.strongRecOn with
  | ind n ih =>
    intro s stage hstage ⟨ys0, acc, c, eS, zs, t, _, eacc⟩ h
    subst eacc
    refine codeAny_builtin F.entry_sum_loop ?_
    rw [Around.under_plainId F.plain_sum_loop _]
    show wpAny _ A.in1 (seqItems? (.ref S) >>= _) _ _ s
    refine wpAny_bind (wpAny_seqItems eS rfl ?_)
    show wpAny _ A.in1 (tryCatch (pyNext (.ref a)) _ >>= _) _ _ s
    refine wpAny_bind (wpAny_tryCatch (next_c (B := A.in1) hh hd (fun e => hSa (Option.some.inj e)) (fun e => hSc (Option.some.inj e)) h (fun ys x v H s1 rv h0 hcv hlt hor => ?_) (fun ys H s1 h0 hcv hq => ?_)))
    · have e1 : s1.heap.get? S = some (lstObj #[.int zs.sum t] c) := by rw [h0 S rfl, eS]
      obtain ⟨hS0, acc', c', eS', zs', t', ey, ea⟩ := hcv.2.2 S rfl
      rw [e1] at eS'
      have q : #[Value.int zs.sum t] = acc' := by
        have := Option.some.inj eS'
        injection this with _ _ q _
        injection q
      rw [ea] at q
      have qs : zs.sum = zs'.sum := by simp at q; exact q.1
      rcases hor with z | ⟨z, hk⟩
      · exact (hGv _ _ z).elim
      obtain ⟨zs2, e2⟩ := hGn _ _ z
      obtain ⟨i, rfl⟩ : ∃ i, x = .int i := by
        have : x ∈ zs2.map V.int := by rw [← e2]; simp
        obtain ⟨i, _, e⟩ := List.mem_map.mp this
        exact ⟨i, e.symm⟩
      obtain ⟨ti, rfl⟩ : ∃ ti, v = .int i ti := rv
      have upd1 : ∀ (h1 : Heap), h1.get? S = some (lstObj #[.int zs.sum t] c) ∨ h1.get? S = some (Obj.mapSeq (fun _ => #[.int (zs.sum + i) s1.toks]) (lstObj #[.int zs.sum t] c)) → (∀ b o, b ≠ S → s1.heap.get? b = some o → h1.get? b = some o) →
          ∀ tk, Wk (some S) okSum (ys ++ [.int i]) s1 { s1 with toks := tk, heap := h1.update S (Obj.mapSeq (fun _ => #[.int (zs.sum + i) s1.toks])) } := fun h1 e2 k tk => by
        refine ⟨rfl, hcv.1.bare, fun b o hb e => (Heap.get?_update_other _ _ (fun z => hb (by rw [z]))).trans (k b o (fun z => hb (by rw [z])) e), fun S' e => ?_⟩
        cases e
        have e9 : (zs' ++ [i]).sum = zs.sum + i := by rw [qs]; simp
        rcases e2 with e2 | e2
        · exact ⟨_, _, Heap.get?_update_self _ e2 rfl, zs' ++ [i], s1.toks, by rw [ey]; simp, by rw [e9]⟩
        · exact ⟨_, _, Heap.get?_update_self _ e2 rfl, zs' ++ [i], s1.toks, by rw [ey]; simp, by rw [e9]⟩
      have slow : ∀ (st : Int), (st = 0 ∨ st = 2) → wpAny (model X.prog X.w) A.in1 ((holding [Value.int i ti] (binaryOp .Add (.int zs.sum t) (.int i ti))).attempt >>= fun x => match x with
          | .ok r => (updateSeq S fun _ => #[r]) >>= fun _ => letGo [Value.int zs.sum t, Value.int i ti] >>= fun _ => (updateSeq S fun _ => #[r]) >>= fun _ => again (.builtin "sum.loop" ⟨[.ref a, .ref S, rawInt 2, rawInt 0], []⟩)
          | .error e => (updateSeq S fun _ => #[]) >>= fun _ => letGo [Value.int zs.sum t, Value.int i ti] [e] >>= fun _ => throw e) (fun x s' => match x with
            | .done f => R (.ok f) s'
            | .again c' => c'.quiet = true ∧ codeAny (model X.prog X.w) A c' R s') (fun e s' => R (.error e) s') s1 := fun st hst => by
        refine wpAny_bind (wpAny_attempt (wpAny_holding (PySem.P.add_int ?_)))
        show wpAny _ A.in1 (updateSeq S (fun _ => #[.int (zs.sum + i) s1.toks]) >>= _) _ _ _
        refine wpAny_bind ?_
        refine wpAny_updateSeq e1 rfl ?_
        have hS2 := Heap.get?_update_self (Obj.mapSeq fun _ => #[Value.int (zs.sum + i) s1.toks]) e1 rfl
        refine wpAny_bind (wpAny_letGo ?_)
        refine wpAny_bind ?_
        have hw := upd1 (s1.heap.update S (Obj.mapSeq (fun _ => #[.int (zs.sum + i) s1.toks]))) (.inr hS2) (fun b o hb e => (Heap.get?_update_other _ _ (Ne.symm hb)).trans e) (s1.toks + 1)
        have hk2 := hk _ (by rfl) hw
        obtain ⟨m, hm, hl⟩ := hk2
        obtain ⟨acc2, c2, e5, o5⟩ := hw.own S rfl
        exact wpAny_updateSeq hS2 rfl (wpAny_pure ⟨plainId_quiet F.plain_sum_loop _, ih m hm _ 2 (.inr rfl) ⟨_, acc2, c2, e5, o5⟩ hl⟩)
      rcases hstage with rfl | rfl
      · show wpAny _ A.in1 (if (_ : Bool) = true then (mkInt (zs.sum + i) >>= _) else _) _ _ _
        split
        · refine wpAny_bind (wpAny_mkInt ?_)
          show wpAny _ A.in1 (updateSeq S (fun _ => #[.int (zs.sum + i) s1.toks]) >>= _) _ _ _
          refine wpAny_bind ?_
          have hw := upd1 s1.heap (.inl e1) (fun b o hb e => e) (s1.toks + 1)
          have hk2 := hk _ (by rfl) hw
          obtain ⟨m, hm, hl⟩ := hk2
          obtain ⟨acc2, c2, e5, o5⟩ := hw.own S rfl
          exact wpAny_updateSeq e1 rfl (wpAny_pure ⟨plainId_quiet F.plain_sum_loop _, ih m hm _ 0 (.inl rfl) ⟨_, acc2, c2, e5, o5⟩ hl⟩)
        · refine wpAny_bind (wpAny_rule ?_)
          exact slow 2 (.inr rfl)
      · exact slow 2 (.inr rfl)
    · have e1 : s1.heap.get? S = some (lstObj #[.int zs.sum t] c) := h0 S _ rfl eS
      obtain ⟨hS0, acc', c', eS', zs', t', ey, ea⟩ := hcv.2.2 S rfl
      rw [e1] at eS'
      have q : #[Value.int zs.sum t] = acc' := by
        have := Option.some.inj eS'
        injection this with _ _ q _
        injection q
      rw [ea] at q
      have qs : zs.sum = zs'.sum := by simp at q; exact q.1
      subst ey
      have := hend zs' t H s1 hcv.1 hq
      rw [← qs] at this
      exact wpAny_pure this
theorem sum_c {k : Nat} {A : Around} {H : Hp} {s : Shared} {Q : Value → Shared → Prop} {E : Value → Shared → Prop} (hr : Room (k + 2) A) (hfr : A.frames = some X.stack) (hGv : ∀ ys H, ¬ Gv ys H) (hGn : ∀ ys H, Gn ys H → GnS ys H) (G : GMd X k pins σ H N0 Gv Gn Fin a s)
    (hQ : ∀ (zs : List Int) t H s', Inv X pins σ H s' → Fin (zs.map V.int) H → Q (.int zs.sum t) s') : wpAny (model X.prog X.w) A (call (.builtin "sum") [.ref a]) Q E s := by
  obtain ⟨g, code, ha, hg, hgs, I, wake⟩ := G
  refine call_function_tree F.kind_sum F.plain_sum F.entry_sum (F.args_sum1 _) ?_
  unfold Builtin.«sum»
  simp only [List.length_cons, List.length_nil]
  rw [if_neg (by decide)]
  refine wpAny_bind (wpAny_of_eq (show Builtin.Builtins.bindParams "sum" ["start"] 0 { } = pure [none] from rfl) ?_)
  refine wpAny_bind (wpAny_pyIter_gen hg ?_)
  refine wpAny_bind (wpAny_mkInt ?_)
  refine wpAny_bind (wpAny_pure ?_)
  simp only [List.forIn_cons, List.forIn_nil]
  refine wpAny_bind (wpAny_bind (wpAny_bind (wpAny_isInstance (T := "int") (b := false) (typeIs_int _ _ _) PySem.sub_int_str ?_)))
  simp only [Bool.false_eq_true, if_false]
  refine wpAny_pure (wpAny_bind (wpAny_bind (wpAny_isInstance (T := "int") (b := false) (typeIs_int _ _ _) PySem.sub_int_bytes ?_)))
  simp only [Bool.false_eq_true, if_false]
  refine wpAny_pure (wpAny_bind (wpAny_bind (wpAny_isInstance (T := "int") (b := false) (typeIs_int _ _ _) PySem.sub_int_bytearray ?_)))
  simp only [Bool.false_eq_true, if_false]
  refine wpAny_pure (wpAny_pure ?_)
  refine wpAny_bind (wpAny_newObj_type ?_)
  have hS1 : (s.heap.push { cls := .type "list", data := .seq ([.int 0 s.toks] : List Value).toArray }).get? s.heap.objs.size = some { cls := .type "list", data := .seq ([.int 0 s.toks] : List Value).toArray } := Heap.get?_push_size _ rfl
  have k1 : ∀ b o, s.heap.get? b = some o → (s.heap.push { cls := .type "list", data := .seq ([.int 0 s.toks] : List Value).toArray }).get? b = some o := fun b o e => Heap.get?_push_of_some _ e
  have hSa : s.heap.objs.size ≠ a := Nat.ne_of_gt ha
  have hSc : s.heap.objs.size ≠ cStatics := let ⟨_, hn, _⟩ := I.nolimit; Nat.ne_of_gt hn.lt
  have nl : s.heap.NoLimit := I.nolimit
  refine wpAny_pure ⟨plainId_quiet F.plain_sum_loop _, sum_loop (A := A) (X := X) (pins := pins) (σ := σ) (g := g) (N0 := N0) (Gv := Gv) (Gn := Gn) (Fin := Fin) hr.hd (by have := hr.dp; show A.depth < _; omega) hSa hSc hGv hGn (fun zs t H s' I' q => hQ zs t H s' I' q) N0 _ 0 (.inl rfl) ⟨[], _, _, hS1, [], s.toks, rfl, rfl⟩
    ⟨hg.keeps k1, nl.keeps k1, _, hgs, rfl, ?_⟩⟩
  exact wake _ (some s.heap.objs.size) okSum _ ⟨hr.hd, by have := hr.dp; show A.depth + 3 * (k + 1) + 5 < _; omega, by have := hr.un; show A.units + 1 + 1 + 16 * (k + 1) + 200 < _; omega⟩ hfr (fun S e => by rw [← Option.some.inj e]; exact Nat.le_refl _) rfl (allBare_setGen (s := { s with heap := _ }) I.bare rfl) k1 fun S e => by cases e; exact ⟨_, _, hS1, [], s.toks, rfl, rfl⟩
end
end Dl
end
section
set_option Elab.async false
set_option linter.all false
set_option maxRecDepth 100000
set_option maxHeartbeats 1000000
namespace Dl
open PySem PySem.Spec PyProof.Rows L2 GenW
open AutoSeq1 (wpAny_loadPart')
section
variable {X : Cx} {pins : List (Addr × Obj)} {σ : L2.St} {a : Addr} {g : Nat} {So : Option Addr} {ok : OkT} {N0 : Nat} {Gv Gn Fin : List V → Hp → Prop} {B : Around}
theorem GMd.typeIs {k : Nat} {H : Hp} {s : Shared} (G : GMd X k pins σ H N0 Gv Gn Fin a s) : s.TypeIs (.ref a) "generator" := by
  obtain ⟨g, code, ha, hg, _⟩ := G
  exact hg.typeIs
theorem code_tuple_c {k : Nat} {A : Around} {H : Hp} {s : Shared} {E : Value → Shared → Prop} {Q₁ : Value → Shared → Prop} (hr : Room (k + 2) A.in1) (hfr : A.frames = some X.stack) (hGv : ∀ ys H, ¬ Gv ys H) (G : GMd X k pins σ H N0 Gv Gn Fin a s)
    (h : ∀ ys us H' s', Inv X pins σ H' s' → Fin ys H' → Vals ys us → ys.length ≤ sizeLine → Q₁ (.ref s'.heap.objs.size) { s' with heap := s'.heap.push { cls := .type "tuple", data := .seq us.toArray } }) :
    codeAny (model X.prog X.w) A (.call (.builtin "tuple.__new__") ⟨[.type "tuple", .ref a], []⟩) (wants Q₁ E) s := by
  refine codeAny_of_tree ?_
  show wpAny _ A.in1 (do checkBuiltinCall "tuple.__new__" ⟨[.type "tuple", .ref a], []⟩; again (.builtin "tuple.__new__" ⟨[.type "tuple", .ref a], []⟩)) _ _ s
  refine wpAny_bind (wpAny_of_eq (F.newCall_tuple_1 _) (wpAny_pure ⟨plainId_quiet F.plain_tuple_new _, codeAny_builtin F.entry_tuple_new ?_⟩))
  rw [Around.under_plainId F.plain_tuple_new _]
  have hsub := sub_tuple_self
  have hinit := init_tuple_lookup
  have hmh := madeHere_tuple
  have hTI := G.typeIs
  wp_walk using wpAny_typeOf hTI, collect_c (A := A.in1) hr hfr hGv G
  intro ys us H' s' I' hf hv hz
  show wpAny _ _ (Builtin.Tuple.tupleExact us.toArray >>= fun v => ret v) _ _ _
  unfold Builtin.Tuple.tupleExact
  refine wpAny_bind (wpAny_newObj_type ?_ (by show us.toArray.size ≤ sizeLine; rw [List.size_toArray, ← hv.length]; exact hz))
  exact wpAny_pure (h ys us H' s' I' hf hv hz)
theorem tuple_c {k : Nat} {A : Around} {H : Hp} {s : Shared} {E : Value → Shared → Prop} {Q : Value → Shared → Prop} (hr : Room (k + 3) A) (hfr : A.frames = some X.stack) (hGv : ∀ ys H, ¬ Gv ys H) (G : GMd X k pins σ H N0 Gv Gn Fin a s)
    (hQ : ∀ ys us H' s', Inv X pins σ H' s' → Fin ys H' → Vals ys us → ys.length ≤ sizeLine → Q (.ref s'.heap.objs.size) { s' with heap := s'.heap.push { cls := .type "tuple", data := .seq us.toArray } }) :
    wpAny (model X.prog X.w) A (call (.type "tuple") [.ref a]) Q E s := by
  refine callType_codes (Q₁ := fun obj s₁ => s₁.TypeIs obj "tuple" ∧ Q obj s₁) F.called_tuple (F.typeCall_tuple_1 _) F.entry_object_init
    (code_tuple_c (k := k) (A := A.in1) ⟨hr.hd, by have := hr.dp; show A.depth + 3 * (k + 2) + 5 < _; omega, by have := hr.un; show A.units + 1 + 1 + 16 * (k + 2) + 200 < _; omega⟩ hfr hGv G fun ys us H' s' I' hf hv hz => ⟨⟨_, Heap.get?_push_size _ rfl, rfl⟩, hQ ys us H' s' I' hf hv hz⟩) fun obj s₁ h₁ => ?_
  exact ⟨h₁.1, F.args_object_init_2 obj _, object_init_meets F.called_tuple.init.lookup F.called_tuple.made (by decide) X.prog X.w A.in1 _ s₁ ⟨h₁.1, rfl, h₁.2⟩⟩
end
end Dl
end
section
set_option Elab.async false
set_option linter.all false
set_option maxRecDepth 100000
set_option maxHeartbeats 1000000
namespace Dl
open PySem PySem.Spec PyProof.Rows L2
mutual
def encD : D → PyData
  | .non => .none
  | .bl b => .bool b
  | .int i => .int i
  | .str s => .str s
  | .tup ds => .tuple (encL ds)
  | .lst ds => .list (encL ds)
  | .scr _ => .none
  | .loc _ => .none
def encL : List D → List PyData
  | [] => []
  | d :: ds => encD d :: encL ds
end
theorem encL_map : ∀ ds : List D, encL ds = ds.map encD
  | [] => rfl
  | d :: ds => by rw [encL, encL_map ds]; rfl
mutual
def pureD : D → Bool
  | .tup ds => pureL ds
  | .lst _ => false
  | .scr _ => false
  | .loc _ => false
  | _ => true
def pureL : List D → Bool
  | [] => true
  | d :: ds => pureD d && pureL ds
end
section
variable {X : Cx} {pins : List (Addr × Obj)} {σ : L2.St} {H : Hp} {s : Shared} {ν μ : List Addr}
mutual
theorem readsD (I : Inv X pins σ H s) : ∀ (d : D) {v : V} {u : Value}, RepD X.K H ν μ d v → RelV v u → pureD d = true → Reads s.heap u (encD d) []
  | .non, v, u, h, r, _ => by
    unfold RepD at h; subst h
    obtain rfl : u = .none := r
    exact .none
  | .bl b, v, u, h, r, _ => by
    unfold RepD at h; subst h
    obtain rfl : u = .bool b := r
    exact .bool b
  | .int i, v, u, h, r, _ => by
    unfold RepD at h; subst h
    obtain ⟨t, rfl⟩ : ∃ t, u = .int i t := r
    exact .int i t
  | .str x, v, u, h, r, _ => by
    unfold RepD at h; subst h
    obtain ⟨t, rfl⟩ : ∃ t, u = .str x t := r
    exact .str x t
  | .tup ds, v, u, h, r, p => by
    unfold RepD at h
    obtain ⟨a, xs, rfl, h1, h2⟩ := h
    obtain rfl : u = .ref a := r
    obtain ⟨its, ri, ht, hz⟩ := I.tuple h1
    unfold pureD at p
    have ra := readsL I ds h2 ri p
    obtain ⟨o, e, c, n, hd⟩ := ht
    exact .tuple e c hd ra
  | .lst _, v, u, h, r, p => by unfold pureD at p; cases p
  | .scr _, v, u, h, r, p => by unfold pureD at p; cases p
  | .loc _, v, u, h, r, p => by unfold pureD at p; cases p
theorem readsL (I : Inv X pins σ H s) : ∀ (ds : List D) {vs : List V} {us : List Value}, RepL X.K H ν μ ds vs → Vals vs us → pureL ds = true → ReadsAll s.heap us (encL ds) []
  | [], vs, us, h, r, _ => by
    unfold RepL at h; subst h
    cases r
    exact .nil
  | d :: ds, vs, us, h, r, p => by
    unfold RepL at h
    obtain ⟨v, rr, rfl, h1, h2⟩ := h
    unfold pureL at p
    rw [Bool.and_eq_true] at p
    cases r with
    | cons r1 r2 =>
      exact .cons (readsD I d h1 r1 p.1) (readsL I ds h2 r2 p.2)
end
end
end Dl
end
section
set_option Elab.async false
set_option linter.all false
set_option maxRecDepth 100000
set_option maxHeartbeats 1000000
namespace Dl
open PySem PySem.Spec PyProof.Rows L2 GenW
inductive Go where
  | go
  | stop (d : D)
  | bad
/-- what a consumer makes of a generator: stp looks at what came so far, k at the end -/
def gnD (stp : List D → Go) (k : List D → G → Res D) (vs : List Nat) (fg : FG) (ft : FT) (fe : FE) (ρ : Env') : List D → List D → G → Res D
  | acc, [], g => k acc g
  | acc, d :: r, g => match fg d (wipeD ρ vs) g with
    | .ok ρ1 g1 => match ft ρ1 g1 with
      | .ok true g2 => match fe ρ1 g2 with
        | .ok y g3 => match stp (acc ++ [y]) with
          | .go => gnD stp k vs fg ft fe ρ (acc ++ [y]) r g3
          | .stop z => .ok z g3
          | .bad => .stuck
        | _ => .stuck
      | .ok false g2 => gnD stp k vs fg ft fe ρ acc r g2
      | _ => .stuck
    | _ => .stuck
def fGn (stp : List D → Go) (k : List D → G → Res D) (vs : List Nat) (fi : FI) (fg : FG) (ft : FT) (fe : FE) : FE := fun ρ g => (fi ρ g).bind fun items g1 =>
  if items.length ≤ sizeLine then gnD stp k vs fg ft fe ρ [] items g1 else .stuck
section
variable {C : Cfg} {X : Cx} {W : WX} {tg elt iter : Expr} {ifs : List Expr} {fe : FE} {ft : FT} {pos p : Pos} {fi : FI} {fg : FG} {pins : List (Addr × Obj)} {σ : L2.St} {H : Hp} {s : Shared}
/-- what is known of a generator by its denotation -/
structure GSpec (C : Cfg) (K : PySem.W.Frag) (W : WX) (σ : L2.St) (Q : VK) (stp : List D → Go) (k : List D → G → Res D) (Gv Gn Fin : List V → Hp → Prop) : Prop where
  gv : ∀ ys H, Gv ys H → ∃ ν μ acc d g, RepL K H ν μ acc ys ∧ stp acc = .stop d ∧ acc ≠ [] ∧ RS C K H ν μ g ∧ Post C K W σ H ν μ (.ok d g) Q
  gn : ∀ ys H, Gn ys H → ∃ ν μ acc, RepL K H ν μ acc ys ∧ stp acc = .go
  fin : ∀ ys H, Fin ys H → ∃ ν μ acc g, RS C K H ν μ g ∧ RepL K H ν μ acc ys ∧ Post C K W σ H ν μ (k acc g) Q
theorem gen_arg {k : Nat} {kk : List D → G → Res D} {stp : List D → Go} {c P : Addr} {scope : Scope} {own : List (Str × Nat)} {ts : List Nat} {Q : VK}
    (hr : Room k X.A) (TB : LamX.TabB X.base X.mg c P) (hcode : X.env.code = .ref c) (hmT : (P, X.env.qual ++ "<genexpr>") ∈ C.tabs) (hu : ∀ p ∈ C.tabs, p.1 = P → p.2 = X.env.qual ++ "<genexpr>")
    (hN : X.N.Nodup) (ok : BlkOk X.N X.env.scope scope own) (hts : ∀ i ∈ ts, i ∈ own.map (·.2)) (hcell : ∀ y ∈ scope.names, y.2 ≠ .cell) (h0 : scope.names.lookup (".0" : Str) = some NameKind.local) (hco : scope.isCoroutine = false) (hs : ∀ v, genFold iter X.env v = pure v) (hi : DI C X W tg iter fi)
    (hg : ∀ (B : Around) (s : Shared) (H : Hp) (A : Addr) (code : Value) (fp : List Addr) (pn : List (Addr × Obj)), Room k (B.deeper (gEnvOf X scope A code)) → DG C (gCx X B s H (gEnvOf X scope A code) fp pn) W0 tg ts fg)
    (ht : ∀ (B : Around) (s : Shared) (H : Hp) (A : Addr) (code : Value) (fp : List Addr) (pn : List (Addr × Obj)), Room k (B.deeper (gEnvOf X scope A code)) → DTs C (gCx X B s H (gEnvOf X scope A code) fp pn) W0 ifs ft)
    (he : ∀ (B : Around) (s : Shared) (H : Hp) (A : Addr) (code : Value) (fp : List Addr) (pn : List (Addr × Obj)), Room k (B.deeper (gEnvOf X scope A code)) → DP C (gCx X B s H (gEnvOf X scope A code) fp pn) W0 elt fe)
    (I : Inv X pins σ H s) (h : tD C X.K W (fGn stp kk (own.map (·.2)) fi fg ft fe) σ H Q) :
    wpAny (model X.prog X.w) X.A (eval (.GeneratorExp elt [⟨tg, iter, ifs, 0⟩] scope pos) X.env) (fun u s5 => ∃ a H2 N0 Gv Gn Fin, u = .ref a ∧ GMd X k pins σ H2 N0 Gv Gn Fin a s5 ∧ GSpec C X.K W σ Q stp kk Gv Gn Fin) X.xe s := by
  refine gen_make (T := C.tabs) (wi := tI C X.K W fi) (g := tGt C X.K W0 ts fg) (tt := tT C X.K W0 ft) (te := tD C X.K W0 fe) hr TB hcode hmT hu hN ok hcell h0 hco hs hi hg ht he I ?_
  obtain ⟨ρ, ν, μ, g, hE, hR, hP⟩ := h
  refine ⟨ρ, ν, μ, g, hE, hR, ?_⟩
  unfold fGn at hP
  cases hf : fi ρ g with
  | err c g1 => simp only [hf, Res.bind] at hP; exact hP
  | stuck => simp only [hf, Res.bind] at hP; exact hP
  | ok items g1 =>
    simp only [hf, Res.bind] at hP
    by_cases hsz : items.length ≤ sizeLine
    case neg => rw [if_neg hsz] at hP; exact hP.elim
    rw [if_pos hsz] at hP
    intro J H1 μ1 ex1 R1 hY
    have hP1 := hP.ext ex1
    have hE1 := hE.mono (ν := ν) ex1.kp'
    refine ⟨R1.tb, fun H2 hx ht2 => ?_⟩
    have exN : Ext H1 μ1 H2 μ1 := ext_of_n hx
    have R2 := R1.extN hx ht2
    have hP2 := hP1.ext exN
    have hE2 := hE1.mono (ν := ν) exN.kp'
    refine ⟨fun i m ys H => i ≤ items.length ∧ m = items.length - i ∧ ∃ μ g acc, RS C X.K H ν μ g ∧ Ext H2 μ1 H μ ∧ RepL X.K H ν μ acc ys ∧ acc.length ≤ i ∧ Post C X.K W σ H2 ν μ1 (gnD stp kk (own.map (·.2)) fg ft fe ρ acc (items.drop i) g) Q,
      items.length, items.length + 1,
      (fun ys H => ∃ μ acc d g, RepL X.K H ν μ acc ys ∧ stp acc = .stop d ∧ acc ≠ [] ∧ RS C X.K H ν μ g ∧ Post C X.K W σ H ν μ (.ok d g) Q),
      (fun ys H => ∃ μ acc, RepL X.K H ν μ acc ys ∧ stp acc = .go),
      (fun ys H => ∃ μ acc g, RS C X.K H ν μ g ∧ RepL X.K H ν μ acc ys ∧ Post C X.K W σ H ν μ (kk acc g) Q), Nat.lt_succ_self _, ?_, ?_, ?_⟩
    · rintro i m ys H3 ⟨hi1, rfl, μ3, g3, acc, R3, ex3, rA, hA, hP3⟩
      have ex13 : Ext H1 μ1 H3 μ3 := exN.trans ex3
      obtain ⟨y1, y2⟩ := hY i H3 ex13.kp
      by_cases hlt : i < items.length
      · right
        obtain ⟨hgo, hyl⟩ := y1 items[i] (by simp [hlt])
        rw [List.drop_eq_getElem_cons hlt] at hP3
        refine ⟨hgo, fun ys' H' => ∃ μ g acc, RS C X.K H' ν μ g ∧ Ext H2 μ1 H' μ ∧ RepL X.K H' ν μ acc ys' ∧ acc.length ≤ i + 1 ∧ Post C X.K W σ H2 ν μ1 (gnD stp kk (own.map (·.2)) fg ft fe ρ acc (items.drop (i + 1)) g) Q,
          fun ys' H' ⟨μ', g', acc', b1, b2, b3, b4, b5⟩ => ⟨items.length - (i + 1), by omega, hlt, rfl, μ', g', acc', b1, b2, b3, b4, b5⟩, fun x H' hy => ?_⟩
        obtain ⟨e1, R3, r3⟩ := came ex13 R3 (d := items[i]) (x := x) (hyl x H' hy)
        have ex4 := ex3.trans e1
        have hE3 := (hE2.mono (ν := ν) ex4.kp').wipe (own.map (·.2))
        refine ⟨items[i], wipeD ρ (own.map (·.2)), ν, μ3, g3, hE3, R3, r3, ?_⟩
        unfold gnD at hP3
        cases hfg : fg items[i] (wipeD ρ (own.map (·.2))) g3 with
        | err c g4 => simp only [hfg] at hP3; exact hP3.elim
        | stuck => simp only [hfg] at hP3; exact hP3
        | ok ρ4 g4 =>
          simp only [hfg] at hP3 ⊢
          intro σ4 H4 μ4 ex4' R4 hE4 w4
          refine ⟨(w4 (own.map (·.2)) hts).trans (wipe_idem (own.map (·.2))), ρ4, ν, μ4, g4, hE4, R4, ?_⟩
          cases hft : ft ρ4 g4 with
          | err c g5 => simp only [hft] at hP3; exact hP3.elim
          | stuck => simp only [hft] at hP3; exact hP3
          | ok bb g5 =>
            intro H5 μ5 ex5 R5
            have ex5' := (ex4.trans ex4').trans ex5
            have rA5 := RepL.mono ((e1.trans ex4').trans ex5).kp' _ rA
            cases bb with
            | false =>
              simp only [hft] at hP3
              rw [if_neg (by decide)]
              exact ⟨μ5, g5, acc, R5, ex5', rA5, Nat.le_succ_of_le hA, hP3⟩
            | true =>
              simp only [hft] at hP3
              rw [if_pos rfl]
              refine ⟨ρ4, ν, μ5, g5, hE4.mono ex5.kp', R5, ?_⟩
              cases hfe : fe ρ4 g5 with
              | err c g6 => simp only [hfe] at hP3; exact hP3.elim
              | stuck => simp only [hfe] at hP3; exact hP3
              | ok y g6 =>
                simp only [hfe] at hP3
                intro yv H6 μ6 ex6 R6 r6
                have rA6 := RepL.snoc r6 (RepL.mono ex6.kp' _ rA5)
                have ex6' := ex5'.trans ex6
                have lA := RepL.length rA
                refine ⟨by omega, ?_⟩
                cases hst : stp (acc ++ [y]) with
                | bad => simp only [hst] at hP3; exact hP3.elim
                | stop z =>
                  simp only [hst] at hP3
                  exact .inl ⟨μ6, acc ++ [y], z, g6, rA6, hst, by simp, R6, hP3.ext ex6'⟩
                | go =>
                  simp only [hst] at hP3
                  exact .inr ⟨⟨μ6, acc ++ [y], rA6, hst⟩, μ6, g6, acc ++ [y], R6, ex6', rA6, by simp; omega, hP3⟩
      · left
        refine ⟨y2 (by omega), μ3, acc, g3, R3, rA, ?_⟩
        rw [List.drop_eq_nil_of_le (by omega)] at hP3
        unfold gnD at hP3
        exact hP3.ext ex3
    · exact ⟨Nat.zero_le _, rfl, μ1, g1, [], R2, .refl, rfl, Nat.le_refl _, hP2⟩
    · exact fun a s5 G => ⟨a, H2, _, _, _, _, rfl, G, ⟨fun ys H h => ⟨ν, h⟩, fun ys H h => ⟨ν, h⟩, fun ys H h => ⟨ν, h⟩⟩⟩
end
end Dl
end
section
set_option Elab.async false
set_option linter.all false
set_option maxRecDepth 100000
set_option maxHeartbeats 1000000
namespace Dl
open PySem PySem.Spec PyProof.Rows L2 GenW
section
variable {X : Cx} {pins : List (Addr × Obj)} {σ : L2.St} {H : Hp} {s : Shared} {k N0 : Nat} {a : Addr} {Gv Gn Fin Gv' Gn' Fin' : List V → Hp → Prop}
theorem GMd.imp (h1 : ∀ ys H, Gv ys H → Gv' ys H) (h2 : ∀ ys H, Gn ys H → Gn' ys H) (h3 : ∀ ys H, Fin ys H → Fin' ys H) (G : GMd X k pins σ H N0 Gv Gn Fin a s) : GMd X k pins σ H N0 Gv' Gn' Fin' a s := by
  obtain ⟨g, code, e1, e2, e3, e4, wake⟩ := G
  refine ⟨g, code, e1, e2, e3, e4, fun B So ok s2 q1 q2 q3 q4 q5 q6 q7 => seg_imp (fun n s₀ r s h => ?_) (fun n s₀ v s kap kap' hk h => ?_) N0 (wake B So ok s2 q1 q2 q3 q4 q5 q6 q7)⟩
  · rcases h with ⟨r1, ys, H', r2, r3, r4, r5⟩ | z
    · exact .inl ⟨r1, ys, H', r2, r3, r4, h3 _ _ r5⟩
    · exact .inr z
  · obtain ⟨ys, x, H', r1, r2, r3, r4, r5, r6⟩ := h
    exact ⟨ys, x, H', r1, r2, r3, r4, r5, r6.imp (h1 _ _) fun z => ⟨h2 _ _ z.1, fun s' w => hk _ _ (z.2 s' w)⟩⟩
end
theorem repL_last {K : PySem.W.Frag} {H : Hp} {ν μ : List Addr} {acc : List D} {ys : List V} {c : Bool} (r : RepL K H ν μ acc ys) (h : acc.getLast? = some (.bl c)) : ys.getLast? = some (.bl c) := by
  rw [List.getLast?_eq_getElem?] at h ⊢
  obtain ⟨v, hv, rv⟩ := RepL.get r h
  rw [← RepL.length r, hv]
  rw [show v = V.bl c from rv]
section
variable {C : Cfg} {X : Cx} {W : WX} {tg elt iter : Expr} {ifs : List Expr} {fe : FE} {ft : FT} {pos p gpos : Pos} {fi : FI} {fg : FG} {k : Nat} {scope : Scope} {own : List (Str × Nat)} {ts : List Nat} {stp : List D → Go} {kk : List D → G → Res D}
structure GenOk (C : Cfg) (X : Cx) (W : WX) (k : Nat) (tg iter elt : Expr) (ifs : List Expr) (scope : Scope) (own : List (Str × Nat)) (ts : List Nat) (fi : FI) (fg : FG) (ft : FT) (fe : FE) : Prop where
  room : Room (k + 3) X.A
  tab : ∃ c P, LamX.TabB X.base X.mg c P ∧ X.env.code = .ref c ∧ (P, X.env.qual ++ "<genexpr>") ∈ C.tabs ∧ ∀ p ∈ C.tabs, p.1 = P → p.2 = X.env.qual ++ "<genexpr>"
  nd : X.N.Nodup
  blk : BlkOk X.N X.env.scope scope own
  tss : ∀ i ∈ ts, i ∈ own.map (·.2)
  cell : ∀ y ∈ scope.names, y.2 ≠ .cell
  dot : scope.names.lookup (".0" : Str) = some NameKind.local
  co : scope.isCoroutine = false
  fold : ∀ v, genFold iter X.env v = pure v
  it : DI C X W tg iter fi
  tgt : ∀ (B : Around) (s : Shared) (H : Hp) (A : Addr) (code : Value) (fp : List Addr) (pn : List (Addr × Obj)), Room k (B.deeper (gEnvOf X scope A code)) → DG C (gCx X B s H (gEnvOf X scope A code) fp pn) W0 tg ts fg
  tst : ∀ (B : Around) (s : Shared) (H : Hp) (A : Addr) (code : Value) (fp : List Addr) (pn : List (Addr × Obj)), Room k (B.deeper (gEnvOf X scope A code)) → DTs C (gCx X B s H (gEnvOf X scope A code) fp pn) W0 ifs ft
  elt : ∀ (B : Around) (s : Shared) (H : Hp) (A : Addr) (code : Value) (fp : List Addr) (pn : List (Addr × Obj)), Room k (B.deeper (gEnvOf X scope A code)) → DP C (gCx X B s H (gEnvOf X scope A code) fp pn) W0 elt fe
/-- a consumer -/
def Cons (C : Cfg) (X : Cx) (W : WX) (k : Nat) (f : Value) (stp : List D → Go) (kk : List D → G → Res D) : Prop := ∀ (pins : List (Addr × Obj)) (σ : L2.St) (H2 : Hp) (N0 : Nat) (Gv Gn Fin : List V → Hp → Prop) (a : Addr) (s5 : Shared) (Q : VK),
  Room (k + 3) X.A → X.A.frames = some X.stack → GMd X k pins σ H2 N0 Gv Gn Fin a s5 → GSpec C X.K W σ Q stp kk Gv Gn Fin → wpAny (model X.prog X.w) X.A (call f [.ref a]) (fun u s' => ∃ v H', Inv X pins σ H' s' ∧ RelV v u ∧ Q v H') X.xe s5
theorem GenOk.arg {pins : List (Addr × Obj)} {σ : L2.St} {H : Hp} {s : Shared} {Q : VK} (O : GenOk C X W k tg iter elt ifs scope own ts fi fg ft fe) (I : Inv X pins σ H s) (h : tD C X.K W (fGn stp kk (own.map (·.2)) fi fg ft fe) σ H Q) :
    wpAny (model X.prog X.w) X.A (eval (.GeneratorExp elt [⟨tg, iter, ifs, 0⟩] scope pos) X.env) (fun u s5 => ∃ a H2 N0 Gv Gn Fin, u = .ref a ∧ GMd X k pins σ H2 N0 Gv Gn Fin a s5 ∧ GSpec C X.K W σ Q stp kk Gv Gn Fin) X.xe s := by
  obtain ⟨c, P, t1, t2, t3, t4⟩ := O.tab
  exact gen_arg (k := k) ⟨O.room.hd, by have := O.room.dp; omega, by have := O.room.un; omega⟩ t1 t2 t3 t4 O.nd O.blk O.tss O.cell O.dot O.co O.fold O.it O.tgt O.tst O.elt I h
theorem dp_genB {nm : Str} {id : String} (hg : Gl X nm) (hm : X.mg nm = none) (hv : bootBuiltins nm = some (.builtin id)) (hc : Cons C X W k (.builtin id) stp kk) (O : GenOk C X W k tg iter elt ifs scope own ts fi fg ft fe)
    (hnm : nm ≠ "__name__" := by decide) (hdb : (nm == ("__debug__" : Str)) = false := by decide)
    (he : starEach [.GeneratorExp elt [⟨tg, iter, ifs, 0⟩] scope gpos] X.env = (false, eval (.GeneratorExp elt [⟨tg, iter, ifs, 0⟩] scope gpos) X.env) :: starEach [] X.env := by rfl) :
    DP C X W (.Call (.Name nm p) [.GeneratorExp elt [⟨tg, iter, ifs, 0⟩] scope gpos] [] pos) (fGn stp kk (own.map (·.2)) fi fg ft fe) := by
  refine ⟨fun pins s σ H Q I h => ?_⟩
  refine wpAny_Call_Name_kw (ld_blt I hg hm hv ?_ hnm hdb)
  refine PyProof.Rows.callWith_builtin1 ?_ he (by rfl)
  rw [he]
  show wpAny _ _ (spliced ((false, eval (.GeneratorExp elt [⟨tg, iter, ifs, 0⟩] scope gpos) X.env) :: backTo pos (starEach [] X.env))) _ _ s
  refine Calls.spliced_cons (thn (O.arg I h) fun u s5 ⟨a, H2, N0, Gv, Gn, Fn, e, G, S⟩ => ?_)
  subst e
  refine Calls.spliced_nil ?_
  exact hc pins σ H2 N0 Gv Gn Fn a s5 Q O.room I.ok.frames G S
theorem dp_genT {nm : Str} {id : String} (hg : Gl X nm) (hm : X.mg nm = none) (hv : bootBuiltins nm = some (.type id)) (hc : Cons C X W k (.type id) stp kk) (O : GenOk C X W k tg iter elt ifs scope own ts fi fg ft fe)
    (hnm : nm ≠ "__name__" := by decide) (hdb : (nm == ("__debug__" : Str)) = false := by decide)
    (he : starEach [.GeneratorExp elt [⟨tg, iter, ifs, 0⟩] scope gpos] X.env = (false, eval (.GeneratorExp elt [⟨tg, iter, ifs, 0⟩] scope gpos) X.env) :: starEach [] X.env := by rfl) :
    DP C X W (.Call (.Name nm p) [.GeneratorExp elt [⟨tg, iter, ifs, 0⟩] scope gpos] [] pos) (fGn stp kk (own.map (·.2)) fi fg ft fe) := by
  refine ⟨fun pins s σ H Q I h => ?_⟩
  refine wpAny_Call_Name_kw (ld_blt I hg hm hv ?_ hnm hdb)
  refine PyProof.Rows.callWith_type1 ?_ he (by rfl)
  rw [he]
  show wpAny _ _ (spliced ((false, eval (.GeneratorExp elt [⟨tg, iter, ifs, 0⟩] scope gpos) X.env) :: backTo pos (starEach [] X.env))) _ _ s
  refine Calls.spliced_cons (thn (O.arg I h) fun u s5 ⟨a, H2, N0, Gv, Gn, Fn, e, G, S⟩ => ?_)
  subst e
  refine Calls.spliced_nil ?_
  exact hc pins σ H2 N0 Gv Gn Fn a s5 Q O.room I.ok.frames G S
/-! ### the consumers -/
def stpB (b : Bool) : List D → Go := fun acc => match acc.getLast? with
  | some (.bl c) => if c = b then .stop (.bl b) else .go
  | _ => .bad
def kB (b : Bool) : List D → G → Res D := fun _ g => .ok (.bl (!b)) g
theorem stpB_stop {b : Bool} {acc : List D} {d : D} (h : stpB b acc = .stop d) : acc.getLast? = some (.bl b) ∧ d = .bl b := by
  unfold stpB at h
  split at h
  · rename_i c e
    split at h
    · rename_i z; subst z
      cases h
      exact ⟨e, rfl⟩
    · cases h
  · cases h
theorem stpB_go {b : Bool} {acc : List D} (h : stpB b acc = .go) : acc.getLast? = some (.bl (!b)) := by
  unfold stpB at h
  split at h
  · rename_i c e
    split at h
    · cases h
    · rename_i z
      rw [e]
      cases c <;> cases b <;> simp_all
  · cases h
theorem room2 {A : Around} (r : Room (k + 3) A) : Room (k + 2) A := ⟨r.hd, by have := r.dp; omega, by have := r.un; omega⟩
theorem any_cons : Cons C X W k (.builtin "any") (stpB true) (kB true) := by
  intro pins σ H2 N0 Gv Gn Fin a s5 Q hr hf G S
  refine any_c (k := k) (Qt := fun H => Q (.bl true) H) (Qf := fun H => Q (.bl false) H) (room2 hr) hf (G.imp (fun ys H h => ?_) (fun ys H h => ?_) fun ys H h => ?_) (fun H s' I q => ⟨.bl true, H, I, rfl, q⟩) fun H s' I q => ⟨.bl false, H, I, rfl, q⟩
  · obtain ⟨ν, μ, acc, d, g, r, e, _, R, P⟩ := S.gv ys H h
    obtain ⟨e1, rfl⟩ := stpB_stop e
    exact ⟨repL_last r e1, P.here R (rBl _)⟩
  · obtain ⟨ν, μ, acc, r, e⟩ := S.gn ys H h
    exact repL_last r (stpB_go e)
  · obtain ⟨ν, μ, acc, g, R, r, P⟩ := S.fin ys H h
    exact P.here R (rBl _)
theorem all_cons : Cons C X W k (.builtin "all") (stpB false) (kB false) := by
  intro pins σ H2 N0 Gv Gn Fin a s5 Q hr hf G S
  refine all_c (k := k) (Qt := fun H => Q (.bl true) H) (Qf := fun H => Q (.bl false) H) (room2 hr) hf (G.imp (fun ys H h => ?_) (fun ys H h => ?_) fun ys H h => ?_) (fun H s' I q => ⟨.bl true, H, I, rfl, q⟩) fun H s' I q => ⟨.bl false, H, I, rfl, q⟩
  · obtain ⟨ν, μ, acc, d, g, r, e, _, R, P⟩ := S.gv ys H h
    obtain ⟨e1, rfl⟩ := stpB_stop e
    exact ⟨repL_last r e1, P.here R (rBl _)⟩
  · obtain ⟨ν, μ, acc, r, e⟩ := S.gn ys H h
    exact repL_last r (stpB_go e)
  · obtain ⟨ν, μ, acc, g, R, r, P⟩ := S.fin ys H h
    exact P.here R (rBl _)
/-- all that comes is taken -/
def stpAll : List D → Go := fun _ => .go
def stpI : List D → Go := fun acc => match intsOf acc with
  | some _ => .go
  | none => .bad
def kSum : List D → G → Res D := fun acc g => match intsOf acc with
  | some ns => .ok (.int ns.sum) g
  | none => .stuck
theorem sum_cons : Cons C X W k (.builtin "sum") stpI kSum := by
  intro pins σ H2 N0 Gv Gn Fin a s5 Q hr hf G S
  refine sum_c (k := k) (room2 hr) hf (fun ys H h => ?_) (fun ys H h => ?_) G fun zs t H s' I q => ⟨.int zs.sum, H, I, ⟨t, rfl⟩, ?_⟩
  · obtain ⟨ν, μ, acc, d, g, r, e, _⟩ := S.gv ys H h
    unfold stpI at e
    split at e <;> cases e
  · obtain ⟨ν, μ, acc, r, e⟩ := S.gn ys H h
    unfold stpI at e
    split at e
    · rename_i ns e1
      exact ⟨ns, intsOf_rd r e1⟩
    · cases e
  · obtain ⟨ν, μ, acc, g, R, r, P⟩ := S.fin _ H q
    unfold kSum at P
    split at P
    · rename_i ns e1
      have := intsOf_rd r e1
      have := map_int_inj this
      subst this
      exact P.here R (rInt _)
    · exact P.elim
def kTup : List D → G → Res D := fun acc g => .ok (.tup acc) g
def kLst : List D → G → Res D := fun acc g => .ok (.lst acc) g
def kMut : List D → G → Res D := fun acc g => .ok (.loc g.length) (g ++ [O.lst acc])
theorem tup_cons : Cons C X W k (.type "tuple") stpAll kTup := by
  intro pins σ H2 N0 Gv Gn Fin a s5 Q hr hf G S
  refine tuple_c (k := k) hr hf (fun ys H h => ?_) G fun ys us H' s' I q hv hz => ?_
  · obtain ⟨ν, μ, acc, d, g, r, e, _⟩ := S.gv ys H h
    unfold stpAll at e
    cases e
  · obtain ⟨ν, μ, acc, g, R, r, P⟩ := S.fin _ H' q
    have hS : s'.heap.objs.size ≤ s'.heap.objs.size := Nat.le_refl _
    have I2 : Inv X pins σ (upd H' s'.heap.objs.size (.tup ys)) { s' with heap := s'.heap.push { cls := .type "tuple", data := .seq us.toArray } } :=
      I.laid (t' := s'.toks) (fun b o e => Heap.get?_push_of_some _ e) hS ⟨hz, us, hv, ⟨_, Heap.get?_push_size _ rfl, rfl, _, rfl⟩⟩
    exact ⟨.ref s'.heap.objs.size, _, I2, rfl, rD_tup R r P _ (I.hok.fresh hS)⟩
end
end Dl
end
section
set_option Elab.async false
set_option linter.all false
set_option maxRecDepth 100000
set_option maxHeartbeats 1000000
namespace Dl
open PySem PySem.Spec PyProof.Rows L2 GenW
abbrev dLe : D → D → Bool := PySem.W.dataLe false encD
def insD (d : D) : List D → List D
  | [] => [d]
  | e :: r => if dLe d e = true then d :: e :: r else e :: insD d r
/-- sorted, by putting each in its place -/
def srt : List D → List D
  | [] => []
  | d :: r => insD d (srt r)
theorem insD_at (d : D) : ∀ (l1 l2 : List D), (∀ b, b ∈ l1 → (!dLe d b) = true) → (∀ b, b ∈ l2 → dLe d b = true) → insD d (l1 ++ l2) = l1 ++ d :: l2
  | [], [], _, _ => rfl
  | [], e :: r, _, h => by
    show (if dLe d e = true then d :: e :: r else e :: insD d r) = d :: e :: r
    rw [if_pos (h e List.mem_cons_self)]
  | e :: r, l2, h1, h2 => by
    have := h1 e List.mem_cons_self
    show (if dLe d e = true then d :: e :: (r ++ l2) else e :: insD d (r ++ l2)) = e :: (r ++ d :: l2)
    rw [if_neg (by simpa using this), insD_at d r l2 (fun b hb => h1 b (List.mem_cons_of_mem _ hb)) h2]
theorem dLe_trans (a b c : D) : dLe a b = true → dLe b c = true → dLe a c = true := (PySem.W.sortLe_total _ _ _).trans a b c
theorem dLe_total (a b : D) : (dLe a b || dLe b a) = true := Bool.or_eq_true_iff.mpr ((PySem.W.sortLe_total _ _ _).total a b)
theorem srt_eq : ∀ ds : List D, srt ds = ds.mergeSort (PySem.W.dataLe false encD)
  | [] => by simp [srt]
  | d :: r => by
    obtain ⟨l1, l2, e1, e2, h⟩ := List.mergeSort_cons dLe_trans dLe_total d r
    have hs := List.pairwise_mergeSort dLe_trans dLe_total (d :: r)
    rw [e1, List.pairwise_append] at hs
    have h2 := hs.2.1
    rw [List.pairwise_cons] at h2
    show insD d (srt r) = _
    rw [srt_eq r, e2, e1]
    exact insD_at d l1 l2 h fun b hb => h2.1 b hb
theorem srt_length (ds : List D) : (srt ds).length = ds.length := by rw [srt_eq, List.length_mergeSort]
def heads : D → Bool
  | .tup (_ :: _) => true
  | _ => false
def atoms : D → Bool
  | .non => false
  | .tup _ => false
  | _ => true
def srtOk (ds : List D) : Bool := pureL ds && (ds.all fun d => ds.all fun e => PySem.W.alike (encD d) (encD e)) && (ds.all heads || ds.all atoms) && (ds.all fun d => decide ((encD d).depth ≤ 100)) && decide (ds.length ≤ sizeLine)
theorem pureL_all : ∀ {ds : List D}, pureL ds = true → ∀ d ∈ ds, pureD d = true
  | [], _, d, h => by cases h
  | e :: r, p, d, h => by
    unfold pureL at p
    rw [Bool.and_eq_true] at p
    rcases List.mem_cons.mp h with z | z
    · rw [z]; exact p.1
    · exact pureL_all p.2 d z
section
variable {X : Cx} {pins : List (Addr × Obj)} {σ : L2.St} {H : Hp} {s : Shared} {ν μ : List Addr}
theorem zip_fst {α β : Type} : ∀ {xs : List α} {ys : List β}, xs.length = ys.length → (xs.zip ys).map (·.1) = xs
  | [], [], _ => rfl
  | x :: xs, y :: ys, h => by simp [zip_fst (xs := xs) (ys := ys) (by simpa using h)]
theorem zip_each {H : Hp} : ∀ {ds : List D} {ys : List V} {us : List Value}, RepL X.K H ν μ ds ys → Vals ys us → PySem.W.EachIs (fun u (b : D × V) => RelV b.2 u ∧ RepD X.K H ν μ b.1 b.2) us (ds.zip ys)
  | [], ys, us, r, v => by unfold RepL at r; subst r; cases v; exact .nil
  | d :: ds, ys, us, r, v => by
    unfold RepL at r
    obtain ⟨y, rr, rfl, r1, r2⟩ := r
    cases v with
    | cons v1 v2 => exact .cons ⟨v1, r1⟩ (zip_each r2 v2)
theorem each_unzip {H : Hp} : ∀ {bs : List (D × V)} {us : List Value}, PySem.W.EachIs (fun u (b : D × V) => RelV b.2 u ∧ RepD X.K H ν μ b.1 b.2) us bs → Vals (bs.map (·.2)) us ∧ RepL X.K H ν μ (bs.map (·.1)) (bs.map (·.2))
  | [], us, h => by cases h; exact ⟨.nil, rfl⟩
  | b :: bs, us, h => by
    cases h with
    | cons h1 h2 =>
      obtain ⟨v, r⟩ := each_unzip h2
      exact ⟨.cons h1.1 v, b.2, _, rfl, h1.2, r⟩
theorem zip_reads (I : Inv X pins σ H s) {h' : Heap} {p : Addr} (k : ∀ b o, s.heap.get? b = some o → h'.get? b = some o) : ∀ {ds : List D} {ys : List V} {us : List Value}, RepL X.K H ν μ ds ys → Vals ys us → pureL ds = true → PySem.W.EachIs (fun u (b : D × V) => ∃ as, Reads h' u (encD b.1) as ∧ p ∉ as) us (ds.zip ys)
  | [], ys, us, r, v, _ => by unfold RepL at r; subst r; cases v; exact .nil
  | d :: ds, ys, us, r, v, q => by
    unfold RepL at r
    obtain ⟨y, rr, rfl, r1, r2⟩ := r
    unfold pureL at q
    rw [Bool.and_eq_true] at q
    cases v with
    | cons v1 v2 => exact .cons ⟨[], PyProof.Rows.Reads.keeps k (readsD I d r1 v1 q.1), by simp⟩ (zip_reads I k r2 v2 q.2)
/-- a new list is sorted -/
theorem sort_new {A : Around} {ds : List D} {ys : List V} {us : List Value} {Q : Value → Shared → Prop} {E : Value → Shared → Prop} (I : Inv X pins σ H s) (r : RepL X.K H ν μ ds ys) (v : Vals ys us) (ok : srtOk ds = true) (hr : A.units + 200 < cLine)
    (h : ∀ s' zs, RepL X.K H ν μ (srt ds) zs → Inv X pins σ (upd H s.heap.objs.size (.lst zs)) s' → Q .none s') :
    wpAny (model X.prog X.w) A (call (.builtin "list.sort") [.ref s.heap.objs.size]) Q E { s with heap := s.heap.push { cls := .type "list", data := .seq us.toArray } } := by
  unfold srtOk at ok
  simp only [Bool.and_eq_true, decide_eq_true_eq] at ok
  obtain ⟨⟨⟨⟨ok1, ok2⟩, ok3⟩, ok4⟩, ok5⟩ := ok
  have hl := RepL.length r
  have hf : (ds.zip ys).map (·.1) = ds := zip_fst (by rw [hl])
  have hm : (ds.zip ys).map (fun b : D × V => encD b.1) = ds.map encD := by
    rw [← hf, List.map_map, hf]; rfl
  have hmem : ∀ b, b ∈ ds.zip ys → b.1 ∈ ds := fun b hb => (List.of_mem_zip hb).1
  refine PySem.W.list_sort_data (s := { s with heap := s.heap.push { cls := .type "list", data := .seq us.toArray } }) (n := 0) (bs := ds.zip ys) (enc := fun b => encD b.1) (R := fun u (b : D × V) => RelV b.2 u ∧ RepD X.K H ν μ b.1 b.2)
    (Heap.get?_push_size _ rfl) (zip_each r v) (zip_reads I (fun b o e => Heap.get?_push_of_some _ e) r v ok1) (fun d hd d' hd' => ?_) ?_ (by rw [List.length_zip, hl]; rw [hl] at ok5; simpa using ok5) (fun b hb => ?_) fun out ho he => ?_
  · rw [hm] at hd hd'
    obtain ⟨x, hx, rfl⟩ := List.mem_map.mp hd
    obtain ⟨y, hy, rfl⟩ := List.mem_map.mp hd'
    exact List.all_eq_true.mp (List.all_eq_true.mp ok2 x hx) y hy
  · rw [hm]
    rw [Bool.or_eq_true] at ok3
    rcases ok3 with z | z
    · refine .inl fun d hd => ?_
      obtain ⟨x, hx, rfl⟩ := List.mem_map.mp hd
      have := List.all_eq_true.mp z x hx
      unfold heads at this
      split at this
      · exact ⟨_, _, rfl⟩
      · cases this
    · refine .inr fun d hd => ?_
      obtain ⟨x, hx, rfl⟩ := List.mem_map.mp hd
      have := List.all_eq_true.mp z x hx
      have hp := pureL_all ok1 x hx
      cases x <;> simp_all [atoms, encD, pureD]
  · have := List.all_eq_true.mp ok4 b.1 (hmem b hb)
    have := of_decide_eq_true this
    show A.units + 1 + (encD b.1).depth < cLine
    omega
  · obtain ⟨v2, r2⟩ := each_unzip he
    have e1 : ((ds.zip ys).mergeSort (PySem.W.dataLe false fun b : D × V => encD b.1)).map (·.1) = srt ds := by
      have q := List.map_mergeSort (l := ds.zip ys) (f := fun b : D × V => b.1) (r := PySem.W.dataLe false fun b : D × V => encD b.1) (s := PySem.W.dataLe false encD) (fun a _ b _ => rfl)
      rw [hf] at q
      rw [srt_eq]
      exact q
    rw [e1] at r2
    have hlen : (((ds.zip ys).mergeSort (PySem.W.dataLe false fun b : D × V => encD b.1)).map (·.2)).length ≤ sizeLine := by
      rw [← RepL.length r2]
      rw [srt_length]; exact ok5
    have hS : s.heap.objs.size ≤ s.heap.objs.size := Nat.le_refl _
    obtain ⟨c, hc⟩ := sortedHeap_at (h := s.heap.push { cls := .type "list", data := .seq us.toArray }) (a := s.heap.objs.size) (vs := us) (n := 0) (out := out.toArray) (Heap.get?_push_size _ rfl)
    refine h _ _ r2 (I.laid (t' := s.toks) (fun b o e => ?_) hS ⟨hlen, out, c, v2, hc⟩)
    have hlt := Heap.lt_size e
    rw [sortedHeap_old (Nat.ne_of_lt hlt) (by rw [Heap.size_push]; exact Nat.lt_succ_of_lt hlt)]
    exact Heap.get?_push_of_some _ e
end
section
variable {X : Cx} {pins : List (Addr × Obj)} {σ : L2.St} {C : Cfg} {W : WX} {k : Nat}
def kSrt : List D → G → Res D := fun acc g => if srtOk acc = true then .ok (.lst (srt acc)) g else .stuck
theorem sorted_cons : Cons C X W k (.builtin "sorted") stpAll kSrt := by
  intro pins σ H2 N0 Gv Gn Fin a s5 Q hr hf G S
  refine Calls.call_function_entry kind_sorted plain_sorted entry_sorted (args_sorted1 _) ?_
  unfold Builtin.«sorted»
  refine wpAny_bind (m := checkCount "sorted" 1 1 _) (wpAny_pure ?_)
  refine wpAny_bind (collect_c (k := k) (A := X.A.in1) ⟨hr.hd, by have := hr.dp; show X.A.depth + 3 * (k + 2) + 5 < _; omega, by have := hr.un; show X.A.units + 1 + 16 * (k + 2) + 200 < _; omega⟩ hf (fun ys H h => ?_) G fun ys us H' s' I q hv hz => ?_)
  · obtain ⟨ν, μ, acc, d, g, r, e, _⟩ := S.gv ys H h
    unfold stpAll at e
    cases e
  refine wpAny_bind (wpAny_newList ?_ (by rw [← hv.length]; exact hz))
  refine wpAny_bind (wpAny_holding ?_)
  obtain ⟨ν, μ, acc, g, R, r, P⟩ := S.fin _ H' q
  unfold kSrt at P
  split at P
  · rename_i ok
    refine sort_new (A := X.A.in1) I r hv ok (by have := hr.un; show X.A.units + 1 + 200 < _; omega) fun s2 zs rz I2 => ?_
    exact wpAny_pure ⟨_, rfl, .ref s'.heap.objs.size, _, I2, rfl, rD_lst R rz P _ (I.hok.fresh (Nat.le_refl _))⟩
  · exact P.elim
def bSorted : FB
  | [d], g => match seqOf g d with
    | some ds => if srtOk ds = true then .ok (.lst (srt ds)) g else .stuck
    | none => .stuck
  | _, _ => .stuck
theorem bSorted_n : NoErrB bSorted := noerrB fun xs g c g' e => by unfold bSorted at e; split at e <;> (try split at e) <;> (try split at e) <;> cases e
theorem bSorted_ok (hr : Room 1 X.A) : CallR X (.builtin "sorted") (rB C X.K bSorted) := by
  intro pins s σ H vs us Q I rv h
  obtain ⟨ds, ν, μ, g, R, r, hP⟩ := h
  have hP := hP (fun _ _ _ _ => False) σ
  unfold bSorted at hP
  split at hP
  · obtain ⟨v, rfl, r1⟩ := rL1 r
    split at hP
    · rename_i es e
      split at hP
      · rename_i ok
        obtain ⟨a, xs, rfl, h1, h2⟩ := seq_rd R r1 e
        rw [Vals.ref1 rv]
        refine Calls.call_function_entry kind_sorted plain_sorted entry_sorted (args_sorted1 _) ?_
        unfold Builtin.«sorted»
        refine wpAny_bind (m := checkCount "sorted" 1 1 _) (wpAny_pure ?_)
        have goOn : ∀ its : List Value, Vals xs its → xs.length ≤ sizeLine → ∀ h', (∀ b o', s.heap.get? b = some o' → h'.get? b = some o') → wpAny (model X.prog X.w) X.A.in1 (do
              let l ← newList its
              let _ ← holding [l] (call (.builtin "list.sort") [l] [])
              ret l) (fun fin s' => ∃ v, fin = PySem.Fin.done (.ret v) ∧ ∃ x H', Inv X pins σ H' s' ∧ RelV x v ∧ Q x H') X.xe { s with heap := h' } := fun its hv hz h' k => by
          have I' : Inv X pins σ H { s with heap := h' } := I.kept (t' := s.toks) k
          refine wpAny_bind (wpAny_newList ?_ (by rw [← hv.length]; exact hz))
          refine wpAny_bind (wpAny_holding ?_)
          refine sort_new (A := X.A.in1) I' h2 hv ok (by have := hr.un; show X.A.units + 1 + 200 < _; omega) fun s2 zs rz I2 => ?_
          exact wpAny_pure ⟨_, rfl, .ref h'.objs.size, _, I2, rfl, rD_lst R rz hP _ (I'.hok.fresh (Nat.le_refl _))⟩
        rcases h1 with h1 | h1
        · obtain ⟨its, hv, ⟨o, n, ho, hc, _, hd⟩, hz⟩ := I.list h1
          exact wpAny_bind (wpAny_collect_seq a (.inl rfl) ho hc hd (fun h' k => goOn its hv hz h' k) (by rw [List.size_toArray, ← hv.length]; exact hz))
        · obtain ⟨its, hv, ⟨o, ho, hc, n, hd⟩, hz⟩ := I.tuple h1
          exact wpAny_bind (wpAny_collect_seq a (.inr rfl) ho hc hd (fun h' k => goOn its hv hz h' k) (by rw [List.size_toArray, ← hv.length]; exact hz))
      · exact hP.elim
    · exact hP.elim
  · exact hP.elim
end
end Dl
end
section
set_option Elab.async false
set_option linter.all false
set_option maxRecDepth 100000
set_option maxHeartbeats 1000000
namespace Dl
open PySem PySem.Spec PyProof.Rows L2
section
variable {prog : Program} {w : World} {A : Around} {E : Value → Shared → Prop} {s : Shared} {l : Addr} {its : List Value} {ns : List Int} {Q : Value → Shared → Prop}
theorem iter_tup {items : Array Value} {Q : Value → Shared → Prop} (hl : s.heap.IsTuple l items)
    (h : ∀ s₂ : Shared, s₂ = { s with heap := s.heap.push { cls := .type "tuple_iterator", data := .fields #[.ref l, .int 0 0] } } →
      (s₂.heap.IsTupleIter s.heap.objs.size l 0 ∧ s₂.heap.IsTuple l items) → (∀ b ∈ [s.heap.objs.size, l], b < s₂.heap.objs.size) → l ≠ s.heap.objs.size → Q (.ref s.heap.objs.size) s₂) :
    wpAny (model prog w) A (pyIter (.ref l)) Q E s := by
  have hlt : l < s.heap.objs.size := by obtain ⟨_, e, _⟩ := hl; exact Heap.lt_size e
  refine wpAny_pyIter_tuple hl (h _ rfl ⟨⟨_, Heap.get?_push_size _ rfl, rfl, rfl⟩, (let ⟨o, e, r⟩ := hl; ⟨o, Heap.get?_push_of_some _ e, r⟩)⟩ (fun b hb => ?_) (Nat.ne_of_lt hlt))
  show b < (s.heap.push _).objs.size
  rw [Heap.size_push]
  rcases List.mem_cons.mp hb with rfl | hb
  · exact Nat.lt_succ_self _
  · rcases List.mem_cons.mp hb with rfl | hb
    · exact Nat.lt_succ_of_lt hlt
    · cases hb
theorem old_keptT {h h' : Heap} {o : Obj} (hk : ∀ b u, ¬ b ∈ [h.objs.size] → (h.push o).get? b = some u → h'.get? b = some u) : ∀ b u, h.get? b = some u → h'.get? b = some u := fun b u e =>
  hk b u (fun z => Nat.ne_of_lt (Heap.lt_size e) (List.mem_singleton.mp z)) (Heap.get?_push_of_some _ e)
theorem sum_tup (hh : A.handled = none) (hl : s.heap.IsTuple l its.toArray) (hi : IntsAre its ns)
    (h : ∀ h' tk t', (∀ b o, s.heap.get? b = some o → h'.get? b = some o) → Q (.int ns.sum t') { s with heap := h', toks := tk }) : wpAny (model prog w) A (call (.builtin "sum") [.ref l]) Q E s := by
  obtain ⟨xs, e⟩ := hi.allInts.items
  have hn : numsOf (intItems xs).toList = ns := by rw [← e]; exact hi.numsOf
  rw [nums_intItems] at hn
  rw [e] at hl
  refine call_sum_walkG (iter_tup hl fun s₂ e st hfp hlI => ?_)
  subst e
  refine ⟨_, _, _, _, _, _, numAt xs, rfl, Walks.tuple (A := A.in1) hh _ l hlI (intItems xs), st, hfp, (fun _ _ => intItems_at), fun h' tk t' hk => ?_⟩
  have := h h' tk t' (old_keptT hk)
  have e9 : preSum (numAt xs) xs.size = ns.sum := by rw [preSum_eq, List.take_of_length_le (by simp), hn]
  rw [← e9] at this
  simpa [intItems] using this
theorem max_tup (hh : A.handled = none) (hl : s.heap.IsTuple l its.toArray) (hi : IntsAre its ns) (hne : 0 < ns.length)
    (h : ∀ h' tk M t', (∀ b o, s.heap.get? b = some o → h'.get? b = some o) → M ∈ ns → (∀ a, a ∈ ns → a ≤ M) → Q (.int M t') { s with heap := h', toks := tk }) : wpAny (model prog w) A (call (.builtin "max") [.ref l]) Q E s := by
  obtain ⟨xs, e⟩ := hi.allInts.items
  have hn : numsOf (intItems xs).toList = ns := by rw [← e]; exact hi.numsOf
  rw [nums_intItems] at hn
  subst hn
  rw [e] at hl
  have hsz : 0 < xs.size := by simpa using hne
  refine call_max_walk (iter_tup hl fun s₂ e st hfp hlI => ?_)
  subst e
  refine ⟨_, _, _, _, _, _, _, rfl, Walks.tuple (A := A.in1) hh _ l hlI (intItems xs), st, hfp, by simpa [intItems] using hsz, CmpOf.ints_gt (numAt xs) (fun _ _ => intItems_at), fun v h' tk hP hk => ?_⟩
  have hv : (intItems xs)[argBest (fun i j => decide (numAt xs i > numAt xs j)) (xs.size - 1)]? = some v := by simpa [intItems] using hP
  obtain ⟨t, rfl⟩ := intItems_at hv
  obtain ⟨h1, h2⟩ := argBest_gt (numAt xs) (xs.size - 1)
  refine h h' tk _ t (old_keptT hk) ?_ fun a ha => ?_
  · rw [numAt_eq]; exact PySem.getD_mem (by rw [List.length_map, Array.length_toList]; omega)
  · obtain ⟨j, hj, rfl⟩ := mem_getD ha
    rw [List.length_map, Array.length_toList] at hj
    rw [← numAt_eq]; exact h2 j (by omega)
theorem min_tup (hh : A.handled = none) (hl : s.heap.IsTuple l its.toArray) (hi : IntsAre its ns) (hne : 0 < ns.length)
    (h : ∀ h' tk M t', (∀ b o, s.heap.get? b = some o → h'.get? b = some o) → M ∈ ns → (∀ a, a ∈ ns → M ≤ a) → Q (.int M t') { s with heap := h', toks := tk }) : wpAny (model prog w) A (call (.builtin "min") [.ref l]) Q E s := by
  obtain ⟨xs, e⟩ := hi.allInts.items
  have hn : numsOf (intItems xs).toList = ns := by rw [← e]; exact hi.numsOf
  rw [nums_intItems] at hn
  subst hn
  rw [e] at hl
  have hsz : 0 < xs.size := by simpa using hne
  refine call_min_walk (iter_tup hl fun s₂ e st hfp hlI => ?_)
  subst e
  refine ⟨_, _, _, _, _, _, _, rfl, Walks.tuple (A := A.in1) hh _ l hlI (intItems xs), st, hfp, by simpa [intItems] using hsz, CmpOf.ints_lt (numAt xs) (fun _ _ => intItems_at), fun v h' tk hP hk => ?_⟩
  have hv : (intItems xs)[argBest (fun i j => decide (numAt xs i < numAt xs j)) (xs.size - 1)]? = some v := by simpa [intItems] using hP
  obtain ⟨t, rfl⟩ := intItems_at hv
  obtain ⟨h1, h2⟩ := argBest_lt (numAt xs) (xs.size - 1)
  refine h h' tk _ t (old_keptT hk) ?_ fun a ha => ?_
  · rw [numAt_eq]; exact PySem.getD_mem (by rw [List.length_map, Array.length_toList]; omega)
  · obtain ⟨j, hj, rfl⟩ := mem_getD ha
    rw [List.length_map, Array.length_toList] at hj
    rw [← numAt_eq]; exact h2 j (by omega)
end
section
variable {X : Cx} {C : Cfg}
theorem seq_ints {K : PySem.W.Frag} {H : Hp} {ν μ : List Addr} {g : G} {d : D} {v : V} {ns : List Int} (R : RS C K H ν μ g) (r : RepD K H ν μ d v) (e : (seqOf g d).bind intsOf = some ns) : ∃ a, v = .ref a ∧ (SqL K H a (ns.map V.int) ∨ SqT K H a (ns.map V.int)) := by
  cases hl : seqOf g d with
  | none => rw [hl] at e; cases e
  | some ds =>
    rw [hl] at e
    obtain ⟨a, xs, rfl, h1, h2⟩ := seq_rd R r hl
    have := intsOf_rd h2 e
    subst this
    exact ⟨a, rfl, h1⟩
/-- over lists and tuples -/
def bSumS : FB
  | [d], g => match (seqOf g d).bind intsOf with
    | some ns => .ok (.int ns.sum) g
    | none => .stuck
  | _, _ => .stuck
theorem bSumS_n : NoErrB bSumS := noerrB fun xs g c g' e => by unfold bSumS at e; split at e <;> (try split at e) <;> cases e
theorem bSumS_ok (hc : X.calm = true) : CallR X (.builtin "sum") (rB C X.K bSumS) := by
  intro pins s σ H vs us Q I rv h
  obtain ⟨ds, ν, μ, g, R, r, hP⟩ := h
  have hP := hP (fun _ _ _ _ => False) σ
  unfold bSumS at hP
  split at hP
  · obtain ⟨v, rfl, r1⟩ := rL1 r
    split at hP
    · rename_i ns e
      obtain ⟨a, rfl, hs | hs⟩ := seq_ints R r1 e
      · exact cr_sum hc pins s σ H _ us Q I rv ⟨a, ns, rfl, hs, hP.here R (rInt _)⟩
      · obtain ⟨its, rvs, hl, _⟩ := I.tuple hs
        rw [Vals.ref1 rv]
        exact sum_tup (I.ok.hd hc) hl rvs.ints fun h' tk t' hk => ⟨.int _, H, I.kept hk, ⟨_, rfl⟩, hP.here R (rInt _)⟩
    · exact hP.elim
  · exact hP.elim
def bMinS : FB
  | [.int i, .int j], g => .ok (.int (if j < i then j else i)) g
  | [d], g => match (seqOf g d).bind intsOf with
    | some (n :: ns) => .ok (.int (minL (n :: ns))) g
    | _ => .stuck
  | _, _ => .stuck
theorem bMinS_n : NoErrB bMinS := noerrB fun xs g c g' e => by unfold bMinS at e; split at e <;> (try split at e) <;> cases e
theorem bMinS_ok (hc : X.calm = true) : CallR X (.builtin "min") (rB C X.K bMinS) := by
  intro pins s σ H vs us Q I rv h
  obtain ⟨ds, ν, μ, g, R, r, hP⟩ := h
  have hP := hP (fun _ _ _ _ => False) σ
  unfold bMinS at hP
  split at hP
  · obtain ⟨v, w, rfl, r1, r2⟩ := rL2 r
    obtain rfl : v = .int _ := r1
    obtain rfl : w = .int _ := r2
    exact call_min2 hc pins s σ H _ us Q I rv ⟨_, _, rfl, hP.here R (rInt _)⟩
  · obtain ⟨v, rfl, r1⟩ := rL1 r
    split at hP
    · rename_i n ns e
      have go : ∀ m, m ∈ n :: ns → (∀ a, a ∈ n :: ns → m ≤ a) → Q (.int m) H := fun m h1 h2 => by
        have := minL_is h1 h2
        rw [this] at hP
        exact hP.here R (rInt _)
      obtain ⟨a, rfl, hs | hs⟩ := seq_ints R r1 e
      · exact cr_min hc pins s σ H _ us Q I rv ⟨a, n :: ns, rfl, hs, by simp, go⟩
      · obtain ⟨its, rvs, hl, _⟩ := I.tuple hs
        rw [Vals.ref1 rv]
        exact min_tup (I.ok.hd hc) hl rvs.ints (by simp) fun h' tk m t' hk h1 h2 => ⟨.int _, H, I.kept hk, ⟨_, rfl⟩, go m h1 h2⟩
    · exact hP.elim
  · exact hP.elim
def bMaxS : FB
  | [.int i, .int j], g => .ok (.int (if j > i then j else i)) g
  | [d], g => match (seqOf g d).bind intsOf with
    | some (n :: ns) => .ok (.int (maxL (n :: ns))) g
    | _ => .stuck
  | _, _ => .stuck
theorem bMaxS_n : NoErrB bMaxS := noerrB fun xs g c g' e => by unfold bMaxS at e; split at e <;> (try split at e) <;> cases e
theorem bMaxS_ok (hc : X.calm = true) : CallR X (.builtin "max") (rB C X.K bMaxS) := by
  intro pins s σ H vs us Q I rv h
  obtain ⟨ds, ν, μ, g, R, r, hP⟩ := h
  have hP := hP (fun _ _ _ _ => False) σ
  unfold bMaxS at hP
  split at hP
  · obtain ⟨v, w, rfl, r1, r2⟩ := rL2 r
    obtain rfl : v = .int _ := r1
    obtain rfl : w = .int _ := r2
    exact call_max2 hc pins s σ H _ us Q I rv ⟨_, _, rfl, hP.here R (rInt _)⟩
  · obtain ⟨v, rfl, r1⟩ := rL1 r
    split at hP
    · rename_i n ns e
      have go : ∀ m, m ∈ n :: ns → (∀ a, a ∈ n :: ns → a ≤ m) → Q (.int m) H := fun m h1 h2 => by
        have := maxL_is h1 h2
        rw [this] at hP
        exact hP.here R (rInt _)
      obtain ⟨a, rfl, hs | hs⟩ := seq_ints R r1 e
      · exact cr_max hc pins s σ H _ us Q I rv ⟨a, n :: ns, rfl, hs, by simp, go⟩
      · obtain ⟨its, rvs, hl, _⟩ := I.tuple hs
        rw [Vals.ref1 rv]
        exact max_tup (I.ok.hd hc) hl rvs.ints (by simp) fun h' tk m t' hk h1 h2 => ⟨.int _, H, I.kept hk, ⟨_, rfl⟩, go m h1 h2⟩
    · exact hP.elim
  · exact hP.elim
end
end Dl
end
section
set_option Elab.async false
set_option linter.all false
set_option maxRecDepth 100000
set_option maxHeartbeats 1000000
namespace Dl
open PySem PySem.Spec PyProof.Rows L2
open AutoSeq1 (wpAny_loadPart')
open RZ (ItzT pi_zipA)
theorem meets_enumT (l : Addr) (items : Array Value) (n : Nat) (dct : Option Addr) (sl : Array (Option Value)) :
    Meets (Builtin.«enumerate.__new__» ⟨[.type "enumerate", .ref l], []⟩) (fun _ R s => s.heap.get? l = some { cls := .type "tuple", dict := dct, data := .seq items n, slots := sl } ∧
      R (.ok (.ret (.ref (s.heap.push { cls := .type "tuple_iterator", data := .fields #[.ref l, .int 0 0] }).objs.size)))
        { s with heap := (s.heap.push { cls := .type "tuple_iterator", data := .fields #[.ref l, .int 0 0] }).push { cls := .type "enumerate", data := .fields #[.none, .bool false, .ref s.heap.objs.size, rawInt 0, .none, .none] } }) :=
  .of_wp fun prog w A R s ⟨hl, h⟩ => by
    obtain ⟨hp, g, d, tk, os⟩ := s
    have hsub := sub_enumerate
    have hL : Heap.IsTuple (Shared.heap ⟨hp, g, d, tk, os⟩) l items := ⟨_, hl, rfl, n, rfl⟩
    wp_walk using wpAny_loadPart' hl
    refine wpAny_stack_any fun st => wpAny_pure ?_
    split
    · rename_i c _ _ _ _ _
      cases (c == Value.type "enumerate") <;> (wp_walk using wpAny_loadPart' hl, wpAny_pyIter_tuple hL; exact ⟨_, rfl, h⟩)
    · wp_walk using wpAny_loadPart' hl, wpAny_pyIter_tuple hL
      exact ⟨_, rfl, h⟩
section
variable {prog : Program} {w : World} {A : Around} {E : Value → Shared → Prop} {s : Shared}
theorem call_enumT {l : Addr} {items : Array Value} {Q : Value → Shared → Prop} (hL : s.heap.IsTuple l items)
    (h : ∀ h', IsEnum h' (s.heap.objs.size + 1) s.heap.objs.size 0 .none → h'.IsTupleIter s.heap.objs.size l 0 → h'.objs.size = s.heap.objs.size + 2 →
      (∀ b o, s.heap.get? b = some o → h'.get? b = some o) → Q (.ref (s.heap.objs.size + 1)) { s with heap := h' }) :
    wpAny (model prog w) A (call (.type "enumerate") [.ref l]) Q E s := by
  obtain ⟨⟨c, dct, dt, sl⟩, hl, hc, n, hd⟩ := hL
  obtain rfl : c = .type "tuple" := hc
  obtain rfl : dt = .seq items n := hd
  refine callType_new F.called_enumerate (by decide) (F.typeCall_enumerate_1 _) (F.newCall_enumerate_1 _) (fun obj => F.args_object_init_2 obj _) F.entry_enumerate_new (meets_enumT l items n dct sl) ⟨hl, ?_⟩
  have hz : (s.heap.push { cls := .type "tuple_iterator", data := .fields #[.ref l, .int 0 0] }).objs.size = s.heap.objs.size + 1 := Heap.size_push ..
  show _ ∧ _
  rw [hz]
  have he : IsEnum ((s.heap.push { cls := .type "tuple_iterator", data := .fields #[.ref l, .int 0 0] }).push
      { cls := .type "enumerate", data := .fields #[.none, .bool false, .ref s.heap.objs.size, rawInt 0, .none, .none] }) (s.heap.objs.size + 1) s.heap.objs.size 0 .none := by
    have q := Heap.get?_push_size (s.heap.push { cls := .type "tuple_iterator", data := .fields #[.ref l, .int 0 0] })
      (o := { cls := .type "enumerate", data := .fields #[.none, .bool false, .ref s.heap.objs.size, rawInt 0, .none, .none] }) rfl
    rw [hz] at q; exact q
  exact ⟨⟨_, he, rfl⟩, h _ he ⟨_, Heap.get?_push_of_some _ (Heap.get?_push_size _ rfl), rfl, rfl⟩ (by rw [Heap.size_push, hz]) fun b o x => Heap.get?_push_of_some _ (Heap.get?_push_of_some _ x)⟩
end
/-- the tuple at a, each item in a new pair -/
def IteT (K : PySem.W.Frag) (a : Addr) : It :=
  ⟨fun i H => ∃ (xs : List V) (x : V), SqT K H a xs ∧ xs[i]? = some x, fun i H v H' => ∃ T x, v = .ref T ∧ H T = none ∧ H' = upd H T (.tup [.int (i : Nat), x]) ∧ ∀ xs, SqT K H a xs → xs[i]? = some x, fun i H => ∃ xs : List V, SqT K H a xs ∧ xs.length ≤ i⟩
theorem turn_enumT {P : Program} {w : World} {K : PySem.W.Frag} {elts : List Expr} {kk : Nat} {tpos : Pos} (a e it : Addr) (hae : a ≠ e) (hai : a ≠ it) :
    Turn P w K (.Tuple elts kk tpos) (IteT K a) [e, it] e (fun i h => (∃ old, IsEnum h e it ((i : Nat) : Int) old) ∧ h.IsTupleIter it a i ∧ e ≠ it) where
  mem := by simp
  obj := fun i h st b hb => by
    obtain ⟨⟨old, he⟩, ⟨o, ho, hc, hd⟩, _⟩ := st
    have e' : b = e ∨ b = it := by simpa using hb
    rcases e' with z | z
    · rw [z]; exact ⟨_, he, fun v q => nomatch q⟩
    · rw [z]; exact ⟨o, ho, fun v q => by rw [hd] at q; cases q⟩
  keep := fun i h h' st k => let ⟨⟨old, he⟩, hi, hne⟩ := st; ⟨⟨old, k e (by simp) _ he⟩, hi.at fun o q => k it (by simp) o q, hne⟩
  item := by
    intro X hP hw hK hc i pins s σ H E I hf st hg
    subst hP hw hK
    obtain ⟨⟨old, he⟩, hit, hne⟩ := st
    obtain ⟨xs, x, hq, hx⟩ := hg
    obtain ⟨its, rv, p, hz⟩ := I.tuple hq
    obtain ⟨u, hu, ru⟩ := rv.get hx
    have hel : e < s.heap.objs.size := Heap.lt_size he
    have hil : it < s.heap.objs.size := by obtain ⟨_, q, _⟩ := hit; exact Heap.lt_size q
    have hlt : i < its.toArray.size := by
      obtain ⟨z, _⟩ := List.getElem?_eq_some_iff.mp hu
      simpa using z
    refine wpAny_pyNext_enum_itemD (Draws.tuple (A := X.A.in1) (I.ok.hd hc) it a hai its.toArray) he ⟨hit, p⟩ hlt hne (by simp [hne, Ne.symm hae]) fun x' h' tk hx' ho hit' hT hsz hk => ?_
    have ex : x' = u := by
      have hx' : its.toArray[i]? = some x' := hx'
      have : its[i]? = some x' := by simpa using hx'
      rw [hu] at this; cases this; rfl
    subst ex
    refine ⟨_, rfl, wpAny_letOwnedTupleGo_enum (s := { s with heap := h', toks := tk + 1 }) ho fun h'' he' sb => ?_⟩
    have hT2 : h''.get? s.heap.objs.size = some { cls := .type "tuple", data := .seq #[.int i tk, x'] } := (sb.2 _ (Nat.ne_of_gt hel)).trans hT
    have new : ObjOk X.prog X.w (upd H s.heap.objs.size (.tup [.int (i : Nat), x])) h'' s.heap.objs.size (.tup [.int (i : Nat), x]) :=
      ⟨by show 2 ≤ sizeLine; decide, [.int i tk, x'], .cons ⟨_, rfl⟩ (.cons ru .nil), ⟨_, hT2, rfl, _, rfl⟩⟩
    have I1 : Inv X pins σ (upd H s.heap.objs.size (.tup [.int (i : Nat), x])) { s with heap := h'', toks := tk + 1 } :=
      I.turnedNew (ch := [e, it]) (fun b ob hb q => (sb.2 b (fun z => hb (by simp [z]))).trans (hk b ob (fun z => hb (by simp [z])) (fun z => hb (by simp [z])) q)) hf (Nat.le_refl _) new
    refine ⟨.ref s.heap.objs.size, _, I1, rfl, ⟨_, x, rfl, I.hok.fresh (Nat.le_refl _), rfl, fun ys hy => by rw [I.tuple_inj hy hq]; exact hx⟩, ⟨⟨x', ?_⟩, hit'.1.at fun o q => (sb.2 it (Ne.symm hne)).trans q, hne⟩, fun b hb => ?_⟩
    · have e1 : ((i + 1 : Nat) : Int) = (i : Int) + 1 := by omega
      rw [e1]; exact he'
    · have hb' : b < s.heap.objs.size := by
        have e' : b = e ∨ b = it := by simpa using hb
        rcases e' with z | z
        · rw [z]; exact hel
        · rw [z]; exact hil
      rw [upd_ne (Nat.ne_of_lt hb')]
      exact (hf b hb).1
  done := by
    intro X hP hw hK hc i pins s σ H E I hf st hg
    subst hP hw hK
    obtain ⟨⟨old, he⟩, hit, hne⟩ := st
    obtain ⟨xs, hq, hx⟩ := hg
    obtain ⟨its, rv, p, hz⟩ := I.tuple hq
    obtain ⟨f0, f1, f2, f3, f4, f5⟩ := hf it (by simp)
    have hT : s.TypeIs (.ref e) "enumerate" := ⟨_, he, rfl⟩
    have hl := rv.length
    unfold pyNext
    refine wpAny_bind (wpAny_attempt (wpAny_callSpecial?_slot (name := Str.ofString "__next__") hT F.slot_enumerate_next (wpAny_call_entry F.slot_enumerate_next hT F.entry_enumerate_next ?_ (F.args_enumerate_next_1 _))))
    show wpAny _ _ (field (.ref e) 2 >>= _) _ _ _
    refine wpAny_bind (wpAny_field he rfl (x := .ref it) rfl ?_)
    refine wpAny_bind (PySem.wpAny_nextOf_tuple_end (I.ok.hd hc) hit p (by simp; omega) fun h' x he' hx' => ?_)
    obtain ⟨o, ho, hc⟩ := hx'
    refine wpAny_bind (wpAny_isInstance (T := "StopIteration") (b := true) ⟨o, ho, hc⟩ isSubtype_stop ?_)
    exact wpAny_pure ⟨rfl, I.turned (t' := s.toks) (fun b o hb q => he' b o hb q) f0 f1 f3 f4 f5⟩
  self := fun A i s Q E st h => let ⟨⟨_, he⟩, _⟩ := st; wpAny_pyIter_enum he h
def iEnumA (K : PySem.W.Frag) (ta : TA) : TI := fun σ H R => ta σ H fun vs H1 => ∃ a xs, vs = [.ref a] ∧ ((SqL K H1 a xs ∧ R (Ite K a) H1) ∨ (SqT K H1 a xs ∧ R (IteT K a) H1))
theorem pi_enumA {X : Cx} {e : Expr} {ta : TA} {p pos tpos : Pos} {elts : List Expr} {kk : Nat} (hg : Gl X "enumerate") (hm : X.mg "enumerate" = none) (ha : PA X [e] ta) (hs : starEach [e] X.env = [(false, eval e X.env)] := by rfl) :
    PI X (.Tuple elts kk tpos) (.Call (.Name "enumerate" p) [e] [] pos) (iEnumA X.K ta) := by
  refine ⟨fun pins s σ H R I h => ?_⟩
  refine Call_ (ld_blt I hg hm boot_enumerate (PyProof.Rows.callWith_type1 (thn (ha.run pos pins s σ H _ I h) fun us s1 ⟨vs, H1, I1, r1, q1⟩ => ?_) hs rfl))
  obtain ⟨a, xs, ex, q1⟩ := q1
  subst ex
  have r1 := Vals.ref1 r1
  subst r1
  have fresh2 : ∀ b ∈ [s1.heap.objs.size + 1, s1.heap.objs.size], FpOk X pins H1 b := fun b hb => by
    have hle : s1.heap.objs.size ≤ b := by
      rcases List.mem_cons.mp hb with z | z
      · rw [z]; exact Nat.le_add_right _ _
      · rw [List.mem_singleton.mp z]; exact Nat.le_refl _
    exact I1.fpOk hle (I1.hok.fresh hle)
  rcases q1 with ⟨hq, q⟩ | ⟨hq, q⟩
  · obtain ⟨its, rv, p', hz⟩ := I1.list hq
    refine call_enumerate_list p'.isList fun h' he hit hsz hk => wpAny_pyIter_enum he ?_
    exact ⟨s1.heap.objs.size + 1, _, _, _, H1, rfl, I1.kept (t' := s1.toks) hk, turn_enum a (s1.heap.objs.size + 1) s1.heap.objs.size, ⟨⟨.none, he⟩, hit, Nat.succ_ne_self _⟩, fresh2, q⟩
  · obtain ⟨its, rv, p', hz⟩ := I1.tuple hq
    have hlt : a < s1.heap.objs.size := by obtain ⟨o, e, _⟩ := id p'; exact Heap.lt_size e
    refine call_enumT p' fun h' he hit hsz hk => wpAny_pyIter_enum he ?_
    exact ⟨s1.heap.objs.size + 1, _, _, _, H1, rfl, I1.kept (t' := s1.toks) hk, turn_enumT a (s1.heap.objs.size + 1) s1.heap.objs.size (Nat.ne_of_lt (Nat.lt_succ_of_lt hlt)) (Nat.ne_of_lt hlt), ⟨⟨.none, he⟩, hit, Nat.succ_ne_self _⟩, fresh2, q⟩
section
variable {C : Cfg} {K : PySem.W.Frag} {H H' H0 : Hp} {ν μ μ' μ0 : List Addr} {g : G} {ds : List D} {xs : List V} {a : Addr}
theorem yields_enumT (h : SqT K H0 a xs) (r : RepL K H0 ν μ0 ds xs) : Yields K H0 ν μ0 (enumD 0 ds) (IteT K a) := fun i H k => by
  have q := sqT_keep h k
  refine ⟨fun d hd => ?_, fun hi => ⟨xs, q, by rw [← RepL.length r, ← enumD_length ds 0]; exact hi⟩⟩
  rw [enumD_get] at hd
  cases hc : ds[i]? with
  | none => rw [hc] at hd; cases hd
  | some c =>
    rw [hc] at hd; cases hd
    obtain ⟨v, hv, rv⟩ := RepL.get r hc
    refine ⟨⟨xs, v, q, hv⟩, fun x H' ⟨T, y, e1, e2, e3, e4⟩ => .inr ⟨T, _, _, e1, e2, e3, rfl, ?_⟩⟩
    have := e4 xs q
    rw [hv] at this; cases this
    exact ⟨.int _, [v], rfl, by rw [Nat.zero_add]; exact rInt _, v, [], rfl, rv, rfl⟩
theorem yields_zipT {es : List D} {ys : List V} {b : Addr} (h : SqT K H0 a xs) (r : RepL K H0 ν μ0 ds xs) (h' : SqT K H0 b ys) (r' : RepL K H0 ν μ0 es ys) : Yields K H0 ν μ0 (zipD ds es) (ItzT K a b) := fun i H k => by
  have q := sqT_keep h k
  have q' := sqT_keep h' k
  refine ⟨fun d hd => ?_, fun hi => ⟨xs, ys, q, q', ?_⟩⟩
  · obtain ⟨c1, c2, e1, e2, rfl⟩ := zipD_get _ _ _ _ hd
    obtain ⟨v, hv, rv⟩ := RepL.get r e1
    obtain ⟨w, hw, rw'⟩ := RepL.get r' e2
    refine ⟨⟨xs, ys, v, w, q, q', hv, hw⟩, fun x H' ⟨T, y1, y2, e1, e2, e3, e4, e5⟩ => .inr ⟨T, _, _, e1, e2, e3, rfl, ?_⟩⟩
    have t1 := e4 xs q
    have t2 := e5 ys q'
    rw [hv] at t1; cases t1
    rw [hw] at t2; cases t2
    exact ⟨v, [w], rfl, rv, w, [], rfl, rw', rfl⟩
  · rw [zipD_length] at hi
    have l1 := RepL.length r
    have l2 := RepL.length r'
    omega
end
section
variable {C : Cfg} {X : Cx} {W : WX} {e a b c o tg : Expr} {fes : FA} {pos p : Pos}
def enmA : List D → Option (List D)
  | [.lst ds] => some (enumD 0 ds)
  | [.tup ds] => some (enumD 0 ds)
  | _ => none
theorem di_enumA {elts : List Expr} {kk : Nat} {tpos : Pos} (hg : Gl X "enumerate") (hm : X.mg "enumerate" = none) (ha : DA C X W [a] fes) (hs : starEach [a] X.env = [(false, eval a X.env)] := by rfl) :
    DI C X W (.Tuple elts kk tpos) (.Call (.Name "enumerate" p) [a] [] pos) (iRng enmA fes) :=
  PI.imp (pi_enumA hg hm ha hs) fun σ H R h => iRng_of h fun ν μ g ds vs H1 items hR r hz hP => by
    unfold enmA at hz
    split at hz
    · cases hz
      unfold RepL RepL at r
      obtain ⟨v, _, rfl, r1, rfl⟩ := r
      unfold RepD at r1
      obtain ⟨a, xs, rfl, h1, h3, h4, h2⟩ := r1
      exact ⟨a, xs, rfl, .inl ⟨SqL.of h1, hP _ _ _ .refl hR (yields_enum h1 h3 h2)⟩⟩
    · cases hz
      unfold RepL RepL at r
      obtain ⟨v, _, rfl, r1, rfl⟩ := r
      unfold RepD at r1
      obtain ⟨a, xs, rfl, h1, h2⟩ := r1
      exact ⟨a, xs, rfl, .inr ⟨h1, hP _ _ _ .refl hR (yields_enumT h1 h2)⟩⟩
    · cases hz
def zppA : List D → Option (List D)
  | [.lst ds, .lst es] => some (zipD ds es)
  | [.tup ds, .tup es] => some (zipD ds es)
  | _ => none
theorem di_zipA {elts : List Expr} {kk : Nat} {tpos : Pos} (hg : Gl X "zip") (hm : X.mg "zip" = none) (ha : DA C X W [a, b] fes)
    (hs : starEach [a, b] X.env = (false, eval a X.env) :: starEach [b] X.env := by rfl) (hpl : (backTo pos (starEach [b] X.env)).any (·.1) = false := by rfl) :
    DI C X W (.Tuple elts kk tpos) (.Call (.Name "zip" p) [a, b] [] pos) (iRng zppA fes) :=
  PI.imp (pi_zipA hg hm ha hs hpl) fun σ H R h => iRng_of h fun ν μ g ds vs H1 items hR r hz hP => by
    unfold zppA at hz
    split at hz
    · cases hz
      unfold RepL RepL RepL at r
      obtain ⟨v, _, rfl, r1, w, _, rfl, r2, rfl⟩ := r
      unfold RepD at r1 r2
      obtain ⟨a, xs, rfl, h1, h3, h4, h2⟩ := r1
      obtain ⟨b, ys, rfl, h1', h3', h4', h2'⟩ := r2
      exact ⟨a, b, xs, ys, rfl, .inl ⟨SqL.of h1, SqL.of h1', hP _ _ _ .refl hR (yields_zip h1 h3 h2 h1' h3' h2')⟩⟩
    · cases hz
      unfold RepL RepL RepL at r
      obtain ⟨v, _, rfl, r1, w, _, rfl, r2, rfl⟩ := r
      unfold RepD at r1 r2
      obtain ⟨a, xs, rfl, h1, h2⟩ := r1
      obtain ⟨b, ys, rfl, h1', h2'⟩ := r2
      exact ⟨a, b, xs, ys, rfl, .inr ⟨h1, h1', hP _ _ _ .refl hR (yields_zipT h1 h2 h1' h2')⟩⟩
    · cases hz
end
end Dl
end
section
set_option Elab.async false
set_option linter.all false
set_option maxRecDepth 100000
set_option maxHeartbeats 1000000
namespace Dl
open PySem PySem.Spec PyProof.Rows L2
section
variable {X : Cx} {pins : List (Addr × Obj)} {σ : L2.St} {H : Hp} {s : Shared}
abbrev bEnv (X : Cx) (scope : Scope) (s : Shared) : Env := compEnvC scope (cellsFrom (s.heap.objs.size + 1) scope.names (cloFrom X.env.cells scope.names [])) s.heap.objs.size X.env
/-- a comprehension that takes nothing; its tests may lean on what the owner knows -/
theorem comp_none {elt tg iter : Expr} {ifs : List Expr} {scope : Scope} {own : List (Str × Nat)} {pos : Pos} {wi : TI} {g : TG} {tt : TT} {Q : VK} (hc : X.calm = true) (hN : X.N.Nodup) (I : Inv X pins σ H s) (hi : PI X tg iter wi) (ok : BlkOk X.N X.env.scope scope own)
    (hg : ∀ (s : Shared) (H : Hp) (A : Addr) (cl : List (Str × Addr)) (fp : List Addr), PG (X.blk s H scope (compEnvC scope cl A X.env) fp) tg g)
    (ht : ∀ (s : Shared) (H : Hp) (A : Addr) (cl : List (Str × Addr)) (fp : List Addr), (∀ pins' σ' H' s', Inv (X.blk s H scope (compEnvC scope cl A X.env) fp) pins' σ' H' s' → Inv X pins σ H' s') → PTs (X.blk s H scope (compEnvC scope cl A X.env) fp) ifs tt)
    (hs : ∀ x, foldedSetIterable iter X.env x = pure x)
    (h : wi σ H fun J H1 => ∀ D, H1 D = none → ∃ (n : Nat) (W : Nat → Hp → Prop), W 0 (upd H1 D (.lst [])) ∧ ∀ i H, W i H → (i = n ∧ J.stop i H ∧ Q (.ref D) H) ∨
      (i < n ∧ J.go i H ∧ ∀ x H', J.yld i H x H' → g x (wipe σ (own.map (·.2))) H' fun σ2 H2 => wipe σ2 (own.map (·.2)) = wipe σ (own.map (·.2)) ∧ tt σ2 H2 fun b H3 => b = false ∧ W (i + 1) H3)) :
    wpAny (model X.prog X.w) X.A (eval (.ListComp elt [⟨tg, iter, ifs, 0⟩] scope pos) X.env) (fun u s' => ∃ v H', Inv X pins σ H' s' ∧ RelV v u ∧ Q v H') X.xe s := by
  have caught : ∀ y ∈ scope.names, y.2 = .free → ∃ c, X.env.cells.lookup y.1 = some c := fun y hy e => (ok.free y hy e).elim (fun k => I.ok.has _ (.inl k)) fun k => I.ok.has _ (.inr k)
  rw [eval_ListComp]
  refine wpAny_comprehension_free (use := none) rfl hs (closure_ok caught) ok.kind (fun y hy e => by rw [ok.uniq y hy, e]) (thn (hi.run pins s σ H _ I h) fun xv s1 hx => thn hx fun itv s2 h2 => ?_)
  obtain ⟨it, fp, tn, J, H2, e, I2, T, st2, f2, q⟩ := h2
  subst e
  refine wpAny_newObj_type (newEnv_comp ?_) (by show 0 ≤ sizeLine; decide)
  have nD : H2 s2.heap.objs.size = none := I2.hok.fresh (Nat.le_refl _)
  obtain ⟨n, W, w0, turn⟩ := q _ nD
  have kept3 : ∀ b o, s2.heap.get? b = some o → (s2.heap.push { cls := .type "list", data := .seq ([] : List Value).toArray }).get? b = some o := fun b o e => Heap.get?_push_of_some _ e
  have I3 : Inv X pins σ (upd H2 s2.heap.objs.size (.lst [])) { s2 with heap := s2.heap.push { cls := .type "list", data := .seq ([] : List Value).toArray } } :=
    I2.laid (t' := s2.toks) kept3 (Nat.le_refl _) ⟨Nat.zero_le _, [], 0, .nil, Heap.get?_push_size _ rfl⟩
  have lt2 : ∀ b ∈ fp, b < s2.heap.objs.size := fun b hb => (T.obj _ _ st2 b hb).elim fun o z => Heap.lt_size z.1
  generalize hs3 : ({ s2 with heap := s2.heap.push { cls := .type "list", data := .seq ([] : List Value).toArray } } : Shared) = s3 at I3
  have eh3 : s3.heap = s2.heap.push { cls := .type "list", data := .seq ([] : List Value).toArray } := by rw [← hs3]
  have f3 : ∀ b ∈ fp, FpOk X pins (upd H2 s2.heap.objs.size (.lst [])) b ∧ b < s3.heap.objs.size := fun b hb =>
    ⟨⟨by rw [upd_ne (Nat.ne_of_lt (lt2 b hb))]; exact (f2 b hb).1, (f2 b hb).2⟩, by rw [eh3, Heap.size_push]; exact Nat.lt_succ_of_lt (lt2 b hb)⟩
  have I4 := block_start I3 ok hN f3
  have st4 : tn 0 (pushCells (s3.heap.push { cls := .type "dict", data := .dict #[] }) scope.names) :=
    T.keep _ _ _ st2 fun b _ o e => pushCells_keeps _ _ _ _ (Heap.get?_push_of_some _ (by rw [eh3]; exact kept3 b o e))
  generalize hH3 : upd H2 s2.heap.objs.size (.lst []) = H3 at I3 I4 f3 w0
  have back : ∀ pins' σ' H' s', Inv (X.blk s3 H3 scope (bEnv X scope s3) fp) pins' σ' H' s' → Inv X pins σ H' s' := fun pins' σ' H' s' I' =>
    I3.call' (ch := fp) I'.os I'.base I'.hok I'.bare fun b hb => ⟨(f3 b hb).1.2.2.2.1, (f3 b hb).1.2.1, (f3 b hb).1.2.2.2.2.1, (f3 b hb).1.2.2.2.2.2⟩
  have pg := hg s3 H3 s3.heap.objs.size (cellsFrom (s3.heap.objs.size + 1) scope.names (cloFrom X.env.cells scope.names [])) fp
  have pt := ht s3 H3 s3.heap.objs.size (cellsFrom (s3.heap.objs.size + 1) scope.names (cloFrom X.env.cells scope.names [])) fp back
  have fpo : ∀ {σ' : L2.St} {H' : Hp} {s' : Shared}, Inv (X.blk s3 H3 scope (bEnv X scope s3) fp) [] σ' H' s' → (∀ b ∈ fp, H' b = none) → ∀ b ∈ fp, FpOk (X.blk s3 H3 scope (bEnv X scope s3) fp) [] H' b := fun {σ' H' s'} I' hn b hb =>
    ⟨hn b hb, (I'.ok.exf b hb).1, I'.ok.exfs b hb, .inl hb, (I'.ok.exf b hb).2, fun p hp => absurd (show p ∈ ([] : List (Addr × Obj)) ++ [] from hp) (by simp)⟩
  have loop : codeAny (model X.prog X.w) X.A (.compLoop (.ListComp elt [⟨tg, iter, ifs, 0⟩] scope pos) 0 (.ref it) (.ref s2.heap.objs.size) (bEnv X scope s3)) (compPost (model X.prog X.w) X.A X.xe none (fun u s' => ∃ v H', Inv X pins σ H' s' ∧ RelV v u ∧ Q v H') (.ref s2.heap.objs.size) s3.heap.objs.size)
      { s3 with heap := pushCells (s3.heap.push { cls := .type "dict", data := .dict #[] }) scope.names } := by
    refine compLoop_any (fun m s' => ∃ i H', m = n - i ∧ Inv (X.blk s3 H3 scope (bEnv X scope s3) fp) [] (wipe σ (own.map (·.2))) H' s' ∧ tn i s'.heap ∧ (∀ b ∈ fp, H' b = none) ∧ W i H') ?_ n ⟨0, H3, rfl, I4, st4, fun b hb => (f3 b hb).1.1, w0⟩
    rintro m s5 ⟨i, H5, rfl, I5, st5, n5, w5⟩
    rcases turn i H5 w5 with ⟨_, stop, qq⟩ | ⟨hlt, go, step⟩
    · refine thnF (T.done (X.blk s3 H3 scope (bEnv X scope s3) fp) rfl rfl rfl hc i [] s5 _ H5 (fun _ _ => False) I5 (fpo I5 n5) st5 stop) fun r s6 ⟨hr, I6⟩ => ?_
      subst hr
      obtain ⟨m, hn, _⟩ := I6.loc
      have hn : s6.heap.Ns s3.heap.objs.size m := hn
      have nC : H5 s3.heap.objs.size = none := I6.free
      obtain ⟨f0, f1, f2, f3, f4, f5⟩ := I3.fpOk (H' := H5) (Nat.le_refl _) nC
      exact ⟨m, hn, fun h'' sb => ⟨.ref s2.heap.objs.size, H5, (back _ _ _ _ I6).turned (t' := s6.toks) (fun b o hb e => (sb.2 b hb).trans e) f0 f1 f3 f4 f5, rfl, qq⟩⟩
    · refine thnF (T.item (X.blk s3 H3 scope (bEnv X scope s3) fp) rfl rfl rfl hc i [] s5 _ H5 (fun _ _ => False) I5 (fpo I5 n5) st5 go) fun r s6 ⟨u, hr, h6⟩ => ?_
      subst hr
      refine thnF h6 fun _ s7 ⟨x, H7, I7, r7, y7, st7, n7⟩ => ?_
      refine thnF (pg.run _ s7 _ H7 x u _ (I7.pinned (fpo I7 n7) (T.obj _ _ st7)) r7 (step x H7 y7)) fun _ s8 ⟨σ8, H8, I8, hw8, q8⟩ => ?_
      refine thnF (pt.run _ s8 σ8 H8 _ I8 q8) fun b s9 ⟨H9, I9, hb9, w9⟩ => ?_
      subst hb9
      have held : ∀ b ∈ fp, ∀ o, s7.heap.get? b = some o → s9.heap.get? b = some o ∧ H9 b = none := fun b hb o e =>
        (I9.pin (b, o) (List.mem_append_right _ (List.mem_append_right _ (mem_pinsAt hb e)))).imp id And.left
      rw [if_neg Bool.false_ne_true]
      refine ⟨n - (i + 1), by omega, i + 1, H9, rfl, (I9.unpinned (pins := [])).weak (by rw [← hw8, wipe_length]) (fun j v e => ?_), T.keep _ _ _ st7 fun b hb o e => (held b hb o e).1, fun b hb => ?_, w9⟩
      · rw [← hw8] at e
        exact (wipe_some e).1
      · obtain ⟨o, e, _⟩ := T.obj _ _ st7 b hb
        exact (held b hb o e).2
  exact codeAny_compStart_list loop (T.self X.A 0 _ _ _ st4 loop)
end
end Dl
end
section
set_option Elab.async false
set_option linter.all false
set_option maxRecDepth 100000
set_option maxHeartbeats 1000000
namespace Dl
open PySem PySem.Spec PyProof.Rows L2 LamX
/-- a lambda's text -/
structure LamI where
  params : Arguments
  body : Expr
  scope : Scope
def LamOb (q : Str) (l : LamI) (cl : List (Str × Addr)) (f c' : Addr) : HO := .ext fun h => ∃ (pm ctv : Value), h.get? f = some (PySem.W.kla_obj "<lambda>" q l.params l.body l.scope cl pm c' ctv)
theorem lamOb_ok {P : Program} {w : World} {H : Hp} {h : Heap} {q : Str} {l : LamI} {cl : List (Str × Addr)} {f c' : Addr} {pm ctv : Value} (e : h.get? f = some (PySem.W.kla_obj "<lambda>" q l.params l.body l.scope cl pm c' ctv)) : ObjOk P w H h f (LamOb q l cl f c') :=
  ⟨⟨pm, ctv, e⟩, ⟨_, e⟩, fun h1 h2 ⟨pm, ctv, z⟩ k => ⟨pm, ctv, k _ z⟩⟩
abbrev lq (X : Cx) : Str := X.env.qual ++ "<lambda>"
abbrev lcl (X : Cx) (l : LamI) : List (Str × Addr) := cloFrom X.env.cells l.scope.names []
section
variable {X : Cx} {pins : List (Addr × Obj)} {σ : L2.St} {H : Hp} {s : Shared}
/-- a lambda made and kept -/
def tLamK (X : Cx) (T : List (Addr × Str)) (l : LamI) : TE := fun σ H Q => Tabs T H ∧ ∀ f c' H1, ExtN H H1 → Tabs T H1 → H1 f = none → H1 c' = some (CodeO c' (lq X)) → Q (.ref f) (upd H1 f (LamOb (lq X) l (lcl X l) f c'))
theorem pe_lamK {T : List (Addr × Str)} {c P : Addr} {l : LamI} {pos : Pos} (TB : LamX.TabB X.base X.mg c P) (hcode : X.env.code = .ref c) (hm : (P, lq X) ∈ T) (hu : ∀ p ∈ T, p.1 = P → p.2 = lq X) (hdef : defaultsOf l.params X.env = ([], []))
    (hfree : ∀ (ok : X.Ok), ∀ y ∈ l.scope.names, y.2 = .free → ∃ c, X.env.cells.lookup y.1 = some c) : PE X (.Lambda l.params l.body l.scope pos) (tLamK X T l) := by
  refine ⟨fun pins s σ H Q I ⟨hT, h⟩ => ?_⟩
  obtain ⟨ps, hP, ht, ha⟩ := hT _ hm
  have hP' : s.heap.get? P = some { cls := .none, data := .fields ps } := I.hok P _ hP
  refine PySem.W.kla_eval hdef ?_
  cases hc : codeAmong pos ps.toList with
  | none =>
    refine PySem.W.kla_makeFunction (mg := X.mg) (c := c) (P := P) (ps := ps) (closure_ok (hfree I.ok)) I.ok.glob (I.mod.glob.keeps I.bk) hcode (TB.code.keeps I.bk) hP' ht hc TB.gP (TB.bm.keeps I.bk) fun c' ctv h' tk hx hge hlt ⟨c2, oc, vs, t, e2, hoc, hd, hv⟩ htb => ?_
    cases e2
    have nC : H c' = none := I.hok.fresh hge
    have eL : (ps ++ #[rawInt pos.line, rawInt pos.col, .ref c']).toList = ps.toList ++ [rawInt pos.line, rawInt pos.col, .ref c'] := by simp
    have I1 := LamX.inv_table (t' := tk) (q := lq X) (more := #[rawInt pos.line, rawInt pos.col, .ref c']) (h' := h') I hP (fun b o hb e => hx b o hb e) htb hge ⟨oc, vs, t, hoc, hd, hv⟩
    have hE : ExtN H (upd (upd H P (.tbl (ps ++ #[rawInt pos.line, rawInt pos.col, .ref c']))) c' (CodeO c' (lq X))) := fun b o e n => by
      rw [upd_ne (ne_of_none e nC), upd_ne (fun z => n ps (Option.some.inj (e.symm.trans (by rw [z]; exact hP))))]
      exact e
    have I2 := I1.laid (t' := tk) (h' := h'.push (PySem.W.kla_obj "<lambda>" (lq X) l.params l.body l.scope (lcl X l) ((X.mg "__name__").getD .none) c' ctv)) (fun b o e => Heap.get?_push_of_some _ e) (Nat.le_refl _) (lamOb_ok (Heap.get?_push_size _ rfl))
    refine ⟨.ref h'.objs.size, _, I2, rfl, h _ c' _ hE (fun p hp => ?_) (I1.hok.fresh (Nat.le_refl _)) upd_same⟩
    by_cases hb : p.1 = P
    · rw [hu p hp hb, hb]
      refine ⟨_, by rw [upd_ne (ne_of_none hP nC), upd_same], by rw [eL]; exact PySem.TriplesOk_snoc _ _ _ _ ht, fun p' cv hcv => ?_⟩
      rw [eL] at hcv
      rcases LamX.among_app _ ht hcv with z | z
      · obtain ⟨c0, e1, e2⟩ := ha p' cv z
        exact ⟨c0, e1, hE _ _ e2 LamX.codeO_ne⟩
      · exact ⟨c', z, upd_same⟩
    · obtain ⟨ps', a1, a2, a3⟩ := hT p hp
      refine ⟨ps', by rw [upd_ne (ne_of_none a1 nC), upd_ne hb]; exact a1, a2, fun p' cv hcv => ?_⟩
      obtain ⟨c0, e1, e2⟩ := a3 p' cv hcv
      exact ⟨c0, e1, hE _ _ e2 LamX.codeO_ne⟩
  | some cv =>
    obtain ⟨c', e, hco⟩ := ha pos cv hc
    subst e
    refine PySem.W.kla_makeFunctionHit (mg := X.mg) (c := c) (P := P) (ps := ps) (closure_ok (hfree I.ok)) I.ok.glob (I.mod.glob.keeps I.bk) hcode (TB.code.keeps I.bk) hP' ht hc (TB.bm.keeps I.bk) fun ctv h' tk hx hsz => ?_
    have I1 : Inv X pins σ H { s with heap := h', toks := tk } := I.kept (t' := tk) hx
    have I2 := I1.laid (t' := tk) (h' := h'.push (PySem.W.kla_obj "<lambda>" (lq X) l.params l.body l.scope (lcl X l) ((X.mg "__name__").getD .none) c' ctv)) (fun b o e => Heap.get?_push_of_some _ e) (Nat.le_refl _) (lamOb_ok (Heap.get?_push_size _ rfl))
    exact ⟨.ref h'.objs.size, _, I2, rfl, h _ c' H (ExtN.refl H) hT (I1.hok.fresh (Nat.le_refl _)) hco⟩
end
end Dl
end
section
set_option Elab.async false
set_option linter.all false
set_option maxRecDepth 100000
set_option maxHeartbeats 1000000
namespace Dl
open PySem PySem.Spec PyProof.Rows L2 LamX
def LamsR (X : Cx) (H : Hp) : List LamI → List V → Prop
  | [], vs => vs = []
  | l :: ls, vs => ∃ f c' r, vs = .ref f :: r ∧ H f = some (LamOb (lq X) l (lcl X l) f c') ∧ H c' = some (CodeO c' (lq X)) ∧ LamsR X H ls r
theorem LamsR.length {X : Cx} {H : Hp} : ∀ {ls : List LamI} {vs : List V}, LamsR X H ls vs → ls.length = vs.length
  | [], vs, h => by rw [show vs = [] from h]; rfl
  | l :: ls, vs, ⟨f, c', r, e, _, _, t⟩ => by rw [e]; simp [LamsR.length t]
theorem LamsR.get {X : Cx} {H : Hp} : ∀ {ls : List LamI} {vs : List V}, LamsR X H ls vs → ∀ {i : Nat} {l : LamI}, ls[i]? = some l → ∃ f c', vs[i]? = some (.ref f) ∧ H f = some (LamOb (lq X) l (lcl X l) f c') ∧ H c' = some (CodeO c' (lq X))
  | [], vs, h, i, l, e => by cases e
  | a :: ls, vs, ⟨f, c', r, e, h1, h2, t⟩, 0, l, q => by cases q; exact ⟨f, c', by rw [e]; rfl, h1, h2⟩
  | a :: ls, vs, ⟨f, c', r, e, h1, h2, t⟩, i + 1, l, q => by
    obtain ⟨f', c2, q1, q2⟩ := LamsR.get t (i := i) (l := l) q
    exact ⟨f', c2, by rw [e]; exact q1, q2⟩
theorem LamsR.app {X : Cx} {H : Hp} : ∀ {ls : List LamI} {vs : List V} {ms : List LamI} {ws : List V}, LamsR X H ls vs → LamsR X H ms ws → LamsR X H (ls ++ ms) (vs ++ ws)
  | [], vs, ms, ws, h, k => by rw [show vs = [] from h]; exact k
  | a :: ls, vs, ms, ws, ⟨f, c', r, e, h1, h2, t⟩, k => by rw [e]; exact ⟨f, c', r ++ ws, rfl, h1, h2, LamsR.app t k⟩
section
variable {C : Cfg} {X : Cx} {W : WX} {H H' : Hp} {ν μ μ' : List Addr} {g : G}
theorem keep_ext {K : PySem.W.Frag} (R : RS C K H ν μ g) (e : Ext H μ H' μ') {b : Addr} {φ : Heap → Prop} (h : H b = some (.ext φ)) : H' b = some (.ext φ) :=
  e.kp b _ h (.inl fun z => by
    obtain ⟨u, e1, e2⟩ := R.inμ z
    rw [h] at e1
    cases e1
    rcases e2 with e2 | ⟨_, _, e2⟩
    · exact e2
    · cases e2) (fun ps z => by cases z)
theorem LamsR.mono (R : RS C X.K H ν μ g) (e : Ext H μ H' μ') : ∀ {ls : List LamI} {vs : List V}, LamsR X H ls vs → LamsR X H' ls vs
  | [], vs, h => h
  | l :: ls, vs, ⟨f, c', r, e1, h1, h2, t⟩ => ⟨f, c', r, e1, keep_ext R e h1, keep_ext R e h2, LamsR.mono R e t⟩
/-- expressions that make lambdas -/
def tLams (C : Cfg) (X : Cx) (ls : List LamI) : TA := fun σ H Q => ∃ ν μ g, RS C X.K H ν μ g ∧ ∀ vs H', Ext H μ H' μ → RS C X.K H' ν μ g → LamsR X H' ls vs → Q vs H'
theorem pa_lams_nil : PA X [] (tLams C X []) := ⟨fun pos pins s σ H Q I ⟨ν, μ, g, R, h⟩ => pa_nil.run pos pins s σ H Q I (h [] H .refl R rfl)⟩
theorem pa_lams_cons {l : LamI} {ls : List LamI} {e : Expr} {es : List Expr} (h1 : PE X e (tLamK X C.tabs l)) (h2 : PA X es (tLams C X ls)) (hs : starEach (e :: es) X.env = (false, eval e X.env) :: starEach es X.env := by rfl) : PA X (e :: es) (tLams C X (l :: ls)) := by
  refine ⟨fun pos pins s σ H Q I ⟨ν, μ, g, R, h⟩ => (pa_cons h1 h2 hs).run pos pins s σ H Q I ⟨R.tb, fun f c' H1 eN T1 nf hc => ?_⟩⟩
  have R1 := R.extN eN T1
  obtain ⟨R2, e2⟩ := R1.new (o := LamOb (lq X) l (lcl X l) f c') nf
  have e1 : Ext H μ H1 μ := ext_of_n eN
  refine ⟨ν, μ, g, R2, fun vs H' e3 R3 r3 => h _ H' ((e1.trans e2).trans e3) R3 ⟨f, c', vs, rfl, keep_ext R2 e3 upd_same, keep_ext R2 e3 ?_, r3⟩⟩
  rw [upd_ne (ne_of_none hc nf)]
  exact hc
end
end Dl
end
section
set_option Elab.async false
set_option linter.all false
set_option maxRecDepth 100000
set_option maxHeartbeats 1000000
namespace Dl
open PySem PySem.Spec PyProof.Rows L2 LamX
section
variable {X : Cx} {pins : List (Addr × Obj)} {σ : L2.St} {H : Hp} {s : Shared}
/-- x(), x a lambda that is kept -/
theorem act_kept {CXg : CXT} {Eg : XK} {Ng : List Str} {qg : Str} {sg : Scope} {gA f c' : Addr} {cdg : Value} {l : LamI} {k i : Nat} {a : Str} {pn : List (Addr × Obj)} {xe : Value → Shared → Prop} {W : WX} {E : XK} {tb : TE} {p1 p2 : Pos}
    (I : Inv X pins σ H s) (L : LamS X.env.scope l.scope)
    (hbind : ∀ (q : Str) (cl : List (Str × Addr)) (pm cv ctv : Value), bindArgs (PySem.W.kla_fn "<lambda>" q l.params l.body l.scope cl pm cv ctv) ⟨[], []⟩ = pure [])
    (tk : Takes ((cxOf CXg X.prog X.w X.K X.mg X.base Ng qg sg gA cdg X.A X.stack s H Eg).tr pn xe) W) (hW : ∀ cls d σ' H', E cls d H' → W cls d σ' H') (hr : Room (k + 1) (X.A.deeper (envOfC qg sg s.heap.objs.size gA cdg)))
    (hbody : ∀ (A : Around) (outer : List Env) (s : Shared) (H : Hp), Room k (A.deeper (lamEnv X l.scope s.heap.objs.size f c')) → PE (lamCx X A outer s H E l.scope f c') l.body tb)
    (hN : Ng[i]? = some a) (hv : Vis sg a) (hd : (a == ("__debug__" : Str)) = false := by decide) (hcd : (a == ("__classdict__" : Str)) = false := by decide) :
    PE ((cxOf CXg X.prog X.w X.K X.mg X.base Ng qg sg gA cdg X.A X.stack s H Eg).tr pn xe) (.Call (.Name a p1) [] [] p2)
      (fun σZ HZ Q => σZ[i]? = some (some (.ref f)) ∧ HZ c' = some (CodeO c' (lq X)) ∧ HZ f = some (LamOb (lq X) l (lcl X l) f c') ∧ tb σ HZ Q) := by
  refine ⟨fun pinsZ sZ σZ HZ Q IZ ⟨hs, hc, hf, ht⟩ => ?_⟩
  refine wpAny_Call_Name_kw (thn ((pe_var (pos := p1) (i := i) hN hv hd hcd).run pinsZ sZ σZ HZ (fun v H1 => v = .ref f ∧ H1 = HZ) IZ ⟨.ref f, hs, rfl, rfl⟩) fun u s1 ⟨v, H1, I1, r1, ev, eH⟩ => ?_)
  subst ev
  rw [eH] at I1
  obtain rfl : u = Value.ref f := r1
  obtain ⟨⟨pm, ctv, of1⟩, _, _⟩ := I1.hok f _ hf
  obtain ⟨⟨oc, vs, t, hoc, hdc, hvc⟩, _, _⟩ := I1.hok c' _ hc
  refine PySem.W.callWith_F0 ⟨_, _, _, _, of1⟩ ?_
  have rc : codeAny (model X.prog X.w) (X.A.deeper (envOfC qg sg s.heap.objs.size gA cdg)) (.call (.ref f) ⟨[], []⟩) (CR (L2.CX X.prog X.w) (envOfC qg sg s.heap.objs.size gA cdg :: X.stack) X.prog X.w HZ s1 Q E) s1 := by
    refine PySem.W.kla_callFunE hr.depth of1 rfl L.co L.gen rfl ⟨c', oc, vs, t, rfl, hoc, hdc, hvc⟩ ?_
    rw [hbind]
    refine wpAny_pure (wpAny_newFunctionEnv (fun y hy => (L.own y hy).2) (fun y hy => absurd hy (by simp)) (fun h₁ hns hsb => ⟨I1.nolimit.fresh _ hsb, ?_⟩) L.kind)
    show codeAny _ _ (.expr l.body (lamEnv X l.scope s1.heap.objs.size f c')) _ _
    have J := lam_start2 (tk := s1.toks + ([] : List (Str × Value)).length) (E := E) (f := f) (c' := c') I L I1.env0 hr.hd (show Un (frs X.stack) [] H HZ s.heap s1.heap from I1.base) hns fun b o e => hsb.extBut b o (Nat.ne_of_lt (Heap.lt_size e)) (Heap.get?_push_of_some _ e)
    exact PySem.W.kla_codeExpr (wpAny_mono ((hbody _ _ s1 HZ (hr.deeper _)).run [] _ _ HZ Q J ht) (fun v s' ⟨w', H', J', rv, q⟩ => ⟨w', H', J'.os, J'.bare, J'.base, J'.hok, rv, q⟩) fun e s' hq => hq)
  have hx : Passes (L2.CX X.prog X.w) ((cxOf CXg X.prog X.w X.K X.mg X.base Ng qg sg gA cdg X.A X.stack s H Eg).tr pn xe) E := passes_call tk hW
  refine wpAny_call (codeAny_mono rc fun r s' hq => ?_)
  cases r with
  | error e => exact hx pinsZ σZ HZ s1 e s' I1 hq
  | ok fl => cases fl <;> first | exact I1.after hq | exact False.elim hq
end
/-- a lambda and what it computes -/
structure LamOk (C : Cfg) (X : Cx) (k : Nat) (l : LamI) (fb : FE) : Prop where
  sc : LamS X.env.scope l.scope
  bind : ∀ (q : Str) (cl : List (Str × Addr)) (pm cv ctv : Value), bindArgs (PySem.W.kla_fn "<lambda>" q l.params l.body l.scope cl pm cv ctv) ⟨[], []⟩ = pure []
  body : ∀ (A : Around) (outer : List Env) (s : Shared) (H : Hp) (E : XK) (fl c' : Addr), Room k (A.deeper (lamEnv X l.scope s.heap.objs.size fl c')) → Takes (lamCx X A outer s H E l.scope fl c') (fun cls d _ H => E cls d H) →
    DP C (lamCx X A outer s H E l.scope fl c') (fun cls d _ H => E cls d H) l.body fb
def LamsOk (C : Cfg) (X : Cx) (k : Nat) : List LamI → List FE → Prop
  | [], fs => fs = []
  | l :: ls, fs => ∃ f r, fs = f :: r ∧ LamOk C X k l f ∧ LamsOk C X k ls r
theorem LamsOk.get {C : Cfg} {X : Cx} {k : Nat} : ∀ {ls : List LamI} {fs : List FE}, LamsOk C X k ls fs → ∀ {i : Nat} {f : FE}, fs[i]? = some f → ∃ l, ls[i]? = some l ∧ LamOk C X k l f
  | [], fs, h, i, f, e => by rw [show fs = [] from h] at e; cases e
  | l :: ls, fs, ⟨f0, r, e, h, t⟩, 0, f, q => by rw [e] at q; cases q; exact ⟨l, rfl, h⟩
  | l :: ls, fs, ⟨f0, r, e, h, t⟩, i + 1, f, q => by rw [e] at q; exact LamsOk.get t (i := i) q
theorem LamsOk.length {C : Cfg} {X : Cx} {k : Nat} : ∀ {ls : List LamI} {fs : List FE}, LamsOk C X k ls fs → ls.length = fs.length
  | [], fs, h => by rw [show fs = [] from h]; rfl
  | l :: ls, fs, ⟨f0, r, e, h, t⟩ => by rw [e]; simp [LamsOk.length t]
theorem LamsOk.app {C : Cfg} {X : Cx} {k : Nat} : ∀ {ls ms : List LamI} {fs gs : List FE}, LamsOk C X k ls fs → LamsOk C X k ms gs → LamsOk C X k (ls ++ ms) (fs ++ gs)
  | [], ms, fs, gs, h, h2 => by rw [show fs = [] from h]; exact h2
  | l :: ls, ms, fs, gs, ⟨f0, r, e, h, t⟩, h2 => by rw [e]; exact ⟨f0, r ++ gs, rfl, h, LamsOk.app t h2⟩
/-- each is refused -/
def runBad (okc : Nat → Bool) : List FE → Env' → G → Option G
  | [], _, g => some g
  | f :: fs, ρ, g => match f ρ g with
    | .err c g1 => if okc c then runBad okc fs ρ g1 else none
    | _ => none
section
variable {C : Cfg} {X Xb : Cx} {W : WX} {pins : List (Addr × Obj)} {σ : L2.St} {H : Hp} {s : Shared}
/-- told(f) in a block, f a kept lambda of the owner: it is refused -/
def tToldK (C : Cfg) (X : Cx) (k jf : Nat) (okc : Nat → Bool) (ret : Str) (σ : L2.St) : TE := fun σb H Q => ∃ l fb f c' ρ ν μ g c g1, LamOk C X k l fb ∧ σb[jf]? = some (some (.ref f)) ∧ H f = some (LamOb (lq X) l (lcl X l) f c') ∧ H c' = some (CodeO c' (lq X)) ∧
  RepE X.K H ν μ ρ σ ∧ RS C X.K H ν μ g ∧ fb ρ g = .err c g1 ∧ okc c = true ∧ ∀ H' μ', Ext H μ H' μ' → RS C X.K H' ν μ' g1 → Q (.str ret) H'
theorem pe_toldK {x a ex ret fv : Str} {gA CS : Addr} {k j jf : Nat} {pg : Arguments} {sg : Scope} {dV kV doc pm cdv ct oc : Value} {an od : Option Addr} {osl : Array (Option Value)} {Ng : List Str} {okc : Nat → Bool} {p pf pos p1 p2 p3 p4 p5 p6 p7 p8 : Pos}
    {sB : Shared} {HB : Hp} {scB : Scope} {cenv : Env} {fp : List Addr}
    (back : ∀ pins' σ' H' s', Inv (X.blk sB HB scB cenv fp) pins' σ' H' s' → Inv X pins σ H' s') (hg : Gl (X.blk sB HB scB cenv fp) x) (hm : X.mg x = some (.ref gA)) (hk : PySem.W.keepIn X.K (.ref gA) = true)
    (lk : X.K.lookup gA = some ⟨oc, od, .func (PySem.W.fnOf x x pg [.Try [.Return (some (.Call (.Name a p1) [] [] p2)) p3] [.ExceptHandler (some (.Name ex p4)) none [.Return (some (.Constant (.str ret) j p5)) p6] p7] [] [] p8] sg dV kV doc pm an cdv ct), osl⟩)
    (hcg : PySem.W.codeIn X.K cdv x = true) (hb : L2.Binds X.K (PySem.W.fnOf x x pg [.Try [.Return (some (.Call (.Name a p1) [] [] p2)) p3] [.ExceptHandler (some (.Name ex p4)) none [.Return (some (.Constant (.str ret) j p5)) p6] p7] [] [] p8] sg dV kV doc pm an cdv ct) [a] [])
    (Sg : FnScope Ng [a] sg) (hNg : Ng[0]? = some a) (hva : Vis sg a) (hge : sg.names.lookup ex = some .globalImplicit) (hme : X.mg ex = some (.ref CS)) (hde : (ex == ("__debug__" : Str)) = false) (h0 : ∀ f : Addr, (L2.start Ng [V.ref f])[0]? = some (some (V.ref f)))
    (hcat : ∀ n, okc n = true → PySem.W.exmOne X.K (.ref (C.exc n)) (.ref CS) = some true) (hr : Room (k + 2) X.A) (hNf : X.N[jf]? = some fv) (hvf : Vis cenv.scope fv)
    (hdb : (x == ("__debug__" : Str)) = false := by decide) (hd : (a == ("__debug__" : Str)) = false := by decide) (hcd : (a == ("__classdict__" : Str)) = false := by decide)
    (hdf : (fv == ("__debug__" : Str)) = false := by decide) (hcf : (fv == ("__classdict__" : Str)) = false := by decide) :
    PE (X.blk sB HB scB cenv fp) (.Call (.Name x p) [.Name fv pf] [] pos) (tToldK C X k jf okc ret σ) := by
  refine ⟨fun pins' s' σb H Q Ib ⟨l, fb, f, c', ρ, ν, μ, g, c, g1, hl, hσ, hf, hco, hE, hR, hfb, hok, hQ⟩ => ?_⟩
  refine wpAny_Call_Name_kw (ld_glob Ib hg hm ?_ hdb)
  have args := (pa_cons (pe_var (X := X.blk sB HB scB cenv fp) (pos := pf) (i := jf) hNf hvf hdf hcf) pa_nil).run pos pins' s' σb H (fun vs H1 => vs = [.ref f] ∧ H1 = H) Ib ⟨.ref f, hσ, rfl, rfl⟩
  refine PySem.W.callWith_K (h₀ := (X.blk sB HB scB cenv fp).base) Ib.ok.mod.kin hk (thn args fun us s1 ⟨vs, H1, I1, r, e1, e2⟩ => ⟨I1.kIn, ?_⟩) (by rfl) (by rfl)
  subst e1
  rw [e2] at I1
  rw [Vals.ref1 r]
  have IX := back _ _ _ _ I1
  have rc : codeAny (model X.prog X.w) X.A (.call (.ref gA) ⟨[.ref f], []⟩) (CR C8.CX0 X.stack X.prog X.w H s1 Q C8.E0) s1 := by
    refine run_ofS (N := Ng) (ps := [a]) (us := [.ref f]) (vs := [.ref f]) lk hcg Sg hr IX.env0 (hb s1 [.ref f] IX.kIn rfl) (.cons rfl .nil) rfl fun hr' => ?_
    obtain ⟨t', ht', hq'⟩ := told_gives (X := X) (q := lq X) (g := gA) (cdg := cdv) (p1 := p1) (p2 := p2) (p3 := p3) (p4 := p4) (p5 := p5) (p6 := p6) (p7 := p7) (p8 := p8) (j := j) (ret := ret) (CS := CS) hge hme hde h0 f c' s1 H Q
      (fun E H' Q' => H' f = some (LamOb (lq X) l (lcl X l) f c') ∧ tD C X.K (fun cls d _ H => E cls d H) fb σ H' Q')
      (fun W pn xe E p1 p2 tk hW => act_kept (i := 0) IX hl.sc hl.bind tk hW hr' (fun A outer s H hr2 => hl.body A outer s H E f c' hr2 (takes_of rfl rfl rfl rfl)) hNg hva hd hcd) hco ⟨hf, ρ, ν, μ, g, hE, hR, by
        rw [hfb]
        exact fun H' μ' ex R' => ⟨true, hcat c hok, fun _ => hQ H' μ' ex R', fun z => by cases z⟩⟩
    exact ⟨t', ht'.nox, hq'⟩
  refine wpAny_call (codeAny_mono rc fun r s2 hq => ?_)
  cases r with
  | error e => exact (show False from hq).elim
  | ok fl => cases fl <;> first | exact I1.after hq | exact False.elim hq
end
end Dl
end
section
set_option Elab.async false
set_option linter.all false
set_option maxRecDepth 100000
set_option maxHeartbeats 1000000
namespace Dl
open PySem PySem.Spec PyProof.Rows L2 LamX
section
variable {C : Cfg} {X : Cx} {W : WX}
/-- the bad ones stand in the list at slot ib -/
def BadR (X : Cx) (ib : Nat) (ls : List LamI) (ν μ : List Addr) (σ : L2.St) (H : Hp) : Prop := ∃ L vs, σ[ib]? = some (some (.ref L)) ∧ H L = some (.lst vs) ∧ L ∉ μ ∧ LamsR X H ls vs
theorem BadR.mono {ib : Nat} {ls : List LamI} {ν μ μ' : List Addr} {σ : L2.St} {H H' : Hp} {g : G} (R : RS C X.K H ν μ g) (e : Ext H μ H' μ') (h : BadR X ib ls ν μ σ H) : BadR X ib ls ν μ' σ H' := by
  obtain ⟨L, vs, h1, h2, h3, h4⟩ := h
  exact ⟨L, vs, h1, e.kp _ _ h2 (.inl h3) ntb_lst, e.out h2 h3 ntb_lst, LamsR.mono R e h4⟩
/-- [k for k, f in enumerate(bad) if told(f) != ret]: none -/
def tBad (C : Cfg) (X : Cx) (ib : Nat) (ls : List LamI) (fs : List FE) (okc : Nat → Bool) : TE := fun σ H Q => ∃ ρ ν μ g g', RepE X.K H ν μ ρ σ ∧ RS C X.K H ν μ g ∧ BadR X ib ls ν μ σ H ∧ runBad okc fs ρ g = some g' ∧
  ∀ D H' μ', Ext H μ H' μ' → RS C X.K H' ν μ' g' → RepD X.K H' ν μ' (.lst []) (.ref D) → Q (.ref D) H'
theorem pe_bad {x a ex ret fv kv bv : Str} {gA CS : Addr} {k j j2 jf jk ib kk : Nat} {pg : Arguments} {sg scope : Scope} {own : List (Str × Nat)} {dV kV doc pm cdv ct oc : Value} {an od : Option Addr} {osl : Array (Option Value)} {Ng : List Str} {okc : Nat → Bool} {p pf pos p1 p2 p3 p4 p5 p6 p7 p8 pk pf2 tpos ep pb epos cpos wpos kp lpos : Pos}
    {ls : List LamI} {fs : List FE} (hc : X.calm = true) (hN : X.N.Nodup) (ok : BlkOk X.N X.env.scope scope own)
    (hgE : Gl X "enumerate") (hmE : X.mg "enumerate" = none) (hNb : X.N[ib]? = some bv) (hvb : Vis X.env.scope bv) (hNk : X.N[jk]? = some kv) (hNf : X.N[jf]? = some fv) (hkf : jk ≠ jf) (hlk : (relS scope X.env.scope).names.lookup kv = some .local) (hlf : (relS scope X.env.scope).names.lookup fv = some .local)
    (hjk : jk ∈ own.map (·.2)) (hjf : jf ∈ own.map (·.2)) (hls : LamsOk C X k ls fs)
    (hgt : ∀ (s : Shared) (H : Hp) (A : Addr) (cl : List (Str × Addr)) (fp : List Addr), Gl (X.blk s H scope (compEnvC scope cl A X.env) fp) x) (hm : X.mg x = some (.ref gA)) (hk : PySem.W.keepIn X.K (.ref gA) = true)
    (lk : X.K.lookup gA = some ⟨oc, od, .func (PySem.W.fnOf x x pg [.Try [.Return (some (.Call (.Name a p1) [] [] p2)) p3] [.ExceptHandler (some (.Name ex p4)) none [.Return (some (.Constant (.str ret) j p5)) p6] p7] [] [] p8] sg dV kV doc pm an cdv ct), osl⟩)
    (hcg : PySem.W.codeIn X.K cdv x = true) (hb : L2.Binds X.K (PySem.W.fnOf x x pg [.Try [.Return (some (.Call (.Name a p1) [] [] p2)) p3] [.ExceptHandler (some (.Name ex p4)) none [.Return (some (.Constant (.str ret) j p5)) p6] p7] [] [] p8] sg dV kV doc pm an cdv ct) [a] [])
    (Sg : FnScope Ng [a] sg) (hNg : Ng[0]? = some a) (hva : Vis sg a) (hge : sg.names.lookup ex = some .globalImplicit) (hme : X.mg ex = some (.ref CS)) (hde : (ex == ("__debug__" : Str)) = false) (h0 : ∀ f : Addr, (L2.start Ng [V.ref f])[0]? = some (some (V.ref f)))
    (hcat : ∀ n, okc n = true → PySem.W.exmOne X.K (.ref (C.exc n)) (.ref CS) = some true) (hr : Room (k + 2) X.A) (hu : X.A.units + 64 < cLine)
    (hdb : (x == ("__debug__" : Str)) = false := by decide) (hd : (a == ("__debug__" : Str)) = false := by decide) (hcd : (a == ("__classdict__" : Str)) = false := by decide)
    (hdf : (fv == ("__debug__" : Str)) = false := by decide) (hcf : (fv == ("__classdict__" : Str)) = false := by decide) (hdB : (bv == ("__debug__" : Str)) = false := by decide) (hcB : (bv == ("__classdict__" : Str)) = false := by decide)
    (hs : starEach [.Name bv pb] X.env = [(false, eval (.Name bv pb) X.env)] := by rfl) (hsame : ∀ g : G, oNe (.str ret) (.str ret) g = .ok (.bl false) g := by intro _; rfl) (hmk : behindInMarks .NotEq (.Constant (.str ret) j2 wpos) = false := by rfl)
    (hfd : ∀ v, foldedSetIterable (.Call (.Name "enumerate" ep) [.Name bv pb] [] epos) X.env v = pure v := by intro _; rfl) :
    PE X (.ListComp (.Name kv kp) [⟨.Tuple [.Name kv pk, .Name fv pf2] kk tpos, .Call (.Name "enumerate" ep) [.Name bv pb] [] epos, [.Compare (.Call (.Name x p) [.Name fv pf] [] pos) [.NotEq] [.Constant (.str ret) j2 wpos] cpos], 0⟩] scope lpos) (tBad C X ib ls fs okc) := by
  refine ⟨fun pins s σ H Q I ⟨ρ, ν, μ, g, g', hE, hR, ⟨L, vs, e1, e2, e3, e4⟩, hrun, hQ⟩ => ?_⟩
  have hlen : X.N.length = σ.length := I.len.symm
  have hjfl : jf < σ.length := by rw [← hlen]; exact (List.getElem?_eq_some_iff.mp hNf).1
  refine comp_none (g := gTup X.K 2 (gCons (gName jk) (gCons (gName jf) gNil))) (tt := tTest (tOp (rD C X.K oNe) (tToldK C X k jf okc ret σ) (tC (.str ret)))) hc hN I (pi_enum hgE hmE (pa_cons (pe_var hNb hvb hdB hcB) pa_nil hs) hs) ok
    (fun s H A cl fp => pg_tup (X := X.blk s H scope (compEnvC scope cl A X.env) fp) hc (pgs_cons (pg_name hN hNk (.inl hlk) (.inr hlk)) (pgs_cons (pg_name hN hNf (.inl hlf) (.inr hlf)) pgs_nil)))
    (fun s' H' A cl fp back => pts_one (pt_cmpR (oNe_ok (X := X.blk s' H' scope (compEnvC scope cl A X.env) fp) hu) (pe_toldK back (hgt s' H' A cl fp) hm hk lk hcg hb Sg hNg hva hge hme hde h0 hcat hr hNf (.inl hlf) hdb hd hcd hdf hcf) pe_str hmk)) hfd ?_
  refine ⟨.ref L, e1, L, vs, rfl, SqL.of e2, fun D nD => ?_⟩
  obtain ⟨RD, exD⟩ := hR.new (o := .lst []) nD
  have hnμ : D ∉ μ := fun z => by
    obtain ⟨u, e, _⟩ := hR.inμ z
    rw [nD] at e; cases e
  have hnν : D ∉ ν := fun z => by
    obtain ⟨u, e, _⟩ := hR.nv D z
    rw [nD] at e; cases e
  refine ⟨vs.length, fun i H' => ∃ μ' g1, i ≤ vs.length ∧ Ext (upd H D (.lst [])) μ H' μ' ∧ RS C X.K H' ν μ' g1 ∧ runBad okc (fs.drop i) ρ g1 = some g', ⟨μ, g, Nat.zero_le _, .refl, RD, hrun⟩, fun i H' ⟨μ', g1, hi, ex, R', hr'⟩ => ?_⟩
  have eLt : L ∉ μ' := ex.out (by rw [upd_ne (ne_of_none e2 nD)]; exact e2) e3 ntb_lst
  have eL : H' L = some (.lst vs) := ex.kp _ _ (by rw [upd_ne (ne_of_none e2 nD)]; exact e2) (.inl e3) ntb_lst
  have eD : H' D = some (.lst []) := ex.kp _ _ upd_same (.inl hnμ) ntb_lst
  have lF := hls.length
  have lR := e4.length
  by_cases hlt : i < vs.length
  · right
    have hfl : i < fs.length := by omega
    rw [List.drop_eq_getElem_cons hfl] at hr'
    unfold runBad at hr'
    cases hfb : fs[i] ρ g1 with
    | ok d g2 => simp only [hfb] at hr'; cases hr'
    | stuck => simp only [hfb] at hr'; cases hr'
    | err c g2 =>
      simp only [hfb] at hr'
      split at hr'
      case isFalse => cases hr'
      rename_i hok
      obtain ⟨l, hl, hlo⟩ := hls.get (i := i) (f := fs[i]) (by simp [hfl])
      obtain ⟨f, c', hv, hf, hco⟩ := LamsR.get e4 hl
      refine ⟨hlt, ⟨vs, .ref f, SqL.of eL, hv⟩, fun y H2 ⟨T, y1, ey, nT, eH, hy⟩ => ?_⟩
      have hy1 : y1 = .ref f := by
        have := hy vs (SqL.of eL)
        rw [hv] at this; cases this; rfl
      subst hy1 eH ey
      obtain ⟨R2, ex2⟩ := R'.new (o := .tup [.int (i : Nat), .ref f]) nT
      refine ⟨T, _, rfl, SqT.of upd_same, rfl, .int (i : Nat), [.ref f], rfl, .ref f, [], rfl, rfl, ?_⟩
      refine ⟨(wipe_set hjf).trans ((wipe_set hjk).trans (wipe_idem _)), ?_⟩
      have exH : Ext H μ (upd H' T (.tup [.int (i : Nat), .ref f])) μ' := (exD.trans ex).trans ex2
      refine ⟨l, fs[i], f, c', ρ, ν, μ', g1, c, g2, hlo, ?_, keep_ext hR exH hf, keep_ext hR exH hco, hE.mono exH.kp', R2, hfb, hok, fun H3 μ3 ex3 R3 => ?_⟩
      · rw [List.getElem?_set_self]
        rw [List.length_set, wipe_length]; exact hjfl
      · refine ⟨.str ret, .str ret, ν, μ3, g2, R3, rStr _, rStr _, fun W σ' => ?_⟩
        rw [hsame]
        intro v H4 μ4 ex4 R4 r4
        obtain rfl : v = .bl false := r4
        exact ⟨false, rfl, rfl, μ4, g2, hlt, ((ex.trans ex2).trans ex3).trans ex4, R4, hr'⟩
  · left
    have ei : i = vs.length := by omega
    refine ⟨ei, ⟨vs, SqL.of eL, by omega⟩, ?_⟩
    rw [List.drop_eq_nil_of_le (by omega)] at hr'
    cases hr'
    exact hQ D H' μ' (exD.trans ex) R' ⟨D, [], rfl, eD, ex.out upd_same hnμ ntb_lst, hnν, rfl⟩
end
end Dl
end
section
set_option Elab.async false
set_option linter.all false
set_option maxRecDepth 100000
set_option maxHeartbeats 1000000
namespace Dl
open PySem PySem.Spec PyProof.Rows L2 LamX
section
variable {C : Cfg} {X : Cx} {W : WX} {ib : Nat} {ls ms : List LamI} {fs : List FE} {okc : Nat → Bool} {f fr f1 : FS} {sts rest body : List Stmt} {es : List Expr} {pos p pb lp bp cpos npos : Pos} {bv : Str}
theorem RepE.unset {K : PySem.W.Frag} {H : Hp} {ν μ : List Addr} {ρ : Env'} {σ : L2.St} (h : RepE K H ν μ ρ σ) (i : Nat) (v : Option V) : RepE K H ν μ (ρ.set i none) (σ.set i v) := by
  refine ⟨by simp [h.len], fun j d e => ?_⟩
  by_cases hj : i = j
  · subst hj
    by_cases hl : i < ρ.length
    · rw [List.getElem?_set_self hl] at e; cases e
    · rw [List.getElem?_eq_none (by simpa using hl)] at e; cases e
  · rw [List.getElem?_set_ne hj] at e ⊢
    exact h.at' j d e
def tSB (C : Cfg) (X : Cx) (W : WX) (ib : Nat) (ls : List LamI) (f : FS) : TS := fun E σ H => ∃ ρ ν μ g, RepE X.K H ν μ ρ σ ∧ RS C X.K H ν μ g ∧ BadR X ib ls ν μ σ H ∧ PostS C X.K W H ν μ (f ρ g) E
def DBd (C : Cfg) (X : Cx) (W : WX) (ib : Nat) (ls : List LamI) (sts : List Stmt) (f : FS) : Prop := PSs X sts (tSB C X W ib ls f)
theorem free_out {K : PySem.W.Frag} {H : Hp} {ν μ : List Addr} {g : G} (R : RS C K H ν μ g) {p : Addr} (h : H p = none) : p ∉ μ := fun z => by
  obtain ⟨u, e, _⟩ := R.inμ z
  rw [h] at e; cases e
theorem db_bad (hN : X.N.Nodup) (hib : X.N[ib]? = some bv) (hx : Loc X.env.scope bv) (hl : PA X es (tLams C X ls)) (hz : ls.length ≤ sizeLine) (hrest : DBd C X W ib ls rest f)
    (hs : swapsWith (.List es lp) (some (.Name bv p)) pos.line X.env = pure false := by rfl) (hf : X.fn bv = true ∨ X.env.scope.names.lookup bv = some .local := by first | exact .inl rfl | exact .inr rfl | assumption) :
    DB C X W (.Assign [.Name bv p] (.List es lp) pos :: rest) (fun ρ g => f (ρ.set ib none) g) := by
  refine ⟨fun pins s σ H E I ⟨ρ, ν, μ, g, hE, hR, hP⟩ => (pss_cons (ps_set hN hib hx (pe_lst hl) hs hf) hrest).run pins s σ H E I ⟨ν, μ, g, hR, fun vs H1 e1 R1 r1 => ⟨by rw [← r1.length]; exact hz, fun q nq => ?_⟩⟩⟩
  obtain ⟨R2, e2⟩ := R1.new (o := .lst vs) nq
  have hlt : ib < σ.length := by rw [I.len]; exact (List.getElem?_eq_some_iff.mp hib).1
  exact ⟨ρ.set ib none, ν, μ, g, (hE.mono (e1.trans e2).kp').unset ib _, R2, ⟨q, vs, by rw [List.getElem?_set_self hlt], upd_same, free_out R1 nq, LamsR.mono R1 e2 r1⟩, hP.ext (e1.trans e2)⟩
theorem dbd_more (hN : X.N.Nodup) (hib : X.N[ib]? = some bv) (hx : Loc X.env.scope bv) (hl : PA X es (tLams C X ms)) (hz : (ls ++ ms).length ≤ sizeLine) (hrest : DBd C X W ib (ls ++ ms) rest f)
    (hs : swapsWith (.BinOp (.Name bv pb) .Add (.List es lp) bp) (some (.Name bv p)) pos.line X.env = pure false := by rfl) (hf : X.fn bv = true ∨ X.env.scope.names.lookup bv = some .local := by first | exact .inl rfl | exact .inr rfl | assumption)
    (hd : (bv == ("__debug__" : Str)) = false := by decide) (hcd : (bv == ("__classdict__" : Str)) = false := by decide) :
    DBd C X W ib ls (.Assign [.Name bv p] (.BinOp (.Name bv pb) .Add (.List es lp) bp) pos :: rest) (fun ρ g => f (ρ.set ib none) g) := by
  have hv : Vis X.env.scope bv := hx.elim (fun z => .inl z) fun z => .inr (.inl z)
  refine ⟨fun pins s σ H E I ⟨ρ, ν, μ, g, hE, hR, ⟨L, vs, h1, h2, h3, h4⟩, hP⟩ => (pss_cons (ps_set hN hib hx (pe_op op_cat (pe_var hib hv hd hcd) (pe_lst hl)) hs hf) hrest).run pins s σ H E I
    ⟨.ref L, h1, ν, μ, g, hR, fun ws H1 e1 R1 r1 => ⟨?_, fun q nq => ⟨L, q, vs, ws, rfl, rfl, ?_, upd_same, ?_, fun t nt => ?_⟩⟩⟩⟩
  · rw [← r1.length]
    rw [List.length_append] at hz
    omega
  · rw [upd_ne (ne_of_none (e1.kp _ _ h2 (.inl h3) ntb_lst) nq)]
    exact e1.kp _ _ h2 (.inl h3) ntb_lst
  · rw [← h4.length, ← r1.length, ← List.length_append]; exact hz
  · obtain ⟨R2, e2⟩ := R1.new (o := .lst ws) nq
    obtain ⟨R3, e3⟩ := R2.new (o := .lst (vs ++ ws)) nt
    have e13 := (e1.trans e2).trans e3
    have hlt : ib < σ.length := by rw [I.len]; exact (List.getElem?_eq_some_iff.mp hib).1
    exact ⟨ρ.set ib none, ν, μ, g, (hE.mono e13.kp').unset ib _, R3, ⟨t, vs ++ ws, by rw [List.getElem?_set_self hlt], upd_same, free_out R2 nt, (LamsR.mono hR e13 h4).app (LamsR.mono R1 (e2.trans e3) r1)⟩, hP.ext e13⟩
/-- behind the look at the bad ones: all were refused -/
def sBad (okc : Nat → Bool) (fs : List FE) (f : FS) : FS := fun ρ g => match runBad okc fs ρ g with
  | some g1 => f ρ g1
  | none => .stuck
theorem bad_ne {a : Expr} (hb : PE X a (tBad C X ib ls fs okc)) (hu : X.A.units + 64 < cLine) (hsame : ∀ g : G, oNe (.lst []) (.lst []) g = .ok (.bl false) g := by intro _; rfl) (hm : behindInMarks .NotEq (.List [] npos) = false := by rfl) :
    PT X (.Compare a [.NotEq] [.List [] npos] cpos) (fun σ H Q => ∃ ρ ν μ g g', RepE X.K H ν μ ρ σ ∧ RS C X.K H ν μ g ∧ BadR X ib ls ν μ σ H ∧ runBad okc fs ρ g = some g' ∧ ∀ H' μ', Ext H μ H' μ' → RS C X.K H' ν μ' g' → Q false H') := by
  refine PT.imp (pt_cmpR (oNe_ok (C := C) hu) hb (pe_lst pa_nil) hm) fun σ H Q ⟨ρ, ν, μ, g, g', hE, hR, hB, hrun, hQ⟩ => ⟨ρ, ν, μ, g, g', hE, hR, hB, hrun, fun D H1 μ1 e1 R1 r1 => ⟨Nat.zero_le _, fun q nq => ?_⟩⟩
  obtain ⟨e2, R2, r2⟩ := new_lst (ds := []) R1 nq rfl
  refine ⟨.lst [], .lst [], ν, μ1, g', R2, RepD.mono e2.kp' _ r1, r2, fun W σ' => ?_⟩
  rw [hsame]
  intro v H4 μ4 ex4 R4 r4
  obtain rfl : v = .bl false := r4
  exact ⟨false, rfl, hQ H4 μ4 ((e1.trans e2).trans ex4) R4⟩
theorem dbd_if {a : Expr} (hb : PE X a (tBad C X ib ls fs okc)) (hu : X.A.units + 64 < cLine) (hbody : DB C X W body f1) (hrest : DB C X W rest fr) (hsame : ∀ g : G, oNe (.lst []) (.lst []) g = .ok (.bl false) g := by intro _; rfl) (hm : behindInMarks .NotEq (.List [] npos) = false := by rfl) :
    DBd C X W ib ls (.If (.Compare a [.NotEq] [.List [] npos] cpos) body [] pos :: rest) (sBad okc fs fr) := by
  refine PSs.imp (pss_cons (ps_if (bad_ne hb hu hsame hm) hbody pss_nil) hrest) fun E σ H ⟨ρ, ν, μ, g, hE, hR, hB, hP⟩ => ?_
  unfold sBad at hP
  cases hr : runBad okc fs ρ g with
  | none => simp only [hr] at hP; exact hP.elim
  | some g' =>
    simp only [hr] at hP
    refine ⟨ρ, ν, μ, g, g', hE, hR, hB, hr, fun H' μ' ex R' => ?_⟩
    show (if false = true then _ else _)
    rw [if_neg Bool.false_ne_true]
    exact ⟨ρ, ν, μ', g', hE.mono ex.kp', R', hP.ext ex⟩
theorem dbd_ifOr {a b : Expr} {es2 : List Expr} {op : Pos} {ft : FT} (hb : PE X a (tBad C X ib ls fs okc)) (hu : X.A.units + 64 < cLine) (hor : DW C X W (.BoolOp .Or (b :: es2) op) ft) (hbody : DB C X W body f1) (hrest : DB C X W rest fr)
    (hsame : ∀ g : G, oNe (.lst []) (.lst []) g = .ok (.bl false) g := by intro _; rfl) (hm : behindInMarks .NotEq (.List [] npos) = false := by rfl) :
    DBd C X W ib ls (.If (.BoolOp .Or (.Compare a [.NotEq] [.List [] npos] cpos :: b :: es2) op) body [] pos :: rest) (sBad okc fs (sSeq (sIf ft f1 sNil) fr)) := by
  refine PSs.imp (pss_cons (ps_if (PW.pt (pw_or (bad_ne hb hu hsame hm) hor)) hbody pss_nil) hrest) fun E σ H ⟨ρ, ν, μ, g, hE, hR, hB, hP⟩ => ?_
  unfold sBad at hP
  cases hr : runBad okc fs ρ g with
  | none => simp only [hr] at hP; exact hP.elim
  | some g' =>
    simp only [hr] at hP
    refine ⟨ρ, ν, μ, g, g', hE, hR, hB, hr, fun H' μ' ex R' => ?_⟩
    show (if false = true then _ else _)
    rw [if_neg Bool.false_ne_true]
    refine ⟨ρ, ν, μ', g', hE.mono ex.kp', R', ?_⟩
    have hP := hP.ext ex
    unfold sSeq sIf at hP
    cases hf : ft ρ g' with
    | err c g1 => simp only [hf, Res.toS] at hP ⊢; exact fun H2 μ2 e2 R2 => hP σ H2 μ2 e2 R2 ((hE.mono ex.kp').mono e2.kp')
    | stuck =>
      simp only [hf, Res.toS] at hP
      exact hP.elim
    | ok c g1 =>
      simp only [hf, Res.toS] at hP ⊢
      intro H2 μ2 e2 R2
      have hP := hP.ext e2
      have hE2 := (hE.mono (ν := ν) ex.kp').mono (ν := ν) e2.kp'
      cases c with
      | true =>
        rw [if_pos rfl] at hP ⊢
        refine ⟨ρ, ν, μ2, g1, hE2, R2, ?_⟩
        cases h1 : f1 ρ g1 with
        | nx ρ1 g3 =>
          simp only [h1] at hP
          exact fun σ' H' μ' ex R' hE' => ⟨ρ1, ν, μ', g3, hE', R', hP.ext ex⟩
        | rt d g3 => simp only [h1] at hP; exact hP
        | bk ρ1 g3 => simp only [h1] at hP; exact hP
        | ct ρ1 g3 => simp only [h1] at hP; exact hP
        | err c ρ1 g3 => simp only [h1] at hP; exact hP
        | stuck => simp only [h1] at hP; exact hP
      | false =>
        rw [if_neg Bool.false_ne_true] at hP ⊢
        exact ⟨ρ, ν, μ2, g1, hE2, R2, hP⟩
end
end Dl
end
section
set_option Elab.async false
set_option linter.all false
set_option maxRecDepth 100000
set_option maxHeartbeats 1000000
namespace Dl
open PySem PySem.Spec PyProof.Rows L2
/-! ### short forms for printed derivations -/
def visB (sc : Scope) (x : Str) : Bool := match sc.names.lookup x with
  | some .local => true
  | some .cell => true
  | some .free => true
  | _ => false
theorem vis_by {sc : Scope} {x : Str} (h : visB sc x = true) : Vis sc x := by
  unfold visB at h
  split at h
  · rename_i e; exact .inl e
  · rename_i e; exact .inr (.inl e)
  · rename_i e; exact .inr (.inr e)
  · cases h
def locB (sc : Scope) (x : Str) : Bool := match sc.names.lookup x with
  | some .local => true
  | some .cell => true
  | _ => false
theorem loc_by {sc : Scope} {x : Str} (h : locB sc x = true) : Loc sc x := by
  unfold locB at h
  split at h
  · rename_i e; exact .inl e
  · rename_i e; exact .inr e
  · cases h
section
variable {C : Cfg} {X : Cx} {W : WX} {e a b c o : Expr} {es rest : List Expr} {f fa fb fc : FE} {fes : FA} {ft : FT} {pos p : Pos} {st : Stmt} {sts : List Stmt} {fs fs' : FS}
theorem v_ (i : Nat) {x : Str} (hN : X.N[i]? = some x := by rfl) (hv : visB X.env.scope x = true := by rfl) (hd : (x == ("__debug__" : Str)) = false := by rfl) (hcd : (x == ("__classdict__" : Str)) = false := by rfl) : DP C X W (.Name x pos) (fVar i) := dp_var hN (vis_by hv) hd hcd
theorem g_ (i : Nat) {x : Str} (hN : X.N.Nodup) (hi : X.N[i]? = some x := by rfl) (hx : locB X.env.scope x = true := by rfl) (hf : X.fn x = true ∨ X.env.scope.names.lookup x = some .local := by first | exact .inl rfl | exact .inr rfl | assumption) : DG C X W (.Name x pos) [i] (gNm i) :=
  dg_name hN hi (loc_by hx) hf
/-- while, the turns told by the names as they stand -/
def sWh (ft : FT) (fb : FS) (nf : Env' → G → Nat) : FS := fun ρ g => whileD ft fb (nf ρ g) ρ g
theorem ds_wh (nf : Env' → G → Nat) {body : List Stmt} (hp : PassesOwn (model X.prog X.w) X.A X.env X.xe) (hc : DT C X W c ft) (hb : DB C X W body fs) : DS C X W (.While c body [] pos) (sWh ft fs nf) :=
  ⟨fun pins s σ H E I ⟨ρ, ν, μ, g, hE, hR, hP⟩ => (ds_while (nf ρ g) hp hc hb).run pins s σ H E I ⟨ρ, ν, μ, g, hE, hR, hP⟩⟩
/-- a turn for each unit of the int at slot i -/
def turnsOf (i : Nat) : Env' → G → Nat := fun ρ _ => match ρ[i]? with
  | some (some (.int z)) => z.natAbs + 2
  | _ => 2
end
/-! ### promises by names -/
def Pm (C : Cfg) (P : Program) (w : World) (K : PySem.W.Frag) (mg : Str → Option Value) (base : Heap) (k : Nat) (x : Str) (n : Nat) (fn : FN) : Prop :=
  ∃ f fd ps, FnOk P w K mg base (L2.CX P w) k f fd ps (spD C K n fn) ∧ mg x = some (.ref f) ∧ PySem.W.keepIn K (.ref f) = true ∧ Binds K fd ps []
section
variable {C : Cfg} {X : Cx} {W : WX} {e a b c o : Expr} {es rest : List Expr} {fa : FE} {fes : FA} {pos p : Pos}
theorem dp_cp {k k2 : Nat} {x : Str} {fn : FN} {n : Nat} (F : Pm C X.prog X.w X.K X.mg X.base k x n fn) (hr : Room k2 X.A) (hle : k ≤ k2) (hg : Gl X x) (tk : Takes X W) (hn : n = es.length + 1) (hl : ∀ ρ g ds g1, fes ρ g = .ok ds g1 → ds.length = n)
    (ha : DA C X W (e :: es) fes) (hdb : (x == ("__debug__" : Str)) = false := by rfl) (he : starEach (e :: es) X.env = (false, eval e X.env) :: starEach es X.env := by rfl) (hpl : (backTo pos (starEach es X.env)).any (·.1) = false := by rfl) :
    DP C X W (.Call (.Name x p) (e :: es) [] pos) (fCall fn fes) := by
  obtain ⟨f, fd, ps, h1, h2, h3, h4⟩ := F
  exact dp_call h1 hn (hr.mono hle) hg h2 h3 h4 tk hl ha hdb he hpl
theorem dp_cp0 {k k2 : Nat} {x : Str} {fn : FN} (F : Pm C X.prog X.w X.K X.mg X.base k x 0 fn) (hr : Room k2 X.A) (hle : k ≤ k2) (hg : Gl X x) (tk : Takes X W) (hdb : (x == ("__debug__" : Str)) = false := by rfl) : DP C X W (.Call (.Name x p) [] [] pos) (fCall0 fn) := by
  obtain ⟨f, fd, ps, h1, h2, h3, h4⟩ := F
  exact dp_call0 h1 (hr.mono hle) hg h2 h3 h4 tk hdb
end
section
variable {C : Cfg} {P : Program} {w : World} {K : PySem.W.Frag} {mg : Str → Option Value} {base : Heap}
/-- THE RULE for a def by its body, its code object known -/
theorem fn_bodyD {x qual : Str} {q : Str × Option Str} {params : Arguments} {body : List Stmt} {scope : Scope} {fd : FuncData} {N ps : List Str} {k : Nat} {fb : FS} (F : FunD K x qual params body scope [] [] (He.fAd K q) fd) (S : FnScope N ps scope)
    (hb : ∀ (A : Around) (outer : List Env) (s : Shared) (H : Hp) (E : XK), Room k (A.deeper (envOfC qual scope s.heap.objs.size (He.fAd K q) (.ref (He.codeOf K q)))) →
      Takes (cxOf (L2.CX P w) P w K mg base N qual scope (He.fAd K q) (.ref (He.codeOf K q)) A outer s H E) (fun cls d _ H => E cls d H) →
      PassesOwn (model P w) (A.deeper (envOfC qual scope s.heap.objs.size (He.fAd K q) (.ref (He.codeOf K q)))) (envOfC qual scope s.heap.objs.size (He.fAd K q) (.ref (He.codeOf K q))) (cxOf (L2.CX P w) P w K mg base N qual scope (He.fAd K q) (.ref (He.codeOf K q)) A outer s H E).xe →
      DB C (cxOf (L2.CX P w) P w K mg base N qual scope (He.fAd K q) (.ref (He.codeOf K q)) A outer s H E) (fun cls d _ H => E cls d H) body fb) :
    FnOk P w K mg base (L2.CX P w) (k + 1) (He.fAd K q) fd ps (spD C K ps.length (runB N.length fb)) := by
  obtain ⟨oc, od, dV, kV, doc, pm, an, cdv, ct, osl, rfl, lk, hcd, _, _⟩ := F.ex
  obtain ⟨c, rfl⟩ := He.codeIn_ref hcd
  have ec : He.codeOf K q = c := He.codeOf_eq lk rfl
  rw [ec] at hb
  refine fn_of lk hcd S (fun vs H Q E ⟨_, _, _, _, h, _⟩ => h) fun A outer s H vs Q E hr ⟨ds, ν, μ, g, hl, r, R, hP⟩ => ?_
  refine ⟨_, hb A outer s H E hr (takes_of rfl rfl rfl rfl) (passes_of rfl), _, ν, μ, g, repE_start r, R, ?_⟩
  unfold runB at hP
  cases hf : fb (ds.map some ++ List.replicate (N.length - ds.length) none) g with
  | nx ρ g' => simp only [hf] at hP; exact fun σ' H' μ' ex R' hE' => hP .non H' μ' ex R' rNon
  | rt d g' => simp only [hf] at hP; exact fun v H' μ' ex R' r' => hP v H' μ' ex R' r'
  | bk ρ g' => simp only [hf] at hP; exact hP.elim
  | ct ρ g' => simp only [hf] at hP; exact hP.elim
  | err c ρ g' => simp only [hf] at hP; exact fun σ' H' μ' ex R' hE' => hP H' μ' ex R'
  | stuck => simp only [hf] at hP; exact hP
/-- a def's promise by its datum -/
theorem pm_of {fas : List He.Fa} {fns : List He.DefD} (kin : K.In base) (G : base.Ns mainGlobals mg) (c : He.SaysD fas fns K) {d : He.DefD} (hd : d ∈ fns) {x : Str} (hx : He.Fa.glo x ∈ fas) (ha : d.at_ = (x, none)) (hdf : d.dfl = []) (hkw : d.kwd = []) {N ps : List Str} {k : Nat} {fb : FS}
    (S : FnScope N ps d.scope) (hbind : ∀ (kV doc pm : Value) (an : Option Addr) (cdv ct : Value) (us : List Value), us.length = ps.length → bindArgs (PySem.W.fnOf d.name d.qual d.params d.body d.scope .none kV doc pm an cdv ct) ⟨us, []⟩ = pure (ps.zip us))
    (hb : ∀ (A : Around) (outer : List Env) (s : Shared) (H : Hp) (E : XK), Room k (A.deeper (envOfC d.qual d.scope s.heap.objs.size (He.fAd K d.at_) (.ref (He.codeOf K d.at_)))) →
      Takes (cxOf (L2.CX P w) P w K mg base N d.qual d.scope (He.fAd K d.at_) (.ref (He.codeOf K d.at_)) A outer s H E) (fun cls d _ H => E cls d H) →
      PassesOwn (model P w) (A.deeper (envOfC d.qual d.scope s.heap.objs.size (He.fAd K d.at_) (.ref (He.codeOf K d.at_)))) (envOfC d.qual d.scope s.heap.objs.size (He.fAd K d.at_) (.ref (He.codeOf K d.at_))) (cxOf (L2.CX P w) P w K mg base N d.qual d.scope (He.fAd K d.at_) (.ref (He.codeOf K d.at_)) A outer s H E).xe →
      DB C (cxOf (L2.CX P w) P w K mg base N d.qual d.scope (He.fAd K d.at_) (.ref (He.codeOf K d.at_)) A outer s H E) (fun cls d _ H => E cls d H) d.body fb) :
    Pm C P w K mg base (k + 1) x ps.length (runB N.length fb) := by
  obtain ⟨fd, F⟩ := c.defs hd
  unfold He.DefD.dvs He.DefD.kws at F
  rw [hdf, hkw] at F
  refine ⟨He.fAd K d.at_, fd, ps, fn_bodyD F S hb, ?_, F.kp, F.bindsN hbind⟩
  rw [ha]
  exact He.glo_ok kin G (c.facts hx)
end
end Dl
end
section
set_option Elab.async false
set_option linter.all false
set_option maxRecDepth 100000
set_option maxHeartbeats 1000000
namespace Dl
open PySem PySem.Spec PyProof.Rows L2 LamX
/-- the def that tells of refusals: def x(a): try: return a() / except ex: return ret -/
structure ToldF (C : Cfg) (K : PySem.W.Frag) (mg : Str → Option Value) (x ret : Str) (okc : Nat → Bool) (gA CS : Addr) (a ex : Str) (j : Nat) (pg : Arguments) (sg : Scope) (dV kV doc pm cdv ct oc : Value) (an od : Option Addr) (osl : Array (Option Value)) (Ng : List Str) (p1 p2 p3 p4 p5 p6 p7 p8 : Pos) : Prop where
  hm : mg x = some (.ref gA)
  hk : PySem.W.keepIn K (.ref gA) = true
  lk : K.lookup gA = some ⟨oc, od, .func (PySem.W.fnOf x x pg [.Try [.Return (some (.Call (.Name a p1) [] [] p2)) p3] [.ExceptHandler (some (.Name ex p4)) none [.Return (some (.Constant (.str ret) j p5)) p6] p7] [] [] p8] sg dV kV doc pm an cdv ct), osl⟩
  hcg : PySem.W.codeIn K cdv x = true
  hb : L2.Binds K (PySem.W.fnOf x x pg [.Try [.Return (some (.Call (.Name a p1) [] [] p2)) p3] [.ExceptHandler (some (.Name ex p4)) none [.Return (some (.Constant (.str ret) j p5)) p6] p7] [] [] p8] sg dV kV doc pm an cdv ct) [a] []
  Sg : FnScope Ng [a] sg
  hNg : Ng[0]? = some a
  hva : Vis sg a
  hge : sg.names.lookup ex = some .globalImplicit
  hme : mg ex = some (.ref CS)
  hde : (ex == ("__debug__" : Str)) = false
  h0 : ∀ f : Addr, (L2.start Ng [V.ref f])[0]? = some (some (V.ref f))
  hcat : ∀ n, okc n = true → PySem.W.exmOne K (.ref (C.exc n)) (.ref CS) = some true
  hd : (a == ("__debug__" : Str)) = false
  hcd : (a == ("__classdict__" : Str)) = false
def ToldOk (C : Cfg) (K : PySem.W.Frag) (mg : Str → Option Value) (x ret : Str) (okc : Nat → Bool) : Prop :=
  ∃ gA CS a ex j pg sg dV kV doc pm cdv ct oc an od osl Ng p1 p2 p3 p4 p5 p6 p7 p8, ToldF C K mg x ret okc gA CS a ex j pg sg dV kV doc pm cdv ct oc an od osl Ng p1 p2 p3 p4 p5 p6 p7 p8
theorem told_of {C : Cfg} {K : PySem.W.Frag} {base : Heap} {mg : Str → Option Value} {fas : List He.Fa} {fns : List He.DefD} (kin : K.In base) (G : base.Ns mainGlobals mg) (c : He.SaysD fas fns K) {d : He.DefD} (hd : d ∈ fns) {x a ex ret : Str} {j : Nat} {p1 p2 p3 p4 p5 p6 p7 p8 : Pos} {okc : Nat → Bool}
    (hx : He.Fa.glo x ∈ fas) (ha : d.at_ = (x, none)) (hn : d.name = x) (hq : d.qual = x) (hdf : d.dfl = []) (hkw : d.kwd = []) (hbd : d.body = [.Try [.Return (some (.Call (.Name a p1) [] [] p2)) p3] [.ExceptHandler (some (.Name ex p4)) none [.Return (some (.Constant (.str ret) j p5)) p6] p7] [] [] p8])
    (hex : He.Fa.glo ex ∈ fas) (Ng : List Str) (Sg : FnScope Ng [a] d.scope) (hNg : Ng[0]? = some a) (hva : Vis d.scope a) (hge : d.scope.names.lookup ex = some .globalImplicit) (hde : (ex == ("__debug__" : Str)) = false) (h0 : ∀ f : Addr, (L2.start Ng [V.ref f])[0]? = some (some (V.ref f)))
    (hbind : ∀ (kV doc pm : Value) (an : Option Addr) (cdv ct : Value) (us : List Value), us.length = [a].length → bindArgs (PySem.W.fnOf d.name d.qual d.params d.body d.scope .none kV doc pm an cdv ct) ⟨us, []⟩ = pure ([a].zip us))
    (hcat : ∀ n, okc n = true → PySem.W.exmOne K (.ref (C.exc n)) (.ref (He.ga K ex)) = some true) (hd1 : (a == ("__debug__" : Str)) = false) (hcd1 : (a == ("__classdict__" : Str)) = false) : ToldOk C K mg x ret okc := by
  obtain ⟨fd, F⟩ := c.defs hd
  unfold He.DefD.dvs He.DefD.kws at F
  rw [hdf, hkw] at F
  have B := F.bindsN hbind
  have kp := F.kp
  have gx := He.glo_ok kin G (c.facts hx)
  have ge := He.glo_ok kin G (c.facts hex)
  obtain ⟨oc, od, dV, kV, doc, pm, an, cdv, ct, osl, rfl, lk, hcd, _, _⟩ := F.ex
  rw [hn, hq, hbd] at lk B
  rw [hq] at hcd
  have e : He.fAd K d.at_ = He.ga K x := by rw [ha]; rfl
  rw [e] at lk kp
  exact ⟨He.ga K x, He.ga K ex, a, ex, j, d.params, d.scope, dV, kV, doc, pm, cdv, ct, oc, an, od, osl, Ng, p1, p2, p3, p4, p5, p6, p7, p8, ⟨gx, kp, lk, hcd, B, Sg, hNg, hva, hge, ge, hde, h0, hcat, hd1, hcd1⟩⟩
/-- a def's table of code objects -/
structure TabsOk (C : Cfg) (base : Heap) (mg : Str → Option Value) (c P : Addr) (q : Str) : Prop where
  tb : LamX.TabB base mg c P
  mem : (P, q) ∈ C.tabs
  uni : ∀ p ∈ C.tabs, p.1 = P → p.2 = q
section
variable {C : Cfg} {X : Cx} {W : WX} {pos p : Pos} {c P : Addr} {k : Nat}
theorem dp_tp {x ret : Str} {okc : Nat → Bool} {f : FE} {params : Arguments} {body : Expr} {scope : Scope} {lpos : Pos} (T : ToldOk C X.K X.mg x ret okc) (hg : Gl X x) (tb : TabsOk C X.base X.mg c P (X.env.qual ++ "<lambda>")) (hcode : X.env.code = .ref c) {k2 : Nat} (hr : Room k2 X.A) (hle : k + 2 ≤ k2) (L : lamSB X.env.scope scope = true)
    (hbody : ∀ (A : Around) (outer : List Env) (s : Shared) (H : Hp) (E : XK) (fl c' : Addr), Room k (A.deeper (lamEnv X scope s.heap.objs.size fl c')) → Takes (lamCx X A outer s H E scope fl c') (fun cls d _ H => E cls d H) →
      DP C (lamCx X A outer s H E scope fl c') (fun cls d _ H => E cls d H) body f)
    (hdef : defaultsOf params X.env = ([], []) := by rfl)
    (hbind : ∀ (q : Str) (cl : List (Str × Addr)) (pm cv ctv : Value), bindArgs (PySem.W.kla_fn "<lambda>" q params body scope cl pm cv ctv) ⟨[], []⟩ = pure [] := by intros; rfl)
    (hdb : (x == ("__debug__" : Str)) = false := by rfl) : DP C X W (.Call (.Name x p) [.Lambda params body scope lpos] [] pos) (fTold okc ret f) := by
  obtain ⟨gA, CS, a, ex, j, pg, sg, dV, kV, doc, pm, cdv, ct, oc, an, od, osl, Ng, p1, p2, p3, p4, p5, p6, p7, p8, t⟩ := T
  exact dp_told hg t.hm t.hk t.lk t.hcg t.hb t.Sg t.hNg t.hva t.hge t.hme t.hde t.h0 t.hcat tb.tb hcode tb.mem tb.uni (hr.mono hle) (lamS_by L) hdef hbind hbody hdb t.hd t.hcd
/-- a lambda of the bad list -/
theorem lk_ {l : LamI} {es : List Expr} {ls : List LamI} {lpos : Pos} (tb : TabsOk C X.base X.mg c P (lq X)) (hcode : X.env.code = .ref c) (L : lamSB X.env.scope l.scope = true) (h2 : PA X es (tLams C X ls)) (hdef : defaultsOf l.params X.env = ([], []) := by rfl)
    (hs : starEach (.Lambda l.params l.body l.scope lpos :: es) X.env = (false, eval (.Lambda l.params l.body l.scope lpos) X.env) :: starEach es X.env := by rfl) : PA X (.Lambda l.params l.body l.scope lpos :: es) (tLams C X (l :: ls)) :=
  pa_lams_cons (pe_lamK tb.tb hcode tb.mem tb.uni hdef fun ok => LamS.has (lamS_by L) ok) h2 hs
theorem lo_ {l : LamI} {fb : FE} (L : lamSB X.env.scope l.scope = true)
    (body : ∀ (A : Around) (outer : List Env) (s : Shared) (H : Hp) (E : XK) (fl c' : Addr), Room k (A.deeper (lamEnv X l.scope s.heap.objs.size fl c')) → Takes (lamCx X A outer s H E l.scope fl c') (fun cls d _ H => E cls d H) →
      DP C (lamCx X A outer s H E l.scope fl c') (fun cls d _ H => E cls d H) l.body fb)
    (bind : ∀ (q : Str) (cl : List (Str × Addr)) (pm cv ctv : Value), bindArgs (PySem.W.kla_fn "<lambda>" q l.params l.body l.scope cl pm cv ctv) ⟨[], []⟩ = pure [] := by intros; rfl) : LamOk C X k l fb := ⟨lamS_by L, bind, body⟩
theorem pe_bp {x ret fv kv bv : Str} {j2 jf jk ib kk : Nat} {scope : Scope} {own : List (Str × Nat)} {okc : Nat → Bool} {pf pk pf2 tpos ep pb epos cpos wpos kp lpos : Pos} {ls : List LamI} {fs : List FE} (T : ToldOk C X.K X.mg x ret okc) (hc : X.calm = true) (hN : X.N.Nodup) (ok : blkC X.N X.env.scope scope own = true)
    (hgE : Gl X "enumerate") (hmE : X.mg "enumerate" = none) (hNb : X.N[ib]? = some bv) (hvb : visB X.env.scope bv = true) (hNk : X.N[jk]? = some kv) (hNf : X.N[jf]? = some fv) (hkf : jk ≠ jf) (hlk : (relS scope X.env.scope).names.lookup kv = some .local) (hlf : (relS scope X.env.scope).names.lookup fv = some .local)
    (hjk : jk ∈ own.map (·.2)) (hjf : jf ∈ own.map (·.2)) (hls : LamsOk C X k ls fs) (hgt : ∀ (s : Shared) (H : Hp) (A : Addr) (cl : List (Str × Addr)) (fp : List Addr), Gl (X.blk s H scope (compEnvC scope cl A X.env) fp) x) {k2 : Nat} (hr : Room k2 X.A) (hle : k + 2 ≤ k2) (hu : X.A.units + 64 < cLine)
    (hdb : (x == ("__debug__" : Str)) = false := by rfl) (hdf : (fv == ("__debug__" : Str)) = false := by rfl) (hcf : (fv == ("__classdict__" : Str)) = false := by rfl) (hdB : (bv == ("__debug__" : Str)) = false := by rfl) (hcB : (bv == ("__classdict__" : Str)) = false := by rfl)
    (hs : starEach [.Name bv pb] X.env = [(false, eval (.Name bv pb) X.env)] := by rfl) (hsame : ∀ g : G, oNe (.str ret) (.str ret) g = .ok (.bl false) g := by intro _; rfl) (hmk : behindInMarks .NotEq (.Constant (.str ret) j2 wpos) = false := by rfl)
    (hfd : ∀ v, foldedSetIterable (.Call (.Name "enumerate" ep) [.Name bv pb] [] epos) X.env v = pure v := by intro _; rfl) :
    PE X (.ListComp (.Name kv kp) [⟨.Tuple [.Name kv pk, .Name fv pf2] kk tpos, .Call (.Name "enumerate" ep) [.Name bv pb] [] epos, [.Compare (.Call (.Name x p) [.Name fv pf] [] pos) [.NotEq] [.Constant (.str ret) j2 wpos] cpos], 0⟩] scope lpos) (tBad C X ib ls fs okc) := by
  obtain ⟨gA, CS, a, ex, j, pg, sg, dV, kV, doc, pm, cdv, ct, oc, an, od, osl, Ng, p1, p2, p3, p4, p5, p6, p7, p8, t⟩ := T
  exact pe_bad hc hN (blkOk_by ok) hgE hmE hNb (vis_by hvb) hNk hNf hkf hlk hlf hjk hjf hls hgt t.hm t.hk t.lk t.hcg t.hb t.Sg t.hNg t.hva t.hge t.hme t.hde t.h0 t.hcat (hr.mono hle) hu hdb t.hd t.hcd hdf hcf hdB hcB hs hsame hmk hfd
end
end Dl
end
section
set_option Elab.async false
set_option linter.all false
set_option maxRecDepth 100000
set_option maxHeartbeats 1000000
namespace Dl
open PySem PySem.Spec PyProof.Rows L2
section
variable {C : Cfg} {X : Cx} {W : WX} {a b c : Expr} {fes : FA} {pos : Pos}
theorem ds_par3 {i j l : Nat} {x y z : Str} {px py pz pt : Pos} {kt k2 pt2} (hc : X.calm = true) (hN : X.N.Nodup) (hi : X.N[i]? = some x) (hj : X.N[j]? = some y) (hl : X.N[l]? = some z) (hij : i ≠ j) (hil : i ≠ l) (hjl : j ≠ l)
    (hx : X.env.scope.names.lookup x = some .local) (hy : X.env.scope.names.lookup y = some .local) (hz : X.env.scope.names.lookup z = some .local) (ha : DA C X W [a, b, c] fes)
    (hw : swappedStores [.Tuple [.Name x px, .Name y py, .Name z pz] kt pt] (.Tuple [a, b, c] k2 pt2) X.env = pure (some [x, y, z]))
    (hs : swapsWithSole [.Tuple [.Name x px, .Name y py, .Name z pz] kt pt] (.Tuple [a, b, c] k2 pt2) pos.line X.env = pure false := by rfl) :
    DS C X W (.Assign [.Tuple [.Name x px, .Name y py, .Name z pz] kt pt] (.Tuple [a, b, c] k2 pt2) pos) (sPar3 i j l fes) := PS.imp (ps_par3 hc hN hi hj hl hij hil hjl hx hy hz ha hw hs) fun E σ H h => by
  refine bindSA (k := fun ds ρ g1 => match ds with
  | [a, b, c] => .nx (((ρ.set i (some a)).set j (some b)).set l (some c)) g1
  | _ => .stuck) h fun ρ ν μ g ds vs H1 hE hR r hP => ?_
  split at hP
  · unfold RepL RepL RepL RepL at r
    obtain ⟨u, _, rfl, r1, v, _, rfl, r2, w, _, rfl, r3, rfl⟩ := r
    exact ⟨u, v, w, rfl, hP _ H1 μ .refl hR (((hE.set r1 i).set r2 j).set r3 l)⟩
  · exact hP.elim
/-- x in y -/
def inPy (g : G) (x y : D) : Option Bool := match x, y with
  | .str a, .str b => some (!(Builtin.Str.occurrences b a 0 b.length 1).isEmpty)
  | _, _ => match toPy g 12 x, toPy g 12 y with
    | some d, some (.list es) => if SeqAt.shaped d && SeqAt.shaped (.list es) then some (es.any fun z => PyData.eqv z d) else none
    | some d, some (.tuple es) => if SeqAt.shaped d && SeqAt.shaped (.tuple es) then some (es.any fun z => PyData.eqv z d) else none
    | _, _ => none
def oIn : F2 := fun x y g => match inPy g x y with
  | some b => .ok (.bl b) g
  | none => .stuck
def oNIn : F2 := fun x y g => match inPy g x y with
  | some b => .ok (.bl (!b)) g
  | none => .stuck
theorem oIn_n : NoErr oIn := fun x y g c g' e => by unfold oIn at e; split at e <;> cases e
theorem oNIn_n : NoErr oNIn := fun x y g c g' e => by unfold oNIn at e; split at e <;> cases e
theorem inPy_rd {K : PySem.W.Frag} {H : Hp} {ν μ : List Addr} {g : G} {dx dy : D} {x y : V} {r : Bool} (R : RS C K H ν μ g) (r1 : RepD K H ν μ dx x) (r2 : RepD K H ν μ dy y) (e : inPy g dx dy = some r) :
    (∃ s t, x = .str s ∧ y = .str t ∧ r = (!(Builtin.Str.occurrences t s 0 t.length 1).isEmpty)) ∨ ∃ d es, Dp K H x d ∧ ((Dp K H y (.list es) ∧ SeqAt.shaped (.list es) = true) ∨ (Dp K H y (.tuple es) ∧ SeqAt.shaped (.tuple es) = true)) ∧ SeqAt.shaped d = true ∧ (es.any fun z => PyData.eqv z d) = r := by
  unfold inPy at e
  split at e
  · rename_i s t
    obtain rfl : x = .str s := r1
    obtain rfl : y = .str t := r2
    cases e
    exact .inl ⟨s, t, rfl, rfl, rfl⟩
  · split at e
    · rename_i d es e1 e2
      split at e
      · rename_i h
        rw [Bool.and_eq_true] at h
        cases e
        exact .inr ⟨d, es, toPy_rd R 12 _ _ _ r1 e1, .inl ⟨toPy_rd R 12 _ _ _ r2 e2, h.2⟩, h.1, rfl⟩
      · cases e
    · rename_i d es e1 e2
      split at e
      · rename_i h
        rw [Bool.and_eq_true] at h
        cases e
        exact .inr ⟨d, es, toPy_rd R 12 _ _ _ r1 e1, .inr ⟨toPy_rd R 12 _ _ _ r2 e2, h.2⟩, h.1, rfl⟩
      · cases e
    · cases e
theorem oIn_ok (hu : X.A.units + 65 < cLine) : OpR X (compareOp .In) (rD C X.K oIn) := by
  intro pins s σ H x y v u Q I rx ry h
  obtain ⟨dx, dy, ν, μ, g, R, r1, r2, hP⟩ := h
  have hP := hP (fun _ _ _ _ => False) σ
  unfold oIn at hP
  split at hP
  · rename_i b e
    rcases inPy_rd R r1 r2 e with ⟨s, t, rfl, rfl, rfl⟩ | ⟨d, es, h1, h2, h3, h5⟩
    · exact op_in_str pins _ σ H _ _ v u Q I rx ry ⟨s, t, rfl, rfl, hP.here R (rBl _)⟩
    · rcases h2 with ⟨h2, h4⟩ | ⟨h2, h4⟩
      · exact op_inD hu pins _ σ H _ _ v u Q I rx ry ⟨d, es, h1, h2, h3, h4, by rw [h5]; exact hP.here R (rBl _)⟩
      · obtain ⟨as, q1⟩ := Dp.reads I d x v h1 rx
        obtain ⟨bs, q2⟩ := Dp.reads I (.tuple es) y u h2 ry
        exact SeqAt.in_tuple_reads q2 q1 (SeqAt.canLay_of_shaped h4) (SeqAt.canLay_of_shaped h3) (room_in_shaped h3 hu) ⟨.bl _, H, I, rfl, by rw [h5]; exact hP.here R (rBl _)⟩
  · exact hP.elim
theorem oNIn_ok (hu : X.A.units + 65 < cLine) : OpR X (compareOp .NotIn) (rD C X.K oNIn) := by
  intro pins s σ H x y v u Q I rx ry h
  obtain ⟨dx, dy, ν, μ, g, R, r1, r2, hP⟩ := h
  have hP := hP (fun _ _ _ _ => False) σ
  unfold oNIn at hP
  split at hP
  · rename_i b e
    rcases inPy_rd R r1 r2 e with ⟨s, t, rfl, rfl, rfl⟩ | ⟨d, es, h1, h2, h3, h5⟩
    · exact op_notin_str pins _ σ H _ _ v u Q I rx ry ⟨s, t, rfl, rfl, hP.here R (rBl _)⟩
    · rcases h2 with ⟨h2, h4⟩ | ⟨h2, h4⟩
      · exact op_notInD hu pins _ σ H _ _ v u Q I rx ry ⟨d, es, h1, h2, h3, h4, by rw [h5]; exact hP.here R (rBl _)⟩
      · obtain ⟨as, q1⟩ := Dp.reads I d x v h1 rx
        obtain ⟨bs, q2⟩ := Dp.reads I (.tuple es) y u h2 ry
        exact SeqAt.notIn_tuple_reads q2 q1 (SeqAt.canLay_of_shaped h4) (SeqAt.canLay_of_shaped h3) (room_in_shaped h3 hu) ⟨.bl _, H, I, rfl, by rw [h5]; exact hP.here R (rBl _)⟩
  · exact hP.elim
end
section
variable {C : Cfg} {P : Program} {w : World} {K : PySem.W.Frag} {mg : Str → Option Value} {base : Heap}
theorem db_stuck {X : Cx} {W : WX} {sts : List Stmt} : DB C X W sts (fun _ _ => .stuck) := ⟨fun pins s σ H E I ⟨ρ, ν, μ, g, hE, hR, hP⟩ => (show False from hP).elim⟩
end
end Dl
end
section
set_option Elab.async false
set_option linter.all false
set_option maxRecDepth 100000
set_option maxHeartbeats 1000000
namespace Dl
open PySem PySem.Spec PyProof.Rows L2
theorem hu65_of {k : Nat} {A : Around} (h : Room k A) : A.units + 65 < cLine := by have := h.un; omega
/-- the tables of code objects of these defs -/
def tabsOf (tq : List ((Str × Option Str) × Str)) (K : PySem.W.Frag) : List (Addr × Str) := tq.map fun p => (He.tabOf K (He.codeOf K p.1), p.2)
theorem nodup_inj {α β : Type} {f : α → β} : ∀ {l : List α}, (l.map f).Nodup → ∀ {x y : α}, x ∈ l → y ∈ l → f x = f y → x = y
  | [], _, x, y, h, _, _ => by cases h
  | z :: l, n, x, y, hx, hy, e => by
    rw [List.map_cons, List.nodup_cons] at n
    rcases List.mem_cons.mp hx with a | a <;> rcases List.mem_cons.mp hy with b | b
    · rw [a, b]
    · exact (n.1 (by rw [← a, e]; exact List.mem_map_of_mem b)).elim
    · exact (n.1 (by rw [← b, ← e]; exact List.mem_map_of_mem a)).elim
    · exact nodup_inj n.2 a b e
theorem tabs_ok {C : Cfg} {K : PySem.W.Frag} {base : Heap} {mg : Str → Option Value} {tq : List ((Str × Option Str) × Str)} {d : (Str × Option Str) × Str} (hd : d ∈ tq) (tb : ∀ p ∈ tq, LamX.TabB base mg (He.codeOf K p.1) (He.tabOf K (He.codeOf K p.1)))
    (nt : (tq.map fun p => He.tabOf K (He.codeOf K p.1)).Nodup) (hC : C.tabs = tabsOf tq K) : TabsOk C base mg (He.codeOf K d.1) (He.tabOf K (He.codeOf K d.1)) d.2 where
  tb := tb d hd
  mem := by rw [hC]; exact List.mem_map.mpr ⟨d, hd, rfl⟩
  uni := fun p hp e => by
    rw [hC] at hp
    obtain ⟨x, hx, rfl⟩ := List.mem_map.mp hp
    rw [nodup_inj nt hx hd e]
/-- the lambdas that a statement lists -/
def lamsIn : List Expr → List LamI
  | .Lambda p b s _ :: r => ⟨p, b, s⟩ :: lamsIn r
  | _ => []
def lamsOf (st : Stmt) (j : Nat) (more : Bool) : List LamI := match (defBody st)[j]? with
  | some (.Assign _ (.List es _) _) => lamsIn es
  | some (.Assign _ (.BinOp _ _ (.List es _) _) _) => lamsIn es
  | _ => []
end Dl
end
section
set_option Elab.async false
set_option linter.all false
set_option maxRecDepth 100000
set_option maxHeartbeats 1000000
namespace Dl
open PySem PySem.Spec PyProof.Rows L2 LamX
section
variable {C : Cfg} {X : Cx} {W : WX} {tg elt iter : Expr} {ifs : List Expr} {fe : FE} {ft : FT} {pos p gpos : Pos} {fi : FI} {fg : FG} {k : Nat} {scope : Scope} {own : List (Str × Nat)} {ts sl : List Nat} {stp : List D → Go} {kk : List D → G → Res D}
theorem lc_ (hsl : own.map (·.2) = sl) (hc : X.calm = true) (hN : X.N.Nodup) (hi : DI C X W tg iter fi) (ok : blkC X.N X.env.scope scope own = true) (hts : ∀ i ∈ ts, i ∈ sl)
    (hg : ∀ (s : Shared) (H : Hp) (A : Addr) (cl : List (Str × Addr)) (fp : List Addr), DG C (X.blk s H scope (compEnvC scope cl A X.env) fp) W0 tg ts fg)
    (ht : ∀ (s : Shared) (H : Hp) (A : Addr) (cl : List (Str × Addr)) (fp : List Addr), DTs C (X.blk s H scope (compEnvC scope cl A X.env) fp) W0 ifs ft)
    (he : ∀ (s : Shared) (H : Hp) (A : Addr) (cl : List (Str × Addr)) (fp : List Addr), DP C (X.blk s H scope (compEnvC scope cl A X.env) fp) W0 elt fe)
    (hs : ∀ x, foldedSetIterable iter X.env x = pure x := by intro _; rfl) : DP C X W (.ListComp elt [⟨tg, iter, ifs, 0⟩] scope pos) (fLc sl fi fg ft fe) := by
  subst hsl
  exact dp_lcK lcEnd hc hN hi (blkOk_by ok) hts hg ht he hs
theorem lcM_ (hsl : own.map (·.2) = sl) (hc : X.calm = true) (hN : X.N.Nodup) (hi : DI C X W tg iter fi) (ok : blkC X.N X.env.scope scope own = true) (hts : ∀ i ∈ ts, i ∈ sl)
    (hg : ∀ (s : Shared) (H : Hp) (A : Addr) (cl : List (Str × Addr)) (fp : List Addr), DG C (X.blk s H scope (compEnvC scope cl A X.env) fp) W0 tg ts fg)
    (ht : ∀ (s : Shared) (H : Hp) (A : Addr) (cl : List (Str × Addr)) (fp : List Addr), DTs C (X.blk s H scope (compEnvC scope cl A X.env) fp) W0 ifs ft)
    (he : ∀ (s : Shared) (H : Hp) (A : Addr) (cl : List (Str × Addr)) (fp : List Addr), DP C (X.blk s H scope (compEnvC scope cl A X.env) fp) W0 elt fe)
    (hs : ∀ x, foldedSetIterable iter X.env x = pure x := by intro _; rfl) : DP C X W (.ListComp elt [⟨tg, iter, ifs, 0⟩] scope pos) (fLcM sl fi fg ft fe) := by
  subst hsl
  exact dp_lcK lcEndM hc hN hi (blkOk_by ok) hts hg ht he hs
theorem slc_ {i : Nat} {y : Str} {py spos : Pos} (hsl : own.map (·.2) = sl) (hc : X.calm = true) (hN : X.N.Nodup) (hy : X.N[i]? = some y) (hyl : X.env.scope.names.lookup y = some .local)
    (hsw : swapsWith (.ListComp elt [⟨tg, iter, ifs, 0⟩] scope pos) (some (.Name y py)) spos.line X.env = pure true) (hi : DI C X W tg iter fi) (ok : blkC X.N X.env.scope scope own = true) (hts : ∀ i ∈ ts, i ∈ sl)
    (hg : ∀ (s : Shared) (H : Hp) (A : Addr) (cl : List (Str × Addr)) (fp : List Addr), DG C (X.blk s H scope (compEnvC scope cl A X.env) fp) W0 tg ts fg)
    (ht : ∀ (s : Shared) (H : Hp) (A : Addr) (cl : List (Str × Addr)) (fp : List Addr), DTs C (X.blk s H scope (compEnvC scope cl A X.env) fp) W0 ifs ft)
    (he : ∀ (s : Shared) (H : Hp) (A : Addr) (cl : List (Str × Addr)) (fp : List Addr), DP C (X.blk s H scope (compEnvC scope cl A X.env) fp) W0 elt fe)
    (hs : ∀ x, foldedSetIterable iter X.env x = pure x := by intro _; rfl) : DS C X W (.Assign [.Name y py] (.ListComp elt [⟨tg, iter, ifs, 0⟩] scope pos) spos) (sAsg (fLc sl fi fg ft fe) (gNm i)) := by
  subst hsl
  exact ds_lcK lcEnd hc hN hy hyl hsw hi (blkOk_by ok) hts hg ht he hs
theorem slcM_ {i : Nat} {y : Str} {py spos : Pos} (hsl : own.map (·.2) = sl) (hc : X.calm = true) (hN : X.N.Nodup) (hy : X.N[i]? = some y) (hyl : X.env.scope.names.lookup y = some .local)
    (hsw : swapsWith (.ListComp elt [⟨tg, iter, ifs, 0⟩] scope pos) (some (.Name y py)) spos.line X.env = pure true) (hi : DI C X W tg iter fi) (ok : blkC X.N X.env.scope scope own = true) (hts : ∀ i ∈ ts, i ∈ sl)
    (hg : ∀ (s : Shared) (H : Hp) (A : Addr) (cl : List (Str × Addr)) (fp : List Addr), DG C (X.blk s H scope (compEnvC scope cl A X.env) fp) W0 tg ts fg)
    (ht : ∀ (s : Shared) (H : Hp) (A : Addr) (cl : List (Str × Addr)) (fp : List Addr), DTs C (X.blk s H scope (compEnvC scope cl A X.env) fp) W0 ifs ft)
    (he : ∀ (s : Shared) (H : Hp) (A : Addr) (cl : List (Str × Addr)) (fp : List Addr), DP C (X.blk s H scope (compEnvC scope cl A X.env) fp) W0 elt fe)
    (hs : ∀ x, foldedSetIterable iter X.env x = pure x := by intro _; rfl) : DS C X W (.Assign [.Name y py] (.ListComp elt [⟨tg, iter, ifs, 0⟩] scope pos) spos) (sAsg (fLcM sl fi fg ft fe) (gNm i)) := by
  subst hsl
  exact ds_lcK lcEndM hc hN hy hyl hsw hi (blkOk_by ok) hts hg ht he hs
theorem genB_ {nm : Str} {id : String} (hsl : own.map (·.2) = sl) (hg : Gl X nm) (hm : X.mg nm = none) (hv : bootBuiltins nm = some (.builtin id)) (hc : Cons C X W k (.builtin id) stp kk) (O : GenOk C X W k tg iter elt ifs scope own ts fi fg ft fe)
    (hnm : nm ≠ "__name__" := by decide) (hdb : (nm == ("__debug__" : Str)) = false := by rfl)
    (he : starEach [.GeneratorExp elt [⟨tg, iter, ifs, 0⟩] scope gpos] X.env = (false, eval (.GeneratorExp elt [⟨tg, iter, ifs, 0⟩] scope gpos) X.env) :: starEach [] X.env := by rfl) :
    DP C X W (.Call (.Name nm p) [.GeneratorExp elt [⟨tg, iter, ifs, 0⟩] scope gpos] [] pos) (fGn stp kk sl fi fg ft fe) := by
  subst hsl
  exact dp_genB hg hm hv hc O hnm hdb he
theorem genT_ {nm : Str} {id : String} (hsl : own.map (·.2) = sl) (hg : Gl X nm) (hm : X.mg nm = none) (hv : bootBuiltins nm = some (.type id)) (hc : Cons C X W k (.type id) stp kk) (O : GenOk C X W k tg iter elt ifs scope own ts fi fg ft fe)
    (hnm : nm ≠ "__name__" := by decide) (hdb : (nm == ("__debug__" : Str)) = false := by rfl)
    (he : starEach [.GeneratorExp elt [⟨tg, iter, ifs, 0⟩] scope gpos] X.env = (false, eval (.GeneratorExp elt [⟨tg, iter, ifs, 0⟩] scope gpos) X.env) :: starEach [] X.env := by rfl) :
    DP C X W (.Call (.Name nm p) [.GeneratorExp elt [⟨tg, iter, ifs, 0⟩] scope gpos] [] pos) (fGn stp kk sl fi fg ft fe) := by
  subst hsl
  exact dp_genT hg hm hv hc O hnm hdb he
theorem gok_ {c P : Addr} {k2 : Nat} (tb : TabsOk C X.base X.mg c P (X.env.qual ++ "<genexpr>")) (hcode : X.env.code = .ref c) (hr : Room k2 X.A) (hle : k + 3 ≤ k2) (hN : X.N.Nodup) (blk : blkC X.N X.env.scope scope own = true) (tss : ∀ i ∈ ts, i ∈ own.map (·.2)) (cell : ∀ y ∈ scope.names, y.2 ≠ .cell)
    (dot : scope.names.lookup (".0" : Str) = some NameKind.local) (co : scope.isCoroutine = false) (fold : ∀ v, genFold iter X.env v = pure v) (it : DI C X W tg iter fi)
    (tgt : ∀ (B : Around) (s : Shared) (H : Hp) (A : Addr) (code : Value) (fp : List Addr) (pn : List (Addr × Obj)), Room k (B.deeper (gEnvOf X scope A code)) → DG C (gCx X B s H (gEnvOf X scope A code) fp pn) W0 tg ts fg)
    (tst : ∀ (B : Around) (s : Shared) (H : Hp) (A : Addr) (code : Value) (fp : List Addr) (pn : List (Addr × Obj)), Room k (B.deeper (gEnvOf X scope A code)) → DTs C (gCx X B s H (gEnvOf X scope A code) fp pn) W0 ifs ft)
    (el : ∀ (B : Around) (s : Shared) (H : Hp) (A : Addr) (code : Value) (fp : List Addr) (pn : List (Addr × Obj)), Room k (B.deeper (gEnvOf X scope A code)) → DP C (gCx X B s H (gEnvOf X scope A code) fp pn) W0 elt fe) :
    GenOk C X W k tg iter elt ifs scope own ts fi fg ft fe :=
  ⟨hr.mono hle, ⟨c, P, tb.tb, hcode, tb.mem, tb.uni⟩, hN, blkOk_by blk, tss, cell, dot, co, fold, it, tgt, tst, el⟩
end
/-- the slot ib holds nothing that one knows -/
def sUn (ib : Nat) (f : FS) : FS := fun ρ g => f (ρ.set ib none) g
section
variable {C : Cfg} {X : Cx} {W : WX} {ib : Nat} {ls ms : List LamI} {f : FS} {rest : List Stmt} {es : List Expr} {pos p pb lp bp : Pos} {bv : Str}
theorem bad_ (hN : X.N.Nodup) (hib : X.N[ib]? = some bv) (hx : X.env.scope.names.lookup bv = some .local) (hl : PA X es (tLams C X ls)) (hz : ls.length ≤ sizeLine) (hrest : DBd C X W ib ls rest f)
    (hs : swapsWith (.List es lp) (some (.Name bv p)) pos.line X.env = pure false := by rfl) : DB C X W (.Assign [.Name bv p] (.List es lp) pos :: rest) (sUn ib f) := db_bad hN hib (.inl hx) hl hz hrest hs (.inr hx)
theorem badm_ (hN : X.N.Nodup) (hib : X.N[ib]? = some bv) (hx : X.env.scope.names.lookup bv = some .local) (hl : PA X es (tLams C X ms)) (hz : (ls ++ ms).length ≤ sizeLine) (hrest : DBd C X W ib (ls ++ ms) rest f)
    (hs : swapsWith (.BinOp (.Name bv pb) .Add (.List es lp) bp) (some (.Name bv p)) pos.line X.env = pure false := by rfl) (hd : (bv == ("__debug__" : Str)) = false := by rfl) (hcd : (bv == ("__classdict__" : Str)) = false := by rfl) :
    DBd C X W ib ls (.Assign [.Name bv p] (.BinOp (.Name bv pb) .Add (.List es lp) bp) pos :: rest) (sUn ib f) := dbd_more hN hib (.inl hx) hl hz hrest hs (.inr hx) hd hcd
end
end Dl
namespace Dl
open PySem PySem.Spec PyProof.Rows L2 LamX
theorem oNe_same (w : Str) (hw : (PyData.str w).canLay0 = true) (g : G) : oNe (.str w) (.str w) g = .ok (.bl false) g := by
  have h : eqPy g (.str w) (.str w) = some true := by
    have hs : SeqAt.shaped (.str w) = true := by
      unfold SeqAt.shaped
      rw [hw]
      rfl
    show (if SeqAt.shaped (.str w) && SeqAt.shaped (.str w) then some (PyData.eqv (.str w) (.str w)) else none) = some true
    rw [hs]
    simp [PyData.eqv]
  unfold oNe
  rw [h]
  rfl
section
variable {C : Cfg} {X : Cx} {W : WX} {pos p : Pos} {c P : Addr} {k : Nat} {params : Arguments} {body : Expr} {scope : Scope}
theorem lk2_ {es : List Expr} {ls : List LamI} {lpos : Pos} (tb : TabsOk C X.base X.mg c P (X.env.qual ++ "<lambda>")) (hcode : X.env.code = .ref c) (L : lamSB X.env.scope scope = true) (h2 : PA X es (tLams C X ls)) (hdef : defaultsOf params X.env = ([], []) := by rfl)
    (hs : starEach (.Lambda params body scope lpos :: es) X.env = (false, eval (.Lambda params body scope lpos) X.env) :: starEach es X.env := by rfl) : PA X (.Lambda params body scope lpos :: es) (tLams C X (⟨params, body, scope⟩ :: ls)) :=
  lk_ (l := ⟨params, body, scope⟩) tb hcode L h2 hdef hs
theorem lo2_ {fb : FE} (L : lamSB X.env.scope scope = true)
    (h : ∀ (A : Around) (outer : List Env) (s : Shared) (H : Hp) (E : XK) (fl c' : Addr), Room k (A.deeper (lamEnv X scope s.heap.objs.size fl c')) → Takes (lamCx X A outer s H E scope fl c') (fun cls d _ H => E cls d H) →
      DP C (lamCx X A outer s H E scope fl c') (fun cls d _ H => E cls d H) body fb)
    (bind : ∀ (q : Str) (cl : List (Str × Addr)) (pm cv ctv : Value), bindArgs (PySem.W.kla_fn "<lambda>" q params body scope cl pm cv ctv) ⟨[], []⟩ = pure [] := by intros; rfl) : LamOk C X k ⟨params, body, scope⟩ fb := ⟨lamS_by L, bind, h⟩
end
end Dl
end
section
set_option Elab.async false
set_option linter.all false
set_option maxRecDepth 100000
set_option maxHeartbeats 1000000
namespace Dl
open PySem PySem.Spec PyProof.Rows L2
/-- the script as data: one of two readings -/
def scrD (d : D) (ns : List Int) : Prop := d = .scr ns ∨ d = .lst (ns.map D.int)
theorem repL_ints2 {K : PySem.W.Frag} {H : Hp} {ν μ : List Addr} (ns : List Int) : RepL K H ν μ (ns.map D.int) (ns.map V.int) := repL_ints ns
/-- the law's promise at the script -/
theorem spD_script {C : Cfg} {K : PySem.W.Frag} {f : FN} {H : Hp} {a : Addr} {ns : List Int} (hT : ∀ p ∈ C.tabs, H p.1 = some (.tbl #[])) (hS : SqL K H a (ns.map V.int)) (hf : ∀ d, scrD d ns → ∃ g, f [d] [] = .ok (.bl true) g) : spD C K 1 f [.ref a] H (fun v _ => v = .bl true) (fun _ _ _ => False) := by
  have R : RS C K H [] [] [] := ⟨rfl, .nil, (fun a h => by cases h), (fun a h => by cases h), (fun n u a e _ => by cases e), fun p hp => LamX.TabS.nil (hT p hp)⟩
  have fin : ∀ d, scrD d ns → RepD K H [] [] d (.ref a) → spD C K 1 f [.ref a] H (fun v _ => v = .bl true) (fun _ _ _ => False) := fun d hd r => by
    obtain ⟨g, e⟩ := hf d hd
    refine ⟨[d], [], [], [], rfl, ⟨_, [], rfl, r, rfl⟩, R, ?_⟩
    rw [e]
    intro v H' μ' _ _ rv
    exact rv
  rcases hS with h | h
  · rcases h with h | ⟨o, h⟩
    · exact fin (.lst (ns.map D.int)) (.inr rfl) ⟨a, _, rfl, h, by simp, by simp, repL_ints ns⟩
    · exact fin (.scr ns) (.inl rfl) ⟨a, rfl, .inl ⟨o, h, by simp, by simp⟩⟩
  · exact fin (.scr ns) (.inl rfl) ⟨a, rfl, .inr (.inr h)⟩
/-! ### a call without arguments begins with no mutable thing in sight -/
section
variable {K : PySem.W.Frag} {H : Hp} {ν μ μ' : List Addr}
mutual
theorem repD_pure : ∀ (d : D) {v : V}, pureD d = true → RepD K H ν μ d v → RepD K H ν μ' d v
  | .non, v, _, h => h
  | .bl b, v, _, h => h
  | .int i, v, _, h => h
  | .str s, v, _, h => h
  | .tup ds, v, p, h => by
    unfold RepD at h ⊢
    obtain ⟨a, xs, e, h1, h2⟩ := h
    unfold pureD at p
    exact ⟨a, xs, e, h1, repL_pure ds p h2⟩
  | .lst ds, v, p, h => by unfold pureD at p; cases p
  | .scr ns, v, p, h => by unfold pureD at p; cases p
  | .loc n, v, p, h => by unfold pureD at p; cases p
theorem repL_pure : ∀ (ds : List D) {vs : List V}, pureL ds = true → RepL K H ν μ ds vs → RepL K H ν μ' ds vs
  | [], vs, _, h => h
  | d :: ds, vs, p, h => by
    unfold RepL at h ⊢
    obtain ⟨v, r, e, h1, h2⟩ := h
    unfold pureL at p
    rw [Bool.and_eq_true] at p
    exact ⟨v, r, e, repD_pure d p.1 h1, repL_pure ds p.2 h2⟩
end
/-- what stood stays as it was -/
theorem RS.frame {C : Cfg} {H' : Hp} {μ1 : List Addr} {g g1 : G} (R : RS C K H ν μ g) (e : Ext H [] H' μ1) (R1 : RS C K H' ν μ1 g1) : Ext H μ H' μ ∧ RS C K H' ν μ g := by
  have k : ∀ b o, H b = some o → NTb o → H' b = some o := fun b o h n => e.kp b o h (.inl (by simp)) n
  have ex : Ext H μ H' μ := ⟨⟨[], by simp, by simp⟩, fun b o h _ n => k b o h n, e.dm⟩
  refine ⟨ex, R.len, R.nd, R.dj, fun a ha => ?_, fun n u a e1 e2 => ?_, R1.tb⟩
  · obtain ⟨xs, h, c⟩ := R.nv a ha
    exact ⟨xs, k _ _ h c.ntb, c⟩
  · have q := R.ob n u a e1 e2
    obtain ⟨w, hw, cw⟩ := q.ch
    exact q.mono ex.kp' (by rw [k _ _ hw cw.ntb, hw])
end
def fCall0F (fn : FN) : FE := fun _ g => match fn [] [] with
  | .ok d _ => if pureD d = true then .ok d g else .stuck
  | .err c _ => .err c g
  | .stuck => .stuck
theorem dp_cp0F {C : Cfg} {X : Cx} {W : WX} {pos p : Pos} {k k2 : Nat} {x : Str} {fn : FN} (F : Pm C X.prog X.w X.K X.mg X.base k x 0 fn) (hr : Room k2 X.A) (hle : k ≤ k2) (hg : Gl X x) (tk : Takes X W) (hdb : (x == ("__debug__" : Str)) = false := by rfl) : DP C X W (.Call (.Name x p) [] [] pos) (fCall0F fn) := by
  obtain ⟨f, fd, ps, h1, h2, h3, h4⟩ := F
  refine ⟨fun pins s σ H Q I ⟨ρ, ν, μ, g, hE, hR, hP⟩ => ?_⟩
  refine wpAny_Call_Name_kw (ld_glob I hg h2 ?_ hdb)
  have R0 : RS C X.K H ν [] [] := ⟨rfl, .nil, (fun a h => by simp), hR.nv, (fun n u a e _ => by cases e), hR.tb⟩
  refine PySem.W.callWith_K0 I.kIn h3 <| run_fnS (E := WE W) h1 (hr.mono hle) h4 (passAt tk σ) I .nil ⟨[], ν, [], [], rfl, rfl, R0, ?_⟩
  unfold fCall0F at hP
  cases hf : fn [] [] with
  | stuck => simp only [hf] at hP; exact hP.elim
  | err c g1 =>
    simp only [hf] at hP
    intro H' μ' e R1
    obtain ⟨e2, R2⟩ := hR.frame e R1
    exact hP H' μ e2 R2
  | ok d g1 =>
    simp only [hf] at hP
    split at hP
    · rename_i hp
      intro v H' μ' e R1 r1
      obtain ⟨e2, R2⟩ := hR.frame e R1
      exact hP v H' μ e2 R2 (repD_pure d hp r1)
    · exact hP.elim
end Dl
end
section
set_option Elab.async false
set_option linter.all false
set_option maxRecDepth 100000
set_option maxHeartbeats 1000000
namespace Dl
open PySem PySem.Spec PyProof.Rows L2
/-! ### a module's constants -/
def valsOf : List Value → Option (List V)
  | [] => some []
  | u :: r => match absV u, valsOf r with
    | some v, some vs => some (v :: vs)
    | _, _ => none
mutual
/-- the value stands for the data, by what the fragment keeps -/
def cstIn (K : PySem.W.Frag) : D → V → Bool
  | .non, .non => true
  | .bl b, .bl c => decide (b = c)
  | .int i, .int j => decide (i = j)
  | .str s, .str z => decide (s = z)
  | .tup ds, .ref a => match K.lookup a with
    | some ⟨.type t, _, .seq its n, _⟩ => decide (t = "tuple") && decide (its.size ≤ sizeLine) && (match valsOf its.toList with
      | some xs => cstInL K ds xs
      | none => false)
    | _ => false
  | _, _ => false
def cstInL (K : PySem.W.Frag) : List D → List V → Bool
  | [], vs => vs.isEmpty
  | d :: ds, v :: vs => cstIn K d v && cstInL K ds vs
  | _, _ => false
end
section
variable {K : PySem.W.Frag} {H : Hp} {ν μ : List Addr}
theorem absV_rel {u : Value} {v : V} (h : absV u = some v) : RelV v u := by
  cases u <;> simp [absV] at h <;> first | (subst h; first | rfl | exact ⟨_, rfl⟩) | skip
theorem valsOf_ok : ∀ {us : List Value} {vs : List V}, valsOf us = some vs → Vals vs us
  | [], vs, h => by cases h; exact .nil
  | u :: r, vs, h => by
    unfold valsOf at h
    split at h
    · rename_i v ws e1 e2
      cases h
      exact .cons (absV_rel e1) (valsOf_ok e2)
    · cases h
mutual
theorem cst_rep : ∀ (d : D) (v : V), cstIn K d v = true → RepD K H ν μ d v
  | .non, v, h => by
    cases v <;> first | rfl | (simp [cstIn] at h)
  | .bl b, v, h => by
    cases v <;> simp [cstIn] at h
    subst h; rfl
  | .int i, v, h => by
    cases v <;> simp [cstIn] at h
    subst h; rfl
  | .str i, v, h => by
    cases v <;> simp [cstIn] at h
    subst h; rfl
  | .tup ds, v, h => by
    cases v with
    | ref a =>
      unfold cstIn at h
      split at h
      · rename_i t dct its n sl e
        simp only [Bool.and_eq_true, decide_eq_true_eq] at h
        obtain ⟨⟨h1, h2⟩, h3⟩ := h
        split at h3
        · rename_i xs e2
          subst h1
          exact ⟨a, xs, rfl, .inr ⟨_, its, n, e, rfl, rfl, h2, valsOf_ok e2⟩, cst_repL ds xs h3⟩
        · cases h3
      · cases h
    | _ => simp [cstIn] at h
  | .lst ds, v, h => by simp [cstIn] at h
  | .scr ds, v, h => by simp [cstIn] at h
  | .loc ds, v, h => by simp [cstIn] at h
theorem cst_repL : ∀ (ds : List D) (vs : List V), cstInL K ds vs = true → RepL K H ν μ ds vs
  | [], vs, h => by
    cases vs with
    | nil => rfl
    | cons v r => simp [cstInL] at h
  | d :: ds, vs, h => by
    cases vs with
    | nil => simp [cstInL] at h
    | cons v r =>
      unfold cstInL at h
      rw [Bool.and_eq_true] at h
      exact ⟨v, r, rfl, cst_rep d v h.1, cst_repL ds r h.2⟩
end
/-- the name stands for the data in the module -/
def cstOk (K : PySem.W.Frag) (x : Str) (d : D) : Bool := match PySem.W.nsIn K mainGlobals x with
  | some (some u) => match absV u with
    | some v => cstIn K d v
    | none => false
  | _ => false
theorem cst_ok {h : Heap} {mg : Str → Option Value} (X : K.In h) (G : h.Ns mainGlobals mg) {x : Str} {d : D} (c : cstOk K x d = true) : ∃ u v, mg x = some u ∧ RelV v u ∧ cstIn K d v = true := by
  unfold cstOk at c
  split at c
  · rename_i u e
    split at c
    · rename_i v e2
      exact ⟨u, v, PySem.W.mg_of X G e, absV_rel e2, c⟩
    · cases c
  · cases c
end
section
variable {C : Cfg} {X : Cx} {W : WX} {pos : Pos}
theorem dp_cst {x : Str} {d : D} (hg : Gl X x) (hm : ∃ u v, X.mg x = some u ∧ RelV v u ∧ cstIn X.K d v = true) (hd : (x == ("__debug__" : Str)) = false := by rfl) : DP C X W (.Name x pos) (fC d) := by
  obtain ⟨u, v, h1, h2, h3⟩ := hm
  exact PE.imp (pe_glob hg h1 h2 hd) fun σ H Q ⟨ρ, ν, μ, g, hE, hR, hP⟩ => hP.here hR (cst_rep d v h3)
end
end Dl
end
section
set_option Elab.async false
set_option linter.all false
set_option maxRecDepth 100000
set_option maxHeartbeats 1000000
namespace Dl
open PySem PySem.Spec PyProof.Rows L2
/-! ### shifts -/
def oShl : F2
  | .int i, .int j, g => if 0 ≤ j ∧ j ≤ 1000000 ∧ i.natAbs < 2 ^ 64 then .ok (.int (i * 2 ^ j.toNat)) g else .stuck
  | _, _, _ => .stuck
def oShr : F2
  | .int i, .int j, g => if 0 ≤ j then .ok (.int (i / 2 ^ j.toNat)) g else .stuck
  | _, _, _ => .stuck
theorem oShl_n : NoErr oShl := noerr fun x y g c g' e => by unfold oShl at e; split at e <;> (repeat' (split at e)) <;> cases e
theorem oShr_n : NoErr oShr := noerr fun x y g c g' e => by unfold oShr at e; split at e <;> (repeat' (split at e)) <;> cases e
section
variable {C : Cfg} {X : Cx}
theorem oShl_ok : OpR X (binaryOp .LShift) (rD C X.K oShl) := by
  intro pins s σ H x y v u Q I rx ry h
  obtain ⟨dx, dy, ν, μ, g, R, r1, r2, hP⟩ := h
  have hP := hP (fun _ _ _ _ => False) σ
  unfold oShl at hP
  split at hP
  · obtain rfl : x = .int _ := r1
    obtain rfl : y = .int _ := r2
    split at hP
    · rename_i hm
      exact op_shl pins s σ H _ _ v u Q I rx ry ⟨_, _, rfl, rfl, hm, hP.here R (rInt _)⟩
    · exact hP.elim
  · exact hP.elim
theorem oShr_ok : OpR X (binaryOp .RShift) (rD C X.K oShr) := by
  intro pins s σ H x y v u Q I rx ry h
  obtain ⟨dx, dy, ν, μ, g, R, r1, r2, hP⟩ := h
  have hP := hP (fun _ _ _ _ => False) σ
  unfold oShr at hP
  split at hP
  · obtain rfl : x = .int _ := r1
    obtain rfl : y = .int _ := r2
    split at hP
    · rename_i hm
      exact op_shr pins s σ H _ _ v u Q I rx ry ⟨_, _, rfl, rfl, hm, hP.here R (rInt _)⟩
    · exact hP.elim
  · exact hP.elim
end
end Dl
end
section
set_option Elab.async false
set_option linter.all false
set_option maxRecDepth 100000
set_option maxHeartbeats 1000000
namespace Dl
open PySem PySem.Spec PyProof.Rows L2
/-! ### a.join(texts) -/
def strsOf : List D → Option (List Str)
  | [] => some []
  | .str i :: r => (strsOf r).map (i :: ·)
  | _ :: _ => none
theorem strsOf_rd {K : PySem.W.Frag} {H : Hp} {ν μ : List Addr} : ∀ {ds : List D} {xs : List V} {ns : List Str}, RepL K H ν μ ds xs → strsOf ds = some ns → xs = ns.map V.str
  | [], xs, ns, r, e => by unfold RepL at r; subst r; unfold strsOf at e; cases e; rfl
  | d :: ds, xs, ns, r, e => by
    unfold RepL at r
    obtain ⟨v, q, rfl, r1, r2⟩ := r
    unfold strsOf at e
    split at e
    · rename_i h; cases h
    · rename_i i r' h
      cases h
      cases hq : strsOf ds with
      | none => rw [hq] at e; cases e
      | some ms =>
        rw [hq] at e; cases e
        obtain rfl : v = .str _ := r1
        rw [strsOf_rd r2 hq]; rfl
    · cases e
theorem strsOf_map : ∀ ns : List Str, strsOf (ns.map D.str) = some ns
  | [] => rfl
  | n :: ns => by simp [strsOf, strsOf_map ns]
def mJoin : FM
  | .str a, [d], g => match (seqOf g d).bind strsOf with
    | some ys => if (ys.map (·.length)).sum + ys.length * a.length ≤ 16777216 then .ok (.str (Txt.join a ys)) g else .stuck
    | none => .stuck
  | _, _, _ => .stuck
theorem mJoin_n : NoErrM mJoin := fun x xs g c g' e => by unfold mJoin at e; split at e <;> (repeat' (split at e)) <;> cases e
theorem mJoin_ok {C : Cfg} {X : Cx} : MtR X "str.join" (rM C X.K mJoin) := by
  intro pins s σ H x vs v us Q I rx rv h
  obtain ⟨dx, ds, ν, μ, g, R, r1, r2, hP⟩ := h
  have hP := hP (fun _ _ _ _ => False) σ
  unfold mJoin at hP
  split at hP
  · obtain rfl : x = .str _ := r1
    obtain ⟨w, rfl, r3⟩ := rL1 r2
    split at hP
    · rename_i ys e
      split at hP
      · rename_i hl
        rename_i d _ _
        cases hs : seqOf g d with
        | none => rw [hs] at e; cases e
        | some es =>
          rw [hs] at e
          obtain ⟨p, xs, rfl, h1, h2⟩ := seq_rd R r3 hs
          have := strsOf_rd h2 e
          subst this
          exact mt_join pins s σ H _ _ v us Q I rx rv ⟨_, p, ys, rfl, rfl, h1, hl, hP.here R (rStr _)⟩
      · exact hP.elim
    · exact hP.elim
  · exact hP.elim
end Dl
end
section
set_option Elab.async false
set_option linter.all false
set_option maxRecDepth 100000
set_option maxHeartbeats 1000000
namespace Dl
open PySem PySem.Spec PyProof.Rows L2
/-! ### a.lstrip(signs) -/
def mLstrip : FM
  | .str a, [.str b], g => if a.length ≤ sizeLine then .ok (.str (Txt.lstripChars a b)) g else .stuck
  | _, _, _ => .stuck
theorem mLstrip_n : NoErrM mLstrip := fun x xs g c g' e => by unfold mLstrip at e; split at e <;> (repeat' (split at e)) <;> cases e
theorem mLstrip_ok {C : Cfg} {X : Cx} : MtR X "str.lstrip" (rM C X.K mLstrip) := by
  intro pins s σ H x vs v us Q I rx rv h
  obtain ⟨dx, ds, ν, μ, g, R, r1, r2, hP⟩ := h
  have hP := hP (fun _ _ _ _ => False) σ
  unfold mLstrip at hP
  split at hP
  · obtain rfl : x = .str _ := r1
    obtain ⟨w, rfl, r3⟩ := rL1 r2
    obtain rfl : w = .str _ := r3
    split at hP
    · rename_i hl
      exact mt_lstripChars pins s σ H _ _ v us Q I rx rv ⟨_, _, rfl, rfl, hl, hP.here R (rStr _)⟩
    · exact hP.elim
  · exact hP.elim
end Dl
end
section
set_option Elab.async false
set_option linter.all false
set_option maxRecDepth 100000
set_option maxHeartbeats 1000000
namespace Dl
open PySem PySem.Spec PyProof.Rows L2
/-! ### dictionaries in the making -/
def keyD : D → Option Key
  | .int i => some (.inl i)
  | .str s => some (.inr s)
  | _ => none
def putD {κ : Type} [DecidableEq κ] (kvs : List (κ × D)) (k : κ) (d : D) : List (κ × D) :=
  if (kvs.any fun kv => decide (kv.1 = k)) = true then kvs.map (fun kv => if kv.1 = k then (kv.1, d) else kv) else kvs ++ [(k, d)]
section
variable {C : Cfg} {K : PySem.W.Frag} {H H' H0 : Hp} {ν μ μ' μ0 : List Addr} {g : G} {a D₀ : Addr}
theorem keyD_rd {d : D} {v : V} {k : Key} (r : RepD K H ν μ d v) (e : keyD d = some k) : v = kV k := by
  unfold keyD at e
  split at e
  · cases e; exact r
  · cases e; exact r
  · cases e
theorem RepKV.any {κ : Type} [DecidableEq κ] {k : κ} : ∀ {kvs : List (κ × D)} {xs : List (κ × V)}, RepKV K H ν μ kvs xs → (kvs.any fun kv => decide (kv.1 = k)) = (xs.any fun kv => decide (kv.1 = k))
  | [], xs, h => by unfold RepKV at h; subst h; rfl
  | (q, d) :: r, xs, h => by
    unfold RepKV at h
    obtain ⟨v, r', rfl, h1, h2⟩ := h
    simp only [List.any_cons]
    rw [RepKV.any h2]
theorem RepKV.map {κ : Type} [DecidableEq κ] {k : κ} {d : D} {v : V} (rd : RepD K H ν μ d v) : ∀ {kvs : List (κ × D)} {xs : List (κ × V)}, RepKV K H ν μ kvs xs → RepKV K H ν μ (kvs.map fun kv => if kv.1 = k then (kv.1, d) else kv) (xs.map fun kv => if kv.1 = k then (kv.1, v) else kv)
  | [], xs, h => by unfold RepKV at h; subst h; rfl
  | (q, e) :: r, xs, h => by
    unfold RepKV at h
    obtain ⟨w, r', rfl, h1, h2⟩ := h
    simp only [List.map_cons]
    by_cases z : q = k
    · rw [if_pos z, if_pos z]
      exact ⟨v, _, rfl, rd, RepKV.map rd h2⟩
    · rw [if_neg z, if_neg z]
      exact ⟨w, _, rfl, h1, RepKV.map rd h2⟩
theorem RepKV.snoc {κ : Type} {k : κ} {d : D} {v : V} (rd : RepD K H ν μ d v) : ∀ {kvs : List (κ × D)} {xs : List (κ × V)}, RepKV K H ν μ kvs xs → RepKV K H ν μ (kvs ++ [(k, d)]) (xs ++ [(k, v)])
  | [], xs, h => by unfold RepKV at h; subst h; exact ⟨v, [], rfl, rd, rfl⟩
  | (q, e) :: r, xs, h => by
    unfold RepKV at h
    obtain ⟨w, r', rfl, h1, h2⟩ := h
    exact ⟨w, _, rfl, h1, RepKV.snoc rd h2⟩
theorem RepKV.put {κ : Type} [DecidableEq κ] {k : κ} {d : D} {v : V} {kvs : List (κ × D)} {xs : List (κ × V)} (h : RepKV K H ν μ kvs xs) (rd : RepD K H ν μ d v) : RepKV K H ν μ (putD kvs k d) (putK xs k v) := by
  unfold putD putK
  rw [RepKV.any (k := k) h]
  split
  · exact RepKV.map rd h
  · exact RepKV.snoc rd h
theorem RepKV.len {κ : Type} : ∀ {kvs : List (κ × D)} {xs : List (κ × V)}, RepKV K H ν μ kvs xs → kvs.length = xs.length
  | [], xs, h => by unfold RepKV at h; subst h; rfl
  | (q, e) :: r, xs, h => by
    unfold RepKV at h
    obtain ⟨w, r', rfl, h1, h2⟩ := h
    simp [RepKV.len h2]
theorem putD_len {κ : Type} [DecidableEq κ] (kvs : List (κ × D)) (k : κ) (d : D) : (putD kvs k d).length ≤ kvs.length + 1 := by
  unfold putD
  split
  · rw [List.length_map]; omega
  · simp
theorem RS.banK {xs : List (Key × V)} (R : RS C K H ν μ g) (hn : H D₀ = none) : RS C K (upd H D₀ (.dK xs)) (D₀ :: ν) μ g := by
  obtain ⟨R', ex⟩ := R.new (o := .dK xs) hn
  refine ⟨R.len, R.nd, fun a ha => ?_, fun a ha => ?_, fun n u a e1 e2 => ?_, R'.tb⟩
  · rcases List.mem_cons.mp ha with z | z
    · subst z
      intro q
      obtain ⟨u, e, _⟩ := R.inμ q
      rw [hn] at e; cases e
    · exact R.dj a z
  · rcases List.mem_cons.mp ha with z | z
    · subst z; exact ⟨_, upd_same, trivial⟩
    · exact R'.nv a z
  · have q := R.ob n u a e1 e2
    obtain ⟨w, hw, _⟩ := q.ch
    exact (q.more hn).mono ex.kp' (upd_ne fun z => by rw [z, hn] at hw; cases hw)
theorem RS.shiftK {kvs : List (Key × D)} {xs : List (Key × V)} (R : RS C K H (D₀ :: ν) μ g) (nn : D₀ ∉ ν) (hD : H D₀ = some (.dK xs)) (r : RepKV K H (D₀ :: ν) μ kvs xs) : RS C K H ν (μ ++ [D₀]) (g ++ [O.dic kvs]) := by
  have nμ : D₀ ∉ μ := R.dj D₀ List.mem_cons_self
  refine ⟨by simp [R.len], List.nodup_append.mpr ⟨R.nd, by simp, fun a ha b hb z => ?_⟩, fun a ha z => ?_, fun a ha => R.nv a (List.mem_cons_of_mem _ ha), fun n u a e1 e2 => ?_, R.tb⟩
  · have : b = D₀ := by simpa using hb
    subst this; subst z; exact nμ ha
  · rcases List.mem_append.mp z with z | z
    · exact R.dj a (List.mem_cons_of_mem _ ha) z
    · have : a = D₀ := by simpa using z
      subst this; exact nn ha
  · by_cases hn : n < g.length
    · rw [List.getElem?_append_left hn] at e1
      rw [List.getElem?_append_left (by rw [R.len]; exact hn)] at e2
      exact (R.ob n u a e1 e2).shift
    · rw [List.getElem?_append_right (by omega)] at e1
      rw [List.getElem?_append_right (by rw [R.len]; omega), R.len] at e2
      cases hj : n - g.length with
      | zero =>
        rw [hj] at e1 e2
        simp at e1 e2
        subst e1; subst e2
        exact ⟨xs, hD, RepKV.shift r⟩
      | succ j => rw [hj] at e1; simp at e1
theorem kp_bwriteK {xs ys : List (Key × V)} (h : H D₀ = some (.dK xs)) : Kp (D₀ :: ν) H μ (upd H D₀ (.dK ys)) μ := ⟨⟨[], by simp, by simp⟩, fun b o e c _ => by
  rw [upd_ne fun z => ?_]; exact e
  rcases c with c | c
  · exact c.2 (by rw [z]; exact List.mem_cons_self)
  · rw [z, h] at e; cases e
    rcases c with ⟨_, c⟩ | ⟨_, _, c⟩ <;> cases c⟩
theorem RS.bwriteK {xs ys : List (Key × V)} (R : RS C K H (D₀ :: ν) μ g) (h : H D₀ = some (.dK xs)) : RS C K (upd H D₀ (.dK ys)) (D₀ :: ν) μ g := by
  have k : Kp (D₀ :: ν) H μ (upd H D₀ (.dK ys)) μ := kp_bwriteK h
  refine ⟨R.len, R.nd, R.dj, fun a ha => ?_, fun n u a e1 e2 => ?_, tabs_of R.tb fun b u e nc => ?_⟩
  · by_cases z : a = D₀
    · subst z; exact ⟨_, upd_same, trivial⟩
    · rw [upd_ne z]; exact R.nv a ha
  · exact (R.ob n u a e1 e2).mono k (upd_ne fun z => R.dj D₀ List.mem_cons_self (by rw [← z]; exact List.mem_of_getElem? e2))
  · rw [upd_ne fun z => by rw [z, h] at e; cases e; exact nc trivial]; exact e
end
end Dl
end
section
set_option Elab.async false
set_option linter.all false
set_option maxRecDepth 100000
set_option maxHeartbeats 1000000
namespace Dl
open PySem PySem.Spec PyProof.Rows L2
section
variable {C : Cfg} {X : Cx} {W : WX} {e a b c o tg elt iter kx vx : Expr} {es rest ifs : List Expr} {f fa fb fc fe fk : FE} {fes : FA} {ft : FT} {pos p : Pos} {fi : FI} {fg : FG}
/-- what a dictionary comprehension makes of the items -/
def dcD (vs : List Nat) (fg : FG) (ft : FT) (fk fe : FE) (ρ : Env') : List (Key × D) → List D → G → Res (List (Key × D))
  | acc, [], g => .ok acc g
  | acc, d :: r, g => match fg d (wipeD ρ vs) g with
    | .ok ρ1 g1 => match ft ρ1 g1 with
      | .ok true g2 => match fk ρ1 g2 with
        | .ok k g3 => match fe ρ1 g3 with
          | .ok y g4 => match keyD k with
            | some kk => dcD vs fg ft fk fe ρ (putD acc kk y) r g4
            | none => .stuck
          | _ => .stuck
        | _ => .stuck
      | .ok false g2 => dcD vs fg ft fk fe ρ acc r g2
      | _ => .stuck
    | _ => .stuck
def fDc (vs : List Nat) (fi : FI) (fg : FG) (ft : FT) (fk fe : FE) : FE := fun ρ g => (fi ρ g).bind fun items g1 => if items.length ≤ sizeLine then (dcD vs fg ft fk fe ρ [] items g1).bind fun kvs g2 => .ok (.loc g2.length) (g2 ++ [O.dic kvs]) else .stuck
theorem dcEnd (C : Cfg) (K : PySem.W.Frag) (W : WX) (σ : L2.St) (H0 H : Hp) (ν μ0 μ : List Addr) (g : G) (D₀ : Addr) (acc : List (Key × D)) (xs : List (Key × V)) (Q : VK)
    (h0 : H0 D₀ = none) (R : RS C K H (D₀ :: ν) μ g) (ex : Ext H0 μ0 H μ) (nn : D₀ ∉ ν) (hD : H D₀ = some (.dK xs)) (r : RepKV K H (D₀ :: ν) μ acc xs) (hP : Post C K W σ H0 ν μ0 (.ok (.loc g.length) (g ++ [O.dic acc])) Q) : Q (.ref D₀) H := by
  have nμ := R.dj D₀ List.mem_cons_self
  obtain ⟨more, em, hm⟩ := ex.mu
  refine hP _ H (μ ++ [D₀]) ⟨⟨more ++ [D₀], by rw [em, List.append_assoc], fun a ha => ?_⟩, ex.kp, ex.dm⟩ (R.shiftK nn hD r) ⟨D₀, rfl, ?_⟩
  · rcases List.mem_append.mp ha with z | z
    · exact hm a z
    · have : a = D₀ := by simpa using z
      rw [this]; exact free_none h0
  · rw [← R.len, List.getElem?_append_right (Nat.le_refl _)]
    simp
theorem ntb_dK {xs : List (Key × V)} : NTb (.dK xs) := fun ps z => by cases z
theorem dc_of {K : PySem.W.Frag} {ts vs : List Nat} {σ : L2.St} {H : Hp} {Q : VK} (hts : ∀ i ∈ ts, i ∈ vs) (h : tD C K W (fDc vs fi fg ft fk fe) σ H Q) :
    tDc (tI C K W fi) (tGt C K W0 ts fg) (tT C K W0 ft) (tD C K W0 fk) (tD C K W0 fe) vs σ H Q := by
  obtain ⟨ρ, ν, μ, g, hE, hR, hP⟩ := h
  refine ⟨ρ, ν, μ, g, hE, hR, ?_⟩
  unfold fDc at hP
  cases hf : fi ρ g with
  | err c g1 => simp only [hf, Res.bind] at hP; exact hP
  | stuck => simp only [hf, Res.bind] at hP; exact hP
  | ok items g1 =>
    simp only [hf, Res.bind] at hP
    by_cases hsz : items.length ≤ sizeLine
    case neg => rw [if_neg hsz] at hP; exact hP.elim
    rw [if_pos hsz] at hP
    intro J H1 μ1 ex1 R1 hY D₀ hD
    have hP1 := hP.ext ex1
    have hE1 := (hE.mono ex1.kp').more hD
    have nν : D₀ ∉ ν := fun z => by
      obtain ⟨xs, e, _⟩ := R1.nv D₀ z
      rw [hD] at e; cases e
    obtain ⟨_, exD⟩ := R1.new (o := .dK []) hD
    refine ⟨fun i m H => i ≤ items.length ∧ m = items.length - i ∧ ∃ μ g acc xs, RS C K H (D₀ :: ν) μ g ∧ Ext H1 μ1 H μ ∧ H D₀ = some (.dK xs) ∧ RepKV K H (D₀ :: ν) μ acc xs ∧ acc.length ≤ i ∧
        Post C K W σ H1 ν μ1 ((dcD vs fg ft fk fe ρ acc (items.drop i) g).bind fun kvs g' => .ok (.loc g'.length) (g' ++ [O.dic kvs])) Q,
      ⟨items.length, Nat.zero_le _, rfl, μ1, g1, [], [], R1.banK hD, exD, upd_same, rfl, Nat.le_refl _, by
        rw [List.drop_zero]
        exact hP1⟩, ?_⟩
    rintro i m H2 ⟨hi1, rfl, μ2, g2, acc, xs, R2, ex2, hD2, rA, hA, hP2⟩
    obtain ⟨y1, y2⟩ := hY i H2 ex2.kp
    by_cases hlt : i < items.length
    · right
      obtain ⟨hgo, hyl⟩ := y1 items[i] (by simp [hlt])
      rw [List.drop_eq_getElem_cons hlt] at hP2
      refine ⟨hgo, fun H' => ∃ μ g acc xs, RS C K H' (D₀ :: ν) μ g ∧ Ext H1 μ1 H' μ ∧ H' D₀ = some (.dK xs) ∧ RepKV K H' (D₀ :: ν) μ acc xs ∧ acc.length ≤ i + 1 ∧
          Post C K W σ H1 ν μ1 ((dcD vs fg ft fk fe ρ acc (items.drop (i + 1)) g).bind fun kvs g' => .ok (.loc g'.length) (g' ++ [O.dic kvs])) Q,
        fun H' ⟨μ', g', acc', xs', b1, b2, b3, b4, b5, b6⟩ => ⟨items.length - (i + 1), by omega, hlt, rfl, μ', g', acc', xs', b1, b2, b3, b4, b5, b6⟩, fun x H' hy => ?_⟩
      have hz := hyl x H' hy
      obtain ⟨e1, R3, r3⟩ := came ex2 R2 (d := items[i]) (x := x) (hz.imp (fun z => ⟨z.1, RepD.more hD _ z.2⟩) fun ⟨T, ps, dps, z1, z2, z3, z4, z5⟩ => ⟨T, ps, dps, z1, z2, z3, z4, RepL.more hD _ z5⟩)
      have ex3 := ex2.trans e1
      have nμ2 : D₀ ∉ μ2 := R2.dj D₀ List.mem_cons_self
      have hE3 := (hE1.mono ex3.kp').wipe vs
      refine ⟨items[i], wipeD ρ vs, D₀ :: ν, μ2, g2, hE3, R3, r3, ?_⟩
      unfold dcD at hP2
      cases hfg : fg items[i] (wipeD ρ vs) g2 with
      | err c g4 => simp only [hfg, Res.bind] at hP2; exact hP2.elim
      | stuck => simp only [hfg, Res.bind] at hP2; exact hP2
      | ok ρ4 g4 =>
        simp only [hfg] at hP2 ⊢
        intro σ4 H4 μ4 ex4 R4 hE4 w4
        refine ⟨(w4 vs hts).trans (wipe_idem vs), ρ4, D₀ :: ν, μ4, g4, hE4, R4, ?_⟩
        have nμ4 : D₀ ∉ μ4 := R4.dj D₀ List.mem_cons_self
        have hD3 := e1.kp _ _ hD2 (.inl nμ2) ntb_dK
        have hD4 := ex4.kp _ _ hD3 (.inl nμ2) ntb_dK
        cases hft : ft ρ4 g4 with
        | err c g5 => simp only [hft, Res.bind] at hP2; exact hP2.elim
        | stuck => simp only [hft, Res.bind] at hP2; exact hP2
        | ok bb g5 =>
          intro H5 μ5 ex5 R5
          have hD5 := ex5.kp _ _ hD4 (.inl nμ4) ntb_dK
          have ex5' := (ex3.trans ex4).trans ex5
          have rA5 := RepKV.mono ((e1.trans ex4).trans ex5).kp' rA
          cases bb with
          | false =>
            simp only [hft] at hP2
            rw [if_neg (by decide)]
            exact ⟨μ5, g5, acc, xs, R5, ex5', hD5, rA5, Nat.le_succ_of_le hA, hP2⟩
          | true =>
            simp only [hft] at hP2
            rw [if_pos rfl]
            refine ⟨ρ4, D₀ :: ν, μ5, g5, hE4.mono ex5.kp', R5, ?_⟩
            cases hfk : fk ρ4 g5 with
            | err c g6 => simp only [hfk, Res.bind] at hP2; exact hP2.elim
            | stuck => simp only [hfk, Res.bind] at hP2; exact hP2
            | ok k g6 =>
              simp only [hfk] at hP2
              intro kv H6 μ6 ex6 R6 r6
              have nμ5 : D₀ ∉ μ5 := R5.dj D₀ List.mem_cons_self
              have hD6 := ex6.kp _ _ hD5 (.inl nμ5) ntb_dK
              have rA6 := RepKV.mono ex6.kp' rA5
              have ex6' := ex5'.trans ex6
              refine ⟨ρ4, D₀ :: ν, μ6, g6, (hE4.mono ex5.kp').mono ex6.kp', R6, ?_⟩
              cases hfe : fe ρ4 g6 with
              | err c g7 => simp only [hfe, Res.bind] at hP2; exact hP2.elim
              | stuck => simp only [hfe, Res.bind] at hP2; exact hP2
              | ok y g7 =>
                simp only [hfe] at hP2
                cases hk : keyD k with
                | none => simp only [hk, Res.bind] at hP2; exact hP2.elim
                | some kk =>
                  simp only [hk] at hP2
                  intro yv H7 μ7 ex7 R7 r7
                  have nμ6 : D₀ ∉ μ6 := R6.dj D₀ List.mem_cons_self
                  have hD7 := ex7.kp _ _ hD6 (.inl nμ6) ntb_dK
                  have rA7 := RepKV.mono ex7.kp' rA6
                  have ex7' := ex6'.trans ex7
                  have kp : Kp (D₀ :: ν) H7 μ7 (upd H7 D₀ (.dK (putK xs kk yv))) μ7 := kp_bwriteK hD7
                  have lA := RepKV.len rA7
                  refine ⟨xs, kk, keyD_rd r6 hk, hD7, by omega, μ7, g7, putD acc kk y, putK xs kk yv, R7.bwriteK hD7, ?_, upd_same, RepKV.mono kp (RepKV.put rA7 r7), Nat.le_trans (putD_len _ _ _) (by omega), hP2⟩
                  refine ⟨ex7'.mu, fun b o e c n => ?_, fun b o e n => ?_⟩
                  · rw [upd_ne fun z => by rw [z, hD] at e; cases e]
                    exact ex7'.kp b o e c n
                  · obtain ⟨o', e1, e2⟩ := ex7'.dm b o e n
                    exact ⟨o', by rw [upd_ne fun z => by rw [z, hD] at e; cases e]; exact e1, e2⟩
    · left
      refine ⟨y2 (by omega), ?_⟩
      rw [List.drop_eq_nil_of_le (by omega)] at hP2
      unfold dcD at hP2
      simp only [Res.bind] at hP2
      exact dcEnd C K W σ H1 H2 ν μ1 μ2 g2 D₀ acc xs Q hD R2 ex2 nν hD2 rA hP2
end
end Dl
end
section
set_option Elab.async false
set_option linter.all false
set_option maxRecDepth 100000
set_option maxHeartbeats 1000000
namespace Dl
open PySem PySem.Spec PyProof.Rows L2
section
variable {C : Cfg} {X : Cx} {W : WX} {e a b c o tg elt iter kx vx : Expr} {es rest ifs : List Expr} {f fa fb fc fe fk : FE} {fes : FA} {ft : FT} {pos p : Pos} {fi : FI} {fg : FG} {scope : Scope} {own : List (Str × Nat)} {ts sl : List Nat}
theorem dc_ (hsl : own.map (·.2) = sl) (hc : X.calm = true) (hN : X.N.Nodup) (hi : DI C X W tg iter fi) (ok : blkC X.N X.env.scope scope own = true) (hts : ∀ i ∈ ts, i ∈ sl)
    (hg : ∀ (s : Shared) (H : Hp) (A : Addr) (cl : List (Str × Addr)) (fp : List Addr), DG C (X.blk s H scope (compEnvC scope cl A X.env) fp) W0 tg ts fg)
    (ht : ∀ (s : Shared) (H : Hp) (A : Addr) (cl : List (Str × Addr)) (fp : List Addr), DTs C (X.blk s H scope (compEnvC scope cl A X.env) fp) W0 ifs ft)
    (hk : ∀ (s : Shared) (H : Hp) (A : Addr) (cl : List (Str × Addr)) (fp : List Addr), DP C (X.blk s H scope (compEnvC scope cl A X.env) fp) W0 kx fk)
    (he : ∀ (s : Shared) (H : Hp) (A : Addr) (cl : List (Str × Addr)) (fp : List Addr), DP C (X.blk s H scope (compEnvC scope cl A X.env) fp) W0 vx fe)
    (hs : ∀ x, foldedSetIterable iter X.env x = pure x := by intro _; rfl) : DP C X W (.DictComp kx vx [⟨tg, iter, ifs, 0⟩] scope pos) (fDc sl fi fg ft fk fe) := by
  subst hsl
  exact PE.imp (pe_dc (g := tGt C X.K W0 ts fg) (tt := tT C X.K W0 ft) (tk := tD C X.K W0 fk) (tv := tD C X.K W0 fe) hc hN hi (blkOk_by ok) hg ht hk he hs) fun σ H Q h => dc_of hts h
end
/-! ### x in y, y a dictionary too -/
def dicAt (g : G) : D → Option (List (Key × D))
  | .loc n => match g[n]? with
    | some (.dic kvs) => some kvs
    | _ => none
  | _ => none
def hasK {κ : Type} [DecidableEq κ] (kvs : List (κ × D)) (k : κ) : Bool := kvs.any fun kv => decide (kv.1 = k)
def oInK : F2 := fun x y g => match dicAt g y with
  | some kvs => match keyD x with
    | some k => .ok (.bl (hasK kvs k)) g
    | none => .stuck
  | none => oIn x y g
def oNInK : F2 := fun x y g => match dicAt g y with
  | some kvs => match keyD x with
    | some k => .ok (.bl (!hasK kvs k)) g
    | none => .stuck
  | none => oNIn x y g
theorem oInK_n : NoErr oInK := fun x y g c g' e => by
  unfold oInK at e
  split at e
  · split at e <;> cases e
  · exact oIn_n _ _ _ _ _ e
theorem oNInK_n : NoErr oNInK := fun x y g c g' e => by
  unfold oNInK at e
  split at e
  · split at e <;> cases e
  · exact oNIn_n _ _ _ _ _ e
theorem dicAt_rd {C : Cfg} {K : PySem.W.Frag} {H : Hp} {ν μ : List Addr} {g : G} {d : D} {v : V} {kvs : List (Key × D)} (R : RS C K H ν μ g) (r : RepD K H ν μ d v) (e : dicAt g d = some kvs) :
    ∃ n a xs, d = .loc n ∧ v = .ref a ∧ μ[n]? = some a ∧ g[n]? = some (.dic kvs) ∧ H a = some (.dK xs) ∧ RepKV K H ν μ kvs xs := by
  unfold dicAt at e
  split at e
  · split at e
    · rename_i n _ _ h
      cases e
      obtain ⟨a, rfl, ha⟩ := r
      obtain ⟨xs, h1, h2⟩ : ∃ xs, H a = some (.dK xs) ∧ RepKV K H ν μ kvs xs := R.ob n _ a h ha
      exact ⟨n, a, xs, rfl, rfl, ha, h, h1, h2⟩
    · cases e
  · cases e
theorem dicAt_get {C : Cfg} {K : PySem.W.Frag} {H : Hp} {ν μ : List Addr} {g : G} {d x : D} {v y : V} {kvs : List (Key × D)} {k : Key} (R : RS C K H ν μ g) (r : RepD K H ν μ d v) (rx : RepD K H ν μ x y) (e : dicAt g d = some kvs) (ek : keyD x = some k) :
    ∃ a ov, v = .ref a ∧ DGet H a y ov ∧ hasK kvs k = ov.isSome := by
  obtain ⟨n, a, xs, rfl, rfl, ha, h, h1, h2⟩ := dicAt_rd R r e
  refine ⟨a, valV xs k, rfl, ?_, ?_⟩
  · rw [keyD_rd rx ek]; exact DGet.k h1
  · unfold hasK
    rw [RepKV.any h2, valV_any]
section
variable {C : Cfg} {X : Cx}
theorem oInK_ok (hu : X.A.units + 65 < cLine) : OpR X (compareOp .In) (rD C X.K oInK) := by
  intro pins s σ H x y v u Q I rx ry h
  obtain ⟨dx, dy, ν, μ, g, R, r1, r2, hP⟩ := h
  cases e : dicAt g dy with
  | none => exact oIn_ok hu pins s σ H x y v u Q I rx ry ⟨dx, dy, ν, μ, g, R, r1, r2, by unfold oInK at hP; rw [e] at hP; exact hP⟩
  | some kvs =>
    have hP := hP (fun _ _ _ _ => False) σ
    unfold oInK at hP
    rw [e] at hP
    dsimp only at hP
    split at hP
    · rename_i k ek
      obtain ⟨a, ov, rfl, hg, hh⟩ := dicAt_get R r2 r1 e ek
      obtain rfl : u = Value.ref a := ry
      exact d_in (by omega) I hg rx fun s3 I3 => ⟨.bl ov.isSome, H, I3, rfl, by rw [← hh]; exact hP.here R (rBl _)⟩
    · exact hP.elim
theorem oNInK_ok (hu : X.A.units + 65 < cLine) : OpR X (compareOp .NotIn) (rD C X.K oNInK) := by
  intro pins s σ H x y v u Q I rx ry h
  obtain ⟨dx, dy, ν, μ, g, R, r1, r2, hP⟩ := h
  cases e : dicAt g dy with
  | none => exact oNIn_ok hu pins s σ H x y v u Q I rx ry ⟨dx, dy, ν, μ, g, R, r1, r2, by unfold oNInK at hP; rw [e] at hP; exact hP⟩
  | some kvs =>
    have hP := hP (fun _ _ _ _ => False) σ
    unfold oNInK at hP
    rw [e] at hP
    dsimp only at hP
    split at hP
    · rename_i k ek
      obtain ⟨a, ov, rfl, hg, hh⟩ := dicAt_get R r2 r1 e ek
      obtain rfl : u = Value.ref a := ry
      exact d_notIn (by omega) I hg rx fun s3 I3 => ⟨.bl (!ov.isSome), H, I3, rfl, by rw [← hh]; exact hP.here R (rBl _)⟩
    · exact hP.elim
end
end Dl
end
section
set_option Elab.async false
set_option linter.all false
set_option maxRecDepth 100000
set_option maxHeartbeats 1000000
namespace Dl
open PySem PySem.Spec PyProof.Rows L2
/-! ### min, max of data; sum of lists -/
def minDD (x : D) (xs : List D) : D := xs.foldl (fun a y => if PySem.W.dataLt (encD y) (encD a) = true then y else a) x
def maxDD (x : D) (xs : List D) : D := xs.foldl (fun a y => if PySem.W.dataLt (encD a) (encD y) = true then y else a) x
def someD : D → Bool
  | .non => false
  | .scr _ => false
  | .loc _ => false
  | _ => true
def mmOk (ds : List D) : Bool := pureL ds && (ds.all fun d => ds.all fun e => PySem.W.alike (encD d) (encD e)) && ds.all someD && decide (PyData.depthAll (encL ds) ≤ 100)
theorem mm_like {ds : List D} (h : mmOk ds = true) : PySem.W.AlikeAll (encL ds) ∧ pureL ds = true ∧ PyData.depthAll (encL ds) ≤ 100 := by
  unfold mmOk at h
  simp only [Bool.and_eq_true, decide_eq_true_eq] at h
  obtain ⟨⟨⟨h1, h2⟩, h3⟩, h4⟩ := h
  refine ⟨⟨fun x hx y hy => ?_, fun x hx => ?_⟩, h1, h4⟩
  · rw [encL_map] at hx hy
    obtain ⟨a, ha, rfl⟩ := List.mem_map.mp hx
    obtain ⟨b, hb, rfl⟩ := List.mem_map.mp hy
    exact List.all_eq_true.mp (List.all_eq_true.mp h2 a ha) b hb
  · rw [encL_map] at hx
    obtain ⟨a, ha, rfl⟩ := List.mem_map.mp hx
    have := List.all_eq_true.mp h3 a ha
    cases a <;> simp_all [someD, encD]
theorem encL_getD (ds : List D) (i : Nat) : (encL ds).getD i .none = encD (ds.getD i .non) := by
  rw [encL_map]
  induction ds generalizing i with
  | nil => rfl
  | cons d r ih => cases i with
    | zero => rfl
    | succ i => simpa using ih i
def bMinA : FB := fun xs g => match bMinS xs g with
  | .ok d g1 => .ok d g1
  | _ => match xs with
    | [d] => match seqOf g d with
      | some (e :: es) => if mmOk (e :: es) = true then .ok (minDD e es) g else .stuck
      | _ => .stuck
    | _ => .stuck
def bMaxA : FB := fun xs g => match bMaxS xs g with
  | .ok d g1 => .ok d g1
  | _ => match xs with
    | [d] => match seqOf g d with
      | some (e :: es) => if mmOk (e :: es) = true then .ok (maxDD e es) g else .stuck
      | _ => .stuck
    | _ => .stuck
theorem bMinA_n : NoErrB bMinA := noerrB fun xs g c g' e => by
  unfold bMinA at e
  (repeat' (split at e)) <;> cases e
theorem bMaxA_n : NoErrB bMaxA := noerrB fun xs g c g' e => by
  unfold bMaxA at e
  (repeat' (split at e)) <;> cases e
section
variable {X : Cx} {C : Cfg}
theorem at_of_vals {ds : List D} {ys : List V} {its : List Value} {K : PySem.W.Frag} {H : Hp} {ν μ : List Addr} (r : RepL K H ν μ ds ys) (v : Vals ys its) {i : Nat} {u : Value} (hu : its[i]? = some u) :
    ∃ d y, ds[i]? = some d ∧ ys[i]? = some y ∧ RepD K H ν μ d y ∧ RelV y u := by
  have l1 := RepL.length r
  have l2 := v.length
  have hi : i < ds.length := by
    have := (List.getElem?_eq_some_iff.mp hu).1
    omega
  obtain ⟨y, hy, ry⟩ := RepL.get r (List.getElem?_eq_getElem hi)
  obtain ⟨u', hu', ru⟩ := v.get hy
  rw [hu] at hu'
  cases hu'
  exact ⟨_, y, List.getElem?_eq_getElem hi, hy, ry, ru⟩
theorem bMinA_ok (hu : X.A.units + 65 + 100 < cLine) (hc : X.calm = true) : CallR X (.builtin "min") (rB C X.K bMinA) := by
  intro pins s σ H vs us Q I rv h
  obtain ⟨ds, ν, μ, g, R, r, hP⟩ := h
  cases eb : bMinS ds g with
  | ok d g1 => exact bMinS_ok hc pins s σ H vs us Q I rv ⟨ds, ν, μ, g, R, r, by unfold bMinA at hP; rw [eb] at hP; rw [eb]; exact hP⟩
  | err c g1 => exact absurd eb (bMinS_n _ _ _ _)
  | stuck =>
    have hP := hP (fun _ _ _ _ => False) σ
    unfold bMinA at hP
    rw [eb] at hP
    dsimp only at hP
    split at hP
    · obtain ⟨v, rfl, r1⟩ := rL1 r
      split at hP
      · rename_i e es e1
        split at hP
        · rename_i ok
          obtain ⟨m1, m2, m3⟩ := mm_like ok
          obtain ⟨a, xs, rfl, h1, h2⟩ := seq_rd R r1 e1
          rw [Vals.ref1 rv]
          have hh := I.ok.hd hc
          have fin : ∀ its : List Value, Vals xs its → ∀ i u, its[i]? = some u → i = argBest (fun i j => PySem.W.dataLt ((encL (e :: es)).getD i .none) ((encL (e :: es)).getD j .none)) (its.length - 1) → ∃ x, RelV x u ∧ Q x H := fun its hv i u hi ei => by
            obtain ⟨d, y, q1, q2, q3, q4⟩ := at_of_vals h2 hv hi
            refine ⟨y, q4, ?_⟩
            have l1 := RepL.length h2
            have l2 := hv.length
            have ll : its.length - 1 = es.length := by
              have : (e :: es).length = its.length := by omega
              simp at this; omega
            have eqf : (fun i j => PySem.W.dataLt ((encL (e :: es)).getD i .none) ((encL (e :: es)).getD j .none)) = fun i j => (fun x y => PySem.W.dataLt (encD x) (encD y)) ((e :: es).getD i .non) ((e :: es).getD j .non) := by
              funext i j; rw [encL_getD, encL_getD]
            rw [ll, eqf] at ei
            have q := (PySem.W.argBest_fold (fun x y => PySem.W.dataLt (encD x) (encD y)) D.non e es es.length (Nat.le_refl _)).2
            rw [List.take_length, ← ei] at q
            have : d = minDD e es := by
              rw [List.getD_eq_getElem?_getD, q1] at q
              exact q
            subst this
            exact hP.here R q3
          rcases h1 with h1 | h1
          · obtain ⟨its, hv, hl, hz⟩ := I.list h1
            have hr := readsL I (e :: es) h2 hv m2
            have hl' : s.heap.IsList a its.toArray := by
              obtain ⟨o, n, ho, hc2, _, hd⟩ := hl
              exact ⟨o, ho, hc2, n, hd⟩
            refine PySem.call_min_walkH (PySem.W.iter_listW (A := X.A.in1) hh hl' fun s₂ es2 W st hfp hw hk => ?_)
            refine ⟨_, _, _, _, _, _, _, s.heap, _, rfl, W, st, hfp, ?_, hw, hk, PySem.W.cmpIn_lt (A := X.A.in1) (vs := its.toArray) (by simpa using hr) m1 (by show X.A.units + 1 + _ < _; omega), fun v s' hPv m => ?_⟩
            · have := hv.length
              have := RepL.length h2
              simp at *
              omega
            · obtain ⟨h', tk, rfl, hk'⟩ := PySem.W.moved_old es2 rfl m
              obtain ⟨x, rx, q⟩ := fin its hv _ v (by simpa using hPv) (by simp)
              exact ⟨x, H, I.kept hk', rx, q⟩
          · obtain ⟨its, hv, hl, hz⟩ := I.tuple h1
            have hr := readsL I (e :: es) h2 hv m2
            refine PySem.call_min_walkH (PySem.W.iter_tupleW (A := X.A.in1) hh hl fun s₂ es2 W st hfp hw hk => ?_)
            refine ⟨_, _, _, _, _, _, _, s.heap, _, rfl, W, st, hfp, ?_, hw, hk, PySem.W.cmpIn_lt (A := X.A.in1) (vs := its.toArray) (by simpa using hr) m1 (by show X.A.units + 1 + _ < _; omega), fun v s' hPv m => ?_⟩
            · have := hv.length
              have := RepL.length h2
              simp at *
              omega
            · obtain ⟨h', tk, rfl, hk'⟩ := PySem.W.moved_old es2 rfl m
              obtain ⟨x, rx, q⟩ := fin its hv _ v (by simpa using hPv) (by simp)
              exact ⟨x, H, I.kept hk', rx, q⟩
        · exact hP.elim
      · exact hP.elim
    · exact hP.elim
theorem bMaxA_ok (hu : X.A.units + 65 + 100 < cLine) (hc : X.calm = true) : CallR X (.builtin "max") (rB C X.K bMaxA) := by
  intro pins s σ H vs us Q I rv h
  obtain ⟨ds, ν, μ, g, R, r, hP⟩ := h
  cases eb : bMaxS ds g with
  | ok d g1 => exact bMaxS_ok hc pins s σ H vs us Q I rv ⟨ds, ν, μ, g, R, r, by unfold bMaxA at hP; rw [eb] at hP; rw [eb]; exact hP⟩
  | err c g1 => exact absurd eb (bMaxS_n _ _ _ _)
  | stuck =>
    have hP := hP (fun _ _ _ _ => False) σ
    unfold bMaxA at hP
    rw [eb] at hP
    dsimp only at hP
    split at hP
    · obtain ⟨v, rfl, r1⟩ := rL1 r
      split at hP
      · rename_i e es e1
        split at hP
        · rename_i ok
          obtain ⟨m1, m2, m3⟩ := mm_like ok
          obtain ⟨a, xs, rfl, h1, h2⟩ := seq_rd R r1 e1
          rw [Vals.ref1 rv]
          have hh := I.ok.hd hc
          have fin : ∀ its : List Value, Vals xs its → ∀ i u, its[i]? = some u → i = argBest (fun i j => PySem.W.dataLt ((encL (e :: es)).getD j .none) ((encL (e :: es)).getD i .none)) (its.length - 1) → ∃ x, RelV x u ∧ Q x H := fun its hv i u hi ei => by
            obtain ⟨d, y, q1, q2, q3, q4⟩ := at_of_vals h2 hv hi
            refine ⟨y, q4, ?_⟩
            have l1 := RepL.length h2
            have l2 := hv.length
            have ll : its.length - 1 = es.length := by
              have : (e :: es).length = its.length := by omega
              simp at this; omega
            have eqf : (fun i j => PySem.W.dataLt ((encL (e :: es)).getD j .none) ((encL (e :: es)).getD i .none)) = fun i j => (fun x y => PySem.W.dataLt (encD y) (encD x)) ((e :: es).getD i .non) ((e :: es).getD j .non) := by
              funext i j; rw [encL_getD, encL_getD]
            rw [ll, eqf] at ei
            have q := (PySem.W.argBest_fold (fun x y => PySem.W.dataLt (encD y) (encD x)) D.non e es es.length (Nat.le_refl _)).2
            rw [List.take_length, ← ei] at q
            have : d = maxDD e es := by
              rw [List.getD_eq_getElem?_getD, q1] at q
              exact q
            subst this
            exact hP.here R q3
          rcases h1 with h1 | h1
          · obtain ⟨its, hv, hl, hz⟩ := I.list h1
            have hr := readsL I (e :: es) h2 hv m2
            have hl' : s.heap.IsList a its.toArray := by
              obtain ⟨o, n, ho, hc2, _, hd⟩ := hl
              exact ⟨o, ho, hc2, n, hd⟩
            refine PySem.call_max_walkH (PySem.W.iter_listW (A := X.A.in1) hh hl' fun s₂ es2 W st hfp hw hk => ?_)
            refine ⟨_, _, _, _, _, _, _, s.heap, _, rfl, W, st, hfp, ?_, hw, hk, PySem.W.cmpIn_gt (A := X.A.in1) (vs := its.toArray) (by simpa using hr) m1 (by show X.A.units + 1 + _ < _; omega), fun v s' hPv m => ?_⟩
            · have := hv.length
              have := RepL.length h2
              simp at *
              omega
            · obtain ⟨h', tk, rfl, hk'⟩ := PySem.W.moved_old es2 rfl m
              obtain ⟨x, rx, q⟩ := fin its hv _ v (by simpa using hPv) (by simp)
              exact ⟨x, H, I.kept hk', rx, q⟩
          · obtain ⟨its, hv, hl, hz⟩ := I.tuple h1
            have hr := readsL I (e :: es) h2 hv m2
            refine PySem.call_max_walkH (PySem.W.iter_tupleW (A := X.A.in1) hh hl fun s₂ es2 W st hfp hw hk => ?_)
            refine ⟨_, _, _, _, _, _, _, s.heap, _, rfl, W, st, hfp, ?_, hw, hk, PySem.W.cmpIn_gt (A := X.A.in1) (vs := its.toArray) (by simpa using hr) m1 (by show X.A.units + 1 + _ < _; omega), fun v s' hPv m => ?_⟩
            · have := hv.length
              have := RepL.length h2
              simp at *
              omega
            · obtain ⟨h', tk, rfl, hk'⟩ := PySem.W.moved_old es2 rfl m
              obtain ⟨x, rx, q⟩ := fin its hv _ v (by simpa using hPv) (by simp)
              exact ⟨x, H, I.kept hk', rx, q⟩
        · exact hP.elim
      · exact hP.elim
    · exact hP.elim
end
end Dl
end
section
set_option Elab.async false
set_option linter.all false
set_option maxRecDepth 100000
set_option maxHeartbeats 1000000
namespace Dl
open PySem PySem.Spec PyProof.Rows L2
/-! ### sum(lists, start) -/
section
variable {prog : Program} {w : World} {A : Around} {s : Shared}
theorem sub_list_str : isSubtype (.type "list") (.type "str") = pure false := by rw [isSubtype_type]; kernel_rfl
theorem sub_list_bytes : isSubtype (.type "list") (.type "bytes") = pure false := by rw [isSubtype_type]; kernel_rfl
theorem sub_list_bytearray : isSubtype (.type "list") (.type "bytearray") = pure false := by rw [isSubtype_type]; kernel_rfl
theorem args_sum2 (a b : Value) : argsOk "sum" ⟨[a, b], []⟩ := by unfold argsOk; kernel_rfl
def Kept (H0 h : Heap) : Prop := ∀ b o, H0.get? b = some o → h.get? b = some o
theorem sumL_loop (hh : A.handled = none) {I ax S a0 : Addr} {vs : List Value} {bs : List (List Value)} {its0 : List Value} {R : Result → Shared → Prop} (H0 : Heap) (hI : ax ≠ I) (hS : S ≠ I) (hS2 : S ≠ ax) (hIge : H0.objs.size ≤ I) (h0I : H0.get? I = none) (h0S : H0.get? S = none)
    (hlen : bs.length = vs.length) (hb : ∀ i v, vs[i]? = some v → ∃ b n, v = .ref b ∧ IsL H0 b (bs.getD i []).toArray n) (hz : (its0 ++ bs.flatten).length ≤ sizeLine) :
    ∀ (k i : Nat) (s : Shared) (T c nT : Nat), vs.length - i = k → i ≤ vs.length → (s.heap.IsListIter I ax i ∧ s.heap.IsList ax vs.toArray) → s.heap.get? S = some { cls := .type "list", dict := none, data := .seq #[.ref T] c, slots := #[] } →
      IsL s.heap T (its0 ++ (bs.take i).flatten).toArray nT → T ≠ S → T ≠ I → Kept H0 s.heap → ((i = 0 ∧ T = a0) ∨ (0 < i ∧ H0.objs.size ≤ T)) →
      (∀ h' tk T n, Kept H0 h' → ((vs = [] ∧ T = a0) ∨ (vs ≠ [] ∧ H0.objs.size ≤ T)) → IsL h' T (its0 ++ bs.flatten).toArray n → R (.ok (.ret (.ref T))) { s with heap := h', toks := tk }) →
      codeAny (model prog w) A (.builtin "sum.loop" ⟨[.ref I, .ref S, rawInt 2, rawInt 0], []⟩) R s := by
  intro k
  have W := Walks.list (prog := prog) (w := w) (A := A.in1) hh I ax hI vs.toArray
  induction k with
  | zero =>
    intro i s T c nT hk hi st eS eT hTS hTI kp hT hR
    have hin : i = vs.length := by omega
    subst hin
    refine codeAny_builtin PySem.F.entry_sum_loop ?_
    rw [Around.under_plainId PySem.F.plain_sum_loop _]
    show wpAny _ A.in1 (seqItems? (.ref S) >>= _) _ _ s
    refine wpAny_bind (wpAny_seqItems eS rfl ?_)
    show wpAny _ A.in1 (tryCatch (pyNext (.ref I)) _ >>= _) _ _ s
    refine wpAny_bind (wpAny_tryCatch (W.done s _ _ (by simpa using st) fun h' tk hk' => ?_))
    refine wpAny_pure (hR h' tk T nT (fun b o e => hk' b o (fun z => ?_) (kp b o e)) ?_ ?_)
    · rw [List.mem_singleton.mp z, h0I] at e; cases e
    · rcases hT with ⟨z, e⟩ | z
      · exact .inl ⟨List.length_eq_zero_iff.mp z, e⟩
      · exact .inr ⟨fun e => by rw [e] at z; exact absurd z.1 (by simp), z.2⟩
    · have := hk' T _ (fun z => hTI (List.mem_singleton.mp z)) eT
      rw [List.take_of_length_le (by omega)] at this
      exact this
  | succ k ih =>
    intro i s T c nT hk hi st eS eT hTS hTI kp hT hR
    have hlt : i < vs.length := by omega
    refine codeAny_builtin PySem.F.entry_sum_loop ?_
    rw [Around.under_plainId PySem.F.plain_sum_loop _]
    show wpAny _ A.in1 (seqItems? (.ref S) >>= _) _ _ s
    refine wpAny_bind (wpAny_seqItems eS rfl ?_)
    show wpAny _ A.in1 (tryCatch (pyNext (.ref I)) _ >>= _) _ _ s
    refine wpAny_bind (wpAny_tryCatch (W.item i s _ _ (by simpa using hlt) st fun v h' tk hP hst' hk' => ?_))
    obtain ⟨b, n, rfl, eb⟩ := hb i v (by simpa using hP)
    have kp' : Kept H0 h' := fun b o e => hk' b o (fun z => by rw [List.mem_singleton.mp z, h0I] at e; cases e) (kp b o e)
    have eS' := hk' S _ (fun z => hS (List.mem_singleton.mp z)) eS
    have eT' := hk' T _ (fun z => hTI (List.mem_singleton.mp z)) eT
    have eb' := kp' b _ eb
    have hbi : i < bs.length := by omega
    have ebs : bs.getD i [] = bs[i] := by rw [List.getD_eq_getElem?_getD, List.getElem?_eq_getElem hbi]; rfl
    have etk : bs.take (i + 1) = bs.take i ++ [bs[i]] := by rw [List.take_succ, List.getElem?_eq_getElem hbi]; rfl
    have efl : its0 ++ (bs.take (i + 1)).flatten = (its0 ++ (bs.take i).flatten) ++ bs[i] := by rw [etk, List.flatten_append, ← List.append_assoc]; simp only [List.flatten_cons, List.flatten_nil, List.append_nil]
    have hle : (its0 ++ (bs.take (i + 1)).flatten).length ≤ sizeLine := by
      have : (bs.take (i + 1)).flatten.length ≤ bs.flatten.length := by
        have q : bs.flatten = (bs.take (i + 1)).flatten ++ (bs.drop (i + 1)).flatten := by rw [← List.flatten_append, List.take_append_drop]
        rw [q]; simp
      simp only [List.length_append] at hz ⊢
      omega
    show wpAny _ A.in1 ((holding [Value.ref b] (binaryOp .Add (.ref T) (.ref b))).attempt >>= _) _ _ _
    refine wpAny_bind (wpAny_attempt (wpAny_holding (PySem.P.add_list eT' eb' ?_ (by rw [ebs, List.size_toArray, List.size_toArray, ← List.length_append, ← efl]; exact hle))))
    show wpAny _ A.in1 (updateSeq S (fun _ => #[.ref h'.objs.size]) >>= _) _ _ _
    have eS2 : (h'.push { cls := .type "list", data := .seq ((its0 ++ (bs.take i).flatten).toArray ++ (bs.getD i []).toArray) }).get? S = some { cls := .type "list", dict := none, data := .seq #[.ref T] c, slots := #[] } := Heap.get?_push_of_some _ eS'
    refine wpAny_bind (wpAny_updateSeq eS2 rfl ?_)
    have eS3 := Heap.get?_update_self (Obj.mapSeq fun _ => #[Value.ref h'.objs.size]) eS2 rfl
    refine wpAny_bind (wpAny_letGo ?_)
    refine wpAny_bind (wpAny_updateSeq eS3 rfl ?_)
    have eS4 := Heap.get?_update_self (Obj.mapSeq fun _ => #[Value.ref h'.objs.size]) eS3 rfl
    have keep : ∀ x o, x ≠ S → (h'.push { cls := .type "list", data := .seq ((its0 ++ (bs.take i).flatten).toArray ++ (bs.getD i []).toArray) }).get? x = some o →
        (((h'.push { cls := .type "list", data := .seq ((its0 ++ (bs.take i).flatten).toArray ++ (bs.getD i []).toArray) }).update S (Obj.mapSeq fun _ => #[Value.ref h'.objs.size])).update S (Obj.mapSeq fun _ => #[Value.ref h'.objs.size])).get? x = some o := fun x o hx e =>
      (Heap.get?_update_other _ _ (Ne.symm hx)).trans ((Heap.get?_update_other _ _ (Ne.symm hx)).trans e)
    have hltS := Heap.lt_size eS'
    obtain ⟨oI, eI, _⟩ := hst'.1
    have hltI := Heap.lt_size eI
    refine wpAny_pure ⟨plainId_quiet PySem.F.plain_sum_loop _, ih (i + 1) _ h'.objs.size _ 0 (by omega) hlt (W.frame (i + 1) _ _ hst' fun x hx o e => keep x o (fun z => ?_) (Heap.get?_push_of_some _ e)) eS4 ?_ (Nat.ne_of_gt hltS) (Nat.ne_of_gt hltI) (fun x o e => keep x o (fun z => by rw [z, h0S] at e; cases e) (Heap.get?_push_of_some _ (kp' x o e))) (.inr ⟨Nat.succ_pos _, ?_⟩) fun h2 tk2 T2 n2 q1 q2 q3 => hR h2 tk2 T2 n2 q1 q2 q3⟩
    · rcases List.mem_cons.mp hx with z2 | z2
      · exact hS (z.symm.trans z2)
      · exact hS2 (z.symm.trans (List.mem_singleton.mp z2))
    · refine keep _ _ (Nat.ne_of_gt hltS) ?_
      have : (its0 ++ (bs.take (i + 1)).flatten).toArray = (its0 ++ (bs.take i).flatten).toArray ++ (bs.getD i []).toArray := by rw [efl, ebs]; simp
      rw [this]
      exact Heap.get?_push_size _ rfl
    · exact Nat.le_of_lt (Nat.lt_of_le_of_lt hIge hltI)
theorem sumL_call (hh : A.handled = none) {l a0 n0 : Nat} {vs : List Value} {bs : List (List Value)} {its0 : List Value} {Q : Value → Shared → Prop} {E : Value → Shared → Prop} (hl : s.heap.IsList l vs.toArray) (h0 : IsL s.heap a0 its0.toArray n0)
    (hlen : bs.length = vs.length) (hb : ∀ i v, vs[i]? = some v → ∃ b n, v = .ref b ∧ IsL s.heap b (bs.getD i []).toArray n) (hz : (its0 ++ bs.flatten).length ≤ sizeLine)
    (hQ : ∀ h' tk T n, Kept s.heap h' → ((vs = [] ∧ T = a0) ∨ (vs ≠ [] ∧ s.heap.objs.size ≤ T)) → IsL h' T (its0 ++ bs.flatten).toArray n → Q (.ref T) { s with heap := h', toks := tk }) : wpAny (model prog w) A (call (.builtin "sum") [.ref l, .ref a0]) Q E s := by
  refine call_function_tree PySem.F.kind_sum PySem.F.plain_sum PySem.F.entry_sum (args_sum2 _ _) ?_
  unfold Builtin.«sum»
  simp only [List.length_cons, List.length_nil]
  rw [if_neg (by decide)]
  refine wpAny_bind (wpAny_of_eq (show Builtin.Builtins.bindParams "sum" ["start"] 0 ⟨[.ref a0], []⟩ = pure [some (.ref a0)] from rfl) ?_)
  refine wpAny_bind (PySem.W.iter_listW (A := A.in1) hh hl fun s₂ e W st hfp hw hk => ?_)
  subst e
  refine wpAny_bind (wpAny_pure ?_)
  have h02 := hk a0 _ h0
  simp only [List.forIn_cons, List.forIn_nil]
  refine wpAny_bind (wpAny_bind (wpAny_bind (wpAny_isInstance (T := "list") (b := false) ⟨_, h02, rfl⟩ sub_list_str ?_)))
  simp only [Bool.false_eq_true, if_false]
  refine wpAny_pure (wpAny_bind (wpAny_bind (wpAny_isInstance (T := "list") (b := false) ⟨_, h02, rfl⟩ sub_list_bytes ?_)))
  simp only [Bool.false_eq_true, if_false]
  refine wpAny_pure (wpAny_bind (wpAny_bind (wpAny_isInstance (T := "list") (b := false) ⟨_, h02, rfl⟩ sub_list_bytearray ?_)))
  simp only [Bool.false_eq_true, if_false]
  refine wpAny_pure (wpAny_pure ?_)
  refine wpAny_bind (wpAny_newObj_type ?_)
  have hls : l < s.heap.objs.size := by obtain ⟨o, e, _⟩ := hl; exact Heap.lt_size e
  have has := Heap.lt_size h0
  have hsz := Heap.size_push s.heap { cls := .type "list_iterator", data := .fields #[.ref l, .int 0 0] }
  have fr : ∀ x, s.heap.objs.size ≤ x → s.heap.get? x = none := fun x hx => by
    cases e : s.heap.get? x with
    | none => rfl
    | some o => exact absurd (Heap.lt_size e) (Nat.not_lt.mpr hx)
  have hS1 : (s.heap.push { cls := .type "list_iterator", data := .fields #[.ref l, .int 0 0] }).objs.size ≠ s.heap.objs.size := by rw [hsz]; exact Nat.succ_ne_self _
  have hS2 : (s.heap.push { cls := .type "list_iterator", data := .fields #[.ref l, .int 0 0] }).objs.size ≠ l := by rw [hsz]; exact Nat.ne_of_gt (Nat.lt_succ_of_lt hls)
  have hS3 : a0 ≠ (s.heap.push { cls := .type "list_iterator", data := .fields #[.ref l, .int 0 0] }).objs.size := by rw [hsz]; exact Nat.ne_of_lt (Nat.lt_succ_of_lt has)
  have hS4 : s.heap.get? (s.heap.push { cls := .type "list_iterator", data := .fields #[.ref l, .int 0 0] }).objs.size = none := fr _ (by rw [hsz]; exact Nat.le_succ _)
  refine wpAny_pure ⟨plainId_quiet PySem.F.plain_sum_loop _, sumL_loop hh s.heap (I := s.heap.objs.size) (ax := l) (a0 := a0) (Nat.ne_of_lt hls) hS1 hS2 (Nat.le_refl _) (fr _ (Nat.le_refl _)) hS4 hlen hb hz _ 0 _ a0 _ n0 rfl (Nat.zero_le _)
    (W.frame 0 _ _ _ st (Nat.le_refl _) fun b _ o e => Heap.get?_push_of_some _ e) (Heap.get?_push_size _ rfl) ?_ hS3 (Nat.ne_of_lt has) (fun b o e => Heap.get?_push_of_some _ (hk b o e)) (.inl ⟨rfl, rfl⟩) fun h' tk T n q1 q2 q3 => hQ h' tk T n q1 q2 q3⟩
  simpa using (Heap.get?_push_of_some _ h02 : (Heap.push _ _).get? a0 = _)
end
theorem hu165_of {k : Nat} {A : Around} (h : Room k A) : A.units + 65 + 100 < cLine := by have := h.un; omega
def flatD (g : G) (ds : List D) : Option (List (List D)) := optAll (ds.map (lstOf g))
def bSumA : FB := fun xs g => match bSumS xs g with
  | .ok d g1 => .ok d g1
  | _ => match xs with
    | [d, e] => match lstOf g d, lstOf g e with
      | some ds, some st => match flatD g ds with
        | some ess => if (st ++ ess.flatten).length ≤ sizeLine then (if ds.isEmpty then .ok e g else .ok (.lst (st ++ ess.flatten)) g) else .stuck
        | none => .stuck
      | _, _ => .stuck
    | _ => .stuck
theorem bSumA_n : NoErrB bSumA := noerrB fun xs g c g' e => by
  unfold bSumA at e
  (repeat' (split at e)) <;> cases e
section
variable {X : Cx} {C : Cfg} {pins : List (Addr × Obj)} {σ : L2.St} {H : Hp} {s : Shared} {ν μ : List Addr} {g : G}
theorem lstOf_at {K : PySem.W.Frag} (R : RS C K H ν μ g) {d : D} {v : V} {ds : List D} (r : RepD K H ν μ d v) (e : lstOf g d = some ds) : ∃ a xs, v = .ref a ∧ H a = some (.lst xs) ∧ RepL K H ν μ ds xs := by
  unfold lstOf at e
  split at e
  · cases e
    obtain ⟨a, xs, rfl, h1, _, _, h2⟩ := r
    exact ⟨a, xs, rfl, h1, h2⟩
  · split at e
    · rename_i n _ _ h
      cases e
      obtain ⟨a, rfl, ha⟩ := r
      obtain ⟨xs, h1, h2⟩ : ∃ xs, H a = some (.lst xs) ∧ RepL K H ν μ ds xs := R.ob n _ a h ha
      exact ⟨a, xs, rfl, h1, h2⟩
    · cases e
  · cases e
theorem flat_at (I : Inv X pins σ H s) (R : RS C X.K H ν μ g) : ∀ {ds : List D} {vs : List V} {us : List Value} {ess : List (List D)}, RepL X.K H ν μ ds vs → Vals vs us → flatD g ds = some ess →
    ∃ (yss : List (List V)) (bs : List (List Value)), bs.length = us.length ∧ (∀ i v, us[i]? = some v → ∃ b n, v = .ref b ∧ IsL s.heap b (bs.getD i []).toArray n) ∧ Vals yss.flatten bs.flatten ∧ RepL X.K H ν μ ess.flatten yss.flatten
  | [], vs, us, ess, r, v, e => by
    unfold RepL at r; subst r
    cases v
    cases e
    exact ⟨[], [], rfl, fun i v h => by simp at h, .nil, rfl⟩
  | d :: ds, vs, us, ess, r, v, e => by
    unfold RepL at r
    obtain ⟨y, q, rfl, r1, r2⟩ := r
    cases v with
    | cons v1 v2 =>
    unfold flatD at e
    rw [List.map_cons] at e
    cases e1 : lstOf g d with
    | none => rw [e1] at e; cases e
    | some es =>
      rw [e1] at e
      change (flatD g ds).map (es :: ·) = some ess at e
      cases e2 : flatD g ds with
      | none => rw [e2] at e; cases e
      | some ess' =>
        rw [e2] at e
        cases e
        obtain ⟨a, xs, rfl, ha, rx⟩ := lstOf_at R r1 e1
        obtain ⟨yss, bs, l1, l2, l3, l4⟩ := flat_at I R r2 v2 e2
        obtain ⟨z, its, n, rv, _, hi⟩ := I.lstM ha
        refine ⟨xs :: yss, its :: bs, by simp [l1], fun i v h => ?_, ?_, ?_⟩
        · cases i with
          | zero =>
            simp at h
            subst h
            exact ⟨a, n, v1, hi⟩
          | succ i => exact l2 i v (by simpa using h)
        · simp only [List.flatten_cons]
          exact rv.append l3
        · simp only [List.flatten_cons]
          exact RepL.app rx l4
theorem bSumA_ok (hc : X.calm = true) : CallR X (.builtin "sum") (rB C X.K bSumA) := by
  intro pins s σ H vs us Q I rv h
  obtain ⟨ds, ν, μ, g, R, r, hP⟩ := h
  cases eb : bSumS ds g with
  | ok d g1 => exact bSumS_ok hc pins s σ H vs us Q I rv ⟨ds, ν, μ, g, R, r, by unfold bSumA at hP; rw [eb] at hP; rw [eb]; exact hP⟩
  | err c g1 => exact absurd eb (bSumS_n _ _ _ _)
  | stuck =>
    have hP := hP (fun _ _ _ _ => False) σ
    unfold bSumA at hP
    rw [eb] at hP
    dsimp only at hP
    split at hP
    · obtain ⟨v, v2, rfl, r1, r2⟩ := rL2 r
      split at hP
      · rename_i es st e1 e2
        split at hP
        · rename_i ess e3
          split at hP
          · rename_i hl
            obtain ⟨a, xs, rfl, h1, q1⟩ := lstOf_at R r1 e1
            obtain ⟨b, ys, rfl, h2, q2⟩ := lstOf_at R r2 e2
            have hh := I.ok.hd hc
            obtain ⟨u1, u2, rfl, rfl, rfl⟩ : ∃ u1 u2, us = [u1, u2] ∧ u1 = .ref a ∧ u2 = .ref b := by
              cases rv with
              | cons w1 w2 => cases w2 with
                | cons w3 w4 => cases w4; exact ⟨_, _, rfl, w1, w3⟩
            obtain ⟨z1, its1, n1, rv1, _, hi1⟩ := I.lstM h1
            obtain ⟨z2, its2, n2, rv2, _, hi2⟩ := I.lstM h2
            obtain ⟨yss, bs, l1, l2, l3, l4⟩ := flat_at I R q1 rv1 e3
            have lq2 := RepL.length q2
            have lq4 := RepL.length l4
            have lv3 := l3.length
            have lv2 := rv2.length
            refine sumL_call (A := X.A) hh (show s.heap.IsList a its1.toArray from ⟨_, hi1, rfl, n1, rfl⟩) hi2 l1 l2 (by simp only [List.length_append] at hl ⊢; omega) fun h' tk T n k1 k2 k3 => ?_
            rcases k2 with ⟨k2, eT⟩ | ⟨kn, k2⟩
            · subst k2
              subst eT
              cases rv1
              unfold RepL at q1
              cases es with
              | cons e0 er => obtain ⟨_, _, z, _⟩ := q1; cases z
              | nil =>
                rw [if_pos (by rfl)] at hP
                exact ⟨.ref T, H, I.kept k1, rfl, hP.here R r2⟩
            · have hne : es.isEmpty = false ∨ es.isEmpty = true := by cases es.isEmpty <;> simp
              have hfin : Post C X.K (fun _ _ _ _ => False) σ H ν μ (.ok (.lst (st ++ ess.flatten)) g) Q → ∃ x H', Inv X pins σ H' { s with heap := h', toks := tk } ∧ RelV x (.ref T) ∧ Q x H' := fun hP => by
                refine ⟨.ref T, upd H T (.lst (ys ++ yss.flatten)), I.laid k1 k2 ⟨?_, _, n, rv2.append l3, k3⟩, rfl, rD_lst R (RepL.app q2 l4) hP _ (I.hok.fresh k2)⟩
                simp only [List.length_append] at hl ⊢
                omega
              rcases hne with hne | hne
              · rw [if_neg (by rw [hne]; decide)] at hP
                exact hfin hP
              · have : es = [] := List.isEmpty_iff.mp hne
                subst this
                unfold RepL at q1
                subst q1
                cases rv1
                exact absurd rfl kn
          · exact hP.elim
        · exact hP.elim
      · exact hP.elim
    · exact hP.elim
end
end Dl
end
section
set_option Elab.async false
set_option linter.all false
set_option maxRecDepth 100000
set_option maxHeartbeats 1000000
namespace Dl
open PySem PySem.Spec PyProof.Rows L2
/-! ### things locked while they are walked -/
section
variable {C : Cfg} {K : PySem.W.Frag} {H H' H1 H2 : Hp} {ν μ μ' μ2 : List Addr} {g : G} {a : Addr} {u : HO} {ob : Obj}
theorem Ch.mut {u : HO} (h : Ch u) : Mut (some u) := by
  cases u <;> first | trivial | exact h.elim
theorem rd_unlock {b : Addr} {w : HO} (h : H a = some (.frz ob u)) (cu : Ch u) (hw : ¬ Ch w) (hf : ∀ o x, w ≠ .frz o x) (r : Rd H b w) : Rd (upd H a u) b w := by
  have ne : b ≠ a := fun z => by
    subst z
    rcases r with r | ⟨o, r⟩
    · rw [h] at r; cases r; exact hf _ _ rfl
    · rw [h] at r; cases r; exact hw cu
  rcases r with r | ⟨o, r⟩
  · exact .inl (by rw [upd_ne ne]; exact r)
  · exact .inr ⟨o, by rw [upd_ne ne]; exact r⟩
mutual
theorem RepD.unlock (h : H a = some (.frz ob u)) (cu : Ch u) (ha : a ∈ μ) : ∀ (d : D) {v : V}, RepD K H ν μ d v → RepD K (upd H a u) ν μ d v
  | .non, v, r => r
  | .bl b, v, r => r
  | .int i, v, r => r
  | .str s, v, r => r
  | .tup ds, v, r => by
    unfold RepD at r ⊢
    obtain ⟨b, xs, e, h1, h2⟩ := r
    exact ⟨b, xs, e, h1.imp (rd_unlock h cu (fun z => z) (fun _ _ z => by cases z)) id, RepL.unlock h cu ha ds h2⟩
  | .lst ds, v, r => by
    unfold RepD at r ⊢
    obtain ⟨b, xs, e, h1, h2, h3, h4⟩ := r
    exact ⟨b, xs, e, by rw [upd_ne fun z => h2 (by rw [z]; exact ha)]; exact h1, h2, h3, RepL.unlock h cu ha ds h4⟩
  | .scr ns, v, r => by
    unfold RepD at r ⊢
    obtain ⟨b, e, r⟩ := r
    exact ⟨b, e, r.imp (fun ⟨o, h1, h2, h3⟩ => ⟨o, by rw [upd_ne fun z => h2 (by rw [z]; exact ha)]; exact h1, h2, h3⟩) id⟩
  | .loc n, v, r => r
theorem RepL.unlock (h : H a = some (.frz ob u)) (cu : Ch u) (ha : a ∈ μ) : ∀ (ds : List D) {vs : List V}, RepL K H ν μ ds vs → RepL K (upd H a u) ν μ ds vs
  | [], vs, r => r
  | d :: ds, vs, r => by
    unfold RepL at r ⊢
    obtain ⟨v, q, e, h1, h2⟩ := r
    exact ⟨v, q, e, RepD.unlock h cu ha d h1, RepL.unlock h cu ha ds h2⟩
end
theorem RepKV.unlock {κ : Type} (h : H a = some (.frz ob u)) (cu : Ch u) (ha : a ∈ μ) : ∀ {kvs : List (κ × D)} {xs : List (κ × V)}, RepKV K H ν μ kvs xs → RepKV K (upd H a u) ν μ kvs xs
  | [], xs, r => r
  | (q, d) :: r, xs, h0 => by
    unfold RepKV at h0 ⊢
    obtain ⟨v, r', e, h1, h2⟩ := h0
    exact ⟨v, r', e, RepD.unlock h cu ha d h1, RepKV.unlock h cu ha h2⟩
theorem RepH.unlock {o : O} {w : HO} (h : H a = some (.frz ob u)) (cu : Ch u) (ha : a ∈ μ) (r : RepH C K H ν μ o w) : RepH C K (upd H a u) ν μ o w := by
  cases o with
  | lst ds => obtain ⟨xs, q, r⟩ := r; exact ⟨xs, q, RepL.unlock h cu ha _ r⟩
  | dic ds => obtain ⟨xs, q, r⟩ := r; exact ⟨xs, q, RepKV.unlock h cu ha r⟩
  | dit ds => obtain ⟨xs, q, r⟩ := r; exact ⟨xs, q, RepKV.unlock h cu ha r⟩
  | ins c ds => obtain ⟨dx, xs, q, r⟩ := r; exact ⟨dx, xs, q, RepKV.unlock h cu ha r⟩
  | frz o => exact r.elim
theorem RepO.toH {o : O} (r : RepO C K H ν μ o a) (hl : ∀ o', o ≠ .frz o') : ∃ u, H a = some u ∧ RepH C K H ν μ o u := by
  cases o with
  | lst ds => obtain ⟨xs, q, r⟩ := r; exact ⟨_, q, xs, rfl, r⟩
  | dic ds => obtain ⟨xs, q, r⟩ := r; exact ⟨_, q, xs, rfl, r⟩
  | dit ds => obtain ⟨xs, q, r⟩ := r; exact ⟨_, q, xs, rfl, r⟩
  | ins c ds => obtain ⟨dx, xs, q, r⟩ := r; exact ⟨_, q, dx, xs, rfl, r⟩
  | frz o => exact absurd rfl (hl o)
theorem RepO.ofH {o : O} (h : H a = some u) (r : RepH C K H ν μ o u) : RepO C K H ν μ o a := by
  cases o with
  | lst ds => obtain ⟨xs, rfl, r⟩ := r; exact ⟨xs, h, r⟩
  | dic ds => obtain ⟨xs, rfl, r⟩ := r; exact ⟨xs, h, r⟩
  | dit ds => obtain ⟨xs, rfl, r⟩ := r; exact ⟨xs, h, r⟩
  | ins c ds => obtain ⟨dx, xs, rfl, r⟩ := r; exact ⟨dx, xs, h, r⟩
  | frz o => exact r.elim
theorem RepO.unlock {o : O} {b : Addr} (h : H a = some (.frz ob u)) (cu : Ch u) (ha : a ∈ μ) (ne : b ≠ a) (r : RepO C K H ν μ o b) : RepO C K (upd H a u) ν μ o b := by
  by_cases hl : ∃ o', o = .frz o'
  · obtain ⟨o', rfl⟩ := hl
    obtain ⟨ob', w, q, r⟩ := r
    exact ⟨ob', w, by rw [upd_ne ne]; exact q, r.unlock h cu ha⟩
  · obtain ⟨w, q, r⟩ := r.toH fun o' z => hl ⟨o', z⟩
    exact RepO.ofH (by rw [upd_ne ne]; exact q) (r.unlock h cu ha)
theorem RepE.unlock {ρ : Env'} {σ : L2.St} (h : H a = some (.frz ob u)) (cu : Ch u) (ha : a ∈ μ) (r : RepE K H ν μ ρ σ) : RepE K (upd H a u) ν μ ρ σ :=
  ⟨r.len, fun i d e => by obtain ⟨v, e1, q⟩ := r.at' i d e; exact ⟨v, e1, RepD.unlock h cu ha d q⟩⟩
theorem tabs_of' {T : List (Addr × Str)} (t : LamX.Tabs T H) (k : ∀ b o, H b = some o → ¬ Ch o → (∀ ob u, o ≠ .frz ob u) → H' b = some o) : LamX.Tabs T H' := fun p hp => by
  obtain ⟨ps, h1, h2, h3⟩ := t p hp
  refine ⟨ps, k _ _ h1 (fun z => z) (fun _ _ z => by cases z), h2, fun pos cv hc => ?_⟩
  obtain ⟨c, e1, e2⟩ := h3 pos cv hc
  exact ⟨c, e1, k _ _ e2 (fun z => z) (fun _ _ z => by cases z)⟩
theorem nodup_at {l : List Addr} (nd : l.Nodup) {m n : Nat} {x : Addr} (h1 : l[m]? = some x) (h2 : l[n]? = some x) : m = n := by
  obtain ⟨l1, q1⟩ := List.getElem?_eq_some_iff.mp h1
  obtain ⟨l2, q2⟩ := List.getElem?_eq_some_iff.mp h2
  exact (List.getElem_inj nd).mp (q1.trans q2.symm)
theorem RS.unlock (R : RS C K H ν μ g) {n : Nat} {o : O} (hn : μ[n]? = some a) (hg : g[n]? = some (.frz o)) (h : H a = some (.frz ob u)) : Ch u ∧ RS C K (upd H a u) ν μ (g.set n o) := by
  obtain ⟨ob', u', h', rh⟩ : ∃ ob' u', H a = some (.frz ob' u') ∧ RepH C K H ν μ o u' := R.ob n _ a hg hn
  rw [h] at h'
  cases h'
  have cu := rh.ch
  have ha : a ∈ μ := List.mem_of_getElem? hn
  refine ⟨cu, by simp [R.len], R.nd, R.dj, fun b hb => ?_, fun m w b e1 e2 => ?_, tabs_of' R.tb fun b w e nc nf => ?_⟩
  · obtain ⟨x, e, c⟩ := R.nv b hb
    exact ⟨x, by rw [upd_ne fun z => R.dj b hb (by rw [z]; exact ha)]; exact e, c⟩
  · by_cases hm : m = n
    · subst hm
      rw [hn] at e2; cases e2
      have hlt := (List.getElem?_eq_some_iff.mp hg).1
      rw [List.getElem?_set_self hlt] at e1
      cases e1
      exact RepO.ofH upd_same (rh.unlock h cu ha)
    · rw [List.getElem?_set_ne (Ne.symm hm)] at e1
      exact (R.ob m w b e1 e2).unlock h cu ha fun z => hm (nodup_at R.nd (by rw [← z]; exact e2) hn)
  · rw [upd_ne fun z => by subst z; rw [h] at e; cases e; exact nf _ _ rfl]; exact e
theorem RS.lock (R : RS C K H ν μ g) {n : Nat} {o : O} (hn : μ[n]? = some a) (hg : g[n]? = some o) (hl : ∀ o', o ≠ .frz o') : ∃ u, H a = some u ∧ Ch u ∧ ∀ ob, RS C K (upd H a (.frz ob u)) ν μ (g.set n (.frz o)) ∧ Ext H μ (upd H a (.frz ob u)) μ := by
  obtain ⟨u, hu, rh⟩ := (show RepO C K H ν μ o a from R.ob n _ a hg hn).toH hl
  refine ⟨u, hu, rh.ch, fun ob => ?_⟩
  obtain ⟨R', ex⟩ := R.write (o := .frz ob u) (ob := .frz o) hn (fun o' z => by rw [hg] at z; exact hl o' (Option.some.inj z)) ntb_frz fun ex => ⟨ob, u, upd_same, rh.mono ex.kp'⟩
  exact ⟨R', ex⟩
/-- before the lock, behind it -/
theorem Ext.unlock (cu : Ch u) (ha : a ∈ μ) (hu : H a = some u) (e1 : Ext H μ H1 μ) (h1 : H1 a = some (.frz ob u)) (e2 : Ext H1 μ H2 μ2) : Ext H μ (upd H2 a u) μ2 where
  mu := (e1.trans e2).mu
  kp := fun b o h c n => by
    have ne : b ≠ a := fun z => by
      subst z
      rcases c with c | c
      · exact c ha
      · rw [hu] at h; cases h; exact cu.nfix c
    rw [upd_ne ne]
    exact (e1.trans e2).kp b o h c n
  dm := fun b o h n => by
    by_cases z : b = a
    · subst z; exact ⟨u, upd_same, cu.ntb⟩
    · obtain ⟨o', q1, q2⟩ := (e1.trans e2).dm b o h n
      exact ⟨o', by rw [upd_ne z]; exact q1, q2⟩
end
/-- the thing a name stands for -/
def lkV (i : Nat) : Env' → G → Option Nat := fun ρ _ => match ρ[i]? with
  | some (some (.loc n)) => some n
  | _ => none
def unlS (n : Nat) : RSt → RSt
  | .nx ρ g => match g[n]? with
    | some (.frz o) => .nx ρ (g.set n o)
    | _ => .stuck
  | .bk ρ g => match g[n]? with
    | some (.frz o) => .bk ρ (g.set n o)
    | _ => .stuck
  | .ct ρ g => match g[n]? with
    | some (.frz o) => .ct ρ (g.set n o)
    | _ => .stuck
  | .rt d g => match g[n]? with
    | some (.frz o) => .rt d (g.set n o)
    | _ => .stuck
  | r => r
def unlE (n : Nat) : Res D → Res D
  | .ok d g => match g[n]? with
    | some (.frz o) => .ok d (g.set n o)
    | _ => .stuck
  | r => r
def isFrz : O → Bool
  | .frz _ => true
  | _ => false
def sLk (sel : Env' → G → Option Nat) (f : FS) : FS := fun ρ g => match sel ρ g with
  | none => f ρ g
  | some n => match g[n]? with
    | some o => if isFrz o then f ρ g else unlS n (f ρ (g.set n (.frz o)))
    | none => .stuck
def fLk (sel : Env' → G → Option Nat) (f : FE) : FE := fun ρ g => match sel ρ g with
  | none => f ρ g
  | some n => match g[n]? with
    | some o => if isFrz o then f ρ g else unlE n (f ρ (g.set n (.frz o)))
    | none => .stuck
theorem nfrz {o : O} (h : ¬ isFrz o = true) : ∀ o', o ≠ .frz o' := fun o' z => h (by rw [z]; rfl)
section
variable {C : Cfg} {X : Cx} {W : WX} {e : Expr} {st : Stmt} {f : FE} {fs : FS} {sel : Env' → G → Option Nat}
theorem dp_lk (h : DP C X W e f) : DP C X W e (fLk sel f) := by
  refine ⟨fun pins s σ H Q I hw => ?_⟩
  obtain ⟨ρ, ν, μ, g, hE, hR, hP⟩ := hw
  unfold fLk at hP
  split at hP
  · exact h.run pins s σ H Q I ⟨ρ, ν, μ, g, hE, hR, hP⟩
  · rename_i n _
    split at hP
    · rename_i o hg
      by_cases hf : isFrz o = true
      · rw [if_pos hf] at hP
        exact h.run pins s σ H Q I ⟨ρ, ν, μ, g, hE, hR, hP⟩
      · rw [if_neg hf] at hP
        have hlt := (List.getElem?_eq_some_iff.mp hg).1
        obtain ⟨a, hn⟩ : ∃ a, μ[n]? = some a := ⟨_, List.getElem?_eq_getElem (by rw [hR.len]; exact hlt)⟩
        have ha : a ∈ μ := List.mem_of_getElem? hn
        obtain ⟨u, hu, cu, hl⟩ := hR.lock hn hg (nfrz hf)
        refine (pe_lock h).run pins s σ H Q I ⟨a, u, hu, cu.mut, fun od => ?_⟩
        obtain ⟨R1, ex1⟩ := hl od
        refine ⟨ρ, ν, μ, g.set n (.frz o), hE.mono ex1.kp', R1, ?_⟩
        cases hr : f ρ (g.set n (.frz o)) with
        | stuck => rw [hr] at hP; exact hP.elim
        | err c g' =>
          rw [hr] at hP
          exact fun H' μ' ex R' => hP H' μ' (ex1.trans ex) R'
        | ok d g' =>
          rw [hr] at hP
          unfold unlE at hP
          dsimp only at hP
          split at hP
          · rename_i o' hg'
            intro v H' μ' ex R' rd
            have h1 : H' a = some (.frz od u) := ex.kp _ _ upd_same (.inr fix_frz) ntb_frz
            have hn' : μ'[n]? = some a := by
              obtain ⟨more, rfl, _⟩ := ex.mu
              rw [List.getElem?_append_left (List.getElem?_eq_some_iff.mp hn).1]; exact hn
            obtain ⟨_, R2⟩ := R'.unlock hn' hg' h1
            exact ⟨h1, hP v (upd H' a u) μ' (Ext.unlock cu ha hu ex1 upd_same ex) R2 (RepD.unlock h1 cu (List.mem_of_getElem? hn') d rd)⟩
          · exact hP.elim
    · exact hP.elim
theorem ds_lk (h : DS C X W st fs) : DS C X W st (sLk sel fs) := by
  refine ⟨fun pins s σ H E I hw => ?_⟩
  obtain ⟨ρ, ν, μ, g, hE, hR, hP⟩ := hw
  unfold sLk at hP
  split at hP
  · exact h.run pins s σ H E I ⟨ρ, ν, μ, g, hE, hR, hP⟩
  · rename_i n _
    split at hP
    · rename_i o hg
      by_cases hf : isFrz o = true
      · rw [if_pos hf] at hP
        exact h.run pins s σ H E I ⟨ρ, ν, μ, g, hE, hR, hP⟩
      · rw [if_neg hf] at hP
        have hlt := (List.getElem?_eq_some_iff.mp hg).1
        obtain ⟨a, hn⟩ : ∃ a, μ[n]? = some a := ⟨_, List.getElem?_eq_getElem (by rw [hR.len]; exact hlt)⟩
        have ha : a ∈ μ := List.mem_of_getElem? hn
        obtain ⟨u, hu, cu, hl⟩ := hR.lock hn hg (nfrz hf)
        refine (ps_lock h).run pins s σ H E I ⟨a, u, hu, cu.mut, fun od => ?_⟩
        obtain ⟨R1, ex1⟩ := hl od
        refine ⟨ρ, ν, μ, g.set n (.frz o), hE.mono ex1.kp', R1, ?_⟩
        have go : ∀ {H' : Hp} {μ' : List Addr} {g' : G} {o' : O}, Ext (upd H a (.frz od u)) μ H' μ' → RS C X.K H' ν μ' g' → g'[n]? = some (.frz o') → H' a = some (.frz od u) ∧ a ∈ μ' ∧ RS C X.K (upd H' a u) ν μ' (g'.set n o') ∧ Ext H μ (upd H' a u) μ' := fun {H' μ' g' o'} ex R' hg' => by
          have h1 : H' a = some (.frz od u) := ex.kp _ _ upd_same (.inr fix_frz) ntb_frz
          have hn' : μ'[n]? = some a := by
            obtain ⟨more, rfl, _⟩ := ex.mu
            rw [List.getElem?_append_left (List.getElem?_eq_some_iff.mp hn).1]; exact hn
          obtain ⟨_, R2⟩ := R'.unlock hn' hg' h1
          exact ⟨h1, List.mem_of_getElem? hn', R2, Ext.unlock cu ha hu ex1 upd_same ex⟩
        cases hr : fs ρ (g.set n (.frz o)) with
        | stuck => rw [hr] at hP; exact hP.elim
        | err c ρ' g' =>
          rw [hr] at hP
          exact fun σ' H' μ' ex R' hE' => hP σ' H' μ' (ex1.trans ex) R' hE'
        | nx ρ' g' =>
          rw [hr] at hP
          unfold unlS at hP
          dsimp only at hP
          split at hP
          · rename_i o' hg'
            intro σ' H' μ' ex R' hE'
            obtain ⟨h1, ha', R2, e2⟩ := go ex R' hg'
            exact ⟨h1, hP σ' _ μ' e2 R2 (hE'.unlock h1 cu ha')⟩
          · exact hP.elim
        | bk ρ' g' =>
          rw [hr] at hP
          unfold unlS at hP
          dsimp only at hP
          split at hP
          · rename_i o' hg'
            intro σ' H' μ' ex R' hE'
            obtain ⟨h1, ha', R2, e2⟩ := go ex R' hg'
            exact ⟨h1, hP σ' _ μ' e2 R2 (hE'.unlock h1 cu ha')⟩
          · exact hP.elim
        | ct ρ' g' =>
          rw [hr] at hP
          unfold unlS at hP
          dsimp only at hP
          split at hP
          · rename_i o' hg'
            intro σ' H' μ' ex R' hE'
            obtain ⟨h1, ha', R2, e2⟩ := go ex R' hg'
            exact ⟨h1, hP σ' _ μ' e2 R2 (hE'.unlock h1 cu ha')⟩
          · exact hP.elim
        | rt d g' =>
          rw [hr] at hP
          unfold unlS at hP
          dsimp only at hP
          split at hP
          · rename_i o' hg'
            intro v H' μ' ex R' rd
            obtain ⟨h1, ha', R2, e2⟩ := go ex R' hg'
            exact ⟨h1, hP v _ μ' e2 R2 (RepD.unlock h1 cu ha' d rd)⟩
          · exact hP.elim
    · exact hP.elim
end
/-! ### a list or a dictionary that is locked, walked -/
def keyOf : Key → D
  | .inl i => .int i
  | .inr s => .str s
def stillG (g : G) : D → Option (List D)
  | .loc n => match g[n]? with
    | some (.frz (.lst ds)) => some ds
    | some (.frz (.dic kvs)) => some (kvs.map fun p => keyOf p.1)
    | _ => none
  | d => still d
def iSeqL (f : FE) : FI := fun ρ g => (f ρ g).bind fun d g1 => match stillG g1 d with
  | some ds => .ok ds g1
  | none => .stuck
section
variable {K : PySem.W.Frag} {H H0 : Hp} {ν μ0 : List Addr} {ds : List D} {xs : List V} {a : Addr} {ob : Obj}
theorem keyOf_rd {k : Key} {μ : List Addr} : RepD K H ν μ (keyOf k) (kV k) := by cases k <;> rfl
theorem yields_frz (h : H0 a = some (.frz ob (.lst xs))) (r : RepL K H0 ν μ0 ds xs) : Yields K H0 ν μ0 ds (Itl K a) := fun i H k => by
  have q : SqL K H a xs := .inl (.inr ⟨ob, k _ _ h (.inr fix_frz) ntb_frz⟩)
  refine ⟨fun d hd => ?_, fun hi => ⟨xs, q, by rw [← RepL.length r]; exact hi⟩⟩
  obtain ⟨v, hv, rv⟩ := RepL.get r hd
  exact ⟨⟨xs, v, q, hv⟩, fun x H' ⟨e, y⟩ => .inl ⟨e, by
    have := y xs q
    rw [hv] at this; cases this; exact rv⟩⟩
theorem RepKV.at' {κ : Type} : ∀ {kvs : List (κ × D)} {xs : List (κ × V)} {i : Nat} {k : κ} {d : D}, RepKV K H ν μ0 kvs xs → kvs[i]? = some (k, d) → ∃ v, xs[i]? = some (k, v) ∧ RepD K H ν μ0 d v
  | [], xs, i, k, d, h, e => by simp at e
  | (q, d0) :: r, xs, 0, k, d, h, e => by
    unfold RepKV at h
    obtain ⟨v, r', rfl, h1, h2⟩ := h
    simp at e
    obtain ⟨rfl, rfl⟩ := e
    exact ⟨v, rfl, h1⟩
  | (q, d0) :: r, xs, i + 1, k, d, h, e => by
    unfold RepKV at h
    obtain ⟨v, r', rfl, h1, h2⟩ := h
    exact RepKV.at' (i := i) h2 (by simpa using e)
theorem yields_keys {kvs : List (Key × D)} {ws : List (Key × V)} (h : H0 a = some (.frz ob (.dK ws))) (r : RepKV K H0 ν μ0 kvs ws) : Yields K H0 ν μ0 (kvs.map fun p => keyOf p.1) (Itk a ob ws) := fun i H k => by
  have q := k _ _ h (.inr fix_frz) ntb_frz
  have hl := RepKV.len r
  refine ⟨fun d hd => ?_, fun hi => ⟨q, by rw [List.length_map] at hi; omega⟩⟩
  rw [List.getElem?_map] at hd
  cases hk : kvs[i]? with
  | none => rw [hk] at hd; cases hd
  | some p =>
    rw [hk] at hd
    cases hd
    obtain ⟨v, hv, _⟩ := RepKV.at' r (k := p.1) (d := p.2) hk
    refine ⟨⟨q, (List.getElem?_eq_some_iff.mp hv).1⟩, fun x H' ⟨e, k', v', e1, e2⟩ => .inl ⟨e, ?_⟩⟩
    rw [hv] at e1
    cases e1
    rw [e2]
    exact keyOf_rd
end
section
variable {C : Cfg} {X : Cx} {W : WX} {e tg : Expr} {f : FE}
theorem di_seqL (he : DP C X W e f) : DI C X W tg e (iSeqL f) := by
  refine ⟨fun pins s σ H R I h => ?_⟩
  obtain ⟨ρ, ν, μ, g, hE, hR, hP⟩ := h
  unfold iSeqL at hP
  by_cases hl : ∃ n g1, f ρ g = .ok (.loc n) g1
  · obtain ⟨n, g1, hf⟩ := hl
    rw [hf] at hP
    change (match (match stillG g1 (.loc n) with | some ds => Res.ok ds g1 | none => .stuck : Res (List D)) with
      | .ok items g' => ∀ J H' μ', Ext H μ H' μ' → RS C X.K H' ν μ' g' → Yields X.K H' ν μ' items J → R J H'
      | .err c g' => ∀ H' μ', Ext H μ H' μ' → RS C X.K H' ν μ' g' → W (.ref (C.exc c)) none σ H'
      | .stuck => False) at hP
    have key : ∀ items, stillG g1 (.loc n) = some items → (g1[n]? = some (.frz (.lst items)) ∨ ∃ kvs, g1[n]? = some (.frz (.dic kvs)) ∧ items = kvs.map fun p => keyOf p.1) := fun items e => by
      change (match g1[n]? with | some (.frz (.lst ds)) => some ds | some (.frz (.dic kvs)) => some (kvs.map fun p => keyOf p.1) | _ => none) = some items at e
      split at e
      · rename_i hg; cases e; exact .inl hg
      · rename_i hg; cases e; exact .inr ⟨_, hg, rfl⟩
      · cases e
    cases hs : stillG g1 (.loc n) with
    | none => rw [hs] at hP; exact hP.elim
    | some items =>
      rw [hs] at hP
      rcases key items hs with hg | ⟨kvs, hg, rfl⟩
      · refine (pi_list he).run pins s σ H R I ⟨ρ, ν, μ, g, hE, hR, ?_⟩
        rw [hf]
        intro v H' μ' ex R' r
        obtain ⟨a, rfl, hn⟩ := r
        obtain ⟨ob, u, h1, xs, rfl, h2⟩ : ∃ ob u, H' a = some (.frz ob u) ∧ ∃ xs, u = .lst xs ∧ RepL X.K H' ν μ' items xs := R'.ob n _ a hg hn
        exact ⟨a, rfl, ⟨xs, .inl (.inr ⟨ob, h1⟩)⟩, hP _ _ _ ex R' (yields_frz h1 h2)⟩
      · refine (pi_keys he).run pins s σ H R I ⟨ρ, ν, μ, g, hE, hR, ?_⟩
        rw [hf]
        intro v H' μ' ex R' r
        obtain ⟨a, rfl, hn⟩ := r
        obtain ⟨ob, u, h1, xs, rfl, h2⟩ : ∃ ob u, H' a = some (.frz ob u) ∧ ∃ xs, u = .dK xs ∧ RepKV X.K H' ν μ' kvs xs := R'.ob n _ a hg hn
        exact ⟨a, ob, rfl, .inl ⟨xs, h1, hP _ _ _ ex R' (yields_keys h1 h2)⟩⟩
  · refine (di_seq (tg := tg) he).run pins s σ H R I ⟨ρ, ν, μ, g, hE, hR, ?_⟩
    unfold iSeq
    cases hf : f ρ g with
    | err c g1 => rw [hf] at hP; exact hP
    | stuck => rw [hf] at hP; exact hP
    | ok d g1 =>
      rw [hf] at hP
      cases d with
      | loc n => exact absurd ⟨n, g1, hf⟩ hl
      | _ => exact hP
end
end Dl
end
section
set_option Elab.async false
set_option linter.all false
set_option maxRecDepth 100000
set_option maxHeartbeats 4000000
namespace Dl
open PySem PySem.Spec PyProof.Rows L2
/-! ### a tuple some times over -/
def rRepU (K : PySem.W.Frag) : R2 := fun x y H Q => ∃ l k xs, x = .ref l ∧ y = .int k ∧ SqT K H l xs ∧ xs ≠ [] ∧ 2 ≤ k ∧ k ≤ 1000000 ∧ xs.length * k.toNat ≤ 10000000 ∧ ∀ p, H p = none → Q (.ref p) (upd H p (.tup (List.replicate k.toNat xs).flatten))
section
variable {X : Cx} {C : Cfg}
theorem op_repU : OpR X (binaryOp .Mult) (rRepU X.K) := by
  intro pins s σ H x y v u Q I rx ry h
  obtain ⟨l, k, xs, rfl, rfl, hT, hne, h1, h2, hz, q⟩ := h
  cases rx
  obtain ⟨t, rfl⟩ := ry
  obtain ⟨its, r, ⟨⟨cls, dd, data, sl⟩, ho, hc, n, hd⟩, hs⟩ := I.tuple hT
  simp only at hc hd
  subst hc hd
  have hle : its.length = xs.length := r.length.symm
  have hn : its ≠ [] := fun e => hne (by
    rw [e] at hle
    exact List.eq_nil_of_length_eq_zero hle.symm)
  have hi : its.toArray.isEmpty = false := by
    cases its with
    | nil => exact absurd rfl hn
    | cons a b => rfl
  have hsz0 : its.toArray.size = xs.length := by rw [List.size_toArray, hle]
  have hm : ((its.toArray.size : Nat) : Int) * k ≤ 10000000 := by
    rw [hsz0]
    have e : ((xs.length * k.toNat : Nat) : Int) = (xs.length : Int) * k := by
      rw [Int.natCast_mul, Int.toNat_of_nonneg (by omega)]
    omega
  have flen : (List.replicate k.toNat its).flatten.length ≤ sizeLine := by
    rw [PyProof.Rows.lm_len_rep_flat, hle, sizeLine_eq, Nat.mul_comm]
    omega
  have c0 : (decide (k < -(2 ^ 63)) || decide (k ≥ 2 ^ 63)) = false := by
    rw [decide_eq_false (by omega), decide_eq_false (by omega)] <;> rfl
  have c1 : (its.toArray.isEmpty || k == 1) = false := by
    rw [hi, Bool.false_or]
    exact beq_eq_false_iff_ne.mpr (by omega)
  have c2 : (decide (k ≤ 0) || its.toArray.isEmpty) = false := by
    rw [hi, Bool.or_false]
    exact decide_eq_false (by omega)
  have c4 : Builtin.Tuple.tupleTooMany (((its.toArray.size : Nat) : Int) * k) = false := by
    unfold Builtin.Tuple.tupleTooMany
    rw [sizeLine_eq]
    exact decide_eq_false (by omega)
  refine wpAny_binaryOp_repeat_ref (T := "tuple") (U := "int") (by decide) ⟨_, ho, rfl⟩ (fun s' => typeIs_int s' k t) noFill_tuple_mul F.fills_int_mul F.slot_int_rmul repeat_tuple F.slot_int_index.lookup
    (call_meets F.slot_int_rmul (typeIs_int s k t) F.entry_int_rmul (F.args_int_rmul_2 _ _) (int_rmul_tuple k t l its.toArray n dd sl)
      ⟨ho, rfl, ⟨_, ho, rfl⟩, call_meets F.slot_tuple_mul ⟨_, ho, rfl⟩ F.entry_tuple_mul (F.args_tuple_mul_2 _ _) (tuple_mulW l its.toArray n dd sl k t c0 c1 c2 (by omega) c4 (by rw [size_rep, List.size_toArray]; exact flen)) ⟨ho, ?_⟩⟩)
  rw [size_rep]
  refine ⟨.ref s.heap.objs.size, _, I.laid (t' := s.toks) (o := .tup (List.replicate k.toNat xs).flatten) (fun b ob q => Heap.get?_push_of_some _ q) (Nat.le_refl _) ?_, rfl, q _ (I.hok.fresh (Nat.le_refl _))⟩
  exact ⟨by rw [PyProof.Rows.lm_len_rep_flat, sizeLine_eq, Nat.mul_comm]; omega, _, r.rep k.toNat, IsTup.new _ _⟩
def oMulT : F2
  | .tup a, .int k, g => if !a.isEmpty ∧ 2 ≤ k ∧ k ≤ 1000000 ∧ a.length * k.toNat ≤ 10000000 then .ok (.tup (List.replicate k.toNat a).flatten) g else .stuck
  | _, _, _ => .stuck
theorem oMulT_n : NoErr oMulT := noerr fun x y g c g' e => by unfold oMulT at e; split at e <;> (repeat' (split at e)) <;> cases e
theorem oMulT_ok : OpR X (binaryOp .Mult) (rD C X.K oMulT) := by
  intro pins s σ H x y v u Q I rx ry h
  obtain ⟨dx, dy, ν, μ, g, R, r1, r2, hP⟩ := h
  have hP := hP (fun _ _ _ _ => False) σ
  unfold oMulT at hP
  split at hP
  · unfold RepD at r1
    obtain ⟨a, xs, rfl, h1, h2⟩ := r1
    obtain rfl : y = .int _ := r2
    split at hP
    · rename_i hk
      obtain ⟨k0, k1, k2, k3⟩ := hk
      have q1 := RepL.length h2
      refine op_repU pins s σ H _ _ v u Q I rx ry ⟨a, _, xs, rfl, rfl, h1, ?_, k1, k2, by rw [← q1]; exact k3, rD_tup R (RepL.rep h2 _) hP⟩
      intro e
      subst e
      rw [List.length_nil] at q1
      rw [List.eq_nil_of_length_eq_zero q1] at k0
      exact absurd k0 (by decide)
    · exact hP.elim
  · exact hP.elim
end
end Dl
end
section
set_option Elab.async false
set_option linter.all false
set_option maxRecDepth 100000
set_option maxHeartbeats 1000000
namespace Dl
open PySem
/-! ### running denotations by simp -/
section
variable {α β : Type}
@[simp] theorem Res.bind_ok (a : α) (g : G) (k : α → G → Res β) : (Res.ok a g).bind k = k a g := id rfl
@[simp] theorem Res.bind_err (c : Nat) (g : G) (k : α → G → Res β) : (Res.err c g : Res α).bind k = .err c g := id rfl
@[simp] theorem Res.bind_stuck (k : α → G → Res β) : (Res.stuck : Res α).bind k = .stuck := id rfl
@[simp] theorem Res.toS_ok (a : α) (g : G) (ρ : Env') (k : α → G → RSt) : (Res.ok a g).toS ρ k = k a g := id rfl
@[simp] theorem Res.toS_err (c : Nat) (g : G) (ρ : Env') (k : α → G → RSt) : (Res.err c g : Res α).toS ρ k = .err c ρ g := id rfl
end
section
variable {ρ ρ1 ρ2 : Env'} {g g1 g2 : G} {a b c : Int} {x y z d e : D} {xs ys ds es : List D} {f fa fb fc : FE} {ft fu : FT} {fr : FA} {s t : FS} {n m i j : Nat} {p q : Bool} {o o' : F2} {fn : FN}
@[simp] theorem fVar_z : fVar 0 (some d :: ρ) g = .ok d g := id rfl
@[simp] theorem fVar_s : fVar (n + 1) (some x :: ρ) g = fVar n ρ g := id rfl
@[simp] theorem fVar_s' {w : Option D} : fVar (n + 1) (w :: ρ) g = fVar n ρ g := id rfl
@[simp] theorem fC_e : fC d ρ g = .ok d g := id rfl
@[simp] theorem fBin_e : fBin o fa fb ρ g = (fa ρ g).bind fun x g1 => (fb ρ g1).bind fun y g2 => o x y g2 := id rfl
@[simp] theorem fNil_e : fNil ρ g = .ok [] g := id rfl
@[simp] theorem fCons_e : fCons fa fr ρ g = (fa ρ g).bind fun x g1 => (fr ρ g1).bind fun r g2 => .ok (x :: r) g2 := id rfl
@[simp] theorem fCall_e : fCall fn fr ρ g = (fr ρ g).bind fun ds g1 => fn ds g1 := id rfl
@[simp] theorem fCall0_e : fCall0 fn ρ g = fn [] g := id rfl
@[simp] theorem fBi_e {fn : FB} : fBi fn fr ρ g = (fr ρ g).bind fun ds g1 => fn ds g1 := id rfl
theorem sz_le {n : Nat} (h : n ≤ 1000000) : n ≤ sizeLine := by rw [sizeLine_eq]; omega
def mkTup (ds : List D) (g1 : G) : Res D := if ds.length ≤ sizeLine then .ok (.tup ds) g1 else .stuck
@[simp] theorem fTup_e : fTup fr ρ g = (fr ρ g).bind mkTup := id rfl
@[simp] theorem mkTup_ok (h : ds.length ≤ 16777216) : mkTup ds g1 = .ok (.tup ds) g1 := by unfold mkTup; rw [if_pos (by rw [sizeLine_eq]; exact h)]
def mkLst (ds : List D) (g1 : G) : Res D := if ds.length ≤ sizeLine then .ok (.lst ds) g1 else .stuck
@[simp] theorem fLst_e : fLst fr ρ g = (fr ρ g).bind mkLst := id rfl
@[simp] theorem mkLst_ok (h : ds.length ≤ 16777216) : mkLst ds g1 = .ok (.lst ds) g1 := by unfold mkLst; rw [if_pos (by rw [sizeLine_eq]; exact h)]
def mkMut (ds : List D) (g1 : G) : Res D := if ds.length ≤ sizeLine then .ok (.loc g1.length) (g1 ++ [O.lst ds]) else .stuck
@[simp] theorem mkLst_nil : mkLst [] g = .ok (.lst []) g := rfl
@[simp] theorem fMut_e : fMut fr ρ g = (fr ρ g).bind mkMut := id rfl
@[simp] theorem mkMut_ok (h : ds.length ≤ 16777216) : mkMut ds g1 = .ok (.loc g1.length) (g1 ++ [O.lst ds]) := by unfold mkMut; rw [if_pos (by rw [sizeLine_eq]; exact h)]
@[simp] theorem fIf_e : fIf ft fa fb ρ g = (ft ρ g).bind fun c g1 => if c then fa ρ g1 else fb ρ g1 := id rfl
@[simp] theorem fB_bin : fB f ρ g = (f ρ g).bind fun x g1 => match x with
  | .bl b => .ok b g1
  | _ => .stuck := id rfl
@[simp] theorem fTru_e : fTru f ρ g = (f ρ g).bind fun x g1 => match tru g1 x with
  | some b => .ok b g1
  | none => .stuck := id rfl
@[simp] theorem tru_bl : tru g (.bl p) = some p := id rfl
@[simp] theorem tru_int : tru g (.int a) = some (a != 0) := id rfl
@[simp] theorem fNot_e : fNot ft ρ g = (ft ρ g).bind fun b g1 => .ok (!b) g1 := id rfl
@[simp] theorem fAnd_e : fAnd ft fu ρ g = (ft ρ g).bind fun b g1 => if b then fu ρ g1 else .ok false g1 := id rfl
@[simp] theorem fOr_e : fOr ft fu ρ g = (ft ρ g).bind fun b g1 => if b then .ok true g1 else fu ρ g1 := id rfl
@[simp] theorem fCh_e : fCh o o' fa fb fc ρ g = (fa ρ g).bind fun x g1 => (fb ρ g1).bind fun y g2 => (o x y g2).bind fun z g3 => match z with
  | .bl true => (fc ρ g3).bind fun w g4 => o' y w g4
  | .bl false => .ok (.bl false) g3
  | _ => .stuck := id rfl
@[simp] theorem fNeg_e : fNeg fa ρ g = (fa ρ g).bind fun x g1 => match x with
  | .int i => .ok (.int (-i)) g1
  | _ => .stuck := id rfl
@[simp] theorem fNotV_e : fNotV fa ρ g = (fa ρ g).bind fun x g1 => match tru g1 x with
  | some b => .ok (.bl (!b)) g1
  | none => .stuck := id rfl
@[simp] theorem sNil_e : sNil ρ g = .nx ρ g := id rfl
def RSt.seq (r : RSt) (f : FS) : RSt := match r with
  | .nx ρ g => f ρ g
  | r => r
@[simp] theorem sSeq_e : sSeq s t ρ g = (s ρ g).seq t := id rfl
@[simp] theorem seq_nx' : (RSt.nx ρ g).seq s = s ρ g := id rfl
@[simp] theorem seq_rt' : (RSt.rt d g).seq s = .rt d g := id rfl
@[simp] theorem seq_err' : (RSt.err n ρ g).seq s = .err n ρ g := id rfl
@[simp] theorem seq_ct' : (RSt.ct ρ g).seq s = .ct ρ g := id rfl
@[simp] theorem seq_bk' : (RSt.bk ρ g).seq s = .bk ρ g := id rfl
@[simp] theorem sIf_e : sIf ft s t ρ g = (ft ρ g).toS ρ fun b g1 => if b then s ρ g1 else t ρ g1 := id rfl
@[simp] theorem sErr_e : sErr n ρ g = .err n ρ g := id rfl
@[simp] theorem sEx_e : sEx f ρ g = (f ρ g).toS ρ fun _ g1 => .nx ρ g1 := id rfl
@[simp] theorem sRt_e : sRt f ρ g = (f ρ g).toS ρ fun d g1 => .rt d g1 := id rfl
@[simp] theorem sCt_e : sCt ρ g = .ct ρ g := id rfl
@[simp] theorem sBk_e : sBk ρ g = .bk ρ g := id rfl
@[simp] theorem sAsg_e {fg : FG} : sAsg f fg ρ g = (f ρ g).toS ρ fun d g1 => (fg d ρ g1).toS ρ fun ρ' g2 => .nx ρ' g2 := id rfl
@[simp] theorem gNm_e : gNm i d ρ g = .ok (ρ.set i (some d)) g := id rfl
@[simp] theorem sPar_e : sPar i j fr ρ g = (fr ρ g).toS ρ fun ds g1 => match ds with
  | [a, b] => .nx ((ρ.set i (some a)).set j (some b)) g1
  | _ => .stuck := id rfl
@[simp] theorem sPar3_e {l : Nat} : sPar3 i j l fr ρ g = (fr ρ g).toS ρ fun ds g1 => match ds with
  | [a, b, c] => .nx (((ρ.set i (some a)).set j (some b)).set l (some c)) g1
  | _ => .stuck := id rfl
@[simp] theorem gTp_tup {fg : FGs} (h : xs.length = n) : gTp n fg (.tup xs) ρ g = fg xs ρ g := by unfold gTp; simp [seqOf, h]
@[simp] theorem gsNil_e : gsNil [] ρ g = .ok ρ g := id rfl
@[simp] theorem gsCons_nm {fg : FGs} : gsCons (gNm i) fg (d :: ds) ρ g = match fg ds (ρ.set i (some d)) g with
  | .ok ρ2 g2 => .ok ρ2 g2
  | _ => .stuck := id rfl
@[simp] theorem sAug_z : sAug 0 o f (some x :: ρ) g = (f (some x :: ρ) g).toS (some x :: ρ) fun y g1 => (o x y g1).toS (some x :: ρ) fun z g2 => .nx (some z :: ρ) g2 := id rfl
theorem sAug_of (h : ρ[i]? = some (some x)) : sAug i o f ρ g = (f ρ g).toS ρ fun y g1 => (o x y g1).toS ρ fun z g2 => .nx (ρ.set i (some z)) g2 := by unfold sAug; rw [h]
/-! joins -/
@[simp] theorem ite_ok {α : Type} {a b : α} {c : Prop} [Decidable c] : (if c then Res.ok a g else Res.ok b g) = .ok (if c then a else b) g := by split <;> rfl
@[simp] theorem ite_nx {c : Prop} [Decidable c] : (if c then RSt.nx ρ1 g else RSt.nx ρ2 g) = .nx (if c then ρ1 else ρ2) g := by split <;> rfl
@[simp] theorem ite_rt {c : Prop} [Decidable c] : (if c then RSt.rt x g else RSt.rt y g) = .rt (if c then x else y) g := by split <;> rfl
@[simp] theorem ite_int {c : Prop} [Decidable c] : (if c then D.int a else D.int b) = .int (if c then a else b) := by split <;> rfl
@[simp] theorem ite_bl {c : Prop} [Decidable c] : (if c then D.bl p else D.bl q) = .bl (if c then p else q) := by split <;> rfl
@[simp] theorem ite_str {c : Prop} [Decidable c] {s t : Str} : (if c then D.str s else D.str t) = .str (if c then s else t) := by split <;> rfl
@[simp] theorem ite_tup {c : Prop} [Decidable c] : (if c then D.tup xs else D.tup ys) = .tup (if c then xs else ys) := by split <;> rfl
@[simp] theorem ite_lst {c : Prop} [Decidable c] : (if c then D.lst xs else D.lst ys) = .lst (if c then xs else ys) := by split <;> rfl
@[simp] theorem ite_cons {α : Type} {c : Prop} [Decidable c] {a b : α} {l l2 : List α} : (if c then a :: l else b :: l2) = (if c then a else b) :: (if c then l else l2) := by split <;> rfl
@[simp] theorem ite_some {α : Type} {c : Prop} [Decidable c] {a b : α} : (if c then some a else some b) = some (if c then a else b) := by split <;> rfl
/-! operators -/
@[simp] theorem oAdd_i : oAdd (.int a) (.int b) g = .ok (.int (a + b)) g := id rfl
@[simp] theorem oSub_i : oSub (.int a) (.int b) g = .ok (.int (a - b)) g := id rfl
@[simp] theorem oAddI_i : oAddI (.int a) (.int b) g = .ok (.int (a + b)) g := id rfl
@[simp] theorem oSubI_i : oSubI (.int a) (.int b) g = .ok (.int (a - b)) g := id rfl
theorem mulOk_l (h : -18446744073709551616 < a ∧ a < 18446744073709551616) : mulOk a b = true := by
  unfold mulOk
  rw [decide_eq_true (p := -(2 ^ 64) < a ∧ a < 2 ^ 64) h]
  simp
theorem mulOk_r (h : -18446744073709551616 < b ∧ b < 18446744073709551616) : mulOk a b = true := by
  unfold mulOk
  rw [decide_eq_true (p := -(2 ^ 64) < b ∧ b < 2 ^ 64) h]
  simp
theorem oMul_l (h : -18446744073709551616 < a ∧ a < 18446744073709551616) : oMul (.int a) (.int b) g = .ok (.int (a * b)) g := by
  show (if mulOk a b = true then Res.ok (D.int (a * b)) g else .stuck) = _
  rw [if_pos (mulOk_l h)]
theorem oMul_r (h : -18446744073709551616 < b ∧ b < 18446744073709551616) : oMul (.int a) (.int b) g = .ok (.int (a * b)) g := by
  show (if mulOk a b = true then Res.ok (D.int (a * b)) g else .stuck) = _
  rw [if_pos (mulOk_r h)]
theorem oDiv_p (h : 0 < b ∧ b < 1073741824) : oDiv (.int a) (.int b) g = .ok (.int (a / b)) g := by
  show (if b ≠ 0 ∧ b.natAbs < 1073741824 then Res.ok (D.int (a.fdiv b)) g else _) = _
  rw [if_pos ⟨by omega, by omega⟩, Int.fdiv_eq_ediv_of_nonneg a (by omega)]
theorem oMod_p (h : 0 < b) : oMod (.int a) (.int b) g = .ok (.int (a % b)) g := by
  show (if b ≠ 0 then Res.ok (D.int (a.fmod b)) g else .stuck) = _
  rw [if_pos (by omega), Int.fmod_eq_emod_of_nonneg a (by omega)]
theorem oShl_p (h : 0 ≤ b ∧ b ≤ 1000000 ∧ a.natAbs < 2 ^ 64) : oShl (.int a) (.int b) g = .ok (.int (a * 2 ^ b.toNat)) g := by
  show (if 0 ≤ b ∧ b ≤ 1000000 ∧ a.natAbs < 2 ^ 64 then Res.ok (D.int (a * 2 ^ b.toNat)) g else _) = _
  rw [if_pos h]
theorem oShr_p (h : 0 ≤ b) : oShr (.int a) (.int b) g = .ok (.int (a / 2 ^ b.toNat)) g := by
  show (if 0 ≤ b then Res.ok (D.int (a / 2 ^ b.toNat)) g else _) = _
  rw [if_pos h]
@[simp] theorem oLt_i : oLt (.int a) (.int b) g = .ok (.bl (decide (a < b))) g := id rfl
@[simp] theorem oLe_i : oLe (.int a) (.int b) g = .ok (.bl (decide (a ≤ b))) g := id rfl
@[simp] theorem oGt_i : oGt (.int a) (.int b) g = .ok (.bl (decide (b < a))) g := id rfl
@[simp] theorem oGe_i : oGe (.int a) (.int b) g = .ok (.bl (decide (b ≤ a))) g := id rfl
@[simp] theorem oEq_i : oEq (.int a) (.int b) g = .ok (.bl (a == b)) g := id rfl
@[simp] theorem oNe_i : oNe (.int a) (.int b) g = .ok (.bl (!(a == b))) g := id rfl
@[simp] theorem oIs_non : oIs x .non g = .ok (.bl (isNon x)) g := id rfl
@[simp] theorem oIsNot_non : oIsNot x .non g = .ok (.bl (!isNon x)) g := id rfl
@[simp] theorem bAbs_i : bAbs [.int a] g = .ok (.int (a.natAbs : Int)) g := by
  show Res.ok (D.int (if a < 0 then -a else a)) g = _
  have : (if a < 0 then -a else a) = (a.natAbs : Int) := by split <;> omega
  rw [this]
@[simp] theorem bMinA_i : bMinA [.int a, .int b] g = .ok (.int (min a b)) g := by
  show Res.ok (D.int (if b < a then b else a)) g = _
  have : (if b < a then b else a) = min a b := by split <;> omega
  rw [this]
@[simp] theorem bMaxA_i : bMaxA [.int a, .int b] g = .ok (.int (max a b)) g := by
  show Res.ok (D.int (if b > a then b else a)) g = _
  have : (if b > a then b else a) = max a b := by split <;> omega
  rw [this]
@[simp] theorem bInt_i : bInt [.int a] g = .ok (.int a) g := id rfl
@[simp] theorem bInt_b : bInt [.bl p] g = .ok (.int (if p then 1 else 0)) g := id rfl
@[simp] theorem bLen_t : bLen [.tup xs] g = .ok (.int xs.length) g := id rfl
@[simp] theorem bLen_l : bLen [.lst xs] g = .ok (.int xs.length) g := id rfl
@[simp] theorem bList_l : bList [.lst xs] g = .ok (.lst xs) g := id rfl
@[simp] theorem bList_t : bList [.tup xs] g = .ok (.lst xs) g := id rfl
@[simp] theorem bTuple_l : bTuple [.lst xs] g = .ok (.tup xs) g := id rfl
@[simp] theorem bTuple_t : bTuple [.tup xs] g = .ok (.tup xs) g := id rfl
@[simp] theorem lstOf_end : lstOf (g ++ [O.lst xs]) (.loc g.length) = some xs := by simp [lstOf]
@[simp] theorem bTuple_end : bTuple [.loc g.length] (g ++ [O.lst xs]) = .ok (.tup xs) (g ++ [O.lst xs]) := by
  show (match lstOf (g ++ [O.lst xs]) (.loc g.length) with
    | some ds => Res.ok (D.tup ds) (g ++ [O.lst xs])
    | none => .stuck) = _
  rw [lstOf_end]
@[simp] theorem isKind_end : isKind "list" (g ++ [O.lst xs]) (.loc g.length) = true := by simp [isKind]
@[simp] theorem set_end {u v : O} : (g ++ [u]).set g.length v = g ++ [v] := by simp
theorem mApp_end (h : xs.length < 16777216) : mApp (.loc g.length) [d] (g ++ [O.lst xs]) = .ok .non (g ++ [O.lst (xs ++ [d])]) := by
  have h : xs.length < sizeLine := by rw [sizeLine_eq]; exact h
  unfold mApp
  simp [h]
@[simp] theorem fMt_e {T : String} {om : FM} : fMt T om f fr ρ g = (f ρ g).bind fun x g1 => if isKind T g1 x then (fr ρ g1).bind fun ds g2 => om x ds g2 else .stuck := id rfl
/-! loops -/
@[simp] theorem sFor_e {fi : FI} {fg : FG} : sFor fi fg s ρ g = (fi ρ g).toS ρ fun items g1 => forD fg s items ρ g1 := id rfl
@[simp] theorem iSeq_e : iSeq f ρ g = (f ρ g).bind fun d g1 => match still d with
  | some ds => .ok ds g1
  | none => .stuck := id rfl
@[simp] theorem still_l : still (.lst xs) = some xs := id rfl
@[simp] theorem still_t : still (.tup xs) = some xs := id rfl
@[simp] theorem still_s {z : Str} : still (.str z) = some (signsD z) := id rfl
@[simp] theorem iRng_e {r : List D → Option (List D)} : iRng r fr ρ g = (fr ρ g).bind fun ds g1 => match r ds with
  | some items => .ok items g1
  | none => .stuck := id rfl
theorem small_of {a : Int} (h : -4611686018427387904 ≤ a ∧ a < 4611686018427387904) : small62 a = true := by
  unfold small62
  rw [decide_eq_true (p := -(2 ^ 62) ≤ a) h.1, decide_eq_true (p := a < 2 ^ 62) h.2]; rfl
theorem rng1_p (h : -4611686018427387904 ≤ a ∧ a < 4611686018427387904) : rng1 [.int a] = some (rangeD 0 a.toNat) := by
  show (if small62 a = true then some (rangeD 0 a.toNat) else none) = _
  rw [if_pos (small_of h)]
theorem rng2_p (h : -4611686018427387904 ≤ a ∧ a < 4611686018427387904) (h2 : -4611686018427387904 ≤ b ∧ b < 4611686018427387904) : rng2 [.int a, .int b] = some (rangeD a (b - a).toNat) := by
  show (if (small62 a && small62 b) = true then some (rangeD a (b - a).toNat) else none) = _
  rw [small_of h, small_of h2]; rfl
@[simp] theorem enmA_l : enmA [.lst xs] = some (enumD 0 xs) := id rfl
@[simp] theorem enmA_t : enmA [.tup xs] = some (enumD 0 xs) := id rfl
@[simp] theorem zppA_l : zppA [.lst xs, .lst ys] = some (zipD xs ys) := id rfl
@[simp] theorem zppA_t : zppA [.tup xs, .tup ys] = some (zipD xs ys) := id rfl
@[simp] theorem forD_nil {fg : FG} : forD fg s [] ρ g = .nx ρ g := id rfl
theorem forD_cons {fg : FG} : forD fg s (d :: ds) ρ g = match fg d ρ g with
  | .ok ρ1 g1 => match s ρ1 g1 with
    | .nx ρ2 g2 => forD fg s ds ρ2 g2
    | .ct ρ2 g2 => forD fg s ds ρ2 g2
    | .bk ρ2 g2 => .nx ρ2 g2
    | r => r
  | .err c g1 => .err c ρ g1
  | .stuck => .stuck := id rfl
/-- one turn that goes on -/
theorem forD_turn {fg : FG} (h1 : fg d ρ g = .ok ρ1 g1) (h2 : s ρ1 g1 = .nx ρ2 g2) : forD fg s (d :: ds) ρ g = forD fg s ds ρ2 g2 := by rw [forD_cons, h1]; show (match s ρ1 g1 with | .nx ρ2 g2 => _ | .ct ρ2 g2 => _ | .bk ρ2 g2 => _ | r => r) = _; rw [h2]
theorem whileD_stop (h : ft ρ g = .ok false g1) : whileD ft s (n + 1) ρ g = .nx ρ g1 := by unfold whileD; rw [h]; rfl
theorem whileD_turn (h : ft ρ g = .ok true g1) (h2 : s ρ g1 = .nx ρ2 g2) : whileD ft s (n + 1) ρ g = whileD ft s n ρ2 g2 := by
  show (ft ρ g).toS ρ _ = _
  rw [h]
  show (match s ρ g1 with | .nx ρ2 g2 => _ | .ct ρ2 g2 => _ | .bk ρ2 g2 => _ | r => r) = _
  rw [h2]
@[simp] theorem sWh_e {nf : Env' → G → Nat} : sWh ft s nf ρ g = whileD ft s (nf ρ g) ρ g := id rfl
/-! comprehensions -/
def sized {α β : Type} (xs : List α) (r : Res β) : Res β := if xs.length ≤ sizeLine then r else .stuck
@[simp] theorem sized_ok {α β : Type} {xs : List α} {r : Res β} (h : xs.length ≤ 16777216) : sized xs r = r := by unfold sized; rw [if_pos (by rw [sizeLine_eq]; exact h)]
@[simp] theorem lc_e {vs : List Nat} {fi : FI} {fg : FG} {fe : FE} : fLc vs fi fg ft fe ρ g = (fi ρ g).bind fun items g1 => sized items ((lcD vs fg ft fe ρ items g1).bind (fun ys g => .ok (.lst ys) g)) := id rfl
/-- a comprehension without a test whose steps leave the heap -/
theorem lcD_map {α : Type} {vs : List Nat} {fg : FG} {fe : FE} {enc : α → D} {v : α → D} : ∀ (l : List α), (∀ x ∈ l, ∃ ρ1, fg (enc x) (wipeD ρ vs) g = .ok ρ1 g ∧ fe ρ1 g = .ok (v x) g) → lcD vs fg fYes fe ρ (l.map enc) g = .ok (l.map v) g
  | [], _ => rfl
  | x :: r, h => by
    obtain ⟨ρ1, h1, h2⟩ := h x List.mem_cons_self
    have ih := lcD_map r fun y hy => h y (List.mem_cons_of_mem _ hy)
    rw [List.map_cons, List.map_cons]
    unfold lcD
    simp only [h1, fYes, h2, ih, Res.bind]
/-- a comprehension with a test -/
theorem lcD_filter {α : Type} {vs : List Nat} {fg : FG} {fe : FE} {enc : α → D} {v : α → D} {P : α → Bool} : ∀ (l : List α), (∀ x ∈ l, ∃ ρ1, fg (enc x) (wipeD ρ vs) g = .ok ρ1 g ∧ ft ρ1 g = .ok (P x) g ∧ (P x = true → fe ρ1 g = .ok (v x) g)) → lcD vs fg ft fe ρ (l.map enc) g = .ok ((l.filter P).map v) g
  | [], _ => rfl
  | x :: r, h => by
    obtain ⟨ρ1, h1, h2, h3⟩ := h x List.mem_cons_self
    have ih := lcD_filter (P := P) r fun y hy => h y (List.mem_cons_of_mem _ hy)
    rw [List.map_cons]
    unfold lcD
    cases hp : P x with
    | true =>
      rw [hp] at h2
      simp only [h1, h2, h3 hp, ih, Res.bind, List.filter_cons_of_pos hp, List.map_cons]
    | false =>
      rw [hp] at h2
      have : ¬ (P x = true) := by rw [hp]; decide
      simp only [h1, h2, ih, List.filter_cons_of_neg this]
@[simp] theorem gn_e {stp : List D → Go} {kk : List D → G → Res D} {vs : List Nat} {fi : FI} {fg : FG} {fe : FE} : fGn stp kk vs fi fg ft fe ρ g = (fi ρ g).bind fun items g1 => sized items (gnD stp kk vs fg ft fe ρ [] items g1) := id rfl
/-- any(e for x in xs), nothing changed -/
theorem gnD_any {α : Type} {vs : List Nat} {fg : FG} {fe : FE} {enc : α → D} {P : α → Bool} : ∀ (l : List α) (acc : List D), (∀ x ∈ l, ∃ ρ1, fg (enc x) (wipeD ρ vs) g = .ok ρ1 g ∧ fe ρ1 g = .ok (.bl (P x)) g) → gnD (stpB true) (kB true) vs fg fYes fe ρ acc (l.map enc) g = .ok (.bl (l.any P)) g
  | [], acc, _ => rfl
  | x :: r, acc, h => by
    obtain ⟨ρ1, h1, h2⟩ := h x List.mem_cons_self
    have ih := gnD_any r (acc ++ [.bl (P x)]) fun y hy => h y (List.mem_cons_of_mem _ hy)
    rw [List.map_cons]
    unfold gnD
    simp only [h1, fYes, h2, ih, List.any_cons]
    cases hp : P x <;> simp_all [stpB]
theorem gnD_all {α : Type} {vs : List Nat} {fg : FG} {fe : FE} {enc : α → D} {P : α → Bool} : ∀ (l : List α) (acc : List D), (∀ x ∈ l, ∃ ρ1, fg (enc x) (wipeD ρ vs) g = .ok ρ1 g ∧ fe ρ1 g = .ok (.bl (P x)) g) → gnD (stpB false) (kB false) vs fg fYes fe ρ acc (l.map enc) g = .ok (.bl (l.all P)) g
  | [], acc, _ => rfl
  | x :: r, acc, h => by
    obtain ⟨ρ1, h1, h2⟩ := h x List.mem_cons_self
    have ih := gnD_all r (acc ++ [.bl (P x)]) fun y hy => h y (List.mem_cons_of_mem _ hy)
    rw [List.map_cons]
    unfold gnD
    simp only [h1, fYes, h2, ih, List.all_cons]
    cases hp : P x <;> simp_all [stpB]
theorem intsOf_snoc (ns : List Int) : intsOf (ns.map D.int ++ [.int a]) = some (ns ++ [a]) := by
  have : ns.map D.int ++ [.int a] = (ns ++ [a]).map D.int := by simp
  rw [this, intsOf_map]
/-- sum(e for x in xs), nothing changed -/
theorem gnD_sum {α : Type} {vs : List Nat} {fg : FG} {fe : FE} {enc : α → D} {v : α → Int} : ∀ (l : List α) (ns : List Int), (∀ x ∈ l, ∃ ρ1, fg (enc x) (wipeD ρ vs) g = .ok ρ1 g ∧ fe ρ1 g = .ok (.int (v x)) g) → gnD stpI kSum vs fg fYes fe ρ (ns.map .int) (l.map enc) g = .ok (.int (ns.sum + (l.map v).sum)) g
  | [], ns, _ => by
    show (match intsOf (ns.map D.int) with | some ns => Res.ok (D.int ns.sum) g | none => .stuck) = _
    rw [intsOf_map]; simp
  | x :: r, ns, h => by
    obtain ⟨ρ1, h1, h2⟩ := h x List.mem_cons_self
    have ih := gnD_sum r (ns ++ [v x]) fun y hy => h y (List.mem_cons_of_mem _ hy)
    rw [List.map_cons]
    unfold gnD
    simp only [h1, fYes, h2, stpI, intsOf_snoc]
    rw [List.map_append] at ih
    rw [show [D.int (v x)] = List.map D.int [v x] from rfl, ih]
    simp [Int.add_assoc]
/-- tuple(e for x in xs), nothing changed -/
theorem gnD_tup {α : Type} {vs : List Nat} {fg : FG} {fe : FE} {enc : α → D} {v : α → D} : ∀ (l : List α) (acc : List D), (∀ x ∈ l, ∃ ρ1, fg (enc x) (wipeD ρ vs) g = .ok ρ1 g ∧ fe ρ1 g = .ok (v x) g) → gnD stpAll kTup vs fg fYes fe ρ acc (l.map enc) g = .ok (.tup (acc ++ l.map v)) g
  | [], acc, _ => by unfold gnD kTup; simp
  | x :: r, acc, h => by
    obtain ⟨ρ1, h1, h2⟩ := h x List.mem_cons_self
    have ih := gnD_tup r (acc ++ [v x]) fun y hy => h y (List.mem_cons_of_mem _ hy)
    rw [List.map_cons]
    unfold gnD
    simp only [h1, fYes, h2, stpAll, ih]
    simp
/-! whole lists -/
theorem bSumA_l (ns : List Int) : bSumA [.lst (ns.map .int)] g = .ok (.int ns.sum) g := by
  have : bSumS [.lst (ns.map .int)] g = .ok (.int ns.sum) g := by
    show (match intsOf (ns.map D.int) with | some ns => Res.ok (D.int ns.sum) g | none => .stuck) = _
    rw [intsOf_map]
  unfold bSumA; rw [this]
theorem bMaxA_l (n : Int) (ns : List Int) : bMaxA [.lst ((n :: ns).map .int)] g = .ok (.int (maxL (n :: ns))) g := by
  have : bMaxS [.lst ((n :: ns).map .int)] g = .ok (.int (maxL (n :: ns))) g := by
    show (match intsOf ((n :: ns).map D.int) with | some (n :: ns) => Res.ok (D.int (maxL (n :: ns))) g | _ => .stuck) = _
    rw [intsOf_map]
  unfold bMaxA; rw [this]
theorem bMinA_l (n : Int) (ns : List Int) : bMinA [.lst ((n :: ns).map .int)] g = .ok (.int (minL (n :: ns))) g := by
  have : bMinS [.lst ((n :: ns).map .int)] g = .ok (.int (minL (n :: ns))) g := by
    show (match intsOf ((n :: ns).map D.int) with | some (n :: ns) => Res.ok (D.int (minL (n :: ns))) g | _ => .stuck) = _
    rw [intsOf_map]
  unfold bMinA; rw [this]
theorem run_rt {m : Nat} {b : FS} {ds : List D} {g g1 : G} {d : D} (h : b (ds.map some ++ List.replicate (m - ds.length) none) g = .rt d g1) : runB m b ds g = .ok d g1 := by unfold runB; rw [h]
theorem run_nx {m : Nat} {b : FS} {ds : List D} {g g1 : G} {ρ : Env'} (h : b (ds.map some ++ List.replicate (m - ds.length) none) g = .nx ρ g1) : runB m b ds g = .ok .non g1 := by unfold runB; rw [h]
theorem run_err {m : Nat} {b : FS} {ds : List D} {g g1 : G} {ρ : Env'} {c : Nat} (h : b (ds.map some ++ List.replicate (m - ds.length) none) g = .err c ρ g1) : runB m b ds g = .err c g1 := by unfold runB; rw [h]
/-! places -/
theorem atI_n {α : Type} {xs : List α} {a : Int} {v : α} (h : 0 ≤ a) (e : xs[a.toNat]? = some v) : L2.atI xs a = some v := by
  have := L2.atI_nat e
  rwa [Int.toNat_of_nonneg h] at this
theorem oIx_l (h : 0 ≤ a) (e : xs[a.toNat]? = some d) : oIx (.lst xs) (.int a) g = .ok d g := by
  show (match L2.atI xs a with | some y => Res.ok y g | none => .stuck) = _
  rw [atI_n h e]
theorem oIx_t (h : 0 ≤ a) (e : xs[a.toNat]? = some d) : oIx (.tup xs) (.int a) g = .ok d g := by
  show (match L2.atI xs a with | some y => Res.ok y g | none => .stuck) = _
  rw [atI_n h e]
theorem getD_at {ns : List Int} (h : 0 ≤ a ∧ a < ns.length) : (ns.map D.int)[a.toNat]? = some (.int (ns.getD a.toNat 0)) := by
  have h2 : a.toNat < ns.length := by omega
  rw [List.getElem?_map, List.getD_eq_getElem?_getD, List.getElem?_eq_getElem h2]; rfl
theorem oIx_il {ns : List Int} (h : 0 ≤ a ∧ a < ns.length) : oIx (.lst (ns.map .int)) (.int a) g = .ok (.int (ns.getD a.toNat 0)) g := oIx_l h.1 (getD_at h)
theorem oIx_it {ns : List Int} (h : 0 ≤ a ∧ a < ns.length) : oIx (.tup (ns.map .int)) (.int a) g = .ok (.int (ns.getD a.toNat 0)) g := oIx_t h.1 (getD_at h)
theorem oIx_last : oIx (.lst (xs ++ [d])) (.int (-1)) g = .ok d g := by
  show (match L2.atI (xs ++ [d]) (-1) with | some y => Res.ok y g | none => .stuck) = _
  rw [L2.atI_last]
@[simp] theorem fSl_e {fl fh : FO} : fSl f fl fh ρ g = (f ρ g).bind fun x g1 => (fl ρ g1).bind fun l g2 => (fh ρ g2).bind fun h g3 => oSl x l h g3 := id rfl
@[simp] theorem fNo_e : fNo ρ g = .ok none g := id rfl
@[simp] theorem fSo_e : fSo f ρ g = (f ρ g).bind fun x g1 => match x with
  | .int i => .ok (some i) g1
  | _ => .stuck := id rfl
@[simp] theorem oSl_l {lo hi : Option Int} : oSl (.lst xs) lo hi g = .ok (.lst (cutD xs lo hi)) g := id rfl
@[simp] theorem oSl_t {lo hi : Option Int} : oSl (.tup xs) lo hi g = .ok (.tup (cutD xs lo hi)) g := id rfl
theorem sIx_p {n d : Nat} (h : 0 ≤ a) : HT.sIx n d (some a) = min a.toNat n := by
  have := HT.sIx_nat n d a.toNat
  rwa [Int.toNat_of_nonneg h] at this
theorem cutD_from (h : 0 ≤ a) : cutD xs (some a) none = xs.drop a.toNat := by
  unfold cutD
  rw [sIx_p h, HT.sIx_none]
  by_cases h2 : a.toNat ≤ xs.length
  · rw [Nat.min_eq_left h2, List.take_of_length_le (by simp)]
  · rw [Nat.min_eq_right (by omega), List.drop_of_length_le (Nat.le_refl _), List.drop_of_length_le (by omega)]; simp
theorem cutD_to (h : 0 ≤ a) : cutD xs none (some a) = xs.take a.toNat := by
  unfold cutD
  rw [sIx_p h, HT.sIx_none]
  simp only [List.drop_zero, Nat.sub_zero]
  by_cases h2 : a.toNat ≤ xs.length
  · rw [Nat.min_eq_left h2]
  · rw [Nat.min_eq_right (by omega), List.take_of_length_le (Nat.le_refl _), List.take_of_length_le (by omega)]
theorem cutD_mid (h : 0 ≤ a) (h1 : 0 ≤ b) : cutD xs (some a) (some b) = (xs.drop a.toNat).take (b.toNat - a.toNat) := by
  unfold cutD
  rw [sIx_p h, sIx_p h1]
  by_cases h2 : a.toNat ≤ xs.length
  · rw [Nat.min_eq_left h2]
    by_cases h3 : b.toNat ≤ xs.length
    · rw [Nat.min_eq_left h3]
    · rw [Nat.min_eq_right (by omega), List.take_of_length_le (by simp), List.take_of_length_le (by simp; omega)]
  · have e : min a.toNat xs.length = xs.length := by omega
    rw [e, List.drop_of_length_le (Nat.le_refl _), List.drop_of_length_le (by omega)]; simp
theorem cutD_last : cutD xs (some (-1)) none = xs.drop (xs.length - 1) := by
  unfold cutD
  have : HT.sIx xs.length 0 (some (-1)) = xs.length - 1 := by
    show (if (-1 : Int) < 0 then ((-1 : Int) + (xs.length : Int)).toNat else min (-1 : Int).toNat xs.length) = _
    rw [if_pos (by omega)]; omega
  rw [this, HT.sIx_none, List.take_of_length_le (by simp)]
theorem cutD_init : cutD xs none (some (-1)) = xs.take (xs.length - 1) := by
  unfold cutD
  have : HT.sIx xs.length xs.length (some (-1)) = xs.length - 1 := by
    show (if (-1 : Int) < 0 then ((-1 : Int) + (xs.length : Int)).toNat else min (-1 : Int).toNat xs.length) = _
    rw [if_pos (by omega)]; omega
  rw [this, HT.sIx_none]; simp
theorem oAdd_l (h : xs.length + ys.length ≤ 16777216) : oAdd (.lst xs) (.lst ys) g = .ok (.lst (xs ++ ys)) g := by
  show (if xs.length + ys.length ≤ sizeLine then Res.ok (D.lst (xs ++ ys)) g else .stuck) = _
  rw [if_pos (by rw [sizeLine_eq]; exact h)]
theorem oAdd_t (h : xs.length + ys.length ≤ 16777216) : oAdd (.tup xs) (.tup ys) g = .ok (.tup (xs ++ ys)) g := by
  show (if xs.length + ys.length ≤ sizeLine then Res.ok (D.tup (xs ++ ys)) g else .stuck) = _
  rw [if_pos (by rw [sizeLine_eq]; exact h)]
/-! locks -/
theorem fLk_none {sel : Env' → G → Option Nat} (h : sel ρ g = none) : fLk sel f ρ g = f ρ g := by unfold fLk; rw [h]
theorem sLk_none {sel : Env' → G → Option Nat} (h : sel ρ g = none) : sLk sel s ρ g = s ρ g := by unfold sLk; rw [h]
theorem fLk_at {sel : Env' → G → Option Nat} {u : O} (h : sel ρ g = some n) (hg : g[n]? = some u) (hf : isFrz u = false) : fLk sel f ρ g = unlE n (f ρ (g.set n (.frz u))) := by unfold fLk; rw [h]; simp only [hg, hf]; rfl
theorem sLk_at {sel : Env' → G → Option Nat} {u : O} (h : sel ρ g = some n) (hg : g[n]? = some u) (hf : isFrz u = false) : sLk sel s ρ g = unlS n (s ρ (g.set n (.frz u))) := by unfold sLk; rw [h]; simp only [hg, hf]; rfl
theorem unlE_end {u : O} : unlE g.length (.ok d (g ++ [O.frz u])) = .ok d (g ++ [u]) := by unfold unlE; simp
@[simp] theorem iSeqL_e : iSeqL f ρ g = (f ρ g).bind fun d g1 => match stillG g1 d with
  | some ds => .ok ds g1
  | none => .stuck := id rfl
@[simp] theorem stillG_l : stillG g (.lst xs) = some xs := rfl
@[simp] theorem stillG_t : stillG g (.tup xs) = some xs := rfl
@[simp] theorem stillG_end : stillG (g ++ [O.frz (O.lst xs)]) (.loc g.length) = some xs := by simp [stillG]
abbrev il (ns : List Int) : D := .lst (ns.map .int)
abbrev it (ns : List Int) : D := .tup (ns.map .int)
end
end Dl
end
section
set_option Elab.async false
set_option linter.all false
set_option maxRecDepth 100000
set_option maxHeartbeats 1000000
namespace Dl
open PySem
/-! ### shares, plainly -/
def sg (b : Int) : Int := if 0 < b then 1 else -1
def nrm (a b : Int) : Int × Int := (sg b * a / (Int.gcd a b : Int), sg b * b / (Int.gcd a b : Int))
theorem gcd_step (l r : Int) (hl : 0 ≤ l) (hr : 0 < r) : Int.gcd r (l % r) = Int.gcd l r := by
  have e : (l % r).natAbs = l.natAbs % r.natAbs := by
    rw [Int.natAbs_emod l (by omega), if_pos (.inl hl)]
  show Nat.gcd r.natAbs (l % r).natAbs = Nat.gcd l.natAbs r.natAbs
  rw [e, Nat.gcd_comm l.natAbs, Nat.gcd_rec r.natAbs l.natAbs, Nat.gcd_comm]
theorem sg_cases (b : Int) : sg b = 1 ∨ sg b = -1 := by unfold sg; split <;> simp
theorem gcd_pos {a b : Int} (h : b ≠ 0) : 0 < (Int.gcd a b : Int) := by
  have : Int.gcd a b ≠ 0 := fun e => h ((Int.gcd_eq_zero_iff.mp e).2)
  omega
theorem gcd_le {a b : Int} (h : b ≠ 0) : (Int.gcd a b : Int) ≤ b.natAbs := by
  have := Nat.le_of_dvd (by omega : 0 < b.natAbs) (Nat.gcd_dvd_right a.natAbs b.natAbs)
  exact_mod_cast this
theorem gcd_abs (a b : Int) : Int.gcd (a.natAbs : Int) (b.natAbs : Int) = Int.gcd a b := by simp [Int.gcd]
/-! ### places told -/
def mapFrom {α β : Type} (f : Nat → α → β) : Nat → List α → List β
  | _, [] => []
  | k, x :: r => f k x :: mapFrom f (k + 1) r
theorem mapFrom_len {α β : Type} (f : Nat → α → β) : ∀ (l : List α) (k : Nat), (mapFrom f k l).length = l.length
  | [], _ => rfl
  | x :: r, k => by simp [mapFrom, mapFrom_len f r]
theorem mapFrom_map {α β γ : Type} (f : Nat → α → β) (h : β → γ) : ∀ (l : List α) (k : Nat), (mapFrom f k l).map h = mapFrom (fun k x => h (f k x)) k l
  | [], _ => rfl
  | x :: r, k => by simp [mapFrom, mapFrom_map f h r]
theorem mapFrom_get {α β : Type} (f : Nat → α → β) : ∀ (l : List α) (k i : Nat), (mapFrom f k l)[i]? = l[i]?.map (f (k + i))
  | [], _, _ => by simp [mapFrom]
  | x :: r, k, 0 => by simp [mapFrom]
  | x :: r, k, i + 1 => by
    simp only [mapFrom, List.getElem?_cons_succ]
    rw [mapFrom_get f r (k + 1) i, show k + 1 + i = k + (i + 1) by omega]
section
variable {ρ : Env'} {g : G} {vs : List Nat} {fg : FG} {fe : FE}
/-- over enumerate -/
theorem lcD_enum {α : Type} {enc : α → D} {v : Nat → α → D} : ∀ (l : List α) (k : Nat), (∀ i x, l[i]? = some x → ∃ ρ1, fg (.tup [.int ((k + i : Nat) : Int), enc x]) (wipeD ρ vs) g = .ok ρ1 g ∧ fe ρ1 g = .ok (v (k + i) x) g) →
    lcD vs fg fYes fe ρ (enumD k (l.map enc)) g = .ok (mapFrom v k l) g
  | [], _, _ => rfl
  | x :: r, k, h => by
    obtain ⟨ρ1, h1, h2⟩ := h 0 x rfl
    have ih := lcD_enum (v := v) r (k + 1) fun i y hy => by
      have := h (i + 1) y (by simpa using hy)
      rwa [show k + (i + 1) = k + 1 + i by omega] at this
    rw [List.map_cons]
    unfold enumD lcD mapFrom
    simp only [Nat.add_zero] at h1 h2
    simp only [h1, fYes, h2, ih, Res.bind]
theorem zipD_map {α β : Type} {f : α → D} {h : β → D} : ∀ (l : List α) (m : List β), zipD (l.map f) (m.map h) = (l.zip m).map fun p => .tup [f p.1, h p.2]
  | [], _ => by simp [zipD]
  | x :: r, [] => by simp [zipD]
  | x :: r, y :: q => by simp [zipD, zipD_map r q]
theorem rangeD_map (lo : Int) (n : Nat) : rangeD lo n = (List.range n).map fun (k : Nat) => D.int (lo + (k : Int)) := rfl
theorem enumD_len : ∀ (l : List D) (k : Nat), (enumD k l).length = l.length
  | [], _ => rfl
  | x :: r, k => by simp [enumD, enumD_len r]
theorem zipD_len (l m : List D) : (zipD l m).length ≤ l.length := by
  induction l generalizing m with
  | nil => simp [zipD]
  | cons x r ih => cases m with
    | nil => simp [zipD]
    | cons y q => simp [zipD, ih q]
end
end Dl
end
section
set_option Elab.async false
set_option linter.all false
set_option maxRecDepth 100000
set_option maxHeartbeats 1000000
namespace Dl
open PySem
/-! ### equal data -/
def okP : Nat → D → Bool
  | 0, _ => false
  | n + 1, .non => true
  | n + 1, .bl _ => true
  | n + 1, .int _ => true
  | n + 1, .str s => PyData.strOk s
  | n + 1, .tup ds => ds.all (okP n)
  | n + 1, .lst ds => ds.all (okP n)
  | n + 1, .scr _ => false
  | n + 1, .loc _ => false
theorem pyAll {g : G} {n : Nat} (ih : ∀ d, okP n d = true → ∃ p, toPy g n d = some p ∧ p.canLay0 = true ∧ p.depth ≤ n) : ∀ ds : List D, ds.all (okP n) = true → ∃ ps, optAll (ds.map (toPy g n)) = some ps ∧ PyData.canLayAll0 ps = true ∧ PyData.depthAll ps ≤ n
  | [], _ => ⟨[], rfl, rfl, Nat.zero_le _⟩
  | d :: r, h => by
    rw [List.all_cons, Bool.and_eq_true] at h
    obtain ⟨p, h1, h2, h3⟩ := ih d h.1
    obtain ⟨ps, q1, q2, q3⟩ := pyAll ih r h.2
    refine ⟨p :: ps, ?_, ?_, ?_⟩
    · rw [List.map_cons, h1]
      show (optAll (r.map (toPy g n))).map (p :: ·) = _
      rw [q1]; rfl
    · show (p.canLay0 && PyData.canLayAll0 ps) = true
      rw [h2, q2]; rfl
    · show max p.depth (PyData.depthAll ps) ≤ n
      omega
theorem okP_py (g : G) : ∀ (n : Nat) (d : D), okP n d = true → ∃ p, toPy g n d = some p ∧ p.canLay0 = true ∧ p.depth ≤ n
  | 0, d, h => by cases h
  | n + 1, .non, _ => ⟨_, rfl, rfl, Nat.zero_le _⟩
  | n + 1, .bl _, _ => ⟨_, rfl, rfl, Nat.zero_le _⟩
  | n + 1, .int _, _ => ⟨_, rfl, rfl, Nat.zero_le _⟩
  | n + 1, .str s, h => ⟨_, rfl, h, Nat.zero_le _⟩
  | n + 1, .tup ds, h => by
    obtain ⟨ps, h1, h2, h3⟩ := pyAll (okP_py g n) ds h
    refine ⟨.tuple ps, ?_, h2, ?_⟩
    · show (optAll (ds.map (toPy g n))).map PyData.tuple = _
      rw [h1]; rfl
    · show PyData.depthAll ps + 1 ≤ n + 1
      omega
  | n + 1, .lst ds, h => by
    obtain ⟨ps, h1, h2, h3⟩ := pyAll (okP_py g n) ds h
    refine ⟨.list ps, ?_, h2, ?_⟩
    · show (optAll (ds.map (toPy g n))).map PyData.list = _
      rw [h1]; rfl
    · show PyData.depthAll ps + 1 ≤ n + 1
      omega
  | n + 1, .scr _, h => by cases h
  | n + 1, .loc _, h => by cases h
theorem shaped_of {p : PyData} (h : p.canLay0 = true) (h2 : p.depth ≤ 12) : SeqAt.shaped p = true := by
  unfold SeqAt.shaped
  rw [h, decide_eq_true (by omega)]; rfl
theorem eqPy_same {g : G} {d : D} (h : okP 12 d = true) : eqPy g d d = some true := by
  obtain ⟨p, h1, h2, h3⟩ := okP_py g 12 d h
  unfold eqPy
  rw [h1]
  show (if (SeqAt.shaped p && SeqAt.shaped p) = true then some (PyData.eqv p p) else none) = _
  rw [shaped_of h2 h3, SeqAt.eqv_refl p h2]; rfl
theorem oNe_refl {g : G} {d : D} (h : okP 12 d = true) : oNe d d g = .ok (.bl false) g := by unfold oNe; rw [eqPy_same h]; rfl
theorem oEq_refl {g : G} {d : D} (h : okP 12 d = true) : oEq d d g = .ok (.bl true) g := by unfold oEq; rw [eqPy_same h]
/-! ### data by their types -/
class Enc (α : Type) [DecidableEq α] extends PySem.W.Datum α where
  enc : α → D
  ok : α → Prop
  py : ∀ g n a, depth < n → toPy g n (enc a) = some (toD a)
  sh : ∀ a, ok a → (toD a).canLay0 = true
open PySem.W in
instance : Enc Int where
  enc := .int
  ok _ := True
  py g n a h := by cases n with
    | zero => exact absurd h (by omega)
    | succ n => rfl
  sh a _ := rfl
open PySem.W in
instance : Enc Bool where
  enc := .bl
  ok _ := True
  py g n a h := by cases n with
    | zero => exact absurd h (by omega)
    | succ n => rfl
  sh a _ := rfl
open PySem.W in
instance : Enc Str where
  enc := .str
  ok s := PyData.strOk s = true
  py g n a h := by cases n with
    | zero => exact absurd h (by omega)
    | succ n => rfl
  sh a h := h
open PySem.W in
instance {α : Type} [DecidableEq α] [Enc α] : Enc (List α) where
  enc l := .lst (l.map Enc.enc)
  ok l := ∀ x ∈ l, Enc.ok x
  py g n l h := by
    cases n with
    | zero => exact absurd h (by omega)
    | succ n =>
      have hd : Datum.depth α + 1 < n + 1 := h
      show (optAll ((l.map Enc.enc).map (toPy g n))).map PyData.list = some (.list (l.map Datum.toD))
      have : ∀ l : List α, optAll ((l.map Enc.enc).map (toPy g n)) = some (l.map Datum.toD) := fun l => by
        induction l with
        | nil => rfl
        | cons x r ih =>
          rw [List.map_cons, List.map_cons, Enc.py g n x (by omega)]
          show (optAll ((r.map Enc.enc).map (toPy g n))).map _ = _
          rw [ih]; rfl
      rw [this]; rfl
  sh l h := by
    show PyData.canLayAll0 (l.map Datum.toD) = true
    induction l with
    | nil => rfl
    | cons x r ih =>
      show ((Datum.toD x).canLay0 && PyData.canLayAll0 (r.map Datum.toD)) = true
      rw [Enc.sh x (h x List.mem_cons_self), ih fun y hy => h y (List.mem_cons_of_mem _ hy)]; rfl
open PySem.W in
instance {α β : Type} [DecidableEq α] [Enc α] [DecidableEq β] [Enc β] : Enc (α × β) where
  enc p := .tup [Enc.enc p.1, Enc.enc p.2]
  ok p := Enc.ok p.1 ∧ Enc.ok p.2
  py g n p h := by
    cases n with
    | zero => exact absurd h (by omega)
    | succ n =>
      have hd : max (Datum.depth α) (Datum.depth β) + 1 < n + 1 := h
      show (optAll [toPy g n (Enc.enc p.1), toPy g n (Enc.enc p.2)]).map PyData.tuple = _
      rw [Enc.py g n p.1 (by omega), Enc.py g n p.2 (by omega)]; rfl
  sh p h := by
    show ((Datum.toD p.1).canLay0 && ((Datum.toD p.2).canLay0 && true)) = true
    rw [Enc.sh _ h.1, Enc.sh _ h.2]; rfl
section
variable {α : Type} [DecidableEq α] [Enc α] {g : G}
open PySem.W in
theorem eqPy_enc (a b : α) (ha : Enc.ok a) (hb : Enc.ok b) (hd : Datum.depth α < 12 := by decide) : eqPy g (Enc.enc a) (Enc.enc b) = some (decide (a = b)) := by
  unfold eqPy
  rw [Enc.py g 12 a hd, Enc.py g 12 b hd]
  show (if (SeqAt.shaped (Datum.toD a) && SeqAt.shaped (Datum.toD b)) = true then some (PyData.eqv (Datum.toD a) (Datum.toD b)) else none) = _
  rw [shaped_of (Enc.sh a ha) (by have := Datum.depth_le a; omega), shaped_of (Enc.sh b hb) (by have := Datum.depth_le b; omega), Datum.eqv]; rfl
theorem oEq_enc (a b : α) (ha : Enc.ok a) (hb : Enc.ok b) (hd : PySem.W.Datum.depth α < 12 := by decide) : oEq (Enc.enc a) (Enc.enc b) g = .ok (.bl (decide (a = b))) g := by unfold oEq; rw [eqPy_enc a b ha hb hd]
theorem oNe_enc (a b : α) (ha : Enc.ok a) (hb : Enc.ok b) (hd : PySem.W.Datum.depth α < 12 := by decide) : oNe (Enc.enc a) (Enc.enc b) g = .ok (.bl (!decide (a = b))) g := by unfold oNe; rw [eqPy_enc a b ha hb hd]
theorem any_enc (a : α) : ∀ l : List α, ((l.map PySem.W.Datum.toD).any fun z => PyData.eqv z (PySem.W.Datum.toD a)) = decide (a ∈ l)
  | [] => by simp
  | x :: r => by
    rw [List.map_cons, List.any_cons, PySem.W.Datum.eqv, any_enc a r]
    by_cases h : x = a
    · simp [h]
    · have h2 : ¬ a = x := fun z => h z.symm
      simp [h, h2]
theorem inPy_l (x : D) (ys : List D) : inPy g x (.lst ys) = match toPy g 12 x, toPy g 12 (.lst ys) with
    | some d, some (.list es) => if SeqAt.shaped d && SeqAt.shaped (.list es) then some (es.any fun z => PyData.eqv z d) else none
    | some d, some (.tuple es) => if SeqAt.shaped d && SeqAt.shaped (.tuple es) then some (es.any fun z => PyData.eqv z d) else none
    | _, _ => none := by cases x <;> rfl
open PySem.W in
theorem inPy_enc (a : α) (l : List α) (ha : Enc.ok a) (hl : ∀ x ∈ l, Enc.ok x) (hd : Datum.depth α < 11 := by decide) : inPy g (Enc.enc a) (.lst (l.map Enc.enc)) = some (decide (a ∈ l)) := by
  have e1 := Enc.py g 12 a (by omega)
  have e2 : toPy g 12 (.lst (l.map Enc.enc)) = some (.list (l.map Datum.toD)) := Enc.py g 12 l (show Datum.depth α + 1 < 12 by omega)
  have s1 : SeqAt.shaped (Datum.toD a) = true := shaped_of (Enc.sh a ha) (by have := Datum.depth_le a; omega)
  have s2 : SeqAt.shaped (.list (l.map Datum.toD)) = true := shaped_of (p := .list (l.map Datum.toD)) (Enc.sh l hl) (Nat.le_trans (Datum.depth_le l) (show Datum.depth α + 1 ≤ 12 by omega))
  rw [inPy_l, e1, e2]
  show (if (SeqAt.shaped (Datum.toD a) && SeqAt.shaped (.list (l.map Datum.toD))) = true then some ((l.map Datum.toD).any fun z => PyData.eqv z (Datum.toD a)) else none) = _
  rw [s1, s2, any_enc]; rfl
theorem oIn_enc (a : α) (l : List α) (ha : Enc.ok a) (hl : ∀ x ∈ l, Enc.ok x) (hd : PySem.W.Datum.depth α < 11 := by decide) : oInK (Enc.enc a) (.lst (l.map Enc.enc)) g = .ok (.bl (decide (a ∈ l))) g := by
  show oIn (Enc.enc a) (.lst (l.map Enc.enc)) g = _
  unfold oIn; rw [inPy_enc a l ha hl hd]
theorem oNIn_enc (a : α) (l : List α) (ha : Enc.ok a) (hl : ∀ x ∈ l, Enc.ok x) (hd : PySem.W.Datum.depth α < 11 := by decide) : oNInK (Enc.enc a) (.lst (l.map Enc.enc)) g = .ok (.bl (!decide (a ∈ l))) g := by
  show oNIn (Enc.enc a) (.lst (l.map Enc.enc)) g = _
  unfold oNIn; rw [inPy_enc a l ha hl hd]
end
/-! ### the usual kinds -/
section
variable {g : G}
theorem oNe_il (a b : List Int) : oNe (il a) (il b) g = .ok (.bl (!decide (a = b))) g := oNe_enc a b (fun _ _ => trivial) (fun _ _ => trivial)
theorem oEq_il (a b : List Int) : oEq (il a) (il b) g = .ok (.bl (decide (a = b))) g := oEq_enc a b (fun _ _ => trivial) (fun _ _ => trivial)
theorem oNe_p2 (a b c d : Int) : oNe (.tup [.int a, .int b]) (.tup [.int c, .int d]) g = .ok (.bl (!decide (a = c ∧ b = d))) g := by
  have := oNe_enc (g := g) (a, b) (c, d) ⟨trivial, trivial⟩ ⟨trivial, trivial⟩
  simp only [Prod.mk.injEq] at this
  exact this
theorem oNIn_il (a : Int) (l : List Int) : oNInK (.int a) (il l) g = .ok (.bl (!decide (a ∈ l))) g := oNIn_enc a l trivial (fun _ _ => trivial)
theorem oIn_il (a : Int) (l : List Int) : oInK (.int a) (il l) g = .ok (.bl (decide (a ∈ l))) g := oIn_enc a l trivial (fun _ _ => trivial)
theorem lt_p2 (a b c d : Int) : PySem.W.dataLt (.tuple [.int a, .int b]) (.tuple [.int c, .int d]) = if a = c then decide (b < d) else decide (a < c) := PySem.W.DatumOrd.lt_eq (a, b) (c, d)
end
end Dl
end
section
set_option Elab.async false
set_option linter.all false
set_option maxRecDepth 100000
set_option maxHeartbeats 1000000
namespace Dl
open PySem
/-! ### steps -/
theorem seq_nx {a b : FS} {ρ ρ1 : Env'} {g g1 : G} (h : a ρ g = .nx ρ1 g1) : sSeq a b ρ g = b ρ1 g1 := by unfold sSeq; rw [h]
theorem seq_rt {a b : FS} {ρ : Env'} {g g1 : G} {d : D} (h : a ρ g = .rt d g1) : sSeq a b ρ g = .rt d g1 := by unfold sSeq; rw [h]
theorem if_skip {t : FT} {a b : FS} {ρ : Env'} {g g1 : G} (h : t ρ g = .ok false g1) : sIf t a b ρ g = b ρ g1 := by unfold sIf; rw [h]; rfl
theorem if_nil {t : FT} {a : FS} {ρ : Env'} {g g1 : G} (h : t ρ g = .ok false g1) : sIf t a sNil ρ g = .nx ρ g1 := by unfold sIf; rw [h]; rfl
theorem if_take {t : FT} {a b : FS} {ρ : Env'} {g g1 : G} (h : t ρ g = .ok true g1) : sIf t a b ρ g = a ρ g1 := by unfold sIf; rw [h]; rfl
theorem fB_ok {f : FE} {ρ : Env'} {g g1 : G} {b : Bool} (h : f ρ g = .ok (.bl b) g1) : fB f ρ g = .ok b g1 := by unfold fB; rw [h]; rfl
theorem bin_ok {o : F2} {f1 f2 : FE} {ρ : Env'} {g g1 g2 : G} {d e : D} (h1 : f1 ρ g = .ok d g1) (h2 : f2 ρ g1 = .ok e g2) : fBin o f1 f2 ρ g = o d e g2 := by unfold fBin; rw [h1]; show (f2 ρ g1).bind _ = _; rw [h2]; rfl
theorem cons_ok {f : FE} {r : FA} {ρ : Env'} {g g1 g2 : G} {d : D} {ds : List D} (h1 : f ρ g = .ok d g1) (h2 : r ρ g1 = .ok ds g2) : fCons f r ρ g = .ok (d :: ds) g2 := by unfold fCons; rw [h1]; show (r ρ g1).bind _ = _; rw [h2]; rfl
theorem call_ok {fn : FN} {r : FA} {ρ : Env'} {g g2 : G} {ds : List D} (h : r ρ g = .ok ds g2) : fCall fn r ρ g = fn ds g2 := by unfold fCall; rw [h]; rfl
theorem bi_ok {fn : FB} {r : FA} {ρ : Env'} {g g2 : G} {ds : List D} (h : r ρ g = .ok ds g2) : fBi fn r ρ g = fn ds g2 := by unfold fBi; rw [h]; rfl
theorem tup_ok {r : FA} {ρ : Env'} {g g2 : G} {ds : List D} (h : r ρ g = .ok ds g2) (hl : ds.length ≤ sizeLine) : fTup r ρ g = .ok (.tup ds) g2 := by unfold fTup; rw [h]; show (if ds.length ≤ sizeLine then _ else _) = _; rw [if_pos hl]
theorem or_ff {a b : FT} {ρ : Env'} {g g1 : G} (h : a ρ g = .ok false g1) : fOr a b ρ g = b ρ g1 := by unfold fOr; rw [h]; rfl
theorem or_tt {a b : FT} {ρ : Env'} {g g1 : G} (h : a ρ g = .ok true g1) : fOr a b ρ g = .ok true g1 := by unfold fOr; rw [h]; rfl
theorem and_tt {a b : FT} {ρ : Env'} {g g1 : G} (h : a ρ g = .ok true g1) : fAnd a b ρ g = b ρ g1 := by unfold fAnd; rw [h]; rfl
theorem and_ff {a b : FT} {ρ : Env'} {g g1 : G} (h : a ρ g = .ok false g1) : fAnd a b ρ g = .ok false g1 := by unfold fAnd; rw [h]; rfl
theorem not_ok {a : FT} {ρ : Env'} {g g1 : G} {b : Bool} (h : a ρ g = .ok b g1) : fNot a ρ g = .ok (!b) g1 := by unfold fNot; rw [h]; rfl
theorem fif_tt {t : FT} {a b : FE} {ρ : Env'} {g g1 : G} (h : t ρ g = .ok true g1) : fIf t a b ρ g = a ρ g1 := by unfold fIf; rw [h]; rfl
theorem fif_ff {t : FT} {a b : FE} {ρ : Env'} {g g1 : G} (h : t ρ g = .ok false g1) : fIf t a b ρ g = b ρ g1 := by unfold fIf; rw [h]; rfl
theorem asg_ok {f : FE} {fg : FG} {ρ ρ2 : Env'} {g g1 g2 : G} {d : D} (h : f ρ g = .ok d g1) (h2 : fg d ρ g1 = .ok ρ2 g2) : sAsg f fg ρ g = .nx ρ2 g2 := by unfold sAsg; rw [h]; show (fg d ρ g1).toS ρ _ = _; rw [h2]; rfl
theorem rt_ok {f : FE} {ρ : Env'} {g g1 : G} {d : D} (h : f ρ g = .ok d g1) : sRt f ρ g = .rt d g1 := by unfold sRt; rw [h]; rfl
theorem ch_tt {o o' : F2} {fa fb fc : FE} {ρ : Env'} {g g1 g2 g3 g4 : G} {x y w : D} (h1 : fa ρ g = .ok x g1) (h2 : fb ρ g1 = .ok y g2) (h3 : o x y g2 = .ok (.bl true) g3) (h4 : fc ρ g3 = .ok w g4) : fCh o o' fa fb fc ρ g = o' y w g4 := by
  unfold fCh Res.bind; simp only [h1, h2, h3, h4]
theorem ch_ff {o o' : F2} {fa fb fc : FE} {ρ : Env'} {g g1 g2 g3 : G} {x y : D} (h1 : fa ρ g = .ok x g1) (h2 : fb ρ g1 = .ok y g2) (h3 : o x y g2 = .ok (.bl false) g3) : fCh o o' fa fb fc ρ g = .ok (.bl false) g3 := by
  unfold fCh Res.bind; simp only [h1, h2, h3]

/-! ### comprehensions that draw -/
section
variable {ρ : Env'} {vs : List Nat} {fg : FG} {ft : FT} {fe : FE}
theorem lcD_inv {I : G → Prop} {V : Int → Prop} : ∀ (l : List D) (g : G), I g → (∀ x ∈ l, ∀ g, I g → ∃ ρ1 y g', fg x (wipeD ρ vs) g = .ok ρ1 g ∧ fe ρ1 g = .ok (.int y) g' ∧ I g' ∧ V y) →
    ∃ (ys : List Int) (g' : G), lcD vs fg fYes fe ρ l g = .ok (ys.map .int) g' ∧ I g' ∧ ys.length = l.length ∧ ∀ y ∈ ys, V y
  | [], g, hg, _ => ⟨[], g, rfl, hg, rfl, (fun y hy => by cases hy)⟩
  | x :: r, g, hg, h => by
    obtain ⟨ρ1, y, g1, h1, h2, h3, h4⟩ := h x List.mem_cons_self g hg
    obtain ⟨ys, g2, e1, e2, e3, e4⟩ := lcD_inv r g1 h3 fun x hx => h x (List.mem_cons_of_mem _ hx)
    refine ⟨y :: ys, g2, ?_, e2, by simp [e3], fun z hz => ?_⟩
    · unfold lcD
      simp only [h1, fYes, h2, e1, Res.bind]; rfl
    · rcases List.mem_cons.mp hz with a | a
      · rw [a]; exact h4
      · exact e4 z a
/-- the tests draw, the items are told as they are -/
theorem lcD_sift {I : G → Prop} : ∀ (l : List Int) (g : G), I g → (∀ x ∈ l, ∀ g, I g → ∃ ρ1 b g', fg (.int x) (wipeD ρ vs) g = .ok ρ1 g ∧ ft ρ1 g = .ok b g' ∧ I g' ∧ ∀ g, fe ρ1 g = .ok (.int x) g) →
    ∃ (ys : List Int) (g' : G), lcD vs fg ft fe ρ (l.map .int) g = .ok (ys.map .int) g' ∧ I g' ∧ ys.length ≤ l.length ∧ ∀ y ∈ ys, y ∈ l
  | [], g, hg, _ => ⟨[], g, rfl, hg, Nat.le_refl _, (fun y hy => by cases hy)⟩
  | x :: r, g, hg, h => by
    obtain ⟨ρ1, b, g1, h1, h2, h3, h4⟩ := h x List.mem_cons_self g hg
    obtain ⟨ys, g2, e1, e2, e3, e4⟩ := lcD_sift r g1 h3 fun x hx => h x (List.mem_cons_of_mem _ hx)
    cases b with
    | true =>
      refine ⟨x :: ys, g2, ?_, e2, by simp; omega, fun z hz => ?_⟩
      · rw [List.map_cons]; unfold lcD
        simp only [h1, h2, h4, e1, Res.bind]; rfl
      · rcases List.mem_cons.mp hz with a | a
        · rw [a]; exact List.mem_cons_self
        · exact List.mem_cons_of_mem _ (e4 z a)
    | false =>
      refine ⟨ys, g2, ?_, e2, by simp; omega, fun z hz => List.mem_cons_of_mem _ (e4 z hz)⟩
      rw [List.map_cons]; unfold lcD
      simp only [h1, h2, e1]
end
theorem told_v {okc : Nat → Bool} {w : Str} {f : FE} {ρ : Env'} {g g1 : G} {d : D} (h : f ρ g = .ok d g1) : fTold okc w f ρ g = .ok d g1 := by unfold fTold; rw [h]
def isT : Res D → Bool
  | .ok (.bl true) _ => true
  | _ => false
theorem isT_ok {r : Res D} (h : isT r = true) : ∃ g, r = .ok (.bl true) g := by
  unfold isT at h
  split at h
  · exact ⟨_, rfl⟩
  · cases h
end Dl
namespace Dl
open PySem
section
variable {ρ : Env'} {g : G} {d : D} {i j : Nat} {w : Option D}
theorem fVar_set (h : i < ρ.length) : fVar i (ρ.set i (some d)) g = .ok d g := by unfold fVar; rw [List.getElem?_set_self h]
theorem fVar_ne (h : i ≠ j) : fVar i (ρ.set j w) g = fVar i ρ g := by unfold fVar; rw [List.getElem?_set_ne (Ne.symm h)]
end
end Dl
end
section
set_option Elab.async false
set_option linter.all false
set_option maxRecDepth 100000
set_option maxHeartbeats 2000000
namespace K05
open PySem PySem.Spec PyProof.Rows L2 Dl
def top (i : Nat) : Stmt := PySem.Challenge.pw_dialstack_k05_sounds_as_numbers.main.body.getD i (.Pass ⟨0, 0, 0, 0⟩)
abbrev dd (x : Str) (i : Nat) : He.DefD := ⟨(x, none), x, x, defArgs (top i), defBody (top i), defScope (top i), [], []⟩
def fns : List He.DefD := [dd "share" 5, dd "check_samples" 9, dd "pressed" 10, dd "opened" 11, dd "off_by" 12, dd "followed" 13, dd "step_on" 14, dd "unfollowed" 15, dd "loudness" 16, dd "quiet_short" 17, dd "long_again" 18, dd "with_echo" 19, dd "without_echo" 20, dd "echo_far" 21, dd "filled_in" 22, dd "_law_dice" 24, dd "_law_roll" 25, dd "_law_rounds" 26, dd "_law_told" 27, dd "_law_gcd" 28, dd "_law_share" 29, dd "_law_edges" 30, dd "_law_press" 31, dd "_law_open" 32, dd "_law_step" 33, dd "_law_echo" 34, dd "_law_draw" 35, dd "_law_plain" 36, dd "law" 37]
def fas : List He.Fa := [.glo "share", .glo "check_samples", .glo "pressed", .glo "opened", .glo "off_by", .glo "followed", .glo "step_on", .glo "unfollowed", .glo "loudness", .glo "quiet_short", .glo "long_again", .glo "with_echo", .glo "without_echo", .glo "echo_far", .glo "filled_in", .glo "_law_dice", .glo "_law_roll", .glo "_law_rounds", .glo "_law_told", .glo "_law_gcd", .glo "_law_share", .glo "_law_edges", .glo "_law_press", .glo "_law_open", .glo "_law_step", .glo "_law_echo", .glo "_law_draw", .glo "_law_plain", .glo "law", .glo "ShareError", .exc "ShareError", .free "abs", .free "len", .free "any", .glo "CodeError", .exc "CodeError", .free "sum", .free "max", .free "min", .free "tuple", .free "list", .free "enumerate", .free "range", .free "zip", .free "int", .glo "DialFault", .exm "DialFault" "CodeError" false, .exm "ShareError" "CodeError" false, .exm "CodeError" "CodeError" true]
def excN : List Str := ["DialFault", "ShareError", "CodeError"]
def tq : List ((Str × Option Str) × Str) := [(("check_samples", none), "check_samples.<locals>.<genexpr>"), (("unfollowed", none), "unfollowed.<locals>.<genexpr>"), (("loudness", none), "loudness.<locals>.<genexpr>"), (("echo_far", none), "echo_far.<locals>.<genexpr>"), (("filled_in", none), "filled_in.<locals>.<genexpr>"), (("_law_plain", none), "_law_plain.<locals>.<lambda>")]
def cfg (K : PySem.W.Frag) : Cfg := ⟨fun n => He.ga K (excN.getD n ""), fun _ => 0, tabsOf tq K⟩
def csts : List (Str × D) := [("MOST_SAMPLE", .int 8031), ("SAMPLE_STEPS", .tup [.int 4, .int 8, .int 16, .int 32, .int 64, .int 128, .int 256, .int 512, .int 1024])]
structure Ctx (P : Program) (w : World) (K : PySem.W.Frag) (mg : Str → Option Value) (base : Heap) : Prop where
  kin : K.In base
  G : base.Ns mainGlobals mg
  c : He.SaysD fas fns K
  tb : ∀ p ∈ tq, LamX.TabB base mg (He.codeOf K p.1) (He.tabOf K (He.codeOf K p.1))
  nt : (tq.map fun p => He.tabOf K (He.codeOf K p.1)).Nodup
  cs : ∀ p ∈ csts, cstOk K p.1 p.2 = true
section
variable {P : Program} {w : World} {K : PySem.W.Frag} {mg : Str → Option Value} {base : Heap}
theorem tab_check_samples_genexpr (S : Ctx P w K mg base) : TabsOk (cfg K) base mg (He.codeOf K ("check_samples", none)) (He.tabOf K (He.codeOf K ("check_samples", none))) "check_samples.<locals>.<genexpr>" := tabs_ok (tq := tq) (d := (("check_samples", none), "check_samples.<locals>.<genexpr>")) (List.mem_of_getElem? (i := 0) rfl) S.tb S.nt rfl
theorem tab_unfollowed_genexpr (S : Ctx P w K mg base) : TabsOk (cfg K) base mg (He.codeOf K ("unfollowed", none)) (He.tabOf K (He.codeOf K ("unfollowed", none))) "unfollowed.<locals>.<genexpr>" := tabs_ok (tq := tq) (d := (("unfollowed", none), "unfollowed.<locals>.<genexpr>")) (List.mem_of_getElem? (i := 1) rfl) S.tb S.nt rfl
theorem tab_loudness_genexpr (S : Ctx P w K mg base) : TabsOk (cfg K) base mg (He.codeOf K ("loudness", none)) (He.tabOf K (He.codeOf K ("loudness", none))) "loudness.<locals>.<genexpr>" := tabs_ok (tq := tq) (d := (("loudness", none), "loudness.<locals>.<genexpr>")) (List.mem_of_getElem? (i := 2) rfl) S.tb S.nt rfl
theorem tab_echo_far_genexpr (S : Ctx P w K mg base) : TabsOk (cfg K) base mg (He.codeOf K ("echo_far", none)) (He.tabOf K (He.codeOf K ("echo_far", none))) "echo_far.<locals>.<genexpr>" := tabs_ok (tq := tq) (d := (("echo_far", none), "echo_far.<locals>.<genexpr>")) (List.mem_of_getElem? (i := 3) rfl) S.tb S.nt rfl
theorem tab_filled_in_genexpr (S : Ctx P w K mg base) : TabsOk (cfg K) base mg (He.codeOf K ("filled_in", none)) (He.tabOf K (He.codeOf K ("filled_in", none))) "filled_in.<locals>.<genexpr>" := tabs_ok (tq := tq) (d := (("filled_in", none), "filled_in.<locals>.<genexpr>")) (List.mem_of_getElem? (i := 4) rfl) S.tb S.nt rfl
theorem tab__law_plain_lambda (S : Ctx P w K mg base) : TabsOk (cfg K) base mg (He.codeOf K ("_law_plain", none)) (He.tabOf K (He.codeOf K ("_law_plain", none))) "_law_plain.<locals>.<lambda>" := tabs_ok (tq := tq) (d := (("_law_plain", none), "_law_plain.<locals>.<lambda>")) (List.mem_of_getElem? (i := 5) rfl) S.tb S.nt rfl
def okc__law_told (n : Nat) : Bool := [2].contains n
theorem TS__law_told : FnScope ["what"] ["what"] (defScope (top 27)) := ⟨rfl, rfl, rfl, by decide +kernel, rfl, by decide +kernel, by decide +kernel⟩
theorem T__law_told (S : Ctx P w K mg base) : ToldOk (cfg K) K mg "_law_told" "CodeError" okc__law_told :=
  told_of S.kin S.G S.c (d := dd "_law_told" 27) (List.mem_of_getElem? (i := 18) rfl) (a := "what") (ex := "CodeError") (List.mem_of_getElem? (i := 18) rfl) rfl rfl rfl rfl rfl rfl (List.mem_of_getElem? (i := 34) rfl) ["what"] TS__law_told rfl (vis_by rfl) rfl rfl (fun _ => rfl) (fun _ _ _ _ _ _ us hl => match us, hl with | [_], _ => rfl) (fun n h => by
    unfold okc__law_told at h
    simp only [List.contains_cons, List.contains_nil, Bool.or_false, Bool.or_eq_true, beq_iff_eq] at h
    subst h
    · exact He.exm_ok (x := "CodeError") (y := "CodeError") (S.c.facts (f := .exm "CodeError" "CodeError" true) (List.mem_of_getElem? (i := 48) rfl))) rfl rfl
def N_share : List Str := [("one" : Str), ("under" : Str), ("left" : Str), ("right" : Str), ("sign" : Str)]
theorem S_share : FnScope N_share ["one", "under"] (defScope (top 5)) := ⟨rfl, rfl, rfl, by decide +kernel, rfl, by decide +kernel, by decide +kernel⟩
def C_share_0 : FT :=
  fB (fBin oNe (fVar 3) (fC (.int 0)))
def W_share_0 : FS :=
  sSeq (sPar 2 3 (fCons (fVar 3) (fCons (fBin oMod (fVar 2) (fVar 3)) fNil)))
  sNil
def B_share : FS :=
  sSeq (sIf (fB (fBin oEq (fVar 1) (fC (.int 0)))) (sSeq (sErr 1)
  sNil) sNil)
  (sSeq (sPar 2 3 (fCons (fBi bAbs (fCons (fVar 0) fNil)) (fCons (fBi bAbs (fCons (fVar 1) fNil)) fNil)))
  (sSeq (sWh C_share_0 W_share_0 (turnsOf 3))
  (sSeq (sAsg (fIf (fB (fBin oGt (fVar 1) (fC (.int 0)))) (fC (.int 1)) (fBin oSub (fC (.int 0)) (fC (.int 1)))) (gNm 4))
  (sSeq (sRt (fTup (fCons (fBin oDiv (fBin oMul (fVar 4) (fVar 0)) (fVar 2)) (fCons (fBin oDiv (fBin oMul (fVar 4) (fVar 1)) (fVar 2)) fNil))))
  sNil))))
def F_share : FN := runB 5 B_share
theorem P_share (S : Ctx P w K mg base) : Pm (cfg K) P w K mg base 2 "share" 2 F_share := by
  have g_ShareError := He.glo_ok S.kin S.G (S.c.facts (f := .glo "ShareError") (List.mem_of_getElem? (i := 29) rfl))
  have x_ShareError := He.exc_ok (S.c.facts (f := .exc "ShareError") (List.mem_of_getElem? (i := 30) rfl))
  have f_abs := He.free_ok S.kin S.G (S.c.facts (f := .free "abs") (List.mem_of_getElem? (i := 31) rfl))
  have nd := S_share.nd
  refine pm_of (d := dd "share" 5) (N := N_share) (ps := ["one", "under"]) S.kin S.G S.c (List.mem_of_getElem? (i := 0) rfl) (List.mem_of_getElem? (i := 0) rfl) rfl rfl rfl S_share (fun _ _ _ _ _ _ us hl => match us, hl with | [_, _], _ => rfl) fun A outer s H E hr tk po => ?_
  exact db_cons (ds_if (dt_cmp oEq_n (oEq_ok hr.units) (v_ 1) dp_int rfl) (db_cons (ds_raise (n := 1) rfl tk (pmk_own PySem.F.excBase_ValueError x_ShareError.1 g_ShareError x_ShareError.2.1 (raises_own x_ShareError.2.2.1 x_ShareError.2.2.2) rfl)) db_nil) db_nil) (db_cons (ds_par rfl nd rfl rfl (by decide) rfl rfl (da_cons (dp_bi bAbs_n bAbs_ok rfl f_abs boot_abs (da_cons (v_ 0) da_nil)) (da_cons (dp_bi bAbs_n bAbs_ok rfl f_abs boot_abs (da_cons (v_ 1) da_nil)) da_nil)) rfl) (db_cons (ds_wh (turnsOf 3) po (dt_cmp oNe_n (oNe_ok hr.units) (v_ 3) dp_int rfl) (db_cons (ds_par rfl nd rfl rfl (by decide) rfl rfl (da_cons (v_ 3) (da_cons (dp_bin oMod_n oMod_ok (v_ 2) (v_ 3)) da_nil)) rfl) db_nil)) (db_cons (ds_set nd rfl (loc_by rfl) (dp_if (dt_cmp oGt_n oGt_ok (v_ 1) dp_int rfl) dp_int (dp_bin oSub_n oSub_ok dp_int dp_int))) (db_cons (ds_ret (dp_tup (da_cons (dp_bin oDiv_n oDiv_ok (dp_bin oMul_n oMul_ok (v_ 4) (v_ 0)) (v_ 2)) (da_cons (dp_bin oDiv_n oDiv_ok (dp_bin oMul_n oMul_ok (v_ 4) (v_ 1)) (v_ 2)) da_nil)))) db_nil))))
def N_check_samples : List Str := [("rows" : Str), ("one" : Str)]
theorem S_check_samples : FnScope N_check_samples ["rows"] (defScope (top 9)) := ⟨rfl, rfl, rfl, by decide +kernel, rfl, by decide +kernel, by decide +kernel⟩
def B_check_samples : FS :=
  sSeq (sIf (fOr (fB (fBin oGt (fBi bLen (fCons (fVar 0) fNil)) (fC (.int 2000)))) (fTru (fLk (lkV 0) (fGn (stpB true) (kB true) [1] (iSeqL (fVar 0)) (gNm 1) fYes (fBin oGt (fBi bAbs (fCons (fVar 1) fNil)) (fC (.int 8031))))))) (sSeq (sErr 2)
  sNil) sNil)
  sNil
def F_check_samples : FN := runB 2 B_check_samples
theorem P_check_samples (S : Ctx P w K mg base) : Pm (cfg K) P w K mg base 4 "check_samples" 1 F_check_samples := by
  have f_len := He.free_ok S.kin S.G (S.c.facts (f := .free "len") (List.mem_of_getElem? (i := 32) rfl))
  have f_abs := He.free_ok S.kin S.G (S.c.facts (f := .free "abs") (List.mem_of_getElem? (i := 31) rfl))
  have f_any := He.free_ok S.kin S.G (S.c.facts (f := .free "any") (List.mem_of_getElem? (i := 33) rfl))
  have g_CodeError := He.glo_ok S.kin S.G (S.c.facts (f := .glo "CodeError") (List.mem_of_getElem? (i := 34) rfl))
  have x_CodeError := He.exc_ok (S.c.facts (f := .exc "CodeError") (List.mem_of_getElem? (i := 35) rfl))
  have tabG := fun S : Ctx P w K mg base => tab_check_samples_genexpr S
  have nd := S_check_samples.nd
  refine pm_of (d := dd "check_samples" 9) (N := N_check_samples) (ps := ["rows"]) S.kin S.G S.c (List.mem_of_getElem? (i := 1) rfl) (List.mem_of_getElem? (i := 1) rfl) rfl rfl rfl S_check_samples (fun _ _ _ _ _ _ us hl => match us, hl with | [_], _ => rfl) fun A outer s H E hr tk po => ?_
  exact db_cons (ds_if (dt_w (dw_or (dt_cmp oGt_n oGt_ok (dp_bi bLen_n bLen_ok rfl f_len boot_len (da_cons (v_ 0) da_nil)) dp_int rfl) (dw_or1 (dt_tru (dp_lk (genB_ (k := 0) (own := [("one", 1)]) rfl rfl f_any boot_any any_cons (gok_ (tabG S) rfl hr (by omega) nd rfl (by decide) (by decide +kernel) rfl rfl (fun _ => rfl) (di_seqL (v_ 0)) (fun _ _ _ _ _ _ _ hr' => g_ 1 nd) (fun _ _ _ _ _ _ _ hr' => dts_nil) (fun _ _ _ _ _ _ _ hr' => dp_cmp oGt_n oGt_ok (dp_bi bAbs_n bAbs_ok rfl f_abs boot_abs (da_cons (v_ 1) da_nil)) (dp_cst rfl (cst_ok S.kin S.G (S.cs _ (List.mem_of_getElem? (i := 0) rfl)))) rfl)))))))) (db_cons (ds_raise (n := 2) rfl tk (pmk_own PySem.F.excBase_ValueError x_CodeError.1 g_CodeError x_CodeError.2.1 (raises_own x_CodeError.2.2.1 x_CodeError.2.2.2) rfl)) db_nil) db_nil) db_nil
def N_pressed : List Str := [("sample" : Str), ("much" : Str), ("stretch" : Str), ("place" : Str)]
theorem S_pressed : FnScope N_pressed ["sample"] (defScope (top 10)) := ⟨rfl, rfl, rfl, by decide +kernel, rfl, by decide +kernel, by decide +kernel⟩
def C_pressed_0 : FT :=
  fAnd (fB (fBin oGe (fBin oShr (fVar 1) (fBin oAdd (fVar 2) (fC (.int 1)))) (fC (.int 32)))) (fB (fBin oLt (fVar 2) (fC (.int 7))))
def W_pressed_0 : FS :=
  sSeq (sAug 2 oAddI (fC (.int 1)))
  sNil
def B_pressed : FS :=
  sSeq (sEx (fCall F_check_samples (fCons (fTup (fCons (fVar 0) fNil)) fNil)))
  (sSeq (sAsg (fBin oAdd (fBi bAbs (fCons (fVar 0) fNil)) (fC (.int 33))) (gNm 1))
  (sSeq (sAsg (fC (.int 0)) (gNm 2))
  (sSeq (sWh C_pressed_0 W_pressed_0 (fun _ _ => 1000000))
  (sSeq (sAsg (fBin oSub (fBin oShr (fVar 1) (fBin oAdd (fVar 2) (fC (.int 1)))) (fC (.int 16))) (gNm 3))
  (sSeq (sRt (fBin oAdd (fBin oAdd (fIf (fB (fBin oLt (fVar 0) (fC (.int 0)))) (fC (.int 128)) (fC (.int 0))) (fBin oMul (fC (.int 16)) (fVar 2))) (fVar 3)))
  sNil)))))
def F_pressed : FN := runB 4 B_pressed
theorem P_pressed (S : Ctx P w K mg base) : Pm (cfg K) P w K mg base 5 "pressed" 1 F_pressed := by
  have f_abs := He.free_ok S.kin S.G (S.c.facts (f := .free "abs") (List.mem_of_getElem? (i := 31) rfl))
  have nd := S_pressed.nd
  refine pm_of (d := dd "pressed" 10) (N := N_pressed) (ps := ["sample"]) S.kin S.G S.c (List.mem_of_getElem? (i := 2) rfl) (List.mem_of_getElem? (i := 2) rfl) rfl rfl rfl S_pressed (fun _ _ _ _ _ _ us hl => match us, hl with | [_], _ => rfl) fun A outer s H E hr tk po => ?_
  exact db_cons (ds_expr (dp_cp (P_check_samples S) hr (by omega) rfl tk rfl (fes_len_cons fes_len_nil) (da_cons (dp_tup (da_cons (v_ 0) da_nil)) da_nil))) (db_cons (ds_set nd rfl (loc_by rfl) (dp_bin oAdd_n oAdd_ok (dp_bi bAbs_n bAbs_ok rfl f_abs boot_abs (da_cons (v_ 0) da_nil)) dp_int)) (db_cons (ds_set nd rfl (loc_by rfl) dp_int) (db_cons (ds_wh (fun _ _ => 1000000) po (dt_w (dw_and (dt_cmp oGe_n oGe_ok (dp_bin oShr_n oShr_ok (v_ 1) (dp_bin oAdd_n oAdd_ok (v_ 2) dp_int)) dp_int rfl) (dw_and1 (dt_cmp oLt_n oLt_ok (v_ 2) dp_int rfl)))) (db_cons (ds_aug (i := 2) nd rfl (loc_by rfl) dp_int oAddI_n oAddI_ok) db_nil)) (db_cons (ds_set nd rfl (loc_by rfl) (dp_bin oSub_n oSub_ok (dp_bin oShr_n oShr_ok (v_ 1) (dp_bin oAdd_n oAdd_ok (v_ 2) dp_int)) dp_int)) (db_cons (ds_ret (dp_bin oAdd_n oAdd_ok (dp_bin oAdd_n oAdd_ok (dp_if (dt_cmp oLt_n oLt_ok (v_ 0) dp_int rfl) dp_int dp_int) (dp_bin oMul_n oMul_ok dp_int (v_ 2))) (v_ 3))) db_nil)))))
def N_opened : List Str := [("code" : Str), ("stretch" : Str), ("place" : Str), ("much" : Str)]
theorem S_opened : FnScope N_opened ["code"] (defScope (top 11)) := ⟨rfl, rfl, rfl, by decide +kernel, rfl, by decide +kernel, by decide +kernel⟩
def B_opened : FS :=
  sSeq (sIf (fNot (fB (fCh oLe oLe (fC (.int 0)) (fVar 0) (fC (.int 255))))) (sSeq (sErr 2)
  sNil) sNil)
  (sSeq (sPar 1 2 (fCons (fBin oDiv (fBin oMod (fVar 0) (fC (.int 128))) (fC (.int 16))) (fCons (fBin oMod (fVar 0) (fC (.int 16))) fNil)))
  (sSeq (sAsg (fBin oSub (fBin oShl (fBin oAdd (fBin oMul (fC (.int 2)) (fBin oAdd (fVar 2) (fC (.int 16)))) (fC (.int 1))) (fVar 1)) (fC (.int 33))) (gNm 3))
  (sSeq (sRt (fIf (fB (fBin oGe (fVar 0) (fC (.int 128)))) (fBin oSub (fC (.int 0)) (fVar 3)) (fVar 3)))
  sNil)))
def F_opened : FN := runB 4 B_opened
theorem P_opened (S : Ctx P w K mg base) : Pm (cfg K) P w K mg base 2 "opened" 1 F_opened := by
  have g_CodeError := He.glo_ok S.kin S.G (S.c.facts (f := .glo "CodeError") (List.mem_of_getElem? (i := 34) rfl))
  have x_CodeError := He.exc_ok (S.c.facts (f := .exc "CodeError") (List.mem_of_getElem? (i := 35) rfl))
  have nd := S_opened.nd
  refine pm_of (d := dd "opened" 11) (N := N_opened) (ps := ["code"]) S.kin S.G S.c (List.mem_of_getElem? (i := 3) rfl) (List.mem_of_getElem? (i := 3) rfl) rfl rfl rfl S_opened (fun _ _ _ _ _ _ us hl => match us, hl with | [_], _ => rfl) fun A outer s H E hr tk po => ?_
  exact db_cons (ds_if (dt_not (dt_ch oLe_n oLe_n oLe_ok oLe_ok dp_int (v_ 0) dp_int)) (db_cons (ds_raise (n := 2) rfl tk (pmk_own PySem.F.excBase_ValueError x_CodeError.1 g_CodeError x_CodeError.2.1 (raises_own x_CodeError.2.2.1 x_CodeError.2.2.2) rfl)) db_nil) db_nil) (db_cons (ds_par rfl nd rfl rfl (by decide) rfl rfl (da_cons (dp_bin oDiv_n oDiv_ok (dp_bin oMod_n oMod_ok (v_ 0) dp_int) dp_int) (da_cons (dp_bin oMod_n oMod_ok (v_ 0) dp_int) da_nil)) rfl) (db_cons (ds_set nd rfl (loc_by rfl) (dp_bin oSub_n oSub_ok (dp_bin oShl_n oShl_ok (dp_bin oAdd_n oAdd_ok (dp_bin oMul_n oMul_ok dp_int (dp_bin oAdd_n oAdd_ok (v_ 2) dp_int)) dp_int) (v_ 1)) dp_int)) (db_cons (ds_ret (dp_if (dt_cmp oGe_n oGe_ok (v_ 0) dp_int rfl) (dp_bin oSub_n oSub_ok dp_int (v_ 3)) (v_ 3))) db_nil)))
def N_off_by : List Str := [("rows" : Str), ("gaps" : Str), ("one" : Str)]
theorem S_off_by : FnScope N_off_by ["rows"] (defScope (top 12)) := ⟨rfl, rfl, rfl, by decide +kernel, rfl, by decide +kernel, by decide +kernel⟩
def Z_off_by_0 : FE :=
  fBi bAbs (fCons (fBin oSub (fVar 2) (fCall F_opened (fCons (fCall F_pressed (fCons (fVar 2) fNil)) fNil))) fNil)
def B_off_by : FS :=
  sSeq (sEx (fCall F_check_samples (fCons (fVar 0) fNil)))
  (sSeq (sAsg (fLc [2] (iSeq (fVar 0)) (gNm 2) fYes Z_off_by_0) (gNm 1))
  (sSeq (sRt (fTup (fCons (fBi bMaxA (fCons (fBin oAdd (fVar 1) (fLst (fCons (fC (.int 0)) fNil))) fNil)) (fCons (fBi bSumA (fCons (fVar 1) fNil)) fNil))))
  sNil))
def F_off_by : FN := runB 3 B_off_by
theorem P_off_by (S : Ctx P w K mg base) : Pm (cfg K) P w K mg base 6 "off_by" 1 F_off_by := by
  have f_abs := He.free_ok S.kin S.G (S.c.facts (f := .free "abs") (List.mem_of_getElem? (i := 31) rfl))
  have f_sum := He.free_ok S.kin S.G (S.c.facts (f := .free "sum") (List.mem_of_getElem? (i := 36) rfl))
  have f_max := He.free_ok S.kin S.G (S.c.facts (f := .free "max") (List.mem_of_getElem? (i := 37) rfl))
  have nd := S_off_by.nd
  refine pm_of (d := dd "off_by" 12) (N := N_off_by) (ps := ["rows"]) S.kin S.G S.c (List.mem_of_getElem? (i := 4) rfl) (List.mem_of_getElem? (i := 4) rfl) rfl rfl rfl S_off_by (fun _ _ _ _ _ _ us hl => match us, hl with | [_], _ => rfl) fun A outer s H E hr tk po => ?_
  exact db_cons (ds_expr (dp_cp (P_check_samples S) hr (by omega) rfl tk rfl (fes_len_cons fes_len_nil) (da_cons (v_ 0) da_nil))) (db_cons (slc_ (own := [("one", 2)]) rfl rfl nd rfl rfl rfl (di_seq (v_ 0)) rfl (by decide) (fun _ _ _ _ _ => g_ 2 nd) (fun _ _ _ _ _ => dts_nil) (fun _ _ _ _ _ => dp_bi bAbs_n bAbs_ok rfl f_abs boot_abs (da_cons (dp_bin oSub_n oSub_ok (v_ 2) (dp_cp (P_opened S) hr (by omega) rfl takes0 rfl (fes_len_cons fes_len_nil) (da_cons (dp_cp (P_pressed S) hr (by omega) rfl takes0 rfl (fes_len_cons fes_len_nil) (da_cons (v_ 2) da_nil)) da_nil))) da_nil))) (db_cons (ds_ret (dp_tup (da_cons (dp_bi bMaxA_n (bMaxA_ok (hu165_of hr) rfl) rfl f_max boot_max (da_cons (dp_bin oAdd_n oAdd_ok (v_ 1) (dp_lst (da_cons dp_int da_nil))) da_nil)) (da_cons (dp_bi bSumA_n (bSumA_ok rfl) rfl f_sum boot_sum (da_cons (v_ 1) da_nil)) da_nil)))) db_nil))
def N_step_on : List Str := [("told" : Str), ("spot" : Str), ("code" : Str), ("many" : Str), ("much" : Str), ("fresh" : Str)]
theorem S_step_on : FnScope N_step_on ["told", "spot", "code"] (defScope (top 14)) := ⟨rfl, rfl, rfl, by decide +kernel, rfl, by decide +kernel, by decide +kernel⟩
def B_step_on : FS :=
  sSeq (sAsg (fBin oMod (fVar 2) (fC (.int 8))) (gNm 3))
  (sSeq (sAsg (fBin oAdd (fBin oMul (fVar 3) (fBin oIx (fC (.tup [.int 4, .int 8, .int 16, .int 32, .int 64, .int 128, .int 256, .int 512, .int 1024])) (fVar 1))) (fBin oDiv (fBin oIx (fC (.tup [.int 4, .int 8, .int 16, .int 32, .int 64, .int 128, .int 256, .int 512, .int 1024])) (fVar 1)) (fC (.int 2)))) (gNm 4))
  (sSeq (sAsg (fIf (fB (fBin oGe (fVar 2) (fC (.int 8)))) (fBin oSub (fVar 0) (fVar 4)) (fBin oAdd (fVar 0) (fVar 4))) (gNm 5))
  (sSeq (sAsg (fIf (fB (fBin oGe (fVar 3) (fC (.int 6)))) (fBi bMinA (fCons (fBin oSub (fBi bLen (fCons (fC (.tup [.int 4, .int 8, .int 16, .int 32, .int 64, .int 128, .int 256, .int 512, .int 1024])) fNil)) (fC (.int 1))) (fCons (fBin oAdd (fVar 1) (fC (.int 1))) fNil))) (fIf (fB (fBin oLe (fVar 3) (fC (.int 1)))) (fBi bMaxA (fCons (fC (.int 0)) (fCons (fBin oSub (fVar 1) (fC (.int 1))) fNil))) (fVar 1))) (gNm 1))
  (sSeq (sRt (fTup (fCons (fBi bMaxA (fCons (fBin oSub (fC (.int 0)) (fC (.int 8031))) (fCons (fBi bMinA (fCons (fC (.int 8031)) (fCons (fVar 5) fNil))) fNil))) (fCons (fVar 1) fNil))))
  sNil))))
def F_step_on : FN := runB 6 B_step_on
theorem P_step_on (S : Ctx P w K mg base) : Pm (cfg K) P w K mg base 2 "step_on" 3 F_step_on := by
  have f_len := He.free_ok S.kin S.G (S.c.facts (f := .free "len") (List.mem_of_getElem? (i := 32) rfl))
  have f_min := He.free_ok S.kin S.G (S.c.facts (f := .free "min") (List.mem_of_getElem? (i := 38) rfl))
  have f_max := He.free_ok S.kin S.G (S.c.facts (f := .free "max") (List.mem_of_getElem? (i := 37) rfl))
  have nd := S_step_on.nd
  refine pm_of (d := dd "step_on" 14) (N := N_step_on) (ps := ["told", "spot", "code"]) S.kin S.G S.c (List.mem_of_getElem? (i := 6) rfl) (List.mem_of_getElem? (i := 6) rfl) rfl rfl rfl S_step_on (fun _ _ _ _ _ _ us hl => match us, hl with | [_, _, _], _ => rfl) fun A outer s H E hr tk po => ?_
  exact db_cons (ds_set nd rfl (loc_by rfl) (dp_bin oMod_n oMod_ok (v_ 2) dp_int)) (db_cons (ds_set nd rfl (loc_by rfl) (dp_bin oAdd_n oAdd_ok (dp_bin oMul_n oMul_ok (v_ 3) (dp_ix (dp_cst rfl (cst_ok S.kin S.G (S.cs _ (List.mem_of_getElem? (i := 1) rfl)))) (v_ 1) (fun _ _ => rfl))) (dp_bin oDiv_n oDiv_ok (dp_ix (dp_cst rfl (cst_ok S.kin S.G (S.cs _ (List.mem_of_getElem? (i := 1) rfl)))) (v_ 1) (fun _ _ => rfl)) dp_int))) (db_cons (ds_set nd rfl (loc_by rfl) (dp_if (dt_cmp oGe_n oGe_ok (v_ 2) dp_int rfl) (dp_bin oSub_n oSub_ok (v_ 0) (v_ 4)) (dp_bin oAdd_n oAdd_ok (v_ 0) (v_ 4)))) (db_cons (ds_set nd rfl (loc_by rfl) (dp_if (dt_cmp oGe_n oGe_ok (v_ 3) dp_int rfl) (dp_bi bMinA_n (bMinA_ok (hu165_of hr) rfl) rfl f_min boot_min (da_cons (dp_bin oSub_n oSub_ok (dp_bi bLen_n bLen_ok rfl f_len boot_len (da_cons (dp_cst rfl (cst_ok S.kin S.G (S.cs _ (List.mem_of_getElem? (i := 1) rfl)))) da_nil)) dp_int) (da_cons (dp_bin oAdd_n oAdd_ok (v_ 1) dp_int) da_nil))) (dp_if (dt_cmp oLe_n oLe_ok (v_ 3) dp_int rfl) (dp_bi bMaxA_n (bMaxA_ok (hu165_of hr) rfl) rfl f_max boot_max (da_cons dp_int (da_cons (dp_bin oSub_n oSub_ok (v_ 1) dp_int) da_nil))) (v_ 1)))) (db_cons (ds_ret (dp_tup (da_cons (dp_bi bMaxA_n (bMaxA_ok (hu165_of hr) rfl) rfl f_max boot_max (da_cons (dp_bin oSub_n oSub_ok dp_int (dp_cst rfl (cst_ok S.kin S.G (S.cs _ (List.mem_of_getElem? (i := 0) rfl))))) (da_cons (dp_bi bMinA_n (bMinA_ok (hu165_of hr) rfl) rfl f_min boot_min (da_cons (dp_cst rfl (cst_ok S.kin S.G (S.cs _ (List.mem_of_getElem? (i := 0) rfl)))) (da_cons (v_ 5) da_nil))) da_nil))) (da_cons (v_ 1) da_nil)))) db_nil))))
def N_followed : List Str := [("rows" : Str), ("found" : Str), ("told" : Str), ("spot" : Str), ("one" : Str), ("gap" : Str), ("many" : Str), ("code" : Str)]
theorem S_followed : FnScope N_followed ["rows"] (defScope (top 13)) := ⟨rfl, rfl, rfl, by decide +kernel, rfl, by decide +kernel, by decide +kernel⟩
def W_followed_0 : FS :=
  sSeq (sAsg (fBin oSub (fVar 4) (fVar 2)) (gNm 5))
  (sSeq (sAsg (fBi bMinA (fCons (fC (.int 7)) (fCons (fBin oDiv (fBi bAbs (fCons (fVar 5) fNil)) (fBin oIx (fC (.tup [.int 4, .int 8, .int 16, .int 32, .int 64, .int 128, .int 256, .int 512, .int 1024])) (fVar 3))) fNil))) (gNm 6))
  (sSeq (sAsg (fBin oAdd (fVar 6) (fIf (fB (fBin oLt (fVar 5) (fC (.int 0)))) (fC (.int 8)) (fC (.int 0)))) (gNm 7))
  (sSeq (sEx (fMt "list" mApp (fVar 1) (fCons (fVar 7) fNil)))
  (sSeq (sAsg (fCall F_step_on (fCons (fVar 2) (fCons (fVar 3) (fCons (fVar 7) fNil)))) (gTp 2 (gsCons (gNm 2) (gsCons (gNm 3) gsNil))))
  sNil))))
def B_followed : FS :=
  sSeq (sEx (fCall F_check_samples (fCons (fVar 0) fNil)))
  (sSeq (sPar3 1 2 3 (fCons (fMut fNil) (fCons (fC (.int 0)) (fCons (fC (.int 0)) fNil))))
  (sSeq (sFor (iSeq (fVar 0)) (gNm 4) W_followed_0)
  (sSeq (sRt (fBi bTuple (fCons (fVar 1) fNil)))
  sNil)))
def F_followed : FN := runB 8 B_followed
theorem P_followed (S : Ctx P w K mg base) : Pm (cfg K) P w K mg base 5 "followed" 1 F_followed := by
  have f_abs := He.free_ok S.kin S.G (S.c.facts (f := .free "abs") (List.mem_of_getElem? (i := 31) rfl))
  have f_min := He.free_ok S.kin S.G (S.c.facts (f := .free "min") (List.mem_of_getElem? (i := 38) rfl))
  have f_tuple := He.free_ok S.kin S.G (S.c.facts (f := .free "tuple") (List.mem_of_getElem? (i := 39) rfl))
  have nd := S_followed.nd
  refine pm_of (d := dd "followed" 13) (N := N_followed) (ps := ["rows"]) S.kin S.G S.c (List.mem_of_getElem? (i := 5) rfl) (List.mem_of_getElem? (i := 5) rfl) rfl rfl rfl S_followed (fun _ _ _ _ _ _ us hl => match us, hl with | [_], _ => rfl) fun A outer s H E hr tk po => ?_
  exact db_cons (ds_expr (dp_cp (P_check_samples S) hr (by omega) rfl tk rfl (fes_len_cons fes_len_nil) (da_cons (v_ 0) da_nil))) (db_cons (ds_par3 rfl nd rfl rfl rfl (by decide) (by decide) (by decide) rfl rfl rfl (da_cons (dp_mut da_nil) (da_cons dp_int (da_cons dp_int da_nil))) rfl) (db_cons (ds_for po rfl (di_seq (v_ 0)) (g_ 4 nd) (db_cons (ds_set nd rfl (loc_by rfl) (dp_bin oSub_n oSub_ok (v_ 4) (v_ 2))) (db_cons (ds_set nd rfl (loc_by rfl) (dp_bi bMinA_n (bMinA_ok (hu165_of hr) rfl) rfl f_min boot_min (da_cons dp_int (da_cons (dp_bin oDiv_n oDiv_ok (dp_bi bAbs_n bAbs_ok rfl f_abs boot_abs (da_cons (v_ 5) da_nil)) (dp_ix (dp_cst rfl (cst_ok S.kin S.G (S.cs _ (List.mem_of_getElem? (i := 1) rfl)))) (v_ 3) (fun _ _ => rfl))) da_nil)))) (db_cons (ds_set nd rfl (loc_by rfl) (dp_bin oAdd_n oAdd_ok (v_ 6) (dp_if (dt_cmp oLt_n oLt_ok (v_ 5) dp_int rfl) dp_int dp_int))) (db_cons (ds_expr (dp_mt PySem.F.plainAttrs_list PySem.F.slot_list_append PySem.F.type_list_append mApp_n mApp_ok (v_ 1) (da_cons (v_ 7) da_nil))) (db_cons (ds_asg (dp_cp (P_step_on S) hr (by omega) rfl tk rfl (fes_len_cons (fes_len_cons (fes_len_cons fes_len_nil))) (da_cons (v_ 2) (da_cons (v_ 3) (da_cons (v_ 7) da_nil)))) (dg_tup rfl (dgs_cons (g_ 2 nd) (dgs_cons (g_ 3 nd) dgs_nil)))) db_nil)))))) (db_cons (ds_ret (dp_bt bTuple_n bTuple_ok rfl f_tuple boot_tuple (da_cons (v_ 1) da_nil))) db_nil)))
def N_unfollowed : List Str := [("codes" : Str), ("code" : Str), ("found" : Str), ("told" : Str), ("spot" : Str)]
theorem S_unfollowed : FnScope N_unfollowed ["codes"] (defScope (top 15)) := ⟨rfl, rfl, rfl, by decide +kernel, rfl, by decide +kernel, by decide +kernel⟩
def W_unfollowed_0 : FS :=
  sSeq (sAsg (fCall F_step_on (fCons (fVar 3) (fCons (fVar 4) (fCons (fVar 1) fNil)))) (gTp 2 (gsCons (gNm 3) (gsCons (gNm 4) gsNil))))
  (sSeq (sEx (fMt "list" mApp (fVar 2) (fCons (fVar 3) fNil)))
  sNil)
def B_unfollowed : FS :=
  sSeq (sIf (fOr (fB (fBin oGt (fBi bLen (fCons (fVar 0) fNil)) (fC (.int 2000)))) (fTru (fGn (stpB true) (kB true) [1] (iSeq (fVar 0)) (gNm 1) fYes (fNotV (fCh oLe oLe (fC (.int 0)) (fVar 1) (fC (.int 15))))))) (sSeq (sErr 2)
  sNil) sNil)
  (sSeq (sPar3 2 3 4 (fCons (fMut fNil) (fCons (fC (.int 0)) (fCons (fC (.int 0)) fNil))))
  (sSeq (sFor (iSeq (fVar 0)) (gNm 1) W_unfollowed_0)
  (sSeq (sRt (fBi bTuple (fCons (fVar 2) fNil)))
  sNil)))
def F_unfollowed : FN := runB 5 B_unfollowed
theorem P_unfollowed (S : Ctx P w K mg base) : Pm (cfg K) P w K mg base 4 "unfollowed" 1 F_unfollowed := by
  have f_len := He.free_ok S.kin S.G (S.c.facts (f := .free "len") (List.mem_of_getElem? (i := 32) rfl))
  have f_any := He.free_ok S.kin S.G (S.c.facts (f := .free "any") (List.mem_of_getElem? (i := 33) rfl))
  have g_CodeError := He.glo_ok S.kin S.G (S.c.facts (f := .glo "CodeError") (List.mem_of_getElem? (i := 34) rfl))
  have x_CodeError := He.exc_ok (S.c.facts (f := .exc "CodeError") (List.mem_of_getElem? (i := 35) rfl))
  have f_tuple := He.free_ok S.kin S.G (S.c.facts (f := .free "tuple") (List.mem_of_getElem? (i := 39) rfl))
  have tabG := fun S : Ctx P w K mg base => tab_unfollowed_genexpr S
  have nd := S_unfollowed.nd
  refine pm_of (d := dd "unfollowed" 15) (N := N_unfollowed) (ps := ["codes"]) S.kin S.G S.c (List.mem_of_getElem? (i := 7) rfl) (List.mem_of_getElem? (i := 7) rfl) rfl rfl rfl S_unfollowed (fun _ _ _ _ _ _ us hl => match us, hl with | [_], _ => rfl) fun A outer s H E hr tk po => ?_
  exact db_cons (ds_if (dt_w (dw_or (dt_cmp oGt_n oGt_ok (dp_bi bLen_n bLen_ok rfl f_len boot_len (da_cons (v_ 0) da_nil)) dp_int rfl) (dw_or1 (dt_tru (genB_ (k := 0) (own := [("code", 1)]) rfl rfl f_any boot_any any_cons (gok_ (tabG S) rfl hr (by omega) nd rfl (by decide) (by decide +kernel) rfl rfl (fun _ => rfl) (di_seq (v_ 0)) (fun _ _ _ _ _ _ _ hr' => g_ 1 nd) (fun _ _ _ _ _ _ _ hr' => dts_nil) (fun _ _ _ _ _ _ _ hr' => dp_not (dp_ch oLe_n oLe_n oLe_ok oLe_ok dp_int (v_ 1) dp_int)))))))) (db_cons (ds_raise (n := 2) rfl tk (pmk_own PySem.F.excBase_ValueError x_CodeError.1 g_CodeError x_CodeError.2.1 (raises_own x_CodeError.2.2.1 x_CodeError.2.2.2) rfl)) db_nil) db_nil) (db_cons (ds_par3 rfl nd rfl rfl rfl (by decide) (by decide) (by decide) rfl rfl rfl (da_cons (dp_mut da_nil) (da_cons dp_int (da_cons dp_int da_nil))) rfl) (db_cons (ds_for po rfl (di_seq (v_ 0)) (g_ 1 nd) (db_cons (ds_asg (dp_cp (P_step_on S) hr (by omega) rfl tk rfl (fes_len_cons (fes_len_cons (fes_len_cons fes_len_nil))) (da_cons (v_ 3) (da_cons (v_ 4) (da_cons (v_ 1) da_nil)))) (dg_tup rfl (dgs_cons (g_ 3 nd) (dgs_cons (g_ 4 nd) dgs_nil)))) (db_cons (ds_expr (dp_mt PySem.F.plainAttrs_list PySem.F.slot_list_append PySem.F.type_list_append mApp_n mApp_ok (v_ 2) (da_cons (v_ 3) da_nil))) db_nil))) (db_cons (ds_ret (dp_bt bTuple_n bTuple_ok rfl f_tuple boot_tuple (da_cons (v_ 2) da_nil))) db_nil)))
def N_loudness : List Str := [("rows" : Str), ("one" : Str)]
theorem S_loudness : FnScope N_loudness ["rows"] (defScope (top 16)) := ⟨rfl, rfl, rfl, by decide +kernel, rfl, by decide +kernel, by decide +kernel⟩
def B_loudness : FS :=
  sSeq (sEx (fCall F_check_samples (fCons (fVar 0) fNil)))
  (sSeq (sIf (fB (fBin oEq (fBi bLen (fCons (fVar 0) fNil)) (fC (.int 0)))) (sSeq (sErr 2)
  sNil) sNil)
  (sSeq (sRt (fCall F_share (fCons (fGn stpI kSum [1] (iSeq (fVar 0)) (gNm 1) fYes (fBin oMul (fVar 1) (fVar 1))) (fCons (fBi bLen (fCons (fVar 0) fNil)) fNil))))
  sNil))
def F_loudness : FN := runB 2 B_loudness
theorem P_loudness (S : Ctx P w K mg base) : Pm (cfg K) P w K mg base 5 "loudness" 1 F_loudness := by
  have f_len := He.free_ok S.kin S.G (S.c.facts (f := .free "len") (List.mem_of_getElem? (i := 32) rfl))
  have g_CodeError := He.glo_ok S.kin S.G (S.c.facts (f := .glo "CodeError") (List.mem_of_getElem? (i := 34) rfl))
  have x_CodeError := He.exc_ok (S.c.facts (f := .exc "CodeError") (List.mem_of_getElem? (i := 35) rfl))
  have f_sum := He.free_ok S.kin S.G (S.c.facts (f := .free "sum") (List.mem_of_getElem? (i := 36) rfl))
  have tabG := fun S : Ctx P w K mg base => tab_loudness_genexpr S
  have nd := S_loudness.nd
  refine pm_of (d := dd "loudness" 16) (N := N_loudness) (ps := ["rows"]) S.kin S.G S.c (List.mem_of_getElem? (i := 8) rfl) (List.mem_of_getElem? (i := 8) rfl) rfl rfl rfl S_loudness (fun _ _ _ _ _ _ us hl => match us, hl with | [_], _ => rfl) fun A outer s H E hr tk po => ?_
  exact db_cons (ds_expr (dp_cp (P_check_samples S) hr (by omega) rfl tk rfl (fes_len_cons fes_len_nil) (da_cons (v_ 0) da_nil))) (db_cons (ds_if (dt_cmp oEq_n (oEq_ok hr.units) (dp_bi bLen_n bLen_ok rfl f_len boot_len (da_cons (v_ 0) da_nil)) dp_int rfl) (db_cons (ds_raise (n := 2) rfl tk (pmk_own PySem.F.excBase_ValueError x_CodeError.1 g_CodeError x_CodeError.2.1 (raises_own x_CodeError.2.2.1 x_CodeError.2.2.2) rfl)) db_nil) db_nil) (db_cons (ds_ret (dp_cp (P_share S) hr (by omega) rfl tk rfl (fes_len_cons (fes_len_cons fes_len_nil)) (da_cons (genB_ (k := 1) (own := [("one", 1)]) rfl rfl f_sum boot_sum sum_cons (gok_ (tabG S) rfl hr (by omega) nd rfl (by decide) (by decide +kernel) rfl rfl (fun _ => rfl) (di_seq (v_ 0)) (fun _ _ _ _ _ _ _ hr' => g_ 1 nd) (fun _ _ _ _ _ _ _ hr' => dts_nil) (fun _ _ _ _ _ _ _ hr' => dp_bin oMul_n oMul_ok (v_ 1) (v_ 1)))) (da_cons (dp_bi bLen_n bLen_ok rfl f_len boot_len (da_cons (v_ 0) da_nil)) da_nil)))) db_nil))
def N_quiet_short : List Str := [("rows" : Str), ("bound" : Str), ("least" : Str), ("found" : Str), ("place" : Str), ("behind" : Str)]
theorem S_quiet_short : FnScope N_quiet_short ["rows", "bound", "least"] (defScope (top 17)) := ⟨rfl, rfl, rfl, by decide +kernel, rfl, by decide +kernel, by decide +kernel⟩
def C_quiet_short_0 : FT :=
  fAnd (fB (fBin oLt (fVar 5) (fBi bLen (fCons (fVar 0) fNil)))) (fB (fBin oLe (fBi bAbs (fCons (fBin oIx (fVar 0) (fVar 5)) fNil)) (fVar 1)))
def W_quiet_short_0 : FS :=
  sSeq (sAug 5 oAddI (fC (.int 1)))
  sNil
def C_quiet_short_1 : FT :=
  fB (fBin oLt (fVar 4) (fBi bLen (fCons (fVar 0) fNil)))
def W_quiet_short_1 : FS :=
  sSeq (sAsg (fVar 4) (gNm 5))
  (sSeq (sWh C_quiet_short_0 W_quiet_short_0 (fun _ _ => 1000000))
  (sSeq (sIf (fB (fBin oGe (fBin oSub (fVar 5) (fVar 4)) (fVar 2))) (sSeq (sEx (fMt "list" mApp (fVar 3) (fCons (fTup (fCons (fC (.str "quiet")) (fCons (fBin oSub (fVar 5) (fVar 4)) fNil))) fNil)))
  sNil) (sSeq (sAsg (fBi bMaxA (fCons (fVar 5) (fCons (fBin oAdd (fVar 4) (fC (.int 1))) fNil))) (gNm 5))
  (sSeq (sIf (fAnd (fB (fBin oNe (fVar 3) (fLst fNil))) (fB (fBin oNe (fBin oIx (fBin oIx (fVar 3) (fNeg (fC (.int 1)))) (fC (.int 0))) (fC (.str "quiet"))))) (sSeq (sAsg (fBin oAdd (fBin oIx (fVar 3) (fNeg (fC (.int 1)))) (fBi bTuple (fCons (fSl (fVar 0) (fSo (fVar 4)) (fSo (fVar 5))) fNil))) (gSb (fVar 3) (fNeg (fC (.int 1)))))
  sNil) (sSeq (sEx (fMt "list" mApp (fVar 3) (fCons (fBi bTuple (fCons (fSl (fVar 0) (fSo (fVar 4)) (fSo (fVar 5))) fNil)) fNil)))
  sNil))
  sNil)))
  (sSeq (sAsg (fVar 5) (gNm 4))
  sNil)))
def B_quiet_short : FS :=
  sSeq (sEx (fCall F_check_samples (fCons (fVar 0) fNil)))
  (sSeq (sIf (fOr (fB (fBin oLt (fVar 1) (fC (.int 0)))) (fB (fBin oLt (fVar 2) (fC (.int 1))))) (sSeq (sErr 2)
  sNil) sNil)
  (sSeq (sPar 3 4 (fCons (fMut fNil) (fCons (fC (.int 0)) fNil)))
  (sSeq (sWh C_quiet_short_1 W_quiet_short_1 (fun _ _ => 1000000))
  (sSeq (sRt (fBi bTuple (fCons (fVar 3) fNil)))
  sNil))))
def F_quiet_short : FN := runB 6 B_quiet_short
theorem P_quiet_short (S : Ctx P w K mg base) : Pm (cfg K) P w K mg base 5 "quiet_short" 3 F_quiet_short := by
  have g_CodeError := He.glo_ok S.kin S.G (S.c.facts (f := .glo "CodeError") (List.mem_of_getElem? (i := 34) rfl))
  have x_CodeError := He.exc_ok (S.c.facts (f := .exc "CodeError") (List.mem_of_getElem? (i := 35) rfl))
  have f_len := He.free_ok S.kin S.G (S.c.facts (f := .free "len") (List.mem_of_getElem? (i := 32) rfl))
  have f_abs := He.free_ok S.kin S.G (S.c.facts (f := .free "abs") (List.mem_of_getElem? (i := 31) rfl))
  have f_max := He.free_ok S.kin S.G (S.c.facts (f := .free "max") (List.mem_of_getElem? (i := 37) rfl))
  have f_tuple := He.free_ok S.kin S.G (S.c.facts (f := .free "tuple") (List.mem_of_getElem? (i := 39) rfl))
  have nd := S_quiet_short.nd
  refine pm_of (d := dd "quiet_short" 17) (N := N_quiet_short) (ps := ["rows", "bound", "least"]) S.kin S.G S.c (List.mem_of_getElem? (i := 9) rfl) (List.mem_of_getElem? (i := 9) rfl) rfl rfl rfl S_quiet_short (fun _ _ _ _ _ _ us hl => match us, hl with | [_, _, _], _ => rfl) fun A outer s H E hr tk po => ?_
  exact db_cons (ds_expr (dp_cp (P_check_samples S) hr (by omega) rfl tk rfl (fes_len_cons fes_len_nil) (da_cons (v_ 0) da_nil))) (db_cons (ds_if (dt_w (dw_or (dt_cmp oLt_n oLt_ok (v_ 1) dp_int rfl) (dw_or1 (dt_cmp oLt_n oLt_ok (v_ 2) dp_int rfl)))) (db_cons (ds_raise (n := 2) rfl tk (pmk_own PySem.F.excBase_ValueError x_CodeError.1 g_CodeError x_CodeError.2.1 (raises_own x_CodeError.2.2.1 x_CodeError.2.2.2) rfl)) db_nil) db_nil) (db_cons (ds_par rfl nd rfl rfl (by decide) rfl rfl (da_cons (dp_mut da_nil) (da_cons dp_int da_nil)) rfl) (db_cons (ds_wh (fun _ _ => 1000000) po (dt_cmp oLt_n oLt_ok (v_ 4) (dp_bi bLen_n bLen_ok rfl f_len boot_len (da_cons (v_ 0) da_nil)) rfl) (db_cons (ds_set nd rfl (loc_by rfl) (v_ 4)) (db_cons (ds_wh (fun _ _ => 1000000) po (dt_w (dw_and (dt_cmp oLt_n oLt_ok (v_ 5) (dp_bi bLen_n bLen_ok rfl f_len boot_len (da_cons (v_ 0) da_nil)) rfl) (dw_and1 (dt_cmp oLe_n oLe_ok (dp_bi bAbs_n bAbs_ok rfl f_abs boot_abs (da_cons (dp_ix (v_ 0) (v_ 5) (fun _ _ => rfl)) da_nil)) (v_ 1) rfl)))) (db_cons (ds_aug (i := 5) nd rfl (loc_by rfl) dp_int oAddI_n oAddI_ok) db_nil)) (db_cons (ds_if (dt_cmp oGe_n oGe_ok (dp_bin oSub_n oSub_ok (v_ 5) (v_ 4)) (v_ 2) rfl) (db_cons (ds_expr (dp_mt PySem.F.plainAttrs_list PySem.F.slot_list_append PySem.F.type_list_append mApp_n mApp_ok (v_ 3) (da_cons (dp_tup (da_cons dp_str (da_cons (dp_bin oSub_n oSub_ok (v_ 5) (v_ 4)) da_nil))) da_nil))) db_nil) (db_cons (ds_set nd rfl (loc_by rfl) (dp_bi bMaxA_n (bMaxA_ok (hu165_of hr) rfl) rfl f_max boot_max (da_cons (v_ 5) (da_cons (dp_bin oAdd_n oAdd_ok (v_ 4) dp_int) da_nil)))) (db_cons (ds_if (dt_w (dw_and (dt_cmp oNe_n (oNe_ok hr.units) (v_ 3) (dp_lst da_nil) rfl) (dw_and1 (dt_cmp oNe_n (oNe_ok hr.units) (dp_ix (dp_ix (v_ 3) (dp_neg dp_int) (fun _ _ => rfl)) dp_int (fun _ _ => rfl)) dp_str rfl)))) (db_cons (ds_asg (dp_bin oAdd_n oAdd_ok (dp_ix (v_ 3) (dp_neg dp_int) (fun _ _ => rfl)) (dp_bt bTuple_n bTuple_ok rfl f_tuple boot_tuple (da_cons (dp_sl (v_ 0) (do_so (v_ 4)) (do_so (v_ 5))) da_nil))) (dg_sub (v_ 3) (dp_neg dp_int) (fun _ => rfl))) db_nil) (db_cons (ds_expr (dp_mt PySem.F.plainAttrs_list PySem.F.slot_list_append PySem.F.type_list_append mApp_n mApp_ok (v_ 3) (da_cons (dp_bt bTuple_n bTuple_ok rfl f_tuple boot_tuple (da_cons (dp_sl (v_ 0) (do_so (v_ 4)) (do_so (v_ 5))) da_nil)) da_nil))) db_nil)) db_nil))) (db_cons (ds_set nd rfl (loc_by rfl) (v_ 5)) db_nil))))) (db_cons (ds_ret (dp_bt bTuple_n bTuple_ok rfl f_tuple boot_tuple (da_cons (v_ 3) da_nil))) db_nil))))
def N_long_again : List Str := [("parts" : Str), ("found" : Str), ("part" : Str)]
theorem S_long_again : FnScope N_long_again ["parts"] (defScope (top 18)) := ⟨rfl, rfl, rfl, by decide +kernel, rfl, by decide +kernel, by decide +kernel⟩
def W_long_again_0 : FS :=
  sSeq (sAug 1 oAddI (fIf (fB (fBin oEq (fSl (fVar 2) fNo (fSo (fC (.int 1)))) (fTup (fCons (fC (.str "quiet")) fNil)))) (fBin oMul (fLst (fCons (fC (.int 0)) fNil)) (fBin oIx (fVar 2) (fC (.int 1)))) (fBi bList (fCons (fVar 2) fNil))))
  sNil
def B_long_again : FS :=
  sSeq (sAsg (fMut fNil) (gNm 1))
  (sSeq (sFor (iSeq (fVar 0)) (gNm 2) W_long_again_0)
  (sSeq (sEx (fCall F_check_samples (fCons (fVar 1) fNil)))
  (sSeq (sRt (fBi bTuple (fCons (fVar 1) fNil)))
  sNil)))
def F_long_again : FN := runB 3 B_long_again
theorem P_long_again (S : Ctx P w K mg base) : Pm (cfg K) P w K mg base 5 "long_again" 1 F_long_again := by
  have f_list := He.free_ok S.kin S.G (S.c.facts (f := .free "list") (List.mem_of_getElem? (i := 40) rfl))
  have f_tuple := He.free_ok S.kin S.G (S.c.facts (f := .free "tuple") (List.mem_of_getElem? (i := 39) rfl))
  have nd := S_long_again.nd
  refine pm_of (d := dd "long_again" 18) (N := N_long_again) (ps := ["parts"]) S.kin S.G S.c (List.mem_of_getElem? (i := 10) rfl) (List.mem_of_getElem? (i := 10) rfl) rfl rfl rfl S_long_again (fun _ _ _ _ _ _ us hl => match us, hl with | [_], _ => rfl) fun A outer s H E hr tk po => ?_
  exact db_cons (ds_set nd rfl (loc_by rfl) (dp_mut da_nil)) (db_cons (ds_for po rfl (di_seq (v_ 0)) (g_ 2 nd) (db_cons (ds_aug (i := 1) nd rfl (loc_by rfl) (dp_if (dt_cmp oEq_n (oEq_ok hr.units) (dp_sl (v_ 2) do_no (do_so dp_int)) (dp_tup (da_cons dp_str da_nil)) rfl) (dp_bin oMul_n oMul_ok (dp_lst (da_cons dp_int da_nil)) (dp_ix (v_ 2) dp_int (fun _ _ => rfl))) (dp_bt bList_n bList_ok rfl f_list boot_list (da_cons (v_ 2) da_nil))) oAddI_n oAddI_ok) db_nil)) (db_cons (ds_expr (dp_cp (P_check_samples S) hr (by omega) rfl tk rfl (fes_len_cons fes_len_nil) (da_cons (v_ 1) da_nil))) (db_cons (ds_ret (dp_bt bTuple_n bTuple_ok rfl f_tuple boot_tuple (da_cons (v_ 1) da_nil))) db_nil)))
def N_with_echo : List Str := [("rows" : Str), ("far" : Str), ("one" : Str), ("under" : Str), ("found" : Str), ("place" : Str), ("sample" : Str), ("echo" : Str), ("much" : Str)]
theorem S_with_echo : FnScope N_with_echo ["rows", "far", "one", "under"] (defScope (top 19)) := ⟨rfl, rfl, rfl, by decide +kernel, rfl, by decide +kernel, by decide +kernel⟩
def W_with_echo_0 : FS :=
  sSeq (sAsg (fIf (fB (fBin oGe (fVar 5) (fVar 1))) (fBin oIx (fVar 0) (fBin oSub (fVar 5) (fVar 1))) (fC (.int 0))) (gNm 7))
  (sSeq (sAsg (fBin oMul (fBin oDiv (fBin oMul (fBi bAbs (fCons (fVar 7) fNil)) (fVar 2)) (fVar 3)) (fIf (fB (fBin oGe (fVar 7) (fC (.int 0)))) (fC (.int 1)) (fBin oSub (fC (.int 0)) (fC (.int 1))))) (gNm 8))
  (sSeq (sEx (fMt "list" mApp (fVar 4) (fCons (fBi bMaxA (fCons (fBin oSub (fC (.int 0)) (fC (.int 8031))) (fCons (fBi bMinA (fCons (fC (.int 8031)) (fCons (fBin oAdd (fVar 6) (fVar 8)) fNil))) fNil))) fNil)))
  sNil))
def B_with_echo : FS :=
  sSeq (sEx (fCall F_check_samples (fCons (fVar 0) fNil)))
  (sSeq (sIf (fOr (fB (fBin oLt (fVar 1) (fC (.int 1)))) (fOr (fB (fBin oLt (fVar 3) (fC (.int 1)))) (fNot (fB (fCh oLe oLe (fC (.int 0)) (fVar 2) (fVar 3)))))) (sSeq (sErr 2)
  sNil) sNil)
  (sSeq (sAsg (fMut fNil) (gNm 4))
  (sSeq (sFor (iRng enmA (fCons (fVar 0) fNil)) (gTp 2 (gsCons (gNm 5) (gsCons (gNm 6) gsNil))) W_with_echo_0)
  (sSeq (sRt (fBi bTuple (fCons (fVar 4) fNil)))
  sNil))))
def F_with_echo : FN := runB 9 B_with_echo
theorem P_with_echo (S : Ctx P w K mg base) : Pm (cfg K) P w K mg base 5 "with_echo" 4 F_with_echo := by
  have g_CodeError := He.glo_ok S.kin S.G (S.c.facts (f := .glo "CodeError") (List.mem_of_getElem? (i := 34) rfl))
  have x_CodeError := He.exc_ok (S.c.facts (f := .exc "CodeError") (List.mem_of_getElem? (i := 35) rfl))
  have f_enumerate := He.free_ok S.kin S.G (S.c.facts (f := .free "enumerate") (List.mem_of_getElem? (i := 41) rfl))
  have f_abs := He.free_ok S.kin S.G (S.c.facts (f := .free "abs") (List.mem_of_getElem? (i := 31) rfl))
  have f_min := He.free_ok S.kin S.G (S.c.facts (f := .free "min") (List.mem_of_getElem? (i := 38) rfl))
  have f_max := He.free_ok S.kin S.G (S.c.facts (f := .free "max") (List.mem_of_getElem? (i := 37) rfl))
  have f_tuple := He.free_ok S.kin S.G (S.c.facts (f := .free "tuple") (List.mem_of_getElem? (i := 39) rfl))
  have nd := S_with_echo.nd
  refine pm_of (d := dd "with_echo" 19) (N := N_with_echo) (ps := ["rows", "far", "one", "under"]) S.kin S.G S.c (List.mem_of_getElem? (i := 11) rfl) (List.mem_of_getElem? (i := 11) rfl) rfl rfl rfl S_with_echo (fun _ _ _ _ _ _ us hl => match us, hl with | [_, _, _, _], _ => rfl) fun A outer s H E hr tk po => ?_
  exact db_cons (ds_expr (dp_cp (P_check_samples S) hr (by omega) rfl tk rfl (fes_len_cons fes_len_nil) (da_cons (v_ 0) da_nil))) (db_cons (ds_if (dt_w (dw_or (dt_cmp oLt_n oLt_ok (v_ 1) dp_int rfl) (dw_or (dt_cmp oLt_n oLt_ok (v_ 3) dp_int rfl) (dw_or1 (dt_not (dt_ch oLe_n oLe_n oLe_ok oLe_ok dp_int (v_ 2) (v_ 3))))))) (db_cons (ds_raise (n := 2) rfl tk (pmk_own PySem.F.excBase_ValueError x_CodeError.1 g_CodeError x_CodeError.2.1 (raises_own x_CodeError.2.2.1 x_CodeError.2.2.2) rfl)) db_nil) db_nil) (db_cons (ds_set nd rfl (loc_by rfl) (dp_mut da_nil)) (db_cons (ds_for po rfl (di_enumA rfl f_enumerate (da_cons (v_ 0) da_nil)) (dg_tup rfl (dgs_cons (g_ 5 nd) (dgs_cons (g_ 6 nd) dgs_nil))) (db_cons (ds_set nd rfl (loc_by rfl) (dp_if (dt_cmp oGe_n oGe_ok (v_ 5) (v_ 1) rfl) (dp_ix (v_ 0) (dp_bin oSub_n oSub_ok (v_ 5) (v_ 1)) (fun _ _ => rfl)) dp_int)) (db_cons (ds_set nd rfl (loc_by rfl) (dp_bin oMul_n oMul_ok (dp_bin oDiv_n oDiv_ok (dp_bin oMul_n oMul_ok (dp_bi bAbs_n bAbs_ok rfl f_abs boot_abs (da_cons (v_ 7) da_nil)) (v_ 2)) (v_ 3)) (dp_if (dt_cmp oGe_n oGe_ok (v_ 7) dp_int rfl) dp_int (dp_bin oSub_n oSub_ok dp_int dp_int)))) (db_cons (ds_expr (dp_mt PySem.F.plainAttrs_list PySem.F.slot_list_append PySem.F.type_list_append mApp_n mApp_ok (v_ 4) (da_cons (dp_bi bMaxA_n (bMaxA_ok (hu165_of hr) rfl) rfl f_max boot_max (da_cons (dp_bin oSub_n oSub_ok dp_int (dp_cst rfl (cst_ok S.kin S.G (S.cs _ (List.mem_of_getElem? (i := 0) rfl))))) (da_cons (dp_bi bMinA_n (bMinA_ok (hu165_of hr) rfl) rfl f_min boot_min (da_cons (dp_cst rfl (cst_ok S.kin S.G (S.cs _ (List.mem_of_getElem? (i := 0) rfl)))) (da_cons (dp_bin oAdd_n oAdd_ok (v_ 6) (v_ 8)) da_nil))) da_nil))) da_nil))) db_nil)))) (db_cons (ds_ret (dp_bt bTuple_n bTuple_ok rfl f_tuple boot_tuple (da_cons (v_ 4) da_nil))) db_nil))))
def N_without_echo : List Str := [("rows" : Str), ("far" : Str), ("one" : Str), ("under" : Str), ("found" : Str), ("place" : Str), ("sample" : Str), ("echo" : Str), ("much" : Str)]
theorem S_without_echo : FnScope N_without_echo ["rows", "far", "one", "under"] (defScope (top 20)) := ⟨rfl, rfl, rfl, by decide +kernel, rfl, by decide +kernel, by decide +kernel⟩
def W_without_echo_0 : FS :=
  sSeq (sAsg (fIf (fB (fBin oGe (fVar 5) (fVar 1))) (fBin oIx (fVar 4) (fBin oSub (fVar 5) (fVar 1))) (fC (.int 0))) (gNm 7))
  (sSeq (sAsg (fBin oMul (fBin oDiv (fBin oMul (fBi bAbs (fCons (fVar 7) fNil)) (fVar 2)) (fVar 3)) (fIf (fB (fBin oGe (fVar 7) (fC (.int 0)))) (fC (.int 1)) (fBin oSub (fC (.int 0)) (fC (.int 1))))) (gNm 8))
  (sSeq (sEx (fMt "list" mApp (fVar 4) (fCons (fBi bMaxA (fCons (fBin oSub (fC (.int 0)) (fC (.int 8031))) (fCons (fBi bMinA (fCons (fC (.int 8031)) (fCons (fBin oSub (fVar 6) (fVar 8)) fNil))) fNil))) fNil)))
  sNil))
def B_without_echo : FS :=
  sSeq (sEx (fCall F_with_echo (fCons (fVar 0) (fCons (fVar 1) (fCons (fVar 2) (fCons (fVar 3) fNil))))))
  (sSeq (sAsg (fMut fNil) (gNm 4))
  (sSeq (sFor (iRng enmA (fCons (fVar 0) fNil)) (gTp 2 (gsCons (gNm 5) (gsCons (gNm 6) gsNil))) W_without_echo_0)
  (sSeq (sRt (fBi bTuple (fCons (fVar 4) fNil)))
  sNil)))
def F_without_echo : FN := runB 9 B_without_echo
theorem P_without_echo (S : Ctx P w K mg base) : Pm (cfg K) P w K mg base 6 "without_echo" 4 F_without_echo := by
  have f_enumerate := He.free_ok S.kin S.G (S.c.facts (f := .free "enumerate") (List.mem_of_getElem? (i := 41) rfl))
  have f_abs := He.free_ok S.kin S.G (S.c.facts (f := .free "abs") (List.mem_of_getElem? (i := 31) rfl))
  have f_min := He.free_ok S.kin S.G (S.c.facts (f := .free "min") (List.mem_of_getElem? (i := 38) rfl))
  have f_max := He.free_ok S.kin S.G (S.c.facts (f := .free "max") (List.mem_of_getElem? (i := 37) rfl))
  have f_tuple := He.free_ok S.kin S.G (S.c.facts (f := .free "tuple") (List.mem_of_getElem? (i := 39) rfl))
  have nd := S_without_echo.nd
  refine pm_of (d := dd "without_echo" 20) (N := N_without_echo) (ps := ["rows", "far", "one", "under"]) S.kin S.G S.c (List.mem_of_getElem? (i := 12) rfl) (List.mem_of_getElem? (i := 12) rfl) rfl rfl rfl S_without_echo (fun _ _ _ _ _ _ us hl => match us, hl with | [_, _, _, _], _ => rfl) fun A outer s H E hr tk po => ?_
  exact db_cons (ds_expr (dp_cp (P_with_echo S) hr (by omega) rfl tk rfl (fes_len_cons (fes_len_cons (fes_len_cons (fes_len_cons fes_len_nil)))) (da_cons (v_ 0) (da_cons (v_ 1) (da_cons (v_ 2) (da_cons (v_ 3) da_nil)))))) (db_cons (ds_set nd rfl (loc_by rfl) (dp_mut da_nil)) (db_cons (ds_for po rfl (di_enumA rfl f_enumerate (da_cons (v_ 0) da_nil)) (dg_tup rfl (dgs_cons (g_ 5 nd) (dgs_cons (g_ 6 nd) dgs_nil))) (db_cons (ds_set nd rfl (loc_by rfl) (dp_if (dt_cmp oGe_n oGe_ok (v_ 5) (v_ 1) rfl) (dp_ix (v_ 4) (dp_bin oSub_n oSub_ok (v_ 5) (v_ 1)) (fun _ _ => rfl)) dp_int)) (db_cons (ds_set nd rfl (loc_by rfl) (dp_bin oMul_n oMul_ok (dp_bin oDiv_n oDiv_ok (dp_bin oMul_n oMul_ok (dp_bi bAbs_n bAbs_ok rfl f_abs boot_abs (da_cons (v_ 7) da_nil)) (v_ 2)) (v_ 3)) (dp_if (dt_cmp oGe_n oGe_ok (v_ 7) dp_int rfl) dp_int (dp_bin oSub_n oSub_ok dp_int dp_int)))) (db_cons (ds_expr (dp_mt PySem.F.plainAttrs_list PySem.F.slot_list_append PySem.F.type_list_append mApp_n mApp_ok (v_ 4) (da_cons (dp_bi bMaxA_n (bMaxA_ok (hu165_of hr) rfl) rfl f_max boot_max (da_cons (dp_bin oSub_n oSub_ok dp_int (dp_cst rfl (cst_ok S.kin S.G (S.cs _ (List.mem_of_getElem? (i := 0) rfl))))) (da_cons (dp_bi bMinA_n (bMinA_ok (hu165_of hr) rfl) rfl f_min boot_min (da_cons (dp_cst rfl (cst_ok S.kin S.G (S.cs _ (List.mem_of_getElem? (i := 0) rfl)))) (da_cons (dp_bin oSub_n oSub_ok (v_ 6) (v_ 8)) da_nil))) da_nil))) da_nil))) db_nil)))) (db_cons (ds_ret (dp_bt bTuple_n bTuple_ok rfl f_tuple boot_tuple (da_cons (v_ 4) da_nil))) db_nil)))
def N_echo_far : List Str := [("rows" : Str), ("sent" : Str), ("most" : Str), ("best" : Str), ("far" : Str), ("much" : Str), ("one" : Str), ("other" : Str)]
theorem S_echo_far : FnScope N_echo_far ["rows", "sent", "most"] (defScope (top 21)) := ⟨rfl, rfl, rfl, by decide +kernel, rfl, by decide +kernel, by decide +kernel⟩
def W_echo_far_0 : FS :=
  sSeq (sAsg (fGn stpI kSum [6, 7] (iRng zppA (fCons (fSl (fVar 0) (fSo (fVar 4)) fNo) (fCons (fVar 1) fNil))) (gTp 2 (gsCons (gNm 6) (gsCons (gNm 7) gsNil))) fYes (fBin oMul (fVar 6) (fVar 7))) (gNm 5))
  (sSeq (sAsg (fIf (fOr (fB (fBin oIs (fVar 3) (fC .non))) (fB (fBin oGt (fVar 5) (fBin oIx (fVar 3) (fC (.int 0)))))) (fTup (fCons (fVar 5) (fCons (fVar 4) fNil))) (fVar 3)) (gNm 3))
  sNil)
def B_echo_far : FS :=
  sSeq (sEx (fCall F_check_samples (fCons (fVar 0) fNil)))
  (sSeq (sEx (fCall F_check_samples (fCons (fVar 1) fNil)))
  (sSeq (sIf (fOr (fB (fBin oNe (fBi bLen (fCons (fVar 0) fNil)) (fBi bLen (fCons (fVar 1) fNil)))) (fNot (fB (fCh oLe oLe (fC (.int 1)) (fVar 2) (fC (.int 50)))))) (sSeq (sErr 2)
  sNil) sNil)
  (sSeq (sAsg (fC .non) (gNm 3))
  (sSeq (sFor (iRng rng2 (fCons (fC (.int 1)) (fCons (fBin oAdd (fVar 2) (fC (.int 1))) fNil))) (gNm 4) W_echo_far_0)
  (sSeq (sRt (fBin oIx (fVar 3) (fC (.int 1))))
  sNil)))))
def F_echo_far : FN := runB 8 B_echo_far
theorem P_echo_far (S : Ctx P w K mg base) : Pm (cfg K) P w K mg base 5 "echo_far" 3 F_echo_far := by
  have f_len := He.free_ok S.kin S.G (S.c.facts (f := .free "len") (List.mem_of_getElem? (i := 32) rfl))
  have g_CodeError := He.glo_ok S.kin S.G (S.c.facts (f := .glo "CodeError") (List.mem_of_getElem? (i := 34) rfl))
  have x_CodeError := He.exc_ok (S.c.facts (f := .exc "CodeError") (List.mem_of_getElem? (i := 35) rfl))
  have f_range := He.free_ok S.kin S.G (S.c.facts (f := .free "range") (List.mem_of_getElem? (i := 42) rfl))
  have f_zip := He.free_ok S.kin S.G (S.c.facts (f := .free "zip") (List.mem_of_getElem? (i := 43) rfl))
  have f_sum := He.free_ok S.kin S.G (S.c.facts (f := .free "sum") (List.mem_of_getElem? (i := 36) rfl))
  have tabG := fun S : Ctx P w K mg base => tab_echo_far_genexpr S
  have nd := S_echo_far.nd
  refine pm_of (d := dd "echo_far" 21) (N := N_echo_far) (ps := ["rows", "sent", "most"]) S.kin S.G S.c (List.mem_of_getElem? (i := 13) rfl) (List.mem_of_getElem? (i := 13) rfl) rfl rfl rfl S_echo_far (fun _ _ _ _ _ _ us hl => match us, hl with | [_, _, _], _ => rfl) fun A outer s H E hr tk po => ?_
  exact db_cons (ds_expr (dp_cp (P_check_samples S) hr (by omega) rfl tk rfl (fes_len_cons fes_len_nil) (da_cons (v_ 0) da_nil))) (db_cons (ds_expr (dp_cp (P_check_samples S) hr (by omega) rfl tk rfl (fes_len_cons fes_len_nil) (da_cons (v_ 1) da_nil))) (db_cons (ds_if (dt_w (dw_or (dt_cmp oNe_n (oNe_ok hr.units) (dp_bi bLen_n bLen_ok rfl f_len boot_len (da_cons (v_ 0) da_nil)) (dp_bi bLen_n bLen_ok rfl f_len boot_len (da_cons (v_ 1) da_nil)) rfl) (dw_or1 (dt_not (dt_ch oLe_n oLe_n oLe_ok oLe_ok dp_int (v_ 2) dp_int))))) (db_cons (ds_raise (n := 2) rfl tk (pmk_own PySem.F.excBase_ValueError x_CodeError.1 g_CodeError x_CodeError.2.1 (raises_own x_CodeError.2.2.1 x_CodeError.2.2.2) rfl)) db_nil) db_nil) (db_cons (ds_set nd rfl (loc_by rfl) dp_non) (db_cons (ds_for po rfl (di_rng2 rfl f_range (da_cons dp_int (da_cons (dp_bin oAdd_n oAdd_ok (v_ 2) dp_int) da_nil))) (g_ 4 nd) (db_cons (ds_set nd rfl (loc_by rfl) (genB_ (k := 1) (own := [("one", 6), ("other", 7)]) rfl rfl f_sum boot_sum sum_cons (gok_ (tabG S) rfl hr (by omega) nd rfl (by decide) (by decide +kernel) rfl rfl (fun _ => rfl) (di_zipA rfl f_zip (da_cons (dp_sl (v_ 0) (do_so (v_ 4)) do_no) (da_cons (v_ 1) da_nil))) (fun _ _ _ _ _ _ _ hr' => dg_tup rfl (dgs_cons (g_ 6 nd) (dgs_cons (g_ 7 nd) dgs_nil))) (fun _ _ _ _ _ _ _ hr' => dts_nil) (fun _ _ _ _ _ _ _ hr' => dp_bin oMul_n oMul_ok (v_ 6) (v_ 7))))) (db_cons (ds_set nd rfl (loc_by rfl) (dp_if (dt_w (dw_or (dt_cmp oIs_n oIs_ok (v_ 3) dp_non rfl) (dw_or1 (dt_cmp oGt_n oGt_ok (v_ 5) (dp_ix (v_ 3) dp_int (fun _ _ => rfl)) rfl)))) (dp_tup (da_cons (v_ 5) (da_cons (v_ 4) da_nil))) (v_ 3))) db_nil))) (db_cons (ds_ret (dp_ix (v_ 3) dp_int (fun _ _ => rfl))) db_nil)))))
def N_filled_in : List Str := [("rows" : Str), ("lost" : Str), ("place" : Str), ("gone" : Str), ("found" : Str), ("sample" : Str), ("ahead" : Str), ("one" : Str), ("behind" : Str), ("near" : Str)]
theorem S_filled_in : FnScope N_filled_in ["rows", "lost"] (defScope (top 22)) := ⟨rfl, rfl, rfl, by decide +kernel, rfl, by decide +kernel, by decide +kernel⟩
def Z_filled_in_0 : FE :=
  fNotV (fCh oLe oLt (fC (.int 0)) (fVar 2) (fBi bLen (fCons (fVar 0) fNil)))
def W_filled_in_0 : FS :=
  sSeq (sAsg (fSl (fLc [7] (iRng rng1 (fCons (fVar 2) fNil)) (gNm 7) (fB (fBin oNInK (fVar 7) (fVar 3))) (fBin oIx (fVar 0) (fVar 7))) (fSo (fNeg (fC (.int 1)))) fNo) (gNm 6))
  (sSeq (sAsg (fSl (fLc [7] (iRng rng2 (fCons (fBin oAdd (fVar 2) (fC (.int 1))) (fCons (fBi bLen (fCons (fVar 0) fNil)) fNil))) (gNm 7) (fB (fBin oNInK (fVar 7) (fVar 3))) (fBin oIx (fVar 0) (fVar 7))) fNo (fSo (fC (.int 1)))) (gNm 8))
  (sSeq (sAsg (fBin oAdd (fVar 6) (fVar 8)) (gNm 9))
  (sSeq (sEx (fMt "list" mApp (fVar 4) (fCons (fIf (fB (fBin oNInK (fVar 2) (fVar 3))) (fVar 5) (fIf (fB (fBin oNe (fVar 9) (fLst fNil))) (fBin oDiv (fBi bSumA (fCons (fVar 9) fNil)) (fBi bLen (fCons (fVar 9) fNil))) (fC (.int 0)))) fNil)))
  sNil)))
def B_filled_in : FS :=
  sSeq (sEx (fCall F_check_samples (fCons (fVar 0) fNil)))
  (sSeq (sIf (fTru (fGn (stpB true) (kB true) [2] (iSeq (fVar 1)) (gNm 2) fYes Z_filled_in_0)) (sSeq (sErr 2)
  sNil) sNil)
  (sSeq (sAsg (fTup (fCons (fDc [2] (iSeq (fVar 1)) (gNm 2) fYes (fVar 2) (fC (.bl true))) (fCons (fMut fNil) fNil))) (gTp 2 (gsCons (gNm 3) (gsCons (gNm 4) gsNil))))
  (sSeq (sFor (iRng enmA (fCons (fVar 0) fNil)) (gTp 2 (gsCons (gNm 2) (gsCons (gNm 5) gsNil))) W_filled_in_0)
  (sSeq (sRt (fBi bTuple (fCons (fVar 4) fNil)))
  sNil))))
def F_filled_in : FN := runB 10 B_filled_in
theorem P_filled_in (S : Ctx P w K mg base) : Pm (cfg K) P w K mg base 5 "filled_in" 2 F_filled_in := by
  have f_len := He.free_ok S.kin S.G (S.c.facts (f := .free "len") (List.mem_of_getElem? (i := 32) rfl))
  have f_any := He.free_ok S.kin S.G (S.c.facts (f := .free "any") (List.mem_of_getElem? (i := 33) rfl))
  have g_CodeError := He.glo_ok S.kin S.G (S.c.facts (f := .glo "CodeError") (List.mem_of_getElem? (i := 34) rfl))
  have x_CodeError := He.exc_ok (S.c.facts (f := .exc "CodeError") (List.mem_of_getElem? (i := 35) rfl))
  have f_enumerate := He.free_ok S.kin S.G (S.c.facts (f := .free "enumerate") (List.mem_of_getElem? (i := 41) rfl))
  have f_range := He.free_ok S.kin S.G (S.c.facts (f := .free "range") (List.mem_of_getElem? (i := 42) rfl))
  have f_sum := He.free_ok S.kin S.G (S.c.facts (f := .free "sum") (List.mem_of_getElem? (i := 36) rfl))
  have f_tuple := He.free_ok S.kin S.G (S.c.facts (f := .free "tuple") (List.mem_of_getElem? (i := 39) rfl))
  have tabG := fun S : Ctx P w K mg base => tab_filled_in_genexpr S
  have nd := S_filled_in.nd
  refine pm_of (d := dd "filled_in" 22) (N := N_filled_in) (ps := ["rows", "lost"]) S.kin S.G S.c (List.mem_of_getElem? (i := 14) rfl) (List.mem_of_getElem? (i := 14) rfl) rfl rfl rfl S_filled_in (fun _ _ _ _ _ _ us hl => match us, hl with | [_, _], _ => rfl) fun A outer s H E hr tk po => ?_
  exact db_cons (ds_expr (dp_cp (P_check_samples S) hr (by omega) rfl tk rfl (fes_len_cons fes_len_nil) (da_cons (v_ 0) da_nil))) (db_cons (ds_if (dt_tru (genB_ (k := 1) (own := [("place", 2)]) rfl rfl f_any boot_any any_cons (gok_ (tabG S) rfl hr (by omega) nd rfl (by decide) (by decide +kernel) rfl rfl (fun _ => rfl) (di_seq (v_ 1)) (fun _ _ _ _ _ _ _ hr' => g_ 2 nd) (fun _ _ _ _ _ _ _ hr' => dts_nil) (fun _ _ _ _ _ _ _ hr' => dp_not (dp_ch oLe_n oLt_n oLe_ok oLt_ok dp_int (v_ 2) (dp_bi bLen_n bLen_ok rfl f_len boot_len (da_cons (v_ 0) da_nil))))))) (db_cons (ds_raise (n := 2) rfl tk (pmk_own PySem.F.excBase_ValueError x_CodeError.1 g_CodeError x_CodeError.2.1 (raises_own x_CodeError.2.2.1 x_CodeError.2.2.2) rfl)) db_nil) db_nil) (db_cons (ds_asg (dp_tup (da_cons (dc_ (own := [("place", 2)]) rfl rfl nd (di_seq (v_ 1)) rfl (by decide) (fun _ _ _ _ _ => g_ 2 nd) (fun _ _ _ _ _ => dts_nil) (fun _ _ _ _ _ => v_ 2) (fun _ _ _ _ _ => dp_bl)) (da_cons (dp_mut da_nil) da_nil))) (dg_tup rfl (dgs_cons (g_ 3 nd) (dgs_cons (g_ 4 nd) dgs_nil)))) (db_cons (ds_for po rfl (di_enumA rfl f_enumerate (da_cons (v_ 0) da_nil)) (dg_tup rfl (dgs_cons (g_ 2 nd) (dgs_cons (g_ 5 nd) dgs_nil))) (db_cons (ds_set nd rfl (loc_by rfl) (dp_sl (lc_ (own := [("one", 7)]) rfl rfl nd (di_rng1 rfl f_range (da_cons (v_ 2) da_nil)) rfl (by decide) (fun _ _ _ _ _ => g_ 7 nd) (fun _ _ _ _ _ => dts_one (dt_cmp oNInK_n (oNInK_ok (hu65_of hr)) (v_ 7) (v_ 3) rfl)) (fun _ _ _ _ _ => dp_ix (v_ 0) (v_ 7) (fun _ _ => rfl))) (do_so (dp_neg dp_int)) do_no)) (db_cons (ds_set nd rfl (loc_by rfl) (dp_sl (lc_ (own := [("one", 7)]) rfl rfl nd (di_rng2 rfl f_range (da_cons (dp_bin oAdd_n oAdd_ok (v_ 2) dp_int) (da_cons (dp_bi bLen_n bLen_ok rfl f_len boot_len (da_cons (v_ 0) da_nil)) da_nil))) rfl (by decide) (fun _ _ _ _ _ => g_ 7 nd) (fun _ _ _ _ _ => dts_one (dt_cmp oNInK_n (oNInK_ok (hu65_of hr)) (v_ 7) (v_ 3) rfl)) (fun _ _ _ _ _ => dp_ix (v_ 0) (v_ 7) (fun _ _ => rfl))) do_no (do_so dp_int))) (db_cons (ds_set nd rfl (loc_by rfl) (dp_bin oAdd_n oAdd_ok (v_ 6) (v_ 8))) (db_cons (ds_expr (dp_mt PySem.F.plainAttrs_list PySem.F.slot_list_append PySem.F.type_list_append mApp_n mApp_ok (v_ 4) (da_cons (dp_if (dt_cmp oNInK_n (oNInK_ok (hu65_of hr)) (v_ 2) (v_ 3) rfl) (v_ 5) (dp_if (dt_cmp oNe_n (oNe_ok hr.units) (v_ 9) (dp_lst da_nil) rfl) (dp_bin oDiv_n oDiv_ok (dp_bi bSumA_n (bSumA_ok rfl) rfl f_sum boot_sum (da_cons (v_ 9) da_nil)) (dp_bi bLen_n bLen_ok rfl f_len boot_len (da_cons (v_ 9) da_nil))) dp_int)) da_nil))) db_nil))))) (db_cons (ds_ret (dp_bt bTuple_n bTuple_ok rfl f_tuple boot_tuple (da_cons (v_ 4) da_nil))) db_nil))))
def N__law_dice : List Str := [("cell" : Str)]
theorem S__law_dice : FnScope N__law_dice ["cell"] (defScope (top 24)) := ⟨rfl, rfl, rfl, by decide +kernel, rfl, by decide +kernel, by decide +kernel⟩
def B__law_dice : FS :=
  sSeq (sIf (fB (fCh oLt oLt (fBin oSub (fC (.int 0)) (fC (.int 10))) (fVar 0) (fC (.int 10)))) (sSeq (sRt (fMut (fCons (fBi bAbs (fCons (fVar 0) fNil)) (fCons (fC (.int 0)) (fCons (fC (.int 2)) fNil)))))
  sNil) sNil)
  (sSeq (sRt (fMut (fCons (fVar 0) (fCons (fBin oAdd (fC (.int 1)) (fBin oMod (fBi bInt (fCons (fVar 0) fNil)) (fC (.int 1009)))) (fCons (fBi bInt (fCons (fBin oGe (fVar 0) (fBin oPow (fC (.int 10)) (fC (.int 18)))) fNil)) fNil)))))
  sNil)
def F__law_dice : FN := runB 1 B__law_dice
theorem P__law_dice (S : Ctx P w K mg base) : Pm (cfg K) P w K mg base 2 "_law_dice" 1 F__law_dice := by
  have f_abs := He.free_ok S.kin S.G (S.c.facts (f := .free "abs") (List.mem_of_getElem? (i := 31) rfl))
  have f_int := He.free_ok S.kin S.G (S.c.facts (f := .free "int") (List.mem_of_getElem? (i := 44) rfl))
  have nd := S__law_dice.nd
  refine pm_of (d := dd "_law_dice" 24) (N := N__law_dice) (ps := ["cell"]) S.kin S.G S.c (List.mem_of_getElem? (i := 15) rfl) (List.mem_of_getElem? (i := 15) rfl) rfl rfl rfl S__law_dice (fun _ _ _ _ _ _ us hl => match us, hl with | [_], _ => rfl) fun A outer s H E hr tk po => ?_
  exact db_cons (ds_if (dt_ch oLt_n oLt_n oLt_ok oLt_ok (dp_bin oSub_n oSub_ok dp_int dp_int) (v_ 0) dp_int) (db_cons (ds_ret (dp_mut (da_cons (dp_bi bAbs_n bAbs_ok rfl f_abs boot_abs (da_cons (v_ 0) da_nil)) (da_cons dp_int (da_cons dp_int da_nil))))) db_nil) db_nil) (db_cons (ds_ret (dp_mut (da_cons (v_ 0) (da_cons (dp_bin oAdd_n oAdd_ok dp_int (dp_bin oMod_n oMod_ok (dp_bt bInt_n bInt_ok rfl f_int boot_int (da_cons (v_ 0) da_nil)) dp_int)) (da_cons (dp_bt bInt_n bInt_ok rfl f_int boot_int (da_cons (dp_cmp oGe_n oGe_ok (v_ 0) (dp_bin oPow_n oPow_ok dp_int dp_int) rfl) da_nil)) da_nil))))) db_nil)
def N__law_roll : List Str := [("dice" : Str), ("many" : Str), ("found" : Str)]
theorem S__law_roll : FnScope N__law_roll ["dice", "many"] (defScope (top 25)) := ⟨rfl, rfl, rfl, by decide +kernel, rfl, by decide +kernel, by decide +kernel⟩
def B__law_roll (self : FN) : FS :=
  sSeq (sIf (fOr (fB (fBin oEq (fBin oIx (fVar 0) (fC (.int 2))) (fC (.int 2)))) (fAnd (fB (fBin oEq (fBin oIx (fVar 0) (fC (.int 2))) (fC (.int 1)))) (fB (fBin oGt (fBin oIx (fVar 0) (fC (.int 0))) (fC (.int 0)))))) (sSeq (sAsg (fBin oMod (fBi bInt (fCons (fBin oIx (fVar 0) (fC (.int 0))) fNil)) (fVar 1)) (gNm 2))
  (sSeq (sAsg (fBin oDiv (fBin oIx (fVar 0) (fC (.int 0))) (fVar 1)) (gSb (fVar 0) (fC (.int 0))))
  (sSeq (sRt (fVar 2))
  sNil))) sNil)
  (sSeq (sAsg (fC (.int 0)) (gSb (fVar 0) (fC (.int 2))))
  (sSeq (sIf (fB (fBin oGt (fVar 1) (fC (.int 100000000)))) (sSeq (sRt (fBin oMod (fBi bInt (fCons (fBin oAdd (fBin oMul (fCall self (fCons (fVar 0) (fCons (fBin oAdd (fBin oDiv (fVar 1) (fC (.int 100000000))) (fC (.int 1))) fNil))) (fC (.int 100000000))) (fCall self (fCons (fVar 0) (fCons (fC (.int 100000000)) fNil)))) fNil)) (fVar 1)))
  sNil) sNil)
  (sSeq (sAsg (fBin oMod (fBi bInt (fCons (fBin oAdd (fBin oAdd (fBin oMul (fBin oIx (fVar 0) (fC (.int 0))) (fC (.int 48271))) (fBin oMul (fBin oIx (fVar 0) (fC (.int 1))) (fC (.int 69621)))) (fC (.int 11))) fNil)) (fC (.int 2147483647))) (gSb (fVar 0) (fC (.int 0))))
  (sSeq (sAsg (fBin oAdd (fBin oIx (fVar 0) (fC (.int 1))) (fC (.int 1))) (gSb (fVar 0) (fC (.int 1))))
  (sSeq (sRt (fBin oMod (fBi bInt (fCons (fBin oDiv (fBin oIx (fVar 0) (fC (.int 0))) (fC (.int 7))) fNil)) (fVar 1)))
  sNil)))))
def F__law_roll : Nat → FN
  | 0 => runB 3 fun _ _ => .stuck
  | n + 1 => runB 3 (B__law_roll (F__law_roll n))
theorem P__law_roll (S : Ctx P w K mg base) : ∀ n, Pm (cfg K) P w K mg base (2 + n) "_law_roll" 2 (F__law_roll n) := by
  intro n
  have f_int := He.free_ok S.kin S.G (S.c.facts (f := .free "int") (List.mem_of_getElem? (i := 44) rfl))
  have nd := S__law_roll.nd
  induction n with
  | zero =>
    refine pm_of (d := dd "_law_roll" 25) (N := N__law_roll) (ps := ["dice", "many"]) S.kin S.G S.c (List.mem_of_getElem? (i := 16) rfl) (List.mem_of_getElem? (i := 16) rfl) rfl rfl rfl S__law_roll (fun _ _ _ _ _ _ us hl => match us, hl with | [_, _], _ => rfl) fun A outer s H E hr tk po => ?_
    exact db_stuck
  | succ n ih =>
    refine pm_of (d := dd "_law_roll" 25) (N := N__law_roll) (ps := ["dice", "many"]) S.kin S.G S.c (List.mem_of_getElem? (i := 16) rfl) (List.mem_of_getElem? (i := 16) rfl) rfl rfl rfl S__law_roll (fun _ _ _ _ _ _ us hl => match us, hl with | [_, _], _ => rfl) fun A outer s H E hr tk po => ?_
    have hr : Room (2 + n) (A.deeper (envOfC "_law_roll" (defScope (top 25)) s.heap.objs.size (He.fAd K ("_law_roll", none)) (.ref (He.codeOf K ("_law_roll", none))))) := hr
    exact db_cons (ds_if (dt_w (dw_or (dt_cmp oEq_n (oEq_ok hr.units) (dp_ix (v_ 0) dp_int (fun _ _ => rfl)) dp_int rfl) (dw_or1 (dt_w (dw_and (dt_cmp oEq_n (oEq_ok hr.units) (dp_ix (v_ 0) dp_int (fun _ _ => rfl)) dp_int rfl) (dw_and1 (dt_cmp oGt_n oGt_ok (dp_ix (v_ 0) dp_int (fun _ _ => rfl)) dp_int rfl))))))) (db_cons (ds_set nd rfl (loc_by rfl) (dp_bin oMod_n oMod_ok (dp_bt bInt_n bInt_ok rfl f_int boot_int (da_cons (dp_ix (v_ 0) dp_int (fun _ _ => rfl)) da_nil)) (v_ 1))) (db_cons (ds_asg (dp_bin oDiv_n oDiv_ok (dp_ix (v_ 0) dp_int (fun _ _ => rfl)) (v_ 1)) (dg_sub (v_ 0) dp_int (fun _ => rfl))) (db_cons (ds_ret (v_ 2)) db_nil))) db_nil) (db_cons (ds_asg dp_int (dg_sub (v_ 0) dp_int (fun _ => rfl))) (db_cons (ds_if (dt_cmp oGt_n oGt_ok (v_ 1) dp_int rfl) (db_cons (ds_ret (dp_bin oMod_n oMod_ok (dp_bt bInt_n bInt_ok rfl f_int boot_int (da_cons (dp_bin oAdd_n oAdd_ok (dp_bin oMul_n oMul_ok (dp_cp ih hr (by omega) rfl tk rfl (fes_len_cons (fes_len_cons fes_len_nil)) (da_cons (v_ 0) (da_cons (dp_bin oAdd_n oAdd_ok (dp_bin oDiv_n oDiv_ok (v_ 1) dp_int) dp_int) da_nil))) dp_int) (dp_cp ih hr (by omega) rfl tk rfl (fes_len_cons (fes_len_cons fes_len_nil)) (da_cons (v_ 0) (da_cons dp_int da_nil)))) da_nil)) (v_ 1))) db_nil) db_nil) (db_cons (ds_asg (dp_bin oMod_n oMod_ok (dp_bt bInt_n bInt_ok rfl f_int boot_int (da_cons (dp_bin oAdd_n oAdd_ok (dp_bin oAdd_n oAdd_ok (dp_bin oMul_n oMul_ok (dp_ix (v_ 0) dp_int (fun _ _ => rfl)) dp_int) (dp_bin oMul_n oMul_ok (dp_ix (v_ 0) dp_int (fun _ _ => rfl)) dp_int)) dp_int) da_nil)) dp_int) (dg_sub (v_ 0) dp_int (fun _ => rfl))) (db_cons (ds_asg (dp_bin oAdd_n oAdd_ok (dp_ix (v_ 0) dp_int (fun _ _ => rfl)) dp_int) (dg_sub (v_ 0) dp_int (fun _ => rfl))) (db_cons (ds_ret (dp_bin oMod_n oMod_ok (dp_bt bInt_n bInt_ok rfl f_int boot_int (da_cons (dp_bin oDiv_n oDiv_ok (dp_ix (v_ 0) dp_int (fun _ _ => rfl)) dp_int) da_nil)) (v_ 1))) db_nil)))))
def N__law_rounds : List Str := [("script" : Str), ("most" : Str), ("cells" : Str), ("cell" : Str)]
theorem S__law_rounds : FnScope N__law_rounds ["script", "most"] (defScope (top 26)) := ⟨rfl, rfl, rfl, by decide +kernel, rfl, by decide +kernel, by decide +kernel⟩
def B__law_rounds : FS :=
  sSeq (sAsg (fSl (fVar 0) fNo (fSo (fVar 1))) (gNm 2))
  (sSeq (sIf (fB (fBin oEq (fVar 2) (fLst fNil))) (sSeq (sAsg (fLst (fCons (fC (.int 0)) fNil)) (gNm 2))
  sNil) sNil)
  (sSeq (sRt (fLc [3] (iSeq (fVar 2)) (gNm 3) fYes (fCall F__law_dice (fCons (fVar 3) fNil))))
  sNil))
def F__law_rounds : FN := runB 4 B__law_rounds
theorem P__law_rounds (S : Ctx P w K mg base) : Pm (cfg K) P w K mg base 3 "_law_rounds" 2 F__law_rounds := by
  have nd := S__law_rounds.nd
  refine pm_of (d := dd "_law_rounds" 26) (N := N__law_rounds) (ps := ["script", "most"]) S.kin S.G S.c (List.mem_of_getElem? (i := 17) rfl) (List.mem_of_getElem? (i := 17) rfl) rfl rfl rfl S__law_rounds (fun _ _ _ _ _ _ us hl => match us, hl with | [_, _], _ => rfl) fun A outer s H E hr tk po => ?_
  exact db_cons (ds_set nd rfl (loc_by rfl) (dp_sl (v_ 0) do_no (do_so (v_ 1)))) (db_cons (ds_if (dt_cmp oEq_n (oEq_ok hr.units) (v_ 2) (dp_lst da_nil) rfl) (db_cons (ds_set nd rfl (loc_by rfl) (dp_lst (da_cons dp_int da_nil))) db_nil) db_nil) (db_cons (ds_ret (lc_ (own := [("cell", 3)]) rfl rfl nd (di_seq (v_ 2)) rfl (by decide) (fun _ _ _ _ _ => g_ 3 nd) (fun _ _ _ _ _ => dts_nil) (fun _ _ _ _ _ => dp_cp (P__law_dice S) hr (by omega) rfl takes0 rfl (fes_len_cons fes_len_nil) (da_cons (v_ 3) da_nil)))) db_nil))
def N__law_gcd : List Str := [("one" : Str), ("other" : Str)]
theorem S__law_gcd : FnScope N__law_gcd ["one", "other"] (defScope (top 28)) := ⟨rfl, rfl, rfl, by decide +kernel, rfl, by decide +kernel, by decide +kernel⟩
def B__law_gcd (self : FN) : FS :=
  sSeq (sRt (fIf (fB (fBin oEq (fVar 1) (fC (.int 0)))) (fVar 0) (fCall self (fCons (fVar 1) (fCons (fBin oMod (fVar 0) (fVar 1)) fNil)))))
  sNil
def F__law_gcd : Nat → FN
  | 0 => runB 2 fun _ _ => .stuck
  | n + 1 => runB 2 (B__law_gcd (F__law_gcd n))
theorem P__law_gcd (S : Ctx P w K mg base) : ∀ n, Pm (cfg K) P w K mg base (2 + n) "_law_gcd" 2 (F__law_gcd n) := by
  intro n
  have nd := S__law_gcd.nd
  induction n with
  | zero =>
    refine pm_of (d := dd "_law_gcd" 28) (N := N__law_gcd) (ps := ["one", "other"]) S.kin S.G S.c (List.mem_of_getElem? (i := 19) rfl) (List.mem_of_getElem? (i := 19) rfl) rfl rfl rfl S__law_gcd (fun _ _ _ _ _ _ us hl => match us, hl with | [_, _], _ => rfl) fun A outer s H E hr tk po => ?_
    exact db_stuck
  | succ n ih =>
    refine pm_of (d := dd "_law_gcd" 28) (N := N__law_gcd) (ps := ["one", "other"]) S.kin S.G S.c (List.mem_of_getElem? (i := 19) rfl) (List.mem_of_getElem? (i := 19) rfl) rfl rfl rfl S__law_gcd (fun _ _ _ _ _ _ us hl => match us, hl with | [_, _], _ => rfl) fun A outer s H E hr tk po => ?_
    have hr : Room (2 + n) (A.deeper (envOfC "_law_gcd" (defScope (top 28)) s.heap.objs.size (He.fAd K ("_law_gcd", none)) (.ref (He.codeOf K ("_law_gcd", none))))) := hr
    exact db_cons (ds_ret (dp_if (dt_cmp oEq_n (oEq_ok hr.units) (v_ 1) dp_int rfl) (v_ 0) (dp_cp ih hr (by omega) rfl tk rfl (fes_len_cons (fes_len_cons fes_len_nil)) (da_cons (v_ 1) (da_cons (dp_bin oMod_n oMod_ok (v_ 0) (v_ 1)) da_nil))))) db_nil
def N__law_share : List Str := [("one" : Str), ("under" : Str), ("sign" : Str), ("both" : Str)]
theorem S__law_share : FnScope N__law_share ["one", "under"] (defScope (top 29)) := ⟨rfl, rfl, rfl, by decide +kernel, rfl, by decide +kernel, by decide +kernel⟩
def B__law_share : FS :=
  sSeq (sAsg (fIf (fB (fBin oLt (fVar 1) (fC (.int 0)))) (fNeg (fC (.int 1))) (fC (.int 1))) (gNm 2))
  (sSeq (sAsg (fCall (F__law_gcd 60) (fCons (fBi bAbs (fCons (fVar 0) fNil)) (fCons (fBi bAbs (fCons (fVar 1) fNil)) fNil))) (gNm 3))
  (sSeq (sRt (fTup (fCons (fBin oDiv (fBin oMul (fVar 2) (fVar 0)) (fVar 3)) (fCons (fBin oDiv (fBin oMul (fVar 2) (fVar 1)) (fVar 3)) fNil))))
  sNil))
def F__law_share : FN := runB 4 B__law_share
theorem P__law_share (S : Ctx P w K mg base) : Pm (cfg K) P w K mg base 63 "_law_share" 2 F__law_share := by
  have f_abs := He.free_ok S.kin S.G (S.c.facts (f := .free "abs") (List.mem_of_getElem? (i := 31) rfl))
  have nd := S__law_share.nd
  refine pm_of (d := dd "_law_share" 29) (N := N__law_share) (ps := ["one", "under"]) S.kin S.G S.c (List.mem_of_getElem? (i := 20) rfl) (List.mem_of_getElem? (i := 20) rfl) rfl rfl rfl S__law_share (fun _ _ _ _ _ _ us hl => match us, hl with | [_, _], _ => rfl) fun A outer s H E hr tk po => ?_
  exact db_cons (ds_set nd rfl (loc_by rfl) (dp_if (dt_cmp oLt_n oLt_ok (v_ 1) dp_int rfl) (dp_neg dp_int) dp_int)) (db_cons (ds_set nd rfl (loc_by rfl) (dp_cp (P__law_gcd S 60) hr (by omega) rfl tk rfl (fes_len_cons (fes_len_cons fes_len_nil)) (da_cons (dp_bi bAbs_n bAbs_ok rfl f_abs boot_abs (da_cons (v_ 0) da_nil)) (da_cons (dp_bi bAbs_n bAbs_ok rfl f_abs boot_abs (da_cons (v_ 1) da_nil)) da_nil)))) (db_cons (ds_ret (dp_tup (da_cons (dp_bin oDiv_n oDiv_ok (dp_bin oMul_n oMul_ok (v_ 2) (v_ 0)) (v_ 3)) (da_cons (dp_bin oDiv_n oDiv_ok (dp_bin oMul_n oMul_ok (v_ 2) (v_ 1)) (v_ 3)) da_nil)))) db_nil))
def N__law_edges : List Str := [("rows" : Str), ("here" : Str), ("stretch" : Str), ("place" : Str)]
theorem S__law_edges : FnScope N__law_edges [] (defScope (top 30)) := ⟨rfl, rfl, rfl, by decide +kernel, rfl, by decide +kernel, by decide +kernel⟩
def W__law_edges_0 : FS :=
  sSeq (sAsg (fBin oAdd (fVar 0) (fLst (fCons (fVar 1) fNil))) (gNm 0))
  (sSeq (sAsg (fBin oAdd (fVar 1) (fBin oMul (fBin oIx (fLst (fCons (fC (.int 1)) (fCons (fC (.int 2)) (fCons (fC (.int 4)) (fCons (fC (.int 8)) (fCons (fC (.int 16)) (fCons (fC (.int 32)) (fCons (fC (.int 64)) (fCons (fC (.int 128)) fNil))))))))) (fVar 2)) (fC (.int 2)))) (gNm 1))
  sNil)
def W__law_edges_1 : FS :=
  sSeq (sFor (iRng rng1 (fCons (fC (.int 16)) fNil)) (gNm 3) W__law_edges_0)
  sNil
def B__law_edges : FS :=
  sSeq (sPar 0 1 (fCons (fLst fNil) (fCons (fNeg (fC (.int 1))) fNil)))
  (sSeq (sFor (iRng rng1 (fCons (fC (.int 8)) fNil)) (gNm 2) W__law_edges_1)
  (sSeq (sRt (fVar 0))
  sNil))
def F__law_edges : FN := runB 4 B__law_edges
theorem P__law_edges (S : Ctx P w K mg base) : Pm (cfg K) P w K mg base 2 "_law_edges" 0 F__law_edges := by
  have f_range := He.free_ok S.kin S.G (S.c.facts (f := .free "range") (List.mem_of_getElem? (i := 42) rfl))
  have nd := S__law_edges.nd
  refine pm_of (d := dd "_law_edges" 30) (N := N__law_edges) (ps := []) S.kin S.G S.c (List.mem_of_getElem? (i := 21) rfl) (List.mem_of_getElem? (i := 21) rfl) rfl rfl rfl S__law_edges (fun _ _ _ _ _ _ us hl => match us, hl with | [], _ => rfl) fun A outer s H E hr tk po => ?_
  exact db_cons (ds_par rfl nd rfl rfl (by decide) rfl rfl (da_cons (dp_lst da_nil) (da_cons (dp_neg dp_int) da_nil)) rfl) (db_cons (ds_for po rfl (di_rng1 rfl f_range (da_cons dp_int da_nil)) (g_ 2 nd) (db_cons (ds_for po rfl (di_rng1 rfl f_range (da_cons dp_int da_nil)) (g_ 3 nd) (db_cons (ds_set nd rfl (loc_by rfl) (dp_bin oAdd_n oAdd_ok (v_ 0) (dp_lst (da_cons (v_ 1) da_nil)))) (db_cons (ds_set nd rfl (loc_by rfl) (dp_bin oAdd_n oAdd_ok (v_ 1) (dp_bin oMul_n oMul_ok (dp_ix (dp_lst (da_cons dp_int (da_cons dp_int (da_cons dp_int (da_cons dp_int (da_cons dp_int (da_cons dp_int (da_cons dp_int (da_cons dp_int da_nil))))))))) (v_ 2) (fun _ _ => rfl)) dp_int))) db_nil))) db_nil)) (db_cons (ds_ret (v_ 0)) db_nil))
def N__law_press : List Str := [("sample" : Str), ("size" : Str), ("code" : Str), ("edge" : Str)]
theorem S__law_press : FnScope N__law_press ["sample"] (defScope (top 31)) := ⟨rfl, rfl, rfl, by decide +kernel, rfl, by decide +kernel, by decide +kernel⟩
def B__law_press : FS :=
  sSeq (sAsg (fBi bAbs (fCons (fVar 0) fNil)) (gNm 1))
  (sSeq (sAsg (fBin oSub (fBi bLen (fCons (fLc [3] (iSeq (fCall0 F__law_edges)) (gNm 3) (fB (fBin oLe (fVar 3) (fVar 1))) (fVar 3)) fNil)) (fC (.int 1))) (gNm 2))
  (sSeq (sRt (fBin oAdd (fVar 2) (fBin oMul (fC (.int 128)) (fBi bInt (fCons (fBin oLt (fVar 0) (fC (.int 0))) fNil)))))
  sNil))
def F__law_press : FN := runB 4 B__law_press
theorem P__law_press (S : Ctx P w K mg base) : Pm (cfg K) P w K mg base 3 "_law_press" 1 F__law_press := by
  have f_abs := He.free_ok S.kin S.G (S.c.facts (f := .free "abs") (List.mem_of_getElem? (i := 31) rfl))
  have f_len := He.free_ok S.kin S.G (S.c.facts (f := .free "len") (List.mem_of_getElem? (i := 32) rfl))
  have f_int := He.free_ok S.kin S.G (S.c.facts (f := .free "int") (List.mem_of_getElem? (i := 44) rfl))
  have nd := S__law_press.nd
  refine pm_of (d := dd "_law_press" 31) (N := N__law_press) (ps := ["sample"]) S.kin S.G S.c (List.mem_of_getElem? (i := 22) rfl) (List.mem_of_getElem? (i := 22) rfl) rfl rfl rfl S__law_press (fun _ _ _ _ _ _ us hl => match us, hl with | [_], _ => rfl) fun A outer s H E hr tk po => ?_
  exact db_cons (ds_set nd rfl (loc_by rfl) (dp_bi bAbs_n bAbs_ok rfl f_abs boot_abs (da_cons (v_ 0) da_nil))) (db_cons (ds_set nd rfl (loc_by rfl) (dp_bin oSub_n oSub_ok (dp_bi bLen_n bLen_ok rfl f_len boot_len (da_cons (lc_ (own := [("edge", 3)]) rfl rfl nd (di_seq (dp_cp0 (P__law_edges S) hr (by omega) rfl tk)) rfl (by decide) (fun _ _ _ _ _ => g_ 3 nd) (fun _ _ _ _ _ => dts_one (dt_cmp oLe_n oLe_ok (v_ 3) (v_ 1) rfl)) (fun _ _ _ _ _ => v_ 3)) da_nil)) dp_int)) (db_cons (ds_ret (dp_bin oAdd_n oAdd_ok (v_ 2) (dp_bin oMul_n oMul_ok dp_int (dp_bt bInt_n bInt_ok rfl f_int boot_int (da_cons (dp_cmp oLt_n oLt_ok (v_ 0) dp_int rfl) da_nil))))) db_nil))
def N__law_open : List Str := [("code" : Str), ("edges" : Str), ("wide" : Str), ("much" : Str)]
theorem S__law_open : FnScope N__law_open ["code"] (defScope (top 32)) := ⟨rfl, rfl, rfl, by decide +kernel, rfl, by decide +kernel, by decide +kernel⟩
def B__law_open : FS :=
  sSeq (sAsg (fCall0 F__law_edges) (gNm 1))
  (sSeq (sAsg (fBin oIx (fLst (fCons (fC (.int 2)) (fCons (fC (.int 4)) (fCons (fC (.int 8)) (fCons (fC (.int 16)) (fCons (fC (.int 32)) (fCons (fC (.int 64)) (fCons (fC (.int 128)) (fCons (fC (.int 256)) fNil))))))))) (fBin oDiv (fBin oMod (fVar 0) (fC (.int 128))) (fC (.int 16)))) (gNm 2))
  (sSeq (sAsg (fBin oAdd (fBin oIx (fVar 1) (fBin oMod (fVar 0) (fC (.int 128)))) (fBin oDiv (fVar 2) (fC (.int 2)))) (gNm 3))
  (sSeq (sRt (fIf (fB (fBin oGe (fVar 0) (fC (.int 128)))) (fNeg (fVar 3)) (fVar 3)))
  sNil)))
def F__law_open : FN := runB 4 B__law_open
theorem P__law_open (S : Ctx P w K mg base) : Pm (cfg K) P w K mg base 3 "_law_open" 1 F__law_open := by
  have nd := S__law_open.nd
  refine pm_of (d := dd "_law_open" 32) (N := N__law_open) (ps := ["code"]) S.kin S.G S.c (List.mem_of_getElem? (i := 23) rfl) (List.mem_of_getElem? (i := 23) rfl) rfl rfl rfl S__law_open (fun _ _ _ _ _ _ us hl => match us, hl with | [_], _ => rfl) fun A outer s H E hr tk po => ?_
  exact db_cons (ds_set nd rfl (loc_by rfl) (dp_cp0 (P__law_edges S) hr (by omega) rfl tk)) (db_cons (ds_set nd rfl (loc_by rfl) (dp_ix (dp_lst (da_cons dp_int (da_cons dp_int (da_cons dp_int (da_cons dp_int (da_cons dp_int (da_cons dp_int (da_cons dp_int (da_cons dp_int da_nil))))))))) (dp_bin oDiv_n oDiv_ok (dp_bin oMod_n oMod_ok (v_ 0) dp_int) dp_int) (fun _ _ => rfl))) (db_cons (ds_set nd rfl (loc_by rfl) (dp_bin oAdd_n oAdd_ok (dp_ix (v_ 1) (dp_bin oMod_n oMod_ok (v_ 0) dp_int) (fun _ _ => rfl)) (dp_bin oDiv_n oDiv_ok (v_ 2) dp_int))) (db_cons (ds_ret (dp_if (dt_cmp oGe_n oGe_ok (v_ 0) dp_int rfl) (dp_neg (v_ 3)) (v_ 3))) db_nil)))
def N__law_step : List Str := [("told" : Str), ("spot" : Str), ("code" : Str), ("steps" : Str), ("many" : Str), ("much" : Str), ("fresh" : Str)]
theorem S__law_step : FnScope N__law_step ["told", "spot", "code"] (defScope (top 33)) := ⟨rfl, rfl, rfl, by decide +kernel, rfl, by decide +kernel, by decide +kernel⟩
def B__law_step : FS :=
  sSeq (sPar 3 4 (fCons (fLst (fCons (fC (.int 4)) (fCons (fC (.int 8)) (fCons (fC (.int 16)) (fCons (fC (.int 32)) (fCons (fC (.int 64)) (fCons (fC (.int 128)) (fCons (fC (.int 256)) (fCons (fC (.int 512)) (fCons (fC (.int 1024)) fNil)))))))))) (fCons (fBin oMod (fVar 2) (fC (.int 8))) fNil)))
  (sSeq (sAsg (fBin oAdd (fBin oMul (fVar 4) (fBin oIx (fVar 3) (fVar 1))) (fBin oDiv (fBin oIx (fVar 3) (fVar 1)) (fC (.int 2)))) (gNm 5))
  (sSeq (sAsg (fBi bMaxA (fCons (fNeg (fC (.int 8031))) (fCons (fBi bMinA (fCons (fC (.int 8031)) (fCons (fBin oAdd (fVar 0) (fBin oMul (fVar 5) (fIf (fB (fBin oGt (fVar 2) (fC (.int 7)))) (fNeg (fC (.int 1))) (fC (.int 1))))) fNil))) fNil))) (gNm 6))
  (sSeq (sRt (fTup (fCons (fVar 6) (fCons (fIf (fB (fBin oLt (fVar 4) (fC (.int 2)))) (fBi bMaxA (fCons (fC (.int 0)) (fCons (fBin oSub (fVar 1) (fC (.int 1))) fNil))) (fIf (fB (fBin oGt (fVar 4) (fC (.int 5)))) (fBi bMinA (fCons (fC (.int 8)) (fCons (fBin oAdd (fVar 1) (fC (.int 1))) fNil))) (fVar 1))) fNil))))
  sNil)))
def F__law_step : FN := runB 7 B__law_step
theorem P__law_step (S : Ctx P w K mg base) : Pm (cfg K) P w K mg base 2 "_law_step" 3 F__law_step := by
  have f_min := He.free_ok S.kin S.G (S.c.facts (f := .free "min") (List.mem_of_getElem? (i := 38) rfl))
  have f_max := He.free_ok S.kin S.G (S.c.facts (f := .free "max") (List.mem_of_getElem? (i := 37) rfl))
  have nd := S__law_step.nd
  refine pm_of (d := dd "_law_step" 33) (N := N__law_step) (ps := ["told", "spot", "code"]) S.kin S.G S.c (List.mem_of_getElem? (i := 24) rfl) (List.mem_of_getElem? (i := 24) rfl) rfl rfl rfl S__law_step (fun _ _ _ _ _ _ us hl => match us, hl with | [_, _, _], _ => rfl) fun A outer s H E hr tk po => ?_
  exact db_cons (ds_par rfl nd rfl rfl (by decide) rfl rfl (da_cons (dp_lst (da_cons dp_int (da_cons dp_int (da_cons dp_int (da_cons dp_int (da_cons dp_int (da_cons dp_int (da_cons dp_int (da_cons dp_int (da_cons dp_int da_nil)))))))))) (da_cons (dp_bin oMod_n oMod_ok (v_ 2) dp_int) da_nil)) rfl) (db_cons (ds_set nd rfl (loc_by rfl) (dp_bin oAdd_n oAdd_ok (dp_bin oMul_n oMul_ok (v_ 4) (dp_ix (v_ 3) (v_ 1) (fun _ _ => rfl))) (dp_bin oDiv_n oDiv_ok (dp_ix (v_ 3) (v_ 1) (fun _ _ => rfl)) dp_int))) (db_cons (ds_set nd rfl (loc_by rfl) (dp_bi bMaxA_n (bMaxA_ok (hu165_of hr) rfl) rfl f_max boot_max (da_cons (dp_neg dp_int) (da_cons (dp_bi bMinA_n (bMinA_ok (hu165_of hr) rfl) rfl f_min boot_min (da_cons dp_int (da_cons (dp_bin oAdd_n oAdd_ok (v_ 0) (dp_bin oMul_n oMul_ok (v_ 5) (dp_if (dt_cmp oGt_n oGt_ok (v_ 2) dp_int rfl) (dp_neg dp_int) dp_int))) da_nil))) da_nil)))) (db_cons (ds_ret (dp_tup (da_cons (v_ 6) (da_cons (dp_if (dt_cmp oLt_n oLt_ok (v_ 4) dp_int rfl) (dp_bi bMaxA_n (bMaxA_ok (hu165_of hr) rfl) rfl f_max boot_max (da_cons dp_int (da_cons (dp_bin oSub_n oSub_ok (v_ 1) dp_int) da_nil))) (dp_if (dt_cmp oGt_n oGt_ok (v_ 4) dp_int rfl) (dp_bi bMinA_n (bMinA_ok (hu165_of hr) rfl) rfl f_min boot_min (da_cons dp_int (da_cons (dp_bin oAdd_n oAdd_ok (v_ 1) dp_int) da_nil))) (v_ 1))) da_nil)))) db_nil)))
def N__law_echo : List Str := [("sample" : Str), ("one" : Str), ("under" : Str)]
theorem S__law_echo : FnScope N__law_echo ["sample", "one", "under"] (defScope (top 34)) := ⟨rfl, rfl, rfl, by decide +kernel, rfl, by decide +kernel, by decide +kernel⟩
def B__law_echo : FS :=
  sSeq (sRt (fBin oMul (fBin oDiv (fBin oMul (fBi bAbs (fCons (fVar 0) fNil)) (fVar 1)) (fVar 2)) (fIf (fB (fBin oLt (fVar 0) (fC (.int 0)))) (fNeg (fC (.int 1))) (fC (.int 1)))))
  sNil
def F__law_echo : FN := runB 3 B__law_echo
theorem P__law_echo (S : Ctx P w K mg base) : Pm (cfg K) P w K mg base 2 "_law_echo" 3 F__law_echo := by
  have f_abs := He.free_ok S.kin S.G (S.c.facts (f := .free "abs") (List.mem_of_getElem? (i := 31) rfl))
  have nd := S__law_echo.nd
  refine pm_of (d := dd "_law_echo" 34) (N := N__law_echo) (ps := ["sample", "one", "under"]) S.kin S.G S.c (List.mem_of_getElem? (i := 25) rfl) (List.mem_of_getElem? (i := 25) rfl) rfl rfl rfl S__law_echo (fun _ _ _ _ _ _ us hl => match us, hl with | [_, _, _], _ => rfl) fun A outer s H E hr tk po => ?_
  exact db_cons (ds_ret (dp_bin oMul_n oMul_ok (dp_bin oDiv_n oDiv_ok (dp_bin oMul_n oMul_ok (dp_bi bAbs_n bAbs_ok rfl f_abs boot_abs (da_cons (v_ 0) da_nil)) (v_ 1)) (v_ 2)) (dp_if (dt_cmp oLt_n oLt_ok (v_ 0) dp_int rfl) (dp_neg dp_int) dp_int))) db_nil
def N__law_draw : List Str := [("dice" : Str), ("most" : Str), ("top" : Str), ("k" : Str)]
theorem S__law_draw : FnScope N__law_draw ["dice", "most"] (defScope (top 35)) := ⟨rfl, rfl, rfl, by decide +kernel, rfl, by decide +kernel, by decide +kernel⟩
def Z__law_draw_0 : FE :=
  fBin oMul (fIf (fB (fBin oGt (fCall (F__law_roll 3) (fCons (fVar 0) (fCons (fC (.int 3)) fNil))) (fC (.int 0)))) (fCall (F__law_roll 3) (fCons (fVar 0) (fCons (fVar 2) fNil))) (fC (.int 0))) (fBin oIx (fLst (fCons (fC (.int 1)) (fCons (fNeg (fC (.int 1))) fNil))) (fCall (F__law_roll 3) (fCons (fVar 0) (fCons (fC (.int 2)) fNil))))
def B__law_draw : FS :=
  sSeq (sAsg (fBin oIx (fLst (fCons (fC (.int 8032)) (fCons (fC (.int 40)) (fCons (fC (.int 300)) fNil)))) (fCall (F__law_roll 3) (fCons (fVar 0) (fCons (fC (.int 3)) fNil)))) (gNm 2))
  (sSeq (sRt (fLc [3] (iRng rng1 (fCons (fCall (F__law_roll 3) (fCons (fVar 0) (fCons (fVar 1) fNil))) fNil)) (gNm 3) fYes Z__law_draw_0))
  sNil)
def F__law_draw : FN := runB 4 B__law_draw
theorem P__law_draw (S : Ctx P w K mg base) : Pm (cfg K) P w K mg base 6 "_law_draw" 2 F__law_draw := by
  have f_range := He.free_ok S.kin S.G (S.c.facts (f := .free "range") (List.mem_of_getElem? (i := 42) rfl))
  have nd := S__law_draw.nd
  refine pm_of (d := dd "_law_draw" 35) (N := N__law_draw) (ps := ["dice", "most"]) S.kin S.G S.c (List.mem_of_getElem? (i := 26) rfl) (List.mem_of_getElem? (i := 26) rfl) rfl rfl rfl S__law_draw (fun _ _ _ _ _ _ us hl => match us, hl with | [_, _], _ => rfl) fun A outer s H E hr tk po => ?_
  exact db_cons (ds_set nd rfl (loc_by rfl) (dp_ix (dp_lst (da_cons dp_int (da_cons dp_int (da_cons dp_int da_nil)))) (dp_cp (P__law_roll S 3) hr (by omega) rfl tk rfl (fes_len_cons (fes_len_cons fes_len_nil)) (da_cons (v_ 0) (da_cons dp_int da_nil))) (fun _ _ => rfl))) (db_cons (ds_ret (lc_ (own := [("k", 3)]) rfl rfl nd (di_rng1 rfl f_range (da_cons (dp_cp (P__law_roll S 3) hr (by omega) rfl tk rfl (fes_len_cons (fes_len_cons fes_len_nil)) (da_cons (v_ 0) (da_cons (v_ 1) da_nil))) da_nil)) rfl (by decide) (fun _ _ _ _ _ => g_ 3 nd) (fun _ _ _ _ _ => dts_nil) (fun _ _ _ _ _ => dp_bin oMul_n oMul_ok (dp_if (dt_cmp oGt_n oGt_ok (dp_cp (P__law_roll S 3) hr (by omega) rfl takes0 rfl (fes_len_cons (fes_len_cons fes_len_nil)) (da_cons (v_ 0) (da_cons dp_int da_nil))) dp_int rfl) (dp_cp (P__law_roll S 3) hr (by omega) rfl takes0 rfl (fes_len_cons (fes_len_cons fes_len_nil)) (da_cons (v_ 0) (da_cons (v_ 2) da_nil))) dp_int) (dp_ix (dp_lst (da_cons dp_int (da_cons (dp_neg dp_int) da_nil))) (dp_cp (P__law_roll S 3) hr (by omega) rfl takes0 rfl (fes_len_cons (fes_len_cons fes_len_nil)) (da_cons (v_ 0) (da_cons dp_int da_nil))) (fun _ _ => rfl))))) db_nil)
def N__law_plain : List Str := [("told" : Str), ("one" : Str), ("code" : Str), ("bad" : Str), ("k" : Str), ("f" : Str), ("due" : Str)]
theorem S__law_plain : FnScope N__law_plain [] (defScope (top 36)) := ⟨rfl, rfl, rfl, by decide +kernel, rfl, by decide +kernel, by decide +kernel⟩
def L__law_plain_0 : List LamI := lamsOf (top 36) 1 false
def L__law_plain_1 : List LamI := lamsOf (top 36) 2 true
def L__law_plain_2 : List LamI := lamsOf (top 36) 3 true
def L__law_plain_3 : List LamI := lamsOf (top 36) 4 true
def FL__law_plain : List FE := [fCall F_check_samples (fCons (fTup (fCons (fC (.int 8032)) fNil)) fNil),
  fCall F_check_samples (fCons (fBin oMulT (fTup (fCons (fC (.int 0)) fNil)) (fC (.int 2001))) fNil),
  fCall F_pressed (fCons (fNeg (fC (.int 8032))) fNil),
  fCall F_opened (fCons (fC (.int 256)) fNil),
  fCall F_opened (fCons (fNeg (fC (.int 1))) fNil),
  fCall F_off_by (fCons (fTup (fCons (fC (.int 9999)) fNil)) fNil),
  fCall F_followed (fCons (fTup (fCons (fC (.int 9999)) fNil)) fNil),
  fCall F_unfollowed (fCons (fTup (fCons (fC (.int 16)) fNil)) fNil),
  fCall F_unfollowed (fCons (fTup (fCons (fNeg (fC (.int 1))) fNil)) fNil),
  fCall F_loudness (fCons (fTup fNil) fNil),
  fCall F_quiet_short (fCons (fTup (fCons (fC (.int 1)) fNil)) (fCons (fNeg (fC (.int 1))) (fCons (fC (.int 1)) fNil))),
  fCall F_quiet_short (fCons (fTup (fCons (fC (.int 1)) fNil)) (fCons (fC (.int 1)) (fCons (fC (.int 0)) fNil))),
  fCall F_long_again (fCons (fTup (fCons (fTup (fCons (fC (.int 9999)) fNil)) fNil)) fNil),
  fCall F_with_echo (fCons (fTup (fCons (fC (.int 1)) fNil)) (fCons (fC (.int 0)) (fCons (fC (.int 1)) (fCons (fC (.int 2)) fNil)))),
  fCall F_with_echo (fCons (fTup (fCons (fC (.int 1)) fNil)) (fCons (fC (.int 1)) (fCons (fC (.int 3)) (fCons (fC (.int 2)) fNil)))),
  fCall F_without_echo (fCons (fTup (fCons (fC (.int 1)) fNil)) (fCons (fC (.int 1)) (fCons (fC (.int 0)) (fCons (fC (.int 0)) fNil)))),
  fCall F_echo_far (fCons (fTup (fCons (fC (.int 1)) fNil)) (fCons (fTup (fCons (fC (.int 1)) (fCons (fC (.int 2)) fNil))) (fCons (fC (.int 1)) fNil))),
  fCall F_echo_far (fCons (fTup (fCons (fC (.int 1)) fNil)) (fCons (fTup (fCons (fC (.int 1)) fNil)) (fCons (fC (.int 51)) fNil))),
  fCall F_filled_in (fCons (fTup (fCons (fC (.int 1)) fNil)) (fCons (fTup (fCons (fC (.int 1)) fNil)) fNil)),
  fCall F_filled_in (fCons (fTup (fCons (fC (.int 1)) fNil)) (fCons (fTup (fCons (fNeg (fC (.int 1))) fNil)) fNil))]
def B__law_plain : FS :=
  sSeq (sAsg (fLst (fCons (fCall F_check_samples (fCons (fTup (fCons (fC (.int 1)) (fCons (fC (.int 2)) fNil))) fNil)) (fCons (fLc [1] (iSeq (fLst (fCons (fC (.int 0)) (fCons (fC (.int 1)) (fCons (fC (.int 31)) (fCons (fC (.int 100)) (fCons (fC (.int 8031)) (fCons (fNeg (fC (.int 5))) fNil)))))))) (gNm 1) fYes (fCall F_pressed (fCons (fVar 1) fNil))) (fCons (fLc [2] (iSeq (fLst (fCons (fC (.int 0)) (fCons (fC (.int 1)) (fCons (fC (.int 16)) (fCons (fC (.int 127)) (fCons (fC (.int 131)) (fCons (fC (.int 255)) fNil)))))))) (gNm 2) fYes (fCall F_opened (fCons (fVar 2) fNil))) (fCons (fCall F_off_by (fCons (fTup (fCons (fC (.int 0)) (fCons (fC (.int 31)) (fCons (fNeg (fC (.int 8031))) fNil)))) fNil)) (fCons (fCall F_off_by (fCons (fTup fNil) fNil)) (fCons (fCall F_followed (fCons (fTup (fCons (fC (.int 0)) (fCons (fC (.int 10)) (fCons (fC (.int 40)) (fCons (fC (.int 90)) (fCons (fC (.int 20)) fNil)))))) fNil)) (fCons (fCall F_unfollowed (fCons (fTup (fCons (fC (.int 0)) (fCons (fC (.int 2)) (fCons (fC (.int 7)) (fCons (fC (.int 6)) (fCons (fC (.int 12)) fNil)))))) fNil)) (fCons (fCall F_step_on (fCons (fC (.int 0)) (fCons (fC (.int 0)) (fCons (fC (.int 15)) fNil)))) (fCons (fCall F_loudness (fCons (fTup (fCons (fC (.int 3)) (fCons (fC (.int 4)) fNil))) fNil)) (fCons (fCall F_quiet_short (fCons (fTup (fCons (fC (.int 9)) (fCons (fC (.int 0)) (fCons (fC (.int 1)) (fCons (fC (.int 0)) (fCons (fC (.int 9)) (fCons (fC (.int 1)) fNil))))))) (fCons (fC (.int 1)) (fCons (fC (.int 3)) fNil)))) (fCons (fCall F_quiet_short (fCons (fTup (fCons (fC (.int 0)) (fCons (fC (.int 0)) fNil))) (fCons (fC (.int 0)) (fCons (fC (.int 3)) fNil)))) (fCons (fCall F_long_again (fCons (fTup (fCons (fTup (fCons (fC (.int 9)) fNil)) (fCons (fTup (fCons (fC (.str "quiet")) (fCons (fC (.int 3)) fNil))) (fCons (fTup (fCons (fC (.int 9)) (fCons (fC (.int 1)) fNil))) fNil)))) fNil)) (fCons (fCall F_with_echo (fCons (fTup (fCons (fC (.int 100)) (fCons (fC (.int 0)) (fCons (fNeg (fC (.int 50))) fNil)))) (fCons (fC (.int 1)) (fCons (fC (.int 1)) (fCons (fC (.int 2)) fNil))))) (fCons (fCall F_without_echo (fCons (fTup (fCons (fC (.int 100)) (fCons (fC (.int 50)) (fCons (fNeg (fC (.int 50))) fNil)))) (fCons (fC (.int 1)) (fCons (fC (.int 1)) (fCons (fC (.int 2)) fNil))))) (fCons (fCall F_echo_far (fCons (fTup (fCons (fC (.int 0)) (fCons (fC (.int 0)) (fCons (fC (.int 100)) (fCons (fC (.int 0)) fNil))))) (fCons (fTup (fCons (fC (.int 100)) (fCons (fC (.int 0)) (fCons (fC (.int 50)) (fCons (fC (.int 0)) fNil))))) (fCons (fC (.int 3)) fNil)))) (fCons (fCall F_filled_in (fCons (fTup (fCons (fC (.int 10)) (fCons (fC (.int 0)) (fCons (fC (.int 31)) (fCons (fC (.int 0)) fNil))))) (fCons (fTup (fCons (fC (.int 1)) (fCons (fC (.int 3)) fNil))) fNil))) (fCons (fCall F_filled_in (fCons (fTup (fCons (fC (.int 5)) fNil)) (fCons (fTup (fCons (fC (.int 0)) fNil)) fNil))) (fCons (fC (.tup [.int 4, .int 8, .int 16, .int 32, .int 64, .int 128, .int 256, .int 512, .int 1024])) fNil))))))))))))))))))) (gNm 0))
  (sUn 3 (sUn 3 (sUn 3 (sUn 3 (sBad okc__law_told FL__law_plain (sSeq (sIf (fB (fBin oNe (fC (.int 8031)) (fC (.int 8031)))) (sSeq (sRt (fC (.bl false)))
  sNil) sNil) (sSeq (sAsg (fLst (fCons (fC .non) (fCons (fLst (fCons (fC (.int 0)) (fCons (fC (.int 1)) (fCons (fC (.int 16)) (fCons (fC (.int 32)) (fCons (fC (.int 127)) (fCons (fC (.int 131)) fNil))))))) (fCons (fLst (fCons (fC (.int 0)) (fCons (fC (.int 2)) (fCons (fC (.int 33)) (fCons (fC (.int 8031)) (fCons (fNeg (fC (.int 6))) (fCons (fNeg (fC (.int 8031))) fNil))))))) (fCons (fTup (fCons (fC (.int 2)) (fCons (fC (.int 2)) fNil))) (fCons (fTup (fCons (fC (.int 0)) (fCons (fC (.int 0)) fNil))) (fCons (fTup (fCons (fC (.int 0)) (fCons (fC (.int 2)) (fCons (fC (.int 7)) (fCons (fC (.int 6)) (fCons (fC (.int 12)) fNil)))))) (fCons (fTup (fCons (fC (.int 2)) (fCons (fC (.int 12)) (fCons (fC (.int 42)) (fCons (fC (.int 94)) (fCons (fC (.int 22)) fNil)))))) (fCons (fTup (fCons (fNeg (fC (.int 30))) (fCons (fC (.int 1)) fNil))) (fCons (fTup (fCons (fC (.int 25)) (fCons (fC (.int 2)) fNil))) (fCons (fTup (fCons (fTup (fCons (fC (.int 9)) fNil)) (fCons (fTup (fCons (fC (.str "quiet")) (fCons (fC (.int 3)) fNil))) (fCons (fTup (fCons (fC (.int 9)) (fCons (fC (.int 1)) fNil))) fNil)))) (fCons (fTup (fCons (fTup (fCons (fC (.int 0)) (fCons (fC (.int 0)) fNil))) fNil)) (fCons (fTup (fCons (fC (.int 9)) (fCons (fC (.int 0)) (fCons (fC (.int 0)) (fCons (fC (.int 0)) (fCons (fC (.int 9)) (fCons (fC (.int 1)) fNil))))))) (fCons (fTup (fCons (fC (.int 100)) (fCons (fC (.int 50)) (fCons (fNeg (fC (.int 50))) fNil)))) (fCons (fTup (fCons (fC (.int 100)) (fCons (fC (.int 0)) (fCons (fNeg (fC (.int 50))) fNil)))) (fCons (fC (.int 2)) (fCons (fTup (fCons (fC (.int 10)) (fCons (fC (.int 20)) (fCons (fC (.int 31)) (fCons (fC (.int 31)) fNil))))) (fCons (fTup (fCons (fC (.int 0)) fNil)) (fCons (fTup (fCons (fC (.int 4)) (fCons (fC (.int 8)) (fCons (fC (.int 16)) (fCons (fC (.int 32)) (fCons (fC (.int 64)) (fCons (fC (.int 128)) (fCons (fC (.int 256)) (fCons (fC (.int 512)) (fCons (fC (.int 1024)) fNil)))))))))) fNil))))))))))))))))))) (gNm 6))
  (sSeq (sRt (fBin oEq (fVar 0) (fVar 6)))
  sNil))))))))
def F__law_plain : FN := runB 7 B__law_plain
theorem P__law_plain (S : Ctx P w K mg base) : Pm (cfg K) P w K mg base 9 "_law_plain" 0 F__law_plain := by
  have f_enumerate := He.free_ok S.kin S.G (S.c.facts (f := .free "enumerate") (List.mem_of_getElem? (i := 41) rfl))
  have tabL := fun S : Ctx P w K mg base => tab__law_plain_lambda S
  have nd := S__law_plain.nd
  refine pm_of (d := dd "_law_plain" 36) (N := N__law_plain) (ps := []) S.kin S.G S.c (List.mem_of_getElem? (i := 27) rfl) (List.mem_of_getElem? (i := 27) rfl) rfl rfl rfl S__law_plain (fun _ _ _ _ _ _ us hl => match us, hl with | [], _ => rfl) fun A outer s H E hr tk po => ?_
  have hls : LamsOk (cfg K) (cxOf (L2.CX P w) P w K mg base N__law_plain "_law_plain" (defScope (top 36)) (He.fAd K ("_law_plain", none)) (.ref (He.codeOf K ("_law_plain", none))) A outer s H E) 6 (L__law_plain_0 ++ L__law_plain_1 ++ L__law_plain_2 ++ L__law_plain_3) FL__law_plain := ⟨_, _, rfl, lo2_ rfl (fun _ _ _ _ _ _ _ hr' tk' => dp_cp (P_check_samples S) hr' (by omega) rfl tk' rfl (fes_len_cons fes_len_nil) (da_cons (dp_tup (da_cons dp_int da_nil)) da_nil)), ⟨_, _, rfl, lo2_ rfl (fun _ _ _ _ _ _ _ hr' tk' => dp_cp (P_check_samples S) hr' (by omega) rfl tk' rfl (fes_len_cons fes_len_nil) (da_cons (dp_bin oMulT_n oMulT_ok (dp_tup (da_cons dp_int da_nil)) dp_int) da_nil)), ⟨_, _, rfl, lo2_ rfl (fun _ _ _ _ _ _ _ hr' tk' => dp_cp (P_pressed S) hr' (by omega) rfl tk' rfl (fes_len_cons fes_len_nil) (da_cons (dp_neg dp_int) da_nil)), ⟨_, _, rfl, lo2_ rfl (fun _ _ _ _ _ _ _ hr' tk' => dp_cp (P_opened S) hr' (by omega) rfl tk' rfl (fes_len_cons fes_len_nil) (da_cons dp_int da_nil)), ⟨_, _, rfl, lo2_ rfl (fun _ _ _ _ _ _ _ hr' tk' => dp_cp (P_opened S) hr' (by omega) rfl tk' rfl (fes_len_cons fes_len_nil) (da_cons (dp_neg dp_int) da_nil)), ⟨_, _, rfl, lo2_ rfl (fun _ _ _ _ _ _ _ hr' tk' => dp_cp (P_off_by S) hr' (by omega) rfl tk' rfl (fes_len_cons fes_len_nil) (da_cons (dp_tup (da_cons dp_int da_nil)) da_nil)), ⟨_, _, rfl, lo2_ rfl (fun _ _ _ _ _ _ _ hr' tk' => dp_cp (P_followed S) hr' (by omega) rfl tk' rfl (fes_len_cons fes_len_nil) (da_cons (dp_tup (da_cons dp_int da_nil)) da_nil)), ⟨_, _, rfl, lo2_ rfl (fun _ _ _ _ _ _ _ hr' tk' => dp_cp (P_unfollowed S) hr' (by omega) rfl tk' rfl (fes_len_cons fes_len_nil) (da_cons (dp_tup (da_cons dp_int da_nil)) da_nil)), ⟨_, _, rfl, lo2_ rfl (fun _ _ _ _ _ _ _ hr' tk' => dp_cp (P_unfollowed S) hr' (by omega) rfl tk' rfl (fes_len_cons fes_len_nil) (da_cons (dp_tup (da_cons (dp_neg dp_int) da_nil)) da_nil)), ⟨_, _, rfl, lo2_ rfl (fun _ _ _ _ _ _ _ hr' tk' => dp_cp (P_loudness S) hr' (by omega) rfl tk' rfl (fes_len_cons fes_len_nil) (da_cons (dp_tup da_nil) da_nil)), ⟨_, _, rfl, lo2_ rfl (fun _ _ _ _ _ _ _ hr' tk' => dp_cp (P_quiet_short S) hr' (by omega) rfl tk' rfl (fes_len_cons (fes_len_cons (fes_len_cons fes_len_nil))) (da_cons (dp_tup (da_cons dp_int da_nil)) (da_cons (dp_neg dp_int) (da_cons dp_int da_nil)))), ⟨_, _, rfl, lo2_ rfl (fun _ _ _ _ _ _ _ hr' tk' => dp_cp (P_quiet_short S) hr' (by omega) rfl tk' rfl (fes_len_cons (fes_len_cons (fes_len_cons fes_len_nil))) (da_cons (dp_tup (da_cons dp_int da_nil)) (da_cons dp_int (da_cons dp_int da_nil)))), ⟨_, _, rfl, lo2_ rfl (fun _ _ _ _ _ _ _ hr' tk' => dp_cp (P_long_again S) hr' (by omega) rfl tk' rfl (fes_len_cons fes_len_nil) (da_cons (dp_tup (da_cons (dp_tup (da_cons dp_int da_nil)) da_nil)) da_nil)), ⟨_, _, rfl, lo2_ rfl (fun _ _ _ _ _ _ _ hr' tk' => dp_cp (P_with_echo S) hr' (by omega) rfl tk' rfl (fes_len_cons (fes_len_cons (fes_len_cons (fes_len_cons fes_len_nil)))) (da_cons (dp_tup (da_cons dp_int da_nil)) (da_cons dp_int (da_cons dp_int (da_cons dp_int da_nil))))), ⟨_, _, rfl, lo2_ rfl (fun _ _ _ _ _ _ _ hr' tk' => dp_cp (P_with_echo S) hr' (by omega) rfl tk' rfl (fes_len_cons (fes_len_cons (fes_len_cons (fes_len_cons fes_len_nil)))) (da_cons (dp_tup (da_cons dp_int da_nil)) (da_cons dp_int (da_cons dp_int (da_cons dp_int da_nil))))), ⟨_, _, rfl, lo2_ rfl (fun _ _ _ _ _ _ _ hr' tk' => dp_cp (P_without_echo S) hr' (by omega) rfl tk' rfl (fes_len_cons (fes_len_cons (fes_len_cons (fes_len_cons fes_len_nil)))) (da_cons (dp_tup (da_cons dp_int da_nil)) (da_cons dp_int (da_cons dp_int (da_cons dp_int da_nil))))), ⟨_, _, rfl, lo2_ rfl (fun _ _ _ _ _ _ _ hr' tk' => dp_cp (P_echo_far S) hr' (by omega) rfl tk' rfl (fes_len_cons (fes_len_cons (fes_len_cons fes_len_nil))) (da_cons (dp_tup (da_cons dp_int da_nil)) (da_cons (dp_tup (da_cons dp_int (da_cons dp_int da_nil))) (da_cons dp_int da_nil)))), ⟨_, _, rfl, lo2_ rfl (fun _ _ _ _ _ _ _ hr' tk' => dp_cp (P_echo_far S) hr' (by omega) rfl tk' rfl (fes_len_cons (fes_len_cons (fes_len_cons fes_len_nil))) (da_cons (dp_tup (da_cons dp_int da_nil)) (da_cons (dp_tup (da_cons dp_int da_nil)) (da_cons dp_int da_nil)))), ⟨_, _, rfl, lo2_ rfl (fun _ _ _ _ _ _ _ hr' tk' => dp_cp (P_filled_in S) hr' (by omega) rfl tk' rfl (fes_len_cons (fes_len_cons fes_len_nil)) (da_cons (dp_tup (da_cons dp_int da_nil)) (da_cons (dp_tup (da_cons dp_int da_nil)) da_nil))), ⟨_, _, rfl, lo2_ rfl (fun _ _ _ _ _ _ _ hr' tk' => dp_cp (P_filled_in S) hr' (by omega) rfl tk' rfl (fes_len_cons (fes_len_cons fes_len_nil)) (da_cons (dp_tup (da_cons dp_int da_nil)) (da_cons (dp_tup (da_cons (dp_neg dp_int) da_nil)) da_nil))), rfl⟩⟩⟩⟩⟩⟩⟩⟩⟩⟩⟩⟩⟩⟩⟩⟩⟩⟩⟩⟩
  exact db_cons (ds_set nd rfl (loc_by rfl) (dp_lst (da_cons (dp_cp (P_check_samples S) hr (by omega) rfl tk rfl (fes_len_cons fes_len_nil) (da_cons (dp_tup (da_cons dp_int (da_cons dp_int da_nil))) da_nil)) (da_cons (lc_ (own := [("one", 1)]) rfl rfl nd (di_seq (dp_lst (da_cons dp_int (da_cons dp_int (da_cons dp_int (da_cons dp_int (da_cons dp_int (da_cons (dp_neg dp_int) da_nil)))))))) rfl (by decide) (fun _ _ _ _ _ => g_ 1 nd) (fun _ _ _ _ _ => dts_nil) (fun _ _ _ _ _ => dp_cp (P_pressed S) hr (by omega) rfl takes0 rfl (fes_len_cons fes_len_nil) (da_cons (v_ 1) da_nil))) (da_cons (lc_ (own := [("code", 2)]) rfl rfl nd (di_seq (dp_lst (da_cons dp_int (da_cons dp_int (da_cons dp_int (da_cons dp_int (da_cons dp_int (da_cons dp_int da_nil)))))))) rfl (by decide) (fun _ _ _ _ _ => g_ 2 nd) (fun _ _ _ _ _ => dts_nil) (fun _ _ _ _ _ => dp_cp (P_opened S) hr (by omega) rfl takes0 rfl (fes_len_cons fes_len_nil) (da_cons (v_ 2) da_nil))) (da_cons (dp_cp (P_off_by S) hr (by omega) rfl tk rfl (fes_len_cons fes_len_nil) (da_cons (dp_tup (da_cons dp_int (da_cons dp_int (da_cons (dp_neg dp_int) da_nil)))) da_nil)) (da_cons (dp_cp (P_off_by S) hr (by omega) rfl tk rfl (fes_len_cons fes_len_nil) (da_cons (dp_tup da_nil) da_nil)) (da_cons (dp_cp (P_followed S) hr (by omega) rfl tk rfl (fes_len_cons fes_len_nil) (da_cons (dp_tup (da_cons dp_int (da_cons dp_int (da_cons dp_int (da_cons dp_int (da_cons dp_int da_nil)))))) da_nil)) (da_cons (dp_cp (P_unfollowed S) hr (by omega) rfl tk rfl (fes_len_cons fes_len_nil) (da_cons (dp_tup (da_cons dp_int (da_cons dp_int (da_cons dp_int (da_cons dp_int (da_cons dp_int da_nil)))))) da_nil)) (da_cons (dp_cp (P_step_on S) hr (by omega) rfl tk rfl (fes_len_cons (fes_len_cons (fes_len_cons fes_len_nil))) (da_cons dp_int (da_cons dp_int (da_cons dp_int da_nil)))) (da_cons (dp_cp (P_loudness S) hr (by omega) rfl tk rfl (fes_len_cons fes_len_nil) (da_cons (dp_tup (da_cons dp_int (da_cons dp_int da_nil))) da_nil)) (da_cons (dp_cp (P_quiet_short S) hr (by omega) rfl tk rfl (fes_len_cons (fes_len_cons (fes_len_cons fes_len_nil))) (da_cons (dp_tup (da_cons dp_int (da_cons dp_int (da_cons dp_int (da_cons dp_int (da_cons dp_int (da_cons dp_int da_nil))))))) (da_cons dp_int (da_cons dp_int da_nil)))) (da_cons (dp_cp (P_quiet_short S) hr (by omega) rfl tk rfl (fes_len_cons (fes_len_cons (fes_len_cons fes_len_nil))) (da_cons (dp_tup (da_cons dp_int (da_cons dp_int da_nil))) (da_cons dp_int (da_cons dp_int da_nil)))) (da_cons (dp_cp (P_long_again S) hr (by omega) rfl tk rfl (fes_len_cons fes_len_nil) (da_cons (dp_tup (da_cons (dp_tup (da_cons dp_int da_nil)) (da_cons (dp_tup (da_cons dp_str (da_cons dp_int da_nil))) (da_cons (dp_tup (da_cons dp_int (da_cons dp_int da_nil))) da_nil)))) da_nil)) (da_cons (dp_cp (P_with_echo S) hr (by omega) rfl tk rfl (fes_len_cons (fes_len_cons (fes_len_cons (fes_len_cons fes_len_nil)))) (da_cons (dp_tup (da_cons dp_int (da_cons dp_int (da_cons (dp_neg dp_int) da_nil)))) (da_cons dp_int (da_cons dp_int (da_cons dp_int da_nil))))) (da_cons (dp_cp (P_without_echo S) hr (by omega) rfl tk rfl (fes_len_cons (fes_len_cons (fes_len_cons (fes_len_cons fes_len_nil)))) (da_cons (dp_tup (da_cons dp_int (da_cons dp_int (da_cons (dp_neg dp_int) da_nil)))) (da_cons dp_int (da_cons dp_int (da_cons dp_int da_nil))))) (da_cons (dp_cp (P_echo_far S) hr (by omega) rfl tk rfl (fes_len_cons (fes_len_cons (fes_len_cons fes_len_nil))) (da_cons (dp_tup (da_cons dp_int (da_cons dp_int (da_cons dp_int (da_cons dp_int da_nil))))) (da_cons (dp_tup (da_cons dp_int (da_cons dp_int (da_cons dp_int (da_cons dp_int da_nil))))) (da_cons dp_int da_nil)))) (da_cons (dp_cp (P_filled_in S) hr (by omega) rfl tk rfl (fes_len_cons (fes_len_cons fes_len_nil)) (da_cons (dp_tup (da_cons dp_int (da_cons dp_int (da_cons dp_int (da_cons dp_int da_nil))))) (da_cons (dp_tup (da_cons dp_int (da_cons dp_int da_nil))) da_nil))) (da_cons (dp_cp (P_filled_in S) hr (by omega) rfl tk rfl (fes_len_cons (fes_len_cons fes_len_nil)) (da_cons (dp_tup (da_cons dp_int da_nil)) (da_cons (dp_tup (da_cons dp_int da_nil)) da_nil))) (da_cons (dp_cst rfl (cst_ok S.kin S.G (S.cs _ (List.mem_of_getElem? (i := 1) rfl)))) da_nil)))))))))))))))))))) (bad_ (ls := L__law_plain_0) (ib := 3) nd rfl rfl (lk2_ (tabL S) rfl rfl (lk2_ (tabL S) rfl rfl (lk2_ (tabL S) rfl rfl (lk2_ (tabL S) rfl rfl (lk2_ (tabL S) rfl rfl pa_lams_nil))))) (by decide) (badm_ (ls := L__law_plain_0) (ms := L__law_plain_1) (ib := 3) nd rfl rfl (lk2_ (tabL S) rfl rfl (lk2_ (tabL S) rfl rfl (lk2_ (tabL S) rfl rfl (lk2_ (tabL S) rfl rfl (lk2_ (tabL S) rfl rfl pa_lams_nil))))) (by decide) (badm_ (ls := L__law_plain_0 ++ L__law_plain_1) (ms := L__law_plain_2) (ib := 3) nd rfl rfl (lk2_ (tabL S) rfl rfl (lk2_ (tabL S) rfl rfl (lk2_ (tabL S) rfl rfl (lk2_ (tabL S) rfl rfl (lk2_ (tabL S) rfl rfl pa_lams_nil))))) (by decide) (badm_ (ls := L__law_plain_0 ++ L__law_plain_1 ++ L__law_plain_2) (ms := L__law_plain_3) (ib := 3) nd rfl rfl (lk2_ (tabL S) rfl rfl (lk2_ (tabL S) rfl rfl (lk2_ (tabL S) rfl rfl (lk2_ (tabL S) rfl rfl (lk2_ (tabL S) rfl rfl pa_lams_nil))))) (by decide) (dbd_ifOr (pe_bp (k := 6) (ib := 3) (jk := 4) (jf := 5) (own := [("k", 4), ("f", 5)]) (T__law_told S) rfl nd rfl rfl f_enumerate rfl rfl rfl rfl (by decide) rfl rfl (by decide) (by decide) hls (fun _ _ _ _ _ => rfl) hr (by omega) hr.units (hsame := oNe_same _ (by decide +kernel))) hr.units (dw_or1 (dt_cmp oNe_n (oNe_ok hr.units) (dp_cst rfl (cst_ok S.kin S.G (S.cs _ (List.mem_of_getElem? (i := 0) rfl)))) dp_int rfl)) (db_cons (ds_ret dp_bl) db_nil) (db_cons (ds_set nd rfl (loc_by rfl) (dp_lst (da_cons dp_non (da_cons (dp_lst (da_cons dp_int (da_cons dp_int (da_cons dp_int (da_cons dp_int (da_cons dp_int (da_cons dp_int da_nil))))))) (da_cons (dp_lst (da_cons dp_int (da_cons dp_int (da_cons dp_int (da_cons dp_int (da_cons (dp_neg dp_int) (da_cons (dp_neg dp_int) da_nil))))))) (da_cons (dp_tup (da_cons dp_int (da_cons dp_int da_nil))) (da_cons (dp_tup (da_cons dp_int (da_cons dp_int da_nil))) (da_cons (dp_tup (da_cons dp_int (da_cons dp_int (da_cons dp_int (da_cons dp_int (da_cons dp_int da_nil)))))) (da_cons (dp_tup (da_cons dp_int (da_cons dp_int (da_cons dp_int (da_cons dp_int (da_cons dp_int da_nil)))))) (da_cons (dp_tup (da_cons (dp_neg dp_int) (da_cons dp_int da_nil))) (da_cons (dp_tup (da_cons dp_int (da_cons dp_int da_nil))) (da_cons (dp_tup (da_cons (dp_tup (da_cons dp_int da_nil)) (da_cons (dp_tup (da_cons dp_str (da_cons dp_int da_nil))) (da_cons (dp_tup (da_cons dp_int (da_cons dp_int da_nil))) da_nil)))) (da_cons (dp_tup (da_cons (dp_tup (da_cons dp_int (da_cons dp_int da_nil))) da_nil)) (da_cons (dp_tup (da_cons dp_int (da_cons dp_int (da_cons dp_int (da_cons dp_int (da_cons dp_int (da_cons dp_int da_nil))))))) (da_cons (dp_tup (da_cons dp_int (da_cons dp_int (da_cons (dp_neg dp_int) da_nil)))) (da_cons (dp_tup (da_cons dp_int (da_cons dp_int (da_cons (dp_neg dp_int) da_nil)))) (da_cons dp_int (da_cons (dp_tup (da_cons dp_int (da_cons dp_int (da_cons dp_int (da_cons dp_int da_nil))))) (da_cons (dp_tup (da_cons dp_int da_nil)) (da_cons (dp_tup (da_cons dp_int (da_cons dp_int (da_cons dp_int (da_cons dp_int (da_cons dp_int (da_cons dp_int (da_cons dp_int (da_cons dp_int (da_cons dp_int da_nil)))))))))) da_nil)))))))))))))))))))) (db_cons (ds_ret (dp_cmp oEq_n (oEq_ok hr.units) (v_ 0) (v_ 6) rfl)) db_nil)))))))
def N_law : List Str := [("script" : Str), ("dice" : Str), ("rows" : Str), ("codes" : Str), ("one" : Str), ("gaps" : Str), ("code" : Str), ("told" : Str), ("spot" : Str), ("line" : Str), ("back" : Str), ("gap" : Str), ("mine" : Str), ("bound" : Str), ("least" : Str), ("marks" : Str), ("parts" : Str), ("k" : Str), ("many" : Str), ("wide" : Str), ("loud" : Str), ("flat" : Str), ("part" : Str), ("far" : Str), ("under" : Str), ("echoed" : Str), ("sample" : Str), ("clean" : Str), ("soft" : Str), ("sent" : Str), ("most" : Str), ("keys" : Str), ("a" : Str), ("b" : Str), ("lost" : Str), ("filled" : Str), ("near" : Str), ("j" : Str)]
theorem S_law : FnScope N_law ["script"] (defScope (top 37)) := ⟨rfl, rfl, rfl, by decide +kernel, rfl, by decide +kernel, by decide +kernel⟩
def Z_law_0 : FE :=
  fBi bAbs (fCons (fBin oSub (fVar 4) (fCall F__law_open (fCons (fVar 6) fNil))) fNil)
def W_law_0 : FS :=
  sSeq (sAsg (fBin oSub (fVar 4) (fVar 7)) (gNm 11))
  (sSeq (sAsg (fBin oAdd (fBi bMinA (fCons (fC (.int 7)) (fCons (fBin oDiv (fBi bAbs (fCons (fVar 11) fNil)) (fBin oIx (fLst (fCons (fC (.int 4)) (fCons (fC (.int 8)) (fCons (fC (.int 16)) (fCons (fC (.int 32)) (fCons (fC (.int 64)) (fCons (fC (.int 128)) (fCons (fC (.int 256)) (fCons (fC (.int 512)) (fCons (fC (.int 1024)) fNil)))))))))) (fVar 8))) fNil))) (fBin oMul (fC (.int 8)) (fBi bInt (fCons (fBin oLt (fVar 11) (fC (.int 0))) fNil)))) (gNm 12))
  (sSeq (sAsg (fBin oAdd (fVar 9) (fLst (fCons (fVar 12) fNil))) (gNm 9))
  (sSeq (sAsg (fCall F__law_step (fCons (fVar 7) (fCons (fVar 8) (fCons (fVar 12) fNil)))) (gTp 2 (gsCons (gNm 7) (gsCons (gNm 8) gsNil))))
  (sSeq (sAsg (fBin oAdd (fVar 10) (fLst (fCons (fVar 7) fNil))) (gNm 10))
  sNil))))
def Z_law_1 : FE :=
  fIf (fB (fBin oLe (fBi bAbs (fCons (fVar 4) fNil)) (fVar 13))) (fC (.str "q")) (fC (.str "l"))
def C_law_0 : FT :=
  fB (fBin oLt (fVar 17) (fBi bLen (fCons (fVar 2) fNil)))
def W_law_1 : FS :=
  sSeq (sAsg (fBin oSub (fBi bLen (fCons (fSl (fVar 15) (fSo (fVar 17)) fNo) fNil)) (fBi bLen (fCons (fMt "str" mLstrip (fSl (fVar 15) (fSo (fVar 17)) fNo) (fCons (fC (.str "q")) fNil)) fNil))) (gNm 18))
  (sSeq (sIf (fB (fBin oGe (fVar 18) (fVar 14))) (sSeq (sPar 16 17 (fCons (fBin oAdd (fVar 16) (fLst (fCons (fTup (fCons (fC (.str "quiet")) (fCons (fVar 18) fNil))) fNil))) (fCons (fBin oAdd (fVar 17) (fVar 18)) fNil)))
  sNil) (sSeq (sAsg (fBi bMaxA (fCons (fC (.int 1)) (fCons (fVar 18) fNil))) (gNm 19))
  (sSeq (sAsg (fBi bTuple (fCons (fSl (fVar 2) (fSo (fVar 17)) (fSo (fBin oAdd (fVar 17) (fVar 19)))) fNil)) (gNm 20))
  (sSeq (sPar 16 17 (fCons (fIf (fAnd (fB (fBin oNe (fVar 16) (fLst fNil))) (fB (fBin oNe (fBin oIx (fBin oIx (fVar 16) (fNeg (fC (.int 1)))) (fC (.int 0))) (fC (.str "quiet"))))) (fBin oAdd (fSl (fVar 16) fNo (fSo (fNeg (fC (.int 1))))) (fLst (fCons (fBin oAdd (fBin oIx (fVar 16) (fNeg (fC (.int 1)))) (fVar 20)) fNil))) (fBin oAdd (fVar 16) (fLst (fCons (fVar 20) fNil)))) (fCons (fBin oAdd (fVar 17) (fVar 19)) fNil)))
  sNil))))
  sNil)
def Z_law_2 : FE :=
  fIf (fB (fBin oEq (fBin oIx (fVar 22) (fC (.int 0))) (fC (.str "quiet")))) (fBin oMul (fLst (fCons (fC (.int 0)) fNil)) (fBin oIx (fVar 22) (fC (.int 1)))) (fBi bList (fCons (fVar 22) fNil))
def Z_law_3 : FE :=
  fBi bMaxA (fCons (fNeg (fC (.int 8031))) (fCons (fBi bMinA (fCons (fC (.int 8031)) (fCons (fBin oAdd (fVar 26) (fIf (fB (fBin oGe (fVar 17) (fVar 23))) (fCall F__law_echo (fCons (fBin oIx (fVar 2) (fBin oSub (fVar 17) (fVar 23))) (fCons (fVar 4) (fCons (fVar 24) fNil)))) (fC (.int 0)))) fNil))) fNil))
def W_law_2 : FS :=
  sSeq (sAsg (fBin oAdd (fVar 27) (fLst (fCons (fBi bMaxA (fCons (fNeg (fC (.int 8031))) (fCons (fBi bMinA (fCons (fC (.int 8031)) (fCons (fBin oSub (fVar 26) (fIf (fB (fBin oGe (fVar 17) (fVar 23))) (fCall F__law_echo (fCons (fBin oIx (fVar 27) (fBin oSub (fVar 17) (fVar 23))) (fCons (fVar 4) (fCons (fVar 24) fNil)))) (fC (.int 0)))) fNil))) fNil))) fNil))) (gNm 27))
  sNil
def Z_law_4 : FE :=
  fBin oSub (fCall (F__law_roll 3) (fCons (fVar 1) (fCons (fC (.int 9)) fNil))) (fC (.int 4))
def Z_law_5 : FE :=
  fTup (fCons (fNeg (fBi bSumA (fCons (fLc [32, 33] (iRng zppA (fCons (fSl (fVar 2) (fSo (fVar 17)) fNo) (fCons (fVar 29) fNil))) (gTp 2 (gsCons (gNm 32) (gsCons (gNm 33) gsNil))) fYes (fBin oMul (fVar 32) (fVar 33))) fNil))) (fCons (fVar 17) fNil))
def Y_law_0 : FT :=
  fB (fBin oEq (fCall (F__law_roll 3) (fCons (fVar 1) (fCons (fC (.int 3)) fNil))) (fC (.int 0)))
def W_law_3 : FS :=
  sSeq (sAsg (fBin oAdd (fSl (fLc [37] (iRng rng1 (fCons (fVar 17) fNil)) (gNm 37) (fB (fBin oNInK (fVar 37) (fVar 34))) (fBin oIx (fVar 2) (fVar 37))) (fSo (fNeg (fC (.int 1)))) fNo) (fSl (fLc [37] (iRng rng2 (fCons (fBin oAdd (fVar 17) (fC (.int 1))) (fCons (fBi bLen (fCons (fVar 2) fNil)) fNil))) (gNm 37) (fB (fBin oNInK (fVar 37) (fVar 34))) (fBin oIx (fVar 2) (fVar 37))) fNo (fSo (fC (.int 1))))) (gNm 36))
  (sSeq (sAsg (fBin oAdd (fVar 35) (fLst (fCons (fIf (fB (fBin oNInK (fVar 17) (fVar 34))) (fVar 26) (fIf (fB (fBin oNe (fVar 36) (fLst fNil))) (fBin oDiv (fBi bSumA (fCons (fVar 36) fNil)) (fBi bLen (fCons (fVar 36) fNil))) (fC (.int 0)))) fNil))) (gNm 35))
  sNil)
def W_law_4 : FS :=
  sSeq (sAsg (fCall F__law_draw (fCons (fVar 1) (fCons (fC (.int 14)) fNil))) (gNm 2))
  (sSeq (sAsg (fLc [4] (iSeq (fVar 2)) (gNm 4) fYes (fCall F__law_press (fCons (fVar 4) fNil))) (gNm 3))
  (sSeq (sAsg (fLc [4, 6] (iRng zppA (fCons (fVar 2) (fCons (fVar 3) fNil))) (gTp 2 (gsCons (gNm 4) (gsCons (gNm 6) gsNil))) fYes Z_law_0) (gNm 5))
  (sSeq (sIf (fOr (fB (fBin oNe (fLc [4] (iSeq (fVar 2)) (gNm 4) fYes (fCall F_pressed (fCons (fVar 4) fNil))) (fVar 3))) (fOr (fB (fBin oNe (fLc [6] (iSeq (fVar 3)) (gNm 6) fYes (fCall F_opened (fCons (fVar 6) fNil))) (fLc [6] (iSeq (fVar 3)) (gNm 6) fYes (fCall F__law_open (fCons (fVar 6) fNil))))) (fB (fBin oNe (fCall F_off_by (fCons (fVar 2) fNil)) (fTup (fCons (fBi bMaxA (fCons (fBin oAdd (fVar 5) (fLst (fCons (fC (.int 0)) fNil))) fNil)) (fCons (fBi bSumA (fCons (fVar 5) fNil)) fNil))))))) (sSeq (sRt (fC (.bl false)))
  sNil) sNil)
  (sSeq (sAsg (fCall (F__law_roll 3) (fCons (fVar 1) (fCons (fC (.int 256)) fNil))) (gNm 6))
  (sSeq (sIf (fOr (fB (fBin oNe (fCall F_opened (fCons (fVar 6) fNil)) (fCall F__law_open (fCons (fVar 6) fNil)))) (fAnd (fB (fBin oLt (fBi bAbs (fCons (fCall F__law_open (fCons (fVar 6) fNil)) fNil)) (fC (.int 8032)))) (fAnd (fB (fBin oNe (fCall F__law_open (fCons (fVar 6) fNil)) (fC (.int 0)))) (fB (fBin oNe (fCall F_pressed (fCons (fCall F__law_open (fCons (fVar 6) fNil)) fNil)) (fVar 6)))))) (sSeq (sRt (fC (.bl false)))
  sNil) sNil)
  (sSeq (sAsg (fTup (fCons (fC (.int 0)) (fCons (fC (.int 0)) (fCons (fLst fNil) (fCons (fLst fNil) fNil))))) (gTp 4 (gsCons (gNm 7) (gsCons (gNm 8) (gsCons (gNm 9) (gsCons (gNm 10) gsNil))))))
  (sSeq (sFor (iSeq (fVar 2)) (gNm 4) W_law_0)
  (sSeq (sIf (fOr (fB (fBin oNe (fBi bList (fCons (fCall F_followed (fCons (fVar 2) fNil)) fNil)) (fVar 9))) (fOr (fB (fBin oNe (fBi bList (fCons (fCall F_unfollowed (fCons (fVar 9) fNil)) fNil)) (fVar 10))) (fB (fBin oNe (fCall F_step_on (fCons (fC (.int 5)) (fCons (fC (.int 3)) (fCons (fBin oMod (fVar 6) (fC (.int 16))) fNil)))) (fCall F__law_step (fCons (fC (.int 5)) (fCons (fC (.int 3)) (fCons (fBin oMod (fVar 6) (fC (.int 16))) fNil)))))))) (sSeq (sRt (fC (.bl false)))
  sNil) sNil)
  (sSeq (sIf (fAnd (fB (fBin oNe (fVar 2) (fLst fNil))) (fB (fBin oNe (fCall F_loudness (fCons (fVar 2) fNil)) (fCall F__law_share (fCons (fBi bSumA (fCons (fLc [4] (iSeq (fVar 2)) (gNm 4) fYes (fBin oMul (fVar 4) (fVar 4))) fNil)) (fCons (fBi bLen (fCons (fVar 2) fNil)) fNil)))))) (sSeq (sRt (fC (.bl false)))
  sNil) sNil)
  (sSeq (sAsg (fTup (fCons (fCall (F__law_roll 3) (fCons (fVar 1) (fCons (fC (.int 5)) fNil))) (fCons (fBin oAdd (fC (.int 1)) (fCall (F__law_roll 3) (fCons (fVar 1) (fCons (fC (.int 4)) fNil)))) fNil))) (gTp 2 (gsCons (gNm 13) (gsCons (gNm 14) gsNil))))
  (sSeq (sAsg (fMt "str" mJoin (fC (.str "")) (fCons (fLc [4] (iSeq (fVar 2)) (gNm 4) fYes Z_law_1) fNil)) (gNm 15))
  (sSeq (sPar 16 17 (fCons (fLst fNil) (fCons (fC (.int 0)) fNil)))
  (sSeq (sWh C_law_0 W_law_1 (fun _ _ => 1000000))
  (sSeq (sAsg (fBi bSumA (fCons (fLc [22] (iSeq (fVar 16)) (gNm 22) fYes Z_law_2) (fCons (fLst fNil) fNil))) (gNm 21))
  (sSeq (sIf (fOr (fB (fBin oNe (fBi bList (fCons (fCall F_quiet_short (fCons (fVar 2) (fCons (fVar 13) (fCons (fVar 14) fNil)))) fNil)) (fVar 16))) (fB (fBin oNe (fBi bList (fCons (fCall F_long_again (fCons (fVar 16) fNil)) fNil)) (fVar 21)))) (sSeq (sRt (fC (.bl false)))
  sNil) sNil)
  (sSeq (sAsg (fTup (fCons (fBin oAdd (fC (.int 1)) (fCall (F__law_roll 3) (fCons (fVar 1) (fCons (fC (.int 4)) fNil)))) (fCons (fBin oAdd (fC (.int 1)) (fCall (F__law_roll 3) (fCons (fVar 1) (fCons (fC (.int 5)) fNil)))) fNil))) (gTp 2 (gsCons (gNm 23) (gsCons (gNm 24) gsNil))))
  (sSeq (sAsg (fCall (F__law_roll 3) (fCons (fVar 1) (fCons (fBin oAdd (fVar 24) (fC (.int 1))) fNil))) (gNm 4))
  (sSeq (sAsg (fLc [17, 26] (iRng enmA (fCons (fVar 2) fNil)) (gTp 2 (gsCons (gNm 17) (gsCons (gNm 26) gsNil))) fYes Z_law_3) (gNm 25))
  (sSeq (sAsg (fLst fNil) (gNm 27))
  (sSeq (sFor (iRng enmA (fCons (fVar 2) fNil)) (gTp 2 (gsCons (gNm 17) (gsCons (gNm 26) gsNil))) W_law_2)
  (sSeq (sIf (fOr (fB (fBin oNe (fBi bList (fCons (fCall F_with_echo (fCons (fVar 2) (fCons (fVar 23) (fCons (fVar 4) (fCons (fVar 24) fNil))))) fNil)) (fVar 25))) (fB (fBin oNe (fBi bList (fCons (fCall F_without_echo (fCons (fVar 2) (fCons (fVar 23) (fCons (fVar 4) (fCons (fVar 24) fNil))))) fNil)) (fVar 27)))) (sSeq (sRt (fC (.bl false)))
  sNil) sNil)
  (sSeq (sAsg (fLc [26] (iSeq (fVar 2)) (gNm 26) fYes (fBin oDiv (fVar 26) (fC (.int 4)))) (gNm 28))
  (sSeq (sIf (fB (fBin oNe (fBi bList (fCons (fCall F_without_echo (fCons (fCall F_with_echo (fCons (fVar 28) (fCons (fVar 23) (fCons (fVar 4) (fCons (fVar 24) fNil))))) (fCons (fVar 23) (fCons (fVar 4) (fCons (fVar 24) fNil))))) fNil)) (fVar 28))) (sSeq (sRt (fC (.bl false)))
  sNil) sNil)
  (sSeq (sAsg (fTup (fCons (fLc [26] (iSeq (fVar 2)) (gNm 26) fYes Z_law_4) (fCons (fBin oAdd (fC (.int 1)) (fCall (F__law_roll 3) (fCons (fVar 1) (fCons (fC (.int 6)) fNil)))) fNil))) (gTp 2 (gsCons (gNm 29) (gsCons (gNm 30) gsNil))))
  (sSeq (sAsg (fLc [17] (iRng rng2 (fCons (fC (.int 1)) (fCons (fBin oAdd (fVar 30) (fC (.int 1))) fNil))) (gNm 17) fYes Z_law_5) (gNm 31))
  (sSeq (sAsg (fLc [17] (iRng rng1 (fCons (fBi bLen (fCons (fVar 2) fNil)) fNil)) (gNm 17) Y_law_0 (fVar 17)) (gNm 34))
  (sSeq (sAsg (fLst fNil) (gNm 35))
  (sSeq (sFor (iRng enmA (fCons (fVar 2) fNil)) (gTp 2 (gsCons (gNm 17) (gsCons (gNm 26) gsNil))) W_law_3)
  (sSeq (sIf (fOr (fB (fBin oNe (fCall F_echo_far (fCons (fVar 2) (fCons (fVar 29) (fCons (fVar 30) fNil)))) (fBin oIx (fBi bMinA (fCons (fVar 31) fNil)) (fC (.int 1))))) (fB (fBin oNe (fBi bList (fCons (fCall F_filled_in (fCons (fVar 2) (fCons (fVar 34) fNil))) fNil)) (fVar 35)))) (sSeq (sRt (fC (.bl false)))
  sNil) sNil)
  sNil)))))))))))))))))))))))))))))
def B_law : FS :=
  sSeq (sFor (iSeq (fCall F__law_rounds (fCons (fVar 0) (fCons (fC (.int 1)) fNil)))) (gNm 1) W_law_4)
  (sSeq (sRt (fCall0F F__law_plain))
  sNil)
def F_law : FN := runB 38 B_law
theorem Q_law (S : Ctx P w K mg base) {fd : FuncData} (F : FunD K "law" "law" (defArgs (top 37)) (defBody (top 37)) (defScope (top 37)) [] [] (He.fAd K ("law", none)) fd) : FnOk P w K mg base (L2.CX P w) 64 (He.fAd K ("law", none)) fd ["script"] (spD (cfg K) K 1 F_law) := by
  have f_zip := He.free_ok S.kin S.G (S.c.facts (f := .free "zip") (List.mem_of_getElem? (i := 43) rfl))
  have f_abs := He.free_ok S.kin S.G (S.c.facts (f := .free "abs") (List.mem_of_getElem? (i := 31) rfl))
  have f_sum := He.free_ok S.kin S.G (S.c.facts (f := .free "sum") (List.mem_of_getElem? (i := 36) rfl))
  have f_max := He.free_ok S.kin S.G (S.c.facts (f := .free "max") (List.mem_of_getElem? (i := 37) rfl))
  have f_min := He.free_ok S.kin S.G (S.c.facts (f := .free "min") (List.mem_of_getElem? (i := 38) rfl))
  have f_int := He.free_ok S.kin S.G (S.c.facts (f := .free "int") (List.mem_of_getElem? (i := 44) rfl))
  have f_list := He.free_ok S.kin S.G (S.c.facts (f := .free "list") (List.mem_of_getElem? (i := 40) rfl))
  have f_len := He.free_ok S.kin S.G (S.c.facts (f := .free "len") (List.mem_of_getElem? (i := 32) rfl))
  have f_tuple := He.free_ok S.kin S.G (S.c.facts (f := .free "tuple") (List.mem_of_getElem? (i := 39) rfl))
  have f_enumerate := He.free_ok S.kin S.G (S.c.facts (f := .free "enumerate") (List.mem_of_getElem? (i := 41) rfl))
  have f_range := He.free_ok S.kin S.G (S.c.facts (f := .free "range") (List.mem_of_getElem? (i := 42) rfl))
  have nd := S_law.nd
  refine fn_bodyD (q := ("law", none)) (N := N_law) F S_law fun A outer s H E hr tk po => ?_
  exact db_cons (ds_for po rfl (di_seq (dp_cp (P__law_rounds S) hr (by omega) rfl tk rfl (fes_len_cons (fes_len_cons fes_len_nil)) (da_cons (v_ 0) (da_cons dp_int da_nil)))) (g_ 1 nd) (db_cons (ds_set nd rfl (loc_by rfl) (dp_cp (P__law_draw S) hr (by omega) rfl tk rfl (fes_len_cons (fes_len_cons fes_len_nil)) (da_cons (v_ 1) (da_cons dp_int da_nil)))) (db_cons (slc_ (own := [("one", 4)]) rfl rfl nd rfl rfl rfl (di_seq (v_ 2)) rfl (by decide) (fun _ _ _ _ _ => g_ 4 nd) (fun _ _ _ _ _ => dts_nil) (fun _ _ _ _ _ => dp_cp (P__law_press S) hr (by omega) rfl takes0 rfl (fes_len_cons fes_len_nil) (da_cons (v_ 4) da_nil))) (db_cons (slc_ (own := [("one", 4), ("code", 6)]) rfl rfl nd rfl rfl rfl (di_zipA rfl f_zip (da_cons (v_ 2) (da_cons (v_ 3) da_nil))) rfl (by decide) (fun _ _ _ _ _ => dg_tup rfl (dgs_cons (g_ 4 nd) (dgs_cons (g_ 6 nd) dgs_nil))) (fun _ _ _ _ _ => dts_nil) (fun _ _ _ _ _ => dp_bi bAbs_n bAbs_ok rfl f_abs boot_abs (da_cons (dp_bin oSub_n oSub_ok (v_ 4) (dp_cp (P__law_open S) hr (by omega) rfl takes0 rfl (fes_len_cons fes_len_nil) (da_cons (v_ 6) da_nil))) da_nil))) (db_cons (ds_if (dt_w (dw_or (dt_cmp oNe_n (oNe_ok hr.units) (lc_ (own := [("one", 4)]) rfl rfl nd (di_seq (v_ 2)) rfl (by decide) (fun _ _ _ _ _ => g_ 4 nd) (fun _ _ _ _ _ => dts_nil) (fun _ _ _ _ _ => dp_cp (P_pressed S) hr (by omega) rfl takes0 rfl (fes_len_cons fes_len_nil) (da_cons (v_ 4) da_nil))) (v_ 3) rfl) (dw_or (dt_cmp oNe_n (oNe_ok hr.units) (lc_ (own := [("code", 6)]) rfl rfl nd (di_seq (v_ 3)) rfl (by decide) (fun _ _ _ _ _ => g_ 6 nd) (fun _ _ _ _ _ => dts_nil) (fun _ _ _ _ _ => dp_cp (P_opened S) hr (by omega) rfl takes0 rfl (fes_len_cons fes_len_nil) (da_cons (v_ 6) da_nil))) (lc_ (own := [("code", 6)]) rfl rfl nd (di_seq (v_ 3)) rfl (by decide) (fun _ _ _ _ _ => g_ 6 nd) (fun _ _ _ _ _ => dts_nil) (fun _ _ _ _ _ => dp_cp (P__law_open S) hr (by omega) rfl takes0 rfl (fes_len_cons fes_len_nil) (da_cons (v_ 6) da_nil))) rfl) (dw_or1 (dt_cmp oNe_n (oNe_ok hr.units) (dp_cp (P_off_by S) hr (by omega) rfl tk rfl (fes_len_cons fes_len_nil) (da_cons (v_ 2) da_nil)) (dp_tup (da_cons (dp_bi bMaxA_n (bMaxA_ok (hu165_of hr) rfl) rfl f_max boot_max (da_cons (dp_bin oAdd_n oAdd_ok (v_ 5) (dp_lst (da_cons dp_int da_nil))) da_nil)) (da_cons (dp_bi bSumA_n (bSumA_ok rfl) rfl f_sum boot_sum (da_cons (v_ 5) da_nil)) da_nil))) rfl))))) (db_cons (ds_ret dp_bl) db_nil) db_nil) (db_cons (ds_set nd rfl (loc_by rfl) (dp_cp (P__law_roll S 3) hr (by omega) rfl tk rfl (fes_len_cons (fes_len_cons fes_len_nil)) (da_cons (v_ 1) (da_cons dp_int da_nil)))) (db_cons (ds_if (dt_w (dw_or (dt_cmp oNe_n (oNe_ok hr.units) (dp_cp (P_opened S) hr (by omega) rfl tk rfl (fes_len_cons fes_len_nil) (da_cons (v_ 6) da_nil)) (dp_cp (P__law_open S) hr (by omega) rfl tk rfl (fes_len_cons fes_len_nil) (da_cons (v_ 6) da_nil)) rfl) (dw_or1 (dt_w (dw_and (dt_cmp oLt_n oLt_ok (dp_bi bAbs_n bAbs_ok rfl f_abs boot_abs (da_cons (dp_cp (P__law_open S) hr (by omega) rfl tk rfl (fes_len_cons fes_len_nil) (da_cons (v_ 6) da_nil)) da_nil)) dp_int rfl) (dw_and (dt_cmp oNe_n (oNe_ok hr.units) (dp_cp (P__law_open S) hr (by omega) rfl tk rfl (fes_len_cons fes_len_nil) (da_cons (v_ 6) da_nil)) dp_int rfl) (dw_and1 (dt_cmp oNe_n (oNe_ok hr.units) (dp_cp (P_pressed S) hr (by omega) rfl tk rfl (fes_len_cons fes_len_nil) (da_cons (dp_cp (P__law_open S) hr (by omega) rfl tk rfl (fes_len_cons fes_len_nil) (da_cons (v_ 6) da_nil)) da_nil)) (v_ 6) rfl)))))))) (db_cons (ds_ret dp_bl) db_nil) db_nil) (db_cons (ds_asg (dp_tup (da_cons dp_int (da_cons dp_int (da_cons (dp_lst da_nil) (da_cons (dp_lst da_nil) da_nil))))) (dg_tup rfl (dgs_cons (g_ 7 nd) (dgs_cons (g_ 8 nd) (dgs_cons (g_ 9 nd) (dgs_cons (g_ 10 nd) dgs_nil)))))) (db_cons (ds_for po rfl (di_seq (v_ 2)) (g_ 4 nd) (db_cons (ds_set nd rfl (loc_by rfl) (dp_bin oSub_n oSub_ok (v_ 4) (v_ 7))) (db_cons (ds_set nd rfl (loc_by rfl) (dp_bin oAdd_n oAdd_ok (dp_bi bMinA_n (bMinA_ok (hu165_of hr) rfl) rfl f_min boot_min (da_cons dp_int (da_cons (dp_bin oDiv_n oDiv_ok (dp_bi bAbs_n bAbs_ok rfl f_abs boot_abs (da_cons (v_ 11) da_nil)) (dp_ix (dp_lst (da_cons dp_int (da_cons dp_int (da_cons dp_int (da_cons dp_int (da_cons dp_int (da_cons dp_int (da_cons dp_int (da_cons dp_int (da_cons dp_int da_nil)))))))))) (v_ 8) (fun _ _ => rfl))) da_nil))) (dp_bin oMul_n oMul_ok dp_int (dp_bt bInt_n bInt_ok rfl f_int boot_int (da_cons (dp_cmp oLt_n oLt_ok (v_ 11) dp_int rfl) da_nil))))) (db_cons (ds_set nd rfl (loc_by rfl) (dp_bin oAdd_n oAdd_ok (v_ 9) (dp_lst (da_cons (v_ 12) da_nil)))) (db_cons (ds_asg (dp_cp (P__law_step S) hr (by omega) rfl tk rfl (fes_len_cons (fes_len_cons (fes_len_cons fes_len_nil))) (da_cons (v_ 7) (da_cons (v_ 8) (da_cons (v_ 12) da_nil)))) (dg_tup rfl (dgs_cons (g_ 7 nd) (dgs_cons (g_ 8 nd) dgs_nil)))) (db_cons (ds_set nd rfl (loc_by rfl) (dp_bin oAdd_n oAdd_ok (v_ 10) (dp_lst (da_cons (v_ 7) da_nil)))) db_nil)))))) (db_cons (ds_if (dt_w (dw_or (dt_cmp oNe_n (oNe_ok hr.units) (dp_bt bList_n bList_ok rfl f_list boot_list (da_cons (dp_cp (P_followed S) hr (by omega) rfl tk rfl (fes_len_cons fes_len_nil) (da_cons (v_ 2) da_nil)) da_nil)) (v_ 9) rfl) (dw_or (dt_cmp oNe_n (oNe_ok hr.units) (dp_bt bList_n bList_ok rfl f_list boot_list (da_cons (dp_cp (P_unfollowed S) hr (by omega) rfl tk rfl (fes_len_cons fes_len_nil) (da_cons (v_ 9) da_nil)) da_nil)) (v_ 10) rfl) (dw_or1 (dt_cmp oNe_n (oNe_ok hr.units) (dp_cp (P_step_on S) hr (by omega) rfl tk rfl (fes_len_cons (fes_len_cons (fes_len_cons fes_len_nil))) (da_cons dp_int (da_cons dp_int (da_cons (dp_bin oMod_n oMod_ok (v_ 6) dp_int) da_nil)))) (dp_cp (P__law_step S) hr (by omega) rfl tk rfl (fes_len_cons (fes_len_cons (fes_len_cons fes_len_nil))) (da_cons dp_int (da_cons dp_int (da_cons (dp_bin oMod_n oMod_ok (v_ 6) dp_int) da_nil)))) rfl))))) (db_cons (ds_ret dp_bl) db_nil) db_nil) (db_cons (ds_if (dt_w (dw_and (dt_cmp oNe_n (oNe_ok hr.units) (v_ 2) (dp_lst da_nil) rfl) (dw_and1 (dt_cmp oNe_n (oNe_ok hr.units) (dp_cp (P_loudness S) hr (by omega) rfl tk rfl (fes_len_cons fes_len_nil) (da_cons (v_ 2) da_nil)) (dp_cp (P__law_share S) hr (by omega) rfl tk rfl (fes_len_cons (fes_len_cons fes_len_nil)) (da_cons (dp_bi bSumA_n (bSumA_ok rfl) rfl f_sum boot_sum (da_cons (lc_ (own := [("one", 4)]) rfl rfl nd (di_seq (v_ 2)) rfl (by decide) (fun _ _ _ _ _ => g_ 4 nd) (fun _ _ _ _ _ => dts_nil) (fun _ _ _ _ _ => dp_bin oMul_n oMul_ok (v_ 4) (v_ 4))) da_nil)) (da_cons (dp_bi bLen_n bLen_ok rfl f_len boot_len (da_cons (v_ 2) da_nil)) da_nil))) rfl)))) (db_cons (ds_ret dp_bl) db_nil) db_nil) (db_cons (ds_asg (dp_tup (da_cons (dp_cp (P__law_roll S 3) hr (by omega) rfl tk rfl (fes_len_cons (fes_len_cons fes_len_nil)) (da_cons (v_ 1) (da_cons dp_int da_nil))) (da_cons (dp_bin oAdd_n oAdd_ok dp_int (dp_cp (P__law_roll S 3) hr (by omega) rfl tk rfl (fes_len_cons (fes_len_cons fes_len_nil)) (da_cons (v_ 1) (da_cons dp_int da_nil)))) da_nil))) (dg_tup rfl (dgs_cons (g_ 13 nd) (dgs_cons (g_ 14 nd) dgs_nil)))) (db_cons (ds_set nd rfl (loc_by rfl) (dp_mt PySem.F.plainAttrs_str PySem.F.slot_str_join PySem.F.type_str_join mJoin_n mJoin_ok dp_str (da_cons (lc_ (own := [("one", 4)]) rfl rfl nd (di_seq (v_ 2)) rfl (by decide) (fun _ _ _ _ _ => g_ 4 nd) (fun _ _ _ _ _ => dts_nil) (fun _ _ _ _ _ => dp_if (dt_cmp oLe_n oLe_ok (dp_bi bAbs_n bAbs_ok rfl f_abs boot_abs (da_cons (v_ 4) da_nil)) (v_ 13) rfl) dp_str dp_str)) da_nil))) (db_cons (ds_par rfl nd rfl rfl (by decide) rfl rfl (da_cons (dp_lst da_nil) (da_cons dp_int da_nil)) rfl) (db_cons (ds_wh (fun _ _ => 1000000) po (dt_cmp oLt_n oLt_ok (v_ 17) (dp_bi bLen_n bLen_ok rfl f_len boot_len (da_cons (v_ 2) da_nil)) rfl) (db_cons (ds_set nd rfl (loc_by rfl) (dp_bin oSub_n oSub_ok (dp_bi bLen_n bLen_ok rfl f_len boot_len (da_cons (dp_sl (v_ 15) (do_so (v_ 17)) do_no) da_nil)) (dp_bi bLen_n bLen_ok rfl f_len boot_len (da_cons (dp_mt PySem.F.plainAttrs_str PySem.F.slot_str_lstrip PySem.F.type_str_lstrip mLstrip_n mLstrip_ok (dp_sl (v_ 15) (do_so (v_ 17)) do_no) (da_cons dp_str da_nil)) da_nil)))) (db_cons (ds_if (dt_cmp oGe_n oGe_ok (v_ 18) (v_ 14) rfl) (db_cons (ds_par rfl nd rfl rfl (by decide) rfl rfl (da_cons (dp_bin oAdd_n oAdd_ok (v_ 16) (dp_lst (da_cons (dp_tup (da_cons dp_str (da_cons (v_ 18) da_nil))) da_nil))) (da_cons (dp_bin oAdd_n oAdd_ok (v_ 17) (v_ 18)) da_nil)) rfl) db_nil) (db_cons (ds_set nd rfl (loc_by rfl) (dp_bi bMaxA_n (bMaxA_ok (hu165_of hr) rfl) rfl f_max boot_max (da_cons dp_int (da_cons (v_ 18) da_nil)))) (db_cons (ds_set nd rfl (loc_by rfl) (dp_bt bTuple_n bTuple_ok rfl f_tuple boot_tuple (da_cons (dp_sl (v_ 2) (do_so (v_ 17)) (do_so (dp_bin oAdd_n oAdd_ok (v_ 17) (v_ 19)))) da_nil))) (db_cons (ds_par rfl nd rfl rfl (by decide) rfl rfl (da_cons (dp_if (dt_w (dw_and (dt_cmp oNe_n (oNe_ok hr.units) (v_ 16) (dp_lst da_nil) rfl) (dw_and1 (dt_cmp oNe_n (oNe_ok hr.units) (dp_ix (dp_ix (v_ 16) (dp_neg dp_int) (fun _ _ => rfl)) dp_int (fun _ _ => rfl)) dp_str rfl)))) (dp_bin oAdd_n oAdd_ok (dp_sl (v_ 16) do_no (do_so (dp_neg dp_int))) (dp_lst (da_cons (dp_bin oAdd_n oAdd_ok (dp_ix (v_ 16) (dp_neg dp_int) (fun _ _ => rfl)) (v_ 20)) da_nil))) (dp_bin oAdd_n oAdd_ok (v_ 16) (dp_lst (da_cons (v_ 20) da_nil)))) (da_cons (dp_bin oAdd_n oAdd_ok (v_ 17) (v_ 19)) da_nil)) rfl) db_nil)))) db_nil))) (db_cons (ds_set nd rfl (loc_by rfl) (dp_bi bSumA_n (bSumA_ok rfl) rfl f_sum boot_sum (da_cons (lc_ (own := [("part", 22)]) rfl rfl nd (di_seq (v_ 16)) rfl (by decide) (fun _ _ _ _ _ => g_ 22 nd) (fun _ _ _ _ _ => dts_nil) (fun _ _ _ _ _ => dp_if (dt_cmp oEq_n (oEq_ok hr.units) (dp_ix (v_ 22) dp_int (fun _ _ => rfl)) dp_str rfl) (dp_bin oMul_n oMul_ok (dp_lst (da_cons dp_int da_nil)) (dp_ix (v_ 22) dp_int (fun _ _ => rfl))) (dp_bt bList_n bList_ok rfl f_list boot_list (da_cons (v_ 22) da_nil)))) (da_cons (dp_lst da_nil) da_nil)))) (db_cons (ds_if (dt_w (dw_or (dt_cmp oNe_n (oNe_ok hr.units) (dp_bt bList_n bList_ok rfl f_list boot_list (da_cons (dp_cp (P_quiet_short S) hr (by omega) rfl tk rfl (fes_len_cons (fes_len_cons (fes_len_cons fes_len_nil))) (da_cons (v_ 2) (da_cons (v_ 13) (da_cons (v_ 14) da_nil)))) da_nil)) (v_ 16) rfl) (dw_or1 (dt_cmp oNe_n (oNe_ok hr.units) (dp_bt bList_n bList_ok rfl f_list boot_list (da_cons (dp_cp (P_long_again S) hr (by omega) rfl tk rfl (fes_len_cons fes_len_nil) (da_cons (v_ 16) da_nil)) da_nil)) (v_ 21) rfl)))) (db_cons (ds_ret dp_bl) db_nil) db_nil) (db_cons (ds_asg (dp_tup (da_cons (dp_bin oAdd_n oAdd_ok dp_int (dp_cp (P__law_roll S 3) hr (by omega) rfl tk rfl (fes_len_cons (fes_len_cons fes_len_nil)) (da_cons (v_ 1) (da_cons dp_int da_nil)))) (da_cons (dp_bin oAdd_n oAdd_ok dp_int (dp_cp (P__law_roll S 3) hr (by omega) rfl tk rfl (fes_len_cons (fes_len_cons fes_len_nil)) (da_cons (v_ 1) (da_cons dp_int da_nil)))) da_nil))) (dg_tup rfl (dgs_cons (g_ 23 nd) (dgs_cons (g_ 24 nd) dgs_nil)))) (db_cons (ds_set nd rfl (loc_by rfl) (dp_cp (P__law_roll S 3) hr (by omega) rfl tk rfl (fes_len_cons (fes_len_cons fes_len_nil)) (da_cons (v_ 1) (da_cons (dp_bin oAdd_n oAdd_ok (v_ 24) dp_int) da_nil)))) (db_cons (slc_ (own := [("k", 17), ("sample", 26)]) rfl rfl nd rfl rfl rfl (di_enumA rfl f_enumerate (da_cons (v_ 2) da_nil)) rfl (by decide) (fun _ _ _ _ _ => dg_tup rfl (dgs_cons (g_ 17 nd) (dgs_cons (g_ 26 nd) dgs_nil))) (fun _ _ _ _ _ => dts_nil) (fun _ _ _ _ _ => dp_bi bMaxA_n (bMaxA_ok (hu165_of hr) rfl) rfl f_max boot_max (da_cons (dp_neg dp_int) (da_cons (dp_bi bMinA_n (bMinA_ok (hu165_of hr) rfl) rfl f_min boot_min (da_cons dp_int (da_cons (dp_bin oAdd_n oAdd_ok (v_ 26) (dp_if (dt_cmp oGe_n oGe_ok (v_ 17) (v_ 23) rfl) (dp_cp (P__law_echo S) hr (by omega) rfl takes0 rfl (fes_len_cons (fes_len_cons (fes_len_cons fes_len_nil))) (da_cons (dp_ix (v_ 2) (dp_bin oSub_n oSub_ok (v_ 17) (v_ 23)) (fun _ _ => rfl)) (da_cons (v_ 4) (da_cons (v_ 24) da_nil)))) dp_int)) da_nil))) da_nil)))) (db_cons (ds_set nd rfl (loc_by rfl) (dp_lst da_nil)) (db_cons (ds_for po rfl (di_enumA rfl f_enumerate (da_cons (v_ 2) da_nil)) (dg_tup rfl (dgs_cons (g_ 17 nd) (dgs_cons (g_ 26 nd) dgs_nil))) (db_cons (ds_set nd rfl (loc_by rfl) (dp_bin oAdd_n oAdd_ok (v_ 27) (dp_lst (da_cons (dp_bi bMaxA_n (bMaxA_ok (hu165_of hr) rfl) rfl f_max boot_max (da_cons (dp_neg dp_int) (da_cons (dp_bi bMinA_n (bMinA_ok (hu165_of hr) rfl) rfl f_min boot_min (da_cons dp_int (da_cons (dp_bin oSub_n oSub_ok (v_ 26) (dp_if (dt_cmp oGe_n oGe_ok (v_ 17) (v_ 23) rfl) (dp_cp (P__law_echo S) hr (by omega) rfl tk rfl (fes_len_cons (fes_len_cons (fes_len_cons fes_len_nil))) (da_cons (dp_ix (v_ 27) (dp_bin oSub_n oSub_ok (v_ 17) (v_ 23)) (fun _ _ => rfl)) (da_cons (v_ 4) (da_cons (v_ 24) da_nil)))) dp_int)) da_nil))) da_nil))) da_nil)))) db_nil)) (db_cons (ds_if (dt_w (dw_or (dt_cmp oNe_n (oNe_ok hr.units) (dp_bt bList_n bList_ok rfl f_list boot_list (da_cons (dp_cp (P_with_echo S) hr (by omega) rfl tk rfl (fes_len_cons (fes_len_cons (fes_len_cons (fes_len_cons fes_len_nil)))) (da_cons (v_ 2) (da_cons (v_ 23) (da_cons (v_ 4) (da_cons (v_ 24) da_nil))))) da_nil)) (v_ 25) rfl) (dw_or1 (dt_cmp oNe_n (oNe_ok hr.units) (dp_bt bList_n bList_ok rfl f_list boot_list (da_cons (dp_cp (P_without_echo S) hr (by omega) rfl tk rfl (fes_len_cons (fes_len_cons (fes_len_cons (fes_len_cons fes_len_nil)))) (da_cons (v_ 2) (da_cons (v_ 23) (da_cons (v_ 4) (da_cons (v_ 24) da_nil))))) da_nil)) (v_ 27) rfl)))) (db_cons (ds_ret dp_bl) db_nil) db_nil) (db_cons (slc_ (own := [("sample", 26)]) rfl rfl nd rfl rfl rfl (di_seq (v_ 2)) rfl (by decide) (fun _ _ _ _ _ => g_ 26 nd) (fun _ _ _ _ _ => dts_nil) (fun _ _ _ _ _ => dp_bin oDiv_n oDiv_ok (v_ 26) dp_int)) (db_cons (ds_if (dt_cmp oNe_n (oNe_ok hr.units) (dp_bt bList_n bList_ok rfl f_list boot_list (da_cons (dp_cp (P_without_echo S) hr (by omega) rfl tk rfl (fes_len_cons (fes_len_cons (fes_len_cons (fes_len_cons fes_len_nil)))) (da_cons (dp_cp (P_with_echo S) hr (by omega) rfl tk rfl (fes_len_cons (fes_len_cons (fes_len_cons (fes_len_cons fes_len_nil)))) (da_cons (v_ 28) (da_cons (v_ 23) (da_cons (v_ 4) (da_cons (v_ 24) da_nil))))) (da_cons (v_ 23) (da_cons (v_ 4) (da_cons (v_ 24) da_nil))))) da_nil)) (v_ 28) rfl) (db_cons (ds_ret dp_bl) db_nil) db_nil) (db_cons (ds_asg (dp_tup (da_cons (lc_ (own := [("sample", 26)]) rfl rfl nd (di_seq (v_ 2)) rfl (by decide) (fun _ _ _ _ _ => g_ 26 nd) (fun _ _ _ _ _ => dts_nil) (fun _ _ _ _ _ => dp_bin oSub_n oSub_ok (dp_cp (P__law_roll S 3) hr (by omega) rfl takes0 rfl (fes_len_cons (fes_len_cons fes_len_nil)) (da_cons (v_ 1) (da_cons dp_int da_nil))) dp_int)) (da_cons (dp_bin oAdd_n oAdd_ok dp_int (dp_cp (P__law_roll S 3) hr (by omega) rfl tk rfl (fes_len_cons (fes_len_cons fes_len_nil)) (da_cons (v_ 1) (da_cons dp_int da_nil)))) da_nil))) (dg_tup rfl (dgs_cons (g_ 29 nd) (dgs_cons (g_ 30 nd) dgs_nil)))) (db_cons (slc_ (own := [("k", 17)]) rfl rfl nd rfl rfl rfl (di_rng2 rfl f_range (da_cons dp_int (da_cons (dp_bin oAdd_n oAdd_ok (v_ 30) dp_int) da_nil))) rfl (by decide) (fun _ _ _ _ _ => g_ 17 nd) (fun _ _ _ _ _ => dts_nil) (fun _ _ _ _ _ => dp_tup (da_cons (dp_neg (dp_bi bSumA_n (bSumA_ok rfl) rfl f_sum boot_sum (da_cons (lc_ (own := [("a", 32), ("b", 33)]) rfl rfl nd (di_zipA rfl f_zip (da_cons (dp_sl (v_ 2) (do_so (v_ 17)) do_no) (da_cons (v_ 29) da_nil))) rfl (by decide) (fun _ _ _ _ _ => dg_tup rfl (dgs_cons (g_ 32 nd) (dgs_cons (g_ 33 nd) dgs_nil))) (fun _ _ _ _ _ => dts_nil) (fun _ _ _ _ _ => dp_bin oMul_n oMul_ok (v_ 32) (v_ 33))) da_nil))) (da_cons (v_ 17) da_nil)))) (db_cons (ds_set nd rfl (loc_by rfl) (lc_ (own := [("k", 17)]) rfl rfl nd (di_rng1 rfl f_range (da_cons (dp_bi bLen_n bLen_ok rfl f_len boot_len (da_cons (v_ 2) da_nil)) da_nil)) rfl (by decide) (fun _ _ _ _ _ => g_ 17 nd) (fun _ _ _ _ _ => dts_one (dt_cmp oEq_n (oEq_ok hr.units) (dp_cp (P__law_roll S 3) hr (by omega) rfl takes0 rfl (fes_len_cons (fes_len_cons fes_len_nil)) (da_cons (v_ 1) (da_cons dp_int da_nil))) dp_int rfl)) (fun _ _ _ _ _ => v_ 17))) (db_cons (ds_set nd rfl (loc_by rfl) (dp_lst da_nil)) (db_cons (ds_for po rfl (di_enumA rfl f_enumerate (da_cons (v_ 2) da_nil)) (dg_tup rfl (dgs_cons (g_ 17 nd) (dgs_cons (g_ 26 nd) dgs_nil))) (db_cons (ds_set nd rfl (loc_by rfl) (dp_bin oAdd_n oAdd_ok (dp_sl (lc_ (own := [("j", 37)]) rfl rfl nd (di_rng1 rfl f_range (da_cons (v_ 17) da_nil)) rfl (by decide) (fun _ _ _ _ _ => g_ 37 nd) (fun _ _ _ _ _ => dts_one (dt_cmp oNInK_n (oNInK_ok (hu65_of hr)) (v_ 37) (v_ 34) rfl)) (fun _ _ _ _ _ => dp_ix (v_ 2) (v_ 37) (fun _ _ => rfl))) (do_so (dp_neg dp_int)) do_no) (dp_sl (lc_ (own := [("j", 37)]) rfl rfl nd (di_rng2 rfl f_range (da_cons (dp_bin oAdd_n oAdd_ok (v_ 17) dp_int) (da_cons (dp_bi bLen_n bLen_ok rfl f_len boot_len (da_cons (v_ 2) da_nil)) da_nil))) rfl (by decide) (fun _ _ _ _ _ => g_ 37 nd) (fun _ _ _ _ _ => dts_one (dt_cmp oNInK_n (oNInK_ok (hu65_of hr)) (v_ 37) (v_ 34) rfl)) (fun _ _ _ _ _ => dp_ix (v_ 2) (v_ 37) (fun _ _ => rfl))) do_no (do_so dp_int)))) (db_cons (ds_set nd rfl (loc_by rfl) (dp_bin oAdd_n oAdd_ok (v_ 35) (dp_lst (da_cons (dp_if (dt_cmp oNInK_n (oNInK_ok (hu65_of hr)) (v_ 17) (v_ 34) rfl) (v_ 26) (dp_if (dt_cmp oNe_n (oNe_ok hr.units) (v_ 36) (dp_lst da_nil) rfl) (dp_bin oDiv_n oDiv_ok (dp_bi bSumA_n (bSumA_ok rfl) rfl f_sum boot_sum (da_cons (v_ 36) da_nil)) (dp_bi bLen_n bLen_ok rfl f_len boot_len (da_cons (v_ 36) da_nil))) dp_int)) da_nil)))) db_nil))) (db_cons (ds_if (dt_w (dw_or (dt_cmp oNe_n (oNe_ok hr.units) (dp_cp (P_echo_far S) hr (by omega) rfl tk rfl (fes_len_cons (fes_len_cons (fes_len_cons fes_len_nil))) (da_cons (v_ 2) (da_cons (v_ 29) (da_cons (v_ 30) da_nil)))) (dp_ix (dp_bi bMinA_n (bMinA_ok (hu165_of hr) rfl) rfl f_min boot_min (da_cons (v_ 31) da_nil)) dp_int (fun _ _ => rfl)) rfl) (dw_or1 (dt_cmp oNe_n (oNe_ok hr.units) (dp_bt bList_n bList_ok rfl f_list boot_list (da_cons (dp_cp (P_filled_in S) hr (by omega) rfl tk rfl (fes_len_cons (fes_len_cons fes_len_nil)) (da_cons (v_ 2) (da_cons (v_ 34) da_nil))) da_nil)) (v_ 35) rfl)))) (db_cons (ds_ret dp_bl) db_nil) db_nil) db_nil))))))))))))))))))))))))))))))) (db_cons (ds_ret (dp_cp0F (P__law_plain S) hr (by omega) rfl tk)) db_nil)
end
end K05
end
section
set_option Elab.async false
set_option linter.all false
set_option maxRecDepth 100000
set_option maxHeartbeats 4000000
namespace K05
open PySem Dl
/-! ### steps that follow -/
def stp (k : Nat) : Int := 4 * 2 ^ k
def fresh (told : Int) (spot : Nat) (code : Int) : Int := max (-8031) (min 8031 (if 8 ≤ code then told - (code % 8 * stp spot + stp spot / 2) else told + (code % 8 * stp spot + stp spot / 2)))
def spot' (spot : Nat) (code : Int) : Nat := if 6 ≤ code % 8 then min 8 (spot + 1) else if code % 8 ≤ 1 then spot - 1 else spot
theorem tab9 (k : Nat) (h : k < 9) (g : G) : oIx (.tup [.int 4, .int 8, .int 16, .int 32, .int 64, .int 128, .int 256, .int 512, .int 1024]) (.int k) g = .ok (.int (stp k)) g := by
  rcases k with _ | _ | _ | _ | _ | _ | _ | _ | _ | k
  all_goals first | rfl | omega
theorem tab9l (k : Nat) (h : k < 9) (g : G) : oIx (.lst [.int 4, .int 8, .int 16, .int 32, .int 64, .int 128, .int 256, .int 512, .int 1024]) (.int k) g = .ok (.int (stp k)) g := by
  rcases k with _ | _ | _ | _ | _ | _ | _ | _ | _ | k
  all_goals first | rfl | omega
theorem step_on_spec (told : Int) (spot : Nat) (code : Int) (g : G) (h : spot < 9) (h2 : 0 ≤ code ∧ code < 16) :
    F_step_on [.int told, .int spot, .int code] g = .ok (.tup [.int (fresh told spot code), .int (spot' spot code)]) g := by
  refine run_rt ?_
  have hm : code % 8 < 8 ∧ 0 ≤ code % 8 := by omega
  simp (disch := first | omega | simp) [B_step_on, tab9 _ h, oMod_p, oDiv_p, oMul_l, fresh]
  unfold spot'
  split <;> (try split) <;> omega
theorem law_step_spec (told : Int) (spot : Nat) (code : Int) (g : G) (h : spot < 9) (h2 : 0 ≤ code ∧ code < 16) :
    F__law_step [.int told, .int spot, .int code] g = .ok (.tup [.int (fresh told spot code), .int (spot' spot code)]) g := by
  refine run_rt ?_
  have hm : code % 8 < 8 ∧ 0 ≤ code % 8 := by omega
  have hs : ∀ x : Int, x * (if 7 < code then -1 else 1) = if 8 ≤ code then -x else x := fun x => by
    by_cases z : 8 ≤ code
    · rw [if_pos z, if_pos (by omega)]; omega
    · rw [if_neg z, if_neg (by omega)]; omega
  simp (disch := first | omega | simp | (split <;> omega)) [B__law_step, tab9l _ h, oMod_p, oDiv_p, oMul_l, oMul_r, fresh, hs]
  refine ⟨?_, ?_⟩
  · split <;> rfl
  · unfold spot'
    (repeat' split) <;> omega
/-! ### checks -/
def Ok (ns : List Int) : Prop := (∀ x ∈ ns, -8031 ≤ x ∧ x ≤ 8031) ∧ ns.length ≤ 2000
theorem Ok.any {ns : List Int} (h : Ok ns) : (ns.any fun x => decide ((8031 : Int) < (x.natAbs : Int))) = false := by
  rw [List.any_eq_false]
  intro x hx
  have := h.1 x hx
  simp only [decide_eq_true_eq]
  omega
theorem check_gen {d : D} (ns : List Int) (g : G) (h : Ok ns) (hk : ∀ ρ, fLk (lkV 0) (fGn (stpB true) (kB true) [1] (iSeqL (fVar 0)) (gNm 1) fYes (fBin oGt (fBi bAbs (fCons (fVar 1) fNil)) (fC (.int 8031)))) (some d :: ρ) g = fGn (stpB true) (kB true) [1] (iSeqL (fVar 0)) (gNm 1) fYes (fBin oGt (fBi bAbs (fCons (fVar 1) fNil)) (fC (.int 8031))) (some d :: ρ) g) (hs : stillG g d = some (ns.map .int)) (hb : bLen [d] g = .ok (.int ns.length) g) : F_check_samples [d] g = .ok .non g := by
  refine run_nx (ρ := [some d, none]) ?_
  have e : gnD (stpB true) (kB true) [1] (gNm 1) fYes (fBin oGt (fBi bAbs (fCons (fVar 1) fNil)) (fC (.int 8031))) [some d, none] [] (ns.map .int) g = .ok (.bl (ns.any fun x => decide ((8031 : Int) < (x.natAbs : Int)))) g :=
    gnD_any ns [] fun x _ => ⟨[some d, some (.int x)], rfl, by simp⟩
  rw [h.any] at e
  have h2 := h.2
  have h3 : ¬ ((2000 : Int) < (ns.length : Int)) := by omega
  simp (disch := first | omega | (simp; omega)) [B_check_samples, hk, hs, hb, e, h3]
theorem check_l {ns : List Int} (h : Ok ns) (g : G) : F_check_samples [il ns] g = .ok .non g := check_gen ns g h (fun _ => fLk_none rfl) rfl (by simp)
theorem check_t {ns : List Int} (h : Ok ns) (g : G) : F_check_samples [it ns] g = .ok .non g := check_gen ns g h (fun _ => fLk_none rfl) rfl (by simp)
theorem check_end {ns : List Int} (h : Ok ns) (g : G) : F_check_samples [.loc g.length] (g ++ [O.lst (ns.map .int)]) = .ok .non (g ++ [O.lst (ns.map .int)]) := by
  refine run_nx (ρ := [some (.loc g.length), none]) ?_
  have e : gnD (stpB true) (kB true) [1] (gNm 1) fYes (fBin oGt (fBi bAbs (fCons (fVar 1) fNil)) (fC (.int 8031))) [some (.loc g.length), none] [] (ns.map .int) (g ++ [O.frz (O.lst (ns.map .int))]) = .ok (.bl (ns.any fun x => decide ((8031 : Int) < (x.natAbs : Int)))) (g ++ [O.frz (O.lst (ns.map .int))]) :=
    gnD_any ns [] fun x _ => ⟨_, rfl, by simp only [Res.bind_ok, Res.bind_err, Res.bind_stuck, Res.toS_ok, Res.toS_err, fVar_z, fVar_s, fVar_s', fC_e, fBin_e, fNil_e, fCons_e, fCall_e, fCall0_e, fBi_e, fTup_e, mkTup_ok, fLst_e, mkLst_ok, mkLst_nil, fMut_e, mkMut_ok, fIf_e, fB_bin, fTru_e, tru_bl, tru_int, fNot_e, fAnd_e, fOr_e, fCh_e, fNeg_e, fNotV_e, sNil_e, sSeq_e, seq_nx', seq_rt', seq_err', seq_ct', seq_bk', sIf_e, sErr_e, sEx_e, sRt_e, sCt_e, sBk_e, sAsg_e, gNm_e, sPar_e, sPar3_e, gTp_tup, gsNil_e, gsCons_nm, sAug_z, ite_ok, ite_nx, ite_rt, ite_int, ite_bl, ite_str, ite_tup, ite_lst, ite_cons, ite_some, oAdd_i, oSub_i, oAddI_i, oSubI_i, oLt_i, oLe_i, oGt_i, oGe_i, oEq_i, oNe_i, oIs_non, oIsNot_non, bAbs_i, bMinA_i, bMaxA_i, bInt_i, bInt_b, bLen_t, bLen_l, bList_l, bList_t, bTuple_l, bTuple_t, lstOf_end, bTuple_end, isKind_end, set_end, fMt_e, sFor_e, iSeq_e, still_l, still_t, still_s, iRng_e, enmA_l, enmA_t, zppA_l, zppA_t, forD_nil, sWh_e, sized_ok, lc_e, gn_e, fSl_e, fNo_e, fSo_e, oSl_l, oSl_t, iSeqL_e, stillG_l, stillG_t, stillG_end, List.map_cons, List.map_nil, List.length_cons, List.length_nil, List.replicate, List.cons_append, List.nil_append, List.set_cons_zero, List.set_cons_succ, decide_eq_true_eq, Bool.not_eq_true, Bool.not_true, Bool.not_false, if_true, if_false, ite_self, Bool.false_eq_true, reduceIte, Nat.reduceAdd, Nat.reduceSub, Nat.reduceLeDiff, Nat.sub_zero, Nat.zero_add, List.append_nil, Bool.not_eq_eq_eq_not, decide_not, Bool.decide_eq_true, wipeD]⟩
  rw [h.any] at e
  have h2 := h.2
  have h3 : ¬ ((2000 : Int) < (ns.length : Int)) := by omega
  have hb : bLen [.loc g.length] (g ++ [O.lst (ns.map .int)]) = .ok (.int (ns.length : Nat)) (g ++ [O.lst (ns.map .int)]) := by
    show (match lstOf (g ++ [O.lst (ns.map .int)]) (.loc g.length) with | some ds => Res.ok (D.int ds.length) _ | none => .stuck) = _
    rw [lstOf_end]; simp
  have hk : fLk (lkV 0) (fGn (stpB true) (kB true) [1] (iSeqL (fVar 0)) (gNm 1) fYes (fBin oGt (fBi bAbs (fCons (fVar 1) fNil)) (fC (.int 8031)))) [some (.loc g.length), none] (g ++ [O.lst (ns.map .int)]) = .ok (.bl false) (g ++ [O.lst (ns.map .int)]) := by
    rw [fLk_at (n := g.length) (u := O.lst (ns.map .int)) rfl (by simp) rfl, set_end]
    have : fGn (stpB true) (kB true) [1] (iSeqL (fVar 0)) (gNm 1) fYes (fBin oGt (fBi bAbs (fCons (fVar 1) fNil)) (fC (.int 8031))) [some (.loc g.length), none] (g ++ [O.frz (O.lst (ns.map .int))]) = .ok (.bl false) (g ++ [O.frz (O.lst (ns.map .int))]) := by
      simp (disch := first | omega | (simp; done) | (simp; omega) | fail) only [Res.bind_ok, Res.bind_err, Res.bind_stuck, Res.toS_ok, Res.toS_err, fVar_z, fVar_s, fVar_s', fC_e, fBin_e, fNil_e, fCons_e, fCall_e, fCall0_e, fBi_e, fTup_e, mkTup_ok, fLst_e, mkLst_ok, mkLst_nil, fMut_e, mkMut_ok, fIf_e, fB_bin, fTru_e, tru_bl, tru_int, fNot_e, fAnd_e, fOr_e, fCh_e, fNeg_e, fNotV_e, sNil_e, sSeq_e, seq_nx', seq_rt', seq_err', seq_ct', seq_bk', sIf_e, sErr_e, sEx_e, sRt_e, sCt_e, sBk_e, sAsg_e, gNm_e, sPar_e, sPar3_e, gTp_tup, gsNil_e, gsCons_nm, sAug_z, ite_ok, ite_nx, ite_rt, ite_int, ite_bl, ite_str, ite_tup, ite_lst, ite_cons, ite_some, oAdd_i, oSub_i, oAddI_i, oSubI_i, oLt_i, oLe_i, oGt_i, oGe_i, oEq_i, oNe_i, oIs_non, oIsNot_non, bAbs_i, bMinA_i, bMaxA_i, bInt_i, bInt_b, bLen_t, bLen_l, bList_l, bList_t, bTuple_l, bTuple_t, lstOf_end, bTuple_end, isKind_end, set_end, fMt_e, sFor_e, iSeq_e, still_l, still_t, still_s, iRng_e, enmA_l, enmA_t, zppA_l, zppA_t, forD_nil, sWh_e, sized_ok, lc_e, gn_e, fSl_e, fNo_e, fSo_e, oSl_l, oSl_t, iSeqL_e, stillG_l, stillG_t, stillG_end, List.map_cons, List.map_nil, List.length_cons, List.length_nil, List.replicate, List.cons_append, List.nil_append, List.set_cons_zero, List.set_cons_succ, decide_eq_true_eq, Bool.not_eq_true, Bool.not_true, Bool.not_false, if_true, if_false, ite_self, Bool.false_eq_true, reduceIte, Nat.reduceAdd, Nat.reduceSub, Nat.reduceLeDiff, Nat.sub_zero, Nat.zero_add, List.append_nil, Bool.not_eq_eq_eq_not, decide_not, Bool.decide_eq_true, e]
    rw [this, unlE_end]
  simp only [Res.bind_ok, Res.bind_err, Res.bind_stuck, Res.toS_ok, Res.toS_err, fVar_z, fVar_s, fVar_s', fC_e, fBin_e, fNil_e, fCons_e, fCall_e, fCall0_e, fBi_e, fTup_e, mkTup_ok, fLst_e, mkLst_ok, mkLst_nil, fMut_e, mkMut_ok, fIf_e, fB_bin, fTru_e, tru_bl, tru_int, fNot_e, fAnd_e, fOr_e, fCh_e, fNeg_e, fNotV_e, sNil_e, sSeq_e, seq_nx', seq_rt', seq_err', seq_ct', seq_bk', sIf_e, sErr_e, sEx_e, sRt_e, sCt_e, sBk_e, sAsg_e, gNm_e, sPar_e, sPar3_e, gTp_tup, gsNil_e, gsCons_nm, sAug_z, ite_ok, ite_nx, ite_rt, ite_int, ite_bl, ite_str, ite_tup, ite_lst, ite_cons, ite_some, oAdd_i, oSub_i, oAddI_i, oSubI_i, oLt_i, oLe_i, oGt_i, oGe_i, oEq_i, oNe_i, oIs_non, oIsNot_non, bAbs_i, bMinA_i, bMaxA_i, bInt_i, bInt_b, bLen_t, bLen_l, bList_l, bList_t, bTuple_l, bTuple_t, lstOf_end, bTuple_end, isKind_end, set_end, fMt_e, sFor_e, iSeq_e, still_l, still_t, still_s, iRng_e, enmA_l, enmA_t, zppA_l, zppA_t, forD_nil, sWh_e, sized_ok, lc_e, gn_e, fSl_e, fNo_e, fSo_e, oSl_l, oSl_t, iSeqL_e, stillG_l, stillG_t, stillG_end, List.map_cons, List.map_nil, List.length_cons, List.length_nil, List.replicate, List.cons_append, List.nil_append, List.set_cons_zero, List.set_cons_succ, decide_eq_true_eq, Bool.not_eq_true, Bool.not_true, Bool.not_false, if_true, if_false, ite_self, Bool.false_eq_true, reduceIte, Nat.reduceAdd, Nat.reduceSub, Nat.reduceLeDiff, Nat.sub_zero, Nat.zero_add, List.append_nil, Bool.not_eq_eq_eq_not, decide_not, Bool.decide_eq_true, B_check_samples, hk, hb, h3, decide_false]
/-! ### eight bits -/
def strt (m : Nat) : Nat := if m < 64 then 0 else if m < 128 then 1 else if m < 256 then 2 else if m < 512 then 3 else if m < 1024 then 4 else if m < 2048 then 5 else if m < 4096 then 6 else 7
def pcode (a : Nat) : Int := 16 * strt (a + 33) + (((a + 33) / 2 ^ (strt (a + 33) + 1) : Nat) - 16)
def press (s : Int) : Int := (if s < 0 then 128 else 0) + pcode s.natAbs
theorem strt_le (m : Nat) : strt m ≤ 7 := by unfold strt; (repeat' split) <;> omega
theorem press_loop (m σ : Nat) (g : G) (x z : Option D) (hlt : ∀ i, i < σ → 32 ≤ m / 2 ^ (i + 1) ∧ i < 7) (hst : ¬ (32 ≤ m / 2 ^ (σ + 1) ∧ σ < 7)) : ∀ k i n, i + k = σ → k < n →
    whileD C_pressed_0 W_pressed_0 n [x, some (.int m), some (.int i), z] g = .nx [x, some (.int m), some (.int σ), z] g := by
  have ht : ∀ i : Nat, C_pressed_0 [x, some (.int m), some (.int i), z] g = .ok (decide (32 ≤ m / 2 ^ (i + 1) ∧ i < 7)) g := fun i => by
    have e1 : ((i : Int) + 1).toNat = i + 1 := by omega
    have e2 : ((m : Int) / 2 ^ (i + 1) : Int) = ((m / 2 ^ (i + 1) : Nat) : Int) := by norm_cast
    simp (disch := omega) only [Res.bind_ok, Res.bind_err, Res.bind_stuck, Res.toS_ok, Res.toS_err, fVar_z, fVar_s, fVar_s', fC_e, fBin_e, fNil_e, fCons_e, fCall_e, fCall0_e, fBi_e, fTup_e, mkTup_ok, fLst_e, mkLst_ok, mkLst_nil, fMut_e, mkMut_ok, fIf_e, fB_bin, fTru_e, tru_bl, tru_int, fNot_e, fAnd_e, fOr_e, fCh_e, fNeg_e, fNotV_e, sNil_e, sSeq_e, seq_nx', seq_rt', seq_err', seq_ct', seq_bk', sIf_e, sErr_e, sEx_e, sRt_e, sCt_e, sBk_e, sAsg_e, gNm_e, sPar_e, sPar3_e, gTp_tup, gsNil_e, gsCons_nm, sAug_z, ite_ok, ite_nx, ite_rt, ite_int, ite_bl, ite_str, ite_tup, ite_lst, ite_cons, ite_some, oAdd_i, oSub_i, oAddI_i, oSubI_i, oLt_i, oLe_i, oGt_i, oGe_i, oEq_i, oNe_i, oIs_non, oIsNot_non, bAbs_i, bMinA_i, bMaxA_i, bInt_i, bInt_b, bLen_t, bLen_l, bList_l, bList_t, bTuple_l, bTuple_t, lstOf_end, bTuple_end, isKind_end, set_end, fMt_e, sFor_e, iSeq_e, still_l, still_t, still_s, iRng_e, enmA_l, enmA_t, zppA_l, zppA_t, forD_nil, sWh_e, sized_ok, lc_e, gn_e, fSl_e, fNo_e, fSo_e, oSl_l, oSl_t, iSeqL_e, stillG_l, stillG_t, stillG_end, List.map_cons, List.map_nil, List.length_cons, List.length_nil, List.replicate, List.cons_append, List.nil_append, List.set_cons_zero, List.set_cons_succ, decide_eq_true_eq, Bool.not_eq_true, Bool.not_true, Bool.not_false, if_true, if_false, ite_self, Bool.false_eq_true, reduceIte, Nat.reduceAdd, Nat.reduceSub, Nat.reduceLeDiff, Nat.sub_zero, Nat.zero_add, List.append_nil, Bool.not_eq_eq_eq_not, decide_not, Bool.decide_eq_true, C_pressed_0, oShr_p, e1, e2]
    by_cases a : 32 ≤ m / 2 ^ (i + 1)
    · have a' : (32 : Int) ≤ ((m / 2 ^ (i + 1) : Nat) : Int) := by exact_mod_cast a
      simp only [a, a', if_true, true_and]
      congr 1
      exact decide_eq_decide.mpr (by omega)
    · have a' : ¬ (32 : Int) ≤ ((m / 2 ^ (i + 1) : Nat) : Int) := by exact_mod_cast a
      simp only [a, a', if_false, false_and]
      congr 1
  intro k
  induction k with
  | zero =>
    intro i n hi hn
    obtain ⟨n, rfl⟩ : ∃ q, n = q + 1 := ⟨n - 1, by omega⟩
    have : i = σ := by omega
    subst this
    exact whileD_stop (by rw [ht]; simp only [hst, decide_false])
  | succ k ih =>
    intro i n hi hn
    obtain ⟨n, rfl⟩ : ∃ q, n = q + 1 := ⟨n - 1, by omega⟩
    have := hlt i (by omega)
    rw [whileD_turn (ρ2 := [x, some (.int m), some (.int ((i + 1 : Nat) : Int)), z]) (g1 := g) (g2 := g) (by rw [ht]; simp only [this, and_self, decide_true]) (by simp [W_pressed_0, sAug]), ih (i + 1) n (by omega) (by omega)]
theorem strt_facts (m : Nat) (h : 33 ≤ m) : (∀ i, i < strt m → 32 ≤ m / 2 ^ (i + 1) ∧ i < 7) ∧ ¬ (32 ≤ m / 2 ^ (strt m + 1) ∧ strt m < 7) := by
  have key : ∀ i, i < 7 → (32 ≤ m / 2 ^ (i + 1) ↔ 2 ^ (i + 6) ≤ m) := fun i hi => by
    rw [Nat.le_div_iff_mul_le (by exact Nat.two_pow_pos _)]
    have : 32 * 2 ^ (i + 1) = 2 ^ (i + 6) := by rw [show (32 : Nat) = 2 ^ 5 from rfl, ← Nat.pow_add]; congr 1; omega
    rw [this]
  have hs : ∀ i, i < 7 → (i < strt m ↔ 2 ^ (i + 6) ≤ m) := fun i hi => by
    unfold strt
    rcases i with _ | _ | _ | _ | _ | _ | _ | i
    all_goals first | omega | (simp only [Nat.reducePow, Nat.reduceAdd, Nat.zero_add]; (repeat' split) <;> omega)
  refine ⟨fun i hi => ?_, fun z => ?_⟩
  · have h7 := strt_le m
    exact ⟨(key i (by omega)).mpr ((hs i (by omega)).mp hi), by omega⟩
  · have := (hs _ z.2).mpr ((key _ z.2).mp z.1)
    omega
theorem pressed_spec (s : Int) (g : G) (h : -8031 ≤ s ∧ s ≤ 8031) : F_pressed [.int s] g = .ok (.int (press s)) g := by
  refine run_rt ?_
  have hc := check_t (ns := [s]) ⟨fun x hx => by rw [List.mem_singleton.mp hx]; exact h, by simp⟩ g
  have hc' : F_check_samples [.tup [.int s]] g = .ok .non g := hc
  have f := strt_facts (s.natAbs + 33) (by omega)
  have hw := press_loop (s.natAbs + 33) (strt (s.natAbs + 33)) g (some (.int s)) none f.1 f.2 (strt (s.natAbs + 33)) 0 1000000 (by omega) (by have := strt_le (s.natAbs + 33); omega)
  have e3 : ((s.natAbs : Int) + 33) = ((s.natAbs + 33 : Nat) : Int) := by omega
  have e1 : ((strt (s.natAbs + 33) : Int) + 1).toNat = strt (s.natAbs + 33) + 1 := by omega
  have e2 : (((s.natAbs + 33 : Nat) : Int) / 2 ^ (strt (s.natAbs + 33) + 1) : Int) = (((s.natAbs + 33) / 2 ^ (strt (s.natAbs + 33) + 1) : Nat) : Int) := by norm_cast
  have hw' : whileD C_pressed_0 W_pressed_0 1000000 [some (.int s), some (.int ((s.natAbs + 33 : Nat) : Int)), some (.int 0), none] g = .nx [some (.int s), some (.int ((s.natAbs + 33 : Nat) : Int)), some (.int (strt (s.natAbs + 33) : Nat)), none] g := hw
  simp (disch := first | omega | simp) only [Res.bind_ok, Res.bind_err, Res.bind_stuck, Res.toS_ok, Res.toS_err, fVar_z, fVar_s, fVar_s', fC_e, fBin_e, fNil_e, fCons_e, fCall_e, fCall0_e, fBi_e, fTup_e, mkTup_ok, fLst_e, mkLst_ok, mkLst_nil, fMut_e, mkMut_ok, fIf_e, fB_bin, fTru_e, tru_bl, tru_int, fNot_e, fAnd_e, fOr_e, fCh_e, fNeg_e, fNotV_e, sNil_e, sSeq_e, seq_nx', seq_rt', seq_err', seq_ct', seq_bk', sIf_e, sErr_e, sEx_e, sRt_e, sCt_e, sBk_e, sAsg_e, gNm_e, sPar_e, sPar3_e, gTp_tup, gsNil_e, gsCons_nm, sAug_z, ite_ok, ite_nx, ite_rt, ite_int, ite_bl, ite_str, ite_tup, ite_lst, ite_cons, ite_some, oAdd_i, oSub_i, oAddI_i, oSubI_i, oLt_i, oLe_i, oGt_i, oGe_i, oEq_i, oNe_i, oIs_non, oIsNot_non, bAbs_i, bMinA_i, bMaxA_i, bInt_i, bInt_b, bLen_t, bLen_l, bList_l, bList_t, bTuple_l, bTuple_t, lstOf_end, bTuple_end, isKind_end, set_end, fMt_e, sFor_e, iSeq_e, still_l, still_t, still_s, iRng_e, enmA_l, enmA_t, zppA_l, zppA_t, forD_nil, sWh_e, sized_ok, lc_e, gn_e, fSl_e, fNo_e, fSo_e, oSl_l, oSl_t, iSeqL_e, stillG_l, stillG_t, stillG_end, List.map_cons, List.map_nil, List.length_cons, List.length_nil, List.replicate, List.cons_append, List.nil_append, List.set_cons_zero, List.set_cons_succ, decide_eq_true_eq, Bool.not_eq_true, Bool.not_true, Bool.not_false, if_true, if_false, ite_self, Bool.false_eq_true, reduceIte, Nat.reduceAdd, Nat.reduceSub, Nat.reduceLeDiff, Nat.sub_zero, Nat.zero_add, List.append_nil, Bool.not_eq_eq_eq_not, decide_not, Bool.decide_eq_true, B_pressed, hc', e3, hw', oShr_p, e1, e2, oMul_l]
  unfold press pcode
  rw [Int.add_assoc]
end K05
end
section
set_option Elab.async false
set_option linter.all false
set_option maxRecDepth 100000
set_option maxHeartbeats 4000000
namespace K05
open PySem Dl
def edges : List Int := [-1, 1, 3, 5, 7, 9, 11, 13, 15, 17, 19, 21, 23, 25, 27, 29, 31, 35, 39, 43, 47, 51, 55, 59, 63, 67, 71, 75, 79, 83, 87, 91, 95, 103, 111, 119, 127, 135, 143, 151, 159, 167, 175, 183, 191, 199, 207, 215, 223, 239, 255, 271, 287, 303, 319, 335, 351, 367, 383, 399, 415, 431, 447, 463, 479, 511, 543, 575, 607, 639, 671, 703, 735, 767, 799, 831, 863, 895, 927, 959, 991, 1055, 1119, 1183, 1247, 1311, 1375, 1439, 1503, 1567, 1631, 1695, 1759, 1823, 1887, 1951, 2015, 2143, 2271, 2399, 2527, 2655, 2783, 2911, 3039, 3167, 3295, 3423, 3551, 3679, 3807, 3935, 4063, 4319, 4575, 4831, 5087, 5343, 5599, 5855, 6111, 6367, 6623, 6879, 7135, 7391, 7647, 7903]
theorem edges_spec (g : G) : F__law_edges [] g = .ok (il edges) g := by kernel_rfl
theorem edges_len : edges.length = 128 := by decide
def opn (c : Int) : Int := if 128 ≤ c then 0 - ((2 * (c % 16 + 16) + 1) * 2 ^ (c % 128 / 16).toNat - 33) else (2 * (c % 16 + 16) + 1) * 2 ^ (c % 128 / 16).toNat - 33
theorem opened_spec (c : Int) (g : G) (h : 0 ≤ c ∧ c < 256) : F_opened [.int c] g = .ok (.int (opn c)) g := by
  refine run_rt ?_
  have h0 : 0 ≤ c := h.1
  have h1 : c ≤ 255 := by omega
  have h5 : oShl (.int (2 * (c % 16 + 16) + 1)) (.int (c % 128 / 16)) g = .ok (.int ((2 * (c % 16 + 16) + 1) * 2 ^ (c % 128 / 16).toNat)) g := oShl_p (by omega)
  simp (disch := omega) only [Res.bind_ok, Res.bind_err, Res.bind_stuck, Res.toS_ok, Res.toS_err, fVar_z, fVar_s, fVar_s', fC_e, fBin_e, fNil_e, fCons_e, fCall_e, fCall0_e, fBi_e, fTup_e, mkTup_ok, fLst_e, mkLst_ok, mkLst_nil, fMut_e, mkMut_ok, fIf_e, fB_bin, fTru_e, tru_bl, tru_int, fNot_e, fAnd_e, fOr_e, fCh_e, fNeg_e, fNotV_e, sNil_e, sSeq_e, seq_nx', seq_rt', seq_err', seq_ct', seq_bk', sIf_e, sErr_e, sEx_e, sRt_e, sCt_e, sBk_e, sAsg_e, gNm_e, sPar_e, sPar3_e, gTp_tup, gsNil_e, gsCons_nm, sAug_z, ite_ok, ite_nx, ite_rt, ite_int, ite_bl, ite_str, ite_tup, ite_lst, ite_cons, ite_some, oAdd_i, oSub_i, oAddI_i, oSubI_i, oLt_i, oLe_i, oGt_i, oGe_i, oEq_i, oNe_i, oIs_non, oIsNot_non, bAbs_i, bMinA_i, bMaxA_i, bInt_i, bInt_b, bLen_t, bLen_l, bList_l, bList_t, bTuple_l, bTuple_t, lstOf_end, bTuple_end, isKind_end, set_end, fMt_e, sFor_e, iSeq_e, still_l, still_t, still_s, iRng_e, enmA_l, enmA_t, zppA_l, zppA_t, forD_nil, sWh_e, sized_ok, lc_e, gn_e, fSl_e, fNo_e, fSo_e, oSl_l, oSl_t, iSeqL_e, stillG_l, stillG_t, stillG_end, List.map_cons, List.map_nil, List.length_cons, List.length_nil, List.replicate, List.cons_append, List.nil_append, List.set_cons_zero, List.set_cons_succ, decide_eq_true_eq, Bool.not_eq_true, Bool.not_true, Bool.not_false, if_true, if_false, ite_self, Bool.false_eq_true, reduceIte, Nat.reduceAdd, Nat.reduceSub, Nat.reduceLeDiff, Nat.sub_zero, Nat.zero_add, List.append_nil, Bool.not_eq_eq_eq_not, decide_not, Bool.decide_eq_true, B_opened, h0, h1, decide_true, oMod_p, oDiv_p, oMul_l, h5]
  rfl
def wides : List Int := [2, 4, 8, 16, 32, 64, 128, 256]
def lopn (c : Int) : Int := if 128 ≤ c then -(edges.getD (c % 128).toNat 0 + wides.getD (c % 128 / 16).toNat 0 / 2) else edges.getD (c % 128).toNat 0 + wides.getD (c % 128 / 16).toNat 0 / 2
theorem wide_ix (k : Int) (h : 0 ≤ k ∧ k < 8) (g : G) : oIx (.lst [.int 2, .int 4, .int 8, .int 16, .int 32, .int 64, .int 128, .int 256]) (.int k) g = .ok (.int (wides.getD k.toNat 0)) g := oIx_il (ns := wides) h
theorem law_open_spec (c : Int) (g : G) (h : 0 ≤ c ∧ c < 256) : F__law_open [.int c] g = .ok (.int (lopn c)) g := by
  refine run_rt ?_
  have h3 : 0 ≤ c % 128 ∧ c % 128 < 128 ∧ 0 ≤ c % 128 / 16 ∧ c % 128 / 16 < 8 := by omega
  have h5 : oIx (il edges) (.int (c % 128)) g = .ok (.int (edges.getD (c % 128).toNat 0)) g := oIx_il ⟨h3.1, by rw [edges_len]; omega⟩
  have h6 := wide_ix (c % 128 / 16) ⟨h3.2.2.1, h3.2.2.2⟩ g
  simp (disch := first | omega | simp) only [Res.bind_ok, Res.bind_err, Res.bind_stuck, Res.toS_ok, Res.toS_err, fVar_z, fVar_s, fVar_s', fC_e, fBin_e, fNil_e, fCons_e, fCall_e, fCall0_e, fBi_e, fTup_e, mkTup_ok, fLst_e, mkLst_ok, mkLst_nil, fMut_e, mkMut_ok, fIf_e, fB_bin, fTru_e, tru_bl, tru_int, fNot_e, fAnd_e, fOr_e, fCh_e, fNeg_e, fNotV_e, sNil_e, sSeq_e, seq_nx', seq_rt', seq_err', seq_ct', seq_bk', sIf_e, sErr_e, sEx_e, sRt_e, sCt_e, sBk_e, sAsg_e, gNm_e, sPar_e, sPar3_e, gTp_tup, gsNil_e, gsCons_nm, sAug_z, ite_ok, ite_nx, ite_rt, ite_int, ite_bl, ite_str, ite_tup, ite_lst, ite_cons, ite_some, oAdd_i, oSub_i, oAddI_i, oSubI_i, oLt_i, oLe_i, oGt_i, oGe_i, oEq_i, oNe_i, oIs_non, oIsNot_non, bAbs_i, bMinA_i, bMaxA_i, bInt_i, bInt_b, bLen_t, bLen_l, bList_l, bList_t, bTuple_l, bTuple_t, lstOf_end, bTuple_end, isKind_end, set_end, fMt_e, sFor_e, iSeq_e, still_l, still_t, still_s, iRng_e, enmA_l, enmA_t, zppA_l, zppA_t, forD_nil, sWh_e, sized_ok, lc_e, gn_e, fSl_e, fNo_e, fSo_e, oSl_l, oSl_t, iSeqL_e, stillG_l, stillG_t, stillG_end, List.map_cons, List.map_nil, List.length_cons, List.length_nil, List.replicate, List.cons_append, List.nil_append, List.set_cons_zero, List.set_cons_succ, decide_eq_true_eq, Bool.not_eq_true, Bool.not_true, Bool.not_false, if_true, if_false, ite_self, Bool.false_eq_true, reduceIte, Nat.reduceAdd, Nat.reduceSub, Nat.reduceLeDiff, Nat.sub_zero, Nat.zero_add, List.append_nil, Bool.not_eq_eq_eq_not, decide_not, Bool.decide_eq_true, B__law_open, edges_spec, oMod_p, oDiv_p, h5, h6]
  unfold lopn
  rfl
def cnt (a : Nat) : Int := ((edges.filter fun e => decide (e ≤ (a : Int))).length : Int) - 1
def lpress (s : Int) : Int := cnt s.natAbs + 128 * (if s < 0 then 1 else 0)
theorem law_press_spec (s : Int) (g : G) : F__law_press [.int s] g = .ok (.int (lpress s)) g := by
  refine run_rt ?_
  have hf : lcD [3] (gNm 3) (fB (fBin oLe (fVar 3) (fVar 1))) (fVar 3) [some (.int s), some (.int (s.natAbs : Int)), none, none] (edges.map .int) g = .ok ((edges.filter fun e => decide (e ≤ (s.natAbs : Int))).map .int) g :=
    lcD_filter edges fun e _ => ⟨_, rfl, by simp only [Res.bind_ok, Res.bind_err, Res.bind_stuck, Res.toS_ok, Res.toS_err, fVar_z, fVar_s, fVar_s', fC_e, fBin_e, fNil_e, fCons_e, fCall_e, fCall0_e, fBi_e, fTup_e, mkTup_ok, fLst_e, mkLst_ok, mkLst_nil, fMut_e, mkMut_ok, fIf_e, fB_bin, fTru_e, tru_bl, tru_int, fNot_e, fAnd_e, fOr_e, fCh_e, fNeg_e, fNotV_e, sNil_e, sSeq_e, seq_nx', seq_rt', seq_err', seq_ct', seq_bk', sIf_e, sErr_e, sEx_e, sRt_e, sCt_e, sBk_e, sAsg_e, gNm_e, sPar_e, sPar3_e, gTp_tup, gsNil_e, gsCons_nm, sAug_z, ite_ok, ite_nx, ite_rt, ite_int, ite_bl, ite_str, ite_tup, ite_lst, ite_cons, ite_some, oAdd_i, oSub_i, oAddI_i, oSubI_i, oLt_i, oLe_i, oGt_i, oGe_i, oEq_i, oNe_i, oIs_non, oIsNot_non, bAbs_i, bMinA_i, bMaxA_i, bInt_i, bInt_b, bLen_t, bLen_l, bList_l, bList_t, bTuple_l, bTuple_t, lstOf_end, bTuple_end, isKind_end, set_end, fMt_e, sFor_e, iSeq_e, still_l, still_t, still_s, iRng_e, enmA_l, enmA_t, zppA_l, zppA_t, forD_nil, sWh_e, sized_ok, lc_e, gn_e, fSl_e, fNo_e, fSo_e, oSl_l, oSl_t, iSeqL_e, stillG_l, stillG_t, stillG_end, List.map_cons, List.map_nil, List.length_cons, List.length_nil, List.replicate, List.cons_append, List.nil_append, List.set_cons_zero, List.set_cons_succ, decide_eq_true_eq, Bool.not_eq_true, Bool.not_true, Bool.not_false, if_true, if_false, ite_self, Bool.false_eq_true, reduceIte, Nat.reduceAdd, Nat.reduceSub, Nat.reduceLeDiff, Nat.sub_zero, Nat.zero_add, List.append_nil, Bool.not_eq_eq_eq_not, decide_not, Bool.decide_eq_true]; rfl, fun _ => rfl⟩
  simp (disch := first | omega | (simp [edges_len])) only [Res.bind_ok, Res.bind_err, Res.bind_stuck, Res.toS_ok, Res.toS_err, fVar_z, fVar_s, fVar_s', fC_e, fBin_e, fNil_e, fCons_e, fCall_e, fCall0_e, fBi_e, fTup_e, mkTup_ok, fLst_e, mkLst_ok, mkLst_nil, fMut_e, mkMut_ok, fIf_e, fB_bin, fTru_e, tru_bl, tru_int, fNot_e, fAnd_e, fOr_e, fCh_e, fNeg_e, fNotV_e, sNil_e, sSeq_e, seq_nx', seq_rt', seq_err', seq_ct', seq_bk', sIf_e, sErr_e, sEx_e, sRt_e, sCt_e, sBk_e, sAsg_e, gNm_e, sPar_e, sPar3_e, gTp_tup, gsNil_e, gsCons_nm, sAug_z, ite_ok, ite_nx, ite_rt, ite_int, ite_bl, ite_str, ite_tup, ite_lst, ite_cons, ite_some, oAdd_i, oSub_i, oAddI_i, oSubI_i, oLt_i, oLe_i, oGt_i, oGe_i, oEq_i, oNe_i, oIs_non, oIsNot_non, bAbs_i, bMinA_i, bMaxA_i, bInt_i, bInt_b, bLen_t, bLen_l, bList_l, bList_t, bTuple_l, bTuple_t, lstOf_end, bTuple_end, isKind_end, set_end, fMt_e, sFor_e, iSeq_e, still_l, still_t, still_s, iRng_e, enmA_l, enmA_t, zppA_l, zppA_t, forD_nil, sWh_e, sized_ok, lc_e, gn_e, fSl_e, fNo_e, fSo_e, oSl_l, oSl_t, iSeqL_e, stillG_l, stillG_t, stillG_end, List.map_cons, List.map_nil, List.length_cons, List.length_nil, List.replicate, List.cons_append, List.nil_append, List.set_cons_zero, List.set_cons_succ, decide_eq_true_eq, Bool.not_eq_true, Bool.not_true, Bool.not_false, if_true, if_false, ite_self, Bool.false_eq_true, reduceIte, Nat.reduceAdd, Nat.reduceSub, Nat.reduceLeDiff, Nat.sub_zero, Nat.zero_add, List.append_nil, Bool.not_eq_eq_eq_not, decide_not, Bool.decide_eq_true, B__law_press, edges_spec, il, hf, List.length_map, oMul_l]
  unfold lpress cnt
  rfl
def ed (c : Nat) : Int := 2 ^ (c / 16 + 1) * (c % 16 + 16 : Nat) - 33
theorem edges_ed : edges = (List.range 128).map ed := by decide +kernel
theorem key (m c : Nat) (h : 33 ≤ m ∧ m ≤ 8064) (hc : c < 128) : 2 ^ (c / 16 + 1) * (c % 16 + 16) ≤ m ↔ c + 16 < 16 * strt m + m / 2 ^ (strt m + 1) + 1 := by
  have h7 : c / 16 < 8 := by omega
  generalize hj : c / 16 = j at h7 ⊢
  unfold strt
  rcases j with _ | _ | _ | _ | _ | _ | _ | _ | j
  all_goals first | omega | (simp only [Nat.reducePow, Nat.reduceAdd, Nat.zero_add]; (repeat' split) <;> simp only [Nat.reducePow, Nat.reduceAdd, Nat.zero_add, Nat.reduceMul] <;> omega)
theorem len_lt (N : Nat) : ∀ n, N ≤ n → ((List.range n).filter fun c => decide (c < N)).length = N := by
  intro n
  induction n with
  | zero => intro h; have : N = 0 := by omega
            subst this; rfl
  | succ n ih =>
    intro h
    rw [List.range_succ, List.filter_append, List.length_append]
    by_cases hN : N ≤ n
    · rw [ih hN]; simp [hN]
    · have : N = n + 1 := by omega
      subst this
      have e : (List.range n).filter (fun c => decide (c < n + 1)) = List.range n := List.filter_eq_self.mpr fun c hc => by have := List.mem_range.mp hc; simp; omega
      rw [e]; simp
theorem pcode_rng (a : Nat) (h : a ≤ 8031) : 16 ≤ 16 * strt (a + 33) + (a + 33) / 2 ^ (strt (a + 33) + 1) ∧ 16 * strt (a + 33) + (a + 33) / 2 ^ (strt (a + 33) + 1) < 144 := by
  unfold strt
  (repeat' split) <;> simp only [Nat.reducePow, Nat.reduceAdd, Nat.zero_add, Nat.reduceMul] <;> omega
theorem cnt_eq (a : Nat) (h : a ≤ 8031) : cnt a = pcode a := by
  have r := pcode_rng a h
  unfold cnt
  rw [edges_ed, List.filter_map, List.length_map]
  have e : (List.range 128).filter ((fun e => decide (e ≤ (a : Int))) ∘ ed) = (List.range 128).filter fun c => decide (c < 16 * strt (a + 33) + (a + 33) / 2 ^ (strt (a + 33) + 1) + 1 - 16) := by
    refine List.filter_congr fun c hc => ?_
    have hc := List.mem_range.mp hc
    have k := key (a + 33) c (by omega) hc
    show decide (ed c ≤ (a : Int)) = _
    refine decide_eq_decide.mpr ?_
    have e1 : ed c ≤ (a : Int) ↔ 2 ^ (c / 16 + 1) * (c % 16 + 16) ≤ a + 33 := by
      unfold ed
      have : (2 ^ (c / 16 + 1) * (c % 16 + 16 : Nat) : Int) = ((2 ^ (c / 16 + 1) * (c % 16 + 16) : Nat) : Int) := by push_cast; rfl
      rw [this]; omega
    rw [e1, k]; omega
  rw [e, len_lt _ _ (by omega)]
  unfold pcode
  omega
theorem press_eq (s : Int) (h : -8031 ≤ s ∧ s ≤ 8031) : lpress s = press s := by
  have := cnt_eq s.natAbs (by omega)
  unfold lpress press
  rw [this]
  split <;> omega
theorem opn_all : ((List.range 256).all fun n => decide (opn (n : Int) = lopn (n : Int)) && (decide (8031 < (opn (n : Int)).natAbs) || decide (opn (n : Int) = 0) || decide (press (opn (n : Int)) = (n : Int)))) = true := by decide +kernel
theorem opn_eq (c : Int) (h : 0 ≤ c ∧ c < 256) : lopn c = opn c ∧ (8031 < (opn c).natAbs ∨ opn c = 0 ∨ press (opn c) = c) := by
  have := List.all_eq_true.mp opn_all c.toNat (List.mem_range.mpr (by omega))
  rw [Int.toNat_of_nonneg h.1] at this
  simp only [Bool.and_eq_true, Bool.or_eq_true, decide_eq_true_eq] at this
  refine ⟨this.1.symm, ?_⟩
  rcases this.2 with (a | a) | a
  · exact .inl a
  · exact .inr (.inl a)
  · exact .inr (.inr a)
theorem press_rng (s : Int) (h : -8031 ≤ s ∧ s ≤ 8031) : 0 ≤ press s ∧ press s < 256 := by
  have := pcode_rng s.natAbs (by omega)
  unfold press pcode
  split <;> omega
/-! ### how far off -/
def gap (s : Int) : Int := ((s - opn (press s)).natAbs : Int)
theorem off_by_spec (ns : List Int) (g : G) (h : Ok ns) : F_off_by [il ns] g = .ok (.tup [.int (maxL (ns.map gap ++ [0])), .int (ns.map gap).sum]) g := by
  refine run_rt ?_
  have hc := check_l h g
  have hf : lcD [2] (gNm 2) fYes Z_off_by_0 [some (il ns), none, none] (ns.map .int) g = .ok ((ns.map gap).map .int) g := by
    rw [List.map_map]
    refine lcD_map (enc := D.int) ns fun x hx => ⟨_, rfl, ?_⟩
    have hx := h.1 x hx
    have h2 := press_rng x hx
    have e1 := pressed_spec x g hx
    have e2 := opened_spec (press x) g h2
    simp only [Res.bind_ok, Res.bind_err, Res.bind_stuck, Res.toS_ok, Res.toS_err, fVar_z, fVar_s, fVar_s', fC_e, fBin_e, fNil_e, fCons_e, fCall_e, fCall0_e, fBi_e, fTup_e, mkTup_ok, fLst_e, mkLst_ok, mkLst_nil, fMut_e, mkMut_ok, fIf_e, fB_bin, fTru_e, tru_bl, tru_int, fNot_e, fAnd_e, fOr_e, fCh_e, fNeg_e, fNotV_e, sNil_e, sSeq_e, seq_nx', seq_rt', seq_err', seq_ct', seq_bk', sIf_e, sErr_e, sEx_e, sRt_e, sCt_e, sBk_e, sAsg_e, gNm_e, sPar_e, sPar3_e, gTp_tup, gsNil_e, gsCons_nm, sAug_z, ite_ok, ite_nx, ite_rt, ite_int, ite_bl, ite_str, ite_tup, ite_lst, ite_cons, ite_some, oAdd_i, oSub_i, oAddI_i, oSubI_i, oLt_i, oLe_i, oGt_i, oGe_i, oEq_i, oNe_i, oIs_non, oIsNot_non, bAbs_i, bMinA_i, bMaxA_i, bInt_i, bInt_b, bLen_t, bLen_l, bList_l, bList_t, bTuple_l, bTuple_t, lstOf_end, bTuple_end, isKind_end, set_end, fMt_e, sFor_e, iSeq_e, still_l, still_t, still_s, iRng_e, enmA_l, enmA_t, zppA_l, zppA_t, forD_nil, sWh_e, sized_ok, lc_e, gn_e, fSl_e, fNo_e, fSo_e, oSl_l, oSl_t, iSeqL_e, stillG_l, stillG_t, stillG_end, List.map_cons, List.map_nil, List.length_cons, List.length_nil, List.replicate, List.cons_append, List.nil_append, List.set_cons_zero, List.set_cons_succ, decide_eq_true_eq, Bool.not_eq_true, Bool.not_true, Bool.not_false, if_true, if_false, ite_self, Bool.false_eq_true, reduceIte, Nat.reduceAdd, Nat.reduceSub, Nat.reduceLeDiff, Nat.sub_zero, Nat.zero_add, List.append_nil, Bool.not_eq_eq_eq_not, decide_not, Bool.decide_eq_true, wipeD, Z_off_by_0, e1, e2]
    rfl
  have h2 := h.2
  have hm : bMaxA [.lst ((ns.map gap).map .int ++ [.int 0])] g = .ok (.int (maxL (ns.map gap ++ [0]))) g := by
    have e : (ns.map gap).map D.int ++ [.int 0] = (ns.map gap ++ [0]).map D.int := by simp
    rw [e]
    cases hh : ns.map gap ++ [0] with
    | nil => simp at hh
    | cons a l => exact bMaxA_l a l
  have hs := bSumA_l (g := g) (ns.map gap)
  simp (disch := first | omega | (simp; done) | (simp; omega) | fail) only [Res.bind_ok, Res.bind_err, Res.bind_stuck, Res.toS_ok, Res.toS_err, fVar_z, fVar_s, fVar_s', fC_e, fBin_e, fNil_e, fCons_e, fCall_e, fCall0_e, fBi_e, fTup_e, mkTup_ok, fLst_e, mkLst_ok, mkLst_nil, fMut_e, mkMut_ok, fIf_e, fB_bin, fTru_e, tru_bl, tru_int, fNot_e, fAnd_e, fOr_e, fCh_e, fNeg_e, fNotV_e, sNil_e, sSeq_e, seq_nx', seq_rt', seq_err', seq_ct', seq_bk', sIf_e, sErr_e, sEx_e, sRt_e, sCt_e, sBk_e, sAsg_e, gNm_e, sPar_e, sPar3_e, gTp_tup, gsNil_e, gsCons_nm, sAug_z, ite_ok, ite_nx, ite_rt, ite_int, ite_bl, ite_str, ite_tup, ite_lst, ite_cons, ite_some, oAdd_i, oSub_i, oAddI_i, oSubI_i, oLt_i, oLe_i, oGt_i, oGe_i, oEq_i, oNe_i, oIs_non, oIsNot_non, bAbs_i, bMinA_i, bMaxA_i, bInt_i, bInt_b, bLen_t, bLen_l, bList_l, bList_t, bTuple_l, bTuple_t, lstOf_end, bTuple_end, isKind_end, set_end, fMt_e, sFor_e, iSeq_e, still_l, still_t, still_s, iRng_e, enmA_l, enmA_t, zppA_l, zppA_t, forD_nil, sWh_e, sized_ok, lc_e, gn_e, fSl_e, fNo_e, fSo_e, oSl_l, oSl_t, iSeqL_e, stillG_l, stillG_t, stillG_end, List.map_cons, List.map_nil, List.length_cons, List.length_nil, List.replicate, List.cons_append, List.nil_append, List.set_cons_zero, List.set_cons_succ, decide_eq_true_eq, Bool.not_eq_true, Bool.not_true, Bool.not_false, if_true, if_false, ite_self, Bool.false_eq_true, reduceIte, Nat.reduceAdd, Nat.reduceSub, Nat.reduceLeDiff, Nat.sub_zero, Nat.zero_add, List.append_nil, Bool.not_eq_eq_eq_not, decide_not, Bool.decide_eq_true, B_off_by, il, hc, hf, oAdd_l, hm, hs]
end K05
end
section
set_option Elab.async false
set_option linter.all false
set_option maxRecDepth 100000
set_option maxHeartbeats 4000000
namespace K05
open PySem Dl
/-! ### followed and back -/
def mine (told : Int) (spot : Nat) (x : Int) : Int := min 7 (((x - told).natAbs : Int) / stp spot) + if x - told < 0 then 8 else 0
/-- codes and what they tell -/
def foll : Int → Nat → List Int → List Int
  | _, _, [] => []
  | told, spot, x :: r => mine told spot x :: foll (fresh told spot (mine told spot x)) (spot' spot (mine told spot x)) r
def tells : Int → Nat → List Int → List Int
  | _, _, [] => []
  | told, spot, c :: r => fresh told spot c :: tells (fresh told spot c) (spot' spot c) r
theorem stp_pos (k : Nat) (h : k < 9) : 4 ≤ stp k ∧ stp k < 1073741824 := by
  rcases k with _ | _ | _ | _ | _ | _ | _ | _ | _ | k
  all_goals first | (constructor <;> decide) | omega
theorem mine_rng (told : Int) (spot : Nat) (x : Int) (h : spot < 9) : 0 ≤ mine told spot x ∧ mine told spot x < 16 := by
  have := stp_pos spot h
  have : 0 ≤ ((x - told).natAbs : Int) / stp spot := Int.ediv_nonneg (by omega) (by omega)
  unfold mine
  split <;> omega
theorem spot'_lt (spot : Nat) (c : Int) (h : spot < 9) : spot' spot c < 9 := by unfold spot'; (repeat' split) <;> omega
theorem foll_rng : ∀ (ns : List Int) (told : Int) (spot : Nat), spot < 9 → ∀ c ∈ foll told spot ns, 0 ≤ c ∧ c < 16
  | [], _, _, _, c, hc => by cases hc
  | x :: r, told, spot, h, c, hc => by
    rcases List.mem_cons.mp hc with z | z
    · rw [z]; exact mine_rng told spot x h
    · exact foll_rng r _ _ (spot'_lt _ _ h) c z
theorem foll_len : ∀ (ns : List Int) (told : Int) (spot : Nat), (foll told spot ns).length = ns.length
  | [], _, _ => rfl
  | x :: r, told, spot => by simp [foll, foll_len r]
theorem followed_loop (g0 : G) (x0 : Option D) : ∀ (ns acc : List Int) (told : Int) (spot : Nat) (x4 x5 x6 x7 : Option D), spot < 9 → acc.length + ns.length ≤ 2000 →
    ∃ told2 spot2 y4 y5 y6 y7, forD (gNm 4) W_followed_0 (ns.map .int) [x0, some (.loc g0.length), some (.int told), some (.int spot), x4, x5, x6, x7] (g0 ++ [O.lst (acc.map .int)]) =
      .nx [x0, some (.loc g0.length), told2, spot2, y4, y5, y6, y7] (g0 ++ [O.lst ((acc ++ foll told spot ns).map .int)])
  | [], acc, told, spot, x4, x5, x6, x7, h, hl => ⟨_, _, _, _, _, _, by rw [foll, List.append_nil]; rfl⟩
  | x :: r, acc, told, spot, x4, x5, x6, x7, h, hl => by
    have hm := mine_rng told spot x h
    have hp := stp_pos spot h
    simp only [List.length_cons] at hl
    obtain ⟨a, b, c, d, e, f, ih⟩ := followed_loop g0 x0 r (acc ++ [mine told spot x]) (fresh told spot (mine told spot x)) (spot' spot (mine told spot x)) (some (.int x)) (some (.int (x - told))) (some (.int (min 7 (((x - told).natAbs : Int) / stp spot)))) (some (.int (mine told spot x))) (spot'_lt _ _ h) (by simp; omega)
    refine ⟨a, b, c, d, e, f, ?_⟩
    have hc := step_on_spec told spot (mine told spot x)
    have hd : (min 7 (((x - told).natAbs : Int) / stp spot) + if x - told < 0 then 8 else 0) = mine told spot x := rfl
    rw [List.map_cons, forD_turn (ρ1 := [x0, some (.loc g0.length), some (.int told), some (.int spot), some (.int x), x5, x6, x7]) (g1 := g0 ++ [O.lst (acc.map .int)]) (ρ2 := [x0, some (.loc g0.length), some (.int (fresh told spot (mine told spot x))), some (.int (spot' spot (mine told spot x) : Nat)), some (.int x), some (.int (x - told)), some (.int (min 7 (((x - told).natAbs : Int) / stp spot))), some (.int (mine told spot x))]) (g2 := g0 ++ [O.lst ((acc ++ [mine told spot x]).map .int)]) rfl]
    · rw [ih]; simp [foll]
    · simp (disch := first | omega | (simp; done) | (simp; omega) | fail) only [Res.bind_ok, Res.bind_err, Res.bind_stuck, Res.toS_ok, Res.toS_err, fVar_z, fVar_s, fVar_s', fC_e, fBin_e, fNil_e, fCons_e, fCall_e, fCall0_e, fBi_e, fTup_e, mkTup_ok, fLst_e, mkLst_ok, mkLst_nil, fMut_e, mkMut_ok, fIf_e, fB_bin, fTru_e, tru_bl, tru_int, fNot_e, fAnd_e, fOr_e, fCh_e, fNeg_e, fNotV_e, sNil_e, sSeq_e, seq_nx', seq_rt', seq_err', seq_ct', seq_bk', sIf_e, sErr_e, sEx_e, sRt_e, sCt_e, sBk_e, sAsg_e, gNm_e, sPar_e, sPar3_e, gTp_tup, gsNil_e, gsCons_nm, sAug_z, ite_ok, ite_nx, ite_rt, ite_int, ite_bl, ite_str, ite_tup, ite_lst, ite_cons, ite_some, oAdd_i, oSub_i, oAddI_i, oSubI_i, oLt_i, oLe_i, oGt_i, oGe_i, oEq_i, oNe_i, oIs_non, oIsNot_non, bAbs_i, bMinA_i, bMaxA_i, bInt_i, bInt_b, bLen_t, bLen_l, bList_l, bList_t, bTuple_l, bTuple_t, lstOf_end, bTuple_end, isKind_end, set_end, fMt_e, sFor_e, iSeq_e, still_l, still_t, still_s, iRng_e, enmA_l, enmA_t, zppA_l, zppA_t, forD_nil, sWh_e, sized_ok, lc_e, gn_e, fSl_e, fNo_e, fSo_e, oSl_l, oSl_t, iSeqL_e, stillG_l, stillG_t, stillG_end, List.map_cons, List.map_nil, List.length_cons, List.length_nil, List.replicate, List.cons_append, List.nil_append, List.set_cons_zero, List.set_cons_succ, decide_eq_true_eq, Bool.not_eq_true, Bool.not_true, Bool.not_false, if_true, if_false, ite_self, Bool.false_eq_true, reduceIte, Nat.reduceAdd, Nat.reduceSub, Nat.reduceLeDiff, Nat.sub_zero, Nat.zero_add, List.append_nil, Bool.not_eq_eq_eq_not, decide_not, Bool.decide_eq_true, W_followed_0, tab9 _ h, oDiv_p, hd, mApp_end, hc _ h hm, List.map_append, gTp_tup]
theorem followed_spec (ns : List Int) (g : G) (h : Ok ns) : F_followed [il ns] g = .ok (it (foll 0 0 ns)) (g ++ [O.lst ((foll 0 0 ns).map .int)]) := by
  refine run_rt ?_
  have hc := check_l h g
  obtain ⟨a, b, c, d, e, f, hl⟩ := followed_loop g (some (il ns)) ns [] 0 0 none none none none (by omega) (by have := h.2; simp; omega)
  have hl' : forD (gNm 4) W_followed_0 (ns.map .int) [some (il ns), some (.loc g.length), some (.int 0), some (.int 0), none, none, none, none] (g ++ [O.lst []]) = .nx [some (il ns), some (.loc g.length), a, b, c, d, e, f] (g ++ [O.lst ((foll 0 0 ns).map .int)]) := hl
  simp (disch := first | omega | (simp; done) | (simp; omega) | fail) only [Res.bind_ok, Res.bind_err, Res.bind_stuck, Res.toS_ok, Res.toS_err, fVar_z, fVar_s, fVar_s', fC_e, fBin_e, fNil_e, fCons_e, fCall_e, fCall0_e, fBi_e, fTup_e, mkTup_ok, fLst_e, mkLst_ok, mkLst_nil, fMut_e, mkMut_ok, fIf_e, fB_bin, fTru_e, tru_bl, tru_int, fNot_e, fAnd_e, fOr_e, fCh_e, fNeg_e, fNotV_e, sNil_e, sSeq_e, seq_nx', seq_rt', seq_err', seq_ct', seq_bk', sIf_e, sErr_e, sEx_e, sRt_e, sCt_e, sBk_e, sAsg_e, gNm_e, sPar_e, sPar3_e, gTp_tup, gsNil_e, gsCons_nm, sAug_z, ite_ok, ite_nx, ite_rt, ite_int, ite_bl, ite_str, ite_tup, ite_lst, ite_cons, ite_some, oAdd_i, oSub_i, oAddI_i, oSubI_i, oLt_i, oLe_i, oGt_i, oGe_i, oEq_i, oNe_i, oIs_non, oIsNot_non, bAbs_i, bMinA_i, bMaxA_i, bInt_i, bInt_b, bLen_t, bLen_l, bList_l, bList_t, bTuple_l, bTuple_t, lstOf_end, bTuple_end, isKind_end, set_end, fMt_e, sFor_e, iSeq_e, still_l, still_t, still_s, iRng_e, enmA_l, enmA_t, zppA_l, zppA_t, forD_nil, sWh_e, sized_ok, lc_e, gn_e, fSl_e, fNo_e, fSo_e, oSl_l, oSl_t, iSeqL_e, stillG_l, stillG_t, stillG_end, List.map_cons, List.map_nil, List.length_cons, List.length_nil, List.replicate, List.cons_append, List.nil_append, List.set_cons_zero, List.set_cons_succ, decide_eq_true_eq, Bool.not_eq_true, Bool.not_true, Bool.not_false, if_true, if_false, ite_self, Bool.false_eq_true, reduceIte, Nat.reduceAdd, Nat.reduceSub, Nat.reduceLeDiff, Nat.sub_zero, Nat.zero_add, List.append_nil, Bool.not_eq_eq_eq_not, decide_not, Bool.decide_eq_true, B_followed, hc, hl']
theorem tells_loop (g0 : G) (x0 : Option D) : ∀ (cs acc : List Int) (told : Int) (spot : Nat) (x1 : Option D), spot < 9 → (∀ c ∈ cs, 0 ≤ c ∧ c < 16) → acc.length + cs.length ≤ 2000 →
    ∃ told2 spot2 y1, forD (gNm 1) W_unfollowed_0 (cs.map .int) [x0, x1, some (.loc g0.length), some (.int told), some (.int spot)] (g0 ++ [O.lst (acc.map .int)]) =
      .nx [x0, y1, some (.loc g0.length), told2, spot2] (g0 ++ [O.lst ((acc ++ tells told spot cs).map .int)])
  | [], acc, told, spot, x1, h, hr, hl => ⟨_, _, _, by rw [tells, List.append_nil]; rfl⟩
  | x :: r, acc, told, spot, x1, h, hr, hl => by
    simp only [List.length_cons] at hl
    have hx := hr x List.mem_cons_self
    obtain ⟨a, b, c, ih⟩ := tells_loop g0 x0 r (acc ++ [fresh told spot x]) (fresh told spot x) (spot' spot x) (some (.int x)) (spot'_lt _ _ h) (fun c hc => hr c (List.mem_cons_of_mem _ hc)) (by simp; omega)
    refine ⟨a, b, c, ?_⟩
    have hc := step_on_spec told spot x
    rw [List.map_cons, forD_turn (ρ1 := [x0, some (.int x), some (.loc g0.length), some (.int told), some (.int spot)]) (g1 := g0 ++ [O.lst (acc.map .int)]) (ρ2 := [x0, some (.int x), some (.loc g0.length), some (.int (fresh told spot x)), some (.int (spot' spot x : Nat))]) (g2 := g0 ++ [O.lst ((acc ++ [fresh told spot x]).map .int)]) rfl]
    · rw [ih]; simp [tells]
    · simp (disch := first | omega | (simp; done) | (simp; omega) | fail) only [Res.bind_ok, Res.bind_err, Res.bind_stuck, Res.toS_ok, Res.toS_err, fVar_z, fVar_s, fVar_s', fC_e, fBin_e, fNil_e, fCons_e, fCall_e, fCall0_e, fBi_e, fTup_e, mkTup_ok, fLst_e, mkLst_ok, mkLst_nil, fMut_e, mkMut_ok, fIf_e, fB_bin, fTru_e, tru_bl, tru_int, fNot_e, fAnd_e, fOr_e, fCh_e, fNeg_e, fNotV_e, sNil_e, sSeq_e, seq_nx', seq_rt', seq_err', seq_ct', seq_bk', sIf_e, sErr_e, sEx_e, sRt_e, sCt_e, sBk_e, sAsg_e, gNm_e, sPar_e, sPar3_e, gTp_tup, gsNil_e, gsCons_nm, sAug_z, ite_ok, ite_nx, ite_rt, ite_int, ite_bl, ite_str, ite_tup, ite_lst, ite_cons, ite_some, oAdd_i, oSub_i, oAddI_i, oSubI_i, oLt_i, oLe_i, oGt_i, oGe_i, oEq_i, oNe_i, oIs_non, oIsNot_non, bAbs_i, bMinA_i, bMaxA_i, bInt_i, bInt_b, bLen_t, bLen_l, bList_l, bList_t, bTuple_l, bTuple_t, lstOf_end, bTuple_end, isKind_end, set_end, fMt_e, sFor_e, iSeq_e, still_l, still_t, still_s, iRng_e, enmA_l, enmA_t, zppA_l, zppA_t, forD_nil, sWh_e, sized_ok, lc_e, gn_e, fSl_e, fNo_e, fSo_e, oSl_l, oSl_t, iSeqL_e, stillG_l, stillG_t, stillG_end, List.map_cons, List.map_nil, List.length_cons, List.length_nil, List.replicate, List.cons_append, List.nil_append, List.set_cons_zero, List.set_cons_succ, decide_eq_true_eq, Bool.not_eq_true, Bool.not_true, Bool.not_false, if_true, if_false, ite_self, Bool.false_eq_true, reduceIte, Nat.reduceAdd, Nat.reduceSub, Nat.reduceLeDiff, Nat.sub_zero, Nat.zero_add, List.append_nil, Bool.not_eq_eq_eq_not, decide_not, Bool.decide_eq_true, W_unfollowed_0, mApp_end, hc _ h hx, List.map_append, gTp_tup]
theorem unfollowed_spec (cs : List Int) (g : G) (h : ∀ c ∈ cs, 0 ≤ c ∧ c < 16) (hl : cs.length ≤ 2000) : F_unfollowed [il cs] g = .ok (it (tells 0 0 cs)) (g ++ [O.lst ((tells 0 0 cs).map .int)]) := by
  refine run_rt ?_
  obtain ⟨a, b, c, hl2⟩ := tells_loop g (some (il cs)) cs [] 0 0 none (by omega) h (by simp; omega)
  have hl' : forD (gNm 1) W_unfollowed_0 (cs.map .int) [some (il cs), none, some (.loc g.length), some (.int 0), some (.int 0)] (g ++ [O.lst []]) = .nx [some (il cs), c, some (.loc g.length), a, b] (g ++ [O.lst ((tells 0 0 cs).map .int)]) := hl2
  have e : gnD (stpB true) (kB true) [1] (gNm 1) fYes (fNotV (fCh oLe oLe (fC (.int 0)) (fVar 1) (fC (.int 15)))) [some (il cs), none, none, none, none] [] (cs.map .int) g = .ok (.bl (cs.any fun x => !decide (0 ≤ x ∧ x ≤ 15))) g :=
    gnD_any cs [] fun x hx => ⟨_, rfl, by
      have hx := h x hx
      have h1 : x ≤ 15 := by omega
      simp only [Res.bind_ok, Res.bind_err, Res.bind_stuck, Res.toS_ok, Res.toS_err, fVar_z, fVar_s, fVar_s', fC_e, fBin_e, fNil_e, fCons_e, fCall_e, fCall0_e, fBi_e, fTup_e, mkTup_ok, fLst_e, mkLst_ok, mkLst_nil, fMut_e, mkMut_ok, fIf_e, fB_bin, fTru_e, tru_bl, tru_int, fNot_e, fAnd_e, fOr_e, fCh_e, fNeg_e, fNotV_e, sNil_e, sSeq_e, seq_nx', seq_rt', seq_err', seq_ct', seq_bk', sIf_e, sErr_e, sEx_e, sRt_e, sCt_e, sBk_e, sAsg_e, gNm_e, sPar_e, sPar3_e, gTp_tup, gsNil_e, gsCons_nm, sAug_z, ite_ok, ite_nx, ite_rt, ite_int, ite_bl, ite_str, ite_tup, ite_lst, ite_cons, ite_some, oAdd_i, oSub_i, oAddI_i, oSubI_i, oLt_i, oLe_i, oGt_i, oGe_i, oEq_i, oNe_i, oIs_non, oIsNot_non, bAbs_i, bMinA_i, bMaxA_i, bInt_i, bInt_b, bLen_t, bLen_l, bList_l, bList_t, bTuple_l, bTuple_t, lstOf_end, bTuple_end, isKind_end, set_end, fMt_e, sFor_e, iSeq_e, still_l, still_t, still_s, iRng_e, enmA_l, enmA_t, zppA_l, zppA_t, forD_nil, sWh_e, sized_ok, lc_e, gn_e, fSl_e, fNo_e, fSo_e, oSl_l, oSl_t, iSeqL_e, stillG_l, stillG_t, stillG_end, List.map_cons, List.map_nil, List.length_cons, List.length_nil, List.replicate, List.cons_append, List.nil_append, List.set_cons_zero, List.set_cons_succ, decide_eq_true_eq, Bool.not_eq_true, Bool.not_true, Bool.not_false, if_true, if_false, ite_self, Bool.false_eq_true, reduceIte, Nat.reduceAdd, Nat.reduceSub, Nat.reduceLeDiff, Nat.sub_zero, Nat.zero_add, List.append_nil, Bool.not_eq_eq_eq_not, decide_not, Bool.decide_eq_true, wipeD, hx.1, h1, decide_true, true_and]⟩
  have e2 : (cs.any fun x => !decide (0 ≤ x ∧ x ≤ 15)) = false := by
    rw [List.any_eq_false]
    intro x hx
    have := h x hx
    simp; omega
  rw [e2] at e
  have h3 : ¬ ((2000 : Int) < (cs.length : Int)) := by omega
  simp (disch := first | omega | (simp; done) | (simp; omega) | fail) only [Res.bind_ok, Res.bind_err, Res.bind_stuck, Res.toS_ok, Res.toS_err, fVar_z, fVar_s, fVar_s', fC_e, fBin_e, fNil_e, fCons_e, fCall_e, fCall0_e, fBi_e, fTup_e, mkTup_ok, fLst_e, mkLst_ok, mkLst_nil, fMut_e, mkMut_ok, fIf_e, fB_bin, fTru_e, tru_bl, tru_int, fNot_e, fAnd_e, fOr_e, fCh_e, fNeg_e, fNotV_e, sNil_e, sSeq_e, seq_nx', seq_rt', seq_err', seq_ct', seq_bk', sIf_e, sErr_e, sEx_e, sRt_e, sCt_e, sBk_e, sAsg_e, gNm_e, sPar_e, sPar3_e, gTp_tup, gsNil_e, gsCons_nm, sAug_z, ite_ok, ite_nx, ite_rt, ite_int, ite_bl, ite_str, ite_tup, ite_lst, ite_cons, ite_some, oAdd_i, oSub_i, oAddI_i, oSubI_i, oLt_i, oLe_i, oGt_i, oGe_i, oEq_i, oNe_i, oIs_non, oIsNot_non, bAbs_i, bMinA_i, bMaxA_i, bInt_i, bInt_b, bLen_t, bLen_l, bList_l, bList_t, bTuple_l, bTuple_t, lstOf_end, bTuple_end, isKind_end, set_end, fMt_e, sFor_e, iSeq_e, still_l, still_t, still_s, iRng_e, enmA_l, enmA_t, zppA_l, zppA_t, forD_nil, sWh_e, sized_ok, lc_e, gn_e, fSl_e, fNo_e, fSo_e, oSl_l, oSl_t, iSeqL_e, stillG_l, stillG_t, stillG_end, List.map_cons, List.map_nil, List.length_cons, List.length_nil, List.replicate, List.cons_append, List.nil_append, List.set_cons_zero, List.set_cons_succ, decide_eq_true_eq, Bool.not_eq_true, Bool.not_true, Bool.not_false, if_true, if_false, ite_self, Bool.false_eq_true, reduceIte, Nat.reduceAdd, Nat.reduceSub, Nat.reduceLeDiff, Nat.sub_zero, Nat.zero_add, List.append_nil, Bool.not_eq_eq_eq_not, decide_not, Bool.decide_eq_true, B_unfollowed, il, List.length_map, h3, decide_false, e, hl']
end K05
end
section
set_option Elab.async false
set_option linter.all false
set_option maxRecDepth 100000
set_option maxHeartbeats 4000000
namespace K05
open PySem Dl
/-! ### shares -/
theorem share_loop (g : G) (x y z : Option D) : ∀ (n : Nat) (l r : Int), 0 ≤ l → 0 ≤ r → r.natAbs + 2 ≤ n →
    whileD C_share_0 W_share_0 n [x, y, some (.int l), some (.int r), z] g = .nx [x, y, some (.int (Int.gcd l r : Int)), some (.int 0), z] g := by
  intro n
  induction n with
  | zero => intro l r _ _ h; omega
  | succ n ih =>
    intro l r hl hr hn
    have ht : C_share_0 [x, y, some (.int l), some (.int r), z] g = .ok (!(r == 0)) g := rfl
    by_cases e : r = 0
    · subst e
      rw [whileD_stop (g1 := g) (by rw [ht]; rfl)]
      simp [Int.natAbs_of_nonneg hl]
    · have e2 : (!(r == 0)) = true := by simpa using e
      have hp : 0 < r := by omega
      have h1 := Int.emod_nonneg l (show r ≠ 0 by omega)
      have h2 := Int.emod_lt_of_pos l hp
      rw [whileD_turn (g1 := g) (ρ2 := [x, y, some (.int r), some (.int (l % r)), z]) (g2 := g) (by rw [ht, e2]) (by simp (disch := omega) only [Res.bind_ok, Res.bind_err, Res.bind_stuck, Res.toS_ok, Res.toS_err, fVar_z, fVar_s, fVar_s', fC_e, fBin_e, fNil_e, fCons_e, fCall_e, fCall0_e, fBi_e, fTup_e, mkTup_ok, fLst_e, mkLst_ok, mkLst_nil, fMut_e, mkMut_ok, fIf_e, fB_bin, fTru_e, tru_bl, tru_int, fNot_e, fAnd_e, fOr_e, fCh_e, fNeg_e, fNotV_e, sNil_e, sSeq_e, seq_nx', seq_rt', seq_err', seq_ct', seq_bk', sIf_e, sErr_e, sEx_e, sRt_e, sCt_e, sBk_e, sAsg_e, gNm_e, sPar_e, sPar3_e, gTp_tup, gsNil_e, gsCons_nm, sAug_z, ite_ok, ite_nx, ite_rt, ite_int, ite_bl, ite_str, ite_tup, ite_lst, ite_cons, ite_some, oAdd_i, oSub_i, oAddI_i, oSubI_i, oLt_i, oLe_i, oGt_i, oGe_i, oEq_i, oNe_i, oIs_non, oIsNot_non, bAbs_i, bMinA_i, bMaxA_i, bInt_i, bInt_b, bLen_t, bLen_l, bList_l, bList_t, bTuple_l, bTuple_t, lstOf_end, bTuple_end, isKind_end, set_end, fMt_e, sFor_e, iSeq_e, still_l, still_t, still_s, iRng_e, enmA_l, enmA_t, zppA_l, zppA_t, forD_nil, sWh_e, sized_ok, lc_e, gn_e, fSl_e, fNo_e, fSo_e, oSl_l, oSl_t, iSeqL_e, stillG_l, stillG_t, stillG_end, List.map_cons, List.map_nil, List.length_cons, List.length_nil, List.replicate, List.cons_append, List.nil_append, List.set_cons_zero, List.set_cons_succ, decide_eq_true_eq, Bool.not_eq_true, Bool.not_true, Bool.not_false, if_true, if_false, ite_self, Bool.false_eq_true, reduceIte, Nat.reduceAdd, Nat.reduceSub, Nat.reduceLeDiff, Nat.sub_zero, Nat.zero_add, List.append_nil, Bool.not_eq_eq_eq_not, decide_not, Bool.decide_eq_true, W_share_0, oMod_p]), ih r (l % r) hr h1 (by omega), gcd_step l r hl hp]
theorem share_spec (a b : Int) (g : G) (h : b ≠ 0) (hb : b.natAbs < 1073741824) : F_share [.int a, .int b] g = .ok (.tup [.int (nrm a b).1, .int (nrm a b).2]) g := by
  refine run_rt ?_
  have e0 : (b == 0) = false := by simpa using h
  have hd := gcd_pos (a := a) h
  have hle := gcd_le (a := a) h
  have hl := share_loop g (some (.int a)) (some (.int b)) none (b.natAbs + 2) (a.natAbs : Int) (b.natAbs : Int) (by omega) (by omega) (by omega)
  rw [gcd_abs] at hl
  have ht : turnsOf 3 [some (.int a), some (.int b), some (.int (a.natAbs : Int)), some (.int (b.natAbs : Int)), none] g = b.natAbs + 2 := rfl
  have hs : (if 0 < b then (1 : Int) else 0 - 1) = sg b := by unfold sg; split <;> rfl
  have hsg : -18446744073709551616 < sg b ∧ sg b < 18446744073709551616 := by rcases sg_cases b with e | e <;> omega
  simp (disch := first | omega | (simp; done) | (simp; omega) | fail) only [Res.bind_ok, Res.bind_err, Res.bind_stuck, Res.toS_ok, Res.toS_err, fVar_z, fVar_s, fVar_s', fC_e, fBin_e, fNil_e, fCons_e, fCall_e, fCall0_e, fBi_e, fTup_e, mkTup_ok, fLst_e, mkLst_ok, mkLst_nil, fMut_e, mkMut_ok, fIf_e, fB_bin, fTru_e, tru_bl, tru_int, fNot_e, fAnd_e, fOr_e, fCh_e, fNeg_e, fNotV_e, sNil_e, sSeq_e, seq_nx', seq_rt', seq_err', seq_ct', seq_bk', sIf_e, sErr_e, sEx_e, sRt_e, sCt_e, sBk_e, sAsg_e, gNm_e, sPar_e, sPar3_e, gTp_tup, gsNil_e, gsCons_nm, sAug_z, ite_ok, ite_nx, ite_rt, ite_int, ite_bl, ite_str, ite_tup, ite_lst, ite_cons, ite_some, oAdd_i, oSub_i, oAddI_i, oSubI_i, oLt_i, oLe_i, oGt_i, oGe_i, oEq_i, oNe_i, oIs_non, oIsNot_non, bAbs_i, bMinA_i, bMaxA_i, bInt_i, bInt_b, bLen_t, bLen_l, bList_l, bList_t, bTuple_l, bTuple_t, lstOf_end, bTuple_end, isKind_end, set_end, fMt_e, sFor_e, iSeq_e, still_l, still_t, still_s, iRng_e, enmA_l, enmA_t, zppA_l, zppA_t, forD_nil, sWh_e, sized_ok, lc_e, gn_e, fSl_e, fNo_e, fSo_e, oSl_l, oSl_t, iSeqL_e, stillG_l, stillG_t, stillG_end, List.map_cons, List.map_nil, List.length_cons, List.length_nil, List.replicate, List.cons_append, List.nil_append, List.set_cons_zero, List.set_cons_succ, decide_eq_true_eq, Bool.not_eq_true, Bool.not_true, Bool.not_false, if_true, if_false, ite_self, Bool.false_eq_true, reduceIte, Nat.reduceAdd, Nat.reduceSub, Nat.reduceLeDiff, Nat.sub_zero, Nat.zero_add, List.append_nil, Bool.not_eq_eq_eq_not, decide_not, Bool.decide_eq_true, B_share, e0, ht, hl, hs, oMul_l, oDiv_p, nrm]
theorem gcd_turn (n : Nat) (a b : Int) (g : G) (hb : 0 ≤ b) : F__law_gcd (n + 1) [.int a, .int b] g = if b = 0 then .ok (.int a) g else F__law_gcd n [.int b, .int (a % b)] g := by
  show runB 2 (B__law_gcd (F__law_gcd n)) [.int a, .int b] g = _
  unfold runB
  by_cases e : b = 0
  · subst e; rfl
  · have e0 : (b == 0) = false := by simpa using e
    simp (disch := first | omega | (simp; done) | (simp; omega) | fail) only [Res.bind_ok, Res.bind_err, Res.bind_stuck, Res.toS_ok, Res.toS_err, fVar_z, fVar_s, fVar_s', fC_e, fBin_e, fNil_e, fCons_e, fCall_e, fCall0_e, fBi_e, fTup_e, mkTup_ok, fLst_e, mkLst_ok, mkLst_nil, fMut_e, mkMut_ok, fIf_e, fB_bin, fTru_e, tru_bl, tru_int, fNot_e, fAnd_e, fOr_e, fCh_e, fNeg_e, fNotV_e, sNil_e, sSeq_e, seq_nx', seq_rt', seq_err', seq_ct', seq_bk', sIf_e, sErr_e, sEx_e, sRt_e, sCt_e, sBk_e, sAsg_e, gNm_e, sPar_e, sPar3_e, gTp_tup, gsNil_e, gsCons_nm, sAug_z, ite_ok, ite_nx, ite_rt, ite_int, ite_bl, ite_str, ite_tup, ite_lst, ite_cons, ite_some, oAdd_i, oSub_i, oAddI_i, oSubI_i, oLt_i, oLe_i, oGt_i, oGe_i, oEq_i, oNe_i, oIs_non, oIsNot_non, bAbs_i, bMinA_i, bMaxA_i, bInt_i, bInt_b, bLen_t, bLen_l, bList_l, bList_t, bTuple_l, bTuple_t, lstOf_end, bTuple_end, isKind_end, set_end, fMt_e, sFor_e, iSeq_e, still_l, still_t, still_s, iRng_e, enmA_l, enmA_t, zppA_l, zppA_t, forD_nil, sWh_e, sized_ok, lc_e, gn_e, fSl_e, fNo_e, fSo_e, oSl_l, oSl_t, iSeqL_e, stillG_l, stillG_t, stillG_end, List.map_cons, List.map_nil, List.length_cons, List.length_nil, List.replicate, List.cons_append, List.nil_append, List.set_cons_zero, List.set_cons_succ, decide_eq_true_eq, Bool.not_eq_true, Bool.not_true, Bool.not_false, if_true, if_false, ite_self, Bool.false_eq_true, reduceIte, Nat.reduceAdd, Nat.reduceSub, Nat.reduceLeDiff, Nat.sub_zero, Nat.zero_add, List.append_nil, Bool.not_eq_eq_eq_not, decide_not, Bool.decide_eq_true, B__law_gcd, e0, oMod_p, e]
    cases F__law_gcd n [.int b, .int (a % b)] g <;> rfl
theorem law_gcd_spec : ∀ (m n : Nat) (a b : Int) (g : G), 2 * m + 1 ≤ n → 0 ≤ a → 0 ≤ b → b < 2 ^ m → F__law_gcd n [.int a, .int b] g = .ok (.int (Int.gcd a b : Int)) g := by
  intro m
  induction m with
  | zero =>
    intro n a b g hn ha hb hlt
    obtain ⟨n, rfl⟩ : ∃ k, n = k + 1 := ⟨n - 1, by omega⟩
    have e : b = 0 := by simp at hlt; omega
    subst e
    rw [gcd_turn n a 0 g (by omega), if_pos rfl]
    simp [Int.natAbs_of_nonneg ha]
  | succ m ih =>
    intro n a b g hn ha hb hlt
    obtain ⟨n, rfl⟩ : ∃ k, n = k + 2 := ⟨n - 2, by omega⟩
    rw [gcd_turn (n + 1) a b g hb]
    by_cases e : b = 0
    · subst e; rw [if_pos rfl]; simp [Int.natAbs_of_nonneg ha]
    · rw [if_neg e]
      have h1 := Int.emod_nonneg a (show b ≠ 0 from e)
      have h2 := Int.emod_lt_of_pos a (show 0 < b by omega)
      have hg := gcd_step a b ha (by omega)
      rw [gcd_turn n b (a % b) g h1]
      by_cases e2 : a % b = 0
      · rw [if_pos e2, ← hg, e2]
        simp [Int.natAbs_of_nonneg hb]
      · rw [if_neg e2]
        have h3 := Int.emod_nonneg b (show a % b ≠ 0 from e2)
        have h4 := Int.emod_lt_of_pos b (show 0 < a % b by omega)
        have h5 : b % (a % b) ≤ b - a % b := by
          have q := Int.mul_ediv_add_emod b (a % b)
          have q2 : 1 ≤ b / (a % b) := Int.le_ediv_of_mul_le (by omega) (by omega)
          have q3 : (a % b) * 1 ≤ (a % b) * (b / (a % b)) := Int.mul_le_mul_of_nonneg_left q2 h1
          omega
        have h6 : b % (a % b) < 2 ^ m := by
          have : (2 : Int) ^ (m + 1) = 2 ^ m * 2 := Int.pow_succ ..
          omega
        rw [ih n (a % b) (b % (a % b)) g (by omega) h1 h3 h6, gcd_step b (a % b) hb (by omega), hg]
theorem law_share_spec (a b : Int) (g : G) (h : b ≠ 0) (hb : b.natAbs < 536870912) : F__law_share [.int a, .int b] g = .ok (.tup [.int (nrm a b).1, .int (nrm a b).2]) g := by
  refine run_rt ?_
  have hd := gcd_pos (a := a) h
  have hle := gcd_le (a := a) h
  have hs : (if b < 0 then (-1 : Int) else 1) = sg b := by unfold sg; (repeat' split) <;> omega
  have hsg : -18446744073709551616 < sg b ∧ sg b < 18446744073709551616 := by rcases sg_cases b with e | e <;> omega
  have hg := law_gcd_spec 29 60 (a.natAbs : Int) (b.natAbs : Int) g (by omega) (by omega) (by omega) (by omega)
  rw [gcd_abs] at hg
  simp (disch := first | omega | (simp; done) | (simp; omega) | fail) only [Res.bind_ok, Res.bind_err, Res.bind_stuck, Res.toS_ok, Res.toS_err, fVar_z, fVar_s, fVar_s', fC_e, fBin_e, fNil_e, fCons_e, fCall_e, fCall0_e, fBi_e, fTup_e, mkTup_ok, fLst_e, mkLst_ok, mkLst_nil, fMut_e, mkMut_ok, fIf_e, fB_bin, fTru_e, tru_bl, tru_int, fNot_e, fAnd_e, fOr_e, fCh_e, fNeg_e, fNotV_e, sNil_e, sSeq_e, seq_nx', seq_rt', seq_err', seq_ct', seq_bk', sIf_e, sErr_e, sEx_e, sRt_e, sCt_e, sBk_e, sAsg_e, gNm_e, sPar_e, sPar3_e, gTp_tup, gsNil_e, gsCons_nm, sAug_z, ite_ok, ite_nx, ite_rt, ite_int, ite_bl, ite_str, ite_tup, ite_lst, ite_cons, ite_some, oAdd_i, oSub_i, oAddI_i, oSubI_i, oLt_i, oLe_i, oGt_i, oGe_i, oEq_i, oNe_i, oIs_non, oIsNot_non, bAbs_i, bMinA_i, bMaxA_i, bInt_i, bInt_b, bLen_t, bLen_l, bList_l, bList_t, bTuple_l, bTuple_t, lstOf_end, bTuple_end, isKind_end, set_end, fMt_e, sFor_e, iSeq_e, still_l, still_t, still_s, iRng_e, enmA_l, enmA_t, zppA_l, zppA_t, forD_nil, sWh_e, sized_ok, lc_e, gn_e, fSl_e, fNo_e, fSo_e, oSl_l, oSl_t, iSeqL_e, stillG_l, stillG_t, stillG_end, List.map_cons, List.map_nil, List.length_cons, List.length_nil, List.replicate, List.cons_append, List.nil_append, List.set_cons_zero, List.set_cons_succ, decide_eq_true_eq, Bool.not_eq_true, Bool.not_true, Bool.not_false, if_true, if_false, ite_self, Bool.false_eq_true, reduceIte, Nat.reduceAdd, Nat.reduceSub, Nat.reduceLeDiff, Nat.sub_zero, Nat.zero_add, List.append_nil, Bool.not_eq_eq_eq_not, decide_not, Bool.decide_eq_true, B__law_share, hs, hg, oMul_l, oDiv_p, nrm]
/-! ### how loud -/
theorem sq_sum (ns : List Int) (g : G) (h : Ok ns) (ρ : Env') (vs : List Nat) (hv : ∀ x ∈ ns, ∃ ρ1, gNm 1 (.int x) (wipeD ρ vs) g = .ok ρ1 g ∧ fVar 1 ρ1 g = .ok (.int x) g) : gnD stpI kSum vs (gNm 1) fYes (fBin oMul (fVar 1) (fVar 1)) ρ [] (ns.map .int) g = .ok (.int (ns.map fun x => x * x).sum) g := by
  have := gnD_sum (g := g) (ρ := ρ) (vs := vs) (fg := gNm 1) (fe := fBin oMul (fVar 1) (fVar 1)) (enc := D.int) (v := fun x => x * x) ns [] fun x hx => by
    obtain ⟨ρ1, h1, h2⟩ := hv x hx
    have := h.1 x hx
    exact ⟨ρ1, h1, by simp (disch := omega) only [fBin_e, h2, Res.bind_ok, oMul_l]⟩
  simpa using this
theorem loudness_spec (ns : List Int) (g : G) (h : Ok ns) (hn : ns ≠ []) : F_loudness [il ns] g = .ok (.tup [.int (nrm (ns.map fun x => x * x).sum ns.length).1, .int (nrm (ns.map fun x => x * x).sum ns.length).2]) g := by
  refine run_rt ?_
  have hc := check_l h g
  have hl : 0 < ns.length := List.length_pos_iff.mpr hn
  have h2 := h.2
  have e0 : ((ns.length : Int) == 0) = false := by simp; exact hn
  have hs := sq_sum ns g h [some (il ns), none] [1] fun x _ => ⟨_, rfl, rfl⟩
  have hsh := share_spec (ns.map fun x => x * x).sum ns.length g (by omega) (by omega)
  simp (disch := first | omega | (simp; done) | (simp; omega) | fail) only [Res.bind_ok, Res.bind_err, Res.bind_stuck, Res.toS_ok, Res.toS_err, fVar_z, fVar_s, fVar_s', fC_e, fBin_e, fNil_e, fCons_e, fCall_e, fCall0_e, fBi_e, fTup_e, mkTup_ok, fLst_e, mkLst_ok, mkLst_nil, fMut_e, mkMut_ok, fIf_e, fB_bin, fTru_e, tru_bl, tru_int, fNot_e, fAnd_e, fOr_e, fCh_e, fNeg_e, fNotV_e, sNil_e, sSeq_e, seq_nx', seq_rt', seq_err', seq_ct', seq_bk', sIf_e, sErr_e, sEx_e, sRt_e, sCt_e, sBk_e, sAsg_e, gNm_e, sPar_e, sPar3_e, gTp_tup, gsNil_e, gsCons_nm, sAug_z, ite_ok, ite_nx, ite_rt, ite_int, ite_bl, ite_str, ite_tup, ite_lst, ite_cons, ite_some, oAdd_i, oSub_i, oAddI_i, oSubI_i, oLt_i, oLe_i, oGt_i, oGe_i, oEq_i, oNe_i, oIs_non, oIsNot_non, bAbs_i, bMinA_i, bMaxA_i, bInt_i, bInt_b, bLen_t, bLen_l, bList_l, bList_t, bTuple_l, bTuple_t, lstOf_end, bTuple_end, isKind_end, set_end, fMt_e, sFor_e, iSeq_e, still_l, still_t, still_s, iRng_e, enmA_l, enmA_t, zppA_l, zppA_t, forD_nil, sWh_e, sized_ok, lc_e, gn_e, fSl_e, fNo_e, fSo_e, oSl_l, oSl_t, iSeqL_e, stillG_l, stillG_t, stillG_end, List.map_cons, List.map_nil, List.length_cons, List.length_nil, List.replicate, List.cons_append, List.nil_append, List.set_cons_zero, List.set_cons_succ, decide_eq_true_eq, Bool.not_eq_true, Bool.not_true, Bool.not_false, if_true, if_false, ite_self, Bool.false_eq_true, reduceIte, Nat.reduceAdd, Nat.reduceSub, Nat.reduceLeDiff, Nat.sub_zero, Nat.zero_add, List.append_nil, Bool.not_eq_eq_eq_not, decide_not, Bool.decide_eq_true, B_loudness, il, hc, List.length_map, e0, hs, hsh]
/-! ### echoes -/
def clip (x : Int) : Int := max (-8031) (min 8031 x)
def ech (one under x : Int) : Int := (x.natAbs : Int) * one / under * if x < 0 then -1 else 1
def past (far : Nat) (l : List Int) (k : Nat) : Int := if far ≤ k then l.getD (k - far) 0 else 0
def wecho (far : Nat) (one under : Int) (ns : List Int) : List Int := mapFrom (fun k x => clip (x + ech one under (past far ns k))) 0 ns
def uecho (far : Nat) (one under : Int) : List Int → List Int → List Int
  | acc, [] => acc
  | acc, x :: r => uecho far one under (acc ++ [clip (x - ech one under (past far acc acc.length))]) r
theorem clip_rng (x : Int) : -8031 ≤ clip x ∧ clip x ≤ 8031 := by unfold clip; omega
theorem ech_zero (one under : Int) : ech one under 0 = 0 := by simp [ech]
structure Prm (far : Nat) (one under : Int) : Prop where
  f : 1 ≤ far ∧ far ≤ 1000
  o : 0 ≤ one ∧ one ≤ under
  u : 1 ≤ under ∧ under ≤ 1000
theorem past_rng {far : Nat} {l : List Int} {k : Nat} (h : ∀ x ∈ l, -8031 ≤ x ∧ x ≤ 8031) : -8031 ≤ past far l k ∧ past far l k ≤ 8031 := by
  unfold past
  split
  · rw [List.getD_eq_getElem?_getD]
    cases e : l[k - far]? with
    | none => decide
    | some x => exact h x (List.mem_of_getElem? e)
  · decide
theorem ech_le {far : Nat} {one under : Int} (p : Prm far one under) (x : Int) : -(x.natAbs : Int) ≤ ech one under x ∧ ech one under x ≤ (x.natAbs : Int) := by
  have h1 : (x.natAbs : Int) * one ≤ (x.natAbs : Int) * under := Int.mul_le_mul_of_nonneg_left p.o.2 (by omega)
  have h2 : 0 ≤ (x.natAbs : Int) * one := Int.mul_nonneg (by omega) p.o.1
  have h3 : (x.natAbs : Int) * one / under ≤ (x.natAbs : Int) := by
    have := Int.ediv_le_ediv (show 0 < under by have := p.u; omega) h1
    rwa [Int.mul_ediv_cancel _ (by have := p.u; omega)] at this
  have h4 : 0 ≤ (x.natAbs : Int) * one / under := Int.ediv_nonneg h2 (by have := p.u; omega)
  unfold ech
  split <;> omega
theorem law_echo_spec {far : Nat} {one under : Int} (p : Prm far one under) (x : Int) (g : G) (hx : -8031 ≤ x ∧ x ≤ 8031) : F__law_echo [.int x, .int one, .int under] g = .ok (.int (ech one under x)) g := by
  refine run_rt ?_
  have hp := p.u
  have ho := p.o
  have hs : -18446744073709551616 < (if x < 0 then (-1 : Int) else 1) ∧ (if x < 0 then (-1 : Int) else 1) < 18446744073709551616 := by split <;> omega
  have m1 : oMul (.int (x.natAbs : Int)) (.int one) g = .ok (.int ((x.natAbs : Int) * one)) g := oMul_l (by omega)
  have m2 : ∀ y, oMul (.int y) (.int (if x < 0 then (-1 : Int) else 1)) g = .ok (.int (y * if x < 0 then (-1 : Int) else 1)) g := fun y => oMul_r hs
  have m3 : ∀ y, oDiv (.int y) (.int under) g = .ok (.int (y / under)) g := fun y => oDiv_p (by omega)
  simp only [Res.bind_ok, Res.bind_err, Res.bind_stuck, Res.toS_ok, Res.toS_err, fVar_z, fVar_s, fVar_s', fC_e, fBin_e, fNil_e, fCons_e, fCall_e, fCall0_e, fBi_e, fTup_e, mkTup_ok, fLst_e, mkLst_ok, mkLst_nil, fMut_e, mkMut_ok, fIf_e, fB_bin, fTru_e, tru_bl, tru_int, fNot_e, fAnd_e, fOr_e, fCh_e, fNeg_e, fNotV_e, sNil_e, sSeq_e, seq_nx', seq_rt', seq_err', seq_ct', seq_bk', sIf_e, sErr_e, sEx_e, sRt_e, sCt_e, sBk_e, sAsg_e, gNm_e, sPar_e, sPar3_e, gTp_tup, gsNil_e, gsCons_nm, sAug_z, ite_ok, ite_nx, ite_rt, ite_int, ite_bl, ite_str, ite_tup, ite_lst, ite_cons, ite_some, oAdd_i, oSub_i, oAddI_i, oSubI_i, oLt_i, oLe_i, oGt_i, oGe_i, oEq_i, oNe_i, oIs_non, oIsNot_non, bAbs_i, bMinA_i, bMaxA_i, bInt_i, bInt_b, bLen_t, bLen_l, bList_l, bList_t, bTuple_l, bTuple_t, lstOf_end, bTuple_end, isKind_end, set_end, fMt_e, sFor_e, iSeq_e, still_l, still_t, still_s, iRng_e, enmA_l, enmA_t, zppA_l, zppA_t, forD_nil, sWh_e, sized_ok, lc_e, gn_e, fSl_e, fNo_e, fSo_e, oSl_l, oSl_t, iSeqL_e, stillG_l, stillG_t, stillG_end, List.map_cons, List.map_nil, List.length_cons, List.length_nil, List.replicate, List.cons_append, List.nil_append, List.set_cons_zero, List.set_cons_succ, decide_eq_true_eq, Bool.not_eq_true, Bool.not_true, Bool.not_false, if_true, if_false, ite_self, Bool.false_eq_true, reduceIte, Nat.reduceAdd, Nat.reduceSub, Nat.reduceLeDiff, Nat.sub_zero, Nat.zero_add, List.append_nil, Bool.not_eq_eq_eq_not, decide_not, Bool.decide_eq_true, B__law_echo, m1, m2, m3, ech]
end K05
end
section
set_option Elab.async false
set_option linter.all false
set_option maxRecDepth 100000
set_option maxHeartbeats 4000000
namespace K05
open PySem Dl
/-! ### echoes put and taken off -/
theorem past_ix {far k : Nat} {l : List Int} {xs : List D} (he : xs = l.map .int) (hk : k ≤ l.length) (hf : 1 ≤ far) (g : G) (h : far ≤ k) : oIx (.lst xs) (.int ((k : Int) - far)) g = .ok (.int (past far l k)) g := by
  subst he
  have e : ((k : Int) - far).toNat = k - far := by omega
  have := oIx_il (g := g) (ns := l) (a := (k : Int) - far) (by omega)
  rw [this, e]
  unfold past
  rw [if_pos h]
theorem past_ixt {far k : Nat} {l : List Int} {xs : List D} (he : xs = l.map .int) (hk : k ≤ l.length) (hf : 1 ≤ far) (g : G) (h : far ≤ k) : oIx (.tup xs) (.int ((k : Int) - far)) g = .ok (.int (past far l k)) g := by
  subst he
  have e : ((k : Int) - far).toNat = k - far := by omega
  have := oIx_it (g := g) (ns := l) (a := (k : Int) - far) (by omega)
  rw [this, e]
  unfold past
  rw [if_pos h]
theorem past_zero {far k : Nat} {l : List Int} (h : ¬ far ≤ k) : past far l k = 0 := by unfold past; rw [if_neg h]
/-- the program's own factor is the law's -/
theorem ech_fac (one under x : Int) : (x.natAbs : Int) * one / under * (if 0 ≤ x then (1 : Int) else 0 - 1) = ech one under x := by
  unfold ech
  by_cases h : x < 0
  · rw [if_pos h, if_neg (by omega)]; simp
  · rw [if_neg h, if_pos (by omega)]
theorem sgn_rng (x : Int) : -18446744073709551616 < (if 0 ≤ x then (1 : Int) else 0 - 1) ∧ (if 0 ≤ x then (1 : Int) else 0 - 1) < 18446744073709551616 := by split <;> omega
theorem neg8 (x : Int) : max (0 - 8031) (min 8031 x) = clip x := rfl
theorem neg8' (x : Int) : max (-8031) (min 8031 x) = clip x := rfl
/-- one turn's echo, program -/
theorem pecho {far k : Nat} {one under : Int} (p : Prm far one under) {l : List Int} (hl : ∀ x ∈ l, -8031 ≤ x ∧ x ≤ 8031) (g : G) :
    ((oMul (.int ((past far l k).natAbs : Int)) (.int one) g).bind fun x g1 => (oDiv x (.int under) g1).bind fun x g2 => oMul x (.int (if 0 ≤ past far l k then (1 : Int) else 0 - 1)) g2) = .ok (.int (ech one under (past far l k))) g := by
  have hp := p.u
  have ho := p.o
  have hx := past_rng (far := far) (k := k) hl
  rw [oMul_r (by omega), Res.bind_ok, oDiv_p (by omega), Res.bind_ok, oMul_r (sgn_rng _), ech_fac]
theorem with_loop {far : Nat} {one under : Int} (p : Prm far one under) (ns : List Int) (hns : ∀ x ∈ ns, -8031 ≤ x ∧ x ≤ 8031) (hlen : ns.length ≤ 2000) (d : D) (g0 : G) (hix : ∀ k, far ≤ k → k ≤ ns.length → ∀ g, oIx d (.int ((k : Int) - far)) g = .ok (.int (past far ns k)) g) :
    ∀ (r acc : List Int) (k : Nat) (x5 x6 x7 x8 : Option D), k + r.length = ns.length → acc.length = k →
    ∃ y5 y6 y7 y8, forD (gTp 2 (gsCons (gNm 5) (gsCons (gNm 6) gsNil))) W_with_echo_0 (enumD k (r.map .int)) [some d, some (.int far), some (.int one), some (.int under), some (.loc g0.length), x5, x6, x7, x8] (g0 ++ [O.lst (acc.map .int)]) =
      .nx [some d, some (.int far), some (.int one), some (.int under), some (.loc g0.length), y5, y6, y7, y8] (g0 ++ [O.lst ((acc ++ mapFrom (fun k x => clip (x + ech one under (past far ns k))) k r).map .int)])
  | [], acc, k, x5, x6, x7, x8, _, _ => ⟨_, _, _, _, by rw [mapFrom, List.append_nil]; rfl⟩
  | x :: r, acc, k, x5, x6, x7, x8, hk, ha => by
    simp only [List.length_cons] at hk
    obtain ⟨a, b, c, e, ih⟩ := with_loop p ns hns hlen d g0 hix r (acc ++ [clip (x + ech one under (past far ns k))]) (k + 1) (some (.int k)) (some (.int x)) (some (.int (past far ns k))) (some (.int (ech one under (past far ns k)))) (by omega) (by simp; omega)
    refine ⟨a, b, c, e, ?_⟩
    rw [List.map_cons, enumD, forD_turn (ρ1 := [some d, some (.int far), some (.int one), some (.int under), some (.loc g0.length), some (.int k), some (.int x), x7, x8]) (g1 := g0 ++ [O.lst (acc.map .int)]) (ρ2 := [some d, some (.int far), some (.int one), some (.int under), some (.loc g0.length), some (.int k), some (.int x), some (.int (past far ns k)), some (.int (ech one under (past far ns k)))]) (g2 := g0 ++ [O.lst ((acc ++ [clip (x + ech one under (past far ns k))]).map .int)]) rfl]
    · rw [ih]; simp [mapFrom]
    · have pe := pecho (k := k) p hns (g0 ++ [O.lst (acc.map .int)])
      have h0 : (if (far : Int) ≤ (k : Int) then oIx d (.int ((k : Int) - far)) (g0 ++ [O.lst (acc.map .int)]) else .ok (.int 0) (g0 ++ [O.lst (acc.map .int)])) = .ok (.int (past far ns k)) (g0 ++ [O.lst (acc.map .int)]) := by
        by_cases hf : far ≤ k
        · rw [if_pos (by omega), hix k hf (by omega)]
        · rw [if_neg (by omega), past_zero hf]
      have hp := p.u
      have ho := p.o
      simp (disch := first | exact sgn_rng _ | omega | (simp; done) | (simp; omega)) only [Res.bind_ok, Res.bind_err, Res.bind_stuck, Res.toS_ok, Res.toS_err, fVar_z, fVar_s, fVar_s', fC_e, fBin_e, fNil_e, fCons_e, fCall_e, fCall0_e, fBi_e, fTup_e, mkTup_ok, fLst_e, mkLst_ok, mkLst_nil, fMut_e, mkMut_ok, fIf_e, fB_bin, fTru_e, tru_bl, tru_int, fNot_e, fAnd_e, fOr_e, fCh_e, fNeg_e, fNotV_e, sNil_e, sSeq_e, seq_nx', seq_rt', seq_err', seq_ct', seq_bk', sIf_e, sErr_e, sEx_e, sRt_e, sCt_e, sBk_e, sAsg_e, gNm_e, sPar_e, sPar3_e, gTp_tup, gsNil_e, gsCons_nm, sAug_z, ite_ok, ite_nx, ite_rt, ite_int, ite_bl, ite_str, ite_tup, ite_lst, ite_cons, ite_some, oAdd_i, oSub_i, oAddI_i, oSubI_i, oLt_i, oLe_i, oGt_i, oGe_i, oEq_i, oNe_i, oIs_non, oIsNot_non, bAbs_i, bMinA_i, bMaxA_i, bInt_i, bInt_b, bLen_t, bLen_l, bList_l, bList_t, bTuple_l, bTuple_t, lstOf_end, bTuple_end, isKind_end, set_end, fMt_e, sFor_e, iSeq_e, still_l, still_t, still_s, iRng_e, enmA_l, enmA_t, zppA_l, zppA_t, forD_nil, sWh_e, sized_ok, lc_e, gn_e, fSl_e, fNo_e, fSo_e, oSl_l, oSl_t, iSeqL_e, stillG_l, stillG_t, stillG_end, List.map_cons, List.map_nil, List.length_cons, List.length_nil, List.replicate, List.cons_append, List.nil_append, List.set_cons_zero, List.set_cons_succ, decide_eq_true_eq, Bool.not_eq_true, Bool.not_true, Bool.not_false, if_true, if_false, ite_self, Bool.false_eq_true, reduceIte, Nat.reduceAdd, Nat.reduceSub, Nat.reduceLeDiff, Nat.sub_zero, Nat.zero_add, List.append_nil, Bool.not_eq_eq_eq_not, decide_not, Bool.decide_eq_true, W_with_echo_0, h0, oMul_r, oDiv_p, ech_fac, neg8, mApp_end, List.map_append]
theorem with_gen {far : Nat} {one under : Int} (p : Prm far one under) (ns : List Int) (h : Ok ns) (d : D) (g : G) (hc : F_check_samples [d] g = .ok .non g) (he : enmA [d] = some (enumD 0 (ns.map .int))) (hix : ∀ k, far ≤ k → k ≤ ns.length → ∀ g, oIx d (.int ((k : Int) - far)) g = .ok (.int (past far ns k)) g) :
    F_with_echo [d, .int far, .int one, .int under] g = .ok (it (wecho far one under ns)) (g ++ [O.lst ((wecho far one under ns).map .int)]) := by
  refine run_rt ?_
  obtain ⟨a, b, c, e, hl⟩ := with_loop p ns h.1 h.2 d g hix ns [] 0 none none none none (by simp) rfl
  have hl' : forD (gTp 2 (gsCons (gNm 5) (gsCons (gNm 6) gsNil))) W_with_echo_0 (enumD 0 (ns.map .int)) [some d, some (.int far), some (.int one), some (.int under), some (.loc g.length), none, none, none, none] (g ++ [O.lst []]) = .nx [some d, some (.int far), some (.int one), some (.int under), some (.loc g.length), a, b, c, e] (g ++ [O.lst ((wecho far one under ns).map .int)]) := hl
  have h1 : ¬ ((far : Int) < 1) := by have := p.f; omega
  have h2 : ¬ (under < 1) := by have := p.u; omega
  have h3 : (0 : Int) ≤ one := p.o.1
  have h4 : one ≤ under := p.o.2
  simp (disch := first | omega | (simp; done) | (simp; omega) | fail) only [Res.bind_ok, Res.bind_err, Res.bind_stuck, Res.toS_ok, Res.toS_err, fVar_z, fVar_s, fVar_s', fC_e, fBin_e, fNil_e, fCons_e, fCall_e, fCall0_e, fBi_e, fTup_e, mkTup_ok, fLst_e, mkLst_ok, mkLst_nil, fMut_e, mkMut_ok, fIf_e, fB_bin, fTru_e, tru_bl, tru_int, fNot_e, fAnd_e, fOr_e, fCh_e, fNeg_e, fNotV_e, sNil_e, sSeq_e, seq_nx', seq_rt', seq_err', seq_ct', seq_bk', sIf_e, sErr_e, sEx_e, sRt_e, sCt_e, sBk_e, sAsg_e, gNm_e, sPar_e, sPar3_e, gTp_tup, gsNil_e, gsCons_nm, sAug_z, ite_ok, ite_nx, ite_rt, ite_int, ite_bl, ite_str, ite_tup, ite_lst, ite_cons, ite_some, oAdd_i, oSub_i, oAddI_i, oSubI_i, oLt_i, oLe_i, oGt_i, oGe_i, oEq_i, oNe_i, oIs_non, oIsNot_non, bAbs_i, bMinA_i, bMaxA_i, bInt_i, bInt_b, bLen_t, bLen_l, bList_l, bList_t, bTuple_l, bTuple_t, lstOf_end, bTuple_end, isKind_end, set_end, fMt_e, sFor_e, iSeq_e, still_l, still_t, still_s, iRng_e, enmA_l, enmA_t, zppA_l, zppA_t, forD_nil, sWh_e, sized_ok, lc_e, gn_e, fSl_e, fNo_e, fSo_e, oSl_l, oSl_t, iSeqL_e, stillG_l, stillG_t, stillG_end, List.map_cons, List.map_nil, List.length_cons, List.length_nil, List.replicate, List.cons_append, List.nil_append, List.set_cons_zero, List.set_cons_succ, decide_eq_true_eq, Bool.not_eq_true, Bool.not_true, Bool.not_false, if_true, if_false, ite_self, Bool.false_eq_true, reduceIte, Nat.reduceAdd, Nat.reduceSub, Nat.reduceLeDiff, Nat.sub_zero, Nat.zero_add, List.append_nil, Bool.not_eq_eq_eq_not, decide_not, Bool.decide_eq_true, B_with_echo, hc, h1, h2, h3, h4, decide_true, decide_false, he, hl']
theorem with_echo_l {far : Nat} {one under : Int} (p : Prm far one under) (ns : List Int) (h : Ok ns) (g : G) : F_with_echo [il ns, .int far, .int one, .int under] g = .ok (it (wecho far one under ns)) (g ++ [O.lst ((wecho far one under ns).map .int)]) :=
  with_gen p ns h _ g (check_l h g) rfl fun k hk hk2 g => past_ix rfl hk2 p.f.1 g hk
theorem with_echo_t {far : Nat} {one under : Int} (p : Prm far one under) (ns : List Int) (h : Ok ns) (g : G) : F_with_echo [it ns, .int far, .int one, .int under] g = .ok (it (wecho far one under ns)) (g ++ [O.lst ((wecho far one under ns).map .int)]) :=
  with_gen p ns h _ g (check_t h g) rfl fun k hk hk2 g => past_ixt rfl hk2 p.f.1 g hk
theorem oIx_end {g : G} {l : List Int} {a : Int} (h : 0 ≤ a ∧ a < l.length) : oIx (.loc g.length) (.int a) (g ++ [O.lst (l.map .int)]) = .ok (.int (l.getD a.toNat 0)) (g ++ [O.lst (l.map .int)]) := by
  show (match seqOf (g ++ [O.lst (l.map .int)]) (.loc g.length) with | some ds => (match L2.atI ds a with | some y => Res.ok y _ | none => .stuck) | none => .stuck) = _
  have : seqOf (g ++ [O.lst (l.map .int)]) (.loc g.length) = some (l.map .int) := lstOf_end
  rw [this]
  show (match L2.atI (l.map D.int) a with | some y => Res.ok y _ | none => .stuck) = _
  rw [atI_n h.1 (getD_at h)]
theorem uecho_rng (far : Nat) (one under : Int) : ∀ (r acc : List Int), (∀ x ∈ acc, -8031 ≤ x ∧ x ≤ 8031) → ∀ x ∈ uecho far one under acc r, -8031 ≤ x ∧ x ≤ 8031
  | [], acc, h => h
  | x :: r, acc, h => uecho_rng far one under r _ fun y hy => by
    rcases List.mem_append.mp hy with z | z
    · exact h y z
    · rw [List.mem_singleton.mp z]; exact clip_rng _
theorem uecho_len (far : Nat) (one under : Int) : ∀ (r acc : List Int), (uecho far one under acc r).length = acc.length + r.length
  | [], acc => by simp [uecho]
  | x :: r, acc => by simp [uecho, uecho_len far one under r]; omega
theorem without_loop {far : Nat} {one under : Int} (p : Prm far one under) (d : D) (g0 : G) :
    ∀ (r acc : List Int) (x5 x6 x7 x8 : Option D), acc.length + r.length ≤ 2000 → (∀ x ∈ acc, -8031 ≤ x ∧ x ≤ 8031) →
    ∃ y5 y6 y7 y8, forD (gTp 2 (gsCons (gNm 5) (gsCons (gNm 6) gsNil))) W_without_echo_0 (enumD acc.length (r.map .int)) [some d, some (.int far), some (.int one), some (.int under), some (.loc g0.length), x5, x6, x7, x8] (g0 ++ [O.lst (acc.map .int)]) =
      .nx [some d, some (.int far), some (.int one), some (.int under), some (.loc g0.length), y5, y6, y7, y8] (g0 ++ [O.lst ((uecho far one under acc r).map .int)])
  | [], acc, x5, x6, x7, x8, _, _ => ⟨_, _, _, _, rfl⟩
  | x :: r, acc, x5, x6, x7, x8, hl, ha => by
    simp only [List.length_cons] at hl
    obtain ⟨a, b, c, e, ih⟩ := without_loop p d g0 r (acc ++ [clip (x - ech one under (past far acc acc.length))]) (some (.int acc.length)) (some (.int x)) (some (.int (past far acc acc.length))) (some (.int (ech one under (past far acc acc.length)))) (by simp; omega) fun y hy => by
      rcases List.mem_append.mp hy with z | z
      · exact ha y z
      · rw [List.mem_singleton.mp z]; exact clip_rng _
    refine ⟨a, b, c, e, ?_⟩
    rw [List.map_cons, enumD, forD_turn (ρ1 := [some d, some (.int far), some (.int one), some (.int under), some (.loc g0.length), some (.int acc.length), some (.int x), x7, x8]) (g1 := g0 ++ [O.lst (acc.map .int)]) (ρ2 := [some d, some (.int far), some (.int one), some (.int under), some (.loc g0.length), some (.int acc.length), some (.int x), some (.int (past far acc acc.length)), some (.int (ech one under (past far acc acc.length)))]) (g2 := g0 ++ [O.lst ((acc ++ [clip (x - ech one under (past far acc acc.length))]).map .int)]) rfl]
    · have : (acc ++ [clip (x - ech one under (past far acc acc.length))]).length = acc.length + 1 := by simp
      rw [this] at ih
      rw [ih]; rfl
    · have h0 : (if (far : Int) ≤ (acc.length : Int) then oIx (.loc g0.length) (.int ((acc.length : Int) - far)) (g0 ++ [O.lst (acc.map .int)]) else .ok (.int 0) (g0 ++ [O.lst (acc.map .int)])) = .ok (.int (past far acc acc.length)) (g0 ++ [O.lst (acc.map .int)]) := by
        have := p.f
        by_cases hf : far ≤ acc.length
        · rw [if_pos (by omega), oIx_end (by omega)]
          have e : ((acc.length : Int) - far).toNat = acc.length - far := by omega
          rw [e]; unfold past; rw [if_pos hf]
        · rw [if_neg (by omega), past_zero hf]
      have hp := p.u
      have ho := p.o
      simp (disch := first | exact sgn_rng _ | omega | (simp; done) | (simp; omega)) only [Res.bind_ok, Res.bind_err, Res.bind_stuck, Res.toS_ok, Res.toS_err, fVar_z, fVar_s, fVar_s', fC_e, fBin_e, fNil_e, fCons_e, fCall_e, fCall0_e, fBi_e, fTup_e, mkTup_ok, fLst_e, mkLst_ok, mkLst_nil, fMut_e, mkMut_ok, fIf_e, fB_bin, fTru_e, tru_bl, tru_int, fNot_e, fAnd_e, fOr_e, fCh_e, fNeg_e, fNotV_e, sNil_e, sSeq_e, seq_nx', seq_rt', seq_err', seq_ct', seq_bk', sIf_e, sErr_e, sEx_e, sRt_e, sCt_e, sBk_e, sAsg_e, gNm_e, sPar_e, sPar3_e, gTp_tup, gsNil_e, gsCons_nm, sAug_z, ite_ok, ite_nx, ite_rt, ite_int, ite_bl, ite_str, ite_tup, ite_lst, ite_cons, ite_some, oAdd_i, oSub_i, oAddI_i, oSubI_i, oLt_i, oLe_i, oGt_i, oGe_i, oEq_i, oNe_i, oIs_non, oIsNot_non, bAbs_i, bMinA_i, bMaxA_i, bInt_i, bInt_b, bLen_t, bLen_l, bList_l, bList_t, bTuple_l, bTuple_t, lstOf_end, bTuple_end, isKind_end, set_end, fMt_e, sFor_e, iSeq_e, still_l, still_t, still_s, iRng_e, enmA_l, enmA_t, zppA_l, zppA_t, forD_nil, sWh_e, sized_ok, lc_e, gn_e, fSl_e, fNo_e, fSo_e, oSl_l, oSl_t, iSeqL_e, stillG_l, stillG_t, stillG_end, List.map_cons, List.map_nil, List.length_cons, List.length_nil, List.replicate, List.cons_append, List.nil_append, List.set_cons_zero, List.set_cons_succ, decide_eq_true_eq, Bool.not_eq_true, Bool.not_true, Bool.not_false, if_true, if_false, ite_self, Bool.false_eq_true, reduceIte, Nat.reduceAdd, Nat.reduceSub, Nat.reduceLeDiff, Nat.sub_zero, Nat.zero_add, List.append_nil, Bool.not_eq_eq_eq_not, decide_not, Bool.decide_eq_true, W_without_echo_0, h0, oMul_r, oDiv_p, ech_fac, neg8, mApp_end, List.map_append]
theorem without_gen {far : Nat} {one under : Int} (p : Prm far one under) (ns : List Int) (h : Ok ns) (d : D) (g : G) (hw : F_with_echo [d, .int far, .int one, .int under] g = .ok (it (wecho far one under ns)) (g ++ [O.lst ((wecho far one under ns).map .int)])) (he : enmA [d] = some (enumD 0 (ns.map .int))) :
    ∃ g2, F_without_echo [d, .int far, .int one, .int under] g = .ok (it (uecho far one under [] ns)) (g ++ g2) := by
  refine ⟨_, run_rt (g1 := (g ++ [O.lst ((wecho far one under ns).map .int)]) ++ [O.lst ((uecho far one under [] ns).map .int)]) ?_ |>.trans (by rw [List.append_assoc])⟩
  obtain ⟨a, b, c, e, hl⟩ := without_loop p d (g ++ [O.lst ((wecho far one under ns).map .int)]) ns [] none none none none (by simpa using h.2) (by simp)
  have hl' : forD (gTp 2 (gsCons (gNm 5) (gsCons (gNm 6) gsNil))) W_without_echo_0 (enumD 0 (ns.map .int)) [some d, some (.int far), some (.int one), some (.int under), some (.loc (g ++ [O.lst ((wecho far one under ns).map .int)]).length), none, none, none, none] ((g ++ [O.lst ((wecho far one under ns).map .int)]) ++ [O.lst []]) = .nx [some d, some (.int far), some (.int one), some (.int under), some (.loc (g ++ [O.lst ((wecho far one under ns).map .int)]).length), a, b, c, e] ((g ++ [O.lst ((wecho far one under ns).map .int)]) ++ [O.lst ((uecho far one under [] ns).map .int)]) := hl
  simp (disch := first | omega | (simp; done) | (simp; omega) | fail) only [Res.bind_ok, Res.bind_err, Res.bind_stuck, Res.toS_ok, Res.toS_err, fVar_z, fVar_s, fVar_s', fC_e, fBin_e, fNil_e, fCons_e, fCall_e, fCall0_e, fBi_e, fTup_e, mkTup_ok, fLst_e, mkLst_ok, mkLst_nil, fMut_e, mkMut_ok, fIf_e, fB_bin, fTru_e, tru_bl, tru_int, fNot_e, fAnd_e, fOr_e, fCh_e, fNeg_e, fNotV_e, sNil_e, sSeq_e, seq_nx', seq_rt', seq_err', seq_ct', seq_bk', sIf_e, sErr_e, sEx_e, sRt_e, sCt_e, sBk_e, sAsg_e, gNm_e, sPar_e, sPar3_e, gTp_tup, gsNil_e, gsCons_nm, sAug_z, ite_ok, ite_nx, ite_rt, ite_int, ite_bl, ite_str, ite_tup, ite_lst, ite_cons, ite_some, oAdd_i, oSub_i, oAddI_i, oSubI_i, oLt_i, oLe_i, oGt_i, oGe_i, oEq_i, oNe_i, oIs_non, oIsNot_non, bAbs_i, bMinA_i, bMaxA_i, bInt_i, bInt_b, bLen_t, bLen_l, bList_l, bList_t, bTuple_l, bTuple_t, lstOf_end, bTuple_end, isKind_end, set_end, fMt_e, sFor_e, iSeq_e, still_l, still_t, still_s, iRng_e, enmA_l, enmA_t, zppA_l, zppA_t, forD_nil, sWh_e, sized_ok, lc_e, gn_e, fSl_e, fNo_e, fSo_e, oSl_l, oSl_t, iSeqL_e, stillG_l, stillG_t, stillG_end, List.map_cons, List.map_nil, List.length_cons, List.length_nil, List.replicate, List.cons_append, List.nil_append, List.set_cons_zero, List.set_cons_succ, decide_eq_true_eq, Bool.not_eq_true, Bool.not_true, Bool.not_false, if_true, if_false, ite_self, Bool.false_eq_true, reduceIte, Nat.reduceAdd, Nat.reduceSub, Nat.reduceLeDiff, Nat.sub_zero, Nat.zero_add, List.append_nil, Bool.not_eq_eq_eq_not, decide_not, Bool.decide_eq_true, B_without_echo, hw, he, hl']
/-- the echo taken off again gives what was there -/
theorem soft_back {far : Nat} {one under : Int} (p : Prm far one under) (all : List Int) (hs : ∀ x ∈ all, -2008 ≤ x ∧ x ≤ 2008) : ∀ (r acc : List Int), acc ++ r = all → uecho far one under acc (mapFrom (fun k x => clip (x + ech one under (past far all k))) acc.length r) = all
  | [], acc, h => by rw [← h]; simp [mapFrom, uecho]
  | x :: r, acc, h => by
    have hp : past far acc acc.length = past far all acc.length := by
      unfold past
      have := p.f
      split
      · rw [← h, List.getD_eq_getElem?_getD, List.getD_eq_getElem?_getD, List.getElem?_append_left (by omega)]
      · rfl
    have hb : -2008 ≤ past far all acc.length ∧ past far all acc.length ≤ 2008 := by
      unfold past
      split
      · rw [List.getD_eq_getElem?_getD]
        cases e : all[acc.length - far]? with
        | none => decide
        | some y => exact hs y (List.mem_of_getElem? e)
      · decide
    have he := ech_le p (past far all acc.length)
    have hx := hs x (by rw [← h]; simp)
    have e : clip (clip (x + ech one under (past far all acc.length)) - ech one under (past far all acc.length)) = x := by unfold clip; omega
    rw [mapFrom, uecho, hp, e]
    have := soft_back p all hs r (acc ++ [x]) (by rw [List.append_assoc]; exact h)
    simpa using this
end K05
end
section
set_option Elab.async false
set_option linter.all false
set_option maxRecDepth 100000
set_option maxHeartbeats 4000000
namespace K05
open PySem Dl
/-! ### how far the echo is -/
def corr (rows sent : List Int) (k : Nat) : Int := (((rows.drop k).zip sent).map fun p => p.1 * p.2).sum
def bestS (c : Nat → Int) : Option (Int × Nat) → Nat → Option (Int × Nat)
  | none, k => some (c k, k)
  | some (m, f), k => if m < c k then some (c k, k) else some (m, f)
def encB : Option (Int × Nat) → D
  | none => .non
  | some p => .tup [.int p.1, .int p.2]
theorem corr_gen (rows sent : List Int) (k : Nat) (g : G) (hr : ∀ x ∈ rows, -8031 ≤ x ∧ x ≤ 8031) (hl : rows.length ≤ 2000) (ρ : Env') (hρ : ρ.length = 8) :
    gnD stpI kSum [6, 7] (gTp 2 (gsCons (gNm 6) (gsCons (gNm 7) gsNil))) fYes (fBin oMul (fVar 6) (fVar 7)) ρ [] (zipD ((rows.drop k).map .int) (sent.map .int)) g = .ok (.int (corr rows sent k)) g := by
  rw [zipD_map]
  match ρ, hρ with
  | [a0, a1, a2, a3, a4, a5, a6, a7], _ =>
  have := gnD_sum (g := g) (ρ := [a0, a1, a2, a3, a4, a5, a6, a7]) (vs := [6, 7]) (fg := gTp 2 (gsCons (gNm 6) (gsCons (gNm 7) gsNil))) (fe := fBin oMul (fVar 6) (fVar 7)) (enc := fun p : Int × Int => D.tup [.int p.1, .int p.2]) (v := fun p => p.1 * p.2) ((rows.drop k).zip sent) [] fun p hp => by
    have h1 := hr p.1 (List.mem_of_mem_drop (List.of_mem_zip hp).1)
    exact ⟨_, rfl, by simp (disch := omega) only [Res.bind_ok, Res.bind_err, Res.bind_stuck, Res.toS_ok, Res.toS_err, fVar_z, fVar_s, fVar_s', fC_e, fBin_e, fNil_e, fCons_e, fCall_e, fCall0_e, fBi_e, fTup_e, mkTup_ok, fLst_e, mkLst_ok, mkLst_nil, fMut_e, mkMut_ok, fIf_e, fB_bin, fTru_e, tru_bl, tru_int, fNot_e, fAnd_e, fOr_e, fCh_e, fNeg_e, fNotV_e, sNil_e, sSeq_e, seq_nx', seq_rt', seq_err', seq_ct', seq_bk', sIf_e, sErr_e, sEx_e, sRt_e, sCt_e, sBk_e, sAsg_e, gNm_e, sPar_e, sPar3_e, gTp_tup, gsNil_e, gsCons_nm, sAug_z, ite_ok, ite_nx, ite_rt, ite_int, ite_bl, ite_str, ite_tup, ite_lst, ite_cons, ite_some, oAdd_i, oSub_i, oAddI_i, oSubI_i, oLt_i, oLe_i, oGt_i, oGe_i, oEq_i, oNe_i, oIs_non, oIsNot_non, bAbs_i, bMinA_i, bMaxA_i, bInt_i, bInt_b, bLen_t, bLen_l, bList_l, bList_t, bTuple_l, bTuple_t, lstOf_end, bTuple_end, isKind_end, set_end, fMt_e, sFor_e, iSeq_e, still_l, still_t, still_s, iRng_e, enmA_l, enmA_t, zppA_l, zppA_t, forD_nil, sWh_e, sized_ok, lc_e, gn_e, fSl_e, fNo_e, fSo_e, oSl_l, oSl_t, iSeqL_e, stillG_l, stillG_t, stillG_end, List.map_cons, List.map_nil, List.length_cons, List.length_nil, List.replicate, List.cons_append, List.nil_append, List.set_cons_zero, List.set_cons_succ, decide_eq_true_eq, Bool.not_eq_true, Bool.not_true, Bool.not_false, if_true, if_false, ite_self, Bool.false_eq_true, reduceIte, Nat.reduceAdd, Nat.reduceSub, Nat.reduceLeDiff, Nat.sub_zero, Nat.zero_add, List.append_nil, Bool.not_eq_eq_eq_not, decide_not, Bool.decide_eq_true, wipeD, oMul_l]⟩
  simpa [corr] using this
theorem echo_turn (rows sent : List Int) (most : Int) (g : G) (hr : ∀ x ∈ rows, -8031 ≤ x ∧ x ≤ 8031) (hl : rows.length ≤ 2000) (b : Option (Int × Nat)) (k : Nat) (x4 x5 x6 x7 : Option D) :
    W_echo_far_0 [some (il rows), some (il sent), some (.int most), some (encB b), some (.int k), x5, x6, x7] g = .nx [some (il rows), some (il sent), some (.int most), some (encB (bestS (corr rows sent) b k)), some (.int k), some (.int (corr rows sent k)), x6, x7] g := by
  have hcut : cutD (rows.map D.int) (some (k : Int)) none = (rows.drop k).map .int := by rw [cutD_from (by omega), Int.toNat_natCast, List.map_drop]
  have hz : (zipD ((rows.drop k).map D.int) (sent.map .int)).length ≤ 16777216 := by
    have := zipD_len ((rows.drop k).map D.int) (sent.map .int)
    rw [List.length_map, List.length_drop] at this; omega
  cases b with
  | none =>
    have hc := corr_gen rows sent k g hr hl [some (.lst (rows.map .int)), some (.lst (sent.map .int)), some (.int most), some .non, some (.int k), x5, x6, x7] rfl
    simp (disch := first | exact hz | rfl | omega) only [Res.bind_ok, Res.bind_err, Res.bind_stuck, Res.toS_ok, Res.toS_err, fVar_z, fVar_s, fVar_s', fC_e, fBin_e, fNil_e, fCons_e, fCall_e, fCall0_e, fBi_e, fTup_e, mkTup_ok, fLst_e, mkLst_ok, mkLst_nil, fMut_e, mkMut_ok, fIf_e, fB_bin, fTru_e, tru_bl, tru_int, fNot_e, fAnd_e, fOr_e, fCh_e, fNeg_e, fNotV_e, sNil_e, sSeq_e, seq_nx', seq_rt', seq_err', seq_ct', seq_bk', sIf_e, sErr_e, sEx_e, sRt_e, sCt_e, sBk_e, sAsg_e, gNm_e, sPar_e, sPar3_e, gTp_tup, gsNil_e, gsCons_nm, sAug_z, ite_ok, ite_nx, ite_rt, ite_int, ite_bl, ite_str, ite_tup, ite_lst, ite_cons, ite_some, oAdd_i, oSub_i, oAddI_i, oSubI_i, oLt_i, oLe_i, oGt_i, oGe_i, oEq_i, oNe_i, oIs_non, oIsNot_non, bAbs_i, bMinA_i, bMaxA_i, bInt_i, bInt_b, bLen_t, bLen_l, bList_l, bList_t, bTuple_l, bTuple_t, lstOf_end, bTuple_end, isKind_end, set_end, fMt_e, sFor_e, iSeq_e, still_l, still_t, still_s, iRng_e, enmA_l, enmA_t, zppA_l, zppA_t, forD_nil, sWh_e, sized_ok, lc_e, gn_e, fSl_e, fNo_e, fSo_e, oSl_l, oSl_t, iSeqL_e, stillG_l, stillG_t, stillG_end, List.map_cons, List.map_nil, List.length_cons, List.length_nil, List.replicate, List.cons_append, List.nil_append, List.set_cons_zero, List.set_cons_succ, decide_eq_true_eq, Bool.not_eq_true, Bool.not_true, Bool.not_false, if_true, if_false, ite_self, Bool.false_eq_true, reduceIte, Nat.reduceAdd, Nat.reduceSub, Nat.reduceLeDiff, Nat.sub_zero, Nat.zero_add, List.append_nil, Bool.not_eq_eq_eq_not, decide_not, Bool.decide_eq_true, W_echo_far_0, encB, bestS, isNon, hcut, hc, sized_ok hz, il, mkTup_ok (show [D.int (corr rows sent k), D.int (k : Int)].length ≤ 16777216 by simp)]
  | some p =>
    obtain ⟨m, f⟩ := p
    have hc := corr_gen rows sent k g hr hl [some (.lst (rows.map .int)), some (.lst (sent.map .int)), some (.int most), some (.tup [.int m, .int f]), some (.int k), x5, x6, x7] rfl
    have hix : oIx (.tup [.int m, .int (f : Int)]) (.int 0) g = .ok (.int m) g := rfl
    have e : encB (bestS (corr rows sent) (some (m, f)) k) = if m < corr rows sent k then .tup [.int (corr rows sent k), .int k] else .tup [.int m, .int f] := by
      show encB (if m < corr rows sent k then some (corr rows sent k, k) else some (m, f)) = _
      split <;> rfl
    rw [e]
    simp (disch := first | exact hz | rfl | omega) only [Res.bind_ok, Res.bind_err, Res.bind_stuck, Res.toS_ok, Res.toS_err, fVar_z, fVar_s, fVar_s', fC_e, fBin_e, fNil_e, fCons_e, fCall_e, fCall0_e, fBi_e, fTup_e, mkTup_ok, fLst_e, mkLst_ok, mkLst_nil, fMut_e, mkMut_ok, fIf_e, fB_bin, fTru_e, tru_bl, tru_int, fNot_e, fAnd_e, fOr_e, fCh_e, fNeg_e, fNotV_e, sNil_e, sSeq_e, seq_nx', seq_rt', seq_err', seq_ct', seq_bk', sIf_e, sErr_e, sEx_e, sRt_e, sCt_e, sBk_e, sAsg_e, gNm_e, sPar_e, sPar3_e, gTp_tup, gsNil_e, gsCons_nm, sAug_z, ite_ok, ite_nx, ite_rt, ite_int, ite_bl, ite_str, ite_tup, ite_lst, ite_cons, ite_some, oAdd_i, oSub_i, oAddI_i, oSubI_i, oLt_i, oLe_i, oGt_i, oGe_i, oEq_i, oNe_i, oIs_non, oIsNot_non, bAbs_i, bMinA_i, bMaxA_i, bInt_i, bInt_b, bLen_t, bLen_l, bList_l, bList_t, bTuple_l, bTuple_t, lstOf_end, bTuple_end, isKind_end, set_end, fMt_e, sFor_e, iSeq_e, still_l, still_t, still_s, iRng_e, enmA_l, enmA_t, zppA_l, zppA_t, forD_nil, sWh_e, sized_ok, lc_e, gn_e, fSl_e, fNo_e, fSo_e, oSl_l, oSl_t, iSeqL_e, stillG_l, stillG_t, stillG_end, List.map_cons, List.map_nil, List.length_cons, List.length_nil, List.replicate, List.cons_append, List.nil_append, List.set_cons_zero, List.set_cons_succ, decide_eq_true_eq, Bool.not_eq_true, Bool.not_true, Bool.not_false, if_true, if_false, ite_self, Bool.false_eq_true, reduceIte, Nat.reduceAdd, Nat.reduceSub, Nat.reduceLeDiff, Nat.sub_zero, Nat.zero_add, List.append_nil, Bool.not_eq_eq_eq_not, decide_not, Bool.decide_eq_true, W_echo_far_0, encB, isNon, hcut, hc, sized_ok hz, il, hix, mkTup_ok (show [D.int (corr rows sent k), D.int (k : Int)].length ≤ 16777216 by simp)]
theorem echo_loop (rows sent : List Int) (most : Int) (g : G) (hr : ∀ x ∈ rows, -8031 ≤ x ∧ x ≤ 8031) (hl : rows.length ≤ 2000) : ∀ (ks : List Nat) (b : Option (Int × Nat)) (x4 x5 x6 x7 : Option D),
    ∃ y4 y5, forD (gNm 4) W_echo_far_0 (ks.map fun k => .int (k : Nat)) [some (il rows), some (il sent), some (.int most), some (encB b), x4, x5, x6, x7] g = .nx [some (il rows), some (il sent), some (.int most), some (encB (ks.foldl (bestS (corr rows sent)) b)), y4, y5, x6, x7] g
  | [], b, x4, x5, x6, x7 => ⟨_, _, rfl⟩
  | k :: r, b, x4, x5, x6, x7 => by
    obtain ⟨a, c, ih⟩ := echo_loop rows sent most g hr hl r (bestS (corr rows sent) b k) (some (.int k)) (some (.int (corr rows sent k))) x6 x7
    exact ⟨a, c, by rw [List.map_cons, forD_turn (ρ1 := [some (il rows), some (il sent), some (.int most), some (encB b), some (.int k), x5, x6, x7]) rfl (echo_turn rows sent most g hr hl b k x4 x5 x6 x7), ih]; rfl⟩
/-- the places 1 .. most -/
def ups (most : Nat) : List Nat := (List.range most).map (· + 1)
theorem rng_ups (most : Nat) : rangeD 1 most = (ups most).map fun k => .int (k : Nat) := by
  unfold rangeD ups
  rw [List.map_map]
  refine List.map_congr_left fun k _ => ?_
  show D.int (1 + (k : Int)) = .int ((k + 1 : Nat) : Int)
  congr 1; omega
theorem echo_far_spec (rows sent : List Int) (most : Nat) (g : G) (hr : Ok rows) (hs : Ok sent) (hlen : rows.length = sent.length) (hm : 1 ≤ most ∧ most ≤ 50) (m : Int) (f : Nat) (hb : (ups most).foldl (bestS (corr rows sent)) none = some (m, f)) :
    F_echo_far [il rows, il sent, .int most] g = .ok (.int f) g := by
  refine run_rt ?_
  obtain ⟨a, c, hl⟩ := echo_loop rows sent most g hr.1 hr.2 (ups most) none none none none none
  rw [hb] at hl
  have h1 : (1 : Int) ≤ (most : Int) := by omega
  have h2 : (most : Int) ≤ 50 := by omega
  have hrg : rng2 [.int 1, .int ((most : Int) + 1)] = some ((ups most).map fun k => .int (k : Nat)) := by
    rw [rng2_p (by omega) (by omega), ← rng_ups]; congr 1; congr 1; omega
  have hix : oIx (.tup [.int m, .int (f : Int)]) (.int 1) g = .ok (.int f) g := rfl
  have hne : (((sent.length : Int) == (sent.length : Int))) = true := by simp
  have hl' : forD (gNm 4) W_echo_far_0 ((ups most).map fun k => .int (k : Nat)) [some (.lst (rows.map .int)), some (.lst (sent.map .int)), some (.int most), some .non, none, none, none, none] g = .nx [some (il rows), some (il sent), some (.int most), some (encB (some (m, f))), a, c, none, none] g := hl
  simp (disch := first | omega | (simp; done) | (simp; omega) | fail) only [Res.bind_ok, Res.bind_err, Res.bind_stuck, Res.toS_ok, Res.toS_err, fVar_z, fVar_s, fVar_s', fC_e, fBin_e, fNil_e, fCons_e, fCall_e, fCall0_e, fBi_e, fTup_e, mkTup_ok, fLst_e, mkLst_ok, mkLst_nil, fMut_e, mkMut_ok, fIf_e, fB_bin, fTru_e, tru_bl, tru_int, fNot_e, fAnd_e, fOr_e, fCh_e, fNeg_e, fNotV_e, sNil_e, sSeq_e, seq_nx', seq_rt', seq_err', seq_ct', seq_bk', sIf_e, sErr_e, sEx_e, sRt_e, sCt_e, sBk_e, sAsg_e, gNm_e, sPar_e, sPar3_e, gTp_tup, gsNil_e, gsCons_nm, sAug_z, ite_ok, ite_nx, ite_rt, ite_int, ite_bl, ite_str, ite_tup, ite_lst, ite_cons, ite_some, oAdd_i, oSub_i, oAddI_i, oSubI_i, oLt_i, oLe_i, oGt_i, oGe_i, oEq_i, oNe_i, oIs_non, oIsNot_non, bAbs_i, bMinA_i, bMaxA_i, bInt_i, bInt_b, bLen_t, bLen_l, bList_l, bList_t, bTuple_l, bTuple_t, lstOf_end, bTuple_end, isKind_end, set_end, fMt_e, sFor_e, iSeq_e, still_l, still_t, still_s, iRng_e, enmA_l, enmA_t, zppA_l, zppA_t, forD_nil, sWh_e, sized_ok, lc_e, gn_e, fSl_e, fNo_e, fSo_e, oSl_l, oSl_t, iSeqL_e, stillG_l, stillG_t, stillG_end, List.map_cons, List.map_nil, List.length_cons, List.length_nil, List.replicate, List.cons_append, List.nil_append, List.set_cons_zero, List.set_cons_succ, decide_eq_true_eq, Bool.not_eq_true, Bool.not_true, Bool.not_false, if_true, if_false, ite_self, Bool.false_eq_true, reduceIte, Nat.reduceAdd, Nat.reduceSub, Nat.reduceLeDiff, Nat.sub_zero, Nat.zero_add, List.append_nil, Bool.not_eq_eq_eq_not, decide_not, Bool.decide_eq_true, B_echo_far, check_l hr, check_l hs, List.length_map, hlen, hne, h1, h2, decide_true, hrg, hl', encB, hix]
/-- the least of the keys has the same place -/
theorem keys_min (c : Nat → Int) : ∀ (ks : List Nat) (m : Int) (f : Nat), (∀ k ∈ ks, f < k) → ks.Pairwise (· < ·) → ∃ m2 f2, ks.foldl (bestS c) (some (m, f)) = some (m2, f2) ∧ minDD (.tup [.int (-m), .int f]) (ks.map fun k => .tup [.int (-c k), .int (k : Nat)]) = .tup [.int (-m2), .int f2]
  | [], m, f, _, _ => ⟨m, f, rfl, rfl⟩
  | k :: r, m, f, h, hp => by
    have hk := h k List.mem_cons_self
    have hp := List.pairwise_cons.mp hp
    have e : PySem.W.dataLt (encD (.tup [.int (-c k), .int (k : Nat)])) (encD (.tup [.int (-m), .int f])) = decide (m < c k) := by
      show PySem.W.dataLt (.tuple [.int (-c k), .int (k : Nat)]) (.tuple [.int (-m), .int f]) = _
      rw [lt_p2]
      by_cases a : -c k = -m
      · rw [if_pos a, decide_eq_false (by omega), decide_eq_false (by omega)]
      · rw [if_neg a]; exact decide_eq_decide.mpr (by omega)
    have e3 : bestS c (some (m, f)) k = if m < c k then some (c k, k) else some (m, f) := rfl
    have e2 : ∀ (x y : D) (l : List D), minDD x (y :: l) = minDD (if PySem.W.dataLt (encD y) (encD x) = true then y else x) l := fun _ _ _ => rfl
    rw [List.foldl_cons, List.map_cons, e3, e2, e]
    by_cases a : m < c k
    · rw [if_pos a, if_pos (decide_eq_true a)]
      exact keys_min c r (c k) k hp.1 hp.2
    · rw [if_neg a, if_neg (by simpa using a)]
      exact keys_min c r m f (fun j hj => h j (List.mem_cons_of_mem _ hj)) hp.2
theorem ups_pair (n : Nat) : (ups n).Pairwise (· < ·) := by
  unfold ups
  rw [List.pairwise_map]
  exact List.Pairwise.imp (fun h => Nat.succ_lt_succ h) (List.pairwise_lt_range)
/-- keys by value -/
def keysD (c : Nat → Int) (ks : List Nat) : List D := ks.map fun k => .tup [.int (-c k), .int (k : Nat)]
theorem keys_mm (c : Nat → Int) (ks : List Nat) : mmOk (keysD c ks) = true := by
  have e : keysD c ks = ks.map fun k => .tup [.int (-c k), .int (k : Nat)] := rfl
  unfold mmOk
  have h1 : pureL (keysD c ks) = true := by
    rw [e]; induction ks with
    | nil => rfl
    | cons k r ih => show (true && pureL (List.map _ r)) = true; rw [ih rfl]; rfl
  have h2 : ((keysD c ks).all fun d => (keysD c ks).all fun e => PySem.W.alike (encD d) (encD e)) = true := by
    rw [List.all_eq_true]; intro d hd
    rw [List.all_eq_true]; intro e' he
    obtain ⟨a, _, rfl⟩ := List.mem_map.mp hd
    obtain ⟨b, _, rfl⟩ := List.mem_map.mp he
    rfl
  have h3 : (keysD c ks).all someD = true := by
    rw [List.all_eq_true]; intro d hd
    obtain ⟨a, _, rfl⟩ := List.mem_map.mp hd
    rfl
  have h4 : PyData.depthAll (encL (keysD c ks)) ≤ 100 := by
    have : PyData.depthAll (encL (keysD c ks)) ≤ 1 := by
      rw [e]; clear e h1 h2 h3
      induction ks with
      | nil => exact Nat.zero_le _
      | cons k r ih => show max 1 (PyData.depthAll (encL (List.map _ r))) ≤ 1; exact Nat.max_le.mpr ⟨Nat.le_refl _, ih⟩
    omega
  rw [h1, h2, h3, decide_eq_true h4]; rfl
theorem min_keys (c : Nat → Int) (most : Nat) (hm : 1 ≤ most) (g : G) : ∃ m f, (ups most).foldl (bestS c) none = some (m, f) ∧ bMinA [.lst (keysD c (ups most))] g = .ok (.tup [.int (-m), .int f]) g := by
  obtain ⟨n, rfl⟩ : ∃ n, most = n + 1 := ⟨most - 1, by omega⟩
  have hp := ups_pair (n + 1)
  cases hu : ups (n + 1) with
  | nil => have : (ups (n + 1)).length = n + 1 := by simp [ups]
           rw [hu] at this; simp at this
  | cons k r =>
    rw [hu] at hp
    have hp := List.pairwise_cons.mp hp
    obtain ⟨m2, f2, e1, e2⟩ := keys_min c r (c k) k hp.1 hp.2
    refine ⟨m2, f2, e1, ?_⟩
    have ok := keys_mm c (k :: r)
    have h0 : bMinS [.lst (keysD c (k :: r))] g = .stuck := rfl
    unfold bMinA
    rw [h0]
    show (if mmOk (keysD c (k :: r)) = true then Res.ok (minDD _ _) g else .stuck) = _
    rw [if_pos ok]
    exact congrArg (fun d => Res.ok d g) e2
end K05
end
section
set_option Elab.async false
set_option linter.all false
set_option maxRecDepth 100000
set_option maxHeartbeats 4000000
namespace K05
open PySem Dl
/-! ### lost ones filled -/
def idxs (lo : Int) (n : Nat) : List Int := (List.range n).map fun (j : Nat) => lo + (j : Int)
theorem rng_idxs (lo : Int) (n : Nat) : rangeD lo n = (idxs lo n).map .int := by unfold rangeD idxs; rw [List.map_map]; rfl
theorem idxs_mem {lo : Int} {n : Nat} {z : Int} (h : z ∈ idxs lo n) : lo ≤ z ∧ z < lo + n := by
  obtain ⟨j, hj, rfl⟩ := List.mem_map.mp h
  have := List.mem_range.mp hj
  omega
def pick (rows lost : List Int) (lo : Int) (n : Nat) : List Int := ((idxs lo n).filter fun z => !decide (z ∈ lost)).map fun z => rows.getD z.toNat 0
theorem pick_len (rows lost : List Int) (lo : Int) (n : Nat) : (pick rows lost lo n).length ≤ n := by
  unfold pick idxs
  rw [List.length_map]
  exact Nat.le_trans (List.length_filter_le _ _) (by simp)
def near (rows lost : List Int) (k : Nat) : List Int :=
  (pick rows lost 0 k).drop ((pick rows lost 0 k).length - 1) ++ (pick rows lost ((k : Int) + 1) (rows.length - (k + 1))).take 1
def fillV (rows lost : List Int) (k : Nat) (x : Int) : Int := if (k : Int) ∈ lost then (if near rows lost k = [] then 0 else (near rows lost k).sum / (near rows lost k).length) else x
theorem near_len (rows lost : List Int) (k : Nat) : (near rows lost k).length ≤ 2 := by
  unfold near
  simp only [List.length_append, List.length_drop, List.length_take]
  omega
theorem getD_ix {rows : List Int} {z : Int} {g : G} (h : 0 ≤ z ∧ z < rows.length) : oIx (.lst (rows.map .int)) (.int z) g = .ok (.int (rows.getD z.toNat 0)) g := oIx_il h
/-- the chosen ones, by any test -/
theorem lcD_pick {vs : List Nat} {fg : FG} {ft : FT} {fe : FE} {ρ : Env'} {g : G} (rows lost : List Int) (lo : Int) (n : Nat)
    (h : ∀ z, lo ≤ z → z < lo + n → ∃ ρ1, fg (.int z) (wipeD ρ vs) g = .ok ρ1 g ∧ ft ρ1 g = .ok (!decide (z ∈ lost)) g ∧ fe ρ1 g = .ok (.int (rows.getD z.toNat 0)) g) :
    lcD vs fg ft fe ρ (rangeD lo n) g = .ok ((pick rows lost lo n).map .int) g := by
  rw [rng_idxs]
  have := lcD_filter (g := g) (ρ := ρ) (vs := vs) (fg := fg) (ft := ft) (fe := fe) (enc := D.int) (v := fun z => D.int (rows.getD z.toNat 0)) (P := fun z => !decide (z ∈ lost)) (idxs lo n) fun z hz => by
    have hz := idxs_mem hz
    obtain ⟨ρ1, h1, h2, h3⟩ := h z hz.1 hz.2
    exact ⟨ρ1, h1, h2, fun _ => h3⟩
  rw [this]
  unfold pick
  rw [List.map_map]; rfl
/-! the dictionary of the lost ones -/
theorem hasK_put (kvs : List (L2.Key × D)) (k j : L2.Key) (d : D) : hasK (putD kvs k d) j = (hasK kvs j || decide (k = j)) := by
  unfold hasK putD
  split
  · rename_i h
    rw [List.any_map]
    by_cases e : k = j
    · subst e
      simp only [decide_true, Bool.or_true]
      obtain ⟨x, hx, hk⟩ := List.any_eq_true.mp h
      refine List.any_eq_true.mpr ⟨x, hx, ?_⟩
      have hk := of_decide_eq_true hk
      show decide ((if x.1 = k then (x.1, d) else x).1 = k) = true
      rw [if_pos hk]; exact decide_eq_true hk
    · rw [decide_eq_false e, Bool.or_false]
      congr 1
      funext x
      show decide ((if x.1 = k then (x.1, d) else x).1 = j) = decide (x.1 = j)
      split <;> rfl
  · rw [List.any_append]; simp
theorem dc_lost {ρ : Env'} {g : G} : ∀ (lost : List Int) (acc : List (L2.Key × D)), ρ.length = 10 → ∃ kvs, dcD [2] (gNm 2) fYes (fVar 2) (fC (.bl true)) ρ acc (lost.map .int) g = .ok kvs g ∧ ∀ z : Int, hasK kvs (Sum.inl z) = (hasK acc (Sum.inl z) || decide (z ∈ lost))
  | [], acc, _ => ⟨acc, rfl, fun z => by simp⟩
  | x :: r, acc, hl => by
    match ρ, hl with
    | [a0, a1, a2, a3, a4, a5, a6, a7, a8, a9], hl =>
    obtain ⟨kvs, h1, h2⟩ := dc_lost r (putD acc (Sum.inl x) (.bl true)) hl
    refine ⟨kvs, ?_, fun z => ?_⟩
    · rw [List.map_cons]; exact h1
    · rw [h2, hasK_put]
      by_cases e : x = z
      · subst e; simp
      · have e1 : ¬ ((Sum.inl x : L2.Key) = Sum.inl z) := fun h => e (Sum.inl.inj h)
        have e2 : ¬ z = x := fun h => e h.symm
        simp [e1, e2]
theorem notin_gone {g : G} {kvs : List (L2.Key × D)} {n : Nat} {lost : List Int} (hg : g[n]? = some (.dic kvs)) (hk : ∀ z : Int, hasK kvs (Sum.inl z) = decide (z ∈ lost)) (z : Int) : oNInK (.int z) (.loc n) g = .ok (.bl (!decide (z ∈ lost))) g := by
  have : dicAt g (.loc n) = some kvs := by
    show (match g[n]? with | some (.dic kvs) => some kvs | _ => none) = _
    rw [hg]
  unfold oNInK
  rw [this]
  show Res.ok (D.bl (!hasK kvs (Sum.inl z))) g = _
  rw [hk]
theorem near_val (rows lost : List Int) (k : Nat) (x : Int) (g : G) : (if (k : Int) ∈ lost then (if near rows lost k = [] then Res.ok (D.int 0) g else oDiv (.int (near rows lost k).sum) (.int ((near rows lost k).length : Nat)) g) else Res.ok (D.int x) g) = .ok (.int (fillV rows lost k x)) g := by
  unfold fillV
  by_cases h : (k : Int) ∈ lost
  · rw [if_pos h, if_pos h]
    by_cases e : near rows lost k = []
    · rw [if_pos e, if_pos e]
    · have : 0 < (near rows lost k).length := List.length_pos_iff.mpr e
      have h2 := near_len rows lost k
      rw [if_neg e, if_neg e, oDiv_p (by omega)]
  · rw [if_neg h, if_neg h]
theorem fill_turn (rows lost : List Int) (hr : rows.length ≤ 2000) (g0 : G) (kvs : List (L2.Key × D)) (hk : ∀ z : Int, hasK kvs (Sum.inl z) = decide (z ∈ lost)) (acc : List Int) (k : Nat) (x : Int) (hkl : k < rows.length) (ha : acc.length ≤ 2000) (x1 x6 x7 x8 x9 : Option D) :
    ∃ y6 y8 y9, W_filled_in_0 [some (il rows), x1, some (.int k), some (.loc g0.length), some (.loc (g0 ++ [O.dic kvs]).length), some (.int x), x6, x7, x8, x9] ((g0 ++ [O.dic kvs]) ++ [O.lst (acc.map .int)]) =
      .nx [some (il rows), x1, some (.int k), some (.loc g0.length), some (.loc (g0 ++ [O.dic kvs]).length), some (.int x), y6, x7, y8, y9] ((g0 ++ [O.dic kvs]) ++ [O.lst ((acc ++ [fillV rows lost k x]).map .int)]) := by
  have hg : ((g0 ++ [O.dic kvs]) ++ [O.lst (acc.map .int)])[g0.length]? = some (.dic kvs) := by simp
  have hn := fun z => notin_gone hg hk z
  generalize hG : (g0 ++ [O.dic kvs]) ++ [O.lst (acc.map .int)] = G1 at hn
  have hp : ∀ (lo : Int) (n : Nat) (a6 a7 a8 a9 : Option D), 0 ≤ lo → lo + n ≤ rows.length → lcD [7] (gNm 7) (fB (fBin oNInK (fVar 7) (fVar 3))) (fBin oIx (fVar 0) (fVar 7)) [some (.lst (rows.map .int)), x1, some (.int k), some (.loc g0.length), some (.loc (g0 ++ [O.dic kvs]).length), some (.int x), a6, a7, a8, a9] (rangeD lo n) G1 = .ok ((pick rows lost lo n).map .int) G1 := fun lo n a6 a7 a8 a9 h0 h1 =>
    lcD_pick rows lost lo n fun z hz1 hz2 => ⟨_, rfl, by simp only [Res.bind_ok, Res.bind_err, Res.bind_stuck, Res.toS_ok, Res.toS_err, fVar_z, fVar_s, fVar_s', fC_e, fBin_e, fNil_e, fCons_e, fCall_e, fCall0_e, fBi_e, fTup_e, mkTup_ok, fLst_e, mkLst_ok, mkLst_nil, fMut_e, mkMut_ok, fIf_e, fB_bin, fTru_e, tru_bl, tru_int, fNot_e, fAnd_e, fOr_e, fCh_e, fNeg_e, fNotV_e, sNil_e, sSeq_e, seq_nx', seq_rt', seq_err', seq_ct', seq_bk', sIf_e, sErr_e, sEx_e, sRt_e, sCt_e, sBk_e, sAsg_e, gNm_e, sPar_e, sPar3_e, gTp_tup, gsNil_e, gsCons_nm, sAug_z, ite_ok, ite_nx, ite_rt, ite_int, ite_bl, ite_str, ite_tup, ite_lst, ite_cons, ite_some, oAdd_i, oSub_i, oAddI_i, oSubI_i, oLt_i, oLe_i, oGt_i, oGe_i, oEq_i, oNe_i, oIs_non, oIsNot_non, bAbs_i, bMinA_i, bMaxA_i, bInt_i, bInt_b, bLen_t, bLen_l, bList_l, bList_t, bTuple_l, bTuple_t, lstOf_end, bTuple_end, isKind_end, set_end, fMt_e, sFor_e, iSeq_e, still_l, still_t, still_s, iRng_e, enmA_l, enmA_t, zppA_l, zppA_t, forD_nil, sWh_e, sized_ok, lc_e, gn_e, fSl_e, fNo_e, fSo_e, oSl_l, oSl_t, iSeqL_e, stillG_l, stillG_t, stillG_end, List.map_cons, List.map_nil, List.length_cons, List.length_nil, List.replicate, List.cons_append, List.nil_append, List.set_cons_zero, List.set_cons_succ, decide_eq_true_eq, Bool.not_eq_true, Bool.not_true, Bool.not_false, if_true, if_false, ite_self, Bool.false_eq_true, reduceIte, Nat.reduceAdd, Nat.reduceSub, Nat.reduceLeDiff, Nat.sub_zero, Nat.zero_add, List.append_nil, Bool.not_eq_eq_eq_not, decide_not, Bool.decide_eq_true, wipeD, hn], by simp only [Res.bind_ok, Res.bind_err, Res.bind_stuck, Res.toS_ok, Res.toS_err, fVar_z, fVar_s, fVar_s', fC_e, fBin_e, fNil_e, fCons_e, fCall_e, fCall0_e, fBi_e, fTup_e, mkTup_ok, fLst_e, mkLst_ok, mkLst_nil, fMut_e, mkMut_ok, fIf_e, fB_bin, fTru_e, tru_bl, tru_int, fNot_e, fAnd_e, fOr_e, fCh_e, fNeg_e, fNotV_e, sNil_e, sSeq_e, seq_nx', seq_rt', seq_err', seq_ct', seq_bk', sIf_e, sErr_e, sEx_e, sRt_e, sCt_e, sBk_e, sAsg_e, gNm_e, sPar_e, sPar3_e, gTp_tup, gsNil_e, gsCons_nm, sAug_z, ite_ok, ite_nx, ite_rt, ite_int, ite_bl, ite_str, ite_tup, ite_lst, ite_cons, ite_some, oAdd_i, oSub_i, oAddI_i, oSubI_i, oLt_i, oLe_i, oGt_i, oGe_i, oEq_i, oNe_i, oIs_non, oIsNot_non, bAbs_i, bMinA_i, bMaxA_i, bInt_i, bInt_b, bLen_t, bLen_l, bList_l, bList_t, bTuple_l, bTuple_t, lstOf_end, bTuple_end, isKind_end, set_end, fMt_e, sFor_e, iSeq_e, still_l, still_t, still_s, iRng_e, enmA_l, enmA_t, zppA_l, zppA_t, forD_nil, sWh_e, sized_ok, lc_e, gn_e, fSl_e, fNo_e, fSo_e, oSl_l, oSl_t, iSeqL_e, stillG_l, stillG_t, stillG_end, List.map_cons, List.map_nil, List.length_cons, List.length_nil, List.replicate, List.cons_append, List.nil_append, List.set_cons_zero, List.set_cons_succ, decide_eq_true_eq, Bool.not_eq_true, Bool.not_true, Bool.not_false, if_true, if_false, ite_self, Bool.false_eq_true, reduceIte, Nat.reduceAdd, Nat.reduceSub, Nat.reduceLeDiff, Nat.sub_zero, Nat.zero_add, List.append_nil, Bool.not_eq_eq_eq_not, decide_not, Bool.decide_eq_true, wipeD, getD_ix (show 0 ≤ z ∧ z < rows.length by omega)]⟩
  have r1 : rng1 [.int (k : Int)] = some (rangeD 0 k) := by rw [rng1_p (by omega), Int.toNat_natCast]
  have r2 : rng2 [.int ((k : Int) + 1), .int (rows.length : Int)] = some (rangeD ((k : Int) + 1) (rows.length - (k + 1))) := by
    have e : ((rows.length : Int) - ((k : Int) + 1)).toNat = rows.length - (k + 1) := by omega
    rw [rng2_p (by omega) (by omega), e]
  have z1 : (rangeD 0 k).length ≤ 16777216 := by unfold rangeD; rw [List.length_map, List.length_range]; omega
  have z2 : (rangeD ((k : Int) + 1) (rows.length - (k + 1))).length ≤ 16777216 := by unfold rangeD; rw [List.length_map, List.length_range]; omega
  have c1 : cutD ((pick rows lost 0 k).map D.int) (some (-1)) none = ((pick rows lost 0 k).drop ((pick rows lost 0 k).length - 1)).map .int := by rw [cutD_last, List.length_map, List.map_drop]
  have c2 : cutD ((pick rows lost ((k : Int) + 1) (rows.length - (k + 1))).map D.int) none (some 1) = ((pick rows lost ((k : Int) + 1) (rows.length - (k + 1))).take 1).map .int := by rw [cutD_to (by omega), ← List.map_take]; rfl
  have hz : ((pick rows lost 0 k).drop ((pick rows lost 0 k).length - 1)).length + ((pick rows lost ((k : Int) + 1) (rows.length - (k + 1))).take 1).length ≤ 16777216 := by
    have := near_len rows lost k
    unfold near at this
    rw [List.length_append] at this; omega
  have hcat : oAdd (.lst (((pick rows lost 0 k).drop ((pick rows lost 0 k).length - 1)).map D.int)) (.lst (((pick rows lost ((k : Int) + 1) (rows.length - (k + 1))).take 1).map .int)) G1 = .ok (.lst ((near rows lost k).map .int)) G1 := by
    rw [oAdd_l (by rw [List.length_map, List.length_map]; exact hz), ← List.map_append]; rfl
  have hne : oNe (.lst ((near rows lost k).map D.int)) (.lst []) G1 = .ok (.bl (!decide (near rows lost k = []))) G1 := oNe_il (near rows lost k) []
  have hsum := bSumA_l (g := G1) (near rows lost k)
  have hv := near_val rows lost k x G1
  have hm : mApp (.loc (g0 ++ [O.dic kvs]).length) [.int (fillV rows lost k x)] G1 = .ok .non ((g0 ++ [O.dic kvs]) ++ [O.lst ((acc ++ [fillV rows lost k x]).map .int)]) := by
    rw [← hG, mApp_end (by rw [List.length_map]; omega), List.map_append]; rfl
  have hik : isKind "list" G1 (.loc (g0 ++ [O.dic kvs]).length) = true := by rw [← hG]; exact isKind_end
  refine ⟨some (.lst (((pick rows lost 0 k).drop ((pick rows lost 0 k).length - 1)).map .int)), some (.lst (((pick rows lost ((k : Int) + 1) (rows.length - (k + 1))).take 1).map .int)), some (.lst ((near rows lost k).map .int)), ?_⟩
  have h9 : (if (!decide ((k : Int) ∈ lost)) = true then Res.ok (D.int x) G1 else if (!decide (near rows lost k = [])) = true then oDiv (.int (near rows lost k).sum) (.int ((near rows lost k).length : Nat)) G1 else Res.ok (D.int 0) G1) = .ok (.int (fillV rows lost k x)) G1 := by
    rw [← hv]
    by_cases a : (k : Int) ∈ lost <;> by_cases b : near rows lost k = [] <;> simp [a, b]
  simp (disch := first | exact z1 | exact z2 | omega) only [fVar_z, fVar_s, fVar_s', fC_e, fBin_e, fNil_e, fCons_e, fBi_e, fIf_e, fB_bin, fNeg_e, sNil_e, sSeq_e, seq_nx', sEx_e, sAsg_e, gNm_e, Res.bind_ok, Res.toS_ok, lc_e, iRng_e, sized_ok, fSl_e, fNo_e, fSo_e, oSl_l, fMt_e, fLst_e, mkLst_nil, List.length_nil, Nat.zero_le, List.set_cons_zero, List.set_cons_succ, bLen_l, List.length_map, oAdd_i, W_filled_in_0, hp, r1, r2, il, c1, c2, hcat, hne, hsum, hn, hik, if_true, h9, hm, Int.le_refl]
theorem fill_loop (rows lost : List Int) (hr : rows.length ≤ 2000) (g0 : G) (kvs : List (L2.Key × D)) (hk : ∀ z : Int, hasK kvs (Sum.inl z) = decide (z ∈ lost)) (x1 x7 : Option D) : ∀ (r acc : List Int) (k : Nat) (x2 x5 x6 x8 x9 : Option D), k + r.length = rows.length → acc.length = k →
    ∃ y2 y5 y6 y8 y9, forD (gTp 2 (gsCons (gNm 2) (gsCons (gNm 5) gsNil))) W_filled_in_0 (enumD k (r.map .int)) [some (il rows), x1, x2, some (.loc g0.length), some (.loc (g0 ++ [O.dic kvs]).length), x5, x6, x7, x8, x9] ((g0 ++ [O.dic kvs]) ++ [O.lst (acc.map .int)]) =
      .nx [some (il rows), x1, y2, some (.loc g0.length), some (.loc (g0 ++ [O.dic kvs]).length), y5, y6, x7, y8, y9] ((g0 ++ [O.dic kvs]) ++ [O.lst ((acc ++ mapFrom (fillV rows lost) k r).map .int)])
  | [], acc, k, x2, x5, x6, x8, x9, _, _ => ⟨_, _, _, _, _, by rw [mapFrom, List.append_nil]; rfl⟩
  | x :: r, acc, k, x2, x5, x6, x8, x9, hl, ha => by
    simp only [List.length_cons] at hl
    obtain ⟨a, b, c, ht⟩ := fill_turn rows lost hr g0 kvs hk acc k x (by omega) (by omega) x1 x6 x7 x8 x9
    obtain ⟨d, e, f, h, i, ih⟩ := fill_loop rows lost hr g0 kvs hk x1 x7 r (acc ++ [fillV rows lost k x]) (k + 1) (some (.int k)) (some (.int x)) a b c (by omega) (by simp; omega)
    exact ⟨d, e, f, h, i, by rw [List.map_cons, enumD, forD_turn (ρ1 := [some (il rows), x1, some (.int k), some (.loc g0.length), some (.loc (g0 ++ [O.dic kvs]).length), some (.int x), x6, x7, x8, x9]) (g1 := (g0 ++ [O.dic kvs]) ++ [O.lst (acc.map .int)]) rfl ht, ih]; simp [mapFrom]⟩
theorem filled_spec (rows lost : List Int) (g : G) (h : Ok rows) (hl : ∀ z ∈ lost, 0 ≤ z ∧ z < rows.length) (hll : lost.length ≤ 2000) : ∃ g2, F_filled_in [il rows, il lost] g = .ok (it (mapFrom (fillV rows lost) 0 rows)) (g ++ g2) := by
  obtain ⟨kvs, hd, hk⟩ := dc_lost (ρ := [some (.lst (rows.map .int)), some (.lst (lost.map .int)), none, none, none, none, none, none, none, none]) (g := g) lost [] rfl
  have hk : ∀ z : Int, hasK kvs (Sum.inl z) = decide (z ∈ lost) := fun z => by rw [hk]; rfl
  refine ⟨_, run_rt (g1 := (g ++ [O.dic kvs]) ++ [O.lst ((mapFrom (fillV rows lost) 0 rows).map .int)]) ?_ |>.trans (by rw [List.append_assoc])⟩
  obtain ⟨a, b, c, d, e, hlp⟩ := fill_loop rows lost h.2 g kvs hk (some (il lost)) none rows [] 0 none none none none none (by simp) rfl
  have hlp' : forD (gTp 2 (gsCons (gNm 2) (gsCons (gNm 5) gsNil))) W_filled_in_0 (enumD 0 (rows.map .int)) [some (.lst (rows.map .int)), some (.lst (lost.map .int)), none, some (.loc g.length), some (.loc (g ++ [O.dic kvs]).length), none, none, none, none, none] ((g ++ [O.dic kvs]) ++ [O.lst []]) =
      .nx [some (il rows), some (il lost), a, some (.loc g.length), some (.loc (g ++ [O.dic kvs]).length), b, c, none, d, e] ((g ++ [O.dic kvs]) ++ [O.lst ((mapFrom (fillV rows lost) 0 rows).map .int)]) := hlp
  have ea : gnD (stpB true) (kB true) [2] (gNm 2) fYes Z_filled_in_0 [some (.lst (rows.map .int)), some (.lst (lost.map .int)), none, none, none, none, none, none, none, none] [] (lost.map .int) g = .ok (.bl (lost.any fun z => !decide (0 ≤ z ∧ z < (rows.length : Int)))) g :=
    gnD_any lost [] fun z hz => ⟨_, rfl, by
      have hz := hl z hz
      simp only [Res.bind_ok, Res.bind_err, Res.bind_stuck, Res.toS_ok, Res.toS_err, fVar_z, fVar_s, fVar_s', fC_e, fBin_e, fNil_e, fCons_e, fCall_e, fCall0_e, fBi_e, fTup_e, mkTup_ok, fLst_e, mkLst_ok, mkLst_nil, fMut_e, mkMut_ok, fIf_e, fB_bin, fTru_e, tru_bl, tru_int, fNot_e, fAnd_e, fOr_e, fCh_e, fNeg_e, fNotV_e, sNil_e, sSeq_e, seq_nx', seq_rt', seq_err', seq_ct', seq_bk', sIf_e, sErr_e, sEx_e, sRt_e, sCt_e, sBk_e, sAsg_e, gNm_e, sPar_e, sPar3_e, gTp_tup, gsNil_e, gsCons_nm, sAug_z, ite_ok, ite_nx, ite_rt, ite_int, ite_bl, ite_str, ite_tup, ite_lst, ite_cons, ite_some, oAdd_i, oSub_i, oAddI_i, oSubI_i, oLt_i, oLe_i, oGt_i, oGe_i, oEq_i, oNe_i, oIs_non, oIsNot_non, bAbs_i, bMinA_i, bMaxA_i, bInt_i, bInt_b, bLen_t, bLen_l, bList_l, bList_t, bTuple_l, bTuple_t, lstOf_end, bTuple_end, isKind_end, set_end, fMt_e, sFor_e, iSeq_e, still_l, still_t, still_s, iRng_e, enmA_l, enmA_t, zppA_l, zppA_t, forD_nil, sWh_e, sized_ok, lc_e, gn_e, fSl_e, fNo_e, fSo_e, oSl_l, oSl_t, iSeqL_e, stillG_l, stillG_t, stillG_end, List.map_cons, List.map_nil, List.length_cons, List.length_nil, List.replicate, List.cons_append, List.nil_append, List.set_cons_zero, List.set_cons_succ, decide_eq_true_eq, Bool.not_eq_true, Bool.not_true, Bool.not_false, if_true, if_false, ite_self, Bool.false_eq_true, reduceIte, Nat.reduceAdd, Nat.reduceSub, Nat.reduceLeDiff, Nat.sub_zero, Nat.zero_add, List.append_nil, Bool.not_eq_eq_eq_not, decide_not, Bool.decide_eq_true, Z_filled_in_0, wipeD, List.length_map, hz.1, hz.2, decide_true, true_and]⟩
  have e2 : (lost.any fun z => !decide (0 ≤ z ∧ z < (rows.length : Int))) = false := by
    rw [List.any_eq_false]
    intro z hz
    have := hl z hz
    simp; omega
  rw [e2] at ea
  have hc := check_l h g
  have sz : lost.length ≤ 16777216 := by omega
  have hdc : fDc [2] (iSeq (fVar 1)) (gNm 2) fYes (fVar 2) (fC (.bl true)) [some (.lst (rows.map .int)), some (.lst (lost.map .int)), none, none, none, none, none, none, none, none] g = .ok (.loc g.length) (g ++ [O.dic kvs]) := by
    show (if (lost.map D.int).length ≤ sizeLine then (dcD [2] (gNm 2) fYes (fVar 2) (fC (.bl true)) [some (.lst (rows.map .int)), some (.lst (lost.map .int)), none, none, none, none, none, none, none, none] [] (lost.map .int) g).bind fun kvs g2 => Res.ok (D.loc g2.length) (g2 ++ [O.dic kvs]) else .stuck) = _
    rw [if_pos (by rw [sizeLine_eq, List.length_map]; exact sz), hd]; rfl
  simp (disch := first | omega | (simp; done) | (simp; omega) | fail) only [Res.bind_ok, Res.bind_err, Res.bind_stuck, Res.toS_ok, Res.toS_err, fVar_z, fVar_s, fVar_s', fC_e, fBin_e, fNil_e, fCons_e, fCall_e, fCall0_e, fBi_e, fTup_e, mkTup_ok, fLst_e, mkLst_ok, mkLst_nil, fMut_e, mkMut_ok, fIf_e, fB_bin, fTru_e, tru_bl, tru_int, fNot_e, fAnd_e, fOr_e, fCh_e, fNeg_e, fNotV_e, sNil_e, sSeq_e, seq_nx', seq_rt', seq_err', seq_ct', seq_bk', sIf_e, sErr_e, sEx_e, sRt_e, sCt_e, sBk_e, sAsg_e, gNm_e, sPar_e, sPar3_e, gTp_tup, gsNil_e, gsCons_nm, sAug_z, ite_ok, ite_nx, ite_rt, ite_int, ite_bl, ite_str, ite_tup, ite_lst, ite_cons, ite_some, oAdd_i, oSub_i, oAddI_i, oSubI_i, oLt_i, oLe_i, oGt_i, oGe_i, oEq_i, oNe_i, oIs_non, oIsNot_non, bAbs_i, bMinA_i, bMaxA_i, bInt_i, bInt_b, bLen_t, bLen_l, bList_l, bList_t, bTuple_l, bTuple_t, lstOf_end, bTuple_end, isKind_end, set_end, fMt_e, sFor_e, iSeq_e, still_l, still_t, still_s, iRng_e, enmA_l, enmA_t, zppA_l, zppA_t, forD_nil, sWh_e, sized_ok, lc_e, gn_e, fSl_e, fNo_e, fSo_e, oSl_l, oSl_t, iSeqL_e, stillG_l, stillG_t, stillG_end, List.map_cons, List.map_nil, List.length_cons, List.length_nil, List.replicate, List.cons_append, List.nil_append, List.set_cons_zero, List.set_cons_succ, decide_eq_true_eq, Bool.not_eq_true, Bool.not_true, Bool.not_false, if_true, if_false, ite_self, Bool.false_eq_true, reduceIte, Nat.reduceAdd, Nat.reduceSub, Nat.reduceLeDiff, Nat.sub_zero, Nat.zero_add, List.append_nil, Bool.not_eq_eq_eq_not, decide_not, Bool.decide_eq_true, B_filled_in, il, hc, ea, hdc, hlp', gTp_tup]
end K05
end
section
set_option Elab.async false
set_option linter.all false
set_option maxRecDepth 100000
set_option maxHeartbeats 4000000
namespace K05
open PySem Dl
/-! ### quiet told short -/
inductive P where
  | q (n : Nat) | l (xs : List Int)
def encP : P → D
  | .q n => .tup [.str "quiet", .int n]
  | .l xs => .tup (xs.map .int)
def P.good : P → Prop
  | .q _ => True
  | .l xs => xs ≠ []
def qk (bound x : Int) : Bool := decide ((x.natAbs : Int) ≤ bound)
def qlead (bound : Int) (l : List Int) : Nat := (l.takeWhile (qk bound)).length
def addLoud (acc : List P) (loud : List Int) : List P := match acc.getLast? with
  | some (.l xs) => acc.dropLast ++ [.l (xs ++ loud)]
  | _ => acc ++ [.l loud]
def stepA (rows : List Int) (bound : Int) (least : Nat) (acc : List P) (k : Nat) : List P × Nat :=
  if least ≤ qlead bound (rows.drop k) then (acc ++ [.q (qlead bound (rows.drop k))], k + qlead bound (rows.drop k))
  else (addLoud acc ((rows.drop k).take (max 1 (qlead bound (rows.drop k)))), k + max 1 (qlead bound (rows.drop k)))
def goQ (rows : List Int) (bound : Int) (least : Nat) : Nat → List P → Nat → List P
  | 0, acc, _ => acc
  | n + 1, acc, k => if k < rows.length then goQ rows bound least n (stepA rows bound least acc k).1 (stepA rows bound least acc k).2 else acc
theorem quiet_ok : PyData.strOk ("quiet" : Str) = true := by decide +kernel
theorem encP_ok (p : P) (n : Nat) : okP (n + 2) (encP p) = true := by
  cases p with
  | q m => show (PyData.strOk ("quiet" : Str) && (true && true)) = true; rw [quiet_ok]; rfl
  | l xs =>
    show (xs.map D.int).all (okP (n + 1)) = true
    rw [List.all_map, List.all_eq_true]; intro x _; rfl
theorem encs_ok (acc : List P) (n : Nat) : (acc.map encP).all (okP (n + 2)) = true := by
  rw [List.all_map, List.all_eq_true]; intro p _; exact encP_ok p n
theorem ne_nil_l {ds : List D} {g : G} (h : ds.all (okP 11) = true) : oNe (.lst ds) (.lst []) g = .ok (.bl (!ds.isEmpty)) g := by
  obtain ⟨ps, h1, h2, h3⟩ := pyAll (okP_py g 11) ds h
  have e1 : toPy g 12 (.lst ds) = some (.list ps) := by show (optAll (ds.map (toPy g 11))).map PyData.list = _; rw [h1]; rfl
  have e2 : toPy g 12 (.lst []) = some (.list []) := rfl
  have e3 : PyData.eqv (.list ps) (.list []) = ds.isEmpty := by
    cases ds with
    | nil => simp [optAll] at h1; subst h1; rfl
    | cons d r =>
      rw [List.map_cons] at h1
      cases ps with
      | nil => cases e : toPy g 11 d with
        | none => rw [e] at h1; cases h1
        | some p => rw [e] at h1; change (optAll (r.map (toPy g 11))).map (p :: ·) = some [] at h1; cases hq : optAll (r.map (toPy g 11)) <;> rw [hq] at h1 <;> cases h1
      | cons p q => rfl
  have s1 : SeqAt.shaped (.list ps) = true := shaped_of (p := .list ps) h2 (show PyData.depthAll ps + 1 ≤ 12 by omega)
  unfold oNe eqPy
  rw [e1, e2]
  show (match (if (SeqAt.shaped (.list ps) && SeqAt.shaped (.list [])) = true then some (PyData.eqv (.list ps) (.list [])) else none) with | some b => Res.ok (D.bl (!b)) g | none => .stuck) = _
  rw [s1, e3]; rfl
theorem ne_nil_end {ds : List D} {g : G} (h : ds.all (okP 11) = true) : oNe (.loc g.length) (.lst []) (g ++ [O.lst ds]) = .ok (.bl (!ds.isEmpty)) (g ++ [O.lst ds]) := by
  have e1 : toPy (g ++ [O.lst ds]) 12 (.loc g.length) = toPy (g ++ [O.lst ds]) 12 (.lst ds) := by
    simp only [toPy]
    simp
  have := ne_nil_l (g := g ++ [O.lst ds]) h
  unfold oNe eqPy at this ⊢
  rw [e1]; exact this
theorem ne_int_str {i : Int} {s : Str} {g : G} (h : PyData.strOk s = true) : oNe (.int i) (.str s) g = .ok (.bl true) g := by
  have s2 : SeqAt.shaped (.str s) = true := shaped_of (p := .str s) h (Nat.zero_le _)
  unfold oNe eqPy
  show (match (if (SeqAt.shaped (.int i) && SeqAt.shaped (.str s)) = true then some (PyData.eqv (.int i) (.str s)) else none) with | some b => Res.ok (D.bl (!b)) g | none => .stuck) = _
  rw [s2]; rfl
theorem eq_int_str {i : Int} {s : Str} {g : G} (h : PyData.strOk s = true) : oEq (.int i) (.str s) g = .ok (.bl false) g := by
  have s2 : SeqAt.shaped (.str s) = true := shaped_of (p := .str s) h (Nat.zero_le _)
  unfold oEq eqPy
  show (match (if (SeqAt.shaped (.int i) && SeqAt.shaped (.str s)) = true then some (PyData.eqv (.int i) (.str s)) else none) with | some b => Res.ok (D.bl b) g | none => .stuck) = _
  rw [s2]; rfl
theorem qq_ne (g : G) : oNe (.str "quiet") (.str "quiet") g = .ok (.bl false) g := oNe_refl (show okP 12 (.str "quiet") = true from quiet_ok)
theorem qq_eq (g : G) : oEq (.str "quiet") (.str "quiet") g = .ok (.bl true) g := oEq_refl (show okP 12 (.str "quiet") = true from quiet_ok)
/-! the inner loop -/
theorem qlead_cons (bound x : Int) (l : List Int) : qlead bound (x :: l) = if qk bound x = true then qlead bound l + 1 else 0 := by
  unfold qlead; rw [List.takeWhile_cons]; split <;> simp
theorem qlead_le (bound : Int) (l : List Int) : qlead bound l ≤ l.length := by
  unfold qlead; exact (List.takeWhile_prefix _).length_le
theorem inner_loop (rows : List Int) (bound : Int) (g : G) (x2 x3 x4 : Option D) (hl : rows.length ≤ 2000) : ∀ (m i n : Nat), rows.length - i = m → i ≤ rows.length → m < n →
    whileD C_quiet_short_0 W_quiet_short_0 n [some (il rows), some (.int bound), x2, x3, x4, some (.int i)] g = .nx [some (il rows), some (.int bound), x2, x3, x4, some (.int ((i + qlead bound (rows.drop i) : Nat) : Int))] g := by
  have ht : ∀ i : Nat, i ≤ rows.length → C_quiet_short_0 [some (il rows), some (.int bound), x2, x3, x4, some (.int i)] g = .ok (decide (i < rows.length) && qk bound (rows.getD i 0)) g := fun i hi => by
    by_cases h : i < rows.length
    · have h' : (i : Int) < (rows.length : Int) := by omega
      have e := oIx_il (g := g) (ns := rows) (a := (i : Int)) (by omega)
      rw [Int.toNat_natCast] at e
      simp only [Res.bind_ok, Res.bind_err, Res.bind_stuck, Res.toS_ok, Res.toS_err, fVar_z, fVar_s, fVar_s', fC_e, fBin_e, fNil_e, fCons_e, fCall_e, fCall0_e, fBi_e, fTup_e, mkTup_ok, fLst_e, mkLst_ok, mkLst_nil, fMut_e, mkMut_ok, fIf_e, fB_bin, fTru_e, tru_bl, tru_int, fNot_e, fAnd_e, fOr_e, fCh_e, fNeg_e, fNotV_e, sNil_e, sSeq_e, seq_nx', seq_rt', seq_err', seq_ct', seq_bk', sIf_e, sErr_e, sEx_e, sRt_e, sCt_e, sBk_e, sAsg_e, gNm_e, sPar_e, sPar3_e, gTp_tup, gsNil_e, gsCons_nm, sAug_z, ite_ok, ite_nx, ite_rt, ite_int, ite_bl, ite_str, ite_tup, ite_lst, ite_cons, ite_some, oAdd_i, oSub_i, oAddI_i, oSubI_i, oLt_i, oLe_i, oGt_i, oGe_i, oEq_i, oNe_i, oIs_non, oIsNot_non, bAbs_i, bMinA_i, bMaxA_i, bInt_i, bInt_b, bLen_t, bLen_l, bList_l, bList_t, bTuple_l, bTuple_t, lstOf_end, bTuple_end, isKind_end, set_end, fMt_e, sFor_e, iSeq_e, still_l, still_t, still_s, iRng_e, enmA_l, enmA_t, zppA_l, zppA_t, forD_nil, sWh_e, sized_ok, lc_e, gn_e, fSl_e, fNo_e, fSo_e, oSl_l, oSl_t, iSeqL_e, stillG_l, stillG_t, stillG_end, List.map_cons, List.map_nil, List.length_cons, List.length_nil, List.replicate, List.cons_append, List.nil_append, List.set_cons_zero, List.set_cons_succ, decide_eq_true_eq, Bool.not_eq_true, Bool.not_true, Bool.not_false, if_true, if_false, ite_self, Bool.false_eq_true, reduceIte, Nat.reduceAdd, Nat.reduceSub, Nat.reduceLeDiff, Nat.sub_zero, Nat.zero_add, List.append_nil, Bool.not_eq_eq_eq_not, decide_not, Bool.decide_eq_true, C_quiet_short_0, List.length_map, h, h', decide_true, e, Bool.true_and]
      rfl
    · have h' : ¬ (i : Int) < (rows.length : Int) := by omega
      simp only [Res.bind_ok, Res.bind_err, Res.bind_stuck, Res.toS_ok, Res.toS_err, fVar_z, fVar_s, fVar_s', fC_e, fBin_e, fNil_e, fCons_e, fCall_e, fCall0_e, fBi_e, fTup_e, mkTup_ok, fLst_e, mkLst_ok, mkLst_nil, fMut_e, mkMut_ok, fIf_e, fB_bin, fTru_e, tru_bl, tru_int, fNot_e, fAnd_e, fOr_e, fCh_e, fNeg_e, fNotV_e, sNil_e, sSeq_e, seq_nx', seq_rt', seq_err', seq_ct', seq_bk', sIf_e, sErr_e, sEx_e, sRt_e, sCt_e, sBk_e, sAsg_e, gNm_e, sPar_e, sPar3_e, gTp_tup, gsNil_e, gsCons_nm, sAug_z, ite_ok, ite_nx, ite_rt, ite_int, ite_bl, ite_str, ite_tup, ite_lst, ite_cons, ite_some, oAdd_i, oSub_i, oAddI_i, oSubI_i, oLt_i, oLe_i, oGt_i, oGe_i, oEq_i, oNe_i, oIs_non, oIsNot_non, bAbs_i, bMinA_i, bMaxA_i, bInt_i, bInt_b, bLen_t, bLen_l, bList_l, bList_t, bTuple_l, bTuple_t, lstOf_end, bTuple_end, isKind_end, set_end, fMt_e, sFor_e, iSeq_e, still_l, still_t, still_s, iRng_e, enmA_l, enmA_t, zppA_l, zppA_t, forD_nil, sWh_e, sized_ok, lc_e, gn_e, fSl_e, fNo_e, fSo_e, oSl_l, oSl_t, iSeqL_e, stillG_l, stillG_t, stillG_end, List.map_cons, List.map_nil, List.length_cons, List.length_nil, List.replicate, List.cons_append, List.nil_append, List.set_cons_zero, List.set_cons_succ, decide_eq_true_eq, Bool.not_eq_true, Bool.not_true, Bool.not_false, if_true, if_false, ite_self, Bool.false_eq_true, reduceIte, Nat.reduceAdd, Nat.reduceSub, Nat.reduceLeDiff, Nat.sub_zero, Nat.zero_add, List.append_nil, Bool.not_eq_eq_eq_not, decide_not, Bool.decide_eq_true, C_quiet_short_0, List.length_map, h, h', decide_false, Bool.false_and]
  intro m
  induction m with
  | zero =>
    intro i n hm hi hn
    obtain ⟨n, rfl⟩ : ∃ q, n = q + 1 := ⟨n - 1, by omega⟩
    have e : i = rows.length := by omega
    rw [whileD_stop (g1 := g) (by rw [ht i hi, decide_eq_false (by omega), Bool.false_and])]
    subst e
    simp [qlead]
  | succ m ih =>
    intro i n hm hi hn
    obtain ⟨n, rfl⟩ : ∃ q, n = q + 1 := ⟨n - 1, by omega⟩
    have hlt : i < rows.length := by omega
    have ed : rows.drop i = rows.getD i 0 :: rows.drop (i + 1) := by
      rw [List.drop_eq_getElem_cons hlt, List.getD_eq_getElem?_getD, List.getElem?_eq_getElem hlt]; rfl
    cases hq : qk bound (rows.getD i 0) with
    | true =>
      rw [whileD_turn (g1 := g) (ρ2 := [some (il rows), some (.int bound), x2, x3, x4, some (.int ((i + 1 : Nat) : Int))]) (g2 := g) (by rw [ht i hi, decide_eq_true hlt, hq]; rfl) (by simp [W_quiet_short_0, sAug]), ih (i + 1) n (by omega) (by omega) (by omega), ed, qlead_cons, hq, if_pos rfl]
      have e9 : i + 1 + qlead bound (rows.drop (i + 1)) = i + (qlead bound (rows.drop (i + 1)) + 1) := by omega
      rw [e9]
    | false =>
      rw [whileD_stop (g1 := g) (by rw [ht i hi, hq, Bool.and_false]), ed, qlead_cons, hq, if_neg (by decide)]; rfl
theorem sub_rows (rows : List Int) (a b : Nat) (h : a ≤ b) : cutD (rows.map D.int) (some (a : Int)) (some (b : Int)) = ((rows.drop a).take (b - a)).map .int := by
  rw [cutD_mid (by omega) (by omega), Int.toNat_natCast, Int.toNat_natCast, List.map_take, List.map_drop]
theorem last_P (acc : List P) (p : P) : (acc ++ [p]).getLast? = some p := by simp
theorem addLoud_q (acc : List P) (n : Nat) (loud : List Int) : addLoud (acc ++ [.q n]) loud = acc ++ [.q n] ++ [.l loud] := by unfold addLoud; rw [last_P]
theorem addLoud_l (acc : List P) (xs loud : List Int) : addLoud (acc ++ [.l xs]) loud = acc ++ [.l (xs ++ loud)] := by unfold addLoud; rw [last_P]; simp
theorem addLoud_nil (loud : List Int) : addLoud [] loud = [.l loud] := rfl
theorem oIx_last_end {g : G} {ds : List D} {d : D} : oIx (.loc g.length) (.int (-1)) (g ++ [O.lst (ds ++ [d])]) = .ok d (g ++ [O.lst (ds ++ [d])]) := by
  show (match seqOf (g ++ [O.lst (ds ++ [d])]) (.loc g.length) with | some ds => (match L2.atI ds (-1) with | some y => Res.ok y _ | none => .stuck) | none => .stuck) = _
  have : seqOf (g ++ [O.lst (ds ++ [d])]) (.loc g.length) = some (ds ++ [d]) := lstOf_end
  rw [this]
  show (match L2.atI (ds ++ [d]) (-1) with | some y => Res.ok y _ | none => .stuck) = _
  rw [L2.atI_last]
theorem setD_last_end {g : G} {ds : List D} {d v : D} : setD (g ++ [O.lst (ds ++ [d])]) (.loc g.length) (.int (-1)) v = some (g ++ [O.lst (ds ++ [v])]) := by
  have e : L2.ixN (ds ++ [d]).length (-1) = some ds.length := by
    unfold L2.ixN
    rw [if_neg (by omega)]
    simp
    constructor <;> omega
  have h : (g ++ [O.lst (ds ++ [d])])[g.length]? = some (.lst (ds ++ [d])) := by simp
  simp only [setD, h, e]
  simp
end K05
end
section
set_option Elab.async false
set_option linter.all false
set_option maxRecDepth 100000
set_option maxHeartbeats 4000000
namespace K05
open PySem Dl
theorem stepA_q {rows : List Int} {bound : Int} {least : Nat} {acc : List P} {k : Nat} (h : least ≤ qlead bound (rows.drop k)) : stepA rows bound least acc k = (acc ++ [P.q (qlead bound (rows.drop k))], k + qlead bound (rows.drop k)) := by unfold stepA; rw [if_pos h]
theorem stepA_l {rows : List Int} {bound : Int} {least : Nat} {acc : List P} {k : Nat} (h : ¬ least ≤ qlead bound (rows.drop k)) : stepA rows bound least acc k = (addLoud acc ((rows.drop k).take (max 1 (qlead bound (rows.drop k)))), k + max 1 (qlead bound (rows.drop k))) := by unfold stepA; rw [if_neg h]
theorem tup_enc (xs : List Int) : D.tup (xs.map .int) = encP (.l xs) := rfl
theorem q_enc (n : Nat) : D.tup [.str "quiet", .int (n : Int)] = encP (.q n) := rfl
theorem acc_size {acc : List P} (h : acc.length ≤ 2000) : (acc.map encP).length < 16777216 := by rw [List.length_map]; omega
theorem qs_turn (rows : List Int) (bound : Int) (least : Nat) (g0 : G) (hl : rows.length ≤ 2000) (acc : List P) (k : Nat) (x5 : Option D) (hk : k < rows.length) (ha : acc.length ≤ 2000) (hg : ∀ p ∈ acc, p.good) (hsz : ∀ xs, P.l xs ∈ acc → xs.length ≤ 2000) :
    ∃ y5, W_quiet_short_1 [some (il rows), some (.int bound), some (.int least), some (.loc g0.length), some (.int k), x5] (g0 ++ [O.lst (acc.map encP)]) =
      .nx [some (il rows), some (.int bound), some (.int least), some (.loc g0.length), some (.int ((stepA rows bound least acc k).2 : Nat)), y5] (g0 ++ [O.lst ((stepA rows bound least acc k).1.map encP)]) := by
  have hi := inner_loop rows bound (g0 ++ [O.lst (acc.map encP)]) (some (.int least)) (some (.loc g0.length)) (some (.int k)) hl (rows.length - k) k 1000000 rfl (by omega) (by omega)
  have hq := qlead_le bound (rows.drop k)
  rw [List.length_drop] at hq
  generalize hm : qlead bound (rows.drop k) = m at hi hq
  have e1 : ((k + m : Nat) : Int) - (k : Int) = (m : Int) := by omega
  by_cases hle : least ≤ m
  · have hle' : (least : Int) ≤ (m : Int) := by omega
    rw [stepA_q (by rw [hm]; exact hle), hm]
    refine ⟨some (.int ((k + m : Nat) : Int)), ?_⟩
    have hmp : mApp (.loc g0.length) [.tup [.str "quiet", .int (m : Int)]] (g0 ++ [O.lst (acc.map encP)]) = .ok .non (g0 ++ [O.lst ((acc ++ [P.q m]).map encP)]) := by
      rw [mApp_end (acc_size ha), List.map_append]; rfl
    simp (disch := first | omega | (simp; done) | (simp; omega) | fail) only [Res.bind_ok, Res.bind_err, Res.bind_stuck, Res.toS_ok, Res.toS_err, fVar_z, fVar_s, fVar_s', fC_e, fBin_e, fNil_e, fCons_e, fCall_e, fCall0_e, fBi_e, fTup_e, mkTup_ok, fLst_e, mkLst_ok, mkLst_nil, fMut_e, mkMut_ok, fIf_e, fB_bin, fTru_e, tru_bl, tru_int, fNot_e, fAnd_e, fOr_e, fCh_e, fNeg_e, fNotV_e, sNil_e, sSeq_e, seq_nx', seq_rt', seq_err', seq_ct', seq_bk', sIf_e, sErr_e, sEx_e, sRt_e, sCt_e, sBk_e, sAsg_e, gNm_e, sPar_e, sPar3_e, gTp_tup, gsNil_e, gsCons_nm, sAug_z, ite_ok, ite_nx, ite_rt, ite_int, ite_bl, ite_str, ite_tup, ite_lst, ite_cons, ite_some, oAdd_i, oSub_i, oAddI_i, oSubI_i, oLt_i, oLe_i, oGt_i, oGe_i, oEq_i, oNe_i, oIs_non, oIsNot_non, bAbs_i, bMinA_i, bMaxA_i, bInt_i, bInt_b, bLen_t, bLen_l, bList_l, bList_t, bTuple_l, bTuple_t, lstOf_end, bTuple_end, isKind_end, set_end, fMt_e, sFor_e, iSeq_e, still_l, still_t, still_s, iRng_e, enmA_l, enmA_t, zppA_l, zppA_t, forD_nil, sWh_e, sized_ok, lc_e, gn_e, fSl_e, fNo_e, fSo_e, oSl_l, oSl_t, iSeqL_e, stillG_l, stillG_t, stillG_end, List.map_cons, List.map_nil, List.length_cons, List.length_nil, List.replicate, List.cons_append, List.nil_append, List.set_cons_zero, List.set_cons_succ, decide_eq_true_eq, Bool.not_eq_true, Bool.not_true, Bool.not_false, if_true, if_false, ite_self, Bool.false_eq_true, reduceIte, Nat.reduceAdd, Nat.reduceSub, Nat.reduceLeDiff, Nat.sub_zero, Nat.zero_add, List.append_nil, Bool.not_eq_eq_eq_not, decide_not, Bool.decide_eq_true, W_quiet_short_1, hi, e1, hle', decide_true, hmp]
  · have hle' : ¬ (least : Int) ≤ (m : Int) := by omega
    rw [stepA_l (by rw [hm]; exact hle), hm]
    have e2 : max ((k + m : Nat) : Int) ((k : Int) + 1) = ((k + max 1 m : Nat) : Int) := by omega
    have hcut := sub_rows rows k (k + max 1 m) (by omega)
    have e3 : k + max 1 m - k = max 1 m := by omega
    rw [e3] at hcut
    refine ⟨some (.int ((k + max 1 m : Nat) : Int)), ?_⟩
    have hloud : ((rows.drop k).take (max 1 m)).length ≤ 2000 := by rw [List.length_take, List.length_drop]; omega
    generalize hL : (rows.drop k).take (max 1 m) = loud at hcut hloud
    have app : ∀ a : List P, a.length ≤ 2000 → mApp (.loc g0.length) [.tup (loud.map .int)] (g0 ++ [O.lst (a.map encP)]) = .ok .non (g0 ++ [O.lst ((a ++ [P.l loud]).map encP)]) := fun a ha => by
      rw [mApp_end (acc_size ha), List.map_append]; rfl
    rcases List.eq_nil_or_concat acc with rfl | ⟨init, p, rfl⟩
    · have hn := ne_nil_end (ds := []) (g := g0) rfl
      have app := app [] (by simp)
      have hn' : oNe (.loc g0.length) (.lst []) (g0 ++ [O.lst (List.map encP [])]) = .ok (.bl false) (g0 ++ [O.lst (List.map encP [])]) := hn
      simp (disch := first | omega | (simp; done) | (simp; omega) | fail) only [W_quiet_short_1, hi, e1, hle', decide_false, e2, sAsg_e, sSeq_e, seq_nx', fVar_z, fVar_s, fVar_s', Res.bind_ok, Res.toS_ok, gNm_e, List.set_cons_zero, List.set_cons_succ, sWh_e, sIf_e, fB_bin, fBin_e, fBi_e, fCons_e, fNil_e, oSub_i, oGe_i, oAdd_i, fC_e, bMaxA_i, Bool.false_eq_true, if_false, fAnd_e, fLst_e, mkLst_nil, hn', sEx_e, fMt_e, isKind_end, if_true, fSl_e, fSo_e, oSl_l, il, hcut, bTuple_l, app, sNil_e, addLoud_nil, List.nil_append]
    · rw [List.concat_eq_append] at *
      have hne : (List.map encP (init ++ [p])).isEmpty = false := by simp
      have hn := ne_nil_end (g := g0) (encs_ok (init ++ [p]) 9)
      rw [hne] at hn
      have hlast : oIx (.loc g0.length) (.int (-1)) (g0 ++ [O.lst ((init ++ [p]).map encP)]) = .ok (encP p) (g0 ++ [O.lst ((init ++ [p]).map encP)]) := by
        rw [List.map_append]; exact oIx_last_end
      cases p with
      | q n =>
        have hx : oIx (encP (P.q n)) (.int 0) (g0 ++ [O.lst ((init ++ [P.q n]).map encP)]) = .ok (.str "quiet") (g0 ++ [O.lst ((init ++ [P.q n]).map encP)]) := rfl
        have app := app (init ++ [P.q n]) ha
        rw [addLoud_q]
        simp (disch := first | omega | (simp; done) | (simp; omega) | fail) only [W_quiet_short_1, hi, e1, hle', decide_false, e2, sAsg_e, sSeq_e, seq_nx', fVar_z, fVar_s, fVar_s', Res.bind_ok, Res.toS_ok, gNm_e, List.set_cons_zero, List.set_cons_succ, sWh_e, sIf_e, fB_bin, fBin_e, fBi_e, fCons_e, fNil_e, oSub_i, oGe_i, oAdd_i, fC_e, bMaxA_i, Bool.false_eq_true, if_false, fAnd_e, fLst_e, mkLst_nil, hn, sEx_e, fMt_e, isKind_end, if_true, fSl_e, fSo_e, oSl_l, il, hcut, bTuple_l, app, sNil_e, Bool.not_false, fNeg_e, hlast, hx, qq_ne]
      | l xs =>
        have hxs : xs ≠ [] := hg (.l xs) (by simp)
        have hxl := hsz xs (by simp)
        obtain ⟨y, ys, rfl⟩ : ∃ y ys, xs = y :: ys := by cases xs with
          | nil => exact absurd rfl hxs
          | cons y ys => exact ⟨y, ys, rfl⟩
        have hx : oIx (encP (P.l (y :: ys))) (.int 0) (g0 ++ [O.lst ((init ++ [P.l (y :: ys)]).map encP)]) = .ok (.int y) (g0 ++ [O.lst ((init ++ [P.l (y :: ys)]).map encP)]) := oIx_t (xs := (y :: ys).map .int) (Int.le_refl 0) rfl
        have hcat : oAdd (encP (P.l (y :: ys))) (.tup (loud.map .int)) (g0 ++ [O.lst ((init ++ [P.l (y :: ys)]).map encP)]) = .ok (encP (P.l (y :: ys ++ loud))) (g0 ++ [O.lst ((init ++ [P.l (y :: ys)]).map encP)]) := by
          show oAdd (.tup ((y :: ys).map .int)) (.tup (loud.map .int)) _ = .ok (.tup ((y :: ys ++ loud).map .int)) _
          rw [oAdd_t (by rw [List.length_map, List.length_map]; omega)]; simp only [List.map_append]
        have hset : setD (g0 ++ [O.lst ((init ++ [P.l (y :: ys)]).map encP)]) (.loc g0.length) (.int (-1)) (encP (P.l (y :: ys ++ loud))) = some (g0 ++ [O.lst ((init ++ [P.l (y :: ys ++ loud)]).map encP)]) := by
          rw [List.map_append, List.map_append]; exact setD_last_end
        rw [addLoud_l]
        simp (disch := first | omega | (simp; done) | (simp; omega) | fail) only [W_quiet_short_1, hi, e1, hle', decide_false, e2, sAsg_e, sSeq_e, seq_nx', fVar_z, fVar_s, fVar_s', Res.bind_ok, Res.toS_ok, gNm_e, List.set_cons_zero, List.set_cons_succ, sWh_e, sIf_e, fB_bin, fBin_e, fBi_e, fCons_e, fNil_e, oSub_i, oGe_i, oAdd_i, fC_e, bMaxA_i, Bool.false_eq_true, if_false, fAnd_e, fLst_e, mkLst_nil, hn, if_true, fSl_e, fSo_e, oSl_l, il, hcut, bTuple_l, sNil_e, Bool.not_false, fNeg_e, hlast, hx, ne_int_str quiet_ok, hcat, gSb, hset]
/-! what holds of the parts -/
def flatP : P → List Int
  | .q n => List.replicate n 0
  | .l xs => xs
structure Good (rows : List Int) (acc : List P) (k : Nat) : Prop where
  good : ∀ p ∈ acc, p.good
  mem : ∀ xs, P.l xs ∈ acc → ∀ x ∈ xs, x ∈ rows
  len : (acc.map flatP).flatten.length = k
  num : acc.length ≤ k
  k : k ≤ rows.length
theorem flat_snoc (acc : List P) (p : P) : ((acc ++ [p]).map flatP).flatten = (acc.map flatP).flatten ++ flatP p := by simp
theorem good_step {rows : List Int} {bound : Int} {least : Nat} {acc : List P} {k : Nat} (h : Good rows acc k) (hl : 1 ≤ least) (hk : k < rows.length) : Good rows (stepA rows bound least acc k).1 (stepA rows bound least acc k).2 ∧ k < (stepA rows bound least acc k).2 := by
  have hq := qlead_le bound (rows.drop k)
  rw [List.length_drop] at hq
  by_cases hle : least ≤ qlead bound (rows.drop k)
  · rw [stepA_q hle]
    refine ⟨⟨fun p hp => ?_, fun xs hx => ?_, ?_, ?_, ?_⟩, ?_⟩
    · rcases List.mem_append.mp hp with z | z
      · exact h.good p z
      · rw [List.mem_singleton.mp z]; trivial
    · rcases List.mem_append.mp hx with z | z
      · exact h.mem xs z
      · cases List.mem_singleton.mp z
    · rw [flat_snoc, List.length_append, h.len]; simp [flatP]
    · have := h.num; simp only [List.length_append, List.length_cons, List.length_nil]; omega
    · show k + _ ≤ _; omega
    · show k < k + _; omega
  · rw [stepA_l hle]
    have hm : max 1 (qlead bound (rows.drop k)) ≤ rows.length - k := by omega
    have hm1 : 1 ≤ max 1 (qlead bound (rows.drop k)) := by omega
    generalize max 1 (qlead bound (rows.drop k)) = w at hm hm1
    have hlen : ((rows.drop k).take w).length = w := by rw [List.length_take, List.length_drop]; omega
    have hmem : ∀ x ∈ (rows.drop k).take w, x ∈ rows := fun x hx => List.mem_of_mem_drop (List.mem_of_mem_take hx)
    generalize (rows.drop k).take w = loud at hlen hmem
    have snoc : Good rows (acc ++ [P.l loud]) (k + w) := ⟨fun p hp => by
        rcases List.mem_append.mp hp with z | z
        · exact h.good p z
        · rw [List.mem_singleton.mp z]; exact fun e => by rw [e] at hlen; simp at hlen; omega, fun xs hx => by
        rcases List.mem_append.mp hx with z | z
        · exact h.mem xs z
        · cases List.mem_singleton.mp z; exact hmem, by rw [flat_snoc, List.length_append, h.len]; simp [flatP, hlen], by have := h.num; simp only [List.length_append, List.length_cons, List.length_nil]; omega, by omega⟩
    refine ⟨?_, by show k < k + w; omega⟩
    show Good rows (addLoud acc loud) (k + w)
    rcases List.eq_nil_or_concat acc with rfl | ⟨init, p, rfl⟩
    · exact snoc
    · rw [List.concat_eq_append] at *
      cases p with
      | q n => rw [addLoud_q]; exact snoc
      | l xs =>
        rw [addLoud_l]
        have e := h.len
        rw [flat_snoc, List.length_append] at e
        refine ⟨fun p hp => ?_, fun ys hx => ?_, ?_, ?_, by omega⟩
        · rcases List.mem_append.mp hp with z | z
          · exact h.good p (List.mem_append_left _ z)
          · rw [List.mem_singleton.mp z]
            have : xs ≠ [] := h.good (.l xs) (by simp)
            exact fun e => this (List.append_eq_nil_iff.mp e).1
        · rcases List.mem_append.mp hx with z | z
          · exact h.mem ys (List.mem_append_left _ z)
          · cases List.mem_singleton.mp z
            intro x hx
            rcases List.mem_append.mp hx with z | z
            · exact h.mem xs (by simp) x z
            · exact hmem x z
        · rw [flat_snoc, List.length_append]
          have e2 : (flatP (.l (xs ++ loud))).length = (flatP (.l xs)).length + loud.length := by simp [flatP]
          omega
        · have := h.num; simp only [List.length_append, List.length_cons, List.length_nil] at this ⊢; omega
theorem part_len {rows : List Int} {acc : List P} {k : Nat} (h : Good rows acc k) : ∀ xs, P.l xs ∈ acc → xs.length ≤ rows.length := fun xs hx => by
  have h1 := h.len
  have h2 := h.k
  have : (flatP (.l xs)).length ≤ (acc.map flatP).flatten.length := by
    obtain ⟨a, b, rfl⟩ := List.append_of_mem hx
    simp; omega
  simp only [flatP] at this
  omega
theorem qs_loop (rows : List Int) (bound : Int) (least : Nat) (g0 : G) (hl : rows.length ≤ 2000) (h1 : 1 ≤ least) : ∀ (m n : Nat) (acc : List P) (k : Nat) (x5 : Option D), rows.length - k = m → m < n → Good rows acc k →
    ∃ y5, whileD C_quiet_short_1 W_quiet_short_1 n [some (il rows), some (.int bound), some (.int least), some (.loc g0.length), some (.int k), x5] (g0 ++ [O.lst (acc.map encP)]) =
      .nx [some (il rows), some (.int bound), some (.int least), some (.loc g0.length), some (.int rows.length), y5] (g0 ++ [O.lst ((goQ rows bound least n acc k).map encP)]) ∧ Good rows (goQ rows bound least n acc k) rows.length := by
  intro m
  induction m using Nat.strongRecOn with
  | ind m ih =>
    intro n acc k x5 hm hn hg
    obtain ⟨n, rfl⟩ : ∃ q, n = q + 1 := ⟨n - 1, by omega⟩
    have ht : C_quiet_short_1 [some (il rows), some (.int bound), some (.int least), some (.loc g0.length), some (.int k), x5] (g0 ++ [O.lst (acc.map encP)]) = .ok (decide (k < rows.length)) (g0 ++ [O.lst (acc.map encP)]) := by
      simp only [Res.bind_ok, Res.bind_err, Res.bind_stuck, Res.toS_ok, Res.toS_err, fVar_z, fVar_s, fVar_s', fC_e, fBin_e, fNil_e, fCons_e, fCall_e, fCall0_e, fBi_e, fTup_e, mkTup_ok, fLst_e, mkLst_ok, mkLst_nil, fMut_e, mkMut_ok, fIf_e, fB_bin, fTru_e, tru_bl, tru_int, fNot_e, fAnd_e, fOr_e, fCh_e, fNeg_e, fNotV_e, sNil_e, sSeq_e, seq_nx', seq_rt', seq_err', seq_ct', seq_bk', sIf_e, sErr_e, sEx_e, sRt_e, sCt_e, sBk_e, sAsg_e, gNm_e, sPar_e, sPar3_e, gTp_tup, gsNil_e, gsCons_nm, sAug_z, ite_ok, ite_nx, ite_rt, ite_int, ite_bl, ite_str, ite_tup, ite_lst, ite_cons, ite_some, oAdd_i, oSub_i, oAddI_i, oSubI_i, oLt_i, oLe_i, oGt_i, oGe_i, oEq_i, oNe_i, oIs_non, oIsNot_non, bAbs_i, bMinA_i, bMaxA_i, bInt_i, bInt_b, bLen_t, bLen_l, bList_l, bList_t, bTuple_l, bTuple_t, lstOf_end, bTuple_end, isKind_end, set_end, fMt_e, sFor_e, iSeq_e, still_l, still_t, still_s, iRng_e, enmA_l, enmA_t, zppA_l, zppA_t, forD_nil, sWh_e, sized_ok, lc_e, gn_e, fSl_e, fNo_e, fSo_e, oSl_l, oSl_t, iSeqL_e, stillG_l, stillG_t, stillG_end, List.map_cons, List.map_nil, List.length_cons, List.length_nil, List.replicate, List.cons_append, List.nil_append, List.set_cons_zero, List.set_cons_succ, decide_eq_true_eq, Bool.not_eq_true, Bool.not_true, Bool.not_false, if_true, if_false, ite_self, Bool.false_eq_true, reduceIte, Nat.reduceAdd, Nat.reduceSub, Nat.reduceLeDiff, Nat.sub_zero, Nat.zero_add, List.append_nil, Bool.not_eq_eq_eq_not, decide_not, Bool.decide_eq_true, C_quiet_short_1, List.length_map]
      congr 1; exact decide_eq_decide.mpr (by omega)
    by_cases hk : k < rows.length
    · have hgs := good_step (bound := bound) hg h1 hk
      obtain ⟨y5, ht2⟩ := qs_turn rows bound least g0 hl acc k x5 hk (by have := hg.num; omega) hg.good fun xs hx => Nat.le_trans (part_len hg xs hx) hl
      obtain ⟨z5, e, q⟩ := ih (rows.length - (stepA rows bound least acc k).2) (by have := hgs.2; omega) n (stepA rows bound least acc k).1 (stepA rows bound least acc k).2 y5 rfl (by have := hgs.2; omega) hgs.1
      have eg : goQ rows bound least (n + 1) acc k = goQ rows bound least n (stepA rows bound least acc k).1 (stepA rows bound least acc k).2 := by rw [goQ, if_pos hk]
      exact ⟨z5, by rw [whileD_turn (by rw [ht, decide_eq_true hk]) ht2, e, eg], by rw [eg]; exact q⟩
    · have ek : k = rows.length := by have := hg.k; omega
      have eg : goQ rows bound least (n + 1) acc k = acc := by rw [goQ, if_neg hk]
      exact ⟨x5, by rw [whileD_stop (by rw [ht, decide_eq_false hk]), eg, ek], by rw [eg, ← ek]; exact hg⟩
def partsQ (rows : List Int) (bound : Int) (least : Nat) : List P := goQ rows bound least 1000000 [] 0
theorem good0 (rows : List Int) : Good rows [] 0 := ⟨(fun p hp => by cases hp), (fun xs hx => by cases hx), rfl, Nat.le_refl _, Nat.zero_le _⟩
theorem quiet_spec (rows : List Int) (bound : Int) (least : Nat) (g : G) (h : Ok rows) (hb : 0 ≤ bound) (h1 : 1 ≤ least) :
    F_quiet_short [il rows, .int bound, .int least] g = .ok (.tup ((partsQ rows bound least).map encP)) (g ++ [O.lst ((partsQ rows bound least).map encP)]) ∧ Good rows (partsQ rows bound least) rows.length := by
  obtain ⟨y5, e, q⟩ := qs_loop rows bound least g h.2 h1 rows.length 1000000 [] 0 none (by simp) (by have := h.2; omega) (good0 rows)
  refine ⟨run_rt ?_, q⟩
  have e' : whileD C_quiet_short_1 W_quiet_short_1 1000000 [some (.lst (rows.map .int)), some (.int bound), some (.int least), some (.loc g.length), some (.int 0), none] (g ++ [O.lst []]) =
      .nx [some (il rows), some (.int bound), some (.int least), some (.loc g.length), some (.int rows.length), y5] (g ++ [O.lst ((partsQ rows bound least).map encP)]) := e
  have n1 : ¬ bound < 0 := by omega
  have n2 : ¬ (least : Int) < 1 := by omega
  simp (disch := first | omega | (simp; done) | (simp; omega) | fail) only [Res.bind_ok, Res.bind_err, Res.bind_stuck, Res.toS_ok, Res.toS_err, fVar_z, fVar_s, fVar_s', fC_e, fBin_e, fNil_e, fCons_e, fCall_e, fCall0_e, fBi_e, fTup_e, mkTup_ok, fLst_e, mkLst_ok, mkLst_nil, fMut_e, mkMut_ok, fIf_e, fB_bin, fTru_e, tru_bl, tru_int, fNot_e, fAnd_e, fOr_e, fCh_e, fNeg_e, fNotV_e, sNil_e, sSeq_e, seq_nx', seq_rt', seq_err', seq_ct', seq_bk', sIf_e, sErr_e, sEx_e, sRt_e, sCt_e, sBk_e, sAsg_e, gNm_e, sPar_e, sPar3_e, gTp_tup, gsNil_e, gsCons_nm, sAug_z, ite_ok, ite_nx, ite_rt, ite_int, ite_bl, ite_str, ite_tup, ite_lst, ite_cons, ite_some, oAdd_i, oSub_i, oAddI_i, oSubI_i, oLt_i, oLe_i, oGt_i, oGe_i, oEq_i, oNe_i, oIs_non, oIsNot_non, bAbs_i, bMinA_i, bMaxA_i, bInt_i, bInt_b, bLen_t, bLen_l, bList_l, bList_t, bTuple_l, bTuple_t, lstOf_end, bTuple_end, isKind_end, set_end, fMt_e, sFor_e, iSeq_e, still_l, still_t, still_s, iRng_e, enmA_l, enmA_t, zppA_l, zppA_t, forD_nil, sWh_e, sized_ok, lc_e, gn_e, fSl_e, fNo_e, fSo_e, oSl_l, oSl_t, iSeqL_e, stillG_l, stillG_t, stillG_end, List.map_cons, List.map_nil, List.length_cons, List.length_nil, List.replicate, List.cons_append, List.nil_append, List.set_cons_zero, List.set_cons_succ, decide_eq_true_eq, Bool.not_eq_true, Bool.not_true, Bool.not_false, if_true, if_false, ite_self, Bool.false_eq_true, reduceIte, Nat.reduceAdd, Nat.reduceSub, Nat.reduceLeDiff, Nat.sub_zero, Nat.zero_add, List.append_nil, Bool.not_eq_eq_eq_not, decide_not, Bool.decide_eq_true, B_quiet_short, check_l h, n1, n2, decide_false, e']
end K05
end
section
set_option Elab.async false
set_option linter.all false
set_option maxRecDepth 100000
set_option maxHeartbeats 4000000
namespace K05
open PySem Dl
/-! ### long again -/
def flatA (acc : List P) : List Int := (acc.map flatP).flatten
theorem rep0 (n : Nat) : (List.replicate n [D.int 0]).flatten = (List.replicate n (0 : Int)).map .int := by
  induction n with
  | zero => rfl
  | succ n ih => rw [List.replicate_succ, List.flatten_cons, ih, List.replicate_succ]; rfl
theorem oMul_0 (n : Nat) (h : n ≤ 2000) (g : G) : oMul (.lst [.int 0]) (.int (n : Int)) g = .ok (.lst ((flatP (.q n)).map .int)) g := by
  have e : [D.int 0].length * (n : Int).toNat ≤ sizeLine := by rw [sizeLine_eq, Int.toNat_natCast]; exact Nat.le_trans (by simp; exact h) (by decide)
  have e1 : -(2 ^ 63) ≤ (n : Int) := Int.le_trans (show -(2 ^ 63) ≤ (0 : Int) by decide) (Int.natCast_nonneg n)
  have e2 : (n : Int) < 2 ^ 63 := Int.lt_of_le_of_lt (show (n : Int) ≤ 2000 by omega) (by decide)
  unfold oMul
  have q : (-(2 ^ 63) ≤ (n : Int) ∧ (n : Int) < 2 ^ 63 ∧ [D.int 0].length * (n : Int).toNat ≤ sizeLine) := And.intro e1 (And.intro e2 e)
  dsimp only
  rw [if_pos q, Int.toNat_natCast, rep0]
  rfl
theorem tq_eq (g : G) : oEq (.tup [.str "quiet"]) (.tup [.str "quiet"]) g = .ok (.bl true) g := oEq_refl (by show (PyData.strOk ("quiet" : Str) && true) = true; rw [quiet_ok]; rfl)
theorem ti_eq (y : Int) (g : G) : oEq (.tup [.int y]) (.tup [.str "quiet"]) g = .ok (.bl false) g := by
  have s2 : SeqAt.shaped (.tuple [.str "quiet"]) = true := shaped_of (p := .tuple [.str "quiet"]) (show (PyData.strOk ("quiet" : Str) && true) = true by rw [quiet_ok]; rfl) (show 1 ≤ 12 by omega)
  unfold oEq eqPy
  show (match (if (SeqAt.shaped (.tuple [.int y]) && SeqAt.shaped (.tuple [.str "quiet"])) = true then some (PyData.eqv (.tuple [.int y]) (.tuple [.str "quiet"])) else none) with | some b => Res.ok (D.bl b) g | none => .stuck) = _
  rw [s2]; rfl
theorem ext_end {g : G} {xs ys : List D} (h : xs.length + ys.length ≤ 16777216) : oAddI (.loc g.length) (.lst ys) (g ++ [O.lst xs]) = .ok (.loc g.length) (g ++ [O.lst (xs ++ ys)]) := by
  have h1 : (g ++ [O.lst xs])[g.length]? = some (.lst xs) := by simp
  have h2 : xs.length + ys.length ≤ sizeLine := by rw [sizeLine_eq]; exact h
  simp only [oAddI, h1, lstOf, h2, if_true, set_end]
theorem la_loop (g0 : G) (x0 : Option D) : ∀ (ps : List P) (acc : List Int) (x2 : Option D), (∀ p ∈ ps, p.good) → acc.length + (flatA ps).length ≤ 2000 →
    ∃ y2, forD (gNm 2) W_long_again_0 (ps.map encP) [x0, some (.loc g0.length), x2] (g0 ++ [O.lst (acc.map .int)]) = .nx [x0, some (.loc g0.length), y2] (g0 ++ [O.lst ((acc ++ flatA ps).map .int)])
  | [], acc, x2, _, _ => ⟨x2, by simp [flatA]⟩
  | p :: r, acc, x2, hg, hl => by
    have efl : flatA (p :: r) = flatP p ++ flatA r := by simp [flatA]
    rw [efl, List.length_append] at hl
    obtain ⟨y2, ih⟩ := la_loop g0 x0 r (acc ++ flatP p) (some (encP p)) (fun q hq => hg q (List.mem_cons_of_mem _ hq)) (by rw [List.length_append]; omega)
    refine ⟨y2, ?_⟩
    have key : (fIf (fB (fBin oEq (fSl (fVar 2) fNo (fSo (fC (.int 1)))) (fTup (fCons (fC (.str "quiet")) fNil)))) (fBin oMul (fLst (fCons (fC (.int 0)) fNil)) (fBin oIx (fVar 2) (fC (.int 1)))) (fBi bList (fCons (fVar 2) fNil))) [x0, some (.loc g0.length), some (encP p)] (g0 ++ [O.lst (acc.map .int)]) = .ok (.lst ((flatP p).map .int)) (g0 ++ [O.lst (acc.map .int)]) := by
      cases p with
      | q n =>
        have hn : n ≤ 2000 := by simp [flatP] at hl; omega
        have hc : cutD [D.str "quiet", .int (n : Int)] none (some 1) = [.str "quiet"] := rfl
        have hx : oIx (.tup [.str "quiet", .int (n : Int)]) (.int 1) (g0 ++ [O.lst (acc.map .int)]) = .ok (.int (n : Int)) (g0 ++ [O.lst (acc.map .int)]) := rfl
        simp (disch := first | omega | (simp; done) | (simp; omega) | fail) only [Res.bind_ok, Res.bind_err, Res.bind_stuck, Res.toS_ok, Res.toS_err, fVar_z, fVar_s, fVar_s', fC_e, fBin_e, fNil_e, fCons_e, fCall_e, fCall0_e, fBi_e, fTup_e, mkTup_ok, fLst_e, mkLst_ok, mkLst_nil, fMut_e, mkMut_ok, fIf_e, fB_bin, fTru_e, tru_bl, tru_int, fNot_e, fAnd_e, fOr_e, fCh_e, fNeg_e, fNotV_e, sNil_e, sSeq_e, seq_nx', seq_rt', seq_err', seq_ct', seq_bk', sIf_e, sErr_e, sEx_e, sRt_e, sCt_e, sBk_e, sAsg_e, gNm_e, sPar_e, sPar3_e, gTp_tup, gsNil_e, gsCons_nm, sAug_z, ite_ok, ite_nx, ite_rt, ite_int, ite_bl, ite_str, ite_tup, ite_lst, ite_cons, ite_some, oAdd_i, oSub_i, oAddI_i, oSubI_i, oLt_i, oLe_i, oGt_i, oGe_i, oEq_i, oNe_i, oIs_non, oIsNot_non, bAbs_i, bMinA_i, bMaxA_i, bInt_i, bInt_b, bLen_t, bLen_l, bList_l, bList_t, bTuple_l, bTuple_t, lstOf_end, bTuple_end, isKind_end, set_end, fMt_e, sFor_e, iSeq_e, still_l, still_t, still_s, iRng_e, enmA_l, enmA_t, zppA_l, zppA_t, forD_nil, sWh_e, sized_ok, lc_e, gn_e, fSl_e, fNo_e, fSo_e, oSl_l, oSl_t, iSeqL_e, stillG_l, stillG_t, stillG_end, List.map_cons, List.map_nil, List.length_cons, List.length_nil, List.replicate, List.cons_append, List.nil_append, List.set_cons_zero, List.set_cons_succ, decide_eq_true_eq, Bool.not_eq_true, Bool.not_true, Bool.not_false, if_true, if_false, ite_self, Bool.false_eq_true, reduceIte, Nat.reduceAdd, Nat.reduceSub, Nat.reduceLeDiff, Nat.sub_zero, Nat.zero_add, List.append_nil, Bool.not_eq_eq_eq_not, decide_not, Bool.decide_eq_true, encP, hc, tq_eq, hx, oMul_0 n hn]
      | l xs =>
        have hxs : xs ≠ [] := hg (.l xs) (by simp)
        cases xs with
        | nil => exact absurd rfl hxs
        | cons y ys =>
          have hc : cutD (D.int y :: ys.map D.int) none (some 1) = [.int y] := by rw [cutD_to (by omega)]; rfl
          simp (disch := first | omega | (simp; done) | (simp; omega) | fail) only [Res.bind_ok, Res.bind_err, Res.bind_stuck, Res.toS_ok, Res.toS_err, fVar_z, fVar_s, fVar_s', fC_e, fBin_e, fNil_e, fCons_e, fCall_e, fCall0_e, fBi_e, fTup_e, mkTup_ok, fLst_e, mkLst_ok, mkLst_nil, fMut_e, mkMut_ok, fIf_e, fB_bin, fTru_e, tru_bl, tru_int, fNot_e, fAnd_e, fOr_e, fCh_e, fNeg_e, fNotV_e, sNil_e, sSeq_e, seq_nx', seq_rt', seq_err', seq_ct', seq_bk', sIf_e, sErr_e, sEx_e, sRt_e, sCt_e, sBk_e, sAsg_e, gNm_e, sPar_e, sPar3_e, gTp_tup, gsNil_e, gsCons_nm, sAug_z, ite_ok, ite_nx, ite_rt, ite_int, ite_bl, ite_str, ite_tup, ite_lst, ite_cons, ite_some, oAdd_i, oSub_i, oAddI_i, oSubI_i, oLt_i, oLe_i, oGt_i, oGe_i, oEq_i, oNe_i, oIs_non, oIsNot_non, bAbs_i, bMinA_i, bMaxA_i, bInt_i, bInt_b, bLen_t, bLen_l, bList_l, bList_t, bTuple_l, bTuple_t, lstOf_end, bTuple_end, isKind_end, set_end, fMt_e, sFor_e, iSeq_e, still_l, still_t, still_s, iRng_e, enmA_l, enmA_t, zppA_l, zppA_t, forD_nil, sWh_e, sized_ok, lc_e, gn_e, fSl_e, fNo_e, fSo_e, oSl_l, oSl_t, iSeqL_e, stillG_l, stillG_t, stillG_end, List.map_cons, List.map_nil, List.length_cons, List.length_nil, List.replicate, List.cons_append, List.nil_append, List.set_cons_zero, List.set_cons_succ, decide_eq_true_eq, Bool.not_eq_true, Bool.not_true, Bool.not_false, if_true, if_false, ite_self, Bool.false_eq_true, reduceIte, Nat.reduceAdd, Nat.reduceSub, Nat.reduceLeDiff, Nat.sub_zero, Nat.zero_add, List.append_nil, Bool.not_eq_eq_eq_not, decide_not, Bool.decide_eq_true, encP, hc, ti_eq]
          rfl
    rw [List.map_cons, forD_turn (ρ1 := [x0, some (.loc g0.length), some (encP p)]) (g1 := g0 ++ [O.lst (acc.map .int)]) (ρ2 := [x0, some (.loc g0.length), some (encP p)]) (g2 := g0 ++ [O.lst ((acc ++ flatP p).map .int)]) rfl]
    · rw [ih, efl, List.append_assoc]
    · have hx := ext_end (g := g0) (xs := acc.map .int) (ys := (flatP p).map .int) (by rw [List.length_map, List.length_map]; omega)
      rw [← List.map_append] at hx
      have hs := sAug_of (i := 1) (o := oAddI) (f := fIf (fB (fBin oEq (fSl (fVar 2) fNo (fSo (fC (.int 1)))) (fTup (fCons (fC (.str "quiet")) fNil)))) (fBin oMul (fLst (fCons (fC (.int 0)) fNil)) (fBin oIx (fVar 2) (fC (.int 1)))) (fBi bList (fCons (fVar 2) fNil))) (ρ := [x0, some (.loc g0.length), some (encP p)]) (x := .loc g0.length) (g := g0 ++ [O.lst (acc.map .int)]) rfl
      rw [key] at hs
      simp only [W_long_again_0, sSeq_e, hs, Res.toS_ok, hx, seq_nx', sNil_e, List.set_cons_succ, List.set_cons_zero]
theorem flat_ok {rows : List Int} {acc : List P} {k : Nat} (h : Good rows acc k) (hr : Ok rows) : Ok (flatA acc) := by
  refine ⟨fun x hx => ?_, ?_⟩
  · unfold flatA at hx
    obtain ⟨l, hl, hx⟩ := List.mem_flatten.mp hx
    obtain ⟨p, hp, rfl⟩ := List.mem_map.mp hl
    cases p with
    | q n => have := List.eq_of_mem_replicate hx; subst this; decide
    | l xs => exact hr.1 x (h.mem xs hp x hx)
  · have := h.len; have := h.k; have := hr.2; unfold flatA; omega
theorem long_spec {rows : List Int} {acc : List P} {k : Nat} (h : Good rows acc k) (hr : Ok rows) (g : G) : F_long_again [.lst (acc.map encP)] g = .ok (it (flatA acc)) (g ++ [O.lst ((flatA acc).map .int)]) := by
  refine run_rt ?_
  have ho := flat_ok h hr
  obtain ⟨y2, hl⟩ := la_loop g (some (.lst (acc.map encP))) acc [] none h.good (by simpa using ho.2)
  have hl' : forD (gNm 2) W_long_again_0 (acc.map encP) [some (.lst (acc.map encP)), some (.loc g.length), none] (g ++ [O.lst []]) = .nx [some (.lst (acc.map encP)), some (.loc g.length), y2] (g ++ [O.lst ((flatA acc).map .int)]) := hl
  simp (disch := first | omega | (simp; done) | (simp; omega) | fail) only [Res.bind_ok, Res.bind_err, Res.bind_stuck, Res.toS_ok, Res.toS_err, fVar_z, fVar_s, fVar_s', fC_e, fBin_e, fNil_e, fCons_e, fCall_e, fCall0_e, fBi_e, fTup_e, mkTup_ok, fLst_e, mkLst_ok, mkLst_nil, fMut_e, mkMut_ok, fIf_e, fB_bin, fTru_e, tru_bl, tru_int, fNot_e, fAnd_e, fOr_e, fCh_e, fNeg_e, fNotV_e, sNil_e, sSeq_e, seq_nx', seq_rt', seq_err', seq_ct', seq_bk', sIf_e, sErr_e, sEx_e, sRt_e, sCt_e, sBk_e, sAsg_e, gNm_e, sPar_e, sPar3_e, gTp_tup, gsNil_e, gsCons_nm, sAug_z, ite_ok, ite_nx, ite_rt, ite_int, ite_bl, ite_str, ite_tup, ite_lst, ite_cons, ite_some, oAdd_i, oSub_i, oAddI_i, oSubI_i, oLt_i, oLe_i, oGt_i, oGe_i, oEq_i, oNe_i, oIs_non, oIsNot_non, bAbs_i, bMinA_i, bMaxA_i, bInt_i, bInt_b, bLen_t, bLen_l, bList_l, bList_t, bTuple_l, bTuple_t, lstOf_end, bTuple_end, isKind_end, set_end, fMt_e, sFor_e, iSeq_e, still_l, still_t, still_s, iRng_e, enmA_l, enmA_t, zppA_l, zppA_t, forD_nil, sWh_e, sized_ok, lc_e, gn_e, fSl_e, fNo_e, fSo_e, oSl_l, oSl_t, iSeqL_e, stillG_l, stillG_t, stillG_end, List.map_cons, List.map_nil, List.length_cons, List.length_nil, List.replicate, List.cons_append, List.nil_append, List.set_cons_zero, List.set_cons_succ, decide_eq_true_eq, Bool.not_eq_true, Bool.not_true, Bool.not_false, if_true, if_false, ite_self, Bool.false_eq_true, reduceIte, Nat.reduceAdd, Nat.reduceSub, Nat.reduceLeDiff, Nat.sub_zero, Nat.zero_add, List.append_nil, Bool.not_eq_eq_eq_not, decide_not, Bool.decide_eq_true, B_long_again, hl', check_end ho]
/-! ### the law's own parts -/
def cq (bound x : Int) : Nat := if qk bound x = true then 113 else 108
def mk (bound : Int) (rows : List Int) : Str := SX.S (rows.map (cq bound))
theorem q_text : ("q" : Str) = ⟨#[113]⟩ := by decide +kernel
theorem l_text : ("l" : Str) = ⟨#[108]⟩ := by decide +kernel
theorem mk_len (bound : Int) (rows : List Int) : (mk bound rows).length = rows.length := by unfold mk; rw [SX.S_len, List.length_map]
theorem mk_cut (bound : Int) (rows : List Int) (k : Nat) : L2.cutS (mk bound rows) (some (k : Int)) none = mk bound (rows.drop k) := by
  unfold L2.cutS
  rw [HT.sIx_nat, HT.sIx_none, mk_len]
  unfold mk SX.S
  rw [List.map_drop]
  congr 1
  by_cases h : k ≤ rows.length
  · rw [Nat.min_eq_left h, List.take_of_length_le (by simp)]
  · rw [Nat.min_eq_right (by omega), List.drop_of_length_le (by simp), List.drop_of_length_le (by simp; omega)]; simp
theorem mk_strip (bound : Int) (rows : List Int) : (Txt.lstripChars (mk bound rows) "q").length = rows.length - qlead bound rows := by
  unfold Txt.lstripChars
  rw [PyProof.Rows.stripBy_eq]
  have h1 : PySem.stripLo (("q" : Str).cps.contains) true (mk bound rows) = qlead bound rows := by
    unfold PySem.stripLo mk qlead
    rw [if_pos rfl]
    show (((rows.map (cq bound)).toArray.toList).takeWhile _).length = _
    rw [List.toList_toArray, List.takeWhile_map, List.length_map]
    congr 1
    refine congrArg (fun p => rows.takeWhile p) (funext fun x => ?_)
    show (("q" : Str).cps.contains (cq bound x)) = qk bound x
    rw [q_text]
    unfold cq
    cases qk bound x <;> decide +kernel
  have h2 : PySem.stripHi (("q" : Str).cps.contains) false (mk bound rows) (qlead bound rows) = rows.length := by
    show (mk bound rows).length = _
    exact mk_len bound rows
  rw [h1, h2]
  show ((mk bound rows).cps.extract (qlead bound rows) rows.length).size = _
  have : (mk bound rows).cps.size = rows.length := mk_len bound rows
  rw [Array.size_extract]; omega
theorem marks_join (bound : Int) (rows : List Int) : Txt.join ("" : Str) (rows.map fun x => if qk bound x = true then ("q" : Str) else ("l" : Str)) = mk bound rows := by
  have e1 : ("" : Str) = SX.S [] := by decide +kernel
  have e2 : (rows.map fun x => if qk bound x = true then ("q" : Str) else ("l" : Str)) = ((rows.map fun x => [cq bound x]).map SX.S) := by
    rw [List.map_map]
    refine List.map_congr_left fun x _ => ?_
    show _ = SX.S [cq bound x]
    unfold cq
    split
    · exact q_text
    · exact l_text
  rw [e1, e2, SX.join_S]
  unfold mk
  congr 1
  have h1 : ∀ l : List (List Nat), TL.joinL [] l = l.flatten := fun l => by
    induction l with
    | nil => rfl
    | cons p r ih => cases r with
      | nil => simp [TL.joinL]
      | cons q t => show p ++ ([] ++ TL.joinL [] (q :: t)) = _; rw [ih]; rfl
  rw [h1]
  clear e2
  induction rows with
  | nil => rfl
  | cons x r ih => rw [List.map_cons, List.flatten_cons, ih]; rfl
end K05
end
section
set_option Elab.async false
set_option linter.all false
set_option maxRecDepth 100000
set_option maxHeartbeats 4000000
namespace K05
open PySem Dl
/-! ### the dice -/
theorem cut_take (xs : List D) (k : Nat) : cutD xs none (some (k : Int)) = xs.take k := by rw [cutD_to (by omega), Int.toNat_natCast]
theorem oMod_pos {a b : Int} (h : 0 < b) (g : G) : oMod (.int a) (.int b) g = .ok (.int (a % b)) g := oMod_p h
theorem oDiv_pos {a b : Int} (h : 0 < b) (h2 : b < 1073741824) (g : G) : oDiv (.int a) (.int b) g = .ok (.int (a / b)) g := oDiv_p ⟨h, h2⟩
theorem oMul_ok' {a b : Int} (h : -(2 ^ 64) < b ∧ b < 2 ^ 64) (g : G) : oMul (.int a) (.int b) g = .ok (.int (a * b)) g := oMul_r h
abbrev gg (a b c : Int) (r : G) : G := O.lst [.int a, .int b, .int c] :: r
def IsG (g : G) : Prop := ∃ a b c r, g = gg a b c r
theorem IsG.app {g : G} (h : IsG g) (r : G) : IsG (g ++ r) := by obtain ⟨a, b, c, q, rfl⟩ := h; exact ⟨a, b, c, q ++ r, rfl⟩
theorem roll_spec {g : G} (hg : IsG g) {many : Int} (h : 0 < many) (h2 : many ≤ 100000000) : ∃ r g', IsG g' ∧ 0 ≤ r ∧ r < many ∧ F__law_roll 3 [.loc 0, .int many] g = .ok (.int r) g' := by
  obtain ⟨a, b, c, rr, rfl⟩ := hg
  have hc : (fOr (fB (fBin oEq (fBin oIx (fVar 0) (fC (.int 2))) (fC (.int 2)))) (fAnd (fB (fBin oEq (fBin oIx (fVar 0) (fC (.int 2))) (fC (.int 1)))) (fB (fBin oGt (fBin oIx (fVar 0) (fC (.int 0))) (fC (.int 0)))))) [some (.loc 0), some (.int many), none] (gg a b c rr) = .ok (c == 2 || (c == 1 && decide (0 < a))) (gg a b c rr) := by
    have t1 : (fB (fBin oEq (fBin oIx (fVar 0) (fC (.int 2))) (fC (.int 2)))) [some (.loc 0), some (.int many), none] (gg a b c rr) = .ok (c == 2) (gg a b c rr) := rfl
    have t2 : (fB (fBin oEq (fBin oIx (fVar 0) (fC (.int 2))) (fC (.int 1)))) [some (.loc 0), some (.int many), none] (gg a b c rr) = .ok (c == 1) (gg a b c rr) := rfl
    have t3 : (fB (fBin oGt (fBin oIx (fVar 0) (fC (.int 0))) (fC (.int 0)))) [some (.loc 0), some (.int many), none] (gg a b c rr) = .ok (decide (0 < a)) (gg a b c rr) := rfl
    cases e1 : (c == 2) with
    | true => rw [or_tt (by rw [t1, e1])]; rfl
    | false =>
      rw [or_ff (by rw [t1, e1])]
      cases e2 : (c == 1) with
      | true => rw [and_tt (by rw [t2, e2]), t3]; rfl
      | false => rw [and_ff (by rw [t2, e2])]; rfl
  show ∃ r g', IsG g' ∧ 0 ≤ r ∧ r < many ∧ runB 3 (B__law_roll (F__law_roll 2)) [.loc 0, .int many] (gg a b c rr) = .ok (.int r) g'
  cases e : (c == 2 || (c == 1 && decide (0 < a))) with
  | true =>
    refine ⟨a % many, gg (a / many) b c rr, ⟨_, _, _, _, rfl⟩, Int.emod_nonneg _ (by omega), Int.emod_lt_of_pos _ h, run_rt ?_⟩
    unfold B__law_roll
    refine seq_rt ?_
    rw [if_take (by rw [← e]; exact hc)]
    have s1 : fBin oMod (fBi bInt (fCons (fBin oIx (fVar 0) (fC (.int 0))) fNil)) (fVar 1) [some (.loc 0), some (.int many), none] (gg a b c rr) = .ok (.int (a % many)) (gg a b c rr) := oMod_pos h _
    have s2 : fBin oDiv (fBin oIx (fVar 0) (fC (.int 0))) (fVar 1) [some (.loc 0), some (.int many), some (.int (a % many))] (gg a b c rr) = .ok (.int (a / many)) (gg a b c rr) := oDiv_pos h (by omega) _
    refine (seq_nx (asg_ok (ρ2 := [some (.loc 0), some (.int many), some (.int (a % many))]) s1 rfl)).trans ?_
    refine (seq_nx (asg_ok (ρ2 := [some (.loc 0), some (.int many), some (.int (a % many))]) (g2 := gg (a / many) b c rr) s2 rfl)).trans ?_
    rfl
  | false =>
    refine ⟨(((a * 48271 + b * 69621 + 11) % 2147483647) / 7) % many, gg ((a * 48271 + b * 69621 + 11) % 2147483647) (b + 1) 0 rr, ⟨_, _, _, _, rfl⟩, Int.emod_nonneg _ (by omega), Int.emod_lt_of_pos _ h, run_rt ?_⟩
    unfold B__law_roll
    refine (seq_nx (if_nil (by rw [← e]; exact hc))).trans ?_
    show sSeq _ _ [some (.loc 0), some (.int many), none] (gg a b c rr) = _
    refine (seq_nx (asg_ok (ρ2 := [some (.loc 0), some (.int many), none]) (g2 := gg a b 0 rr) rfl rfl)).trans ?_
    have hb : (fB (fBin oGt (fVar 1) (fC (.int 100000000)))) [some (.loc 0), some (.int many), none] (gg a b 0 rr) = .ok (decide (100000000 < many)) (gg a b 0 rr) := rfl
    refine (seq_nx (if_nil (by rw [hb, decide_eq_false (by omega)]))).trans ?_
    show sSeq _ _ [some (.loc 0), some (.int many), none] (gg a b 0 rr) = _
    have m1 : fBin oMul (fBin oIx (fVar 0) (fC (.int 0))) (fC (.int 48271)) [some (.loc 0), some (.int many), none] (gg a b 0 rr) = .ok (.int (a * 48271)) (gg a b 0 rr) := oMul_ok' (by decide) _
    have m2 : fBin oMul (fBin oIx (fVar 0) (fC (.int 1))) (fC (.int 69621)) [some (.loc 0), some (.int many), none] (gg a b 0 rr) = .ok (.int (b * 69621)) (gg a b 0 rr) := oMul_ok' (by decide) _
    have a1 : fBin oAdd (fBin oMul (fBin oIx (fVar 0) (fC (.int 0))) (fC (.int 48271))) (fBin oMul (fBin oIx (fVar 0) (fC (.int 1))) (fC (.int 69621))) [some (.loc 0), some (.int many), none] (gg a b 0 rr) = .ok (.int (a * 48271 + b * 69621)) (gg a b 0 rr) := (bin_ok m1 m2).trans rfl
    have a2 : fBin oAdd (fBin oAdd (fBin oMul (fBin oIx (fVar 0) (fC (.int 0))) (fC (.int 48271))) (fBin oMul (fBin oIx (fVar 0) (fC (.int 1))) (fC (.int 69621)))) (fC (.int 11)) [some (.loc 0), some (.int many), none] (gg a b 0 rr) = .ok (.int (a * 48271 + b * 69621 + 11)) (gg a b 0 rr) := (bin_ok a1 rfl).trans rfl
    have a3 : fBin oMod (fBi bInt (fCons (fBin oAdd (fBin oAdd (fBin oMul (fBin oIx (fVar 0) (fC (.int 0))) (fC (.int 48271))) (fBin oMul (fBin oIx (fVar 0) (fC (.int 1))) (fC (.int 69621)))) (fC (.int 11))) fNil)) (fC (.int 2147483647)) [some (.loc 0), some (.int many), none] (gg a b 0 rr) = .ok (.int ((a * 48271 + b * 69621 + 11) % 2147483647)) (gg a b 0 rr) := by
      rw [bin_ok (d := .int (a * 48271 + b * 69621 + 11)) (e := .int 2147483647) (g2 := gg a b 0 rr) ((bi_ok (cons_ok a2 rfl)).trans rfl) rfl]
      exact oMod_pos (by decide) _
    refine (seq_nx (asg_ok (ρ2 := [some (.loc 0), some (.int many), none]) (g2 := gg ((a * 48271 + b * 69621 + 11) % 2147483647) b 0 rr) a3 rfl)).trans ?_
    refine (seq_nx (asg_ok (ρ2 := [some (.loc 0), some (.int many), none]) (g2 := gg ((a * 48271 + b * 69621 + 11) % 2147483647) (b + 1) 0 rr) rfl rfl)).trans ?_
    refine seq_rt (rt_ok ?_)
    have d1 : fBin oDiv (fBin oIx (fVar 0) (fC (.int 0))) (fC (.int 7)) [some (.loc 0), some (.int many), none] (gg ((a * 48271 + b * 69621 + 11) % 2147483647) (b + 1) 0 rr) = .ok (.int (((a * 48271 + b * 69621 + 11) % 2147483647) / 7)) (gg ((a * 48271 + b * 69621 + 11) % 2147483647) (b + 1) 0 rr) := oDiv_pos (a := (a * 48271 + b * 69621 + 11) % 2147483647) (b := 7) (by decide) (by decide) _
    exact (bin_ok (d := .int ((a * 48271 + b * 69621 + 11) % 2147483647 / 7)) (e := .int many) ((bi_ok (cons_ok d1 rfl)).trans rfl) rfl).trans (oMod_pos h _)
/-- the first round's dice -/
theorem rounds_spec {d : D} {ns : List Int} (h : scrD d ns) : ∃ g, IsG g ∧ F__law_rounds [d, .int 1] [] = .ok (.lst [.loc 0]) g := by
  have dice : ∀ n : Int, ∃ g, IsG g ∧ F__law_dice [.int n] [] = .ok (.loc 0) g := by
    intro n
    have t : fB (fCh oLt oLt (fBin oSub (fC (.int 0)) (fC (.int 10))) (fVar 0) (fC (.int 10))) [some (.int n)] [] = .ok (decide (-10 < n) && decide (n < 10)) [] := by
      have q : oLt (.int (0 - 10)) (.int n) [] = .ok (.bl (decide (-10 < n))) [] := rfl
      cases e : decide (-10 < n) with
      | true =>
        exact fB_ok ((ch_tt (x := .int (0 - 10)) (y := .int n) (w := .int 10) rfl rfl (by rw [q, e]) rfl).trans rfl)
      | false =>
        exact fB_ok (ch_ff (x := .int (0 - 10)) (y := .int n) rfl rfl (by rw [q, e]))
    cases e : (decide (-10 < n) && decide (n < 10)) with
    | true =>
      refine ⟨gg (if n < 0 then -n else n) 0 2 [], ⟨_, _, _, _, rfl⟩, run_rt ?_⟩
      unfold B__law_dice
      refine seq_rt ?_
      show sIf _ _ _ [some (.int n)] [] = _
      rw [if_take (by rw [← e]; exact t)]
      rfl
    | false =>
      refine ⟨gg n (1 + n % 1009) (if decide (10 ^ 18 ≤ n) = true then 1 else 0) [], ⟨_, _, _, _, rfl⟩, run_rt ?_⟩
      unfold B__law_dice
      show sSeq _ _ [some (.int n)] [] = _
      refine (seq_nx (if_nil (by rw [← e]; exact t))).trans ?_
      refine seq_rt (rt_ok ?_)
      have m : fBin oAdd (fC (.int 1)) (fBin oMod (fBi bInt (fCons (fVar 0) fNil)) (fC (.int 1009))) [some (.int n)] [] = .ok (.int (1 + n % 1009)) [] := by
        have m0 : fBin oMod (fBi bInt (fCons (fVar 0) fNil)) (fC (.int 1009)) [some (.int n)] [] = .ok (.int (n % 1009)) [] := oMod_pos (a := n) (b := 1009) (by decide) []
        rw [bin_ok (d := .int 1) rfl m0]; rfl
      have m2 : (fBi bInt (fCons (fBin oGe (fVar 0) (fBin oPow (fC (.int 10)) (fC (.int 18)))) fNil)) [some (.int n)] [] = .ok (.int (if decide (10 ^ 18 ≤ n) = true then 1 else 0)) [] := rfl
      unfold fMut
      rw [cons_ok (d := .int n) rfl (cons_ok m (cons_ok m2 rfl))]
      rfl
  have fin : ∀ (x : Int), ∃ g, IsG g ∧ (fLc [3] (iSeq (fVar 2)) (gNm 3) fYes (fCall F__law_dice (fCons (fVar 3) fNil))) [some d, some (.int 1), some (.lst [.int x]), none] [] = .ok (.lst [.loc 0]) g := by
    intro x
    obtain ⟨g, hg, e⟩ := dice x
    refine ⟨g, hg, ?_⟩
    have e2 : fCall F__law_dice (fCons (fVar 3) fNil) [some d, some (.int 1), some (.lst [.int x]), some (.int x)] [] = .ok (.loc 0) g := e
    show (if 1 ≤ sizeLine then (lcD [3] (gNm 3) fYes (fCall F__law_dice (fCons (fVar 3) fNil)) [some d, some (.int 1), some (.lst [.int x]), none] [.int x] []).bind (fun ys g => Res.ok (D.lst ys) g) else Res.stuck) = _
    rw [if_pos (by decide)]
    unfold lcD
    show Res.bind (match fCall F__law_dice (fCons (fVar 3) fNil) [some d, some (.int 1), some (.lst [.int x]), some (.int x)] [] with
        | .ok y g3 => (lcD [3] (gNm 3) fYes (fCall F__law_dice (fCons (fVar 3) fNil)) [some d, some (.int 1), some (.lst [.int x]), none] [] g3).bind fun ys g4 => .ok (y :: ys) g4
        | _ => .stuck) _ = _
    rw [e2]
    rfl
  have cut : fSl (fVar 0) fNo (fSo (fVar 1)) [some d, some (.int 1), none, none] [] = .ok (.lst ((ns.map D.int).take 1)) [] := by
    have q := cut_take (ns.map D.int) 1
    rcases h with rfl | rfl
    · show Res.ok (D.lst (cutD (ns.map D.int) none (some 1))) [] = _
      rw [← q]; rfl
    · show Res.ok (D.lst (cutD (ns.map D.int) none (some 1))) [] = _
      rw [← q]; rfl
  have fst : ∃ x, ∀ k : FS, sSeq (sAsg (fSl (fVar 0) fNo (fSo (fVar 1))) (gNm 2)) (sSeq (sIf (fB (fBin oEq (fVar 2) (fLst fNil))) (sSeq (sAsg (fLst (fCons (fC (.int 0)) fNil)) (gNm 2)) sNil) sNil) k) [some d, some (.int 1), none, none] [] = k [some d, some (.int 1), some (.lst [.int x]), none] [] := by
    match ns, cut with
    | [], cut =>
      refine ⟨0, fun k => (seq_nx (asg_ok (ρ2 := [some d, some (.int 1), some (.lst []), none]) cut rfl)).trans ?_⟩
      rfl
    | x :: r, cut =>
      refine ⟨x, fun k => (seq_nx (asg_ok (ρ2 := [some d, some (.int 1), some (.lst [.int x]), none]) cut rfl)).trans ?_⟩
      rfl
  obtain ⟨x, hx⟩ := fst
  obtain ⟨g, hg, e⟩ := fin x
  exact ⟨g, hg, run_rt ((hx _).trans (seq_rt (rt_ok e)))⟩
end K05
end
section
set_option Elab.async false
set_option linter.all false
set_option maxRecDepth 100000
set_option maxHeartbeats 4000000
namespace K05
open PySem Dl
/-! ### the law's own loops -/
theorem mine_eq (told : Int) (spot : Nat) (x : Int) : min 7 (((x - told).natAbs : Int) / stp spot) + 8 * (if x - told < 0 then 1 else 0) = mine told spot x := by unfold mine; split <;> omega
theorem line_loop (g : G) (x0 x1 x2 x3 x5 x6 x13 x14 x15 x16 x17 x18 x19 x20 x21 x22 x23 x24 x25 x26 x27 x28 x29 x30 x31 x32 x33 x34 x35 x36 x37 : Option D) : ∀ (ns l1 l2 : List Int) (told : Int) (spot : Nat) (o4 o11 o12 : Option D), spot < 9 → l1.length + ns.length ≤ 2000 → l2.length + ns.length ≤ 2000 →
    ∃ z7 z8 z4 z11 z12, forD (gNm 4) W_law_0 (ns.map .int) (x0 :: x1 :: x2 :: x3 :: o4 :: x5 :: x6 :: some (.int told) :: some (.int spot) :: some (.lst (l1.map .int)) :: some (.lst (l2.map .int)) :: o11 :: o12 :: x13 :: x14 :: x15 :: x16 :: x17 :: x18 :: x19 :: x20 :: x21 :: x22 :: x23 :: x24 :: x25 :: x26 :: x27 :: x28 :: x29 :: x30 :: x31 :: x32 :: x33 :: x34 :: x35 :: x36 :: x37 :: []) g =
      .nx (x0 :: x1 :: x2 :: x3 :: z4 :: x5 :: x6 :: z7 :: z8 :: some (.lst ((l1 ++ foll told spot ns).map .int)) :: some (.lst ((l2 ++ tells told spot (foll told spot ns)).map .int)) :: z11 :: z12 :: x13 :: x14 :: x15 :: x16 :: x17 :: x18 :: x19 :: x20 :: x21 :: x22 :: x23 :: x24 :: x25 :: x26 :: x27 :: x28 :: x29 :: x30 :: x31 :: x32 :: x33 :: x34 :: x35 :: x36 :: x37 :: []) g
  | [], l1, l2, told, spot, o4, o11, o12, _, _, _ => ⟨_, _, _, _, _, by rw [foll, tells, List.append_nil, List.append_nil]; rfl⟩
  | n :: r, l1, l2, told, spot, o4, o11, o12, h, h1, h2 => by
    have hm := mine_rng told spot n h
    have hp := stp_pos spot h
    simp only [List.length_cons] at h1 h2
    obtain ⟨a, b, c, d, e, ih⟩ := line_loop g x0 x1 x2 x3 x5 x6 x13 x14 x15 x16 x17 x18 x19 x20 x21 x22 x23 x24 x25 x26 x27 x28 x29 x30 x31 x32 x33 x34 x35 x36 x37 r (l1 ++ [mine told spot n]) (l2 ++ [fresh told spot (mine told spot n)]) (fresh told spot (mine told spot n)) (spot' spot (mine told spot n)) (some (.int n)) (some (.int (n - told))) (some (.int (mine told spot n))) (spot'_lt _ _ h) (by simp; omega) (by simp; omega)
    refine ⟨a, b, c, d, e, ?_⟩
    have hs := law_step_spec told spot (mine told spot n) g h hm
    rw [List.map_cons, forD_turn (ρ1 := (x0 :: x1 :: x2 :: x3 :: some (.int n) :: x5 :: x6 :: some (.int told) :: some (.int spot) :: some (.lst (l1.map .int)) :: some (.lst (l2.map .int)) :: o11 :: o12 :: x13 :: x14 :: x15 :: x16 :: x17 :: x18 :: x19 :: x20 :: x21 :: x22 :: x23 :: x24 :: x25 :: x26 :: x27 :: x28 :: x29 :: x30 :: x31 :: x32 :: x33 :: x34 :: x35 :: x36 :: x37 :: [])) (g1 := g) (ρ2 := (x0 :: x1 :: x2 :: x3 :: some (.int n) :: x5 :: x6 :: some (.int (fresh told spot (mine told spot n))) :: some (.int (spot' spot (mine told spot n) : Nat)) :: some (.lst ((l1 ++ [mine told spot n]).map .int)) :: some (.lst ((l2 ++ [fresh told spot (mine told spot n)]).map .int)) :: some (.int (n - told)) :: some (.int (mine told spot n)) :: x13 :: x14 :: x15 :: x16 :: x17 :: x18 :: x19 :: x20 :: x21 :: x22 :: x23 :: x24 :: x25 :: x26 :: x27 :: x28 :: x29 :: x30 :: x31 :: x32 :: x33 :: x34 :: x35 :: x36 :: x37 :: [])) (g2 := g) rfl]
    · rw [ih]; simp [foll, tells]
    · simp (disch := first | omega | (simp; done) | (simp; omega) | fail) only [Res.bind_ok, Res.bind_err, Res.bind_stuck, Res.toS_ok, Res.toS_err, fVar_z, fVar_s, fVar_s', fC_e, fBin_e, fNil_e, fCons_e, fCall_e, fCall0_e, fBi_e, fTup_e, mkTup_ok, fLst_e, mkLst_ok, mkLst_nil, fMut_e, mkMut_ok, fIf_e, fB_bin, fTru_e, tru_bl, tru_int, fNot_e, fAnd_e, fOr_e, fCh_e, fNeg_e, fNotV_e, sNil_e, sSeq_e, seq_nx', seq_rt', seq_err', seq_ct', seq_bk', sIf_e, sErr_e, sEx_e, sRt_e, sCt_e, sBk_e, sAsg_e, gNm_e, sPar_e, sPar3_e, gTp_tup, gsNil_e, gsCons_nm, sAug_z, ite_ok, ite_nx, ite_rt, ite_int, ite_bl, ite_str, ite_tup, ite_lst, ite_cons, ite_some, oAdd_i, oSub_i, oAddI_i, oSubI_i, oLt_i, oLe_i, oGt_i, oGe_i, oEq_i, oNe_i, oIs_non, oIsNot_non, bAbs_i, bMinA_i, bMaxA_i, bInt_i, bInt_b, bLen_t, bLen_l, bList_l, bList_t, bTuple_l, bTuple_t, lstOf_end, bTuple_end, isKind_end, set_end, fMt_e, sFor_e, iSeq_e, still_l, still_t, still_s, iRng_e, enmA_l, enmA_t, zppA_l, zppA_t, forD_nil, sWh_e, sized_ok, lc_e, gn_e, fSl_e, fNo_e, fSo_e, oSl_l, oSl_t, iSeqL_e, stillG_l, stillG_t, stillG_end, List.map_cons, List.map_nil, List.length_cons, List.length_nil, List.replicate, List.cons_append, List.nil_append, List.set_cons_zero, List.set_cons_succ, decide_eq_true_eq, Bool.not_eq_true, Bool.not_true, Bool.not_false, if_true, if_false, ite_self, Bool.false_eq_true, reduceIte, Nat.reduceAdd, Nat.reduceSub, Nat.reduceLeDiff, Nat.sub_zero, Nat.zero_add, List.append_nil, Bool.not_eq_eq_eq_not, decide_not, Bool.decide_eq_true, W_law_0, tab9l _ h, oDiv_p, oMul_l, mine_eq, hs, oAdd_l, List.map_append, gTp_tup]
theorem parts_turn (rows : List Int) (bound : Int) (least : Nat) (g : G) (hl : rows.length ≤ 2000) (x0 x1 x3 x4 x5 x6 x7 x8 x9 x10 x11 x12 x21 x22 x23 x24 x25 x26 x27 x28 x29 x30 x31 x32 x33 x34 x35 x36 x37 : Option D) (acc : List P) (k : Nat) (o18 o19 o20 : Option D) (hk : k < rows.length) (hg : Good rows acc k) :
    ∃ z18 z19 z20, W_law_1 (x0 :: x1 :: some (.lst (rows.map .int)) :: x3 :: x4 :: x5 :: x6 :: x7 :: x8 :: x9 :: x10 :: x11 :: x12 :: some (.int bound) :: some (.int least) :: some (.str (mk bound rows)) :: some (.lst (acc.map encP)) :: some (.int k) :: o18 :: o19 :: o20 :: x21 :: x22 :: x23 :: x24 :: x25 :: x26 :: x27 :: x28 :: x29 :: x30 :: x31 :: x32 :: x33 :: x34 :: x35 :: x36 :: x37 :: []) g =
      .nx (x0 :: x1 :: some (.lst (rows.map .int)) :: x3 :: x4 :: x5 :: x6 :: x7 :: x8 :: x9 :: x10 :: x11 :: x12 :: some (.int bound) :: some (.int least) :: some (.str (mk bound rows)) :: some (.lst ((stepA rows bound least acc k).1.map encP)) :: some (.int ((stepA rows bound least acc k).2 : Nat)) :: z18 :: z19 :: z20 :: x21 :: x22 :: x23 :: x24 :: x25 :: x26 :: x27 :: x28 :: x29 :: x30 :: x31 :: x32 :: x33 :: x34 :: x35 :: x36 :: x37 :: []) g := by
  have ha : acc.length ≤ 2000 := by have := hg.num; omega
  have hq := qlead_le bound (rows.drop k)
  rw [List.length_drop] at hq
  have hs1 : oSl (.str (mk bound rows)) (some (k : Int)) none g = .ok (.str (mk bound (rows.drop k))) g := by
    show (if (mk bound rows).length ≤ sizeLine then Res.ok (D.str (L2.cutS (mk bound rows) (some (k : Int)) none)) g else .stuck) = _
    rw [if_pos (by rw [mk_len, sizeLine_eq]; omega), mk_cut]
  have hs2 : bLen [.str (mk bound (rows.drop k))] g = .ok (.int ((rows.length - k : Nat) : Int)) g := by
    show (if (mk bound (rows.drop k)).length ≤ sizeLine then Res.ok (D.int ((mk bound (rows.drop k)).length : Nat)) g else .stuck) = _
    rw [mk_len, List.length_drop, if_pos (by rw [sizeLine_eq]; omega)]
  have hs3 : mLstrip (.str (mk bound (rows.drop k))) [.str "q"] g = .ok (.str (Txt.lstripChars (mk bound (rows.drop k)) "q")) g := by
    show (if (mk bound (rows.drop k)).length ≤ sizeLine then Res.ok (D.str (Txt.lstripChars (mk bound (rows.drop k)) "q")) g else .stuck) = _
    rw [if_pos (by rw [mk_len, sizeLine_eq, List.length_drop]; omega)]
  have hs4 : bLen [.str (Txt.lstripChars (mk bound (rows.drop k)) "q")] g = .ok (.int ((rows.length - k - qlead bound (rows.drop k) : Nat) : Int)) g := by
    show (if (Txt.lstripChars (mk bound (rows.drop k)) "q").length ≤ sizeLine then Res.ok (D.int ((Txt.lstripChars (mk bound (rows.drop k)) "q").length : Nat)) g else .stuck) = _
    rw [mk_strip, List.length_drop, if_pos (by rw [sizeLine_eq]; omega)]
  have hs5 : isKind "str" g (.str (mk bound (rows.drop k))) = true := rfl
  generalize hm : qlead bound (rows.drop k) = m at hq hs4
  have e1 : ((rows.length - k : Nat) : Int) - ((rows.length - k - m : Nat) : Int) = (m : Int) := by omega
  by_cases hle : least ≤ m
  · have hle' : (least : Int) ≤ (m : Int) := by omega
    rw [stepA_q (by rw [hm]; exact hle), hm]
    have e2 : ((k : Int) + (m : Int)) = ((k + m : Nat) : Int) := by omega
    have app : oAdd (.lst (acc.map encP)) (.lst [.tup [.str "quiet", .int (m : Int)]]) g = .ok (.lst ((acc ++ [P.q m]).map encP)) g := by
      rw [oAdd_l (by rw [List.length_map]; simp; omega), List.map_append]; rfl
    refine ⟨some (.int (m : Int)), o19, o20, ?_⟩
    simp (disch := first | omega | (simp; done) | (simp; omega) | fail) only [Res.bind_ok, Res.bind_err, Res.bind_stuck, Res.toS_ok, Res.toS_err, fVar_z, fVar_s, fVar_s', fC_e, fBin_e, fNil_e, fCons_e, fCall_e, fCall0_e, fBi_e, fTup_e, mkTup_ok, fLst_e, mkLst_ok, mkLst_nil, fMut_e, mkMut_ok, fIf_e, fB_bin, fTru_e, tru_bl, tru_int, fNot_e, fAnd_e, fOr_e, fCh_e, fNeg_e, fNotV_e, sNil_e, sSeq_e, seq_nx', seq_rt', seq_err', seq_ct', seq_bk', sIf_e, sErr_e, sEx_e, sRt_e, sCt_e, sBk_e, sAsg_e, gNm_e, sPar_e, sPar3_e, gTp_tup, gsNil_e, gsCons_nm, sAug_z, ite_ok, ite_nx, ite_rt, ite_int, ite_bl, ite_str, ite_tup, ite_lst, ite_cons, ite_some, oAdd_i, oSub_i, oAddI_i, oSubI_i, oLt_i, oLe_i, oGt_i, oGe_i, oEq_i, oNe_i, oIs_non, oIsNot_non, bAbs_i, bMinA_i, bMaxA_i, bInt_i, bInt_b, bLen_t, bLen_l, bList_l, bList_t, bTuple_l, bTuple_t, lstOf_end, bTuple_end, isKind_end, set_end, fMt_e, sFor_e, iSeq_e, still_l, still_t, still_s, iRng_e, enmA_l, enmA_t, zppA_l, zppA_t, forD_nil, sWh_e, sized_ok, lc_e, gn_e, fSl_e, fNo_e, fSo_e, oSl_l, oSl_t, iSeqL_e, stillG_l, stillG_t, stillG_end, List.map_cons, List.map_nil, List.length_cons, List.length_nil, List.replicate, List.cons_append, List.nil_append, List.set_cons_zero, List.set_cons_succ, decide_eq_true_eq, Bool.not_eq_true, Bool.not_true, Bool.not_false, if_true, if_false, ite_self, Bool.false_eq_true, reduceIte, Nat.reduceAdd, Nat.reduceSub, Nat.reduceLeDiff, Nat.sub_zero, Nat.zero_add, List.append_nil, Bool.not_eq_eq_eq_not, decide_not, Bool.decide_eq_true, W_law_1, hs1, hs2, hs3, hs4, hs5, e1, hle', decide_true, app, e2]
  · have hle' : ¬ (least : Int) ≤ (m : Int) := by omega
    rw [stepA_l (by rw [hm]; exact hle), hm]
    have e2 : max 1 (m : Int) = ((max 1 m : Nat) : Int) := by omega
    have e3 : (k : Int) + ((max 1 m : Nat) : Int) = ((k + max 1 m : Nat) : Int) := by omega
    have hcut := sub_rows rows k (k + max 1 m) (by omega)
    have e4 : k + max 1 m - k = max 1 m := by omega
    rw [e4] at hcut
    have hloud : ((rows.drop k).take (max 1 m)).length ≤ 2000 := by rw [List.length_take, List.length_drop]; omega
    generalize hL : (rows.drop k).take (max 1 m) = loud at hcut hloud
    have app : ∀ a : List P, a.length ≤ 2000 → oAdd (.lst (a.map encP)) (.lst [.tup (loud.map .int)]) g = .ok (.lst ((a ++ [P.l loud]).map encP)) g := fun a ha => by
      rw [oAdd_l (by rw [List.length_map]; simp; omega), List.map_append]; rfl
    refine ⟨some (.int (m : Int)), some (.int ((max 1 m : Nat) : Int)), some (.tup (loud.map .int)), ?_⟩
    rcases List.eq_nil_or_concat acc with rfl | ⟨init, p, rfl⟩
    · have hn := ne_nil_l (ds := []) (g := g) rfl
      have hn' : oNe (.lst (List.map encP [])) (.lst []) g = .ok (.bl false) g := hn
      have app := app [] (by simp)
      simp (disch := first | omega | (simp; done) | (simp; omega) | fail) only [W_law_1, sAsg_e, sSeq_e, seq_nx', fVar_z, fVar_s, fVar_s', Res.bind_ok, Res.toS_ok, gNm_e, List.set_cons_zero, List.set_cons_succ, sIf_e, fB_bin, fBin_e, fBi_e, fCons_e, fNil_e, oSub_i, oGe_i, oAdd_i, fC_e, bMaxA_i, Bool.false_eq_true, if_false, fAnd_e, fLst_e, mkLst_nil, mkLst_ok, hn', fMt_e, if_true, fSl_e, fSo_e, fNo_e, oSl_l, hcut, bTuple_l, app, sNil_e, addLoud_nil, List.nil_append, hs1, hs2, hs3, hs4, hs5, e1, hle', decide_false, e2, e3, sPar_e, fIf_e]
    · rw [List.concat_eq_append] at *
      have hne : (List.map encP (init ++ [p])).isEmpty = false := by simp
      have hn := ne_nil_l (g := g) (encs_ok (init ++ [p]) 9)
      rw [hne] at hn
      have hlast : oIx (.lst ((init ++ [p]).map encP)) (.int (-1)) g = .ok (encP p) g := by
        rw [List.map_append]; exact oIx_last
      cases p with
      | q n =>
        have hx : oIx (encP (.q n)) (.int 0) g = .ok (.str "quiet") g := rfl
        have app := app (init ++ [P.q n]) ha
        rw [addLoud_q]
        simp (disch := first | omega | (simp; done) | (simp; omega) | fail) only [W_law_1, sAsg_e, sSeq_e, seq_nx', fVar_z, fVar_s, fVar_s', Res.bind_ok, Res.toS_ok, gNm_e, List.set_cons_zero, List.set_cons_succ, sIf_e, fB_bin, fBin_e, fBi_e, fCons_e, fNil_e, oSub_i, oGe_i, oAdd_i, fC_e, bMaxA_i, Bool.false_eq_true, if_false, fAnd_e, fLst_e, mkLst_nil, mkLst_ok, hn, fMt_e, if_true, fSl_e, fSo_e, fNo_e, oSl_l, hcut, bTuple_l, app, sNil_e, hs1, hs2, hs3, hs4, hs5, e1, hle', decide_false, e2, e3, sPar_e, fIf_e, Bool.not_false, fNeg_e, hlast, hx, qq_ne]
      | l xs =>
        have hxs : xs ≠ [] := hg.good (.l xs) (by simp)
        have hxl := part_len hg xs (by simp)
        obtain ⟨y, ys, rfl⟩ : ∃ y ys, xs = y :: ys := by cases xs with
          | nil => exact absurd rfl hxs
          | cons y ys => exact ⟨y, ys, rfl⟩
        have hx : oIx (encP (P.l (y :: ys))) (.int 0) g = .ok (.int y) g := oIx_t (xs := (y :: ys).map .int) (Int.le_refl 0) rfl
        have hcat : oAdd (encP (P.l (y :: ys))) (.tup (loud.map .int)) g = .ok (encP (P.l (y :: ys ++ loud))) g := by
          show oAdd (.tup ((y :: ys).map .int)) (.tup (loud.map .int)) _ = .ok (.tup ((y :: ys ++ loud).map .int)) _
          rw [oAdd_t (by rw [List.length_map, List.length_map]; omega)]; simp only [List.map_append]
        have hin : cutD ((init ++ [P.l (y :: ys)]).map encP) none (some (-1)) = init.map encP := by rw [cutD_init]; simp
        have hfin : oAdd (.lst (init.map encP)) (.lst [encP (P.l (y :: ys ++ loud))]) g = .ok (.lst ((init ++ [P.l (y :: ys ++ loud)]).map encP)) g := by
          rw [oAdd_l (by rw [List.length_map]; simp at ha ⊢; omega), List.map_append]; rfl
        rw [addLoud_l]
        simp (disch := first | omega | (simp; done) | (simp; omega) | fail) only [W_law_1, sAsg_e, sSeq_e, seq_nx', fVar_z, fVar_s, fVar_s', Res.bind_ok, Res.toS_ok, gNm_e, List.set_cons_zero, List.set_cons_succ, sIf_e, fB_bin, fBin_e, fBi_e, fCons_e, fNil_e, oSub_i, oGe_i, oAdd_i, fC_e, bMaxA_i, Bool.false_eq_true, if_false, fAnd_e, fLst_e, mkLst_nil, mkLst_ok, hn, fMt_e, if_true, fSl_e, fSo_e, fNo_e, oSl_l, hcut, bTuple_l, sNil_e, hs1, hs2, hs3, hs4, hs5, e1, hle', decide_false, e2, e3, sPar_e, fIf_e, Bool.not_false, fNeg_e, hlast, hx, ne_int_str quiet_ok, hcat, hin, hfin]
end K05
end
section
set_option Elab.async false
set_option linter.all false
set_option maxRecDepth 100000
set_option maxHeartbeats 4000000
namespace K05
open PySem Dl
theorem parts_loop (rows : List Int) (bound : Int) (least : Nat) (g : G) (hl : rows.length ≤ 2000) (h1 : 1 ≤ least) (x0 x1 x3 x4 x5 x6 x7 x8 x9 x10 x11 x12 x21 x22 x23 x24 x25 x26 x27 x28 x29 x30 x31 x32 x33 x34 x35 x36 x37 : Option D) : ∀ (m n : Nat) (acc : List P) (k : Nat) (o18 o19 o20 : Option D), rows.length - k = m → m < n → Good rows acc k →
    ∃ z17 z18 z19 z20, whileD C_law_0 W_law_1 n (x0 :: x1 :: some (.lst (rows.map .int)) :: x3 :: x4 :: x5 :: x6 :: x7 :: x8 :: x9 :: x10 :: x11 :: x12 :: some (.int bound) :: some (.int least) :: some (.str (mk bound rows)) :: some (.lst (acc.map encP)) :: some (.int k) :: o18 :: o19 :: o20 :: x21 :: x22 :: x23 :: x24 :: x25 :: x26 :: x27 :: x28 :: x29 :: x30 :: x31 :: x32 :: x33 :: x34 :: x35 :: x36 :: x37 :: []) g =
      .nx (x0 :: x1 :: some (.lst (rows.map .int)) :: x3 :: x4 :: x5 :: x6 :: x7 :: x8 :: x9 :: x10 :: x11 :: x12 :: some (.int bound) :: some (.int least) :: some (.str (mk bound rows)) :: some (.lst ((goQ rows bound least n acc k).map encP)) :: z17 :: z18 :: z19 :: z20 :: x21 :: x22 :: x23 :: x24 :: x25 :: x26 :: x27 :: x28 :: x29 :: x30 :: x31 :: x32 :: x33 :: x34 :: x35 :: x36 :: x37 :: []) g := by
  intro m
  induction m using Nat.strongRecOn with
  | ind m ih =>
    intro n acc k o18 o19 o20 hm hn hg
    obtain ⟨n, rfl⟩ : ∃ q, n = q + 1 := ⟨n - 1, by omega⟩
    have ht : C_law_0 (x0 :: x1 :: some (.lst (rows.map .int)) :: x3 :: x4 :: x5 :: x6 :: x7 :: x8 :: x9 :: x10 :: x11 :: x12 :: some (.int bound) :: some (.int least) :: some (.str (mk bound rows)) :: some (.lst (acc.map encP)) :: some (.int k) :: o18 :: o19 :: o20 :: x21 :: x22 :: x23 :: x24 :: x25 :: x26 :: x27 :: x28 :: x29 :: x30 :: x31 :: x32 :: x33 :: x34 :: x35 :: x36 :: x37 :: []) g = .ok (decide (k < rows.length)) g := by
      simp only [Res.bind_ok, Res.bind_err, Res.bind_stuck, Res.toS_ok, Res.toS_err, fVar_z, fVar_s, fVar_s', fC_e, fBin_e, fNil_e, fCons_e, fCall_e, fCall0_e, fBi_e, fTup_e, mkTup_ok, fLst_e, mkLst_ok, mkLst_nil, fMut_e, mkMut_ok, fIf_e, fB_bin, fTru_e, tru_bl, tru_int, fNot_e, fAnd_e, fOr_e, fCh_e, fNeg_e, fNotV_e, sNil_e, sSeq_e, seq_nx', seq_rt', seq_err', seq_ct', seq_bk', sIf_e, sErr_e, sEx_e, sRt_e, sCt_e, sBk_e, sAsg_e, gNm_e, sPar_e, sPar3_e, gTp_tup, gsNil_e, gsCons_nm, sAug_z, ite_ok, ite_nx, ite_rt, ite_int, ite_bl, ite_str, ite_tup, ite_lst, ite_cons, ite_some, oAdd_i, oSub_i, oAddI_i, oSubI_i, oLt_i, oLe_i, oGt_i, oGe_i, oEq_i, oNe_i, oIs_non, oIsNot_non, bAbs_i, bMinA_i, bMaxA_i, bInt_i, bInt_b, bLen_t, bLen_l, bList_l, bList_t, bTuple_l, bTuple_t, lstOf_end, bTuple_end, isKind_end, set_end, fMt_e, sFor_e, iSeq_e, still_l, still_t, still_s, iRng_e, enmA_l, enmA_t, zppA_l, zppA_t, forD_nil, sWh_e, sized_ok, lc_e, gn_e, fSl_e, fNo_e, fSo_e, oSl_l, oSl_t, iSeqL_e, stillG_l, stillG_t, stillG_end, List.map_cons, List.map_nil, List.length_cons, List.length_nil, List.replicate, List.cons_append, List.nil_append, List.set_cons_zero, List.set_cons_succ, decide_eq_true_eq, Bool.not_eq_true, Bool.not_true, Bool.not_false, if_true, if_false, ite_self, Bool.false_eq_true, reduceIte, Nat.reduceAdd, Nat.reduceSub, Nat.reduceLeDiff, Nat.sub_zero, Nat.zero_add, List.append_nil, Bool.not_eq_eq_eq_not, decide_not, Bool.decide_eq_true, C_law_0, List.length_map]
      congr 1; exact decide_eq_decide.mpr (by omega)
    by_cases hk : k < rows.length
    · have hgs := good_step (bound := bound) hg h1 hk
      obtain ⟨p18, p19, p20, ht2⟩ := parts_turn rows bound least g hl x0 x1 x3 x4 x5 x6 x7 x8 x9 x10 x11 x12 x21 x22 x23 x24 x25 x26 x27 x28 x29 x30 x31 x32 x33 x34 x35 x36 x37 acc k o18 o19 o20 hk hg
      obtain ⟨z17, z18, z19, z20, e⟩ := ih (rows.length - (stepA rows bound least acc k).2) (by have := hgs.2; omega) n (stepA rows bound least acc k).1 (stepA rows bound least acc k).2 p18 p19 p20 rfl (by have := hgs.2; omega) hgs.1
      have eg : goQ rows bound least (n + 1) acc k = goQ rows bound least n (stepA rows bound least acc k).1 (stepA rows bound least acc k).2 := by rw [goQ, if_pos hk]
      exact ⟨z17, z18, z19, z20, by rw [whileD_turn (by rw [ht, decide_eq_true hk]) ht2, e, eg]⟩
    · have eg : goQ rows bound least (n + 1) acc k = acc := by rw [goQ, if_neg hk]
      exact ⟨_, _, _, _, by rw [whileD_stop (by rw [ht, decide_eq_false hk]), eg]⟩
theorem clean_loop {far : Nat} {one under : Int} (p : Prm far one under) (g : G) (x0 x1 x2 x3 x5 x6 x7 x8 x9 x10 x11 x12 x13 x14 x15 x16 x18 x19 x20 x21 x22 x25 x28 x29 x30 x31 x32 x33 x34 x35 x36 x37 : Option D) :
    ∀ (r acc : List Int) (o17 o26 : Option D), acc.length + r.length ≤ 2000 → (∀ x ∈ acc, -8031 ≤ x ∧ x ≤ 8031) →
    ∃ z17 z26, forD (gTp 2 (gsCons (gNm 17) (gsCons (gNm 26) gsNil))) W_law_2 (enumD acc.length (r.map .int)) (x0 :: x1 :: x2 :: x3 :: some (.int one) :: x5 :: x6 :: x7 :: x8 :: x9 :: x10 :: x11 :: x12 :: x13 :: x14 :: x15 :: x16 :: o17 :: x18 :: x19 :: x20 :: x21 :: x22 :: some (.int far) :: some (.int under) :: x25 :: o26 :: some (.lst (acc.map .int)) :: x28 :: x29 :: x30 :: x31 :: x32 :: x33 :: x34 :: x35 :: x36 :: x37 :: []) g =
      .nx (x0 :: x1 :: x2 :: x3 :: some (.int one) :: x5 :: x6 :: x7 :: x8 :: x9 :: x10 :: x11 :: x12 :: x13 :: x14 :: x15 :: x16 :: z17 :: x18 :: x19 :: x20 :: x21 :: x22 :: some (.int far) :: some (.int under) :: x25 :: z26 :: some (.lst ((uecho far one under acc r).map .int)) :: x28 :: x29 :: x30 :: x31 :: x32 :: x33 :: x34 :: x35 :: x36 :: x37 :: []) g
  | [], acc, o17, o26, _, _ => ⟨_, _, rfl⟩
  | x :: r, acc, o17, o26, hl, ha => by
    simp only [List.length_cons] at hl
    obtain ⟨a, b, ih⟩ := clean_loop p g x0 x1 x2 x3 x5 x6 x7 x8 x9 x10 x11 x12 x13 x14 x15 x16 x18 x19 x20 x21 x22 x25 x28 x29 x30 x31 x32 x33 x34 x35 x36 x37 r (acc ++ [clip (x - ech one under (past far acc acc.length))]) (some (.int acc.length)) (some (.int x)) (by simp; omega) fun y hy => by
      rcases List.mem_append.mp hy with z | z
      · exact ha y z
      · rw [List.mem_singleton.mp z]; exact clip_rng _
    refine ⟨a, b, ?_⟩
    rw [List.map_cons, enumD, forD_turn (ρ1 := (x0 :: x1 :: x2 :: x3 :: some (.int one) :: x5 :: x6 :: x7 :: x8 :: x9 :: x10 :: x11 :: x12 :: x13 :: x14 :: x15 :: x16 :: some (.int acc.length) :: x18 :: x19 :: x20 :: x21 :: x22 :: some (.int far) :: some (.int under) :: x25 :: some (.int x) :: some (.lst (acc.map .int)) :: x28 :: x29 :: x30 :: x31 :: x32 :: x33 :: x34 :: x35 :: x36 :: x37 :: [])) (g1 := g) (ρ2 := (x0 :: x1 :: x2 :: x3 :: some (.int one) :: x5 :: x6 :: x7 :: x8 :: x9 :: x10 :: x11 :: x12 :: x13 :: x14 :: x15 :: x16 :: some (.int acc.length) :: x18 :: x19 :: x20 :: x21 :: x22 :: some (.int far) :: some (.int under) :: x25 :: some (.int x) :: some (.lst ((acc ++ [clip (x - ech one under (past far acc acc.length))]).map .int)) :: x28 :: x29 :: x30 :: x31 :: x32 :: x33 :: x34 :: x35 :: x36 :: x37 :: [])) (g2 := g) rfl]
    · have : (acc ++ [clip (x - ech one under (past far acc acc.length))]).length = acc.length + 1 := by simp
      rw [this] at ih
      rw [ih]; rfl
    · have hpast := past_rng (far := far) (k := acc.length) ha
      have h0 : (if (far : Int) ≤ (acc.length : Int) then (oIx (.lst (acc.map .int)) (.int ((acc.length : Int) - far)) g).bind (fun x g1 => F__law_echo [x, .int one, .int under] g1) else .ok (.int 0) g) = .ok (.int (ech one under (past far acc acc.length))) g := by
        have := p.f
        by_cases hf : far ≤ acc.length
        · rw [if_pos (by omega), past_ix rfl (Nat.le_refl _) p.f.1 g hf, Res.bind_ok, law_echo_spec p _ g hpast]
        · rw [if_neg (by omega), past_zero hf, ech_zero]
      have h0' : (if (far : Int) ≤ (acc.length : Int) then (((oIx (.lst (acc.map .int)) (.int ((acc.length : Int) - far)) g).bind fun x g1 => Res.ok [x, .int one, .int under] g1).bind fun ds g1 => F__law_echo ds g1) else .ok (.int 0) g) = .ok (.int (ech one under (past far acc acc.length))) g := by
        rw [← h0]
        by_cases hf : (far : Int) ≤ (acc.length : Int)
        · rw [if_pos hf, if_pos hf]; cases oIx (.lst (acc.map .int)) (.int ((acc.length : Int) - far)) g <;> rfl
        · rw [if_neg hf, if_neg hf]
      simp (disch := first | omega | (simp; done) | (simp; omega) | fail) only [Res.bind_ok, Res.bind_err, Res.bind_stuck, Res.toS_ok, Res.toS_err, fVar_z, fVar_s, fVar_s', fC_e, fBin_e, fNil_e, fCons_e, fCall_e, fCall0_e, fBi_e, fTup_e, mkTup_ok, fLst_e, mkLst_ok, mkLst_nil, fMut_e, mkMut_ok, fIf_e, fB_bin, fTru_e, tru_bl, tru_int, fNot_e, fAnd_e, fOr_e, fCh_e, fNeg_e, fNotV_e, sNil_e, sSeq_e, seq_nx', seq_rt', seq_err', seq_ct', seq_bk', sIf_e, sErr_e, sEx_e, sRt_e, sCt_e, sBk_e, sAsg_e, gNm_e, sPar_e, sPar3_e, gTp_tup, gsNil_e, gsCons_nm, sAug_z, ite_ok, ite_nx, ite_rt, ite_int, ite_bl, ite_str, ite_tup, ite_lst, ite_cons, ite_some, oAdd_i, oSub_i, oAddI_i, oSubI_i, oLt_i, oLe_i, oGt_i, oGe_i, oEq_i, oNe_i, oIs_non, oIsNot_non, bAbs_i, bMinA_i, bMaxA_i, bInt_i, bInt_b, bLen_t, bLen_l, bList_l, bList_t, bTuple_l, bTuple_t, lstOf_end, bTuple_end, isKind_end, set_end, fMt_e, sFor_e, iSeq_e, still_l, still_t, still_s, iRng_e, enmA_l, enmA_t, zppA_l, zppA_t, forD_nil, sWh_e, sized_ok, lc_e, gn_e, fSl_e, fNo_e, fSo_e, oSl_l, oSl_t, iSeqL_e, stillG_l, stillG_t, stillG_end, List.map_cons, List.map_nil, List.length_cons, List.length_nil, List.replicate, List.cons_append, List.nil_append, List.set_cons_zero, List.set_cons_succ, decide_eq_true_eq, Bool.not_eq_true, Bool.not_true, Bool.not_false, if_true, if_false, ite_self, Bool.false_eq_true, reduceIte, Nat.reduceAdd, Nat.reduceSub, Nat.reduceLeDiff, Nat.sub_zero, Nat.zero_add, List.append_nil, Bool.not_eq_eq_eq_not, decide_not, Bool.decide_eq_true, W_law_2, h0', oAdd_l, neg8', List.map_append]
theorem echoed_c {far : Nat} {one under : Int} (p : Prm far one under) (rows : List Int) (h : Ok rows) (g : G) (x0 x1 x3 x5 x6 x7 x8 x9 x10 x11 x12 x13 x14 x15 x16 x17 x18 x19 x20 x21 x22 x25 x26 x27 x28 x29 x30 x31 x32 x33 x34 x35 x36 x37 : Option D) :
    lcD [17, 26] (gTp 2 (gsCons (gNm 17) (gsCons (gNm 26) gsNil))) fYes Z_law_3 (x0 :: x1 :: some (.lst (rows.map .int)) :: x3 :: some (.int one) :: x5 :: x6 :: x7 :: x8 :: x9 :: x10 :: x11 :: x12 :: x13 :: x14 :: x15 :: x16 :: x17 :: x18 :: x19 :: x20 :: x21 :: x22 :: some (.int far) :: some (.int under) :: x25 :: x26 :: x27 :: x28 :: x29 :: x30 :: x31 :: x32 :: x33 :: x34 :: x35 :: x36 :: x37 :: []) (enumD 0 (rows.map .int)) g = .ok ((wecho far one under rows).map .int) g := by
  unfold wecho
  rw [mapFrom_map]
  refine lcD_enum (enc := D.int) rows 0 fun i x hx => ⟨_, rfl, ?_⟩
  rw [Nat.zero_add]
  have hi := (List.getElem?_eq_some_iff.mp hx).1
  have hpast := past_rng (far := far) (k := i) h.1
  have h0' : (if (far : Int) ≤ (i : Int) then (((oIx (.lst (rows.map .int)) (.int ((i : Int) - far)) g).bind fun x g1 => Res.ok [x, .int one, .int under] g1).bind fun ds g1 => F__law_echo ds g1) else .ok (.int 0) g) = .ok (.int (ech one under (past far rows i))) g := by
    have := p.f
    by_cases hf : far ≤ i
    · rw [if_pos (by omega), past_ix rfl (by omega) p.f.1 g hf]; simp only [Res.bind_ok]; exact law_echo_spec p _ g hpast
    · rw [if_neg (by omega), past_zero hf, ech_zero]
  simp (disch := first | omega | (simp; done) | (simp; omega) | fail) only [Res.bind_ok, Res.bind_err, Res.bind_stuck, Res.toS_ok, Res.toS_err, fVar_z, fVar_s, fVar_s', fC_e, fBin_e, fNil_e, fCons_e, fCall_e, fCall0_e, fBi_e, fTup_e, mkTup_ok, fLst_e, mkLst_ok, mkLst_nil, fMut_e, mkMut_ok, fIf_e, fB_bin, fTru_e, tru_bl, tru_int, fNot_e, fAnd_e, fOr_e, fCh_e, fNeg_e, fNotV_e, sNil_e, sSeq_e, seq_nx', seq_rt', seq_err', seq_ct', seq_bk', sIf_e, sErr_e, sEx_e, sRt_e, sCt_e, sBk_e, sAsg_e, gNm_e, sPar_e, sPar3_e, gTp_tup, gsNil_e, gsCons_nm, sAug_z, ite_ok, ite_nx, ite_rt, ite_int, ite_bl, ite_str, ite_tup, ite_lst, ite_cons, ite_some, oAdd_i, oSub_i, oAddI_i, oSubI_i, oLt_i, oLe_i, oGt_i, oGe_i, oEq_i, oNe_i, oIs_non, oIsNot_non, bAbs_i, bMinA_i, bMaxA_i, bInt_i, bInt_b, bLen_t, bLen_l, bList_l, bList_t, bTuple_l, bTuple_t, lstOf_end, bTuple_end, isKind_end, set_end, fMt_e, sFor_e, iSeq_e, still_l, still_t, still_s, iRng_e, enmA_l, enmA_t, zppA_l, zppA_t, forD_nil, sWh_e, sized_ok, lc_e, gn_e, fSl_e, fNo_e, fSo_e, oSl_l, oSl_t, iSeqL_e, stillG_l, stillG_t, stillG_end, List.map_cons, List.map_nil, List.length_cons, List.length_nil, List.replicate, List.cons_append, List.nil_append, List.set_cons_zero, List.set_cons_succ, decide_eq_true_eq, Bool.not_eq_true, Bool.not_true, Bool.not_false, if_true, if_false, ite_self, Bool.false_eq_true, reduceIte, Nat.reduceAdd, Nat.reduceSub, Nat.reduceLeDiff, Nat.sub_zero, Nat.zero_add, List.append_nil, Bool.not_eq_eq_eq_not, decide_not, Bool.decide_eq_true, wipeD, Z_law_3, h0', neg8']
theorem fillL_turn (rows lost : List Int) (hr : rows.length ≤ 2000) (g : G) (x0 x1 x3 x4 x5 x6 x7 x8 x9 x10 x11 x12 x13 x14 x15 x16 x18 x19 x20 x21 x22 x23 x24 x25 x27 x28 x29 x30 x31 x32 x33 x37 : Option D) (acc : List Int) (k : Nat) (n : Int) (hkl : k < rows.length) (ha : acc.length ≤ 2000) (o36 : Option D) :
    ∃ z36, W_law_3 (x0 :: x1 :: some (.lst (rows.map .int)) :: x3 :: x4 :: x5 :: x6 :: x7 :: x8 :: x9 :: x10 :: x11 :: x12 :: x13 :: x14 :: x15 :: x16 :: some (.int k) :: x18 :: x19 :: x20 :: x21 :: x22 :: x23 :: x24 :: x25 :: some (.int n) :: x27 :: x28 :: x29 :: x30 :: x31 :: x32 :: x33 :: some (.lst (lost.map .int)) :: some (.lst (acc.map .int)) :: o36 :: x37 :: []) g =
      .nx (x0 :: x1 :: some (.lst (rows.map .int)) :: x3 :: x4 :: x5 :: x6 :: x7 :: x8 :: x9 :: x10 :: x11 :: x12 :: x13 :: x14 :: x15 :: x16 :: some (.int k) :: x18 :: x19 :: x20 :: x21 :: x22 :: x23 :: x24 :: x25 :: some (.int n) :: x27 :: x28 :: x29 :: x30 :: x31 :: x32 :: x33 :: some (.lst (lost.map .int)) :: some (.lst ((acc ++ [fillV rows lost k n]).map .int)) :: z36 :: x37 :: []) g := by
  have hn : ∀ z : Int, oNInK (.int z) (.lst (lost.map .int)) g = .ok (.bl (!decide (z ∈ lost))) g := fun z => oNIn_il z lost
  have hp : ∀ (lo : Int) (m : Nat), 0 ≤ lo → lo + m ≤ rows.length → lcD [37] (gNm 37) (fB (fBin oNInK (fVar 37) (fVar 34))) (fBin oIx (fVar 2) (fVar 37)) (x0 :: x1 :: some (.lst (rows.map .int)) :: x3 :: x4 :: x5 :: x6 :: x7 :: x8 :: x9 :: x10 :: x11 :: x12 :: x13 :: x14 :: x15 :: x16 :: some (.int k) :: x18 :: x19 :: x20 :: x21 :: x22 :: x23 :: x24 :: x25 :: some (.int n) :: x27 :: x28 :: x29 :: x30 :: x31 :: x32 :: x33 :: some (.lst (lost.map .int)) :: some (.lst (acc.map .int)) :: o36 :: x37 :: []) (rangeD lo m) g = .ok ((pick rows lost lo m).map .int) g := fun lo m h0 h1 =>
    lcD_pick rows lost lo m fun z hz1 hz2 => ⟨_, rfl, by simp only [Res.bind_ok, Res.bind_err, Res.bind_stuck, Res.toS_ok, Res.toS_err, fVar_z, fVar_s, fVar_s', fC_e, fBin_e, fNil_e, fCons_e, fCall_e, fCall0_e, fBi_e, fTup_e, mkTup_ok, fLst_e, mkLst_ok, mkLst_nil, fMut_e, mkMut_ok, fIf_e, fB_bin, fTru_e, tru_bl, tru_int, fNot_e, fAnd_e, fOr_e, fCh_e, fNeg_e, fNotV_e, sNil_e, sSeq_e, seq_nx', seq_rt', seq_err', seq_ct', seq_bk', sIf_e, sErr_e, sEx_e, sRt_e, sCt_e, sBk_e, sAsg_e, gNm_e, sPar_e, sPar3_e, gTp_tup, gsNil_e, gsCons_nm, sAug_z, ite_ok, ite_nx, ite_rt, ite_int, ite_bl, ite_str, ite_tup, ite_lst, ite_cons, ite_some, oAdd_i, oSub_i, oAddI_i, oSubI_i, oLt_i, oLe_i, oGt_i, oGe_i, oEq_i, oNe_i, oIs_non, oIsNot_non, bAbs_i, bMinA_i, bMaxA_i, bInt_i, bInt_b, bLen_t, bLen_l, bList_l, bList_t, bTuple_l, bTuple_t, lstOf_end, bTuple_end, isKind_end, set_end, fMt_e, sFor_e, iSeq_e, still_l, still_t, still_s, iRng_e, enmA_l, enmA_t, zppA_l, zppA_t, forD_nil, sWh_e, sized_ok, lc_e, gn_e, fSl_e, fNo_e, fSo_e, oSl_l, oSl_t, iSeqL_e, stillG_l, stillG_t, stillG_end, List.map_cons, List.map_nil, List.length_cons, List.length_nil, List.replicate, List.cons_append, List.nil_append, List.set_cons_zero, List.set_cons_succ, decide_eq_true_eq, Bool.not_eq_true, Bool.not_true, Bool.not_false, if_true, if_false, ite_self, Bool.false_eq_true, reduceIte, Nat.reduceAdd, Nat.reduceSub, Nat.reduceLeDiff, Nat.sub_zero, Nat.zero_add, List.append_nil, Bool.not_eq_eq_eq_not, decide_not, Bool.decide_eq_true, wipeD, hn], by simp only [Res.bind_ok, Res.bind_err, Res.bind_stuck, Res.toS_ok, Res.toS_err, fVar_z, fVar_s, fVar_s', fC_e, fBin_e, fNil_e, fCons_e, fCall_e, fCall0_e, fBi_e, fTup_e, mkTup_ok, fLst_e, mkLst_ok, mkLst_nil, fMut_e, mkMut_ok, fIf_e, fB_bin, fTru_e, tru_bl, tru_int, fNot_e, fAnd_e, fOr_e, fCh_e, fNeg_e, fNotV_e, sNil_e, sSeq_e, seq_nx', seq_rt', seq_err', seq_ct', seq_bk', sIf_e, sErr_e, sEx_e, sRt_e, sCt_e, sBk_e, sAsg_e, gNm_e, sPar_e, sPar3_e, gTp_tup, gsNil_e, gsCons_nm, sAug_z, ite_ok, ite_nx, ite_rt, ite_int, ite_bl, ite_str, ite_tup, ite_lst, ite_cons, ite_some, oAdd_i, oSub_i, oAddI_i, oSubI_i, oLt_i, oLe_i, oGt_i, oGe_i, oEq_i, oNe_i, oIs_non, oIsNot_non, bAbs_i, bMinA_i, bMaxA_i, bInt_i, bInt_b, bLen_t, bLen_l, bList_l, bList_t, bTuple_l, bTuple_t, lstOf_end, bTuple_end, isKind_end, set_end, fMt_e, sFor_e, iSeq_e, still_l, still_t, still_s, iRng_e, enmA_l, enmA_t, zppA_l, zppA_t, forD_nil, sWh_e, sized_ok, lc_e, gn_e, fSl_e, fNo_e, fSo_e, oSl_l, oSl_t, iSeqL_e, stillG_l, stillG_t, stillG_end, List.map_cons, List.map_nil, List.length_cons, List.length_nil, List.replicate, List.cons_append, List.nil_append, List.set_cons_zero, List.set_cons_succ, decide_eq_true_eq, Bool.not_eq_true, Bool.not_true, Bool.not_false, if_true, if_false, ite_self, Bool.false_eq_true, reduceIte, Nat.reduceAdd, Nat.reduceSub, Nat.reduceLeDiff, Nat.sub_zero, Nat.zero_add, List.append_nil, Bool.not_eq_eq_eq_not, decide_not, Bool.decide_eq_true, wipeD, getD_ix (show 0 ≤ z ∧ z < rows.length by omega)]⟩
  have r1 : rng1 [.int (k : Int)] = some (rangeD 0 k) := by rw [rng1_p (by omega), Int.toNat_natCast]
  have r2 : rng2 [.int ((k : Int) + 1), .int (rows.length : Int)] = some (rangeD ((k : Int) + 1) (rows.length - (k + 1))) := by
    have e : ((rows.length : Int) - ((k : Int) + 1)).toNat = rows.length - (k + 1) := by omega
    rw [rng2_p (by omega) (by omega), e]
  have z1 : (rangeD 0 k).length ≤ 16777216 := by unfold rangeD; rw [List.length_map, List.length_range]; omega
  have z2 : (rangeD ((k : Int) + 1) (rows.length - (k + 1))).length ≤ 16777216 := by unfold rangeD; rw [List.length_map, List.length_range]; omega
  have c1 : cutD ((pick rows lost 0 k).map D.int) (some (-1)) none = ((pick rows lost 0 k).drop ((pick rows lost 0 k).length - 1)).map .int := by rw [cutD_last, List.length_map, List.map_drop]
  have c2 : cutD ((pick rows lost ((k : Int) + 1) (rows.length - (k + 1))).map D.int) none (some 1) = ((pick rows lost ((k : Int) + 1) (rows.length - (k + 1))).take 1).map .int := by rw [cutD_to (by omega), ← List.map_take]; rfl
  have hcat : oAdd (.lst (((pick rows lost 0 k).drop ((pick rows lost 0 k).length - 1)).map D.int)) (.lst (((pick rows lost ((k : Int) + 1) (rows.length - (k + 1))).take 1).map .int)) g = .ok (.lst ((near rows lost k).map .int)) g := by
    have := near_len rows lost k
    unfold near at this
    rw [List.length_append] at this
    rw [oAdd_l (by rw [List.length_map, List.length_map]; omega), ← List.map_append]; rfl
  have hne : oNe (.lst ((near rows lost k).map D.int)) (.lst []) g = .ok (.bl (!decide (near rows lost k = []))) g := oNe_il (near rows lost k) []
  have hsum := bSumA_l (g := g) (near rows lost k)
  have hv := near_val rows lost k n g
  have hap : oAdd (.lst (acc.map .int)) (.lst [.int (fillV rows lost k n)]) g = .ok (.lst ((acc ++ [fillV rows lost k n]).map .int)) g := by
    rw [oAdd_l (by rw [List.length_map]; simp; omega), List.map_append]; rfl
  refine ⟨some (.lst ((near rows lost k).map .int)), ?_⟩
  have h9 : (if (!decide ((k : Int) ∈ lost)) = true then Res.ok (D.int n) g else if (!decide (near rows lost k = [])) = true then oDiv (.int (near rows lost k).sum) (.int ((near rows lost k).length : Nat)) g else Res.ok (D.int 0) g) = .ok (.int (fillV rows lost k n)) g := by
    rw [← hv]
    by_cases a : (k : Int) ∈ lost <;> by_cases b : near rows lost k = [] <;> simp [a, b]
  simp (disch := first | exact z1 | exact z2 | omega | (simp; done) | fail) only [fVar_z, fVar_s, fVar_s', fC_e, fBin_e, fNil_e, fCons_e, fBi_e, fIf_e, fB_bin, fNeg_e, sNil_e, sSeq_e, seq_nx', sEx_e, sAsg_e, gNm_e, Res.bind_ok, Res.toS_ok, lc_e, iRng_e, sized_ok, fSl_e, fNo_e, fSo_e, oSl_l, fLst_e, mkLst_nil, mkLst_ok, List.set_cons_zero, List.set_cons_succ, bLen_l, List.length_map, oAdd_i, W_law_3, hp, r1, r2, c1, c2, hcat, hne, hsum, hn, if_true, h9, hap, Int.le_refl]
theorem fillL_loop (rows lost : List Int) (hr : rows.length ≤ 2000) (g : G) (x0 x1 x3 x4 x5 x6 x7 x8 x9 x10 x11 x12 x13 x14 x15 x16 x18 x19 x20 x21 x22 x23 x24 x25 x27 x28 x29 x30 x31 x32 x33 x37 : Option D) : ∀ (r acc : List Int) (k : Nat) (o17 o26 o36 : Option D), k + r.length = rows.length → acc.length = k →
    ∃ z17 z26 z36, forD (gTp 2 (gsCons (gNm 17) (gsCons (gNm 26) gsNil))) W_law_3 (enumD k (r.map .int)) (x0 :: x1 :: some (.lst (rows.map .int)) :: x3 :: x4 :: x5 :: x6 :: x7 :: x8 :: x9 :: x10 :: x11 :: x12 :: x13 :: x14 :: x15 :: x16 :: o17 :: x18 :: x19 :: x20 :: x21 :: x22 :: x23 :: x24 :: x25 :: o26 :: x27 :: x28 :: x29 :: x30 :: x31 :: x32 :: x33 :: some (.lst (lost.map .int)) :: some (.lst (acc.map .int)) :: o36 :: x37 :: []) g =
      .nx (x0 :: x1 :: some (.lst (rows.map .int)) :: x3 :: x4 :: x5 :: x6 :: x7 :: x8 :: x9 :: x10 :: x11 :: x12 :: x13 :: x14 :: x15 :: x16 :: z17 :: x18 :: x19 :: x20 :: x21 :: x22 :: x23 :: x24 :: x25 :: z26 :: x27 :: x28 :: x29 :: x30 :: x31 :: x32 :: x33 :: some (.lst (lost.map .int)) :: some (.lst ((acc ++ mapFrom (fillV rows lost) k r).map .int)) :: z36 :: x37 :: []) g
  | [], acc, k, o17, o26, o36, _, _ => ⟨_, _, _, by rw [mapFrom, List.append_nil]; rfl⟩
  | n :: r, acc, k, o17, o26, o36, hl, ha => by
    simp only [List.length_cons] at hl
    obtain ⟨a, ht⟩ := fillL_turn rows lost hr g x0 x1 x3 x4 x5 x6 x7 x8 x9 x10 x11 x12 x13 x14 x15 x16 x18 x19 x20 x21 x22 x23 x24 x25 x27 x28 x29 x30 x31 x32 x33 x37 acc k n (by omega) (by omega) o36
    obtain ⟨b, c, d, ih⟩ := fillL_loop rows lost hr g x0 x1 x3 x4 x5 x6 x7 x8 x9 x10 x11 x12 x13 x14 x15 x16 x18 x19 x20 x21 x22 x23 x24 x25 x27 x28 x29 x30 x31 x32 x33 x37 r (acc ++ [fillV rows lost k n]) (k + 1) (some (.int k)) (some (.int n)) a (by omega) (by simp; omega)
    exact ⟨b, c, d, by rw [List.map_cons, enumD, forD_turn (ρ1 := (x0 :: x1 :: some (.lst (rows.map .int)) :: x3 :: x4 :: x5 :: x6 :: x7 :: x8 :: x9 :: x10 :: x11 :: x12 :: x13 :: x14 :: x15 :: x16 :: some (.int k) :: x18 :: x19 :: x20 :: x21 :: x22 :: x23 :: x24 :: x25 :: some (.int n) :: x27 :: x28 :: x29 :: x30 :: x31 :: x32 :: x33 :: some (.lst (lost.map .int)) :: some (.lst (acc.map .int)) :: o36 :: x37 :: [])) (g1 := g) rfl ht, ih]; simp [mapFrom]⟩
end K05
end
section
set_option Elab.async false
set_option linter.all false
set_option maxRecDepth 100000
set_option maxHeartbeats 4000000
namespace K05
open PySem Dl
/-! ### drawn samples -/
theorem draw_spec {g : G} (hg : IsG g) : ∃ rows g1, IsG g1 ∧ Ok rows ∧ rows.length ≤ 13 ∧ F__law_draw [.loc 0, .int 14] g = .ok (.lst (rows.map .int)) g1 := by
  obtain ⟨r0, g1, hg1, l0, u0, e0⟩ := roll_spec hg (many := 3) (by decide) (by decide)
  obtain ⟨top, ht, htl⟩ : ∃ top : Int, (1 ≤ top ∧ top ≤ 8032) ∧ ∀ g, oIx (.lst [.int 8032, .int 40, .int 300]) (.int r0) g = .ok (.int top) g := by
    have : r0 = 0 ∨ r0 = 1 ∨ r0 = 2 := by omega
    rcases this with rfl | rfl | rfl
    · exact ⟨8032, by omega, fun g => rfl⟩
    · exact ⟨40, by omega, fun g => rfl⟩
    · exact ⟨300, by omega, fun g => rfl⟩
  obtain ⟨n, g2, hg2, l1, u1, e1⟩ := roll_spec hg1 (many := 14) (by decide) (by decide)
  have hr : rng1 [.int n] = some (rangeD 0 n.toNat) := rng1_p (by omega)
  have hz : (rangeD 0 n.toNat).length ≤ 16777216 := by unfold rangeD; rw [List.length_map, List.length_range]; omega
  obtain ⟨rows, g3, e2, hg3, e3, e4⟩ := lcD_inv (ρ := [some (.loc 0), some (.int 14), some (.int top), none]) (vs := [3]) (fg := gNm 3) (fe := Z__law_draw_0) (I := IsG) (V := fun x => -8031 ≤ x ∧ x ≤ 8031) (rangeD 0 n.toNat) g2 hg2 fun d _ g hg => by
    obtain ⟨a, ga, hga, la, ua, ea⟩ := roll_spec hg (many := 3) (by decide) (by decide)
    have ix : ∀ b : Int, 0 ≤ b → b < 2 → ∀ g, oIx (.lst [.int 1, .int (-1)]) (.int b) g = .ok (.int (if b = 0 then 1 else -1)) g := fun b h0 h1 g => by
      have : b = 0 ∨ b = 1 := by omega
      rcases this with rfl | rfl <;> rfl
    have mulr : ∀ (v b : Int) (g : G), oMul (.int v) (.int (if b = 0 then 1 else -1)) g = .ok (.int (v * if b = 0 then 1 else -1)) g := fun v b g => oMul_r (by split <;> omega)
    by_cases ha : 0 < a
    · obtain ⟨v, gv, hgv, lv, uv, ev⟩ := roll_spec hga (many := top) (by omega) (by omega)
      obtain ⟨b, gb, hgb, lb, ub, eb⟩ := roll_spec hgv (many := 2) (by decide) (by decide)
      refine ⟨_, v * (if b = 0 then 1 else -1), gb, rfl, ?_, hgb, ?_⟩
      · simp (disch := first | omega | (simp; done) | (simp; omega) | fail) only [Res.bind_ok, Res.bind_err, Res.bind_stuck, Res.toS_ok, Res.toS_err, fVar_z, fVar_s, fVar_s', fC_e, fBin_e, fNil_e, fCons_e, fCall_e, fCall0_e, fBi_e, fTup_e, mkTup_ok, fLst_e, mkLst_ok, mkLst_nil, fMut_e, mkMut_ok, fIf_e, fB_bin, fTru_e, tru_bl, tru_int, fNot_e, fAnd_e, fOr_e, fCh_e, fNeg_e, fNotV_e, sNil_e, sSeq_e, seq_nx', seq_rt', seq_err', seq_ct', seq_bk', sIf_e, sErr_e, sEx_e, sRt_e, sCt_e, sBk_e, sAsg_e, gNm_e, sPar_e, sPar3_e, gTp_tup, gsNil_e, gsCons_nm, sAug_z, ite_ok, ite_nx, ite_rt, ite_int, ite_bl, ite_str, ite_tup, ite_lst, ite_cons, ite_some, oAdd_i, oSub_i, oAddI_i, oSubI_i, oLt_i, oLe_i, oGt_i, oGe_i, oEq_i, oNe_i, oIs_non, oIsNot_non, bAbs_i, bMinA_i, bMaxA_i, bInt_i, bInt_b, bLen_t, bLen_l, bList_l, bList_t, bTuple_l, bTuple_t, lstOf_end, bTuple_end, isKind_end, set_end, fMt_e, sFor_e, iSeq_e, still_l, still_t, still_s, iRng_e, enmA_l, enmA_t, zppA_l, zppA_t, forD_nil, sWh_e, sized_ok, lc_e, gn_e, fSl_e, fNo_e, fSo_e, oSl_l, oSl_t, iSeqL_e, stillG_l, stillG_t, stillG_end, List.map_cons, List.map_nil, List.length_cons, List.length_nil, List.replicate, List.cons_append, List.nil_append, List.set_cons_zero, List.set_cons_succ, decide_eq_true_eq, Bool.not_eq_true, Bool.not_true, Bool.not_false, if_true, if_false, ite_self, Bool.false_eq_true, reduceIte, Nat.reduceAdd, Nat.reduceSub, Nat.reduceLeDiff, Nat.sub_zero, Nat.zero_add, List.append_nil, Bool.not_eq_eq_eq_not, decide_not, Bool.decide_eq_true, Z__law_draw_0, wipeD, ea, ha, decide_true, ev, eb, ix b lb ub, mulr]
      · split <;> omega
    · obtain ⟨b, gb, hgb, lb, ub, eb⟩ := roll_spec hga (many := 2) (by decide) (by decide)
      refine ⟨_, 0 * (if b = 0 then 1 else -1), gb, rfl, ?_, hgb, ?_⟩
      · simp (disch := first | omega | (simp; done) | (simp; omega) | fail) only [Res.bind_ok, Res.bind_err, Res.bind_stuck, Res.toS_ok, Res.toS_err, fVar_z, fVar_s, fVar_s', fC_e, fBin_e, fNil_e, fCons_e, fCall_e, fCall0_e, fBi_e, fTup_e, mkTup_ok, fLst_e, mkLst_ok, mkLst_nil, fMut_e, mkMut_ok, fIf_e, fB_bin, fTru_e, tru_bl, tru_int, fNot_e, fAnd_e, fOr_e, fCh_e, fNeg_e, fNotV_e, sNil_e, sSeq_e, seq_nx', seq_rt', seq_err', seq_ct', seq_bk', sIf_e, sErr_e, sEx_e, sRt_e, sCt_e, sBk_e, sAsg_e, gNm_e, sPar_e, sPar3_e, gTp_tup, gsNil_e, gsCons_nm, sAug_z, ite_ok, ite_nx, ite_rt, ite_int, ite_bl, ite_str, ite_tup, ite_lst, ite_cons, ite_some, oAdd_i, oSub_i, oAddI_i, oSubI_i, oLt_i, oLe_i, oGt_i, oGe_i, oEq_i, oNe_i, oIs_non, oIsNot_non, bAbs_i, bMinA_i, bMaxA_i, bInt_i, bInt_b, bLen_t, bLen_l, bList_l, bList_t, bTuple_l, bTuple_t, lstOf_end, bTuple_end, isKind_end, set_end, fMt_e, sFor_e, iSeq_e, still_l, still_t, still_s, iRng_e, enmA_l, enmA_t, zppA_l, zppA_t, forD_nil, sWh_e, sized_ok, lc_e, gn_e, fSl_e, fNo_e, fSo_e, oSl_l, oSl_t, iSeqL_e, stillG_l, stillG_t, stillG_end, List.map_cons, List.map_nil, List.length_cons, List.length_nil, List.replicate, List.cons_append, List.nil_append, List.set_cons_zero, List.set_cons_succ, decide_eq_true_eq, Bool.not_eq_true, Bool.not_true, Bool.not_false, if_true, if_false, ite_self, Bool.false_eq_true, reduceIte, Nat.reduceAdd, Nat.reduceSub, Nat.reduceLeDiff, Nat.sub_zero, Nat.zero_add, List.append_nil, Bool.not_eq_eq_eq_not, decide_not, Bool.decide_eq_true, Z__law_draw_0, wipeD, ea, ha, decide_false, eb, ix b lb ub, mulr]
      · split <;> omega
  have hlen : rows.length ≤ 13 := by rw [e3]; unfold rangeD; rw [List.length_map, List.length_range]; omega
  refine ⟨rows, g3, hg3, ⟨e4, by omega⟩, hlen, run_rt ?_⟩
  simp (disch := first | omega | (simp; done) | (simp; omega) | fail) only [Res.bind_ok, Res.bind_err, Res.bind_stuck, Res.toS_ok, Res.toS_err, fVar_z, fVar_s, fVar_s', fC_e, fBin_e, fNil_e, fCons_e, fCall_e, fCall0_e, fBi_e, fTup_e, mkTup_ok, fLst_e, mkLst_ok, mkLst_nil, fMut_e, mkMut_ok, fIf_e, fB_bin, fTru_e, tru_bl, tru_int, fNot_e, fAnd_e, fOr_e, fCh_e, fNeg_e, fNotV_e, sNil_e, sSeq_e, seq_nx', seq_rt', seq_err', seq_ct', seq_bk', sIf_e, sErr_e, sEx_e, sRt_e, sCt_e, sBk_e, sAsg_e, gNm_e, sPar_e, sPar3_e, gTp_tup, gsNil_e, gsCons_nm, sAug_z, ite_ok, ite_nx, ite_rt, ite_int, ite_bl, ite_str, ite_tup, ite_lst, ite_cons, ite_some, oAdd_i, oSub_i, oAddI_i, oSubI_i, oLt_i, oLe_i, oGt_i, oGe_i, oEq_i, oNe_i, oIs_non, oIsNot_non, bAbs_i, bMinA_i, bMaxA_i, bInt_i, bInt_b, bLen_t, bLen_l, bList_l, bList_t, bTuple_l, bTuple_t, lstOf_end, bTuple_end, isKind_end, set_end, fMt_e, sFor_e, iSeq_e, still_l, still_t, still_s, iRng_e, enmA_l, enmA_t, zppA_l, zppA_t, forD_nil, sWh_e, sized_ok, lc_e, gn_e, fSl_e, fNo_e, fSo_e, oSl_l, oSl_t, iSeqL_e, stillG_l, stillG_t, stillG_end, List.map_cons, List.map_nil, List.length_cons, List.length_nil, List.replicate, List.cons_append, List.nil_append, List.set_cons_zero, List.set_cons_succ, decide_eq_true_eq, Bool.not_eq_true, Bool.not_true, Bool.not_false, if_true, if_false, ite_self, Bool.false_eq_true, reduceIte, Nat.reduceAdd, Nat.reduceSub, Nat.reduceLeDiff, Nat.sub_zero, Nat.zero_add, List.append_nil, Bool.not_eq_eq_eq_not, decide_not, Bool.decide_eq_true, B__law_draw, e0, htl, e1, hr, sized_ok hz, e2]
/-! ### the law's comprehensions -/
section
variable {ρ : Env'} {g : G}
theorem f4 (h : ρ.length = 38) (d : D) : fVar 4 ((wipeD ρ [4]).set 4 (some d)) g = .ok d g := fVar_set (by simp [wipeD, h])
theorem f6 (h : ρ.length = 38) (d : D) : fVar 6 ((wipeD ρ [6]).set 6 (some d)) g = .ok d g := fVar_set (by simp [wipeD, h])
theorem f26 (h : ρ.length = 38) (d : D) : fVar 26 ((wipeD ρ [26]).set 26 (some d)) g = .ok d g := fVar_set (by simp [wipeD, h])
theorem codes_c (h : ρ.length = 38) {rows : List Int} (hr : Ok rows) : lcD [4] (gNm 4) fYes (fCall F__law_press (fCons (fVar 4) fNil)) ρ (rows.map .int) g = .ok ((rows.map press).map .int) g := by
  rw [List.map_map]
  exact lcD_map (enc := D.int) (v := D.int ∘ press) rows fun x hx => ⟨_, rfl, by simp only [fCall_e, fCons_e, f4 h, fNil_e, Res.bind_ok, law_press_spec, press_eq x (hr.1 x hx)]; rfl⟩
theorem pressed_c (h : ρ.length = 38) {rows : List Int} (hr : Ok rows) : lcD [4] (gNm 4) fYes (fCall F_pressed (fCons (fVar 4) fNil)) ρ (rows.map .int) g = .ok ((rows.map press).map .int) g := by
  rw [List.map_map]
  exact lcD_map (enc := D.int) (v := D.int ∘ press) rows fun x hx => ⟨_, rfl, by simp only [fCall_e, fCons_e, f4 h, fNil_e, Res.bind_ok, pressed_spec x _ (hr.1 x hx)]; rfl⟩
theorem opened_c (h : ρ.length = 38) {cs : List Int} (hr : ∀ c ∈ cs, 0 ≤ c ∧ c < 256) : lcD [6] (gNm 6) fYes (fCall F_opened (fCons (fVar 6) fNil)) ρ (cs.map .int) g = .ok ((cs.map opn).map .int) g := by
  rw [List.map_map]
  exact lcD_map (enc := D.int) (v := D.int ∘ opn) cs fun x hx => ⟨_, rfl, by simp only [fCall_e, fCons_e, f6 h, fNil_e, Res.bind_ok, opened_spec x _ (hr x hx)]; rfl⟩
theorem lopened_c (h : ρ.length = 38) {cs : List Int} (hr : ∀ c ∈ cs, 0 ≤ c ∧ c < 256) : lcD [6] (gNm 6) fYes (fCall F__law_open (fCons (fVar 6) fNil)) ρ (cs.map .int) g = .ok ((cs.map opn).map .int) g := by
  rw [List.map_map]
  exact lcD_map (enc := D.int) (v := D.int ∘ opn) cs fun x hx => ⟨_, rfl, by simp only [fCall_e, fCons_e, f6 h, fNil_e, Res.bind_ok, law_open_spec x _ (hr x hx), (opn_eq x (hr x hx)).1]; rfl⟩
theorem gaps_c (h : ρ.length = 38) {rows : List Int} (hr : Ok rows) : lcD [4, 6] (gTp 2 (gsCons (gNm 4) (gsCons (gNm 6) gsNil))) fYes Z_law_0 ρ (zipD (rows.map .int) ((rows.map press).map .int)) g = .ok ((rows.map gap).map .int) g := by
  have e : zipD (rows.map .int) ((rows.map press).map .int) = rows.map fun x => .tup [.int x, .int (press x)] := by
    clear hr
    induction rows with
    | nil => rfl
    | cons x r ih => simp only [List.map_cons, zipD, ih]
  rw [e, List.map_map]
  refine lcD_map (v := D.int ∘ gap) rows fun x hx => ⟨((wipeD ρ [4, 6]).set 4 (some (.int x))).set 6 (some (.int (press x))), rfl, ?_⟩
  have h4 : ∀ g, fVar 4 (((wipeD ρ [4, 6]).set 4 (some (.int x))).set 6 (some (.int (press x)))) g = .ok (.int x) g := fun g => by
    rw [fVar_ne (by decide)]; exact fVar_set (by simp [wipeD, h])
  have h6 : ∀ g, fVar 6 (((wipeD ρ [4, 6]).set 4 (some (.int x))).set 6 (some (.int (press x)))) g = .ok (.int (press x)) g := fun g => fVar_set (by simp [wipeD, h])
  have hp := press_rng x (hr.1 x hx)
  simp only [Z_law_0, fBi_e, fCons_e, fBin_e, fCall_e, h4, h6, fNil_e, Res.bind_ok, law_open_spec _ _ hp, (opn_eq _ hp).1, oSub_i, bAbs_i]
  rfl
theorem squares_c (h : ρ.length = 38) {rows : List Int} (hr : Ok rows) : lcD [4] (gNm 4) fYes (fBin oMul (fVar 4) (fVar 4)) ρ (rows.map .int) g = .ok ((rows.map fun x => x * x).map .int) g := by
  rw [List.map_map]
  exact lcD_map (enc := D.int) (v := D.int ∘ fun x => x * x) rows fun x hx => ⟨_, rfl, by have := hr.1 x hx; simp (disch := omega) only [fBin_e, f4 h, Res.bind_ok, oMul_l]; rfl⟩
theorem soft_c (h : ρ.length = 38) (rows : List Int) : lcD [26] (gNm 26) fYes (fBin oDiv (fVar 26) (fC (.int 4))) ρ (rows.map .int) g = .ok ((rows.map fun x => x / 4).map .int) g := by
  rw [List.map_map]
  exact lcD_map (enc := D.int) (v := D.int ∘ fun x => x / 4) rows fun x hx => ⟨_, rfl, by simp (disch := omega) only [fBin_e, f26 h, Res.bind_ok, fC_e, oDiv_p]; rfl⟩
theorem marks_c (x0 x1 x2 x3 x4 x5 x6 x7 x8 x9 x10 x11 x12 x14 x15 x16 x17 x18 x19 x20 x21 x22 x23 x24 x25 x26 x27 x28 x29 x30 x31 x32 x33 x34 x35 x36 x37 : Option D) (bound : Int) (rows : List Int) : lcD [4] (gNm 4) fYes Z_law_1 (x0 :: x1 :: x2 :: x3 :: x4 :: x5 :: x6 :: x7 :: x8 :: x9 :: x10 :: x11 :: x12 :: some (.int bound) :: x14 :: x15 :: x16 :: x17 :: x18 :: x19 :: x20 :: x21 :: x22 :: x23 :: x24 :: x25 :: x26 :: x27 :: x28 :: x29 :: x30 :: x31 :: x32 :: x33 :: x34 :: x35 :: x36 :: x37 :: []) (rows.map .int) g = .ok ((rows.map fun x => if qk bound x = true then ("q" : Str) else ("l" : Str)).map .str) g := by
  rw [List.map_map]
  refine lcD_map (enc := D.int) rows fun x hx => ⟨_, rfl, ?_⟩
  simp only [Res.bind_ok, Res.bind_err, Res.bind_stuck, Res.toS_ok, Res.toS_err, fVar_z, fVar_s, fVar_s', fC_e, fBin_e, fNil_e, fCons_e, fCall_e, fCall0_e, fBi_e, fTup_e, mkTup_ok, fLst_e, mkLst_ok, mkLst_nil, fMut_e, mkMut_ok, fIf_e, fB_bin, fTru_e, tru_bl, tru_int, fNot_e, fAnd_e, fOr_e, fCh_e, fNeg_e, fNotV_e, sNil_e, sSeq_e, seq_nx', seq_rt', seq_err', seq_ct', seq_bk', sIf_e, sErr_e, sEx_e, sRt_e, sCt_e, sBk_e, sAsg_e, gNm_e, sPar_e, sPar3_e, gTp_tup, gsNil_e, gsCons_nm, sAug_z, ite_ok, ite_nx, ite_rt, ite_int, ite_bl, ite_str, ite_tup, ite_lst, ite_cons, ite_some, oAdd_i, oSub_i, oAddI_i, oSubI_i, oLt_i, oLe_i, oGt_i, oGe_i, oEq_i, oNe_i, oIs_non, oIsNot_non, bAbs_i, bMinA_i, bMaxA_i, bInt_i, bInt_b, bLen_t, bLen_l, bList_l, bList_t, bTuple_l, bTuple_t, lstOf_end, bTuple_end, isKind_end, set_end, fMt_e, sFor_e, iSeq_e, still_l, still_t, still_s, iRng_e, enmA_l, enmA_t, zppA_l, zppA_t, forD_nil, sWh_e, sized_ok, lc_e, gn_e, fSl_e, fNo_e, fSo_e, oSl_l, oSl_t, iSeqL_e, stillG_l, stillG_t, stillG_end, List.map_cons, List.map_nil, List.length_cons, List.length_nil, List.replicate, List.cons_append, List.nil_append, List.set_cons_zero, List.set_cons_succ, decide_eq_true_eq, Bool.not_eq_true, Bool.not_true, Bool.not_false, if_true, if_false, ite_self, Bool.false_eq_true, reduceIte, Nat.reduceAdd, Nat.reduceSub, Nat.reduceLeDiff, Nat.sub_zero, Nat.zero_add, List.append_nil, Bool.not_eq_eq_eq_not, decide_not, Bool.decide_eq_true, wipeD, Z_law_1]
  unfold qk
  simp only [decide_eq_true_eq]; rfl
theorem flat_c (h : ρ.length = 38) {rows : List Int} {acc : List P} {k : Nat} (hg : Good rows acc k) (hr : rows.length ≤ 2000) : lcD [22] (gNm 22) fYes Z_law_2 ρ (acc.map encP) g = .ok (acc.map fun p => .lst ((flatP p).map .int)) g := by
  refine lcD_map (enc := encP) acc fun p hp => ⟨(wipeD ρ [22]).set 22 (some (encP p)), rfl, ?_⟩
  have h22 : ∀ g, fVar 22 ((wipeD ρ [22]).set 22 (some (encP p))) g = .ok (encP p) g := fun g => fVar_set (by simp [wipeD, h])
  cases p with
  | q n =>
    have hn : n ≤ 2000 := by
      have h1 := hg.len
      have h2 := hg.k
      obtain ⟨a, b, rfl⟩ := List.append_of_mem hp
      simp [flatP] at h1; omega
    have x0 : ∀ g, oIx (encP (.q n)) (.int 0) g = .ok (.str "quiet") g := fun g => rfl
    have x1 : ∀ g, oIx (encP (.q n)) (.int 1) g = .ok (.int (n : Int)) g := fun g => rfl
    simp (disch := first | omega | (simp; done) | (simp; omega) | fail) only [Z_law_2, fIf_e, fB_bin, fBin_e, h22, Res.bind_ok, fC_e, x0, x1, qq_eq, if_true, fLst_e, fCons_e, fNil_e, mkLst_ok, oMul_0 n hn]
  | l xs =>
    have hxs : xs ≠ [] := hg.good (.l xs) hp
    obtain ⟨y, ys, rfl⟩ : ∃ y ys, xs = y :: ys := by cases xs with
      | nil => exact absurd rfl hxs
      | cons y ys => exact ⟨y, ys, rfl⟩
    have x0 : ∀ g, oIx (encP (P.l (y :: ys))) (.int 0) g = .ok (.int y) g := fun g => oIx_t (xs := (y :: ys).map .int) (Int.le_refl 0) rfl
    have bl : ∀ g, bList [encP (P.l (y :: ys))] g = .ok (.lst ((flatP (P.l (y :: ys))).map .int)) g := fun g => rfl
    simp (disch := first | omega | (simp; done) | (simp; omega) | fail) only [Z_law_2, fIf_e, fB_bin, fBin_e, h22, Res.bind_ok, fC_e, x0, eq_int_str quiet_ok, if_false, Bool.false_eq_true, fBi_e, fCons_e, fNil_e, bl]
theorem flatD_ints (ls : List (List Int)) : flatD g (ls.map fun l : List Int => D.lst (l.map .int)) = some (ls.map fun l : List Int => l.map D.int) := by
  induction ls with
  | nil => rfl
  | cons l r ih =>
    unfold flatD at ih ⊢
    rw [List.map_cons, List.map_cons]
    show (optAll (((r.map fun l => D.lst (l.map .int))).map (lstOf g))).map (l.map D.int :: ·) = _
    rw [ih]; rfl
theorem sum_flat (ls : List (List Int)) (h : ls.flatten.length ≤ 2000) : bSumA [.lst (ls.map fun l : List Int => D.lst (l.map .int)), .lst []] g = .ok (.lst (ls.flatten.map .int)) g := by
  have h0 : bSumS [.lst (ls.map fun l : List Int => D.lst (l.map .int)), .lst []] g = .stuck := rfl
  have e : (ls.map fun l => l.map D.int).flatten = ls.flatten.map .int := by rw [List.map_flatten]
  unfold bSumA
  rw [h0]
  show (match flatD g (ls.map fun l : List Int => D.lst (l.map .int)) with
        | some ess => if ([] ++ ess.flatten).length ≤ sizeLine then (if (ls.map fun l : List Int => D.lst (l.map .int)).isEmpty then Res.ok (D.lst []) g else .ok (.lst ([] ++ ess.flatten)) g) else .stuck
        | none => .stuck) = _
  rw [flatD_ints]
  dsimp only
  rw [List.nil_append, e, if_pos (by rw [List.length_map, sizeLine_eq]; omega)]
  cases ls with
  | nil => rfl
  | cons l r => rfl
theorem keys_c (x0 x1 x3 x4 x5 x6 x7 x8 x9 x10 x11 x12 x13 x14 x15 x16 x17 x18 x19 x20 x21 x22 x23 x24 x25 x26 x27 x28 x30 x31 x32 x33 x34 x35 x36 x37 : Option D) (rows sent : List Int) (hr : Ok rows) (most : Nat) : lcD [17] (gNm 17) fYes Z_law_5 (x0 :: x1 :: some (.lst (rows.map .int)) :: x3 :: x4 :: x5 :: x6 :: x7 :: x8 :: x9 :: x10 :: x11 :: x12 :: x13 :: x14 :: x15 :: x16 :: x17 :: x18 :: x19 :: x20 :: x21 :: x22 :: x23 :: x24 :: x25 :: x26 :: x27 :: x28 :: some (.lst (sent.map .int)) :: x30 :: x31 :: x32 :: x33 :: x34 :: x35 :: x36 :: x37 :: []) ((ups most).map fun k => .int (k : Nat)) g = .ok (keysD (corr rows sent) (ups most)) g := by
  unfold keysD
  refine lcD_map (enc := fun k : Nat => D.int (k : Nat)) (ups most) fun k hk => ⟨_, rfl, ?_⟩
  have hcut : cutD (rows.map D.int) (some (k : Int)) none = (rows.drop k).map .int := by rw [cutD_from (by omega), Int.toNat_natCast, List.map_drop]
  have hz : (zipD ((rows.drop k).map D.int) (sent.map .int)).length ≤ 16777216 := by
    have := zipD_len ((rows.drop k).map D.int) (sent.map .int)
    have := hr.2
    rw [List.length_map, List.length_drop] at *; omega
  have hc : ∀ ρ : Env', ρ.length = 38 → lcD [32, 33] (gTp 2 (gsCons (gNm 32) (gsCons (gNm 33) gsNil))) fYes (fBin oMul (fVar 32) (fVar 33)) ρ (zipD ((rows.drop k).map .int) (sent.map .int)) g = .ok ((((rows.drop k).zip sent).map fun p => p.1 * p.2).map .int) g := fun ρ hρ => by
    rw [zipD_map, List.map_map]
    refine lcD_map (v := D.int ∘ fun p : Int × Int => p.1 * p.2) ((rows.drop k).zip sent) fun p hp => ⟨((wipeD ρ [32, 33]).set 32 (some (.int p.1))).set 33 (some (.int p.2)), rfl, ?_⟩
    have h1 := hr.1 p.1 (List.mem_of_mem_drop (List.of_mem_zip hp).1)
    have q1 : ∀ g, fVar 32 (((wipeD ρ [32, 33]).set 32 (some (.int p.1))).set 33 (some (.int p.2))) g = .ok (.int p.1) g := fun g => by rw [fVar_ne (by decide)]; exact fVar_set (by simp [wipeD, hρ])
    have q2 : ∀ g, fVar 33 (((wipeD ρ [32, 33]).set 32 (some (.int p.1))).set 33 (some (.int p.2))) g = .ok (.int p.2) g := fun g => fVar_set (by simp [wipeD, hρ])
    simp (disch := omega) only [fBin_e, q1, q2, Res.bind_ok, oMul_l]; rfl
  have hs := bSumA_l (g := g) (((rows.drop k).zip sent).map fun p => p.1 * p.2)
  simp (disch := first | exact hz | rfl | omega | (simp; done) | fail) only [Res.bind_ok, Res.bind_err, Res.bind_stuck, Res.toS_ok, Res.toS_err, fVar_z, fVar_s, fVar_s', fC_e, fBin_e, fNil_e, fCons_e, fCall_e, fCall0_e, fBi_e, fTup_e, mkTup_ok, fLst_e, mkLst_ok, mkLst_nil, fMut_e, mkMut_ok, fIf_e, fB_bin, fTru_e, tru_bl, tru_int, fNot_e, fAnd_e, fOr_e, fCh_e, fNeg_e, fNotV_e, sNil_e, sSeq_e, seq_nx', seq_rt', seq_err', seq_ct', seq_bk', sIf_e, sErr_e, sEx_e, sRt_e, sCt_e, sBk_e, sAsg_e, gNm_e, sPar_e, sPar3_e, gTp_tup, gsNil_e, gsCons_nm, sAug_z, ite_ok, ite_nx, ite_rt, ite_int, ite_bl, ite_str, ite_tup, ite_lst, ite_cons, ite_some, oAdd_i, oSub_i, oAddI_i, oSubI_i, oLt_i, oLe_i, oGt_i, oGe_i, oEq_i, oNe_i, oIs_non, oIsNot_non, bAbs_i, bMinA_i, bMaxA_i, bInt_i, bInt_b, bLen_t, bLen_l, bList_l, bList_t, bTuple_l, bTuple_t, lstOf_end, bTuple_end, isKind_end, set_end, fMt_e, sFor_e, iSeq_e, still_l, still_t, still_s, iRng_e, enmA_l, enmA_t, zppA_l, zppA_t, forD_nil, sWh_e, sized_ok, lc_e, gn_e, fSl_e, fNo_e, fSo_e, oSl_l, oSl_t, iSeqL_e, stillG_l, stillG_t, stillG_end, List.map_cons, List.map_nil, List.length_cons, List.length_nil, List.replicate, List.cons_append, List.nil_append, List.set_cons_zero, List.set_cons_succ, decide_eq_true_eq, Bool.not_eq_true, Bool.not_true, Bool.not_false, if_true, if_false, ite_self, Bool.false_eq_true, reduceIte, Nat.reduceAdd, Nat.reduceSub, Nat.reduceLeDiff, Nat.sub_zero, Nat.zero_add, List.append_nil, Bool.not_eq_eq_eq_not, decide_not, Bool.decide_eq_true, wipeD, Z_law_5, hcut, hc, hs]
  rfl
end
end K05
end
section
set_option Elab.async false
set_option linter.all false
set_option maxRecDepth 100000
set_option maxHeartbeats 0
namespace K05
open PySem Dl
theorem seq_ex {a b : FS} {ρ ρ1 : Env'} {g g1 : G} (h : a ρ g = .nx ρ1 g1) (h2 : ∃ ρ' g', b ρ1 g1 = .nx ρ' g' ∧ IsG g') : ∃ ρ' g', sSeq a b ρ g = .nx ρ' g' ∧ IsG g' := by
  obtain ⟨ρ', g', e, q⟩ := h2
  exact ⟨ρ', g', by rw [seq_nx h, e], q⟩
theorem neI (a : List Int) (g : G) : oNe (.lst (a.map .int)) (.lst (a.map .int)) g = .ok (.bl false) g := by rw [oNe_il]; simp
theorem ne2 (a b : Int) (g : G) : oNe (.tup [.int a, .int b]) (.tup [.int a, .int b]) g = .ok (.bl false) g := by rw [oNe_p2]; simp
theorem neP (acc : List P) (g : G) : oNe (.lst (acc.map encP)) (.lst (acc.map encP)) g = .ok (.bl false) g := oNe_refl (encs_ok acc 9)
theorem join_marks (bound : Int) (rows : List Int) (g : G) (h : rows.length ≤ 16777216) : mJoin (.str "") [.lst ((rows.map fun x => if qk bound x = true then ("q" : Str) else ("l" : Str)).map .str)] g = .ok (.str (mk bound rows)) g := by
  have e : (seqOf g (D.lst ((rows.map fun x => if qk bound x = true then ("q" : Str) else ("l" : Str)).map .str))).bind strsOf = some (rows.map fun x => if qk bound x = true then ("q" : Str) else ("l" : Str)) := strsOf_map _
  have hs : (((rows.map fun x => if qk bound x = true then ("q" : Str) else ("l" : Str)).map (·.length)).sum + (rows.map fun x => if qk bound x = true then ("q" : Str) else ("l" : Str)).length * ("" : Str).length) ≤ 16777216 := by
    have h0 : ("" : Str).length = 0 := by decide +kernel
    have h1 : ∀ l : List Int, ((l.map fun x => if qk bound x = true then ("q" : Str) else ("l" : Str)).map (·.length)).sum = l.length := fun l => by
      induction l with
      | nil => rfl
      | cons x r ih =>
        rw [List.map_cons, List.map_cons, List.sum_cons, ih, List.length_cons]
        have : (if qk bound x = true then ("q" : Str) else ("l" : Str)).length = 1 := by split <;> decide +kernel
        omega
    rw [h1, h0]; omega
  unfold mJoin
  simp only [e]
  rw [if_pos hs, marks_join]
theorem sum_flatA {g : G} (acc : List P) (h : (flatA acc).length ≤ 2000) : bSumA [.lst (acc.map fun p => .lst ((flatP p).map .int)), .lst []] g = .ok (.lst ((flatA acc).map .int)) g := by
  have e1 : (acc.map fun p => D.lst ((flatP p).map .int)) = (acc.map flatP).map fun l : List Int => D.lst (l.map .int) := by rw [List.map_map]; rfl
  have e2 : flatA acc = (acc.map flatP).flatten := by first | rfl | simp [flatA, List.flatMap]
  rw [e1, e2]
  exact sum_flat _ (by rw [← e2]; exact h)
theorem mapFrom_mem {f : Nat → Int → Int} {P : Int → Prop} (h : ∀ k x, P (f k x)) : ∀ (l : List Int) (k : Nat), ∀ y ∈ mapFrom f k l, P y
  | [], _, y, hy => by simp [mapFrom] at hy
  | x :: r, k, y, hy => by
    simp only [mapFrom, List.mem_cons] at hy
    rcases hy with rfl | hy
    · exact h _ _
    · exact mapFrom_mem h r _ y hy
theorem wecho_ok (far : Nat) (one under : Int) (ns : List Int) (h : ns.length ≤ 2000) : Ok (wecho far one under ns) := ⟨mapFrom_mem (P := fun y => -8031 ≤ y ∧ y ≤ 8031) (fun _ _ => clip_rng _) ns 0, by unfold wecho; rw [mapFrom_len]; exact h⟩
def TL2 : FS :=
  (sSeq (sAsg (fTup (fCons (fCall (F__law_roll 3) (fCons (fVar 1) (fCons (fC (.int 5)) fNil))) (fCons (fBin oAdd (fC (.int 1)) (fCall (F__law_roll 3) (fCons (fVar 1) (fCons (fC (.int 4)) fNil)))) fNil))) (gTp 2 (gsCons (gNm 13) (gsCons (gNm 14) gsNil))))
  (sSeq (sAsg (fMt "str" mJoin (fC (.str "")) (fCons (fLc [4] (iSeq (fVar 2)) (gNm 4) fYes Z_law_1) fNil)) (gNm 15))
  (sSeq (sPar 16 17 (fCons (fLst fNil) (fCons (fC (.int 0)) fNil)))
  (sSeq (sWh C_law_0 W_law_1 (fun _ _ => 1000000))
  (sSeq (sAsg (fBi bSumA (fCons (fLc [22] (iSeq (fVar 16)) (gNm 22) fYes Z_law_2) (fCons (fLst fNil) fNil))) (gNm 21))
  (sSeq (sIf (fOr (fB (fBin oNe (fBi bList (fCons (fCall F_quiet_short (fCons (fVar 2) (fCons (fVar 13) (fCons (fVar 14) fNil)))) fNil)) (fVar 16))) (fB (fBin oNe (fBi bList (fCons (fCall F_long_again (fCons (fVar 16) fNil)) fNil)) (fVar 21)))) (sSeq (sRt (fC (.bl false)))
  sNil) sNil)
  (sSeq (sAsg (fTup (fCons (fBin oAdd (fC (.int 1)) (fCall (F__law_roll 3) (fCons (fVar 1) (fCons (fC (.int 4)) fNil)))) (fCons (fBin oAdd (fC (.int 1)) (fCall (F__law_roll 3) (fCons (fVar 1) (fCons (fC (.int 5)) fNil)))) fNil))) (gTp 2 (gsCons (gNm 23) (gsCons (gNm 24) gsNil))))
  (sSeq (sAsg (fCall (F__law_roll 3) (fCons (fVar 1) (fCons (fBin oAdd (fVar 24) (fC (.int 1))) fNil))) (gNm 4))
  (sSeq (sAsg (fLc [17, 26] (iRng enmA (fCons (fVar 2) fNil)) (gTp 2 (gsCons (gNm 17) (gsCons (gNm 26) gsNil))) fYes Z_law_3) (gNm 25))
  (sSeq (sAsg (fLst fNil) (gNm 27))
  (sSeq (sFor (iRng enmA (fCons (fVar 2) fNil)) (gTp 2 (gsCons (gNm 17) (gsCons (gNm 26) gsNil))) W_law_2)
  (sSeq (sIf (fOr (fB (fBin oNe (fBi bList (fCons (fCall F_with_echo (fCons (fVar 2) (fCons (fVar 23) (fCons (fVar 4) (fCons (fVar 24) fNil))))) fNil)) (fVar 25))) (fB (fBin oNe (fBi bList (fCons (fCall F_without_echo (fCons (fVar 2) (fCons (fVar 23) (fCons (fVar 4) (fCons (fVar 24) fNil))))) fNil)) (fVar 27)))) (sSeq (sRt (fC (.bl false)))
  sNil) sNil)
  (sSeq (sAsg (fLc [26] (iSeq (fVar 2)) (gNm 26) fYes (fBin oDiv (fVar 26) (fC (.int 4)))) (gNm 28))
  (sSeq (sIf (fB (fBin oNe (fBi bList (fCons (fCall F_without_echo (fCons (fCall F_with_echo (fCons (fVar 28) (fCons (fVar 23) (fCons (fVar 4) (fCons (fVar 24) fNil))))) (fCons (fVar 23) (fCons (fVar 4) (fCons (fVar 24) fNil))))) fNil)) (fVar 28))) (sSeq (sRt (fC (.bl false)))
  sNil) sNil)
  (sSeq (sAsg (fTup (fCons (fLc [26] (iSeq (fVar 2)) (gNm 26) fYes Z_law_4) (fCons (fBin oAdd (fC (.int 1)) (fCall (F__law_roll 3) (fCons (fVar 1) (fCons (fC (.int 6)) fNil)))) fNil))) (gTp 2 (gsCons (gNm 29) (gsCons (gNm 30) gsNil))))
  (sSeq (sAsg (fLc [17] (iRng rng2 (fCons (fC (.int 1)) (fCons (fBin oAdd (fVar 30) (fC (.int 1))) fNil))) (gNm 17) fYes Z_law_5) (gNm 31))
  (sSeq (sAsg (fLc [17] (iRng rng1 (fCons (fBi bLen (fCons (fVar 2) fNil)) fNil)) (gNm 17) Y_law_0 (fVar 17)) (gNm 34))
  (sSeq (sAsg (fLst fNil) (gNm 35))
  (sSeq (sFor (iRng enmA (fCons (fVar 2) fNil)) (gTp 2 (gsCons (gNm 17) (gsCons (gNm 26) gsNil))) W_law_3)
  (sSeq (sIf (fOr (fB (fBin oNe (fCall F_echo_far (fCons (fVar 2) (fCons (fVar 29) (fCons (fVar 30) fNil)))) (fBin oIx (fBi bMinA (fCons (fVar 31) fNil)) (fC (.int 1))))) (fB (fBin oNe (fBi bList (fCons (fCall F_filled_in (fCons (fVar 2) (fCons (fVar 34) fNil))) fNil)) (fVar 35)))) (sSeq (sRt (fC (.bl false)))
  sNil) sNil)
  sNil))))))))))))))))))))
def TL3 : FS :=
  (sSeq (sAsg (fTup (fCons (fBin oAdd (fC (.int 1)) (fCall (F__law_roll 3) (fCons (fVar 1) (fCons (fC (.int 4)) fNil)))) (fCons (fBin oAdd (fC (.int 1)) (fCall (F__law_roll 3) (fCons (fVar 1) (fCons (fC (.int 5)) fNil)))) fNil))) (gTp 2 (gsCons (gNm 23) (gsCons (gNm 24) gsNil))))
  (sSeq (sAsg (fCall (F__law_roll 3) (fCons (fVar 1) (fCons (fBin oAdd (fVar 24) (fC (.int 1))) fNil))) (gNm 4))
  (sSeq (sAsg (fLc [17, 26] (iRng enmA (fCons (fVar 2) fNil)) (gTp 2 (gsCons (gNm 17) (gsCons (gNm 26) gsNil))) fYes Z_law_3) (gNm 25))
  (sSeq (sAsg (fLst fNil) (gNm 27))
  (sSeq (sFor (iRng enmA (fCons (fVar 2) fNil)) (gTp 2 (gsCons (gNm 17) (gsCons (gNm 26) gsNil))) W_law_2)
  (sSeq (sIf (fOr (fB (fBin oNe (fBi bList (fCons (fCall F_with_echo (fCons (fVar 2) (fCons (fVar 23) (fCons (fVar 4) (fCons (fVar 24) fNil))))) fNil)) (fVar 25))) (fB (fBin oNe (fBi bList (fCons (fCall F_without_echo (fCons (fVar 2) (fCons (fVar 23) (fCons (fVar 4) (fCons (fVar 24) fNil))))) fNil)) (fVar 27)))) (sSeq (sRt (fC (.bl false)))
  sNil) sNil)
  (sSeq (sAsg (fLc [26] (iSeq (fVar 2)) (gNm 26) fYes (fBin oDiv (fVar 26) (fC (.int 4)))) (gNm 28))
  (sSeq (sIf (fB (fBin oNe (fBi bList (fCons (fCall F_without_echo (fCons (fCall F_with_echo (fCons (fVar 28) (fCons (fVar 23) (fCons (fVar 4) (fCons (fVar 24) fNil))))) (fCons (fVar 23) (fCons (fVar 4) (fCons (fVar 24) fNil))))) fNil)) (fVar 28))) (sSeq (sRt (fC (.bl false)))
  sNil) sNil)
  (sSeq (sAsg (fTup (fCons (fLc [26] (iSeq (fVar 2)) (gNm 26) fYes Z_law_4) (fCons (fBin oAdd (fC (.int 1)) (fCall (F__law_roll 3) (fCons (fVar 1) (fCons (fC (.int 6)) fNil)))) fNil))) (gTp 2 (gsCons (gNm 29) (gsCons (gNm 30) gsNil))))
  (sSeq (sAsg (fLc [17] (iRng rng2 (fCons (fC (.int 1)) (fCons (fBin oAdd (fVar 30) (fC (.int 1))) fNil))) (gNm 17) fYes Z_law_5) (gNm 31))
  (sSeq (sAsg (fLc [17] (iRng rng1 (fCons (fBi bLen (fCons (fVar 2) fNil)) fNil)) (gNm 17) Y_law_0 (fVar 17)) (gNm 34))
  (sSeq (sAsg (fLst fNil) (gNm 35))
  (sSeq (sFor (iRng enmA (fCons (fVar 2) fNil)) (gTp 2 (gsCons (gNm 17) (gsCons (gNm 26) gsNil))) W_law_3)
  (sSeq (sIf (fOr (fB (fBin oNe (fCall F_echo_far (fCons (fVar 2) (fCons (fVar 29) (fCons (fVar 30) fNil)))) (fBin oIx (fBi bMinA (fCons (fVar 31) fNil)) (fC (.int 1))))) (fB (fBin oNe (fBi bList (fCons (fCall F_filled_in (fCons (fVar 2) (fCons (fVar 34) fNil))) fNil)) (fVar 35)))) (sSeq (sRt (fC (.bl false)))
  sNil) sNil)
  sNil))))))))))))))
def TL4 : FS :=
  (sSeq (sAsg (fTup (fCons (fLc [26] (iSeq (fVar 2)) (gNm 26) fYes Z_law_4) (fCons (fBin oAdd (fC (.int 1)) (fCall (F__law_roll 3) (fCons (fVar 1) (fCons (fC (.int 6)) fNil)))) fNil))) (gTp 2 (gsCons (gNm 29) (gsCons (gNm 30) gsNil))))
  (sSeq (sAsg (fLc [17] (iRng rng2 (fCons (fC (.int 1)) (fCons (fBin oAdd (fVar 30) (fC (.int 1))) fNil))) (gNm 17) fYes Z_law_5) (gNm 31))
  (sSeq (sAsg (fLc [17] (iRng rng1 (fCons (fBi bLen (fCons (fVar 2) fNil)) fNil)) (gNm 17) Y_law_0 (fVar 17)) (gNm 34))
  (sSeq (sAsg (fLst fNil) (gNm 35))
  (sSeq (sFor (iRng enmA (fCons (fVar 2) fNil)) (gTp 2 (gsCons (gNm 17) (gsCons (gNm 26) gsNil))) W_law_3)
  (sSeq (sIf (fOr (fB (fBin oNe (fCall F_echo_far (fCons (fVar 2) (fCons (fVar 29) (fCons (fVar 30) fNil)))) (fBin oIx (fBi bMinA (fCons (fVar 31) fNil)) (fC (.int 1))))) (fB (fBin oNe (fBi bList (fCons (fCall F_filled_in (fCons (fVar 2) (fCons (fVar 34) fNil))) fNil)) (fVar 35)))) (sSeq (sRt (fC (.bl false)))
  sNil) sNil)
  sNil))))))
end K05
end
section
set_option Elab.async false
set_option linter.all false
set_option maxRecDepth 100000
set_option maxHeartbeats 0
namespace K05
open PySem Dl
theorem turn4 {rows : List Int} (ho : Ok rows) (hl : rows.length ≤ 13) (x0 x3 x4 x5 x6 x7 x8 x9 x10 x11 x12 x13 x14 x15 x16 x17 x18 x19 x20 x21 x22 x23 x24 x25 x26 x27 x28 x29 x30 x31 x32 x33 x34 x35 x36 x37 : Option D) {g13 : G} (hg13 : IsG g13) : ∃ ρ' g', TL4 (x0 :: some (.loc 0) :: some (.lst (rows.map .int)) :: x3 :: x4 :: x5 :: x6 :: x7 :: x8 :: x9 :: x10 :: x11 :: x12 :: x13 :: x14 :: x15 :: x16 :: x17 :: x18 :: x19 :: x20 :: x21 :: x22 :: x23 :: x24 :: x25 :: x26 :: x27 :: x28 :: x29 :: x30 :: x31 :: x32 :: x33 :: x34 :: x35 :: x36 :: x37 :: []) g13 = .nx ρ' g' ∧ IsG g' := by
  have hz : rows.length ≤ 16777216 := by omega
  unfold TL4
  obtain ⟨sent, g14, es, hg14, lsen, hsen⟩ := lcD_inv (ρ := (x0 :: some (.loc 0) :: some (.lst (rows.map .int)) :: x3 :: x4 :: x5 :: x6 :: x7 :: x8 :: x9 :: x10 :: x11 :: x12 :: x13 :: x14 :: x15 :: x16 :: x17 :: x18 :: x19 :: x20 :: x21 :: x22 :: x23 :: x24 :: x25 :: x26 :: x27 :: x28 :: x29 :: x30 :: x31 :: x32 :: x33 :: x34 :: x35 :: x36 :: x37 :: [])) (vs := [26]) (fg := gNm 26) (fe := Z_law_4) (I := IsG) (V := fun y => -4 ≤ y ∧ y ≤ 4) (rows.map .int) g13 hg13 fun d _ g hg => by
    obtain ⟨r, g', hg', l, u, e⟩ := roll_spec hg (many := 9) (by decide) (by decide)
    exact ⟨_, r - 4, g', rfl, by simp (disch := first | omega | (simp; done) | (simp; omega) | fail) only [Res.bind_ok, Res.bind_err, Res.bind_stuck, Res.toS_ok, Res.toS_err, fVar_z, fVar_s, fVar_s', fC_e, fBin_e, fNil_e, fCons_e, fCall_e, fCall0_e, fBi_e, fTup_e, mkTup_ok, fLst_e, mkLst_ok, mkLst_nil, fMut_e, mkMut_ok, fIf_e, fB_bin, fTru_e, tru_bl, tru_int, fNot_e, fAnd_e, fOr_e, fCh_e, fNeg_e, fNotV_e, sNil_e, sSeq_e, seq_nx', seq_rt', seq_err', seq_ct', seq_bk', sIf_e, sErr_e, sEx_e, sRt_e, sCt_e, sBk_e, sAsg_e, gNm_e, sPar_e, sPar3_e, gTp_tup, gsNil_e, gsCons_nm, sAug_z, ite_ok, ite_nx, ite_rt, ite_int, ite_bl, ite_str, ite_tup, ite_lst, ite_cons, ite_some, oAdd_i, oSub_i, oAddI_i, oSubI_i, oLt_i, oLe_i, oGt_i, oGe_i, oEq_i, oNe_i, oIs_non, oIsNot_non, bAbs_i, bMinA_i, bMaxA_i, bInt_i, bInt_b, bLen_t, bLen_l, bList_l, bList_t, bTuple_l, bTuple_t, lstOf_end, bTuple_end, isKind_end, set_end, fMt_e, sFor_e, iSeq_e, still_l, still_t, still_s, iRng_e, enmA_l, enmA_t, zppA_l, zppA_t, forD_nil, sWh_e, sized_ok, lc_e, gn_e, fSl_e, fNo_e, fSo_e, oSl_l, oSl_t, iSeqL_e, stillG_l, stillG_t, stillG_end, List.map_cons, List.map_nil, List.length_cons, List.length_nil, List.replicate, List.cons_append, List.nil_append, List.set_cons_zero, List.set_cons_succ, decide_eq_true_eq, Bool.not_eq_true, Bool.not_true, Bool.not_false, if_true, if_false, ite_self, Bool.false_eq_true, reduceIte, Nat.reduceAdd, Nat.reduceSub, Nat.reduceLeDiff, Nat.sub_zero, Nat.zero_add, List.append_nil, Bool.not_eq_eq_eq_not, decide_not, Bool.decide_eq_true, Z_law_4, wipeD, e], hg', by omega⟩
  obtain ⟨mo0, g15, hg15, lm, um, e15⟩ := roll_spec hg14 (many := 6) (by decide) (by decide)
  obtain ⟨most, hmo⟩ : ∃ n : Nat, 1 + mo0 = (n : Int) := ⟨(1 + mo0).toNat, by omega⟩
  have hm1 : 1 ≤ most ∧ most ≤ 50 := by omega
  rw [List.length_map] at lsen
  refine seq_ex (ρ1 := (x0 :: some (.loc 0) :: some (.lst (rows.map .int)) :: x3 :: x4 :: x5 :: x6 :: x7 :: x8 :: x9 :: x10 :: x11 :: x12 :: x13 :: x14 :: x15 :: x16 :: x17 :: x18 :: x19 :: x20 :: x21 :: x22 :: x23 :: x24 :: x25 :: x26 :: x27 :: x28 :: some (.lst (sent.map .int)) :: some (.int (most : Int)) :: x31 :: x32 :: x33 :: x34 :: x35 :: x36 :: x37 :: [])) (g1 := g15) (by simp (disch := first | omega | (simp; done) | (simp; omega) | fail) only [Res.bind_ok, Res.bind_err, Res.bind_stuck, Res.toS_ok, Res.toS_err, fVar_z, fVar_s, fVar_s', fC_e, fBin_e, fNil_e, fCons_e, fCall_e, fCall0_e, fBi_e, fTup_e, mkTup_ok, fLst_e, mkLst_ok, mkLst_nil, fMut_e, mkMut_ok, fIf_e, fB_bin, fTru_e, tru_bl, tru_int, fNot_e, fAnd_e, fOr_e, fCh_e, fNeg_e, fNotV_e, sNil_e, sSeq_e, seq_nx', seq_rt', seq_err', seq_ct', seq_bk', sIf_e, sErr_e, sEx_e, sRt_e, sCt_e, sBk_e, sAsg_e, gNm_e, sPar_e, sPar3_e, gTp_tup, gsNil_e, gsCons_nm, sAug_z, ite_ok, ite_nx, ite_rt, ite_int, ite_bl, ite_str, ite_tup, ite_lst, ite_cons, ite_some, oAdd_i, oSub_i, oAddI_i, oSubI_i, oLt_i, oLe_i, oGt_i, oGe_i, oEq_i, oNe_i, oIs_non, oIsNot_non, bAbs_i, bMinA_i, bMaxA_i, bInt_i, bInt_b, bLen_t, bLen_l, bList_l, bList_t, bTuple_l, bTuple_t, lstOf_end, bTuple_end, isKind_end, set_end, fMt_e, sFor_e, iSeq_e, still_l, still_t, still_s, iRng_e, enmA_l, enmA_t, zppA_l, zppA_t, forD_nil, sWh_e, sized_ok, lc_e, gn_e, fSl_e, fNo_e, fSo_e, oSl_l, oSl_t, iSeqL_e, stillG_l, stillG_t, stillG_end, List.map_cons, List.map_nil, List.length_cons, List.length_nil, List.replicate, List.cons_append, List.nil_append, List.set_cons_zero, List.set_cons_succ, decide_eq_true_eq, Bool.not_eq_true, Bool.not_true, Bool.not_false, if_true, if_false, ite_self, Bool.false_eq_true, reduceIte, Nat.reduceAdd, Nat.reduceSub, Nat.reduceLeDiff, Nat.sub_zero, Nat.zero_add, List.append_nil, Bool.not_eq_eq_eq_not, decide_not, Bool.decide_eq_true, es, e15, oAdd_l, hmo, gTp_tup]) ?_
  refine seq_ex (ρ1 := (x0 :: some (.loc 0) :: some (.lst (rows.map .int)) :: x3 :: x4 :: x5 :: x6 :: x7 :: x8 :: x9 :: x10 :: x11 :: x12 :: x13 :: x14 :: x15 :: x16 :: x17 :: x18 :: x19 :: x20 :: x21 :: x22 :: x23 :: x24 :: x25 :: x26 :: x27 :: x28 :: some (.lst (sent.map .int)) :: some (.int (most : Int)) :: some (.lst (keysD (corr rows sent) (ups most))) :: x32 :: x33 :: x34 :: x35 :: x36 :: x37 :: [])) (g1 := g15) (by
    have c1 := fun (x0 x1 x3 x4 x5 x6 x7 x8 x9 x10 x11 x12 x13 x14 x15 x16 x17 x18 x19 x20 x21 x22 x23 x24 x25 x26 x27 x28 x30 x31 x32 x33 x34 x35 x36 x37 : Option D) => keys_c (g := g15) x0 x1 x3 x4 x5 x6 x7 x8 x9 x10 x11 x12 x13 x14 x15 x16 x17 x18 x19 x20 x21 x22 x23 x24 x25 x26 x27 x28 x30 x31 x32 x33 x34 x35 x36 x37 rows sent ho most
    have hr2 : rng2 [.int 1, .int ((most : Int) + 1)] = some ((ups most).map fun k => .int (k : Nat)) := by
      rw [rng2_p (by omega) (by omega), ← rng_ups]
      congr 2
      omega
    have hz2 : ((ups most).map fun k => D.int (k : Nat)).length ≤ 16777216 := by simp [ups]; omega
    simp (disch := first | exact hz2 | omega | (simp; done) | fail) only [Res.bind_ok, Res.bind_err, Res.bind_stuck, Res.toS_ok, Res.toS_err, fVar_z, fVar_s, fVar_s', fC_e, fBin_e, fNil_e, fCons_e, fCall_e, fCall0_e, fBi_e, fTup_e, mkTup_ok, fLst_e, mkLst_ok, mkLst_nil, fMut_e, mkMut_ok, fIf_e, fB_bin, fTru_e, tru_bl, tru_int, fNot_e, fAnd_e, fOr_e, fCh_e, fNeg_e, fNotV_e, sNil_e, sSeq_e, seq_nx', seq_rt', seq_err', seq_ct', seq_bk', sIf_e, sErr_e, sEx_e, sRt_e, sCt_e, sBk_e, sAsg_e, gNm_e, sPar_e, sPar3_e, gTp_tup, gsNil_e, gsCons_nm, sAug_z, ite_ok, ite_nx, ite_rt, ite_int, ite_bl, ite_str, ite_tup, ite_lst, ite_cons, ite_some, oAdd_i, oSub_i, oAddI_i, oSubI_i, oLt_i, oLe_i, oGt_i, oGe_i, oEq_i, oNe_i, oIs_non, oIsNot_non, bAbs_i, bMinA_i, bMaxA_i, bInt_i, bInt_b, bLen_t, bLen_l, bList_l, bList_t, bTuple_l, bTuple_t, lstOf_end, bTuple_end, isKind_end, set_end, fMt_e, sFor_e, iSeq_e, still_l, still_t, still_s, iRng_e, enmA_l, enmA_t, zppA_l, zppA_t, forD_nil, sWh_e, sized_ok, lc_e, gn_e, fSl_e, fNo_e, fSo_e, oSl_l, oSl_t, iSeqL_e, stillG_l, stillG_t, stillG_end, List.map_cons, List.map_nil, List.length_cons, List.length_nil, List.replicate, List.cons_append, List.nil_append, List.set_cons_zero, List.set_cons_succ, decide_eq_true_eq, Bool.not_eq_true, Bool.not_true, Bool.not_false, if_true, if_false, ite_self, Bool.false_eq_true, reduceIte, Nat.reduceAdd, Nat.reduceSub, Nat.reduceLeDiff, Nat.sub_zero, Nat.zero_add, List.append_nil, Bool.not_eq_eq_eq_not, decide_not, Bool.decide_eq_true, oAdd_l, hr2, c1]) ?_
  obtain ⟨lost, g16, el2, hg16, llen, hlost⟩ := lcD_sift (ρ := (x0 :: some (.loc 0) :: some (.lst (rows.map .int)) :: x3 :: x4 :: x5 :: x6 :: x7 :: x8 :: x9 :: x10 :: x11 :: x12 :: x13 :: x14 :: x15 :: x16 :: x17 :: x18 :: x19 :: x20 :: x21 :: x22 :: x23 :: x24 :: x25 :: x26 :: x27 :: x28 :: some (.lst (sent.map .int)) :: some (.int (most : Int)) :: some (.lst (keysD (corr rows sent) (ups most))) :: x32 :: x33 :: x34 :: x35 :: x36 :: x37 :: [])) (vs := [17]) (fg := gNm 17) (ft := Y_law_0) (fe := fVar 17) (I := IsG) ((List.range rows.length).map fun i : Nat => (i : Int)) g15 hg15 fun x _ g hg => by
    obtain ⟨r, g', hg', l, u, e⟩ := roll_spec hg (many := 3) (by decide) (by decide)
    exact ⟨_, r == 0, g', rfl, by simp (disch := first | omega | (simp; done) | (simp; omega) | fail) only [Res.bind_ok, Res.bind_err, Res.bind_stuck, Res.toS_ok, Res.toS_err, fVar_z, fVar_s, fVar_s', fC_e, fBin_e, fNil_e, fCons_e, fCall_e, fCall0_e, fBi_e, fTup_e, mkTup_ok, fLst_e, mkLst_ok, mkLst_nil, fMut_e, mkMut_ok, fIf_e, fB_bin, fTru_e, tru_bl, tru_int, fNot_e, fAnd_e, fOr_e, fCh_e, fNeg_e, fNotV_e, sNil_e, sSeq_e, seq_nx', seq_rt', seq_err', seq_ct', seq_bk', sIf_e, sErr_e, sEx_e, sRt_e, sCt_e, sBk_e, sAsg_e, gNm_e, sPar_e, sPar3_e, gTp_tup, gsNil_e, gsCons_nm, sAug_z, ite_ok, ite_nx, ite_rt, ite_int, ite_bl, ite_str, ite_tup, ite_lst, ite_cons, ite_some, oAdd_i, oSub_i, oAddI_i, oSubI_i, oLt_i, oLe_i, oGt_i, oGe_i, oEq_i, oNe_i, oIs_non, oIsNot_non, bAbs_i, bMinA_i, bMaxA_i, bInt_i, bInt_b, bLen_t, bLen_l, bList_l, bList_t, bTuple_l, bTuple_t, lstOf_end, bTuple_end, isKind_end, set_end, fMt_e, sFor_e, iSeq_e, still_l, still_t, still_s, iRng_e, enmA_l, enmA_t, zppA_l, zppA_t, forD_nil, sWh_e, sized_ok, lc_e, gn_e, fSl_e, fNo_e, fSo_e, oSl_l, oSl_t, iSeqL_e, stillG_l, stillG_t, stillG_end, List.map_cons, List.map_nil, List.length_cons, List.length_nil, List.replicate, List.cons_append, List.nil_append, List.set_cons_zero, List.set_cons_succ, decide_eq_true_eq, Bool.not_eq_true, Bool.not_true, Bool.not_false, if_true, if_false, ite_self, Bool.false_eq_true, reduceIte, Nat.reduceAdd, Nat.reduceSub, Nat.reduceLeDiff, Nat.sub_zero, Nat.zero_add, List.append_nil, Bool.not_eq_eq_eq_not, decide_not, Bool.decide_eq_true, Y_law_0, wipeD, e], hg', fun g => rfl⟩
  have hlost2 : ∀ z ∈ lost, 0 ≤ z ∧ z < rows.length := fun z hz => by
    have := hlost z hz
    simp only [List.mem_map, List.mem_range] at this
    obtain ⟨a, ha, rfl⟩ := this
    omega
  refine seq_ex (ρ1 := (x0 :: some (.loc 0) :: some (.lst (rows.map .int)) :: x3 :: x4 :: x5 :: x6 :: x7 :: x8 :: x9 :: x10 :: x11 :: x12 :: x13 :: x14 :: x15 :: x16 :: x17 :: x18 :: x19 :: x20 :: x21 :: x22 :: x23 :: x24 :: x25 :: x26 :: x27 :: x28 :: some (.lst (sent.map .int)) :: some (.int (most : Int)) :: some (.lst (keysD (corr rows sent) (ups most))) :: x32 :: x33 :: some (.lst (lost.map .int)) :: x35 :: x36 :: x37 :: [])) (g1 := g16) (by
    have hr1 : rng1 [.int (rows.length : Int)] = some (((List.range rows.length).map fun i : Nat => (i : Int)).map .int) := by
      rw [rng1_p (by omega), Int.toNat_natCast, rangeD_map, List.map_map]
      congr 2
      funext i
      simp
    have hz2 : (((List.range rows.length).map fun i : Nat => (i : Int)).map D.int).length ≤ 16777216 := by simp; omega
    simp (disch := first | exact hz2 | omega | (simp; done) | fail) only [Res.bind_ok, Res.bind_err, Res.bind_stuck, Res.toS_ok, Res.toS_err, fVar_z, fVar_s, fVar_s', fC_e, fBin_e, fNil_e, fCons_e, fCall_e, fCall0_e, fBi_e, fTup_e, mkTup_ok, fLst_e, mkLst_ok, mkLst_nil, fMut_e, mkMut_ok, fIf_e, fB_bin, fTru_e, tru_bl, tru_int, fNot_e, fAnd_e, fOr_e, fCh_e, fNeg_e, fNotV_e, sNil_e, sSeq_e, seq_nx', seq_rt', seq_err', seq_ct', seq_bk', sIf_e, sErr_e, sEx_e, sRt_e, sCt_e, sBk_e, sAsg_e, gNm_e, sPar_e, sPar3_e, gTp_tup, gsNil_e, gsCons_nm, sAug_z, ite_ok, ite_nx, ite_rt, ite_int, ite_bl, ite_str, ite_tup, ite_lst, ite_cons, ite_some, oAdd_i, oSub_i, oAddI_i, oSubI_i, oLt_i, oLe_i, oGt_i, oGe_i, oEq_i, oNe_i, oIs_non, oIsNot_non, bAbs_i, bMinA_i, bMaxA_i, bInt_i, bInt_b, bLen_t, bLen_l, bList_l, bList_t, bTuple_l, bTuple_t, lstOf_end, bTuple_end, isKind_end, set_end, fMt_e, sFor_e, iSeq_e, still_l, still_t, still_s, iRng_e, enmA_l, enmA_t, zppA_l, zppA_t, forD_nil, sWh_e, sized_ok, lc_e, gn_e, fSl_e, fNo_e, fSo_e, oSl_l, oSl_t, iSeqL_e, stillG_l, stillG_t, stillG_end, List.map_cons, List.map_nil, List.length_cons, List.length_nil, List.replicate, List.cons_append, List.nil_append, List.set_cons_zero, List.set_cons_succ, decide_eq_true_eq, Bool.not_eq_true, Bool.not_true, Bool.not_false, if_true, if_false, ite_self, Bool.false_eq_true, reduceIte, Nat.reduceAdd, Nat.reduceSub, Nat.reduceLeDiff, Nat.sub_zero, Nat.zero_add, List.append_nil, Bool.not_eq_eq_eq_not, decide_not, Bool.decide_eq_true, List.length_map, hr1, el2]) ?_
  refine seq_ex (ρ1 := (x0 :: some (.loc 0) :: some (.lst (rows.map .int)) :: x3 :: x4 :: x5 :: x6 :: x7 :: x8 :: x9 :: x10 :: x11 :: x12 :: x13 :: x14 :: x15 :: x16 :: x17 :: x18 :: x19 :: x20 :: x21 :: x22 :: x23 :: x24 :: x25 :: x26 :: x27 :: x28 :: some (.lst (sent.map .int)) :: some (.int (most : Int)) :: some (.lst (keysD (corr rows sent) (ups most))) :: x32 :: x33 :: some (.lst (lost.map .int)) :: some (.lst []) :: x36 :: x37 :: [])) (g1 := g16) (by simp (disch := first | omega | (simp; done) | (simp; omega) | fail) only [Res.bind_ok, Res.bind_err, Res.bind_stuck, Res.toS_ok, Res.toS_err, fVar_z, fVar_s, fVar_s', fC_e, fBin_e, fNil_e, fCons_e, fCall_e, fCall0_e, fBi_e, fTup_e, mkTup_ok, fLst_e, mkLst_ok, mkLst_nil, fMut_e, mkMut_ok, fIf_e, fB_bin, fTru_e, tru_bl, tru_int, fNot_e, fAnd_e, fOr_e, fCh_e, fNeg_e, fNotV_e, sNil_e, sSeq_e, seq_nx', seq_rt', seq_err', seq_ct', seq_bk', sIf_e, sErr_e, sEx_e, sRt_e, sCt_e, sBk_e, sAsg_e, gNm_e, sPar_e, sPar3_e, gTp_tup, gsNil_e, gsCons_nm, sAug_z, ite_ok, ite_nx, ite_rt, ite_int, ite_bl, ite_str, ite_tup, ite_lst, ite_cons, ite_some, oAdd_i, oSub_i, oAddI_i, oSubI_i, oLt_i, oLe_i, oGt_i, oGe_i, oEq_i, oNe_i, oIs_non, oIsNot_non, bAbs_i, bMinA_i, bMaxA_i, bInt_i, bInt_b, bLen_t, bLen_l, bList_l, bList_t, bTuple_l, bTuple_t, lstOf_end, bTuple_end, isKind_end, set_end, fMt_e, sFor_e, iSeq_e, still_l, still_t, still_s, iRng_e, enmA_l, enmA_t, zppA_l, zppA_t, forD_nil, sWh_e, sized_ok, lc_e, gn_e, fSl_e, fNo_e, fSo_e, oSl_l, oSl_t, iSeqL_e, stillG_l, stillG_t, stillG_end, List.map_cons, List.map_nil, List.length_cons, List.length_nil, List.replicate, List.cons_append, List.nil_append, List.set_cons_zero, List.set_cons_succ, decide_eq_true_eq, Bool.not_eq_true, Bool.not_true, Bool.not_false, if_true, if_false, ite_self, Bool.false_eq_true, reduceIte, Nat.reduceAdd, Nat.reduceSub, Nat.reduceLeDiff, Nat.sub_zero, Nat.zero_add, List.append_nil, Bool.not_eq_eq_eq_not, decide_not, Bool.decide_eq_true]) ?_
  obtain ⟨v17, v26, v36, ef⟩ := fillL_loop rows lost (by omega) g16 _ _ _ _ _ _ _ _ _ _ _ _ _ _ _ _ _ _ _ _ _ _ _ _ _ _ _ _ _ _ _ _ rows [] 0 x17 x26 x36 (by simp) rfl
  refine seq_ex (ρ1 := (x0 :: some (.loc 0) :: some (.lst (rows.map .int)) :: x3 :: x4 :: x5 :: x6 :: x7 :: x8 :: x9 :: x10 :: x11 :: x12 :: x13 :: x14 :: x15 :: x16 :: v17 :: x18 :: x19 :: x20 :: x21 :: x22 :: x23 :: x24 :: x25 :: v26 :: x27 :: x28 :: some (.lst (sent.map .int)) :: some (.int (most : Int)) :: some (.lst (keysD (corr rows sent) (ups most))) :: x32 :: x33 :: some (.lst (lost.map .int)) :: some (.lst ((mapFrom (fillV rows lost) 0 rows).map .int)) :: v36 :: x37 :: [])) (g1 := g16) (by
    rw [sFor_e]; simp only [iRng_e, fCons_e, fNil_e, fVar_z, fVar_s, fVar_s', Res.bind_ok, enmA_l, Res.toS_ok]; exact ef) ?_
  obtain ⟨m, f, hbest, hmin⟩ := min_keys (corr rows sent) most hm1.1 g16
  have hsenOk : Ok sent := ⟨fun x hx => by have := hsen x hx; omega, by omega⟩
  have ef1 := echo_far_spec rows sent most g16 ho hsenOk lsen.symm hm1 m f hbest
  rw [List.length_map, List.length_range] at llen
  obtain ⟨g17, ff⟩ := filled_spec rows lost g16 ho hlost2 (by omega)
  refine seq_ex (ρ1 := (x0 :: some (.loc 0) :: some (.lst (rows.map .int)) :: x3 :: x4 :: x5 :: x6 :: x7 :: x8 :: x9 :: x10 :: x11 :: x12 :: x13 :: x14 :: x15 :: x16 :: v17 :: x18 :: x19 :: x20 :: x21 :: x22 :: x23 :: x24 :: x25 :: v26 :: x27 :: x28 :: some (.lst (sent.map .int)) :: some (.int (most : Int)) :: some (.lst (keysD (corr rows sent) (ups most))) :: x32 :: x33 :: some (.lst (lost.map .int)) :: some (.lst ((mapFrom (fillV rows lost) 0 rows).map .int)) :: v36 :: x37 :: [])) (g1 := g16 ++ g17) (by
    have ix : ∀ g, oIx (.tup [.int (-m), .int (f : Int)]) (.int 1) g = .ok (.int (f : Int)) g := fun g => rfl
    simp (disch := first | omega | (simp; done) | (simp; omega) | fail) only [Res.bind_ok, Res.bind_err, Res.bind_stuck, Res.toS_ok, Res.toS_err, fVar_z, fVar_s, fVar_s', fC_e, fBin_e, fNil_e, fCons_e, fCall_e, fCall0_e, fBi_e, fTup_e, mkTup_ok, fLst_e, mkLst_ok, mkLst_nil, fMut_e, mkMut_ok, fIf_e, fB_bin, fTru_e, tru_bl, tru_int, fNot_e, fAnd_e, fOr_e, fCh_e, fNeg_e, fNotV_e, sNil_e, sSeq_e, seq_nx', seq_rt', seq_err', seq_ct', seq_bk', sIf_e, sErr_e, sEx_e, sRt_e, sCt_e, sBk_e, sAsg_e, gNm_e, sPar_e, sPar3_e, gTp_tup, gsNil_e, gsCons_nm, sAug_z, ite_ok, ite_nx, ite_rt, ite_int, ite_bl, ite_str, ite_tup, ite_lst, ite_cons, ite_some, oAdd_i, oSub_i, oAddI_i, oSubI_i, oLt_i, oLe_i, oGt_i, oGe_i, oEq_i, oNe_i, oIs_non, oIsNot_non, bAbs_i, bMinA_i, bMaxA_i, bInt_i, bInt_b, bLen_t, bLen_l, bList_l, bList_t, bTuple_l, bTuple_t, lstOf_end, bTuple_end, isKind_end, set_end, fMt_e, sFor_e, iSeq_e, still_l, still_t, still_s, iRng_e, enmA_l, enmA_t, zppA_l, zppA_t, forD_nil, sWh_e, sized_ok, lc_e, gn_e, fSl_e, fNo_e, fSo_e, oSl_l, oSl_t, iSeqL_e, stillG_l, stillG_t, stillG_end, List.map_cons, List.map_nil, List.length_cons, List.length_nil, List.replicate, List.cons_append, List.nil_append, List.set_cons_zero, List.set_cons_succ, decide_eq_true_eq, Bool.not_eq_true, Bool.not_true, Bool.not_false, if_true, if_false, ite_self, Bool.false_eq_true, reduceIte, Nat.reduceAdd, Nat.reduceSub, Nat.reduceLeDiff, Nat.sub_zero, Nat.zero_add, List.append_nil, Bool.not_eq_eq_eq_not, decide_not, Bool.decide_eq_true, ef1, hmin, ix, ff, neI, beq_self_eq_true, Bool.true_eq_false]) ?_
  exact ⟨_, _, rfl, hg16.app g17⟩
end K05
end
section
set_option Elab.async false
set_option linter.all false
set_option maxRecDepth 100000
set_option maxHeartbeats 0
namespace K05
open PySem Dl
theorem enumD_ln : ∀ (ds : List D) (k : Nat), (enumD k ds).length = ds.length
  | [], _ => rfl
  | d :: r, k => by rw [enumD, List.length_cons, List.length_cons, enumD_ln r]
theorem turn3 {rows : List Int} (ho : Ok rows) (hl : rows.length ≤ 13) (x0 x3 x4 x5 x6 x7 x8 x9 x10 x11 x12 x13 x14 x15 x16 x17 x18 x19 x20 x21 x22 x23 x24 x25 x26 x27 x28 x29 x30 x31 x32 x33 x34 x35 x36 x37 : Option D) {g6 : G} (hg6 : IsG g6) : ∃ ρ' g', TL3 (x0 :: some (.loc 0) :: some (.lst (rows.map .int)) :: x3 :: x4 :: x5 :: x6 :: x7 :: x8 :: x9 :: x10 :: x11 :: x12 :: x13 :: x14 :: x15 :: x16 :: x17 :: x18 :: x19 :: x20 :: x21 :: x22 :: x23 :: x24 :: x25 :: x26 :: x27 :: x28 :: x29 :: x30 :: x31 :: x32 :: x33 :: x34 :: x35 :: x36 :: x37 :: []) g6 = .nx ρ' g' ∧ IsG g' := by
  have hz : rows.length ≤ 16777216 := by omega
  unfold TL3
  obtain ⟨fa0, g7, hg7, lf, uf, e7⟩ := roll_spec hg6 (many := 4) (by decide) (by decide)
  obtain ⟨un0, g8, hg8, lu, uu, e8⟩ := roll_spec hg7 (many := 5) (by decide) (by decide)
  obtain ⟨far, hfa⟩ : ∃ n : Nat, 1 + fa0 = (n : Int) := ⟨(1 + fa0).toNat, by omega⟩
  obtain ⟨under, hun⟩ : ∃ n : Int, 1 + un0 = n := ⟨_, rfl⟩
  obtain ⟨one, g9, hg9, lo, uo, e9⟩ := roll_spec hg8 (many := under + 1) (by omega) (by omega)
  have p : Prm far one under := ⟨by omega, by omega, by omega⟩
  refine seq_ex (ρ1 := (x0 :: some (.loc 0) :: some (.lst (rows.map .int)) :: x3 :: x4 :: x5 :: x6 :: x7 :: x8 :: x9 :: x10 :: x11 :: x12 :: x13 :: x14 :: x15 :: x16 :: x17 :: x18 :: x19 :: x20 :: x21 :: x22 :: some (.int (far : Int)) :: some (.int under) :: x25 :: x26 :: x27 :: x28 :: x29 :: x30 :: x31 :: x32 :: x33 :: x34 :: x35 :: x36 :: x37 :: [])) (g1 := g8) (by simp (disch := first | omega | (simp; done) | (simp; omega) | fail) only [Res.bind_ok, Res.bind_err, Res.bind_stuck, Res.toS_ok, Res.toS_err, fVar_z, fVar_s, fVar_s', fC_e, fBin_e, fNil_e, fCons_e, fCall_e, fCall0_e, fBi_e, fTup_e, mkTup_ok, fLst_e, mkLst_ok, mkLst_nil, fMut_e, mkMut_ok, fIf_e, fB_bin, fTru_e, tru_bl, tru_int, fNot_e, fAnd_e, fOr_e, fCh_e, fNeg_e, fNotV_e, sNil_e, sSeq_e, seq_nx', seq_rt', seq_err', seq_ct', seq_bk', sIf_e, sErr_e, sEx_e, sRt_e, sCt_e, sBk_e, sAsg_e, gNm_e, sPar_e, sPar3_e, gTp_tup, gsNil_e, gsCons_nm, sAug_z, ite_ok, ite_nx, ite_rt, ite_int, ite_bl, ite_str, ite_tup, ite_lst, ite_cons, ite_some, oAdd_i, oSub_i, oAddI_i, oSubI_i, oLt_i, oLe_i, oGt_i, oGe_i, oEq_i, oNe_i, oIs_non, oIsNot_non, bAbs_i, bMinA_i, bMaxA_i, bInt_i, bInt_b, bLen_t, bLen_l, bList_l, bList_t, bTuple_l, bTuple_t, lstOf_end, bTuple_end, isKind_end, set_end, fMt_e, sFor_e, iSeq_e, still_l, still_t, still_s, iRng_e, enmA_l, enmA_t, zppA_l, zppA_t, forD_nil, sWh_e, sized_ok, lc_e, gn_e, fSl_e, fNo_e, fSo_e, oSl_l, oSl_t, iSeqL_e, stillG_l, stillG_t, stillG_end, List.map_cons, List.map_nil, List.length_cons, List.length_nil, List.replicate, List.cons_append, List.nil_append, List.set_cons_zero, List.set_cons_succ, decide_eq_true_eq, Bool.not_eq_true, Bool.not_true, Bool.not_false, if_true, if_false, ite_self, Bool.false_eq_true, reduceIte, Nat.reduceAdd, Nat.reduceSub, Nat.reduceLeDiff, Nat.sub_zero, Nat.zero_add, List.append_nil, Bool.not_eq_eq_eq_not, decide_not, Bool.decide_eq_true, e7, e8, oAdd_l, hfa, hun, gTp_tup]) ?_
  refine seq_ex (ρ1 := (x0 :: some (.loc 0) :: some (.lst (rows.map .int)) :: x3 :: some (.int one) :: x5 :: x6 :: x7 :: x8 :: x9 :: x10 :: x11 :: x12 :: x13 :: x14 :: x15 :: x16 :: x17 :: x18 :: x19 :: x20 :: x21 :: x22 :: some (.int (far : Int)) :: some (.int under) :: x25 :: x26 :: x27 :: x28 :: x29 :: x30 :: x31 :: x32 :: x33 :: x34 :: x35 :: x36 :: x37 :: [])) (g1 := g9) (by simp (disch := first | omega | (simp; done) | (simp; omega) | fail) only [Res.bind_ok, Res.bind_err, Res.bind_stuck, Res.toS_ok, Res.toS_err, fVar_z, fVar_s, fVar_s', fC_e, fBin_e, fNil_e, fCons_e, fCall_e, fCall0_e, fBi_e, fTup_e, mkTup_ok, fLst_e, mkLst_ok, mkLst_nil, fMut_e, mkMut_ok, fIf_e, fB_bin, fTru_e, tru_bl, tru_int, fNot_e, fAnd_e, fOr_e, fCh_e, fNeg_e, fNotV_e, sNil_e, sSeq_e, seq_nx', seq_rt', seq_err', seq_ct', seq_bk', sIf_e, sErr_e, sEx_e, sRt_e, sCt_e, sBk_e, sAsg_e, gNm_e, sPar_e, sPar3_e, gTp_tup, gsNil_e, gsCons_nm, sAug_z, ite_ok, ite_nx, ite_rt, ite_int, ite_bl, ite_str, ite_tup, ite_lst, ite_cons, ite_some, oAdd_i, oSub_i, oAddI_i, oSubI_i, oLt_i, oLe_i, oGt_i, oGe_i, oEq_i, oNe_i, oIs_non, oIsNot_non, bAbs_i, bMinA_i, bMaxA_i, bInt_i, bInt_b, bLen_t, bLen_l, bList_l, bList_t, bTuple_l, bTuple_t, lstOf_end, bTuple_end, isKind_end, set_end, fMt_e, sFor_e, iSeq_e, still_l, still_t, still_s, iRng_e, enmA_l, enmA_t, zppA_l, zppA_t, forD_nil, sWh_e, sized_ok, lc_e, gn_e, fSl_e, fNo_e, fSo_e, oSl_l, oSl_t, iSeqL_e, stillG_l, stillG_t, stillG_end, List.map_cons, List.map_nil, List.length_cons, List.length_nil, List.replicate, List.cons_append, List.nil_append, List.set_cons_zero, List.set_cons_succ, decide_eq_true_eq, Bool.not_eq_true, Bool.not_true, Bool.not_false, if_true, if_false, ite_self, Bool.false_eq_true, reduceIte, Nat.reduceAdd, Nat.reduceSub, Nat.reduceLeDiff, Nat.sub_zero, Nat.zero_add, List.append_nil, Bool.not_eq_eq_eq_not, decide_not, Bool.decide_eq_true, e9, oAdd_l]) ?_
  refine seq_ex (ρ1 := (x0 :: some (.loc 0) :: some (.lst (rows.map .int)) :: x3 :: some (.int one) :: x5 :: x6 :: x7 :: x8 :: x9 :: x10 :: x11 :: x12 :: x13 :: x14 :: x15 :: x16 :: x17 :: x18 :: x19 :: x20 :: x21 :: x22 :: some (.int (far : Int)) :: some (.int under) :: some (.lst ((wecho far one under rows).map .int)) :: x26 :: x27 :: x28 :: x29 :: x30 :: x31 :: x32 :: x33 :: x34 :: x35 :: x36 :: x37 :: [])) (g1 := g9) (by
    have c1 := fun (x0 x1 x3 x5 x6 x7 x8 x9 x10 x11 x12 x13 x14 x15 x16 x17 x18 x19 x20 x21 x22 x25 x26 x27 x28 x29 x30 x31 x32 x33 x34 x35 x36 x37 : Option D) => echoed_c p rows ho g9 x0 x1 x3 x5 x6 x7 x8 x9 x10 x11 x12 x13 x14 x15 x16 x17 x18 x19 x20 x21 x22 x25 x26 x27 x28 x29 x30 x31 x32 x33 x34 x35 x36 x37
    have enl : (enumD 0 (rows.map D.int)).length ≤ 16777216 := by rw [enumD_ln, List.length_map]; exact hz
    simp (disch := first | exact enl | omega | (simp; done) | fail) only [Res.bind_ok, Res.bind_err, Res.bind_stuck, Res.toS_ok, Res.toS_err, fVar_z, fVar_s, fVar_s', fC_e, fBin_e, fNil_e, fCons_e, fCall_e, fCall0_e, fBi_e, fTup_e, mkTup_ok, fLst_e, mkLst_ok, mkLst_nil, fMut_e, mkMut_ok, fIf_e, fB_bin, fTru_e, tru_bl, tru_int, fNot_e, fAnd_e, fOr_e, fCh_e, fNeg_e, fNotV_e, sNil_e, sSeq_e, seq_nx', seq_rt', seq_err', seq_ct', seq_bk', sIf_e, sErr_e, sEx_e, sRt_e, sCt_e, sBk_e, sAsg_e, gNm_e, sPar_e, sPar3_e, gTp_tup, gsNil_e, gsCons_nm, sAug_z, ite_ok, ite_nx, ite_rt, ite_int, ite_bl, ite_str, ite_tup, ite_lst, ite_cons, ite_some, oAdd_i, oSub_i, oAddI_i, oSubI_i, oLt_i, oLe_i, oGt_i, oGe_i, oEq_i, oNe_i, oIs_non, oIsNot_non, bAbs_i, bMinA_i, bMaxA_i, bInt_i, bInt_b, bLen_t, bLen_l, bList_l, bList_t, bTuple_l, bTuple_t, lstOf_end, bTuple_end, isKind_end, set_end, fMt_e, sFor_e, iSeq_e, still_l, still_t, still_s, iRng_e, enmA_l, enmA_t, zppA_l, zppA_t, forD_nil, sWh_e, sized_ok, lc_e, gn_e, fSl_e, fNo_e, fSo_e, oSl_l, oSl_t, iSeqL_e, stillG_l, stillG_t, stillG_end, List.map_cons, List.map_nil, List.length_cons, List.length_nil, List.replicate, List.cons_append, List.nil_append, List.set_cons_zero, List.set_cons_succ, decide_eq_true_eq, Bool.not_eq_true, Bool.not_true, Bool.not_false, if_true, if_false, ite_self, Bool.false_eq_true, reduceIte, Nat.reduceAdd, Nat.reduceSub, Nat.reduceLeDiff, Nat.sub_zero, Nat.zero_add, List.append_nil, Bool.not_eq_eq_eq_not, decide_not, Bool.decide_eq_true, enmA_l, c1]) ?_
  refine seq_ex (ρ1 := (x0 :: some (.loc 0) :: some (.lst (rows.map .int)) :: x3 :: some (.int one) :: x5 :: x6 :: x7 :: x8 :: x9 :: x10 :: x11 :: x12 :: x13 :: x14 :: x15 :: x16 :: x17 :: x18 :: x19 :: x20 :: x21 :: x22 :: some (.int (far : Int)) :: some (.int under) :: some (.lst ((wecho far one under rows).map .int)) :: x26 :: some (.lst []) :: x28 :: x29 :: x30 :: x31 :: x32 :: x33 :: x34 :: x35 :: x36 :: x37 :: [])) (g1 := g9) (by simp (disch := first | omega | (simp; done) | (simp; omega) | fail) only [Res.bind_ok, Res.bind_err, Res.bind_stuck, Res.toS_ok, Res.toS_err, fVar_z, fVar_s, fVar_s', fC_e, fBin_e, fNil_e, fCons_e, fCall_e, fCall0_e, fBi_e, fTup_e, mkTup_ok, fLst_e, mkLst_ok, mkLst_nil, fMut_e, mkMut_ok, fIf_e, fB_bin, fTru_e, tru_bl, tru_int, fNot_e, fAnd_e, fOr_e, fCh_e, fNeg_e, fNotV_e, sNil_e, sSeq_e, seq_nx', seq_rt', seq_err', seq_ct', seq_bk', sIf_e, sErr_e, sEx_e, sRt_e, sCt_e, sBk_e, sAsg_e, gNm_e, sPar_e, sPar3_e, gTp_tup, gsNil_e, gsCons_nm, sAug_z, ite_ok, ite_nx, ite_rt, ite_int, ite_bl, ite_str, ite_tup, ite_lst, ite_cons, ite_some, oAdd_i, oSub_i, oAddI_i, oSubI_i, oLt_i, oLe_i, oGt_i, oGe_i, oEq_i, oNe_i, oIs_non, oIsNot_non, bAbs_i, bMinA_i, bMaxA_i, bInt_i, bInt_b, bLen_t, bLen_l, bList_l, bList_t, bTuple_l, bTuple_t, lstOf_end, bTuple_end, isKind_end, set_end, fMt_e, sFor_e, iSeq_e, still_l, still_t, still_s, iRng_e, enmA_l, enmA_t, zppA_l, zppA_t, forD_nil, sWh_e, sized_ok, lc_e, gn_e, fSl_e, fNo_e, fSo_e, oSl_l, oSl_t, iSeqL_e, stillG_l, stillG_t, stillG_end, List.map_cons, List.map_nil, List.length_cons, List.length_nil, List.replicate, List.cons_append, List.nil_append, List.set_cons_zero, List.set_cons_succ, decide_eq_true_eq, Bool.not_eq_true, Bool.not_true, Bool.not_false, if_true, if_false, ite_self, Bool.false_eq_true, reduceIte, Nat.reduceAdd, Nat.reduceSub, Nat.reduceLeDiff, Nat.sub_zero, Nat.zero_add, List.append_nil, Bool.not_eq_eq_eq_not, decide_not, Bool.decide_eq_true]) ?_
  obtain ⟨y17, y26, ec⟩ := clean_loop p g9 _ _ _ _ _ _ _ _ _ _ _ _ _ _ _ _ _ _ _ _ _ _ _ _ _ _ _ _ _ _ _ _ rows [] x17 x26 (by simp; omega) (by simp)
  refine seq_ex (ρ1 := (x0 :: some (.loc 0) :: some (.lst (rows.map .int)) :: x3 :: some (.int one) :: x5 :: x6 :: x7 :: x8 :: x9 :: x10 :: x11 :: x12 :: x13 :: x14 :: x15 :: x16 :: y17 :: x18 :: x19 :: x20 :: x21 :: x22 :: some (.int (far : Int)) :: some (.int under) :: some (.lst ((wecho far one under rows).map .int)) :: y26 :: some (.lst ((uecho far one under [] rows).map .int)) :: x28 :: x29 :: x30 :: x31 :: x32 :: x33 :: x34 :: x35 :: x36 :: x37 :: [])) (g1 := g9) (by
    rw [sFor_e]; simp only [iRng_e, fCons_e, fNil_e, fVar_z, fVar_s, fVar_s', Res.bind_ok, enmA_l, Res.toS_ok]; exact ec) ?_
  have w1 := with_echo_l p rows ho
  obtain ⟨g10, w2⟩ := without_gen p rows ho (il rows) (g9 ++ [O.lst ((wecho far one under rows).map .int)]) (w1 _) enmA_l
  refine seq_ex (ρ1 := (x0 :: some (.loc 0) :: some (.lst (rows.map .int)) :: x3 :: some (.int one) :: x5 :: x6 :: x7 :: x8 :: x9 :: x10 :: x11 :: x12 :: x13 :: x14 :: x15 :: x16 :: y17 :: x18 :: x19 :: x20 :: x21 :: x22 :: some (.int (far : Int)) :: some (.int under) :: some (.lst ((wecho far one under rows).map .int)) :: y26 :: some (.lst ((uecho far one under [] rows).map .int)) :: x28 :: x29 :: x30 :: x31 :: x32 :: x33 :: x34 :: x35 :: x36 :: x37 :: [])) (g1 := (g9 ++ [O.lst ((wecho far one under rows).map .int)]) ++ g10) (by
    have w1' := w1 g9
    simp (disch := first | omega | (simp; done) | (simp; omega) | fail) only [Res.bind_ok, Res.bind_err, Res.bind_stuck, Res.toS_ok, Res.toS_err, fVar_z, fVar_s, fVar_s', fC_e, fBin_e, fNil_e, fCons_e, fCall_e, fCall0_e, fBi_e, fTup_e, mkTup_ok, fLst_e, mkLst_ok, mkLst_nil, fMut_e, mkMut_ok, fIf_e, fB_bin, fTru_e, tru_bl, tru_int, fNot_e, fAnd_e, fOr_e, fCh_e, fNeg_e, fNotV_e, sNil_e, sSeq_e, seq_nx', seq_rt', seq_err', seq_ct', seq_bk', sIf_e, sErr_e, sEx_e, sRt_e, sCt_e, sBk_e, sAsg_e, gNm_e, sPar_e, sPar3_e, gTp_tup, gsNil_e, gsCons_nm, sAug_z, ite_ok, ite_nx, ite_rt, ite_int, ite_bl, ite_str, ite_tup, ite_lst, ite_cons, ite_some, oAdd_i, oSub_i, oAddI_i, oSubI_i, oLt_i, oLe_i, oGt_i, oGe_i, oEq_i, oNe_i, oIs_non, oIsNot_non, bAbs_i, bMinA_i, bMaxA_i, bInt_i, bInt_b, bLen_t, bLen_l, bList_l, bList_t, bTuple_l, bTuple_t, lstOf_end, bTuple_end, isKind_end, set_end, fMt_e, sFor_e, iSeq_e, still_l, still_t, still_s, iRng_e, enmA_l, enmA_t, zppA_l, zppA_t, forD_nil, sWh_e, sized_ok, lc_e, gn_e, fSl_e, fNo_e, fSo_e, oSl_l, oSl_t, iSeqL_e, stillG_l, stillG_t, stillG_end, List.map_cons, List.map_nil, List.length_cons, List.length_nil, List.replicate, List.cons_append, List.nil_append, List.set_cons_zero, List.set_cons_succ, decide_eq_true_eq, Bool.not_eq_true, Bool.not_true, Bool.not_false, if_true, if_false, ite_self, Bool.false_eq_true, reduceIte, Nat.reduceAdd, Nat.reduceSub, Nat.reduceLeDiff, Nat.sub_zero, Nat.zero_add, List.append_nil, Bool.not_eq_eq_eq_not, decide_not, Bool.decide_eq_true, w1', w2, neI]) ?_
  have hg11 := (hg9.app [O.lst ((wecho far one under rows).map .int)]).app g10
  generalize (g9 ++ [O.lst ((wecho far one under rows).map .int)]) ++ g10 = g11 at hg11 ⊢
  refine seq_ex (ρ1 := (x0 :: some (.loc 0) :: some (.lst (rows.map .int)) :: x3 :: some (.int one) :: x5 :: x6 :: x7 :: x8 :: x9 :: x10 :: x11 :: x12 :: x13 :: x14 :: x15 :: x16 :: y17 :: x18 :: x19 :: x20 :: x21 :: x22 :: some (.int (far : Int)) :: some (.int under) :: some (.lst ((wecho far one under rows).map .int)) :: y26 :: some (.lst ((uecho far one under [] rows).map .int)) :: some (.lst ((rows.map fun x => x / 4).map .int)) :: x29 :: x30 :: x31 :: x32 :: x33 :: x34 :: x35 :: x36 :: x37 :: [])) (g1 := g11) (by
    have c1 := fun (ρ : Env') (h : ρ.length = 38) => soft_c (g := g11) h rows
    simp (disch := first | omega | (simp; done) | (simp; omega) | fail) only [Res.bind_ok, Res.bind_err, Res.bind_stuck, Res.toS_ok, Res.toS_err, fVar_z, fVar_s, fVar_s', fC_e, fBin_e, fNil_e, fCons_e, fCall_e, fCall0_e, fBi_e, fTup_e, mkTup_ok, fLst_e, mkLst_ok, mkLst_nil, fMut_e, mkMut_ok, fIf_e, fB_bin, fTru_e, tru_bl, tru_int, fNot_e, fAnd_e, fOr_e, fCh_e, fNeg_e, fNotV_e, sNil_e, sSeq_e, seq_nx', seq_rt', seq_err', seq_ct', seq_bk', sIf_e, sErr_e, sEx_e, sRt_e, sCt_e, sBk_e, sAsg_e, gNm_e, sPar_e, sPar3_e, gTp_tup, gsNil_e, gsCons_nm, sAug_z, ite_ok, ite_nx, ite_rt, ite_int, ite_bl, ite_str, ite_tup, ite_lst, ite_cons, ite_some, oAdd_i, oSub_i, oAddI_i, oSubI_i, oLt_i, oLe_i, oGt_i, oGe_i, oEq_i, oNe_i, oIs_non, oIsNot_non, bAbs_i, bMinA_i, bMaxA_i, bInt_i, bInt_b, bLen_t, bLen_l, bList_l, bList_t, bTuple_l, bTuple_t, lstOf_end, bTuple_end, isKind_end, set_end, fMt_e, sFor_e, iSeq_e, still_l, still_t, still_s, iRng_e, enmA_l, enmA_t, zppA_l, zppA_t, forD_nil, sWh_e, sized_ok, lc_e, gn_e, fSl_e, fNo_e, fSo_e, oSl_l, oSl_t, iSeqL_e, stillG_l, stillG_t, stillG_end, List.map_cons, List.map_nil, List.length_cons, List.length_nil, List.replicate, List.cons_append, List.nil_append, List.set_cons_zero, List.set_cons_succ, decide_eq_true_eq, Bool.not_eq_true, Bool.not_true, Bool.not_false, if_true, if_false, ite_self, Bool.false_eq_true, reduceIte, Nat.reduceAdd, Nat.reduceSub, Nat.reduceLeDiff, Nat.sub_zero, Nat.zero_add, List.append_nil, Bool.not_eq_eq_eq_not, decide_not, Bool.decide_eq_true, c1]) ?_
  have hso : ∀ x ∈ rows.map fun x => x / 4, -2008 ≤ x ∧ x ≤ 2008 := fun x hx => by
    obtain ⟨y, hy, rfl⟩ := List.mem_map.mp hx
    have := ho.1 y hy
    omega
  have hsOk : Ok (rows.map fun x => x / 4) := ⟨fun x hx => by have := hso x hx; omega, by rw [List.length_map]; omega⟩
  generalize hsg : (rows.map fun x => x / 4) = soft at hso hsOk ⊢
  have v1 := with_echo_l p soft hsOk g11
  have hwe := wecho_ok far one under soft hsOk.2
  obtain ⟨g12, v2⟩ := without_gen p (wecho far one under soft) hwe (it (wecho far one under soft)) (g11 ++ [O.lst ((wecho far one under soft).map .int)]) (with_echo_t p _ hwe _) enmA_t
  have hback : uecho far one under [] (wecho far one under soft) = soft := soft_back p soft hso soft [] rfl
  rw [hback] at v2
  refine seq_ex (ρ1 := (x0 :: some (.loc 0) :: some (.lst (rows.map .int)) :: x3 :: some (.int one) :: x5 :: x6 :: x7 :: x8 :: x9 :: x10 :: x11 :: x12 :: x13 :: x14 :: x15 :: x16 :: y17 :: x18 :: x19 :: x20 :: x21 :: x22 :: some (.int (far : Int)) :: some (.int under) :: some (.lst ((wecho far one under rows).map .int)) :: y26 :: some (.lst ((uecho far one under [] rows).map .int)) :: some (.lst (soft.map .int)) :: x29 :: x30 :: x31 :: x32 :: x33 :: x34 :: x35 :: x36 :: x37 :: [])) (g1 := (g11 ++ [O.lst ((wecho far one under soft).map .int)]) ++ g12) (by simp (disch := first | omega | (simp; done) | (simp; omega) | fail) only [Res.bind_ok, Res.bind_err, Res.bind_stuck, Res.toS_ok, Res.toS_err, fVar_z, fVar_s, fVar_s', fC_e, fBin_e, fNil_e, fCons_e, fCall_e, fCall0_e, fBi_e, fTup_e, mkTup_ok, fLst_e, mkLst_ok, mkLst_nil, fMut_e, mkMut_ok, fIf_e, fB_bin, fTru_e, tru_bl, tru_int, fNot_e, fAnd_e, fOr_e, fCh_e, fNeg_e, fNotV_e, sNil_e, sSeq_e, seq_nx', seq_rt', seq_err', seq_ct', seq_bk', sIf_e, sErr_e, sEx_e, sRt_e, sCt_e, sBk_e, sAsg_e, gNm_e, sPar_e, sPar3_e, gTp_tup, gsNil_e, gsCons_nm, sAug_z, ite_ok, ite_nx, ite_rt, ite_int, ite_bl, ite_str, ite_tup, ite_lst, ite_cons, ite_some, oAdd_i, oSub_i, oAddI_i, oSubI_i, oLt_i, oLe_i, oGt_i, oGe_i, oEq_i, oNe_i, oIs_non, oIsNot_non, bAbs_i, bMinA_i, bMaxA_i, bInt_i, bInt_b, bLen_t, bLen_l, bList_l, bList_t, bTuple_l, bTuple_t, lstOf_end, bTuple_end, isKind_end, set_end, fMt_e, sFor_e, iSeq_e, still_l, still_t, still_s, iRng_e, enmA_l, enmA_t, zppA_l, zppA_t, forD_nil, sWh_e, sized_ok, lc_e, gn_e, fSl_e, fNo_e, fSo_e, oSl_l, oSl_t, iSeqL_e, stillG_l, stillG_t, stillG_end, List.map_cons, List.map_nil, List.length_cons, List.length_nil, List.replicate, List.cons_append, List.nil_append, List.set_cons_zero, List.set_cons_succ, decide_eq_true_eq, Bool.not_eq_true, Bool.not_true, Bool.not_false, if_true, if_false, ite_self, Bool.false_eq_true, reduceIte, Nat.reduceAdd, Nat.reduceSub, Nat.reduceLeDiff, Nat.sub_zero, Nat.zero_add, List.append_nil, Bool.not_eq_eq_eq_not, decide_not, Bool.decide_eq_true, v1, v2, neI]) ?_
  have hg13 := (hg11.app [O.lst ((wecho far one under soft).map .int)]).app g12
  generalize (g11 ++ [O.lst ((wecho far one under soft).map .int)]) ++ g12 = g13 at hg13 ⊢
  exact turn4 ho hl _ _ _ _ _ _ _ _ _ _ _ _ _ _ _ _ _ _ _ _ _ _ _ _ _ _ _ _ _ _ _ _ _ _ _ _ hg13
end K05
end
section
set_option Elab.async false
set_option linter.all false
set_option maxRecDepth 100000
set_option maxHeartbeats 0
namespace K05
open PySem Dl
theorem turn2 {rows : List Int} (ho : Ok rows) (hl : rows.length ≤ 13) (x0 x3 x4 x5 x6 x7 x8 x9 x10 x11 x12 x13 x14 x15 x16 x17 x18 x19 x20 x21 x22 x23 x24 x25 x26 x27 x28 x29 x30 x31 x32 x33 x34 x35 x36 x37 : Option D) {g3 : G} (hg3 : IsG g3) : ∃ ρ' g', TL2 (x0 :: some (.loc 0) :: some (.lst (rows.map .int)) :: x3 :: x4 :: x5 :: x6 :: x7 :: x8 :: x9 :: x10 :: x11 :: x12 :: x13 :: x14 :: x15 :: x16 :: x17 :: x18 :: x19 :: x20 :: x21 :: x22 :: x23 :: x24 :: x25 :: x26 :: x27 :: x28 :: x29 :: x30 :: x31 :: x32 :: x33 :: x34 :: x35 :: x36 :: x37 :: []) g3 = .nx ρ' g' ∧ IsG g' := by
  have hz : rows.length ≤ 16777216 := by omega
  unfold TL2
  obtain ⟨bound, g4, hg4, lb, ub, e4⟩ := roll_spec hg3 (many := 5) (by decide) (by decide)
  obtain ⟨le0, g5, hg5, ll, ul, e5⟩ := roll_spec hg4 (many := 4) (by decide) (by decide)
  obtain ⟨least, hle⟩ : ∃ n : Nat, 1 + le0 = (n : Int) := ⟨(1 + le0).toNat, by omega⟩
  have hle1 : 1 ≤ least := by omega
  refine seq_ex (ρ1 := (x0 :: some (.loc 0) :: some (.lst (rows.map .int)) :: x3 :: x4 :: x5 :: x6 :: x7 :: x8 :: x9 :: x10 :: x11 :: x12 :: some (.int bound) :: some (.int (least : Int)) :: x15 :: x16 :: x17 :: x18 :: x19 :: x20 :: x21 :: x22 :: x23 :: x24 :: x25 :: x26 :: x27 :: x28 :: x29 :: x30 :: x31 :: x32 :: x33 :: x34 :: x35 :: x36 :: x37 :: [])) (g1 := g5) (by simp (disch := first | omega | (simp; done) | (simp; omega) | fail) only [Res.bind_ok, Res.bind_err, Res.bind_stuck, Res.toS_ok, Res.toS_err, fVar_z, fVar_s, fVar_s', fC_e, fBin_e, fNil_e, fCons_e, fCall_e, fCall0_e, fBi_e, fTup_e, mkTup_ok, fLst_e, mkLst_ok, mkLst_nil, fMut_e, mkMut_ok, fIf_e, fB_bin, fTru_e, tru_bl, tru_int, fNot_e, fAnd_e, fOr_e, fCh_e, fNeg_e, fNotV_e, sNil_e, sSeq_e, seq_nx', seq_rt', seq_err', seq_ct', seq_bk', sIf_e, sErr_e, sEx_e, sRt_e, sCt_e, sBk_e, sAsg_e, gNm_e, sPar_e, sPar3_e, gTp_tup, gsNil_e, gsCons_nm, sAug_z, ite_ok, ite_nx, ite_rt, ite_int, ite_bl, ite_str, ite_tup, ite_lst, ite_cons, ite_some, oAdd_i, oSub_i, oAddI_i, oSubI_i, oLt_i, oLe_i, oGt_i, oGe_i, oEq_i, oNe_i, oIs_non, oIsNot_non, bAbs_i, bMinA_i, bMaxA_i, bInt_i, bInt_b, bLen_t, bLen_l, bList_l, bList_t, bTuple_l, bTuple_t, lstOf_end, bTuple_end, isKind_end, set_end, fMt_e, sFor_e, iSeq_e, still_l, still_t, still_s, iRng_e, enmA_l, enmA_t, zppA_l, zppA_t, forD_nil, sWh_e, sized_ok, lc_e, gn_e, fSl_e, fNo_e, fSo_e, oSl_l, oSl_t, iSeqL_e, stillG_l, stillG_t, stillG_end, List.map_cons, List.map_nil, List.length_cons, List.length_nil, List.replicate, List.cons_append, List.nil_append, List.set_cons_zero, List.set_cons_succ, decide_eq_true_eq, Bool.not_eq_true, Bool.not_true, Bool.not_false, if_true, if_false, ite_self, Bool.false_eq_true, reduceIte, Nat.reduceAdd, Nat.reduceSub, Nat.reduceLeDiff, Nat.sub_zero, Nat.zero_add, List.append_nil, Bool.not_eq_eq_eq_not, decide_not, Bool.decide_eq_true, e4, e5, oAdd_l, hle, gTp_tup]) ?_
  refine seq_ex (ρ1 := (x0 :: some (.loc 0) :: some (.lst (rows.map .int)) :: x3 :: x4 :: x5 :: x6 :: x7 :: x8 :: x9 :: x10 :: x11 :: x12 :: some (.int bound) :: some (.int (least : Int)) :: some (.str (mk bound rows)) :: x16 :: x17 :: x18 :: x19 :: x20 :: x21 :: x22 :: x23 :: x24 :: x25 :: x26 :: x27 :: x28 :: x29 :: x30 :: x31 :: x32 :: x33 :: x34 :: x35 :: x36 :: x37 :: [])) (g1 := g5) (by
    have c1 := fun (x0 x1 x2 x3 x4 x5 x6 x7 x8 x9 x10 x11 x12 x14 x15 x16 x17 x18 x19 x20 x21 x22 x23 x24 x25 x26 x27 x28 x29 x30 x31 x32 x33 x34 x35 x36 x37 : Option D) => marks_c (g := g5) x0 x1 x2 x3 x4 x5 x6 x7 x8 x9 x10 x11 x12 x14 x15 x16 x17 x18 x19 x20 x21 x22 x23 x24 x25 x26 x27 x28 x29 x30 x31 x32 x33 x34 x35 x36 x37 bound rows
    have j1 : mJoin (.str "") [.lst ((rows.map fun x => if qk bound x = true then ("q" : Str) else ("l" : Str)).map .str)] g5 = .ok (.str (mk bound rows)) g5 := join_marks bound rows g5 hz
    have ik : isKind "str" g5 (D.str "") = true := by kernel_rfl
    simp (disch := first | omega | (simp; done) | (simp; omega) | fail) only [Res.bind_ok, Res.bind_err, Res.bind_stuck, Res.toS_ok, Res.toS_err, fVar_z, fVar_s, fVar_s', fC_e, fBin_e, fNil_e, fCons_e, fCall_e, fCall0_e, fBi_e, fTup_e, mkTup_ok, fLst_e, mkLst_ok, mkLst_nil, fMut_e, mkMut_ok, fIf_e, fB_bin, fTru_e, tru_bl, tru_int, fNot_e, fAnd_e, fOr_e, fCh_e, fNeg_e, fNotV_e, sNil_e, sSeq_e, seq_nx', seq_rt', seq_err', seq_ct', seq_bk', sIf_e, sErr_e, sEx_e, sRt_e, sCt_e, sBk_e, sAsg_e, gNm_e, sPar_e, sPar3_e, gTp_tup, gsNil_e, gsCons_nm, sAug_z, ite_ok, ite_nx, ite_rt, ite_int, ite_bl, ite_str, ite_tup, ite_lst, ite_cons, ite_some, oAdd_i, oSub_i, oAddI_i, oSubI_i, oLt_i, oLe_i, oGt_i, oGe_i, oEq_i, oNe_i, oIs_non, oIsNot_non, bAbs_i, bMinA_i, bMaxA_i, bInt_i, bInt_b, bLen_t, bLen_l, bList_l, bList_t, bTuple_l, bTuple_t, lstOf_end, bTuple_end, isKind_end, set_end, fMt_e, sFor_e, iSeq_e, still_l, still_t, still_s, iRng_e, enmA_l, enmA_t, zppA_l, zppA_t, forD_nil, sWh_e, sized_ok, lc_e, gn_e, fSl_e, fNo_e, fSo_e, oSl_l, oSl_t, iSeqL_e, stillG_l, stillG_t, stillG_end, List.map_cons, List.map_nil, List.length_cons, List.length_nil, List.replicate, List.cons_append, List.nil_append, List.set_cons_zero, List.set_cons_succ, decide_eq_true_eq, Bool.not_eq_true, Bool.not_true, Bool.not_false, if_true, if_false, ite_self, Bool.false_eq_true, reduceIte, Nat.reduceAdd, Nat.reduceSub, Nat.reduceLeDiff, Nat.sub_zero, Nat.zero_add, List.append_nil, Bool.not_eq_eq_eq_not, decide_not, Bool.decide_eq_true, c1, j1, ik]) ?_
  refine seq_ex (ρ1 := (x0 :: some (.loc 0) :: some (.lst (rows.map .int)) :: x3 :: x4 :: x5 :: x6 :: x7 :: x8 :: x9 :: x10 :: x11 :: x12 :: some (.int bound) :: some (.int (least : Int)) :: some (.str (mk bound rows)) :: some (.lst []) :: some (.int 0) :: x18 :: x19 :: x20 :: x21 :: x22 :: x23 :: x24 :: x25 :: x26 :: x27 :: x28 :: x29 :: x30 :: x31 :: x32 :: x33 :: x34 :: x35 :: x36 :: x37 :: [])) (g1 := g5) (by simp (disch := first | omega | (simp; done) | (simp; omega) | fail) only [Res.bind_ok, Res.bind_err, Res.bind_stuck, Res.toS_ok, Res.toS_err, fVar_z, fVar_s, fVar_s', fC_e, fBin_e, fNil_e, fCons_e, fCall_e, fCall0_e, fBi_e, fTup_e, mkTup_ok, fLst_e, mkLst_ok, mkLst_nil, fMut_e, mkMut_ok, fIf_e, fB_bin, fTru_e, tru_bl, tru_int, fNot_e, fAnd_e, fOr_e, fCh_e, fNeg_e, fNotV_e, sNil_e, sSeq_e, seq_nx', seq_rt', seq_err', seq_ct', seq_bk', sIf_e, sErr_e, sEx_e, sRt_e, sCt_e, sBk_e, sAsg_e, gNm_e, sPar_e, sPar3_e, gTp_tup, gsNil_e, gsCons_nm, sAug_z, ite_ok, ite_nx, ite_rt, ite_int, ite_bl, ite_str, ite_tup, ite_lst, ite_cons, ite_some, oAdd_i, oSub_i, oAddI_i, oSubI_i, oLt_i, oLe_i, oGt_i, oGe_i, oEq_i, oNe_i, oIs_non, oIsNot_non, bAbs_i, bMinA_i, bMaxA_i, bInt_i, bInt_b, bLen_t, bLen_l, bList_l, bList_t, bTuple_l, bTuple_t, lstOf_end, bTuple_end, isKind_end, set_end, fMt_e, sFor_e, iSeq_e, still_l, still_t, still_s, iRng_e, enmA_l, enmA_t, zppA_l, zppA_t, forD_nil, sWh_e, sized_ok, lc_e, gn_e, fSl_e, fNo_e, fSo_e, oSl_l, oSl_t, iSeqL_e, stillG_l, stillG_t, stillG_end, List.map_cons, List.map_nil, List.length_cons, List.length_nil, List.replicate, List.cons_append, List.nil_append, List.set_cons_zero, List.set_cons_succ, decide_eq_true_eq, Bool.not_eq_true, Bool.not_true, Bool.not_false, if_true, if_false, ite_self, Bool.false_eq_true, reduceIte, Nat.reduceAdd, Nat.reduceSub, Nat.reduceLeDiff, Nat.sub_zero, Nat.zero_add, List.append_nil, Bool.not_eq_eq_eq_not, decide_not, Bool.decide_eq_true]) ?_
  obtain ⟨z17, z18, z19, z20, ep⟩ := parts_loop rows bound least g5 (by omega) hle1 _ _ _ _ _ _ _ _ _ _ _ _ _ _ _ _ _ _ _ _ _ _ _ _ _ _ _ _ _ rows.length 1000000 [] 0 x18 x19 x20 (by omega) (by omega) (good0 rows)
  refine seq_ex (ρ1 := (x0 :: some (.loc 0) :: some (.lst (rows.map .int)) :: x3 :: x4 :: x5 :: x6 :: x7 :: x8 :: x9 :: x10 :: x11 :: x12 :: some (.int bound) :: some (.int (least : Int)) :: some (.str (mk bound rows)) :: some (.lst ((partsQ rows bound least).map encP)) :: z17 :: z18 :: z19 :: z20 :: x21 :: x22 :: x23 :: x24 :: x25 :: x26 :: x27 :: x28 :: x29 :: x30 :: x31 :: x32 :: x33 :: x34 :: x35 :: x36 :: x37 :: [])) (g1 := g5) (by rw [sWh_e]; exact ep) ?_
  obtain ⟨q1, hgood⟩ := quiet_spec rows bound least g5 ho lb hle1
  have hfo := flat_ok hgood ho
  have q2 := fun g => long_spec hgood ho g
  generalize partsQ rows bound least = acc at q1 hgood hfo q2 ⊢
  refine seq_ex (ρ1 := (x0 :: some (.loc 0) :: some (.lst (rows.map .int)) :: x3 :: x4 :: x5 :: x6 :: x7 :: x8 :: x9 :: x10 :: x11 :: x12 :: some (.int bound) :: some (.int (least : Int)) :: some (.str (mk bound rows)) :: some (.lst (acc.map encP)) :: z17 :: z18 :: z19 :: z20 :: some (.lst ((flatA acc).map .int)) :: x22 :: x23 :: x24 :: x25 :: x26 :: x27 :: x28 :: x29 :: x30 :: x31 :: x32 :: x33 :: x34 :: x35 :: x36 :: x37 :: [])) (g1 := g5) (by
    have c1 := fun (ρ : Env') (h : ρ.length = 38) => flat_c (g := g5) h hgood (by omega)
    have b1 := sum_flatA (g := g5) acc hfo.2
    have hac : acc.length ≤ 16777216 := by have := hgood.num; omega
    have hac2 : (acc.map encP).length ≤ 16777216 := by rw [List.length_map]; exact hac
    simp (disch := first | exact hac2 | (simp; done) | (simp; omega) | fail) only [Res.bind_ok, Res.bind_err, Res.bind_stuck, Res.toS_ok, Res.toS_err, fVar_z, fVar_s, fVar_s', fC_e, fBin_e, fNil_e, fCons_e, fCall_e, fCall0_e, fBi_e, fTup_e, mkTup_ok, fLst_e, mkLst_ok, mkLst_nil, fMut_e, mkMut_ok, fIf_e, fB_bin, fTru_e, tru_bl, tru_int, fNot_e, fAnd_e, fOr_e, fCh_e, fNeg_e, fNotV_e, sNil_e, sSeq_e, seq_nx', seq_rt', seq_err', seq_ct', seq_bk', sIf_e, sErr_e, sEx_e, sRt_e, sCt_e, sBk_e, sAsg_e, gNm_e, sPar_e, sPar3_e, gTp_tup, gsNil_e, gsCons_nm, sAug_z, ite_ok, ite_nx, ite_rt, ite_int, ite_bl, ite_str, ite_tup, ite_lst, ite_cons, ite_some, oAdd_i, oSub_i, oAddI_i, oSubI_i, oLt_i, oLe_i, oGt_i, oGe_i, oEq_i, oNe_i, oIs_non, oIsNot_non, bAbs_i, bMinA_i, bMaxA_i, bInt_i, bInt_b, bLen_t, bLen_l, bList_l, bList_t, bTuple_l, bTuple_t, lstOf_end, bTuple_end, isKind_end, set_end, fMt_e, sFor_e, iSeq_e, still_l, still_t, still_s, iRng_e, enmA_l, enmA_t, zppA_l, zppA_t, forD_nil, sWh_e, sized_ok, lc_e, gn_e, fSl_e, fNo_e, fSo_e, oSl_l, oSl_t, iSeqL_e, stillG_l, stillG_t, stillG_end, List.map_cons, List.map_nil, List.length_cons, List.length_nil, List.replicate, List.cons_append, List.nil_append, List.set_cons_zero, List.set_cons_succ, decide_eq_true_eq, Bool.not_eq_true, Bool.not_true, Bool.not_false, if_true, if_false, ite_self, Bool.false_eq_true, reduceIte, Nat.reduceAdd, Nat.reduceSub, Nat.reduceLeDiff, Nat.sub_zero, Nat.zero_add, List.append_nil, Bool.not_eq_eq_eq_not, decide_not, Bool.decide_eq_true, still_l, c1, b1]) ?_
  refine seq_ex (ρ1 := (x0 :: some (.loc 0) :: some (.lst (rows.map .int)) :: x3 :: x4 :: x5 :: x6 :: x7 :: x8 :: x9 :: x10 :: x11 :: x12 :: some (.int bound) :: some (.int (least : Int)) :: some (.str (mk bound rows)) :: some (.lst (acc.map encP)) :: z17 :: z18 :: z19 :: z20 :: some (.lst ((flatA acc).map .int)) :: x22 :: x23 :: x24 :: x25 :: x26 :: x27 :: x28 :: x29 :: x30 :: x31 :: x32 :: x33 :: x34 :: x35 :: x36 :: x37 :: [])) (g1 := (g5 ++ [O.lst (acc.map encP)]) ++ [O.lst ((flatA acc).map .int)]) (by simp (disch := first | omega | (simp; done) | (simp; omega) | fail) only [Res.bind_ok, Res.bind_err, Res.bind_stuck, Res.toS_ok, Res.toS_err, fVar_z, fVar_s, fVar_s', fC_e, fBin_e, fNil_e, fCons_e, fCall_e, fCall0_e, fBi_e, fTup_e, mkTup_ok, fLst_e, mkLst_ok, mkLst_nil, fMut_e, mkMut_ok, fIf_e, fB_bin, fTru_e, tru_bl, tru_int, fNot_e, fAnd_e, fOr_e, fCh_e, fNeg_e, fNotV_e, sNil_e, sSeq_e, seq_nx', seq_rt', seq_err', seq_ct', seq_bk', sIf_e, sErr_e, sEx_e, sRt_e, sCt_e, sBk_e, sAsg_e, gNm_e, sPar_e, sPar3_e, gTp_tup, gsNil_e, gsCons_nm, sAug_z, ite_ok, ite_nx, ite_rt, ite_int, ite_bl, ite_str, ite_tup, ite_lst, ite_cons, ite_some, oAdd_i, oSub_i, oAddI_i, oSubI_i, oLt_i, oLe_i, oGt_i, oGe_i, oEq_i, oNe_i, oIs_non, oIsNot_non, bAbs_i, bMinA_i, bMaxA_i, bInt_i, bInt_b, bLen_t, bLen_l, bList_l, bList_t, bTuple_l, bTuple_t, lstOf_end, bTuple_end, isKind_end, set_end, fMt_e, sFor_e, iSeq_e, still_l, still_t, still_s, iRng_e, enmA_l, enmA_t, zppA_l, zppA_t, forD_nil, sWh_e, sized_ok, lc_e, gn_e, fSl_e, fNo_e, fSo_e, oSl_l, oSl_t, iSeqL_e, stillG_l, stillG_t, stillG_end, List.map_cons, List.map_nil, List.length_cons, List.length_nil, List.replicate, List.cons_append, List.nil_append, List.set_cons_zero, List.set_cons_succ, decide_eq_true_eq, Bool.not_eq_true, Bool.not_true, Bool.not_false, if_true, if_false, ite_self, Bool.false_eq_true, reduceIte, Nat.reduceAdd, Nat.reduceSub, Nat.reduceLeDiff, Nat.sub_zero, Nat.zero_add, List.append_nil, Bool.not_eq_eq_eq_not, decide_not, Bool.decide_eq_true, q1, q2, neP, neI]) ?_
  have hg6 := (hg5.app [O.lst (acc.map encP)]).app [O.lst ((flatA acc).map .int)]
  generalize (g5 ++ [O.lst (acc.map encP)]) ++ [O.lst ((flatA acc).map .int)] = g6 at hg6 ⊢
  exact turn3 ho hl _ _ _ _ _ _ _ _ _ _ _ _ _ _ _ _ _ _ _ _ _ _ _ _ _ _ _ _ _ _ _ _ _ _ _ _ hg6
end K05
end
section
set_option Elab.async false
set_option linter.all false
set_option maxRecDepth 100000
set_option maxHeartbeats 0
namespace K05
open PySem Dl
theorem turn {g : G} (hg : IsG g) (x0 : Option D) : ∃ ρ' g', W_law_4 (x0 :: some (.loc 0) :: none :: none :: none :: none :: none :: none :: none :: none :: none :: none :: none :: none :: none :: none :: none :: none :: none :: none :: none :: none :: none :: none :: none :: none :: none :: none :: none :: none :: none :: none :: none :: none :: none :: none :: none :: none :: []) g = .nx ρ' g' ∧ IsG g' := by
  obtain ⟨rows, g1, hg1, ho, hl, e1⟩ := draw_spec hg
  have hz : rows.length ≤ 16777216 := by omega
  unfold W_law_4
  refine seq_ex (ρ1 := (x0 :: some (.loc 0) :: some (.lst (rows.map .int)) :: none :: none :: none :: none :: none :: none :: none :: none :: none :: none :: none :: none :: none :: none :: none :: none :: none :: none :: none :: none :: none :: none :: none :: none :: none :: none :: none :: none :: none :: none :: none :: none :: none :: none :: none :: [])) (g1 := g1) (by simp only [Res.bind_ok, Res.bind_err, Res.bind_stuck, Res.toS_ok, Res.toS_err, fVar_z, fVar_s, fVar_s', fC_e, fBin_e, fNil_e, fCons_e, fCall_e, fCall0_e, fBi_e, fTup_e, mkTup_ok, fLst_e, mkLst_ok, mkLst_nil, fMut_e, mkMut_ok, fIf_e, fB_bin, fTru_e, tru_bl, tru_int, fNot_e, fAnd_e, fOr_e, fCh_e, fNeg_e, fNotV_e, sNil_e, sSeq_e, seq_nx', seq_rt', seq_err', seq_ct', seq_bk', sIf_e, sErr_e, sEx_e, sRt_e, sCt_e, sBk_e, sAsg_e, gNm_e, sPar_e, sPar3_e, gTp_tup, gsNil_e, gsCons_nm, sAug_z, ite_ok, ite_nx, ite_rt, ite_int, ite_bl, ite_str, ite_tup, ite_lst, ite_cons, ite_some, oAdd_i, oSub_i, oAddI_i, oSubI_i, oLt_i, oLe_i, oGt_i, oGe_i, oEq_i, oNe_i, oIs_non, oIsNot_non, bAbs_i, bMinA_i, bMaxA_i, bInt_i, bInt_b, bLen_t, bLen_l, bList_l, bList_t, bTuple_l, bTuple_t, lstOf_end, bTuple_end, isKind_end, set_end, fMt_e, sFor_e, iSeq_e, still_l, still_t, still_s, iRng_e, enmA_l, enmA_t, zppA_l, zppA_t, forD_nil, sWh_e, sized_ok, lc_e, gn_e, fSl_e, fNo_e, fSo_e, oSl_l, oSl_t, iSeqL_e, stillG_l, stillG_t, stillG_end, List.map_cons, List.map_nil, List.length_cons, List.length_nil, List.replicate, List.cons_append, List.nil_append, List.set_cons_zero, List.set_cons_succ, decide_eq_true_eq, Bool.not_eq_true, Bool.not_true, Bool.not_false, if_true, if_false, ite_self, Bool.false_eq_true, reduceIte, Nat.reduceAdd, Nat.reduceSub, Nat.reduceLeDiff, Nat.sub_zero, Nat.zero_add, List.append_nil, Bool.not_eq_eq_eq_not, decide_not, Bool.decide_eq_true, e1]) ?_
  refine seq_ex (ρ1 := (x0 :: some (.loc 0) :: some (.lst (rows.map .int)) :: some (.lst ((rows.map press).map .int)) :: none :: none :: none :: none :: none :: none :: none :: none :: none :: none :: none :: none :: none :: none :: none :: none :: none :: none :: none :: none :: none :: none :: none :: none :: none :: none :: none :: none :: none :: none :: none :: none :: none :: none :: [])) (g1 := g1) (by
    have cc := fun (ρ : Env') (h : ρ.length = 38) => codes_c (g := g1) h ho
    simp (disch := first | omega | (simp; done) | (simp; omega) | fail) only [Res.bind_ok, Res.bind_err, Res.bind_stuck, Res.toS_ok, Res.toS_err, fVar_z, fVar_s, fVar_s', fC_e, fBin_e, fNil_e, fCons_e, fCall_e, fCall0_e, fBi_e, fTup_e, mkTup_ok, fLst_e, mkLst_ok, mkLst_nil, fMut_e, mkMut_ok, fIf_e, fB_bin, fTru_e, tru_bl, tru_int, fNot_e, fAnd_e, fOr_e, fCh_e, fNeg_e, fNotV_e, sNil_e, sSeq_e, seq_nx', seq_rt', seq_err', seq_ct', seq_bk', sIf_e, sErr_e, sEx_e, sRt_e, sCt_e, sBk_e, sAsg_e, gNm_e, sPar_e, sPar3_e, gTp_tup, gsNil_e, gsCons_nm, sAug_z, ite_ok, ite_nx, ite_rt, ite_int, ite_bl, ite_str, ite_tup, ite_lst, ite_cons, ite_some, oAdd_i, oSub_i, oAddI_i, oSubI_i, oLt_i, oLe_i, oGt_i, oGe_i, oEq_i, oNe_i, oIs_non, oIsNot_non, bAbs_i, bMinA_i, bMaxA_i, bInt_i, bInt_b, bLen_t, bLen_l, bList_l, bList_t, bTuple_l, bTuple_t, lstOf_end, bTuple_end, isKind_end, set_end, fMt_e, sFor_e, iSeq_e, still_l, still_t, still_s, iRng_e, enmA_l, enmA_t, zppA_l, zppA_t, forD_nil, sWh_e, sized_ok, lc_e, gn_e, fSl_e, fNo_e, fSo_e, oSl_l, oSl_t, iSeqL_e, stillG_l, stillG_t, stillG_end, List.map_cons, List.map_nil, List.length_cons, List.length_nil, List.replicate, List.cons_append, List.nil_append, List.set_cons_zero, List.set_cons_succ, decide_eq_true_eq, Bool.not_eq_true, Bool.not_true, Bool.not_false, if_true, if_false, ite_self, Bool.false_eq_true, reduceIte, Nat.reduceAdd, Nat.reduceSub, Nat.reduceLeDiff, Nat.sub_zero, Nat.zero_add, List.append_nil, Bool.not_eq_eq_eq_not, decide_not, Bool.decide_eq_true, cc]) ?_
  have hcr : ∀ c ∈ rows.map press, 0 ≤ c ∧ c < 256 := fun c hc => by
    obtain ⟨x, hx, rfl⟩ := List.mem_map.mp hc
    exact press_rng x (ho.1 x hx)
  have hzz : (zipD (rows.map D.int) ((rows.map press).map .int)).length ≤ 16777216 := Nat.le_trans (zipD_len _ _) (by rw [List.length_map]; exact hz)
  refine seq_ex (ρ1 := (x0 :: some (.loc 0) :: some (.lst (rows.map .int)) :: some (.lst ((rows.map press).map .int)) :: none :: some (.lst ((rows.map gap).map .int)) :: none :: none :: none :: none :: none :: none :: none :: none :: none :: none :: none :: none :: none :: none :: none :: none :: none :: none :: none :: none :: none :: none :: none :: none :: none :: none :: none :: none :: none :: none :: none :: none :: [])) (g1 := g1) (by
    have cc := fun (ρ : Env') (h : ρ.length = 38) => gaps_c (g := g1) h ho
    simp (disch := first | exact hzz | omega | (simp; done) | fail) only [Res.bind_ok, Res.bind_err, Res.bind_stuck, Res.toS_ok, Res.toS_err, fVar_z, fVar_s, fVar_s', fC_e, fBin_e, fNil_e, fCons_e, fCall_e, fCall0_e, fBi_e, fTup_e, mkTup_ok, fLst_e, mkLst_ok, mkLst_nil, fMut_e, mkMut_ok, fIf_e, fB_bin, fTru_e, tru_bl, tru_int, fNot_e, fAnd_e, fOr_e, fCh_e, fNeg_e, fNotV_e, sNil_e, sSeq_e, seq_nx', seq_rt', seq_err', seq_ct', seq_bk', sIf_e, sErr_e, sEx_e, sRt_e, sCt_e, sBk_e, sAsg_e, gNm_e, sPar_e, sPar3_e, gTp_tup, gsNil_e, gsCons_nm, sAug_z, ite_ok, ite_nx, ite_rt, ite_int, ite_bl, ite_str, ite_tup, ite_lst, ite_cons, ite_some, oAdd_i, oSub_i, oAddI_i, oSubI_i, oLt_i, oLe_i, oGt_i, oGe_i, oEq_i, oNe_i, oIs_non, oIsNot_non, bAbs_i, bMinA_i, bMaxA_i, bInt_i, bInt_b, bLen_t, bLen_l, bList_l, bList_t, bTuple_l, bTuple_t, lstOf_end, bTuple_end, isKind_end, set_end, fMt_e, sFor_e, iSeq_e, still_l, still_t, still_s, iRng_e, enmA_l, enmA_t, zppA_l, zppA_t, forD_nil, sWh_e, sized_ok, lc_e, gn_e, fSl_e, fNo_e, fSo_e, oSl_l, oSl_t, iSeqL_e, stillG_l, stillG_t, stillG_end, List.map_cons, List.map_nil, List.length_cons, List.length_nil, List.replicate, List.cons_append, List.nil_append, List.set_cons_zero, List.set_cons_succ, decide_eq_true_eq, Bool.not_eq_true, Bool.not_true, Bool.not_false, if_true, if_false, ite_self, Bool.false_eq_true, reduceIte, Nat.reduceAdd, Nat.reduceSub, Nat.reduceLeDiff, Nat.sub_zero, Nat.zero_add, List.append_nil, Bool.not_eq_eq_eq_not, decide_not, Bool.decide_eq_true, cc]) ?_
  have hm : bMaxA [.lst ((rows.map gap).map .int ++ [.int 0])] g1 = .ok (.int (maxL (rows.map gap ++ [0]))) g1 := by
    have e : (rows.map gap).map D.int ++ [.int 0] = (rows.map gap ++ [0]).map D.int := by simp
    rw [e]
    cases hh : rows.map gap ++ [0] with
    | nil => simp at hh
    | cons a l => exact bMaxA_l a l
  have hs := bSumA_l (g := g1) (rows.map gap)
  refine seq_ex (ρ1 := (x0 :: some (.loc 0) :: some (.lst (rows.map .int)) :: some (.lst ((rows.map press).map .int)) :: none :: some (.lst ((rows.map gap).map .int)) :: none :: none :: none :: none :: none :: none :: none :: none :: none :: none :: none :: none :: none :: none :: none :: none :: none :: none :: none :: none :: none :: none :: none :: none :: none :: none :: none :: none :: none :: none :: none :: none :: [])) (g1 := g1) (by
    have c1 := fun (ρ : Env') (h : ρ.length = 38) => pressed_c (g := g1) h ho
    have c2 := fun (ρ : Env') (h : ρ.length = 38) => opened_c (g := g1) h hcr
    have c3 := fun (ρ : Env') (h : ρ.length = 38) => lopened_c (g := g1) h hcr
    have ob := off_by_spec rows g1 ho
    simp (disch := first | omega | (simp; done) | (simp; omega) | fail) only [Res.bind_ok, Res.bind_err, Res.bind_stuck, Res.toS_ok, Res.toS_err, fVar_z, fVar_s, fVar_s', fC_e, fBin_e, fNil_e, fCons_e, fCall_e, fCall0_e, fBi_e, fTup_e, mkTup_ok, fLst_e, mkLst_ok, mkLst_nil, fMut_e, mkMut_ok, fIf_e, fB_bin, fTru_e, tru_bl, tru_int, fNot_e, fAnd_e, fOr_e, fCh_e, fNeg_e, fNotV_e, sNil_e, sSeq_e, seq_nx', seq_rt', seq_err', seq_ct', seq_bk', sIf_e, sErr_e, sEx_e, sRt_e, sCt_e, sBk_e, sAsg_e, gNm_e, sPar_e, sPar3_e, gTp_tup, gsNil_e, gsCons_nm, sAug_z, ite_ok, ite_nx, ite_rt, ite_int, ite_bl, ite_str, ite_tup, ite_lst, ite_cons, ite_some, oAdd_i, oSub_i, oAddI_i, oSubI_i, oLt_i, oLe_i, oGt_i, oGe_i, oEq_i, oNe_i, oIs_non, oIsNot_non, bAbs_i, bMinA_i, bMaxA_i, bInt_i, bInt_b, bLen_t, bLen_l, bList_l, bList_t, bTuple_l, bTuple_t, lstOf_end, bTuple_end, isKind_end, set_end, fMt_e, sFor_e, iSeq_e, still_l, still_t, still_s, iRng_e, enmA_l, enmA_t, zppA_l, zppA_t, forD_nil, sWh_e, sized_ok, lc_e, gn_e, fSl_e, fNo_e, fSo_e, oSl_l, oSl_t, iSeqL_e, stillG_l, stillG_t, stillG_end, List.map_cons, List.map_nil, List.length_cons, List.length_nil, List.replicate, List.cons_append, List.nil_append, List.set_cons_zero, List.set_cons_succ, decide_eq_true_eq, Bool.not_eq_true, Bool.not_true, Bool.not_false, if_true, if_false, ite_self, Bool.false_eq_true, reduceIte, Nat.reduceAdd, Nat.reduceSub, Nat.reduceLeDiff, Nat.sub_zero, Nat.zero_add, List.append_nil, Bool.not_eq_eq_eq_not, decide_not, Bool.decide_eq_true, c1, c2, c3, neI, ob, hm, hs, oAdd_l, ne2]) ?_
  obtain ⟨code, g2, hg2, lc, uc, e2⟩ := roll_spec hg1 (many := 256) (by decide) (by decide)
  refine seq_ex (ρ1 := (x0 :: some (.loc 0) :: some (.lst (rows.map .int)) :: some (.lst ((rows.map press).map .int)) :: none :: some (.lst ((rows.map gap).map .int)) :: some (.int code) :: none :: none :: none :: none :: none :: none :: none :: none :: none :: none :: none :: none :: none :: none :: none :: none :: none :: none :: none :: none :: none :: none :: none :: none :: none :: none :: none :: none :: none :: none :: none :: [])) (g1 := g2) (by simp only [Res.bind_ok, Res.bind_err, Res.bind_stuck, Res.toS_ok, Res.toS_err, fVar_z, fVar_s, fVar_s', fC_e, fBin_e, fNil_e, fCons_e, fCall_e, fCall0_e, fBi_e, fTup_e, mkTup_ok, fLst_e, mkLst_ok, mkLst_nil, fMut_e, mkMut_ok, fIf_e, fB_bin, fTru_e, tru_bl, tru_int, fNot_e, fAnd_e, fOr_e, fCh_e, fNeg_e, fNotV_e, sNil_e, sSeq_e, seq_nx', seq_rt', seq_err', seq_ct', seq_bk', sIf_e, sErr_e, sEx_e, sRt_e, sCt_e, sBk_e, sAsg_e, gNm_e, sPar_e, sPar3_e, gTp_tup, gsNil_e, gsCons_nm, sAug_z, ite_ok, ite_nx, ite_rt, ite_int, ite_bl, ite_str, ite_tup, ite_lst, ite_cons, ite_some, oAdd_i, oSub_i, oAddI_i, oSubI_i, oLt_i, oLe_i, oGt_i, oGe_i, oEq_i, oNe_i, oIs_non, oIsNot_non, bAbs_i, bMinA_i, bMaxA_i, bInt_i, bInt_b, bLen_t, bLen_l, bList_l, bList_t, bTuple_l, bTuple_t, lstOf_end, bTuple_end, isKind_end, set_end, fMt_e, sFor_e, iSeq_e, still_l, still_t, still_s, iRng_e, enmA_l, enmA_t, zppA_l, zppA_t, forD_nil, sWh_e, sized_ok, lc_e, gn_e, fSl_e, fNo_e, fSo_e, oSl_l, oSl_t, iSeqL_e, stillG_l, stillG_t, stillG_end, List.map_cons, List.map_nil, List.length_cons, List.length_nil, List.replicate, List.cons_append, List.nil_append, List.set_cons_zero, List.set_cons_succ, decide_eq_true_eq, Bool.not_eq_true, Bool.not_true, Bool.not_false, if_true, if_false, ite_self, Bool.false_eq_true, reduceIte, Nat.reduceAdd, Nat.reduceSub, Nat.reduceLeDiff, Nat.sub_zero, Nat.zero_add, List.append_nil, Bool.not_eq_eq_eq_not, decide_not, Bool.decide_eq_true, e2]) ?_
  have hop := opn_eq code ⟨lc, uc⟩
  have hlo : F__law_open [.int code] g2 = .ok (.int (opn code)) g2 := by rw [law_open_spec code g2 ⟨lc, uc⟩, hop.1]
  have hne : oNe (.int (opn code)) (.int (opn code)) g2 = .ok (.bl false) g2 := by simp
  have t3 : (fB (fBin oNe (fCall F_opened (fCons (fVar 6) fNil)) (fCall F__law_open (fCons (fVar 6) fNil)))) (x0 :: some (.loc 0) :: some (.lst (rows.map .int)) :: some (.lst ((rows.map press).map .int)) :: none :: some (.lst ((rows.map gap).map .int)) :: some (.int code) :: none :: none :: none :: none :: none :: none :: none :: none :: none :: none :: none :: none :: none :: none :: none :: none :: none :: none :: none :: none :: none :: none :: none :: none :: none :: none :: none :: none :: none :: none :: none :: []) g2 = .ok false g2 := by simp only [Res.bind_ok, Res.bind_err, Res.bind_stuck, Res.toS_ok, Res.toS_err, fVar_z, fVar_s, fVar_s', fC_e, fBin_e, fNil_e, fCons_e, fCall_e, fCall0_e, fBi_e, fTup_e, mkTup_ok, fLst_e, mkLst_ok, mkLst_nil, fMut_e, mkMut_ok, fIf_e, fB_bin, fTru_e, tru_bl, tru_int, fNot_e, fAnd_e, fOr_e, fCh_e, fNeg_e, fNotV_e, sNil_e, sSeq_e, seq_nx', seq_rt', seq_err', seq_ct', seq_bk', sIf_e, sErr_e, sEx_e, sRt_e, sCt_e, sBk_e, sAsg_e, gNm_e, sPar_e, sPar3_e, gTp_tup, gsNil_e, gsCons_nm, sAug_z, ite_ok, ite_nx, ite_rt, ite_int, ite_bl, ite_str, ite_tup, ite_lst, ite_cons, ite_some, oAdd_i, oSub_i, oAddI_i, oSubI_i, oLt_i, oLe_i, oGt_i, oGe_i, oEq_i, oNe_i, oIs_non, oIsNot_non, bAbs_i, bMinA_i, bMaxA_i, bInt_i, bInt_b, bLen_t, bLen_l, bList_l, bList_t, bTuple_l, bTuple_t, lstOf_end, bTuple_end, isKind_end, set_end, fMt_e, sFor_e, iSeq_e, still_l, still_t, still_s, iRng_e, enmA_l, enmA_t, zppA_l, zppA_t, forD_nil, sWh_e, sized_ok, lc_e, gn_e, fSl_e, fNo_e, fSo_e, oSl_l, oSl_t, iSeqL_e, stillG_l, stillG_t, stillG_end, List.map_cons, List.map_nil, List.length_cons, List.length_nil, List.replicate, List.cons_append, List.nil_append, List.set_cons_zero, List.set_cons_succ, decide_eq_true_eq, Bool.not_eq_true, Bool.not_true, Bool.not_false, if_true, if_false, ite_self, Bool.false_eq_true, reduceIte, Nat.reduceAdd, Nat.reduceSub, Nat.reduceLeDiff, Nat.sub_zero, Nat.zero_add, List.append_nil, Bool.not_eq_eq_eq_not, decide_not, Bool.decide_eq_true, opened_spec code g2 ⟨lc, uc⟩, hlo, hne]
  have t4 : (fAnd (fB (fBin oLt (fBi bAbs (fCons (fCall F__law_open (fCons (fVar 6) fNil)) fNil)) (fC (.int 8032)))) (fAnd (fB (fBin oNe (fCall F__law_open (fCons (fVar 6) fNil)) (fC (.int 0)))) (fB (fBin oNe (fCall F_pressed (fCons (fCall F__law_open (fCons (fVar 6) fNil)) fNil)) (fVar 6))))) (x0 :: some (.loc 0) :: some (.lst (rows.map .int)) :: some (.lst ((rows.map press).map .int)) :: none :: some (.lst ((rows.map gap).map .int)) :: some (.int code) :: none :: none :: none :: none :: none :: none :: none :: none :: none :: none :: none :: none :: none :: none :: none :: none :: none :: none :: none :: none :: none :: none :: none :: none :: none :: none :: none :: none :: none :: none :: none :: []) g2 = .ok false g2 := by
    by_cases a : ((opn code).natAbs : Int) < 8032
    · by_cases b : opn code = 0
      · simp only [Res.bind_ok, Res.bind_err, Res.bind_stuck, Res.toS_ok, Res.toS_err, fVar_z, fVar_s, fVar_s', fC_e, fBin_e, fNil_e, fCons_e, fCall_e, fCall0_e, fBi_e, fTup_e, mkTup_ok, fLst_e, mkLst_ok, mkLst_nil, fMut_e, mkMut_ok, fIf_e, fB_bin, fTru_e, tru_bl, tru_int, fNot_e, fAnd_e, fOr_e, fCh_e, fNeg_e, fNotV_e, sNil_e, sSeq_e, seq_nx', seq_rt', seq_err', seq_ct', seq_bk', sIf_e, sErr_e, sEx_e, sRt_e, sCt_e, sBk_e, sAsg_e, gNm_e, sPar_e, sPar3_e, gTp_tup, gsNil_e, gsCons_nm, sAug_z, ite_ok, ite_nx, ite_rt, ite_int, ite_bl, ite_str, ite_tup, ite_lst, ite_cons, ite_some, oAdd_i, oSub_i, oAddI_i, oSubI_i, oLt_i, oLe_i, oGt_i, oGe_i, oEq_i, oNe_i, oIs_non, oIsNot_non, bAbs_i, bMinA_i, bMaxA_i, bInt_i, bInt_b, bLen_t, bLen_l, bList_l, bList_t, bTuple_l, bTuple_t, lstOf_end, bTuple_end, isKind_end, set_end, fMt_e, sFor_e, iSeq_e, still_l, still_t, still_s, iRng_e, enmA_l, enmA_t, zppA_l, zppA_t, forD_nil, sWh_e, sized_ok, lc_e, gn_e, fSl_e, fNo_e, fSo_e, oSl_l, oSl_t, iSeqL_e, stillG_l, stillG_t, stillG_end, List.map_cons, List.map_nil, List.length_cons, List.length_nil, List.replicate, List.cons_append, List.nil_append, List.set_cons_zero, List.set_cons_succ, decide_eq_true_eq, Bool.not_eq_true, Bool.not_true, Bool.not_false, if_true, if_false, ite_self, Bool.false_eq_true, reduceIte, Nat.reduceAdd, Nat.reduceSub, Nat.reduceLeDiff, Nat.sub_zero, Nat.zero_add, List.append_nil, Bool.not_eq_eq_eq_not, decide_not, Bool.decide_eq_true, hlo, a, decide_true, b, beq_self_eq_true]
      · have b' : (opn code == 0) = false := by simpa using b
        have : press (opn code) = code := by
          rcases hop.2 with z | z | z
          · omega
          · exact absurd z b
          · exact z
        have hp : F_pressed [.int (opn code)] g2 = .ok (.int code) g2 := by rw [pressed_spec _ _ (by omega), this]
        simp only [Res.bind_ok, Res.bind_err, Res.bind_stuck, Res.toS_ok, Res.toS_err, fVar_z, fVar_s, fVar_s', fC_e, fBin_e, fNil_e, fCons_e, fCall_e, fCall0_e, fBi_e, fTup_e, mkTup_ok, fLst_e, mkLst_ok, mkLst_nil, fMut_e, mkMut_ok, fIf_e, fB_bin, fTru_e, tru_bl, tru_int, fNot_e, fAnd_e, fOr_e, fCh_e, fNeg_e, fNotV_e, sNil_e, sSeq_e, seq_nx', seq_rt', seq_err', seq_ct', seq_bk', sIf_e, sErr_e, sEx_e, sRt_e, sCt_e, sBk_e, sAsg_e, gNm_e, sPar_e, sPar3_e, gTp_tup, gsNil_e, gsCons_nm, sAug_z, ite_ok, ite_nx, ite_rt, ite_int, ite_bl, ite_str, ite_tup, ite_lst, ite_cons, ite_some, oAdd_i, oSub_i, oAddI_i, oSubI_i, oLt_i, oLe_i, oGt_i, oGe_i, oEq_i, oNe_i, oIs_non, oIsNot_non, bAbs_i, bMinA_i, bMaxA_i, bInt_i, bInt_b, bLen_t, bLen_l, bList_l, bList_t, bTuple_l, bTuple_t, lstOf_end, bTuple_end, isKind_end, set_end, fMt_e, sFor_e, iSeq_e, still_l, still_t, still_s, iRng_e, enmA_l, enmA_t, zppA_l, zppA_t, forD_nil, sWh_e, sized_ok, lc_e, gn_e, fSl_e, fNo_e, fSo_e, oSl_l, oSl_t, iSeqL_e, stillG_l, stillG_t, stillG_end, List.map_cons, List.map_nil, List.length_cons, List.length_nil, List.replicate, List.cons_append, List.nil_append, List.set_cons_zero, List.set_cons_succ, decide_eq_true_eq, Bool.not_eq_true, Bool.not_true, Bool.not_false, if_true, if_false, ite_self, Bool.false_eq_true, reduceIte, Nat.reduceAdd, Nat.reduceSub, Nat.reduceLeDiff, Nat.sub_zero, Nat.zero_add, List.append_nil, Bool.not_eq_eq_eq_not, decide_not, Bool.decide_eq_true, hlo, a, decide_true, b', hp, beq_self_eq_true]
    · simp only [Res.bind_ok, Res.bind_err, Res.bind_stuck, Res.toS_ok, Res.toS_err, fVar_z, fVar_s, fVar_s', fC_e, fBin_e, fNil_e, fCons_e, fCall_e, fCall0_e, fBi_e, fTup_e, mkTup_ok, fLst_e, mkLst_ok, mkLst_nil, fMut_e, mkMut_ok, fIf_e, fB_bin, fTru_e, tru_bl, tru_int, fNot_e, fAnd_e, fOr_e, fCh_e, fNeg_e, fNotV_e, sNil_e, sSeq_e, seq_nx', seq_rt', seq_err', seq_ct', seq_bk', sIf_e, sErr_e, sEx_e, sRt_e, sCt_e, sBk_e, sAsg_e, gNm_e, sPar_e, sPar3_e, gTp_tup, gsNil_e, gsCons_nm, sAug_z, ite_ok, ite_nx, ite_rt, ite_int, ite_bl, ite_str, ite_tup, ite_lst, ite_cons, ite_some, oAdd_i, oSub_i, oAddI_i, oSubI_i, oLt_i, oLe_i, oGt_i, oGe_i, oEq_i, oNe_i, oIs_non, oIsNot_non, bAbs_i, bMinA_i, bMaxA_i, bInt_i, bInt_b, bLen_t, bLen_l, bList_l, bList_t, bTuple_l, bTuple_t, lstOf_end, bTuple_end, isKind_end, set_end, fMt_e, sFor_e, iSeq_e, still_l, still_t, still_s, iRng_e, enmA_l, enmA_t, zppA_l, zppA_t, forD_nil, sWh_e, sized_ok, lc_e, gn_e, fSl_e, fNo_e, fSo_e, oSl_l, oSl_t, iSeqL_e, stillG_l, stillG_t, stillG_end, List.map_cons, List.map_nil, List.length_cons, List.length_nil, List.replicate, List.cons_append, List.nil_append, List.set_cons_zero, List.set_cons_succ, decide_eq_true_eq, Bool.not_eq_true, Bool.not_true, Bool.not_false, if_true, if_false, ite_self, Bool.false_eq_true, reduceIte, Nat.reduceAdd, Nat.reduceSub, Nat.reduceLeDiff, Nat.sub_zero, Nat.zero_add, List.append_nil, Bool.not_eq_eq_eq_not, decide_not, Bool.decide_eq_true, hlo, a, decide_false]
  refine seq_ex (ρ1 := (x0 :: some (.loc 0) :: some (.lst (rows.map .int)) :: some (.lst ((rows.map press).map .int)) :: none :: some (.lst ((rows.map gap).map .int)) :: some (.int code) :: none :: none :: none :: none :: none :: none :: none :: none :: none :: none :: none :: none :: none :: none :: none :: none :: none :: none :: none :: none :: none :: none :: none :: none :: none :: none :: none :: none :: none :: none :: none :: [])) (g1 := g2) (if_nil ((or_ff t3).trans t4)) ?_
  refine seq_ex (ρ1 := (x0 :: some (.loc 0) :: some (.lst (rows.map .int)) :: some (.lst ((rows.map press).map .int)) :: none :: some (.lst ((rows.map gap).map .int)) :: some (.int code) :: some (.int 0) :: some (.int 0) :: some (.lst []) :: some (.lst []) :: none :: none :: none :: none :: none :: none :: none :: none :: none :: none :: none :: none :: none :: none :: none :: none :: none :: none :: none :: none :: none :: none :: none :: none :: none :: none :: none :: [])) (g1 := g2) (by simp (disch := first | omega | (simp; done) | (simp; omega) | fail) only [Res.bind_ok, Res.bind_err, Res.bind_stuck, Res.toS_ok, Res.toS_err, fVar_z, fVar_s, fVar_s', fC_e, fBin_e, fNil_e, fCons_e, fCall_e, fCall0_e, fBi_e, fTup_e, mkTup_ok, fLst_e, mkLst_ok, mkLst_nil, fMut_e, mkMut_ok, fIf_e, fB_bin, fTru_e, tru_bl, tru_int, fNot_e, fAnd_e, fOr_e, fCh_e, fNeg_e, fNotV_e, sNil_e, sSeq_e, seq_nx', seq_rt', seq_err', seq_ct', seq_bk', sIf_e, sErr_e, sEx_e, sRt_e, sCt_e, sBk_e, sAsg_e, gNm_e, sPar_e, sPar3_e, gTp_tup, gsNil_e, gsCons_nm, sAug_z, ite_ok, ite_nx, ite_rt, ite_int, ite_bl, ite_str, ite_tup, ite_lst, ite_cons, ite_some, oAdd_i, oSub_i, oAddI_i, oSubI_i, oLt_i, oLe_i, oGt_i, oGe_i, oEq_i, oNe_i, oIs_non, oIsNot_non, bAbs_i, bMinA_i, bMaxA_i, bInt_i, bInt_b, bLen_t, bLen_l, bList_l, bList_t, bTuple_l, bTuple_t, lstOf_end, bTuple_end, isKind_end, set_end, fMt_e, sFor_e, iSeq_e, still_l, still_t, still_s, iRng_e, enmA_l, enmA_t, zppA_l, zppA_t, forD_nil, sWh_e, sized_ok, lc_e, gn_e, fSl_e, fNo_e, fSo_e, oSl_l, oSl_t, iSeqL_e, stillG_l, stillG_t, stillG_end, List.map_cons, List.map_nil, List.length_cons, List.length_nil, List.replicate, List.cons_append, List.nil_append, List.set_cons_zero, List.set_cons_succ, decide_eq_true_eq, Bool.not_eq_true, Bool.not_true, Bool.not_false, if_true, if_false, ite_self, Bool.false_eq_true, reduceIte, Nat.reduceAdd, Nat.reduceSub, Nat.reduceLeDiff, Nat.sub_zero, Nat.zero_add, List.append_nil, Bool.not_eq_eq_eq_not, decide_not, Bool.decide_eq_true, gTp_tup]) ?_
  obtain ⟨z7, z8, z4, z11, z12, el⟩ := line_loop g2 _ _ _ _ _ _ _ _ _ _ _ _ _ _ _ _ _ _ _ _ _ _ _ _ _ _ _ _ _ _ _ rows [] [] 0 0 none none none (by omega) (by simp; omega) (by simp; omega)
  refine seq_ex (ρ1 := (x0 :: some (.loc 0) :: some (.lst (rows.map .int)) :: some (.lst ((rows.map press).map .int)) :: z4 :: some (.lst ((rows.map gap).map .int)) :: some (.int code) :: z7 :: z8 :: some (.lst ((foll 0 0 rows).map .int)) :: some (.lst ((tells 0 0 (foll 0 0 rows)).map .int)) :: z11 :: z12 :: none :: none :: none :: none :: none :: none :: none :: none :: none :: none :: none :: none :: none :: none :: none :: none :: none :: none :: none :: none :: none :: none :: none :: none :: none :: [])) (g1 := g2) (by rw [sFor_e, iSeq_e]; simp only [fVar_z, fVar_s, fVar_s', Res.bind_ok, still_l, Res.toS_ok]; exact el) ?_
  have hfr : ∀ c ∈ foll 0 0 rows, 0 ≤ c ∧ c < 16 := foll_rng rows 0 0 (by omega)
  have hfl : (foll 0 0 rows).length ≤ 2000 := by rw [foll_len]; omega
  have hc16 : 0 ≤ code % 16 ∧ code % 16 < 16 := by omega
  have hs1 : ∀ g, F_step_on [.int 5, .int 3, .int (code % 16)] g = .ok (.tup [.int (fresh 5 3 (code % 16)), .int (spot' 3 (code % 16))]) g := fun g => step_on_spec 5 3 (code % 16) g (by omega) hc16
  have hs2 : ∀ g, F__law_step [.int 5, .int 3, .int (code % 16)] g = .ok (.tup [.int (fresh 5 3 (code % 16)), .int (spot' 3 (code % 16))]) g := fun g => law_step_spec 5 3 (code % 16) g (by omega) hc16
  have f1 := followed_spec rows g2 ho
  have f2 := fun g => unfollowed_spec (foll 0 0 rows) g hfr hfl
  have hm16 : ∀ g, oMod (.int code) (.int 16) g = .ok (.int (code % 16)) g := fun g => oMod_p (by omega)
  refine seq_ex (ρ1 := (x0 :: some (.loc 0) :: some (.lst (rows.map .int)) :: some (.lst ((rows.map press).map .int)) :: z4 :: some (.lst ((rows.map gap).map .int)) :: some (.int code) :: z7 :: z8 :: some (.lst ((foll 0 0 rows).map .int)) :: some (.lst ((tells 0 0 (foll 0 0 rows)).map .int)) :: z11 :: z12 :: none :: none :: none :: none :: none :: none :: none :: none :: none :: none :: none :: none :: none :: none :: none :: none :: none :: none :: none :: none :: none :: none :: none :: none :: none :: [])) (g1 := (g2 ++ [O.lst ((foll 0 0 rows).map .int)]) ++ [O.lst ((tells 0 0 (foll 0 0 rows)).map .int)]) (by simp (disch := first | omega | (simp; done) | (simp; omega) | fail) only [Res.bind_ok, Res.bind_err, Res.bind_stuck, Res.toS_ok, Res.toS_err, fVar_z, fVar_s, fVar_s', fC_e, fBin_e, fNil_e, fCons_e, fCall_e, fCall0_e, fBi_e, fTup_e, mkTup_ok, fLst_e, mkLst_ok, mkLst_nil, fMut_e, mkMut_ok, fIf_e, fB_bin, fTru_e, tru_bl, tru_int, fNot_e, fAnd_e, fOr_e, fCh_e, fNeg_e, fNotV_e, sNil_e, sSeq_e, seq_nx', seq_rt', seq_err', seq_ct', seq_bk', sIf_e, sErr_e, sEx_e, sRt_e, sCt_e, sBk_e, sAsg_e, gNm_e, sPar_e, sPar3_e, gTp_tup, gsNil_e, gsCons_nm, sAug_z, ite_ok, ite_nx, ite_rt, ite_int, ite_bl, ite_str, ite_tup, ite_lst, ite_cons, ite_some, oAdd_i, oSub_i, oAddI_i, oSubI_i, oLt_i, oLe_i, oGt_i, oGe_i, oEq_i, oNe_i, oIs_non, oIsNot_non, bAbs_i, bMinA_i, bMaxA_i, bInt_i, bInt_b, bLen_t, bLen_l, bList_l, bList_t, bTuple_l, bTuple_t, lstOf_end, bTuple_end, isKind_end, set_end, fMt_e, sFor_e, iSeq_e, still_l, still_t, still_s, iRng_e, enmA_l, enmA_t, zppA_l, zppA_t, forD_nil, sWh_e, sized_ok, lc_e, gn_e, fSl_e, fNo_e, fSo_e, oSl_l, oSl_t, iSeqL_e, stillG_l, stillG_t, stillG_end, List.map_cons, List.map_nil, List.length_cons, List.length_nil, List.replicate, List.cons_append, List.nil_append, List.set_cons_zero, List.set_cons_succ, decide_eq_true_eq, Bool.not_eq_true, Bool.not_true, Bool.not_false, if_true, if_false, ite_self, Bool.false_eq_true, reduceIte, Nat.reduceAdd, Nat.reduceSub, Nat.reduceLeDiff, Nat.sub_zero, Nat.zero_add, List.append_nil, Bool.not_eq_eq_eq_not, decide_not, Bool.decide_eq_true, f1, f2, neI, hm16, hs1, hs2, ne2]) ?_
  have hg3 := (hg2.app [O.lst ((foll 0 0 rows).map .int)]).app [O.lst ((tells 0 0 (foll 0 0 rows)).map .int)]
  generalize (g2 ++ [O.lst ((foll 0 0 rows).map .int)]) ++ [O.lst ((tells 0 0 (foll 0 0 rows)).map .int)] = g3 at hg3 ⊢
  refine seq_ex (ρ1 := (x0 :: some (.loc 0) :: some (.lst (rows.map .int)) :: some (.lst ((rows.map press).map .int)) :: z4 :: some (.lst ((rows.map gap).map .int)) :: some (.int code) :: z7 :: z8 :: some (.lst ((foll 0 0 rows).map .int)) :: some (.lst ((tells 0 0 (foll 0 0 rows)).map .int)) :: z11 :: z12 :: none :: none :: none :: none :: none :: none :: none :: none :: none :: none :: none :: none :: none :: none :: none :: none :: none :: none :: none :: none :: none :: none :: none :: none :: none :: [])) (g1 := g3) (by
    have e0 : ∀ g, oNe (.lst (rows.map .int)) (.lst []) g = .ok (.bl (!decide (rows = []))) g := fun g => oNe_il rows []
    by_cases hr0 : rows = []
    · have e1' : ∀ g, oNe (.lst (rows.map .int)) (.lst []) g = .ok (.bl false) g := fun g => by rw [e0, decide_eq_true hr0]; rfl
      simp (disch := first | omega | (simp; done) | (simp; omega) | fail) only [Res.bind_ok, Res.bind_err, Res.bind_stuck, Res.toS_ok, Res.toS_err, fVar_z, fVar_s, fVar_s', fC_e, fBin_e, fNil_e, fCons_e, fCall_e, fCall0_e, fBi_e, fTup_e, mkTup_ok, fLst_e, mkLst_ok, mkLst_nil, fMut_e, mkMut_ok, fIf_e, fB_bin, fTru_e, tru_bl, tru_int, fNot_e, fAnd_e, fOr_e, fCh_e, fNeg_e, fNotV_e, sNil_e, sSeq_e, seq_nx', seq_rt', seq_err', seq_ct', seq_bk', sIf_e, sErr_e, sEx_e, sRt_e, sCt_e, sBk_e, sAsg_e, gNm_e, sPar_e, sPar3_e, gTp_tup, gsNil_e, gsCons_nm, sAug_z, ite_ok, ite_nx, ite_rt, ite_int, ite_bl, ite_str, ite_tup, ite_lst, ite_cons, ite_some, oAdd_i, oSub_i, oAddI_i, oSubI_i, oLt_i, oLe_i, oGt_i, oGe_i, oEq_i, oNe_i, oIs_non, oIsNot_non, bAbs_i, bMinA_i, bMaxA_i, bInt_i, bInt_b, bLen_t, bLen_l, bList_l, bList_t, bTuple_l, bTuple_t, lstOf_end, bTuple_end, isKind_end, set_end, fMt_e, sFor_e, iSeq_e, still_l, still_t, still_s, iRng_e, enmA_l, enmA_t, zppA_l, zppA_t, forD_nil, sWh_e, sized_ok, lc_e, gn_e, fSl_e, fNo_e, fSo_e, oSl_l, oSl_t, iSeqL_e, stillG_l, stillG_t, stillG_end, List.map_cons, List.map_nil, List.length_cons, List.length_nil, List.replicate, List.cons_append, List.nil_append, List.set_cons_zero, List.set_cons_succ, decide_eq_true_eq, Bool.not_eq_true, Bool.not_true, Bool.not_false, if_true, if_false, ite_self, Bool.false_eq_true, reduceIte, Nat.reduceAdd, Nat.reduceSub, Nat.reduceLeDiff, Nat.sub_zero, Nat.zero_add, List.append_nil, Bool.not_eq_eq_eq_not, decide_not, Bool.decide_eq_true, e1']
    · have e1' : ∀ g, oNe (.lst (rows.map .int)) (.lst []) g = .ok (.bl true) g := fun g => by rw [e0, decide_eq_false hr0]; rfl
      have hln : (rows.length : Int) ≠ 0 := by have := List.length_pos_iff.mpr hr0; omega
      have c1 := fun (ρ : Env') (h : ρ.length = 38) => squares_c (g := g3) h ho
      have b1 := bSumA_l (g := g3) (rows.map fun x => x * x)
      have l1 := loudness_spec rows g3 ho hr0
      have l2 := law_share_spec (rows.map fun x => x * x).sum rows.length g3 hln (by omega)
      simp (disch := first | omega | (simp; done) | (simp; omega) | fail) only [Res.bind_ok, Res.bind_err, Res.bind_stuck, Res.toS_ok, Res.toS_err, fVar_z, fVar_s, fVar_s', fC_e, fBin_e, fNil_e, fCons_e, fCall_e, fCall0_e, fBi_e, fTup_e, mkTup_ok, fLst_e, mkLst_ok, mkLst_nil, fMut_e, mkMut_ok, fIf_e, fB_bin, fTru_e, tru_bl, tru_int, fNot_e, fAnd_e, fOr_e, fCh_e, fNeg_e, fNotV_e, sNil_e, sSeq_e, seq_nx', seq_rt', seq_err', seq_ct', seq_bk', sIf_e, sErr_e, sEx_e, sRt_e, sCt_e, sBk_e, sAsg_e, gNm_e, sPar_e, sPar3_e, gTp_tup, gsNil_e, gsCons_nm, sAug_z, ite_ok, ite_nx, ite_rt, ite_int, ite_bl, ite_str, ite_tup, ite_lst, ite_cons, ite_some, oAdd_i, oSub_i, oAddI_i, oSubI_i, oLt_i, oLe_i, oGt_i, oGe_i, oEq_i, oNe_i, oIs_non, oIsNot_non, bAbs_i, bMinA_i, bMaxA_i, bInt_i, bInt_b, bLen_t, bLen_l, bList_l, bList_t, bTuple_l, bTuple_t, lstOf_end, bTuple_end, isKind_end, set_end, fMt_e, sFor_e, iSeq_e, still_l, still_t, still_s, iRng_e, enmA_l, enmA_t, zppA_l, zppA_t, forD_nil, sWh_e, sized_ok, lc_e, gn_e, fSl_e, fNo_e, fSo_e, oSl_l, oSl_t, iSeqL_e, stillG_l, stillG_t, stillG_end, List.map_cons, List.map_nil, List.length_cons, List.length_nil, List.replicate, List.cons_append, List.nil_append, List.set_cons_zero, List.set_cons_succ, decide_eq_true_eq, Bool.not_eq_true, Bool.not_true, Bool.not_false, if_true, if_false, ite_self, Bool.false_eq_true, reduceIte, Nat.reduceAdd, Nat.reduceSub, Nat.reduceLeDiff, Nat.sub_zero, Nat.zero_add, List.append_nil, Bool.not_eq_eq_eq_not, decide_not, Bool.decide_eq_true, e1', c1, b1, l1, l2, ne2, List.length_map]) ?_
  exact turn2 ho hl _ _ _ _ _ _ _ _ _ _ _ _ _ _ _ _ _ _ _ _ _ _ _ _ _ _ _ _ _ _ _ _ _ _ _ _ hg3
end K05
end
section
set_option Elab.async false
set_option linter.all false
set_option maxRecDepth 100000
set_option maxHeartbeats 0
namespace K05
open PySem Dl
theorem big_err (g : G) : F_check_samples [.tup (List.replicate 2001 [D.int 0]).flatten] g = .err 2 g := by
  refine run_err (ρ := [some (.tup (List.replicate 2001 [D.int 0]).flatten), none]) ?_
  have l : bLen [.tup (List.replicate 2001 [D.int 0]).flatten] g = .ok (.int 2001) g := by kernel_rfl
  generalize (List.replicate 2001 [D.int 0]).flatten = xs at l ⊢
  simp only [Res.bind_ok, Res.bind_err, Res.bind_stuck, Res.toS_ok, Res.toS_err, fVar_z, fVar_s, fVar_s', fC_e, fBin_e, fNil_e, fCons_e, fCall_e, fCall0_e, fBi_e, fTup_e, mkTup_ok, fLst_e, mkLst_ok, mkLst_nil, fMut_e, mkMut_ok, fIf_e, fB_bin, fTru_e, tru_bl, tru_int, fNot_e, fAnd_e, fOr_e, fCh_e, fNeg_e, fNotV_e, sNil_e, sSeq_e, seq_nx', seq_rt', seq_err', seq_ct', seq_bk', sIf_e, sErr_e, sEx_e, sRt_e, sCt_e, sBk_e, sAsg_e, gNm_e, sPar_e, sPar3_e, gTp_tup, gsNil_e, gsCons_nm, sAug_z, ite_ok, ite_nx, ite_rt, ite_int, ite_bl, ite_str, ite_tup, ite_lst, ite_cons, ite_some, oAdd_i, oSub_i, oAddI_i, oSubI_i, oLt_i, oLe_i, oGt_i, oGe_i, oEq_i, oNe_i, oIs_non, oIsNot_non, bAbs_i, bMinA_i, bMaxA_i, bInt_i, bInt_b, bLen_t, bLen_l, bList_l, bList_t, bTuple_l, bTuple_t, lstOf_end, bTuple_end, isKind_end, set_end, fMt_e, sFor_e, iSeq_e, still_l, still_t, still_s, iRng_e, enmA_l, enmA_t, zppA_l, zppA_t, forD_nil, sWh_e, sized_ok, lc_e, gn_e, fSl_e, fNo_e, fSo_e, oSl_l, oSl_t, iSeqL_e, stillG_l, stillG_t, stillG_end, List.map_cons, List.map_nil, List.length_cons, List.length_nil, List.replicate, List.cons_append, List.nil_append, List.set_cons_zero, List.set_cons_succ, decide_eq_true_eq, Bool.not_eq_true, Bool.not_true, Bool.not_false, if_true, if_false, ite_self, Bool.false_eq_true, reduceIte, Nat.reduceAdd, Nat.reduceSub, Nat.reduceLeDiff, Nat.sub_zero, Nat.zero_add, List.append_nil, Bool.not_eq_eq_eq_not, decide_not, Bool.decide_eq_true, B_check_samples, l]
  rfl
theorem rep_ok (ρ : Env') (g : G) : (fCons (fBin oMulT (fTup (fCons (fC (.int 0)) fNil)) (fC (.int 2001))) fNil) ρ g = .ok [.tup (List.replicate 2001 [D.int 0]).flatten] g := by
  have e : (fBin oMulT (fTup (fCons (fC (.int 0)) fNil)) (fC (.int 2001))) ρ g = .ok (.tup (List.replicate 2001 [D.int 0]).flatten) g := by kernel_rfl
  exact cons_ok e rfl
theorem bad1 (ρ : Env') (g : G) : (fCall F_check_samples (fCons (fBin oMulT (fTup (fCons (fC (.int 0)) fNil)) (fC (.int 2001))) fNil)) ρ g = .err 2 g := by
  rw [call_ok (rep_ok ρ g)]; exact big_err g
/-- the look at all the plain ones, the long one left out -/
def isNx : RSt → Bool
  | .nx _ _ => true
  | _ => false
def chkB (okc : Nat → Bool) (f0 : FE) (fs : List FE) (r : FS) (ρ : Env') (g : G) : Bool :=
  match f0 ρ g with
  | .err c g1 => okc c && (match runBad okc fs ρ g1 with
    | some g2 => (match r ρ g2 with
      | .rt (.bl true) _ => true
      | _ => false)
    | none => false)
  | _ => false
theorem chkB_ok {okc : Nat → Bool} {f0 f1 : FE} {fs : List FE} {r : FS} {ρ : Env'} {g : G} (h : chkB okc f0 fs r ρ g = true) (h1 : ∀ ρ g, f1 ρ g = .err 2 g) (h2 : okc 2 = true) : ∃ g', sBad okc (f0 :: f1 :: fs) r ρ g = .rt (.bl true) g' := by
  unfold chkB at h
  split at h
  · rename_i c g1 e
    simp only [Bool.and_eq_true] at h
    obtain ⟨hc, h⟩ := h
    split at h
    · rename_i g2 e2
      split at h
      · rename_i g3 e3
        refine ⟨g3, ?_⟩
        unfold sBad runBad
        simp only [e, hc, if_true]
        unfold runBad
        simp only [h1, h2, if_true, e2, e3]
      · cases h
    · cases h
  · cases h
def chkA (okc : Nat → Bool) (a : FS) (f0 : FE) (fs : List FE) (r : FS) (ρ : Env') : Bool :=
  match a ρ [] with
  | .nx ρ1 g1 => chkB okc f0 fs r ((((ρ1.set 3 none).set 3 none).set 3 none).set 3 none) g1
  | _ => false
theorem plain_of {okc : Nat → Bool} {a r : FS} {f0 f1 : FE} {fs : List FE} (h : chkA okc a f0 fs r (List.replicate 7 none) = true) (h1 : ∀ ρ g, f1 ρ g = .err 2 g) (h2 : okc 2 = true) :
    ∃ g, runB 7 (sSeq a (sUn 3 (sUn 3 (sUn 3 (sUn 3 (sBad okc (f0 :: f1 :: fs) r)))))) [] [] = .ok (.bl true) g := by
  unfold chkA at h
  split at h
  · rename_i ρ1 g1 e
    obtain ⟨g', hb⟩ := chkB_ok h h1 h2
    refine ⟨g', run_rt ?_⟩
    show sSeq a _ (List.replicate 7 none) [] = _
    rw [seq_nx e]
    exact hb
  · cases h
theorem plain_ok : ∃ g, F__law_plain [] [] = .ok (.bl true) g := by
  unfold F__law_plain B__law_plain FL__law_plain
  exact plain_of (by decide +kernel) bad1 rfl
end K05
end
section
set_option Elab.async false
set_option linter.all false
set_option maxRecDepth 100000
set_option maxHeartbeats 0
namespace K05
open PySem Dl
theorem law_true (d : D) (ns0 : List Int) (h : scrD d ns0) : ∃ g, F_law [d] [] = .ok (.bl true) g := by
  obtain ⟨g0, hg0, e0⟩ := rounds_spec h
  obtain ⟨gp, ep⟩ := plain_ok
  obtain ⟨ρ', g', et, _⟩ := turn hg0 (some d)
  refine ⟨g', run_rt ?_⟩
  show B_law (some d :: none :: none :: none :: none :: none :: none :: none :: none :: none :: none :: none :: none :: none :: none :: none :: none :: none :: none :: none :: none :: none :: none :: none :: none :: none :: none :: none :: none :: none :: none :: none :: none :: none :: none :: none :: none :: none :: []) [] = _
  unfold B_law
  have e1 : iSeq (fCall F__law_rounds (fCons (fVar 0) (fCons (fC (.int 1)) fNil))) (some d :: none :: none :: none :: none :: none :: none :: none :: none :: none :: none :: none :: none :: none :: none :: none :: none :: none :: none :: none :: none :: none :: none :: none :: none :: none :: none :: none :: none :: none :: none :: none :: none :: none :: none :: none :: none :: none :: []) [] = .ok [.loc 0] g0 := by
    unfold iSeq
    rw [call_ok (cons_ok (d := d) (ds := [.int 1]) (g1 := []) (g2 := []) rfl rfl), e0]
    rfl
  have e2 : sFor (iSeq (fCall F__law_rounds (fCons (fVar 0) (fCons (fC (.int 1)) fNil)))) (gNm 1) W_law_4 (some d :: none :: none :: none :: none :: none :: none :: none :: none :: none :: none :: none :: none :: none :: none :: none :: none :: none :: none :: none :: none :: none :: none :: none :: none :: none :: none :: none :: none :: none :: none :: none :: none :: none :: none :: none :: none :: none :: []) [] = .nx ρ' g' := by
    rw [sFor_e, e1]
    show forD (gNm 1) W_law_4 [.loc 0] (some d :: none :: none :: none :: none :: none :: none :: none :: none :: none :: none :: none :: none :: none :: none :: none :: none :: none :: none :: none :: none :: none :: none :: none :: none :: none :: none :: none :: none :: none :: none :: none :: none :: none :: none :: none :: none :: none :: []) g0 = _
    rw [forD_turn (ρ1 := (some d :: some (.loc 0) :: none :: none :: none :: none :: none :: none :: none :: none :: none :: none :: none :: none :: none :: none :: none :: none :: none :: none :: none :: none :: none :: none :: none :: none :: none :: none :: none :: none :: none :: none :: none :: none :: none :: none :: none :: none :: [])) (g1 := g0) (ρ2 := ρ') (g2 := g') rfl et]
    rfl
  refine (seq_nx e2).trans (seq_rt (rt_ok ?_))
  unfold fCall0F
  rw [ep]
  rfl
end K05
end
section
set_option Elab.async false
set_option linter.all false
set_option maxRecDepth 100000
set_option maxHeartbeats 0
namespace K05
open PySem PySem.Spec PyProof.Rows L2 Dl
def tfs : List He.Defn := tq.map (·.1)
def exB (K : PySem.W.Frag) : Bool := decide ((tq.map fun p => He.tabOf K (He.codeOf K p.1)).Nodup) && csts.all fun p => cstOk K p.1 p.2
abbrev R : PySem.W.OpenRow := PySem.W.OpenLaw.row PySem.Challenge.rw_dialstack_k05_sounds_as_numbers
abbrev hk : PySem.W.Hook := He.hookX 4 fas fns [] tfs exB
def ob (s : PySem.W.SharedT) : He.AlX := He.obsX 4 fas fns [] tfs exB (HandSHeadRun.getT s)
theorem ob_eq (s : PySem.W.SharedT) : ob s = hk.obs s.abs := He.obsX_eq (HandSHeadRun.getT_eq s)
def lo : List Str := [("DialFault" : Str), ("ShareError" : Str), ("CodeError" : Str), ("share" : Str), ("MOST_SAMPLE" : Str), ("SAMPLE_STEPS" : Str), ("check_samples" : Str), ("pressed" : Str), ("opened" : Str), ("off_by" : Str), ("followed" : Str), ("step_on" : Str), ("unfollowed" : Str), ("loudness" : Str), ("quiet_short" : Str), ("long_again" : Str)] ++ [("with_echo" : Str), ("without_echo" : Str), ("echo_far" : Str), ("filled_in" : Str), ("_law_dice" : Str), ("_law_roll" : Str), ("_law_rounds" : Str), ("_law_told" : Str), ("_law_gcd" : Str), ("_law_share" : Str), ("_law_edges" : Str), ("_law_press" : Str), ("_law_open" : Str), ("_law_step" : Str), ("_law_echo" : Str), ("_law_draw" : Str), ("_law_plain" : Str)]
theorem run (w : World) : HandSHeadRun.RunEq R (PySem.W.view R.prog [37]) hk ob 3000 lo w := by
  intro os
  kernel_rfl
end K05
end
section
set_option Elab.async false
set_option linter.all false
set_option maxRecDepth 100000
set_option maxHeartbeats 0
open PySem PySem.W PySem.Calls PyProof.Rows
theorem PySem.Challenge.cw_dialstack_k05_sounds_as_numbers_holds : PySem.Challenge.rw_dialstack_k05_sounds_as_numbers.Holds := by
  w_on; o_law
  refine HandSHeadRun.head_any (r := OpenLaw.row PySem.Challenge.rw_dialstack_k05_sounds_as_numbers) (q := view (OpenLaw.row PySem.Challenge.rw_dialstack_k05_sounds_as_numbers).prog [37]) (H := K05.hk) (ob := K05.ob) (M := 3000) (loose := K05.lo) (d := HandSHeadRun.topDef (OpenLaw.row PySem.Challenge.rw_dialstack_k05_sounds_as_numbers).prog 37) (kwd := []) K05.ob_eq
    (by kernel_rfl) (fun s => by kernel_rfl) K05.run (by kernel_rfl) (by kernel_rfl) (by kernel_rfl) (by rfl) (by first | assumption | decide +kernel) (by decide +kernel) ⟨rfl, rfl, rfl, rfl, rfl, by decide +kernel⟩ ?hw ?hc
  case hw => w_witness2
  case hc =>
    refine LamX.walk_ofTsE (l := PySem.Challenge.rw_dialstack_k05_sounds_as_numbers) (n := 63) (k := 64) (x := "script") (CX := fun w => L2.CX (PySem.Challenge.rw_dialstack_k05_sounds_as_numbers).prog w) rfl (by decide) (by kernel_rfl) ⟨rfl, by decide, by decide⟩ ?F ?x
    case x =>
      intro w H s e s' h
      obtain ⟨_, _, _, _, _, _, _, _, _, _, _, _, z⟩ := h
      exact z
    intro w mg fa h Y G hmg0
    obtain ⟨K, KX, c⟩ := Y
    have hmg : mg ("law" : PySem.Str) = some (.ref fa) := by
      have e : (HandSHeadRun.topDef (OpenLaw.row PySem.Challenge.rw_dialstack_k05_sounds_as_numbers).prog 37).name = ("law" : PySem.Str) := by kernel_rfl
      rw [← e]
      exact hmg0
    have cd : He.SaysD K05.fas K05.fns K := c.t.d
    obtain ⟨fd, F⟩ := cd.defs (d := K05.dd "law" 37) (List.mem_of_getElem? (i := 28) rfl)
    have e := hmg.symm.trans (He.glo_ok KX G (cd.facts (f := .glo "law") (List.mem_of_getElem? (i := 28) rfl)))
    cases e
    have b := L2.FunD.bindsA (ps := ["script"]) F fun _ _ _ _ _ _ us hl => match us, hl with | [_], _ => rfl
    refine ⟨K, KX, fd, K05.tfs.map (He.cT K), Dl.spD (K05.cfg K) K 1 K05.F_law, fun p hp => ?_, fun p hp => ?_, fun p hp => ?_, fun s v => b s [v] rfl, fun H a ns hl _ hT hS => ?_, fun base kin hns htb => ?_⟩
    · obtain ⟨q, hq, rfl⟩ := List.mem_map.mp hp
      exact c.empty q hq
    · obtain ⟨q, hq, rfl⟩ := List.mem_map.mp hp
      exact c.out q hq
    · obtain ⟨q, hq, rfl⟩ := List.mem_map.mp hp
      exact codeHd_of_K KX (c.hd q hq)
    · refine Dl.spD_script (fun p hp => ?_) hS fun d hd => K05.law_true d ns hd
      obtain ⟨q, hq, rfl⟩ := List.mem_map.mp (show p ∈ Dl.tabsOf K05.tq K from hp)
      exact hT (He.cT K q.1) (List.mem_map.mpr ⟨q.1, List.mem_map.mpr ⟨q, hq, rfl⟩, rfl⟩)
    · have hm := Bool.and_eq_true_iff.mp c.more
      refine K05.Q_law ⟨kin, hns, cd, fun p hp => htb (He.cT K p.1) (List.mem_map.mpr ⟨p.1, List.mem_map.mpr ⟨p, hp, rfl⟩, rfl⟩), of_decide_eq_true hm.1, List.all_eq_true.mp hm.2⟩ F
end
